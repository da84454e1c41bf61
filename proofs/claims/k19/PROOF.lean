import PyProof.Rows.All
import Wide.All
import OpenK.AllK
import Wide.FinOn
import HandS.ForMost
import HandS.Wide
import HandS.TupAny
import HandS.Conv
import HandS.Deep
import HandS.Exc
import HandS.TryOnly
import HandS.ExcOwn
import HandS.WordsExc
import HandS.Style
import HandS.Flow
import HandS.ExcValue
import HandS.IsInst
import HandS.More
import HandS.EndBits
import HandS.SetFor
import HandS.Strs
import HandS.TupSets
import HandS.TupMul
import KE.GoesEnum
import KE.GoesMore
import HandS.Iter
import KE.SortData
import KE.DataMinMax
import HandS.WordsDict
import HandS.Flt
import HandS.Text
import HandS.RaiseMore
import KE.DataFind
import KE.KeyNested
import PyProof.WalksMore
import HandS.TryMany
import HandS.ExcField
import HandS.ExcInit
import HandS.Small
import KE.KExcSuper
import HandS.ExcIs
import KE.KExcIs
import PySem.Challenge.RW_pedalrows_k19_errors_and_their_classes
set_option Elab.async false
set_option linter.all false
set_option maxRecDepth 100000
set_option maxHeartbeats 2000000
set_option autoImplicit false
/-! Ped1: data over the abstract heap; the results; the judgements of denotational combinators -/
namespace Ped
open PySem L2

abbrev D := PyData

def isIn : D → Bool
  | .int _ => true
  | _ => false
/-- ints, one at least: such a tuple stands as a tuple of the heap; any other one is locked, and known to have no dict of its own -/
def inN (ds : List D) : Bool := !ds.isEmpty && ds.all isIn
mutual
/-- v is the data d, of things that nobody changes any more (F: the frozen part of the heap) -/
inductive Rp (K : PySem.W.Frag) (F : Hp) : V → D → Prop
  | non : Rp K F .non .none
  | bl (b : Bool) : Rp K F (.bl b) (.bool b)
  | int (i : Int) : Rp K F (.int i) (.int i)
  | str (x : Str) : Rp K F (.str x) (.str x)
  | lst {a : Addr} {xs : List V} {ds : List D} : F a = some (.lst xs) → RpA K F xs ds → Rp K F (.ref a) (.list ds)
  | tup {a : Addr} {xs : List V} {ds : List D} : inN ds = true → F a = some (.tup xs) → RpA K F xs ds → Rp K F (.ref a) (.tuple ds)
  | tun {a : Addr} {xs : List V} {ds : List D} {o : Obj} : inN ds = false → F a = some (.frz o (.tup xs)) → o.dict = none → RpA K F xs ds → Rp K F (.ref a) (.tuple ds)
inductive RpA (K : PySem.W.Frag) (F : Hp) : List V → List D → Prop
  | nil : RpA K F [] []
  | cons {v : V} {vs : List V} {d : D} {ds : List D} : Rp K F v d → RpA K F vs ds → RpA K F (v :: vs) (d :: ds)
end

def Sb (F F' : Hp) : Prop := ∀ a o, F a = some o → F' a = some o
theorem Sb.refl (F : Hp) : Sb F F := fun _ _ h => h
theorem Sb.trans {F G H : Hp} (a : Sb F G) (b : Sb G H) : Sb F H := fun x o h => b x o (a x o h)
theorem sb_rd {F F' : Hp} (e : Sb F F') {a : Addr} {u : HO} (h : Rd F a u) : Rd F' a u := by
  rcases h with h | ⟨o, h⟩
  · exact .inl (e a _ h)
  · exact .inr ⟨o, e a _ h⟩
theorem sb_t {K : PySem.W.Frag} {F F' : Hp} (e : Sb F F') {a : Addr} {xs : List V} (h : SqT K F a xs) : SqT K F' a xs := by
  rcases h with h | h
  · exact .inl (sb_rd e h)
  · exact .inr h
theorem sb_l {K : PySem.W.Frag} {F F' : Hp} (e : Sb F F') {a : Addr} {xs : List V} (h : SqL K F a xs) : SqL K F' a xs := by
  rcases h with h | h
  · exact .inl (sb_rd e h)
  · exact .inr h
section
variable {K : PySem.W.Frag} {F F' : Hp}
mutual
theorem Rp.mono (e : Sb F F') : ∀ (d : D) (v : V), Rp K F v d → Rp K F' v d
  | .none, _, h => by cases h; exact .non
  | .bool b, _, h => by cases h; exact .bl b
  | .int i, _, h => by cases h; exact .int i
  | .str x, _, h => by cases h; exact .str x
  | .list ds, _, h => by
    cases h with
    | lst hs ha => exact .lst (e _ _ hs) (RpA.mono e ds _ ha)
  | .tuple ds, _, h => by
    cases h with
    | tup hi hs ha => exact .tup hi (e _ _ hs) (RpA.mono e ds _ ha)
    | tun hi hs hd ha => exact .tun hi (e _ _ hs) hd (RpA.mono e ds _ ha)
  | .dict _, _, h => by cases h
theorem RpA.mono (e : Sb F F') : ∀ (ds : List D) (vs : List V), RpA K F vs ds → RpA K F' vs ds
  | [], _, h => by cases h; exact .nil
  | d :: ds, _, h => by
    cases h with
    | cons h1 h2 => exact .cons (Rp.mono e d _ h1) (RpA.mono e ds _ h2)
end
mutual
theorem Rp.dp (e : Sb F F') : ∀ (d : D) (v : V), Rp K F v d → Dp K F' v d
  | .none, _, h => by cases h; exact .non
  | .bool b, _, h => by cases h; exact .bl b
  | .int i, _, h => by cases h; exact .int i
  | .str x, _, h => by cases h; exact .str x
  | .list ds, _, h => by
    cases h with
    | lst hs ha => exact .lst (.inl (.inl (e _ _ hs))) (RpA.dp e ds _ ha)
  | .tuple ds, _, h => by
    cases h with
    | tup _ hs ha => exact .tup (.inl (.inl (e _ _ hs))) (RpA.dp e ds _ ha)
    | tun _ hs _ ha => exact .tup (.inl (.inr ⟨_, e _ _ hs⟩)) (RpA.dp e ds _ ha)
  | .dict _, _, h => by cases h
theorem RpA.dp (e : Sb F F') : ∀ (ds : List D) (vs : List V), RpA K F vs ds → DpAll K F' vs ds
  | [], _, h => by cases h; exact .nil
  | d :: ds, _, h => by
    cases h with
    | cons h1 h2 => exact .cons (Rp.dp e d _ h1) (RpA.dp e ds _ h2)
end
theorem RpA.len : ∀ {vs : List V} {ds : List D}, RpA K F vs ds → vs.length = ds.length
  | _, _, .nil => rfl
  | _, _, .cons _ t => by simp [RpA.len t]
theorem RpA.get : ∀ {vs : List V} {ds : List D} {i : Nat} {d : D}, RpA K F vs ds → ds[i]? = some d → ∃ v, vs[i]? = some v ∧ Rp K F v d
  | _, _, _, _, .nil, e => by simp at e
  | _, _, 0, _, .cons r _, e => by simp at e; subst e; exact ⟨_, rfl, r⟩
  | _, _, i + 1, d, .cons _ t, e => by
    obtain ⟨v, h1, h2⟩ := RpA.get (i := i) (d := d) t (by simpa using e)
    exact ⟨v, by simpa using h1, h2⟩
theorem RpA.append : ∀ {xs ys : List V} {us ws : List D}, RpA K F xs us → RpA K F ys ws → RpA K F (xs ++ ys) (us ++ ws)
  | _, _, _, _, .nil, s => s
  | _, _, _, _, .cons r t, s => .cons r (RpA.append t s)
theorem RpA.take : ∀ {xs : List V} {us : List D} (n : Nat), RpA K F xs us → RpA K F (xs.take n) (us.take n)
  | _, _, 0, _ => by simpa using RpA.nil
  | _, _, n + 1, .nil => .nil
  | _, _, n + 1, .cons r t => .cons r (RpA.take n t)
theorem RpA.drop : ∀ {xs : List V} {us : List D} (n : Nat), RpA K F xs us → RpA K F (xs.drop n) (us.drop n)
  | _, _, 0, r => r
  | _, _, n + 1, .nil => .nil
  | _, _, n + 1, .cons _ t => RpA.drop n t
theorem RpA.reverse {xs : List V} {us : List D} (h : RpA K F xs us) : RpA K F xs.reverse us.reverse := by
  induction us generalizing xs with
  | nil => cases h; exact .nil
  | cons d ds ih =>
    cases h with
    | cons r t =>
      rw [List.reverse_cons, List.reverse_cons]
      exact (ih t).append (.cons r .nil)
theorem RpA.rep {xs : List V} {us : List D} (h : RpA K F xs us) : ∀ k : Nat, RpA K F (List.replicate k xs).flatten (List.replicate k us).flatten
  | 0 => .nil
  | k + 1 => by
    rw [List.replicate_succ, List.replicate_succ, List.flatten_cons, List.flatten_cons]
    exact h.append (RpA.rep h k)
theorem RpA.ints : ∀ (ns : List Int), RpA K F (ns.map V.int) (ns.map PyData.int)
  | [] => .nil
  | n :: r => .cons (.int n) (RpA.ints r)
theorem RpA.strs : ∀ (ns : List Str), RpA K F (ns.map V.str) (ns.map PyData.str)
  | [] => .nil
  | n :: r => .cons (.str n) (RpA.strs r)
theorem RpA.nil_iff {xs : List V} {ds : List D} (r : RpA K F xs ds) : ds = [] ↔ xs = [] := by
  cases r <;> simp
end

/-- the ints that a list of data is -/
def toInts : List D → Option (List Int)
  | [] => some []
  | .int i :: r => (toInts r).map (i :: ·)
  | _ => none
theorem toInts_map : ∀ (ns : List Int), toInts (ns.map PyData.int) = some ns
  | [] => rfl
  | n :: r => by simp [toInts, toInts_map r]
theorem toInts_eq : ∀ {ds : List D} {ns : List Int}, toInts ds = some ns → ds = ns.map PyData.int
  | [], ns, h => by simp [toInts] at h; subst h; rfl
  | d :: r, ns, h => by
    cases d <;> simp [toInts] at h
    case int i =>
      obtain ⟨ms, h1, h2⟩ := h
      subst h2
      rw [toInts_eq h1]
      rfl
def toBools : List D → Option (List Bool)
  | [] => some []
  | .bool i :: r => (toBools r).map (i :: ·)
  | _ => none
theorem toBools_map : ∀ (ns : List Bool), toBools (ns.map PyData.bool) = some ns
  | [] => rfl
  | n :: r => by simp [toBools, toBools_map r]
theorem toBools_eq : ∀ {ds : List D} {ns : List Bool}, toBools ds = some ns → ds = ns.map PyData.bool
  | [], ns, h => by simp [toBools] at h; subst h; rfl
  | d :: r, ns, h => by
    cases d <;> simp [toBools] at h
    case bool i =>
      obtain ⟨ms, h1, h2⟩ := h
      subst h2
      rw [toBools_eq h1]
      rfl
theorem rpA_ints {K : PySem.W.Frag} {F : Hp} : ∀ {ns : List Int} {vs : List V}, RpA K F vs (ns.map PyData.int) → vs = ns.map V.int
  | [], _, h => by cases h; rfl
  | n :: r, _, h => by
    cases h with
    | cons h1 h2 =>
      cases h1
      rw [rpA_ints h2]
      rfl
theorem rpA_bools {K : PySem.W.Frag} {F : Hp} : ∀ {ns : List Bool} {vs : List V}, RpA K F vs (ns.map PyData.bool) → vs = ns.map V.bl
  | [], _, h => by cases h; rfl
  | n :: r, _, h => by
    cases h with
    | cons h1 h2 =>
      cases h1
      rw [rpA_bools h2]
      rfl

/-- what a name or an argument holds: data, or a thing of the store (by number) -/
inductive Wv where
  | d (x : D)
  | l (n : Nat)
  /-- the script: a list of ints that is only read -/
  | s (ns : List Int)
  /-- an own error held as a value: its class by name, its fields -/
  | e (C : Str) (fs : List (Str × D))
/-- a thing of the store -/
inductive Ob where
  | dead
  | lst (ws : List Wv)
  | dk (kvs : List (Key × Wv))
  /-- a dict that is walked just now -/
  | lk (kvs : List (Key × Wv))
  | dt (kvs : List (List Key × Wv))
  /-- an instance of the class of that name -/
  | ins (C : Str) (fs : List (Str × Wv))

abbrev Sto := List Ob
/-- what a name of the program's top holds -/
def clsV (K : PySem.W.Frag) (x : Str) : Value := match PySem.W.nsIn K mainGlobals x with
  | some (some v) => v
  | _ => .none
/-- an exception: its class by name, its fields -/
structure Exn where
  cls : Str
  fs : List (Str × Wv) := []

/-- a result: a value and the store behind it; an exception; stuck -/
inductive Rs (α : Type) where
  | ok (a : α) (μ : Sto)
  | ex (x : Exn) (μ : Sto)
  | no
def Rs.bind {α β : Type} (r : Rs α) (k : α → Sto → Rs β) : Rs β := match r with
  | .ok a μ => k a μ
  | .ex x μ => .ex x μ
  | .no => .no
def Rs.Post {α : Type} (r : Rs α) (P : α → Sto → Prop) (E : Exn → Sto → Prop) : Prop := match r with
  | .ok a μ => P a μ
  | .ex x μ => E x μ
  | .no => False
@[simp] theorem Rs.bind_ok {α β : Type} (a : α) (μ : Sto) (k : α → Sto → Rs β) : (Rs.ok a μ).bind k = k a μ := rfl
@[simp] theorem Rs.bind_ex {α β : Type} (x : Exn) (μ : Sto) (k : α → Sto → Rs β) : (Rs.ex x μ : Rs α).bind k = .ex x μ := rfl
@[simp] theorem Rs.bind_no {α β : Type} (k : α → Sto → Rs β) : (Rs.no : Rs α).bind k = .no := rfl
theorem Rs.post_bind {α β : Type} {r : Rs α} {k : α → Sto → Rs β} {P : β → Sto → Prop} {E : Exn → Sto → Prop} : (r.bind k).Post P E ↔ r.Post (fun a μ => (k a μ).Post P E) E := by
  cases r <;> exact Iff.rfl
theorem Rs.Post.mono {α : Type} {r : Rs α} {P P' : α → Sto → Prop} {E E' : Exn → Sto → Prop} (h : r.Post P E) (hp : ∀ a μ, P a μ → P' a μ) (he : ∀ x μ, E x μ → E' x μ) : r.Post P' E' := by
  cases r with
  | ok a μ => exact hp a μ h
  | ex x μ => exact he x μ h
  | no => exact h.elim
def Rs.ofOpt {α : Type} (o : Option α) (μ : Sto) : Rs α := match o with
  | some a => .ok a μ
  | none => .no
@[simp] theorem Rs.ofOpt_some {α : Type} (a : α) (μ : Sto) : Rs.ofOpt (some a) μ = .ok a μ := rfl
@[simp] theorem Rs.ofOpt_none {α : Type} (μ : Sto) : Rs.ofOpt (none : Option α) μ = .no := rfl

/-- an exception is not wanted here -/
def noex {α : Type} (r : Rs α) : Rs α := match r with
  | .ex _ _ => .no
  | r => r
@[simp] theorem noex_ok {α : Type} (a : α) (μ : Sto) : noex (.ok a μ) = .ok a μ := rfl
@[simp] theorem noex_no {α : Type} : noex (.no : Rs α) = .no := rfl
theorem noex_post {α : Type} {r : Rs α} {P : α → Sto → Prop} {E E' : Exn → Sto → Prop} (h : (noex r).Post P E) : r.Post P E' := by
  cases r with
  | ok a μ => exact h
  | ex x μ => exact h.elim
  | no => exact h

/-- the state of a proof: the heap, its frozen part, where the things of the store lie -/
structure Sta where
  H : Hp
  F : Hp
  L : List Addr
structure Ext (S S' : Sta) : Prop where
  sb : Sb S.F S'.F
  pf : ∀ (n : Nat) (a : Addr), S.L[n]? = some a → S'.L[n]? = some a
  /-- what is tracked and no thing of the store stays as it is -/
  fr : ∀ a o, S.H a = some o → a ∉ S.L → S'.H a = some o
  th : ∀ a o, S.H a = some o → ∃ o', S'.H a = some o'
  nl : ∀ a, a ∈ S'.L → a ∈ S.L ∨ S.H a = none
  nf : ∀ a, S'.F a ≠ none → S.F a ≠ none ∨ S.H a = none ∨ a ∈ S.L
  /-- what is locked stays as it is -/
  fz : ∀ a o u, S.H a = some (.frz o u) → S'.H a = some (.frz o u)
theorem Ext.refl (S : Sta) : Ext S S := ⟨Sb.refl _, fun _ _ h => h, fun _ _ h _ => h, fun _ o h => ⟨o, h⟩, fun _ h => .inl h, fun _ h => .inl h, fun _ _ _ h => h⟩
theorem Ext.out {S S' : Sta} (e : Ext S S') {a : Addr} {o : HO} (h : S.H a = some o) (hn : a ∉ S.L) : a ∉ S'.L := fun z => by
  rcases e.nl a z with q | q
  · exact hn q
  · rw [h] at q; cases q
theorem Ext.un {S S' : Sta} (e : Ext S S') {a : Addr} (h : S'.H a = none) : S.H a = none := by
  cases q : S.H a with
  | none => rfl
  | some o =>
    obtain ⟨o', z⟩ := e.th a o q
    rw [h] at z; cases z
theorem Ext.trans {S T U : Sta} (a : Ext S T) (b : Ext T U) : Ext S U := by
  refine ⟨a.sb.trans b.sb, fun n x h => b.pf n x (a.pf n x h), fun x o h hn => b.fr x o (a.fr x o h hn) (a.out h hn), fun x o h => ?_, fun x h => ?_, fun x h => ?_, fun x o u h => b.fz x o u (a.fz x o u h)⟩
  · obtain ⟨o', z⟩ := a.th x o h
    exact b.th x o' z
  · rcases b.nl x h with q | q
    · exact a.nl x q
    · exact .inr (a.un q)
  · rcases b.nf x h with q | q | q
    · exact a.nf x q
    · exact .inr (.inl (a.un q))
    · rcases a.nl x q with q | q
      · exact .inr (.inr q)
      · exact .inr (.inl q)

/-- an exception object that has a dict of its own -/
def ExD (cls : Value) (d a : Addr) : HO := .ext fun h => ∃ (oe : Obj) (vs : Array Value), h.get? a = some oe ∧ Zc cls (some d) oe ∧ oe.data = .fields vs
theorem exD_ok {P : Program} {w : World} {H : Hp} {h : Heap} {a d : Addr} {cls : Value} {oe : Obj} {vs : Array Value} (e : h.get? a = some oe) (z : Zc cls (some d) oe) (q : oe.data = .fields vs) : ObjOk P w H h a (ExD cls d a) :=
  ⟨⟨oe, vs, e, z, q⟩, ⟨oe, e⟩, fun _ _ ⟨o, v, q, r⟩ k => ⟨o, v, k o q, r⟩⟩
def RpF (K : PySem.W.Frag) (F : Hp) : List (Str × V) → List (Str × D) → Prop := Paired fun p q => p.1 = q.1 ∧ Rp K F p.2 q.2
theorem RpF.mono {K : PySem.W.Frag} {F F' : Hp} (e : Sb F F') : ∀ {vs : List (Str × V)} {fs : List (Str × D)}, RpF K F vs fs → RpF K F' vs fs
  | _, _, .nil => .nil
  | _, _, .cons r t => .cons ⟨r.1, Rp.mono e _ _ r.2⟩ (RpF.mono e t)
/-- an own error as a value -/
def RE (K : PySem.W.Frag) (F : Hp) (v : V) (C : Str) (fs : List (Str × D)) : Prop := ∃ a Ca, v = .ref a ∧ clsV K C = .ref Ca ∧ ((fs = [] ∧ F a = some (ExO (.ref Ca) a)) ∨ ∃ d vs, F a = some (ExD (.ref Ca) d a) ∧ F d = some (.xd vs) ∧ RpF K F vs fs)
theorem RE.mono {K : PySem.W.Frag} {F F' : Hp} (e : Sb F F') {v : V} {C : Str} {fs : List (Str × D)} (h : RE K F v C fs) : RE K F' v C fs := by
  obtain ⟨a, Ca, h1, h2, h3⟩ := h
  refine ⟨a, Ca, h1, h2, ?_⟩
  rcases h3 with ⟨h3, h4⟩ | ⟨d, vs, h3, h4, h5⟩
  · exact .inl ⟨h3, e _ _ h4⟩
  · exact .inr ⟨d, vs, e _ _ h3, e _ _ h4, h5.mono e⟩
def RW (K : PySem.W.Frag) (S : Sta) (v : V) : Wv → Prop
  | .d x => Rp K S.F v x
  | .l n => ∃ a, S.L[n]? = some a ∧ v = .ref a
  | .s ns => ∃ a, SqL K S.F a (ns.map V.int) ∧ v = .ref a
  | .e C fs => RE K S.F v C fs
structure Grow (S S' : Sta) : Prop where
  sb : Sb S.F S'.F
  pf : ∀ (n : Nat) (a : Addr), S.L[n]? = some a → S'.L[n]? = some a
theorem Ext.gr {S S' : Sta} (e : Ext S S') : Grow S S' := ⟨e.sb, e.pf⟩
theorem RW.gr {K : PySem.W.Frag} {S S' : Sta} (e : Grow S S') {v : V} : ∀ {w : Wv}, RW K S v w → RW K S' v w
  | .d x, h => Rp.mono e.sb x v h
  | .l n, ⟨a, h, hv⟩ => ⟨a, e.pf n a h, hv⟩
  | .s n, ⟨a, h, hv⟩ => ⟨a, sb_l e.sb h, hv⟩
  | .e _ _, h => RE.mono e.sb h
theorem RW.mono {K : PySem.W.Frag} {S S' : Sta} (e : Ext S S') {v : V} {w : Wv} (h : RW K S v w) : RW K S' v w := h.gr e.gr
abbrev RWs (K : PySem.W.Frag) (S : Sta) : List V → List Wv → Prop := Paired (RW K S)
theorem RWs.gr {K : PySem.W.Frag} {S S' : Sta} (e : Grow S S') : ∀ {vs : List V} {ws : List Wv}, RWs K S vs ws → RWs K S' vs ws
  | _, _, .nil => .nil
  | _, _, .cons r t => .cons (r.gr e) (RWs.gr e t)
theorem RWs.mono {K : PySem.W.Frag} {S S' : Sta} (e : Ext S S') {vs : List V} {ws : List Wv} (h : RWs K S vs ws) : RWs K S' vs ws := h.gr e.gr
def RKv {κ : Type} (K : PySem.W.Frag) (S : Sta) : List (κ × V) → List (κ × Wv) → Prop := Paired fun p q => p.1 = q.1 ∧ RW K S p.2 q.2
theorem RKv.gr {κ : Type} {K : PySem.W.Frag} {S S' : Sta} (e : Grow S S') : ∀ {vs : List (κ × V)} {ws : List (κ × Wv)}, RKv K S vs ws → RKv K S' vs ws
  | _, _, .nil => .nil
  | _, _, .cons r t => .cons ⟨r.1, r.2.gr e⟩ (RKv.gr e t)
theorem RKv.mono {κ : Type} {K : PySem.W.Frag} {S S' : Sta} (e : Ext S S') {vs : List (κ × V)} {ws : List (κ × Wv)} (h : RKv K S vs ws) : RKv K S' vs ws := h.gr e.gr

/-- the thing at a is what the store says -/
def ObR (K : PySem.W.Frag) (S : Sta) (a : Addr) : Ob → Prop
  | .dead => True
  | .lst ws => ∃ vs, S.H a = some (.lst vs) ∧ RWs K S vs ws
  | .dk kvs => ∃ vs, S.H a = some (.dK vs) ∧ RKv K S vs kvs
  | .lk kvs => ∃ od vs, S.H a = some (.frz od (.dK vs)) ∧ RKv K S vs kvs
  | .dt kvs => ∃ vs, S.H a = some (.dT vs) ∧ RKv K S vs kvs
  | .ins C fs => ∃ Ca dx vs, clsV K C = .ref Ca ∧ S.H a = some (.ins Ca dx vs) ∧ RKv K S vs fs
structure HS (K : PySem.W.Frag) (S : Sta) (μ : Sto) : Prop where
  sub : Sb S.F S.H
  len : S.L.length = μ.length
  nd : S.L.Nodup
  tr : ∀ (n : Nat) (a : Addr), S.L[n]? = some a → ∃ o, S.H a = some o
  lv : ∀ (n : Nat) (a : Addr) (ob : Ob), S.L[n]? = some a → μ[n]? = some ob → ob ≠ .dead → S.F a = none
  ob : ∀ (n : Nat) (a : Addr) (ob : Ob), S.L[n]? = some a → μ[n]? = some ob → ObR K S a ob

/-- the names' values (none: not told) -/
abbrev Env := List (Option Wv)
structure EnvR (K : PySem.W.Frag) (n : Nat) (S : Sta) (env : Env) (σ : L2.St) : Prop where
  len : env.length = n
  lenS : σ.length = n
  val : ∀ (i : Nat) (w : Wv), env[i]? = some (some w) → ∃ v, σ[i]? = some (some v) ∧ RW K S v w
theorem EnvR.mono {K : PySem.W.Frag} {n : Nat} {S S' : Sta} (e : Ext S S') {env : Env} {σ : L2.St} (h : EnvR K n S env σ) : EnvR K n S' env σ := ⟨h.len, h.lenS, fun i w hw => by
  obtain ⟨v, h1, h2⟩ := h.val i w hw
  exact ⟨v, h1, h2.mono e⟩⟩

/-- an exception's own dict -/
def ExR (K : PySem.W.Frag) (S : Sta) (x : Exn) (d : Option Addr) : Prop := match d with
  | none => x.fs = []
  | some a => ∃ vs, S.H a = some (.xd vs) ∧ RKv K S vs x.fs

/-- what is wished of a value, of an exception -/
abbrev POk (K : PySem.W.Frag) (S : Sta) (Q : VK) : Wv → Sto → Prop := fun w μ => ∀ v S', Ext S S' → HS K S' μ → RW K S' v w → Q v S'.H
abbrev PEx (K : PySem.W.Frag) (W : WX) (σ : L2.St) (S : Sta) : Exn → Sto → Prop := fun x μ => ∀ d S', Ext S S' → HS K S' μ → ExR K S' x d → W (clsV K x.cls) d σ S'.H
theorem PEx.mono {K : PySem.W.Frag} {W : WX} {σ : L2.St} {S S' : Sta} (e : Ext S S') {x : Exn} {μ : Sto} (h : PEx K W σ S x μ) : PEx K W σ S' x μ := fun d T e' hs r => h d T (e.trans e') hs r

abbrev FE := Env → Sto → Rs Wv
abbrev FB := Env → Sto → Rs Bool
abbrev FA := Env → Sto → Rs (List Wv)

/-- e evaluates as f says -/
def CEx (X : Cx) (W : WX) (e : Expr) (f : FE) : Prop := ∃ t : TE, PE X e t ∧ ∀ env σ S μ, EnvR X.K X.N.length S env σ → HS X.K S μ → ∀ Q : VK, (f env μ).Post (POk X.K S Q) (PEx X.K W σ S) → t σ S.H Q
def CT (X : Cx) (W : WX) (e : Expr) (f : FB) : Prop := ∃ t : TT, PT X e t ∧ ∀ env σ S μ, EnvR X.K X.N.length S env σ → HS X.K S μ → ∀ Q : Bool → Hp → Prop, (f env μ).Post (fun b μ' => ∀ S', Ext S S' → HS X.K S' μ' → Q b S'.H) (PEx X.K W σ S) → t σ S.H Q
def CW (X : Cx) (W : WX) (e : Expr) (f : FB) : Prop := ∃ t : TT, PW X e t ∧ ∀ env σ S μ, EnvR X.K X.N.length S env σ → HS X.K S μ → ∀ Q : Bool → Hp → Prop, (f env μ).Post (fun b μ' => ∀ S', Ext S S' → HS X.K S' μ' → Q b S'.H) (PEx X.K W σ S) → t σ S.H Q
def CA (X : Cx) (W : WX) (es : List Expr) (f : FA) : Prop := ∃ t : TA, PA X es t ∧ ∀ env σ S μ, EnvR X.K X.N.length S env σ → HS X.K S μ → ∀ Q : List V → Hp → Prop, (f env μ).Post (fun ws μ' => ∀ vs S', Ext S S' → HS X.K S' μ' → RWs X.K S' vs ws → Q vs S'.H) (PEx X.K W σ S) → t σ S.H Q

section
variable {X : Cx} {W : WX}

/-! ### laying frozen things -/
def Sta.lay (S : Sta) (p : Addr) (o : HO) : Sta := ⟨upd S.H p o, upd S.F p o, S.L⟩
theorem HS.free {K : PySem.W.Frag} {S : Sta} {μ : Sto} (h : HS K S μ) {p : Addr} (hp : S.H p = none) : S.F p = none := by
  cases e : S.F p with
  | none => rfl
  | some o => have := h.sub p o e; rw [hp] at this; cases this
theorem Ext.lay {S : Sta} (hs : Sb S.F S.H) {p : Addr} {o : HO} (hp : S.H p = none) : Ext S (S.lay p o) := by
  have hf : S.F p = none := by
    cases e : S.F p with
    | none => rfl
    | some o => have := hs p o e; rw [hp] at this; cases this
  refine ⟨fun a u e => ?_, fun _ _ h => h, fun a u e _ => ?_, fun a u e => ⟨u, ?_⟩, fun _ h => .inl h, fun a h => ?_, fun a u x e => (upd_ne (ne_of_none e hp)).trans e⟩
  · show upd S.F p o a = some u
    rw [upd_ne (ne_of_none e hf)]
    exact e
  · show upd S.H p o a = some u
    rw [upd_ne (ne_of_none e hp)]
    exact e
  · show upd S.H p o a = some u
    rw [upd_ne (ne_of_none e hp)]
    exact e
  · by_cases hb : a = p
    · exact .inr (.inl (by rw [hb]; exact hp))
    · have h : upd S.F p o a ≠ none := h
      rw [upd_ne hb] at h
      exact .inl h
theorem ObR.there {K : PySem.W.Frag} {S : Sta} {a : Addr} {ob : Ob} (h : ObR K S a ob) (hd : ob ≠ .dead) : ∃ o, S.H a = some o := by
  cases ob with
  | dead => exact absurd rfl hd
  | lst ws => obtain ⟨vs, e, _⟩ := h; exact ⟨_, e⟩
  | dk ws => obtain ⟨vs, e, _⟩ := h; exact ⟨_, e⟩
  | lk ws => obtain ⟨_, vs, e, _⟩ := h; exact ⟨_, e⟩
  | dt ws => obtain ⟨vs, e, _⟩ := h; exact ⟨_, e⟩
  | ins C fs => obtain ⟨_, _, vs, _, e, _⟩ := h; exact ⟨_, e⟩
/-- a thing whose place is left alone stays what it is -/
theorem ObR.stayG {K : PySem.W.Frag} {S S' : Sta} (e : Grow S S') {a : Addr} {ob : Ob} (h : ObR K S a ob) (hk : ∀ o, S.H a = some o → S'.H a = some o) : ObR K S' a ob := by
  cases ob with
  | dead => trivial
  | lst ws => obtain ⟨vs, h1, h2⟩ := h; exact ⟨vs, hk _ h1, h2.gr e⟩
  | dk ws => obtain ⟨vs, h1, h2⟩ := h; exact ⟨vs, hk _ h1, h2.gr e⟩
  | lk ws => obtain ⟨od, vs, h1, h2⟩ := h; exact ⟨od, vs, hk _ h1, h2.gr e⟩
  | dt ws => obtain ⟨vs, h1, h2⟩ := h; exact ⟨vs, hk _ h1, h2.gr e⟩
  | ins C fs => obtain ⟨Ca, dx, vs, hc, h1, h2⟩ := h; exact ⟨Ca, dx, vs, hc, hk _ h1, h2.gr e⟩
theorem ObR.stay {K : PySem.W.Frag} {S S' : Sta} (e : Ext S S') {a : Addr} {ob : Ob} (h : ObR K S a ob) (hk : ∀ o, S.H a = some o → S'.H a = some o) : ObR K S' a ob := h.stayG e.gr hk
theorem HS.fresh {K : PySem.W.Frag} {S : Sta} {μ : Sto} (h : HS K S μ) {p : Addr} (hp : S.H p = none) : p ∉ S.L := fun z => by
  obtain ⟨n, hn⟩ := List.mem_iff_getElem?.mp z
  obtain ⟨o, e⟩ := h.tr n p hn
  rw [hp] at e; cases e
theorem HS.lay {K : PySem.W.Frag} {S : Sta} {μ : Sto} (h : HS K S μ) {p : Addr} (o : HO) (hp : S.H p = none) : HS K (S.lay p o) μ := by
  have hf := h.free hp
  refine ⟨fun a u e => ?_, h.len, h.nd, fun n a h1 => ?_, fun n a ob h1 h2 h3 => ?_, fun n a ob h1 h2 => ?_⟩
  · by_cases hb : a = p
    · subst hb
      have e : upd S.F a o a = some u := e
      rw [upd_same] at e
      show upd S.H a o a = some u
      rw [upd_same]
      exact e
    · have e : upd S.F p o a = some u := e
      rw [upd_ne hb] at e
      show upd S.H p o a = some u
      rw [upd_ne hb]
      exact h.sub a u e
  · obtain ⟨u, e⟩ := h.tr n a h1
    refine ⟨u, ?_⟩
    show upd S.H p o a = some u
    rw [upd_ne (ne_of_none e hp)]
    exact e
  · obtain ⟨u, e⟩ := (h.ob n a ob h1 h2).there h3
    show upd S.F p o a = none
    rw [upd_ne (ne_of_none e hp)]
    exact h.lv n a ob h1 h2 h3
  · refine (h.ob n a ob h1 h2).stay (Ext.lay h.sub hp) fun u e => ?_
    show upd S.H p o a = some u
    rw [upd_ne (ne_of_none e hp)]
    exact e

/-! ### the simple expressions -/
def fVar (i : Nat) : FE := fun env μ => match env[i]? with
  | some (some w) => .ok w μ
  | _ => .no
theorem c_var (i : Nat) {x : Str} {pos : Pos} (hN : X.N[i]? = some x := by rfl) (hv : Vis X.env.scope x := by first | exact Or.inl rfl | exact Or.inr (Or.inl rfl) | exact Or.inr (Or.inr rfl)) (hd : (x == ("__debug__" : Str)) = false := by decide)
    (hcd : (x == ("__classdict__" : Str)) = false := by decide) : CEx X W (.Name x pos) (fVar i) := by
  refine ⟨_, pe_var (i := i) hN hv hd hcd, fun env σ S μ he hs Q h => ?_⟩
  unfold fVar at h
  cases hw : env[i]? with
  | none => rw [hw] at h; exact h.elim
  | some o =>
    cases o with
    | none => rw [hw] at h; exact h.elim
    | some w =>
      rw [hw] at h
      obtain ⟨v, h1, h2⟩ := he.val i w hw
      exact ⟨v, h1, h v S (Ext.refl S) hs h2⟩
def fC (d : D) : FE := fun _ μ => .ok (.d d) μ
theorem c_of {e : Expr} {v : V} {d : D} (h : PE X e (tC v)) (r : ∀ F, Rp X.K F v d) : CEx X W e (fC d) := ⟨_, h, fun _ _ S _ _ hs _ h => h v S (Ext.refl S) hs (r S.F)⟩
theorem c_int {i j pos} : CEx X W (.Constant (.int i) j pos) (fC (.int i)) := c_of pe_int fun _ => .int i
theorem c_bl {i j pos} : CEx X W (.Constant (.bool i) j pos) (fC (.bool i)) := c_of pe_bl fun _ => .bl i
theorem c_non {j pos} : CEx X W (.Constant .none j pos) (fC .none) := c_of pe_non fun _ => .non
theorem c_str {i j pos} : CEx X W (.Constant (.str i) j pos) (fC (.str i)) := c_of pe_str fun _ => .str i
theorem c_glob {x : Str} {u : Value} {v : V} {d : D} {pos : Pos} (hg : Gl X x) (hm : X.mg x = some u) (r : RelV v u) (rd : ∀ F, Rp X.K F v d) (hd : (x == ("__debug__" : Str)) = false := by decide) : CEx X W (.Name x pos) (fC d) :=
  c_of (pe_glob hg hm r hd) rd

/-! ### arguments -/
def fNil : FA := fun _ μ => .ok [] μ
def fCons (f : FE) (g : FA) : FA := fun env μ => (f env μ).bind fun w μ1 => (g env μ1).bind fun ws μ2 => .ok (w :: ws) μ2
theorem ca_nil : CA X W [] fNil := ⟨_, pa_nil, fun _ _ S _ _ hs _ h => h [] S (Ext.refl S) hs .nil⟩
theorem ca_cons {e : Expr} {es : List Expr} {f : FE} {g : FA} (ha : CEx X W e f) (hb : CA X W es g) (hs : starEach (e :: es) X.env = (false, eval e X.env) :: starEach es X.env := by rfl) : CA X W (e :: es) (fCons f g) := by
  obtain ⟨ta, pa, qa⟩ := ha
  obtain ⟨tb, pb, qb⟩ := hb
  refine ⟨_, pa_cons pa pb hs, fun env σ S μ he hS Q h => ?_⟩
  unfold fCons at h
  rw [Rs.post_bind] at h
  refine qa env σ S μ he hS _ (h.mono (fun w μ1 h1 v S1 e1 hS1 r1 => ?_) fun _ _ z => z)
  rw [Rs.post_bind] at h1
  refine qb env σ S1 μ1 (he.mono e1) hS1 _ (h1.mono (fun ws μ2 h2 vs S2 e2 hS2 r2 => ?_) fun _ _ z => z.mono e1)
  exact h2 (v :: vs) S2 (e1.trans e2) hS2 (.cons (r1.mono e2) r2)

/-! ### displays -/
/-- the plain data among the values -/
def Wv.dat : Wv → Option D
  | .d x => some x
  | _ => none
def dats : List Wv → Option (List D)
  | [] => some []
  | .d x :: r => (dats r).map (x :: ·)
  | _ :: _ => none
theorem rws_dats {K : PySem.W.Frag} {S : Sta} : ∀ {vs : List V} {ws : List Wv} {ds : List D}, RWs K S vs ws → dats ws = some ds → RpA K S.F vs ds
  | _, _, _, .nil, e => by simp [dats] at e; subst e; exact .nil
  | _, w :: ws, ds, .cons r t, e => by
    cases w with
    | l n => simp [dats] at e
    | s n => simp [dats] at e
    | e C n => simp [dats] at e
    | d x =>
      simp [dats] at e
      obtain ⟨r', e1, e2⟩ := e
      subst e2
      exact .cons r (rws_dats t e1)
theorem rws_len {K : PySem.W.Frag} {S : Sta} {vs : List V} {ws : List Wv} (h : RWs K S vs ws) : vs.length = ws.length := Paired.length h
theorem dats_len : ∀ {ws : List Wv} {ds : List D}, dats ws = some ds → ds.length = ws.length
  | [], ds, e => by simp [dats] at e; subst e; rfl
  | .l _ :: _, ds, e => by simp [dats] at e
  | .s _ :: _, ds, e => by simp [dats] at e
  | .e _ _ :: _, ds, e => by simp [dats] at e
  | .d x :: r, ds, e => by
    simp [dats] at e
    obtain ⟨r', e1, e2⟩ := e
    subst e2
    simp [dats_len e1]
@[simp] theorem dats_map : ∀ (ds : List D), dats (ds.map Wv.d) = some ds
  | [] => rfl
  | d :: r => by simp [dats, dats_map r]
/-- the most items that a list or a tuple may have here -/
abbrev LIM : Nat := 16000000
theorem lim_line {n : Nat} (h : n ≤ LIM) : n ≤ sizeLine := by rw [sizeLine_eq]; exact Nat.le_trans h (by decide)
theorem lim_lt {n : Nat} (h : n ≤ LIM) : n < sizeLine := by rw [sizeLine_eq]; exact Nat.lt_of_le_of_lt h (by decide)
def mkSeq (c : List D → D) (ws : List Wv) (μ : Sto) : Rs Wv := match dats ws with
  | some ds => if ds.length ≤ LIM then .ok (.d (c ds)) μ else .no
  | none => .no
def fTup (g : FA) : FE := fun env μ => (g env μ).bind (mkSeq .tuple)
def fLst (g : FA) : FE := fun env μ => (g env μ).bind (mkSeq .list)
theorem rp_tupI {K : PySem.W.Frag} {F : Hp} {p : Addr} {vs : List V} {ds : List D} (hi : inN ds = true) (hn : F p = none) (r : RpA K F vs ds) : Rp K (upd F p (.tup vs)) (.ref p) (.tuple ds) :=
  .tup hi upd_same (RpA.mono (fun a u e => by rw [upd_ne (ne_of_none e hn)]; exact e) _ _ r)
theorem rp_tupN {K : PySem.W.Frag} {F : Hp} {p : Addr} {vs : List V} {ds : List D} {o : Obj} (hi : inN ds = false) (hn : F p = none) (hd : o.dict = none) (r : RpA K F vs ds) : Rp K (upd F p (.frz o (.tup vs))) (.ref p) (.tuple ds) :=
  .tun hi upd_same hd (RpA.mono (fun a u e => by rw [upd_ne (ne_of_none e hn)]; exact e) _ _ r)
/-- a new tuple, as it stands or locked -/
def NT (H : Hp) (Q : VK) (vs : List V) : Prop := ∀ (p : Addr) (o : Obj), H p = none → o.dict = none → Q (.ref p) (upd H p (.frz o (.tup vs)))
def T2 (H : Hp) (Q : VK) (vs : List V) : Prop := (∀ p, H p = none → Q (.ref p) (upd H p (.tup vs))) ∨ NT H Q vs
theorem rp_lst {K : PySem.W.Frag} {F : Hp} {p : Addr} {vs : List V} {ds : List D} (hn : F p = none) (r : RpA K F vs ds) : Rp K (upd F p (.lst vs)) (.ref p) (.list ds) :=
  .lst upd_same (RpA.mono (fun a u e => by rw [upd_ne (ne_of_none e hn)]; exact e) _ _ r)
/-- a new tuple, a new list, for the one who asks -/
theorem new_tup {K : PySem.W.Frag} {S : Sta} {μ : Sto} {Q : VK} {vs : List V} {ds : List D} (hS : HS K S μ) (r : RpA K S.F vs ds) (h : POk K S Q (.d (.tuple ds)) μ) : T2 S.H Q vs := by
  by_cases hi : inN ds = true
  · exact .inl fun p hp => h (.ref p) (S.lay p (.tup vs)) (Ext.lay hS.sub hp) (hS.lay _ hp) (rp_tupI hi (hS.free hp) r)
  · exact .inr fun p o hp hd => h (.ref p) (S.lay p (.frz o (.tup vs))) (Ext.lay hS.sub hp) (hS.lay _ hp) (rp_tupN (by simpa using hi) (hS.free hp) hd r)
section
variable {X : Cx} {pins : List (Addr × Obj)} {σ : L2.St} {H : Hp} {s : Shared}
theorem fin2 {ys : List V} {its : List Value} {Q : VK} (I : Inv X pins σ H s) (r : Vals ys its) (hz : ys.length ≤ sizeLine) (q : T2 H Q ys) : EP X pins σ Q (.ref s.heap.objs.size) { s with heap := s.heap.push { cls := .type "tuple", data := .seq its.toArray } } := by
  have hf := I.hok.fresh (Nat.le_refl s.heap.objs.size)
  have at_ : (s.heap.push { cls := .type "tuple", data := .seq its.toArray }).get? s.heap.objs.size = some { cls := .type "tuple", data := .seq its.toArray } := Heap.get?_push_size _ rfl
  have kp : ∀ b u, s.heap.get? b = some u → (s.heap.push { cls := .type "tuple", data := .seq its.toArray }).get? b = some u := fun b u e => Heap.get?_push_of_some _ e
  rcases q with q | q
  · exact ⟨.ref _, upd H s.heap.objs.size (.tup ys), I.laid (t' := s.toks) kp (Nat.le_refl _) ⟨hz, its, r, ⟨_, at_, rfl, _, rfl⟩⟩, rfl, q _ hf⟩
  · exact ⟨.ref _, upd H s.heap.objs.size (.frz _ (.tup ys)), I.laid (t' := s.toks) kp (Nat.le_refl _) ⟨at_, hz, its, r, ⟨_, at_, rfl, _, rfl⟩⟩, rfl, q _ _ hf rfl⟩
end
/-- the rule of a tuple written out -/
theorem pe_tup2 {X : Cx} {es : List Expr} {k : Nat} {pos : Pos} {t : TA} (h : PA X es t) : PE X (.Tuple es k pos) (fun σ H Q => t σ H fun xs H1 => xs.length ≤ sizeLine ∧ T2 H1 Q xs) :=
  ⟨fun pins s σ H Q I hq => wpAny_Tuple_spliced (thn (h.run pos pins s σ H _ I hq) fun us s1 ⟨xs, H1, I1, r, z, q⟩ => ⟨by rw [← r.length]; exact z, fin2 I1 r z q⟩)⟩
theorem new_lst {K : PySem.W.Frag} {S : Sta} {μ : Sto} {Q : VK} {vs : List V} {ds : List D} (hS : HS K S μ) (r : RpA K S.F vs ds) (h : POk K S Q (.d (.list ds)) μ) : ∀ p, S.H p = none → Q (.ref p) (upd S.H p (.lst vs)) := fun p hp =>
  h (.ref p) (S.lay p (.lst vs)) (Ext.lay hS.sub hp) (hS.lay _ hp) (rp_lst (hS.free hp) r)
theorem POk.mono {K : PySem.W.Frag} {S S' : Sta} (e : Ext S S') {Q : VK} {w : Wv} {μ : Sto} (h : POk K S Q w μ) : POk K S' Q w μ := fun v T e' hs r => h v T (e.trans e') hs r
theorem c_tup {es : List Expr} {k pos} {g : FA} (h : CA X W es g) : CEx X W (.Tuple es k pos) (fTup g) := by
  obtain ⟨t, p, q⟩ := h
  refine ⟨_, pe_tup2 p, fun env σ S μ he hS Q h => ?_⟩
  unfold fTup at h
  rw [Rs.post_bind] at h
  refine q env σ S μ he hS _ (h.mono (fun ws μ1 h1 vs S1 e1 hS1 r1 => ?_) fun _ _ z => z)
  unfold mkSeq at h1
  cases hd : dats ws with
  | none => rw [hd] at h1; exact h1.elim
  | some ds =>
    rw [hd] at h1
    have r := rws_dats r1 hd
    by_cases hl : ds.length ≤ LIM
    · simp only [if_pos hl] at h1
      exact ⟨by rw [r.len]; exact lim_line hl, new_tup hS1 r (POk.mono e1 h1)⟩
    · simp only [if_neg hl] at h1
      exact h1.elim
theorem c_lst {es : List Expr} {pos} {g : FA} (h : CA X W es g) : CEx X W (.List es pos) (fLst g) := by
  obtain ⟨t, p, q⟩ := h
  refine ⟨_, pe_lst p, fun env σ S μ he hS Q h => ?_⟩
  unfold fLst at h
  rw [Rs.post_bind] at h
  refine q env σ S μ he hS _ (h.mono (fun ws μ1 h1 vs S1 e1 hS1 r1 => ?_) fun _ _ z => z)
  unfold mkSeq at h1
  cases hd : dats ws with
  | none => rw [hd] at h1; exact h1.elim
  | some ds =>
    rw [hd] at h1
    have r := rws_dats r1 hd
    by_cases hl : ds.length ≤ LIM
    · simp only [if_pos hl] at h1
      exact ⟨by rw [r.len]; exact lim_line hl, new_lst hS1 r (POk.mono e1 h1)⟩
    · simp only [if_neg hl] at h1
      exact h1.elim
end
end Ped

/-! Ped2: operators, comparisons, tests, places, built-in calls -/
namespace Ped
open PySem L2
section
variable {X : Cx} {W : WX}

/-! ### two operands -/
def fOp (h : Wv → Wv → Sto → Rs Wv) (f g : FE) : FE := fun env μ => (f env μ).bind fun x μ1 => (g env μ1).bind fun y μ2 => h x y μ2
def OkR (X : Cx) (r : R2) (h : Wv → Wv → Sto → Rs Wv) : Prop := ∀ x y v u S μ, HS X.K S μ → RW X.K S v x → RW X.K S u y → ∀ Q : VK, (h x y μ).Post (POk X.K S Q) (fun _ _ => False) → r v u S.H Q
theorem okr_or {r r' : R2} {h h' : Wv → Wv → Sto → Rs Wv} (a : OkR X r h) (b : OkR X r' h') {g : Wv → Wv → Sto → Rs Wv} (hg : ∀ x y μ, g x y μ = h x y μ ∨ g x y μ = h' x y μ) : OkR X (fun x y H Q => r x y H Q ∨ r' x y H Q) g :=
  fun x y v u S μ hS hx hy Q hp => by
    rcases hg x y μ with e | e
    · rw [e] at hp; exact .inl (a x y v u S μ hS hx hy Q hp)
    · rw [e] at hp; exact .inr (b x y v u S μ hS hx hy Q hp)
theorem rs_noex {α : Type} {r : Rs α} {P : α → Sto → Prop} {E : Exn → Sto → Prop} (h : r.Post P E) (hn : ∀ x μ, r ≠ .ex x μ) : r.Post P (fun _ _ => False) := by
  cases r with
  | ok a μ => exact h
  | ex x μ => exact absurd rfl (hn x μ)
  | no => exact h
/-- an operation that never raises -/
def NoEx (h : Wv → Wv → Sto → Rs Wv) : Prop := ∀ x y μ e ν, h x y μ ≠ .ex e ν
theorem op_core {ta tb : TE} {r : R2} {f g : FE} {h : Wv → Wv → Sto → Rs Wv} (ok : OkR X r h) (nx : NoEx h)
    (qa : ∀ env σ S μ, EnvR X.K X.N.length S env σ → HS X.K S μ → ∀ Q : VK, (f env μ).Post (POk X.K S Q) (PEx X.K W σ S) → ta σ S.H Q)
    (qb : ∀ env σ S μ, EnvR X.K X.N.length S env σ → HS X.K S μ → ∀ Q : VK, (g env μ).Post (POk X.K S Q) (PEx X.K W σ S) → tb σ S.H Q) :
    ∀ env σ S μ, EnvR X.K X.N.length S env σ → HS X.K S μ → ∀ Q : VK, (fOp h f g env μ).Post (POk X.K S Q) (PEx X.K W σ S) → tOp r ta tb σ S.H Q := fun env σ S μ he hS Q hp => by
  unfold fOp at hp
  rw [Rs.post_bind] at hp
  refine qa env σ S μ he hS _ (hp.mono (fun x μ1 h1 v S1 e1 hS1 r1 => ?_) fun _ _ z => z)
  rw [Rs.post_bind] at h1
  refine qb env σ S1 μ1 (he.mono e1) hS1 _ (h1.mono (fun y μ2 h2 u S2 e2 hS2 r2 => ?_) fun _ _ z => z.mono e1)
  exact ok x y v u S2 μ2 hS2 (r1.mono e2) r2 Q (rs_noex (h2.mono (fun a ν p => POk.mono (e1.trans e2) p) fun _ _ z => z) (nx x y μ2))
theorem c_op {op : Operator} {r : R2} {a b : Expr} {f g : FE} {h : Wv → Wv → Sto → Rs Wv} {pos : Pos} (ho : OpR X (binaryOp op) r) (ok : OkR X r h) (nx : NoEx h) (ha : CEx X W a f) (hb : CEx X W b g) : CEx X W (.BinOp a op b pos) (fOp h f g) := by
  obtain ⟨ta, pa, qa⟩ := ha
  obtain ⟨tb, pb, qb⟩ := hb
  exact ⟨_, pe_op ho pa pb, op_core ok nx qa qb⟩
theorem c_cmp {op : CmpOp} {r : R2} {a b : Expr} {f g : FE} {h : Wv → Wv → Sto → Rs Wv} {pos : Pos} (ho : OpR X (compareOp op) r) (ok : OkR X r h) (nx : NoEx h) (ha : CEx X W a f) (hb : CEx X W b g) (hm : behindInMarks op b = false) : CEx X W (.Compare a [op] [b] pos) (fOp h f g) := by
  obtain ⟨ta, pa, qa⟩ := ha
  obtain ⟨tb, pb, qb⟩ := hb
  exact ⟨_, pe_cmpR ho pa pb hm, op_core ok nx qa qb⟩
/-- a value that is a bool, as a test -/
def asB (w : Wv) (μ : Sto) : Rs Bool := match w with
  | .d (.bool b) => .ok b μ
  | _ => .no
def fB (f : FE) : FB := fun env μ => (f env μ).bind asB
theorem asB_post {w : Wv} {μ : Sto} {P : Bool → Sto → Prop} {E : Exn → Sto → Prop} (h : (asB w μ).Post P E) : ∃ b, w = .d (.bool b) ∧ P b μ := by
  cases w with
  | l n => exact h.elim
  | s n => exact h.elim
  | e _ _ => exact h.elim
  | d x => cases x <;> first | exact ⟨_, rfl, h⟩ | exact h.elim
theorem b_core {t : TE} {f : FE} (q : ∀ env σ S μ, EnvR X.K X.N.length S env σ → HS X.K S μ → ∀ Q : VK, (f env μ).Post (POk X.K S Q) (PEx X.K W σ S) → t σ S.H Q) :
    ∀ env σ S μ, EnvR X.K X.N.length S env σ → HS X.K S μ → ∀ Q : Bool → Hp → Prop, (fB f env μ).Post (fun b μ' => ∀ S', Ext S S' → HS X.K S' μ' → Q b S'.H) (PEx X.K W σ S) → t σ S.H (fun x H1 => ∃ c, x = .bl c ∧ Q c H1) := fun env σ S μ he hS Q hp => by
  unfold fB at hp
  rw [Rs.post_bind] at hp
  refine q env σ S μ he hS _ (hp.mono (fun w μ1 h1 v S1 e1 hS1 r1 => ?_) fun _ _ z => z)
  obtain ⟨b, rfl, h2⟩ := asB_post h1
  cases r1
  exact ⟨b, rfl, h2 S1 e1 hS1⟩
theorem ct_cmp {op : CmpOp} {r : R2} {a b : Expr} {f g : FE} {h : Wv → Wv → Sto → Rs Wv} {pos : Pos} (ho : OpR X (compareOp op) r) (ok : OkR X r h) (nx : NoEx h) (ha : CEx X W a f) (hb : CEx X W b g) (hm : behindInMarks op b = false) : CT X W (.Compare a [op] [b] pos) (fB (fOp h f g)) := by
  obtain ⟨ta, pa, qa⟩ := ha
  obtain ⟨tb, pb, qb⟩ := hb
  exact ⟨_, pt_cmpR ho pa pb hm, b_core (op_core ok nx qa qb)⟩
/-- a name, a call, a bool: the test of its value -/
theorem ct_val {e : Expr} {f : FE} (h : CEx X W e f) (he : ∀ whole, isTrue e X.env whole = (do let v ← whole; standAt e.pos; holding [v] (truthy v)) := by intro _; rfl) : CT X W e (fB f) := by
  obtain ⟨t, p, q⟩ := h
  exact ⟨_, pt_val p he, b_core q⟩
def fNot (f : FB) : FB := fun env μ => (f env μ).bind fun b μ1 => .ok (!b) μ1
theorem ct_not {a : Expr} {f : FB} {pos : Pos} (h : CT X W a f) : CT X W (.UnaryOp .Not a pos) (fNot f) := by
  obtain ⟨t, p, q⟩ := h
  refine ⟨_, pt_not p, fun env σ S μ he hS Q hp => ?_⟩
  unfold fNot at hp
  rw [Rs.post_bind] at hp
  exact q env σ S μ he hS _ (hp.mono (fun b μ1 h1 S1 e1 hS1 => h1 S1 e1 hS1) fun _ _ z => z)
def fAnd (f g : FB) : FB := fun env μ => (f env μ).bind fun b μ1 => if b = true then g env μ1 else .ok false μ1
def fOr (f g : FB) : FB := fun env μ => (f env μ).bind fun b μ1 => if b = true then .ok true μ1 else g env μ1
theorem CW.ct {e : Expr} {f : FB} (h : CW X W e f) : CT X W e f := by
  obtain ⟨t, p, q⟩ := h
  exact ⟨t, p.pt, q⟩
theorem cw_and1 {a : Expr} {f : FB} {pos : Pos} (h : CT X W a f) : CW X W (.BoolOp .And [a] pos) f := by
  obtain ⟨t, p, q⟩ := h
  exact ⟨t, pw_and1 p, q⟩
theorem cw_or1 {a : Expr} {f : FB} {pos : Pos} (h : CT X W a f) : CW X W (.BoolOp .Or [a] pos) f := by
  obtain ⟨t, p, q⟩ := h
  exact ⟨t, pw_or1 p, q⟩
theorem cw_and {a b : Expr} {rest : List Expr} {f g : FB} {pos : Pos} (ha : CT X W a f) (hb : CW X W (.BoolOp .And (b :: rest) pos) g) : CW X W (.BoolOp .And (a :: b :: rest) pos) (fAnd f g) := by
  obtain ⟨ta, pa, qa⟩ := ha
  obtain ⟨tb, pb, qb⟩ := hb
  refine ⟨_, pw_and pa pb, fun env σ S μ he hS Q hp => ?_⟩
  unfold fAnd at hp
  rw [Rs.post_bind] at hp
  refine qa env σ S μ he hS _ (hp.mono (fun c μ1 h1 S1 e1 hS1 => ?_) fun _ _ z => z)
  cases c with
  | true =>
    rw [if_pos rfl] at h1 ⊢
    exact qb env σ S1 μ1 (he.mono e1) hS1 Q (h1.mono (fun c μ2 h2 S2 e2 hS2 => h2 S2 (e1.trans e2) hS2) fun _ _ z => z.mono e1)
  | false =>
    rw [if_neg Bool.false_ne_true] at h1 ⊢
    exact h1 S1 e1 hS1
theorem cw_or {a b : Expr} {rest : List Expr} {f g : FB} {pos : Pos} (ha : CT X W a f) (hb : CW X W (.BoolOp .Or (b :: rest) pos) g) : CW X W (.BoolOp .Or (a :: b :: rest) pos) (fOr f g) := by
  obtain ⟨ta, pa, qa⟩ := ha
  obtain ⟨tb, pb, qb⟩ := hb
  refine ⟨_, pw_or pa pb, fun env σ S μ he hS Q hp => ?_⟩
  unfold fOr at hp
  rw [Rs.post_bind] at hp
  refine qa env σ S μ he hS _ (hp.mono (fun c μ1 h1 S1 e1 hS1 => ?_) fun _ _ z => z)
  cases c with
  | true =>
    rw [if_pos rfl] at h1 ⊢
    exact h1 S1 e1 hS1
  | false =>
    rw [if_neg Bool.false_ne_true] at h1 ⊢
    exact qb env σ S1 μ1 (he.mono e1) hS1 Q (h1.mono (fun c μ2 h2 S2 e2 hS2 => h2 S2 (e1.trans e2) hS2) fun _ _ z => z.mono e1)
/-- and, or, not as values, of bools -/
def fV (f : FB) : FE := fun env μ => (f env μ).bind fun b μ1 => .ok (.d (.bool b)) μ1
def fAndV (f g : FE) : FE := fun env μ => (fB f env μ).bind fun b μ1 => if b = true then g env μ1 else .ok (.d (.bool false)) μ1
def fOrV (f g : FE) : FE := fun env μ => (fB f env μ).bind fun b μ1 => if b = true then .ok (.d (.bool true)) μ1 else g env μ1
def fNotV (f : FE) : FE := fun env μ => (fB f env μ).bind fun b μ1 => .ok (.d (.bool (!b))) μ1
theorem c_one {op} {a : Expr} {f : FE} {pos : Pos} (h : CEx X W a f) : CEx X W (.BoolOp op [a] pos) f := by
  obtain ⟨t, p, q⟩ := h
  exact ⟨t, pe_one p, q⟩
theorem c_and {a b : Expr} {rest : List Expr} {f g : FE} {pos : Pos} (ha : CEx X W a f) (hb : CEx X W (.BoolOp .And (b :: rest) pos) g) : CEx X W (.BoolOp .And (a :: b :: rest) pos) (fAndV f g) := by
  obtain ⟨ta, pa, qa⟩ := ha
  obtain ⟨tb, pb, qb⟩ := hb
  refine ⟨_, pe_and pa pb, fun env σ S μ he hS Q hp => ?_⟩
  unfold fAndV at hp
  rw [Rs.post_bind] at hp
  refine b_core qa env σ S μ he hS (fun c H1 => if c = true then tb σ H1 Q else Q (.bl false) H1) (hp.mono (fun c μ1 h1 S1 e1 hS1 => ?_) fun _ _ z => z)
  cases c with
  | true =>
    rw [if_pos rfl] at h1 ⊢
    exact qb env σ S1 μ1 (he.mono e1) hS1 Q (h1.mono (fun c μ2 h2 => POk.mono e1 h2) fun _ _ z => z.mono e1)
  | false =>
    rw [if_neg Bool.false_ne_true] at h1 ⊢
    exact h1 _ S1 e1 hS1 (.bl false)
theorem c_or {a b : Expr} {rest : List Expr} {f g : FE} {pos : Pos} (ha : CEx X W a f) (hb : CEx X W (.BoolOp .Or (b :: rest) pos) g) : CEx X W (.BoolOp .Or (a :: b :: rest) pos) (fOrV f g) := by
  obtain ⟨ta, pa, qa⟩ := ha
  obtain ⟨tb, pb, qb⟩ := hb
  refine ⟨_, pe_or pa pb, fun env σ S μ he hS Q hp => ?_⟩
  unfold fOrV at hp
  rw [Rs.post_bind] at hp
  refine b_core qa env σ S μ he hS (fun c H1 => if c = true then Q (.bl true) H1 else tb σ H1 Q) (hp.mono (fun c μ1 h1 S1 e1 hS1 => ?_) fun _ _ z => z)
  cases c with
  | true =>
    rw [if_pos rfl] at h1 ⊢
    exact h1 _ S1 e1 hS1 (.bl true)
  | false =>
    rw [if_neg Bool.false_ne_true] at h1 ⊢
    exact qb env σ S1 μ1 (he.mono e1) hS1 Q (h1.mono (fun c μ2 h2 => POk.mono e1 h2) fun _ _ z => z.mono e1)
theorem c_not {a : Expr} {f : FE} {pos : Pos} (h : CEx X W a f) : CEx X W (.UnaryOp .Not a pos) (fNotV f) := by
  obtain ⟨t, p, q⟩ := h
  refine ⟨_, pe_not p, fun env σ S μ he hS Q hp => ?_⟩
  unfold fNotV at hp
  rw [Rs.post_bind] at hp
  exact b_core q env σ S μ he hS (fun c H1 => Q (.bl (!c)) H1) (hp.mono (fun c μ1 h1 S1 e1 hS1 => h1 _ S1 e1 hS1 (.bl _)) fun _ _ z => z)
def fIf (c : FB) (f g : FE) : FE := fun env μ => (c env μ).bind fun b μ1 => if b = true then f env μ1 else g env μ1
theorem c_if {c a b : Expr} {h : FB} {f g : FE} {pos : Pos} (hc : CT X W c h) (ha : CEx X W a f) (hb : CEx X W b g) : CEx X W (.IfExp c a b pos) (fIf h f g) := by
  obtain ⟨tc, pc, qc⟩ := hc
  obtain ⟨ta, pa, qa⟩ := ha
  obtain ⟨tb, pb, qb⟩ := hb
  refine ⟨_, pe_ifExp pc pa pb, fun env σ S μ he hS Q hp => ?_⟩
  unfold fIf at hp
  rw [Rs.post_bind] at hp
  refine qc env σ S μ he hS _ (hp.mono (fun c μ1 h1 S1 e1 hS1 => ?_) fun _ _ z => z)
  cases c with
  | true =>
    rw [if_pos rfl] at h1 ⊢
    exact qa env σ S1 μ1 (he.mono e1) hS1 Q (h1.mono (fun c μ2 h2 => POk.mono e1 h2) fun _ _ z => z.mono e1)
  | false =>
    rw [if_neg Bool.false_ne_true] at h1 ⊢
    exact qb env σ S1 μ1 (he.mono e1) hS1 Q (h1.mono (fun c μ2 h2 => POk.mono e1 h2) fun _ _ z => z.mono e1)

/-! ### numbers -/
/-- an operation on two ints -/
def opI (h : Int → Int → Option D) (x y : Wv) (μ : Sto) : Rs Wv := match x, y with
  | .d (.int i), .d (.int j) => (match h i j with | some d => .ok (.d d) μ | none => .no)
  | _, _ => .no
@[simp] theorem opI_int (h : Int → Int → Option D) (i j : Int) (μ : Sto) : opI h (.d (.int i)) (.d (.int j)) μ = (match h i j with | some d => .ok (.d d) μ | none => .no) := rfl
theorem opI_nx (h : Int → Int → Option D) : NoEx (opI h) := fun x y μ e ν q => by
  unfold opI at q
  split at q
  · split at q <;> cases q
  · cases q
theorem opI_post {h : Int → Int → Option D} {x y : Wv} {μ : Sto} {P : Wv → Sto → Prop} {E : Exn → Sto → Prop} (p : (opI h x y μ).Post P E) : ∃ i j d, x = .d (.int i) ∧ y = .d (.int j) ∧ h i j = some d ∧ P (.d d) μ := by
  unfold opI at p
  split at p
  · split at p
    · exact ⟨_, _, _, rfl, rfl, by assumption, p⟩
    · exact p.elim
  · exact p.elim
theorem ok_I {C : Int → Int → Prop} [∀ i j, Decidable (C i j)] {g : Int → Int → Int} : OkR X (rI C fun i j => .int (g i j)) (opI fun i j => if C i j then some (.int (g i j)) else none) := fun x y v u S μ hS hx hy Q hp => by
  obtain ⟨i, j, d, rfl, rfl, e, p⟩ := opI_post hp
  cases hx
  cases hy
  by_cases hc : C i j
  · rw [if_pos hc] at e
    cases e
    exact ⟨i, j, rfl, rfl, hc, p _ S (Ext.refl S) hS (.int _)⟩
  · rw [if_neg hc] at e
    cases e
theorem ok_I0 {g : Int → Int → Int} : OkR X (rI0 fun i j => .int (g i j)) (opI fun i j => some (.int (g i j))) := fun x y v u S μ hS hx hy Q hp => by
  obtain ⟨i, j, d, rfl, rfl, e, p⟩ := opI_post hp
  cases hx
  cases hy
  cases e
  exact ⟨i, j, rfl, rfl, p _ S (Ext.refl S) hS (.int _)⟩
theorem ok_B0 {g : Int → Int → Bool} : OkR X (rI0 fun i j => .bl (g i j)) (opI fun i j => some (.bool (g i j))) := fun x y v u S μ hS hx hy Q hp => by
  obtain ⟨i, j, d, rfl, rfl, e, p⟩ := opI_post hp
  cases hx
  cases hy
  cases e
  exact ⟨i, j, rfl, rfl, p _ S (Ext.refl S) hS (.bl _)⟩
abbrev cmpW (g : Int → Int → Bool) : Wv → Wv → Sto → Rs Wv := opI fun i j => some (.bool (g i j))
section
variable {a b : Expr} {f g : FE} {pos : Pos}
theorem c_sub (ha : CEx X W a f) (hb : CEx X W b g) : CEx X W (.BinOp a .Sub b pos) (fOp (opI fun i j => some (.int (i - j))) f g) := c_op op_sub ok_I0 (opI_nx _) ha hb
instance (i j : Int) : Decidable (CMul i j) := by unfold CMul; infer_instance
instance (i j : Int) : Decidable (CPow i j) := by unfold CPow; infer_instance
theorem c_mulI (ha : CEx X W a f) (hb : CEx X W b g) : CEx X W (.BinOp a .Mult b pos) (fOp (opI fun i j => if CMul i j then some (.int (i * j)) else none) f g) := c_op op_mul ok_I (opI_nx _) ha hb
theorem c_pow (ha : CEx X W a f) (hb : CEx X W b g) : CEx X W (.BinOp a .Pow b pos) (fOp (opI fun i j => if CPow i j then some (.int (i ^ j.toNat)) else none) f g) := c_op op_pow ok_I (opI_nx _) ha hb
/-- i % j: of a positive j by Lean's % -/
def modI (i j : Int) : Option D := if 0 < j then some (.int (i % j)) else if j ≠ 0 then some (.int (i.fmod j)) else none
theorem c_mod (ha : CEx X W a f) (hb : CEx X W b g) : CEx X W (.BinOp a .Mod b pos) (fOp (opI modI) f g) := by
  refine c_op op_modN (fun x y v u S μ hS hx hy Q hp => ?_) (opI_nx _) ha hb
  obtain ⟨i, j, d, rfl, rfl, e, p⟩ := opI_post hp
  cases hx
  cases hy
  unfold modI at e
  by_cases hc : 0 < j
  · rw [if_pos hc] at e
    cases e
    refine ⟨i, j, rfl, rfl, by omega, ?_⟩
    show Q (.int (i.fmod j)) S.H
    rw [Int.fmod_eq_emod_of_nonneg i (show 0 ≤ j by omega)]
    exact p _ S (Ext.refl S) hS (.int _)
  · rw [if_neg hc] at e
    by_cases hz : j ≠ 0
    · rw [if_pos hz] at e
      cases e
      exact ⟨i, j, rfl, rfl, hz, p _ S (Ext.refl S) hS (.int _)⟩
    · rw [if_neg hz] at e
      cases e
/-- i // j: of a positive j by Lean's / -/
def divI (i j : Int) : Option D := if 0 < j ∧ j < 2 ^ 100 then some (.int (i / j)) else if j ≠ 0 ∧ j.natAbs < 1073741824 then some (.int (i.fdiv j)) else none
theorem c_div (ha : CEx X W a f) (hb : CEx X W b g) : CEx X W (.BinOp a .FloorDiv b pos) (fOp (opI divI) f g) := by
  refine c_op (OpR.or op_fdivW op_fdivN) (fun x y v u S μ hS hx hy Q hp => ?_) (opI_nx _) ha hb
  obtain ⟨i, j, d, rfl, rfl, e, p⟩ := opI_post hp
  cases hx
  cases hy
  unfold divI at e
  by_cases hc : 0 < j ∧ j < 2 ^ 100
  · rw [if_pos hc] at e
    cases e
    exact .inl ⟨i, j, rfl, rfl, wide_div (b := 101) hc.1 (by omega) (by decide) (by decide), p _ S (Ext.refl S) hS (.int _)⟩
  · rw [if_neg hc] at e
    by_cases hz : j ≠ 0 ∧ j.natAbs < 1073741824
    · rw [if_pos hz] at e
      cases e
      exact .inr ⟨i, j, rfl, rfl, hz, p _ S (Ext.refl S) hS (.int _)⟩
    · rw [if_neg hz] at e
      cases e
theorem c_lt (ha : CEx X W a f) (hb : CEx X W b g) : CEx X W (.Compare a [.Lt] [b] pos) (fOp (cmpW fun i j => decide (i < j)) f g) := c_cmp op_lt ok_B0 (opI_nx _) ha hb (nomark _)
theorem c_le (ha : CEx X W a f) (hb : CEx X W b g) : CEx X W (.Compare a [.LtE] [b] pos) (fOp (cmpW fun i j => decide (i ≤ j)) f g) := c_cmp op_le ok_B0 (opI_nx _) ha hb (nomark _)
theorem c_gt (ha : CEx X W a f) (hb : CEx X W b g) : CEx X W (.Compare a [.Gt] [b] pos) (fOp (cmpW fun i j => decide (j < i)) f g) := c_cmp op_gt ok_B0 (opI_nx _) ha hb (nomark _)
theorem c_ge (ha : CEx X W a f) (hb : CEx X W b g) : CEx X W (.Compare a [.GtE] [b] pos) (fOp (cmpW fun i j => decide (j ≤ i)) f g) := c_cmp op_ge ok_B0 (opI_nx _) ha hb (nomark _)
theorem ct_lt (ha : CEx X W a f) (hb : CEx X W b g) : CT X W (.Compare a [.Lt] [b] pos) (fB (fOp (cmpW fun i j => decide (i < j)) f g)) := ct_cmp op_lt ok_B0 (opI_nx _) ha hb (nomark _)
theorem ct_le (ha : CEx X W a f) (hb : CEx X W b g) : CT X W (.Compare a [.LtE] [b] pos) (fB (fOp (cmpW fun i j => decide (i ≤ j)) f g)) := ct_cmp op_le ok_B0 (opI_nx _) ha hb (nomark _)
theorem ct_gt (ha : CEx X W a f) (hb : CEx X W b g) : CT X W (.Compare a [.Gt] [b] pos) (fB (fOp (cmpW fun i j => decide (j < i)) f g)) := ct_cmp op_gt ok_B0 (opI_nx _) ha hb (nomark _)
theorem ct_ge (ha : CEx X W a f) (hb : CEx X W b g) : CT X W (.Compare a [.GtE] [b] pos) (fB (fOp (cmpW fun i j => decide (j ≤ i)) f g)) := ct_cmp op_ge ok_B0 (opI_nx _) ha hb (nomark _)

/-! ### sums of anything, products -/
def addW (x y : Wv) (μ : Sto) : Rs Wv := match x, y with
  | .d (.int i), .d (.int j) => .ok (.d (.int (i + j))) μ
  | .d (.str i), .d (.str j) => if i.length + j.length ≤ LIM then .ok (.d (.str (i ++ j))) μ else .no
  | .d (.tuple i), .d (.tuple j) => if i.length + j.length ≤ LIM then .ok (.d (.tuple (i ++ j))) μ else .no
  | .d (.list i), .d (.list j) => if i.length + j.length ≤ LIM then .ok (.d (.list (i ++ j))) μ else .no
  | _, _ => .no
theorem addW_nx : NoEx addW := fun x y μ e ν q => by
  unfold addW at q
  split at q <;> first | cases q | (split at q <;> cases q)
theorem rp_lst_inv {K : PySem.W.Frag} {F : Hp} {v : V} {ds : List D} (h : Rp K F v (.list ds)) : ∃ a xs, v = .ref a ∧ F a = some (.lst xs) ∧ RpA K F xs ds := by
  cases h with
  | lst h1 h2 => exact ⟨_, _, rfl, h1, h2⟩
theorem rp_tup_inv {K : PySem.W.Frag} {F : Hp} {v : V} {ds : List D} (h : Rp K F v (.tuple ds)) : ∃ a xs, v = .ref a ∧ Rd F a (.tup xs) ∧ RpA K F xs ds := by
  cases h with
  | tup _ h1 h2 => exact ⟨_, _, rfl, .inl h1, h2⟩
  | tun _ h1 _ h2 => exact ⟨_, _, rfl, .inr ⟨_, h1⟩, h2⟩
theorem rp_int_inv {K : PySem.W.Frag} {F : Hp} {v : V} {ds : List D} (h : Rp K F v (.tuple ds)) (hi : inN ds = true) : ∃ a xs, v = .ref a ∧ F a = some (.tup xs) ∧ RpA K F xs ds := by
  cases h with
  | tup _ h1 h2 => exact ⟨_, _, rfl, h1, h2⟩
  | tun h0 _ _ _ => rw [hi] at h0; cases h0
theorem rp_nd_inv {K : PySem.W.Frag} {F : Hp} {v : V} {ds : List D} (h : Rp K F v (.tuple ds)) (hi : inN ds = false) : ∃ a xs o, v = .ref a ∧ F a = some (.frz o (.tup xs)) ∧ o.dict = none ∧ RpA K F xs ds := by
  cases h with
  | tup h0 _ _ => rw [hi] at h0; cases h0
  | tun _ h1 h2 h3 => exact ⟨_, _, _, rfl, h1, h2, h3⟩
/-- t + u -/
def rCat2 (K : PySem.W.Frag) : R2 := fun x y H Q => ∃ a b xs ys, x = .ref a ∧ y = .ref b ∧ (SqT K H a xs ∧ SqT K H b ys) ∧ xs.length + ys.length ≤ sizeLine ∧ (xs = [] → Q (.ref b) H) ∧ (xs ≠ [] → ys = [] → Q (.ref a) H) ∧ (xs ≠ [] → ys ≠ [] → T2 H Q (xs ++ ys))
theorem op_cat2 : OpR X (binaryOp .Add) (rCat2 X.K) := by
  intro pins s σ H x y v u Q I rx ry h
  obtain ⟨a, b, xs, ys, rfl, rfl, ⟨ha, hb⟩, hz, q0, q1, q2⟩ := h
  obtain rfl : v = Value.ref a := rx
  obtain rfl : u = Value.ref b := ry
  obtain ⟨its, r1, p1, _⟩ := I.tuple ha
  obtain ⟨jts, r2, p2, _⟩ := I.tuple hb
  by_cases hx : xs = []
  · subst hx
    cases r1
    exact cat_tup0 p1 p2 ⟨.ref b, H, I, rfl, q0 rfl⟩
  · refine HT.cat_tup p1 p2 (fun z => hx (r1.nil_iff.mp z)) (fun z => ⟨.ref a, H, I, rfl, q1 hx (r2.nil_iff.mp z)⟩) (fun z => ?_) (by rw [← r1.length, ← r2.length]; exact hz)
    exact fin2 I (r1.append r2) (by rw [List.length_append]; exact hz) (q2 hx fun w => z (r2.nil_iff.mpr w))
theorem ok_add : OkR X (fun x y H Q => (rI0 fun i j => .int (i + j)) x y H Q ∨ (∃ i j, x = .str i ∧ y = .str j ∧ i.length + j.length ≤ sizeLine ∧ Q (.str (i ++ j)) H) ∨ rCat2 X.K x y H Q ∨ rCat x y H Q) addW := fun x y v u S μ hS hx hy Q hp => by
  unfold addW at hp
  split at hp
  · cases hx; cases hy
    exact .inl ⟨_, _, rfl, rfl, hp _ S (Ext.refl S) hS (.int _)⟩
  · split at hp
    · cases hx; cases hy
      exact .inr (.inl ⟨_, _, rfl, rfl, lim_line (by assumption), hp _ S (Ext.refl S) hS (.str _)⟩)
    · exact hp.elim
  · split at hp
    · obtain ⟨a, xs, rfl, ha, ra⟩ := rp_tup_inv hx
      obtain ⟨b, ys, rfl, hb, rb⟩ := rp_tup_inv hy
      refine .inr (.inr (.inl ⟨a, b, xs, ys, rfl, rfl, ⟨.inl (sb_rd hS.sub ha), .inl (sb_rd hS.sub hb)⟩, by rw [ra.len, rb.len]; exact lim_line (by assumption), fun e => ?_, fun _ e => ?_, fun _ _ => new_tup hS (ra.append rb) hp⟩))
      · subst e
        cases ra
        exact hp _ S (Ext.refl S) hS hy
      · subst e
        cases rb
        exact hp _ S (Ext.refl S) hS (by rw [List.append_nil]; exact hx)
    · exact hp.elim
  · split at hp
    · obtain ⟨a, xs, rfl, ha, ra⟩ := rp_lst_inv hx
      obtain ⟨b, ys, rfl, hb, rb⟩ := rp_lst_inv hy
      exact .inr (.inr (.inr ⟨a, b, xs, ys, rfl, rfl, hS.sub _ _ ha, hS.sub _ _ hb, by rw [ra.len, rb.len]; exact lim_line (by assumption), new_lst hS (ra.append rb) hp⟩))
    · exact hp.elim
  · exact hp.elim
theorem c_add (ha : CEx X W a f) (hb : CEx X W b g) : CEx X W (.BinOp a .Add b pos) (fOp addW f g) := c_op (OpR.or op_add (OpR.or op_add_str (OpR.or op_cat2 op_cat))) ok_add addW_nx ha hb
def mulL (x y : Wv) (μ : Sto) : Rs Wv := match x, y with
  | .d (.list i), .d (.int k) => if -1000000 ≤ k ∧ k ≤ 1000000 ∧ i.length * k.toNat ≤ LIM then .ok (.d (.list (List.replicate k.toNat i).flatten)) μ else .no
  | _, _ => .no
theorem mulL_nx : NoEx mulL := fun x y μ e ν q => by
  unfold mulL at q
  split at q <;> first | cases q | (split at q <;> cases q)
theorem c_mulL (ha : CEx X W a f) (hb : CEx X W b g) : CEx X W (.BinOp a .Mult b pos) (fOp mulL f g) := by
  refine c_op op_rep (fun x y v u S μ hS hx hy Q hp => ?_) mulL_nx ha hb
  unfold mulL at hp
  split at hp
  · split at hp
    · rename_i hk
      obtain ⟨p, xs, rfl, ha, ra⟩ := rp_lst_inv hx
      cases hy
      exact ⟨p, _, xs, rfl, rfl, hS.sub _ _ ha, by omega, by omega, by rw [ra.len]; exact lim_line hk.2.2, new_lst hS (ra.rep _) hp⟩
    · exact hp.elim
  · exact hp.elim
def fNeg (f : FE) : FE := fun env μ => (f env μ).bind fun x μ1 => match x with
  | .d (.int i) => .ok (.d (.int (-i))) μ1
  | _ => .no
theorem c_neg (ha : CEx X W a f) : CEx X W (.UnaryOp .USub a pos) (fNeg f) := by
  obtain ⟨ta, pa, qa⟩ := ha
  refine ⟨_, pe_un un_neg pa, fun env σ S μ he hS Q hp => ?_⟩
  unfold fNeg at hp
  rw [Rs.post_bind] at hp
  refine qa env σ S μ he hS _ (hp.mono (fun x μ1 h1 v S1 e1 hS1 r1 => ?_) fun _ _ z => z)
  split at h1
  · cases r1
    exact ⟨_, rfl, h1 _ S1 e1 hS1 (.int _)⟩
  · exact h1.elim
end

/-! ### equal or not -/
def scalD : D → D → Bool
  | .none, .none => true | .none, .int _ => true | .int _, .none => true | .none, .bool _ => true | .bool _, .none => true | .none, .str _ => true | .str _, .none => true
  | .int _, .int _ => true | .bool _, .bool _ => true | .str _, .str _ => true
  | .int _, .str _ => true | .str _, .int _ => true | .bool _, .str _ => true | .str _, .bool _ => true
  | _, _ => false
def sameD : D → D → Bool
  | .none, .none => true
  | .int i, .int j => decide (i = j)
  | .bool i, .bool j => decide (i = j)
  | .str i, .str j => decide (i = j)
  | _, _ => false
def eqD (d e : D) : Option Bool := if scalD d e = true then some (sameD d e) else if SeqAt.shaped d = true ∧ SeqAt.shaped e = true then some (PyData.eqv d e) else none
def eqW (neg : Bool) (x y : Wv) (μ : Sto) : Rs Wv := match x, y with
  | .d d, .d e => (match eqD d e with | some b => .ok (.d (.bool (if neg then !b else b))) μ | none => .no)
  | _, _ => .no
theorem eqW_nx (neg : Bool) : NoEx (eqW neg) := fun x y μ e ν q => by
  unfold eqW at q
  split at q
  · split at q <;> cases q
  · cases q
theorem scal_of {K : PySem.W.Frag} {F : Hp} {v u : V} {d e : D} (h : scalD d e = true) (rv : Rp K F v d) (ru : Rp K F u e) : scal v u = true ∧ decide (v = u) = sameD d e := by
  cases rv <;> cases ru <;> first | (exact ⟨rfl, by simp [sameD]⟩) | exact absurd h Bool.false_ne_true
theorem ok_eq : OkR X (fun x y H Q => rEq x y H Q ∨ rEqD X.K x y H Q) (eqW false) := fun x y v u S μ hS hx hy Q hp => by
  unfold eqW at hp
  split at hp
  · rename_i d e
    unfold eqD at hp
    by_cases hs : scalD d e = true
    · rw [if_pos hs] at hp
      obtain ⟨h1, h2⟩ := scal_of hs hx hy
      exact .inl ⟨h1, by rw [h2]; exact hp _ S (Ext.refl S) hS (.bl _)⟩
    · rw [if_neg hs] at hp
      by_cases hh : SeqAt.shaped d = true ∧ SeqAt.shaped e = true
      · rw [if_pos hh] at hp
        exact .inr ⟨d, e, Rp.dp hS.sub _ _ hx, Rp.dp hS.sub _ _ hy, hh.1, hh.2, hp _ S (Ext.refl S) hS (.bl _)⟩
      · rw [if_neg hh] at hp
        exact hp.elim
  · exact hp.elim
theorem ok_ne : OkR X (fun x y H Q => rNe x y H Q ∨ rNeD X.K x y H Q) (eqW true) := fun x y v u S μ hS hx hy Q hp => by
  unfold eqW at hp
  split at hp
  · rename_i d e
    unfold eqD at hp
    by_cases hs : scalD d e = true
    · rw [if_pos hs] at hp
      obtain ⟨h1, h2⟩ := scal_of hs hx hy
      exact .inl ⟨h1, by rw [h2]; exact hp _ S (Ext.refl S) hS (.bl _)⟩
    · rw [if_neg hs] at hp
      by_cases hh : SeqAt.shaped d = true ∧ SeqAt.shaped e = true
      · rw [if_pos hh] at hp
        exact .inr ⟨d, e, Rp.dp hS.sub _ _ hx, Rp.dp hS.sub _ _ hy, hh.1, hh.2, hp _ S (Ext.refl S) hS (.bl _)⟩
      · rw [if_neg hh] at hp
        exact hp.elim
  · exact hp.elim
section
variable {a b : Expr} {f g : FE} {pos : Pos}
theorem c_eq (hu : X.A.units + 64 < cLine) (ha : CEx X W a f) (hb : CEx X W b g) : CEx X W (.Compare a [.Eq] [b] pos) (fOp (eqW false) f g) := c_cmp (OpR.or op_eq (op_eqD hu)) ok_eq (eqW_nx _) ha hb (nomark _)
theorem c_ne (hu : X.A.units + 64 < cLine) (ha : CEx X W a f) (hb : CEx X W b g) : CEx X W (.Compare a [.NotEq] [b] pos) (fOp (eqW true) f g) := c_cmp (OpR.or op_ne (op_neD hu)) ok_ne (eqW_nx _) ha hb (nomark _)
theorem ct_eq (hu : X.A.units + 64 < cLine) (ha : CEx X W a f) (hb : CEx X W b g) : CT X W (.Compare a [.Eq] [b] pos) (fB (fOp (eqW false) f g)) := ct_cmp (OpR.or op_eq (op_eqD hu)) ok_eq (eqW_nx _) ha hb (nomark _)
theorem ct_ne (hu : X.A.units + 64 < cLine) (ha : CEx X W a f) (hb : CEx X W b g) : CT X W (.Compare a [.NotEq] [b] pos) (fB (fOp (eqW true) f g)) := ct_cmp (OpR.or op_ne (op_neD hu)) ok_ne (eqW_nx _) ha hb (nomark _)
def isNoneD : D → Bool
  | .none => true
  | _ => false
/-- x is None -/
def isNW (neg : Bool) (x y : Wv) (μ : Sto) : Rs Wv := match x, y with
  | .d d, .d .none => .ok (.d (.bool (if neg then !isNoneD d else isNoneD d))) μ
  | _, _ => .no
theorem isNW_nx (neg : Bool) : NoEx (isNW neg) := fun x y μ e ν q => by
  unfold isNW at q
  split at q <;> cases q
theorem rp_non {K : PySem.W.Frag} {F : Hp} {v : V} {d : D} (h : Rp K F v d) : decide (v = .non) = isNoneD d := by
  cases h <;> rfl
theorem ok_isN : OkR X (fun x y H Q => y = .non ∧ Q (.bl (decide (x = .non))) H) (isNW false) := fun x y v u S μ hS hx hy Q hp => by
  unfold isNW at hp
  split at hp
  · rename_i d
    cases hy
    exact ⟨rfl, by rw [rp_non hx]; exact hp _ S (Ext.refl S) hS (.bl _)⟩
  · exact hp.elim
theorem ok_notN : OkR X (fun x y H Q => y = .non ∧ Q (.bl (!decide (x = .non))) H) (isNW true) := fun x y v u S μ hS hx hy Q hp => by
  unfold isNW at hp
  split at hp
  · rename_i d
    cases hy
    exact ⟨rfl, by rw [rp_non hx]; exact hp _ S (Ext.refl S) hS (.bl _)⟩
  · exact hp.elim
theorem c_is (ha : CEx X W a f) (hb : CEx X W b g) : CEx X W (.Compare a [.Is] [b] pos) (fOp (isNW false) f g) := c_cmp op_isN ok_isN (isNW_nx _) ha hb (nomark _)
theorem ct_is (ha : CEx X W a f) (hb : CEx X W b g) : CT X W (.Compare a [.Is] [b] pos) (fB (fOp (isNW false) f g)) := ct_cmp op_isN ok_isN (isNW_nx _) ha hb (nomark _)
theorem c_isnot (ha : CEx X W a f) (hb : CEx X W b g) : CEx X W (.Compare a [.IsNot] [b] pos) (fOp (isNW true) f g) := c_cmp op_notN ok_notN (isNW_nx _) ha hb (nomark _)
theorem ct_isnot (ha : CEx X W a f) (hb : CEx X W b g) : CT X W (.Compare a [.IsNot] [b] pos) (fB (fOp (isNW true) f g)) := ct_cmp op_notN ok_notN (isNW_nx _) ha hb (nomark _)

/-! ### in: flat items, data in a list -/
def flatD : D → Bool
  | .none => true | .bool _ => true | .int _ => true | .str _ => true
  | _ => false
theorem flat_of {K : PySem.W.Frag} {F : Hp} {v : V} {d : D} (h : Rp K F v d) : flatV v = flatD d := by cases h <;> rfl
theorem eqv_of {K : PySem.W.Frag} {F : Hp} {v u : V} {d e : D} (h : flatD d = true) (h' : flatD e = true) (rv : Rp K F v d) (ru : Rp K F u e) : eqV v u = PyData.eqv d e := by
  cases rv <;> cases ru <;> first | rfl | (simp [eqV, PyData.eqv]; done) | exact absurd h Bool.false_ne_true | exact absurd h' Bool.false_ne_true
theorem flats_of {K : PySem.W.Frag} {F : Hp} : ∀ {vs : List V} {ds : List D}, RpA K F vs ds → vs.all flatV = ds.all flatD
  | _, _, .nil => rfl
  | _, _, .cons r t => by rw [List.all_cons, List.all_cons, flat_of r, flats_of t]
theorem inV_of {K : PySem.W.Frag} {F : Hp} {v : V} {d : D} (h : flatD d = true) (rv : Rp K F v d) : ∀ {vs : List V} {ds : List D}, RpA K F vs ds → ds.all flatD = true → inV v vs = ds.any fun z => PyData.eqv z d
  | _, _, .nil, _ => rfl
  | _, _, .cons r t, ha => by
    rw [List.all_cons, Bool.and_eq_true] at ha
    show (eqV _ v || inV v _) = _
    rw [List.any_cons, inV_of h rv t ha.2, eqv_of ha.1 h r rv]
def inW (neg : Bool) (x y : Wv) (μ : Sto) : Rs Wv := match x, y with
  | .d d, .d (.tuple ds) => if flatD d = true ∧ ds.all flatD = true then .ok (.d (.bool (if neg then !(ds.any fun z => PyData.eqv z d) else ds.any fun z => PyData.eqv z d))) μ else .no
  | .d d, .d (.list ds) => if (flatD d = true ∧ ds.all flatD = true) ∨ (SeqAt.shaped d = true ∧ SeqAt.shaped (.list ds) = true) then .ok (.d (.bool (if neg then !(ds.any fun z => PyData.eqv z d) else ds.any fun z => PyData.eqv z d))) μ else .no
  | _, _ => .no
theorem inW_nx (neg : Bool) : NoEx (inW neg) := fun x y μ e ν q => by
  unfold inW at q
  split at q <;> first | cases q | (split at q <;> cases q)
theorem ok_in : OkR X (fun x y H Q => rIn X.K false x y H Q ∨ rInD X.K x y H Q) (inW false) := fun x y v u S μ hS hx hy Q hp => by
  unfold inW at hp
  split at hp
  · rename_i d ds
    split at hp
    · rename_i hf
      obtain ⟨p, xs, rfl, ha, ra⟩ := rp_tup_inv hy
      exact .inl ⟨p, xs, rfl, .inr (.inl (sb_rd hS.sub ha)), by rw [flat_of hx]; exact hf.1, by rw [flats_of ra]; exact hf.2, hp _ S (Ext.refl S) hS (by rw [inV_of hf.1 hx ra hf.2]; exact .bl _)⟩
    · exact hp.elim
  · rename_i d ds
    split at hp
    · rename_i hf
      rcases hf with hf | hf
      · obtain ⟨p, xs, rfl, ha, ra⟩ := rp_lst_inv hy
        exact .inl ⟨p, xs, rfl, .inl (.inl (.inl (hS.sub _ _ ha))), by rw [flat_of hx]; exact hf.1, by rw [flats_of ra]; exact hf.2, hp _ S (Ext.refl S) hS (by rw [inV_of hf.1 hx ra hf.2]; exact .bl _)⟩
      · exact .inr ⟨d, ds, Rp.dp hS.sub _ _ hx, Rp.dp hS.sub _ _ hy, hf.1, hf.2, hp _ S (Ext.refl S) hS (.bl _)⟩
    · exact hp.elim
  · exact hp.elim
theorem ok_notin : OkR X (fun x y H Q => rIn X.K true x y H Q ∨ rNotInD X.K x y H Q) (inW true) := fun x y v u S μ hS hx hy Q hp => by
  unfold inW at hp
  split at hp
  · rename_i d ds
    split at hp
    · rename_i hf
      obtain ⟨p, xs, rfl, ha, ra⟩ := rp_tup_inv hy
      exact .inl ⟨p, xs, rfl, .inr (.inl (sb_rd hS.sub ha)), by rw [flat_of hx]; exact hf.1, by rw [flats_of ra]; exact hf.2, hp _ S (Ext.refl S) hS (by rw [inV_of hf.1 hx ra hf.2]; exact .bl _)⟩
    · exact hp.elim
  · rename_i d ds
    split at hp
    · rename_i hf
      rcases hf with hf | hf
      · obtain ⟨p, xs, rfl, ha, ra⟩ := rp_lst_inv hy
        exact .inl ⟨p, xs, rfl, .inl (.inl (.inl (hS.sub _ _ ha))), by rw [flat_of hx]; exact hf.1, by rw [flats_of ra]; exact hf.2, hp _ S (Ext.refl S) hS (by rw [inV_of hf.1 hx ra hf.2]; exact .bl _)⟩
      · exact .inr ⟨d, ds, Rp.dp hS.sub _ _ hx, Rp.dp hS.sub _ _ hy, hf.1, hf.2, hp _ S (Ext.refl S) hS (.bl _)⟩
    · exact hp.elim
  · exact hp.elim
theorem c_in (hu : X.A.units + 65 < cLine) (ha : CEx X W a f) (hb : CEx X W b g) (hm : behindInMarks .In b = false := by rfl) : CEx X W (.Compare a [.In] [b] pos) (fOp (inW false) f g) := c_cmp (OpR.or op_in_seq (op_inD hu)) ok_in (inW_nx _) ha hb hm
theorem ct_in (hu : X.A.units + 65 < cLine) (ha : CEx X W a f) (hb : CEx X W b g) (hm : behindInMarks .In b = false := by rfl) : CT X W (.Compare a [.In] [b] pos) (fB (fOp (inW false) f g)) := ct_cmp (OpR.or op_in_seq (op_inD hu)) ok_in (inW_nx _) ha hb hm
theorem c_notin (hu : X.A.units + 65 < cLine) (ha : CEx X W a f) (hb : CEx X W b g) (hm : behindInMarks .NotIn b = false := by rfl) : CEx X W (.Compare a [.NotIn] [b] pos) (fOp (inW true) f g) := c_cmp (OpR.or op_notIn_seq (op_notInD hu)) ok_notin (inW_nx _) ha hb hm
theorem ct_notin (hu : X.A.units + 65 < cLine) (ha : CEx X W a f) (hb : CEx X W b g) (hm : behindInMarks .NotIn b = false := by rfl) : CT X W (.Compare a [.NotIn] [b] pos) (fB (fOp (inW true) f g)) := ct_cmp (OpR.or op_notIn_seq (op_notInD hu)) ok_notin (inW_nx _) ha hb hm
end
end
end Ped

/-! Ped3: places, slices, chains, built-in calls, calls of defs -/
namespace Ped
open PySem L2
section
variable {X : Cx} {W : WX}

/-! ### places -/
def ixW (x y : Wv) (μ : Sto) : Rs Wv := match x, y with
  | .d (.list xs), .d (.int i) => (match atI xs i with | some d => .ok (.d d) μ | none => .no)
  | .d (.tuple xs), .d (.int i) => (match atI xs i with | some d => .ok (.d d) μ | none => .no)
  | .l n, .d (.int i) => (match μ[n]? with
    | some (.lst ws) => (match atI ws i with | some w => .ok w μ | none => .no)
    | _ => .no)
  | .s ns, .d (.int i) => (match atI ns i with | some k => .ok (.d (.int k)) μ | none => .no)
  | _, _ => .no
theorem ixW_nx : NoEx ixW := fun x y μ e ν q => by
  unfold ixW at q
  split at q
  · split at q <;> cases q
  · split at q <;> cases q
  · split at q
    · split at q <;> cases q
    · cases q
  · split at q <;> cases q
  · cases q
theorem atI_len {α β : Type} {xs : List α} {ys : List β} (h : xs.length = ys.length) (i : Int) : ixN xs.length i = ixN ys.length i := by rw [h]
theorem atI_some {α : Type} {xs : List α} {i : Int} {v : α} (h : atI xs i = some v) : ∃ j, ixN xs.length i = some j ∧ xs[j]? = some v := by
  unfold atI at h
  cases e : ixN xs.length i with
  | none => rw [e] at h; cases h
  | some j => rw [e] at h; exact ⟨j, rfl, h⟩
theorem atI_of {α : Type} {xs : List α} {i : Int} {j : Nat} {v : α} (h : ixN xs.length i = some j) (hv : xs[j]? = some v) : atI xs i = some v := by
  unfold atI
  rw [h]
  exact hv
theorem rpA_at {K : PySem.W.Frag} {F : Hp} {vs : List V} {ds : List D} {i : Int} {d : D} (r : RpA K F vs ds) (h : atI ds i = some d) : ∃ v, atI vs i = some v ∧ Rp K F v d := by
  obtain ⟨j, h1, h2⟩ := atI_some h
  obtain ⟨v, h3, h4⟩ := r.get h2
  exact ⟨v, atI_of (by rw [r.len]; exact h1) h3, h4⟩
theorem rws_get {K : PySem.W.Frag} {S : Sta} : ∀ {vs : List V} {ws : List Wv} {i : Nat} {d : Wv}, RWs K S vs ws → ws[i]? = some d → ∃ v, vs[i]? = some v ∧ RW K S v d
  | _, _, _, _, .nil, e => by simp at e
  | _, _, 0, _, .cons r _, e => by simp at e; subst e; exact ⟨_, rfl, r⟩
  | _, _, i + 1, d, .cons _ t, e => by
    obtain ⟨v, h1, h2⟩ := rws_get (i := i) (d := d) t (by simpa using e)
    exact ⟨v, by simpa using h1, h2⟩
theorem rws_at {K : PySem.W.Frag} {S : Sta} {vs : List V} {ws : List Wv} {i : Int} {d : Wv} (r : RWs K S vs ws) (h : atI ws i = some d) : ∃ v, atI vs i = some v ∧ RW K S v d := by
  obtain ⟨j, h1, h2⟩ := atI_some h
  obtain ⟨v, h3, h4⟩ := rws_get r h2
  exact ⟨v, atI_of (by rw [rws_len r]; exact h1) h3, h4⟩
theorem ok_ix : OkR X (rIx X.K) ixW := fun x y v u S μ hS hx hy Q hp => by
  unfold ixW at hp
  split at hp
  · rename_i xs i
    split at hp
    · obtain ⟨p, vs, rfl, ha, ra⟩ := rp_lst_inv hx
      cases hy
      obtain ⟨w, h1, h2⟩ := rpA_at ra (by assumption)
      exact .inl ⟨p, vs, i, w, rfl, rfl, .inl (.inl (hS.sub _ _ ha)), h1, hp _ S (Ext.refl S) hS h2⟩
    · exact hp.elim
  · rename_i xs i
    split at hp
    · obtain ⟨p, vs, rfl, ha, ra⟩ := rp_tup_inv hx
      cases hy
      obtain ⟨w, h1, h2⟩ := rpA_at ra (by assumption)
      exact .inr (.inl ⟨p, vs, i, w, rfl, rfl, .inl (sb_rd hS.sub ha), h1, hp _ S (Ext.refl S) hS h2⟩)
    · exact hp.elim
  · rename_i n i
    obtain ⟨a, hL, rfl⟩ := hx
    cases hy
    split at hp
    · rename_i ws hm
      split at hp
      · obtain ⟨vs, h1, h2⟩ := hS.ob n a _ hL hm
        obtain ⟨w, h3, h4⟩ := rws_at h2 (by assumption)
        exact .inl ⟨a, vs, i, w, rfl, rfl, .inl (.inl h1), h3, hp _ S (Ext.refl S) hS h4⟩
      · exact hp.elim
    · exact hp.elim
  · rename_i ns i
    obtain ⟨a, hL, rfl⟩ := hx
    cases hy
    split at hp
    · rename_i k hk
      obtain ⟨j, h3, h4⟩ := atI_some hk
      exact .inl ⟨a, ns.map V.int, i, .int k, rfl, rfl, sb_l hS.sub hL, atI_of (by rw [List.length_map]; exact h3) (by rw [List.getElem?_map, h4]; rfl), hp _ S (Ext.refl S) hS (.int k)⟩
    · exact hp.elim
  · exact hp.elim
theorem c_ix {a b : Expr} {f g : FE} {pos : Pos} (ha : CEx X W a f) (hb : CEx X W b g) (hs : PlainIx b := by intro _ _; rfl) : CEx X W (.Subscript a b pos) (fOp ixW f g) := by
  obtain ⟨ta, pa, qa⟩ := ha
  obtain ⟨tb, pb, qb⟩ := hb
  exact ⟨_, pe_ix ix_seq pa pb hs, op_core ok_ix ixW_nx qa qb⟩

/-! ### slices -/
def FO := Env → Sto → Rs (Option Int)
def CO (X : Cx) (W : WX) (e : Option Expr) (f : FO) : Prop := ∃ t : TO, PO X e t ∧ ∀ env σ S μ, EnvR X.K X.N.length S env σ → HS X.K S μ → ∀ Q : Option Int → Hp → Prop, (f env μ).Post (fun o μ' => ∀ S', Ext S S' → HS X.K S' μ' → Q o S'.H) (PEx X.K W σ S) → t σ S.H Q
def fO0 : FO := fun _ μ => .ok none μ
def fO1 (f : FE) : FO := fun env μ => (f env μ).bind fun w μ1 => match w with
  | .d (.int i) => .ok (some i) μ1
  | _ => .no
theorem co_none : CO X W none fO0 := ⟨_, po_none, fun _ _ S _ _ hs _ h => h S (Ext.refl S) hs⟩
theorem co_some {e : Expr} {f : FE} (h : CEx X W e f) : CO X W (some e) (fO1 f) := by
  obtain ⟨t, p, q⟩ := h
  refine ⟨_, po_some p, fun env σ S μ he hS Q hp => ?_⟩
  unfold fO1 at hp
  rw [Rs.post_bind] at hp
  refine q env σ S μ he hS _ (hp.mono (fun w μ1 h1 v S1 e1 hS1 r1 => ?_) fun _ _ z => z)
  split at h1
  · cases r1
    exact ⟨_, rfl, h1 S1 e1 hS1⟩
  · exact h1.elim
/-- the items of xs[lo:hi] -/
def cut {α : Type} (xs : List α) (lo hi : Option Int) : List α := (xs.drop (HT.sIx xs.length 0 lo)).take (HT.sIx xs.length xs.length hi - HT.sIx xs.length 0 lo)
theorem cut_V (xs : List V) (lo hi : Option Int) : cutV xs lo hi = cut xs lo hi := rfl
theorem rpA_cut {K : PySem.W.Frag} {F : Hp} {vs : List V} {ds : List D} (r : RpA K F vs ds) (lo hi : Option Int) : RpA K F (cutV vs lo hi) (cut ds lo hi) := by
  unfold cutV cut
  rw [r.len]
  exact (r.drop _).take _
theorem cut_all {α : Type} {xs : List α} {lo hi : Option Int} (h : HT.sIx xs.length 0 lo = 0 ∧ HT.sIx xs.length xs.length hi = xs.length) : cut xs lo hi = xs := by
  unfold cut
  rw [h.1, h.2]
  simp
def slW (x : Wv) (lo hi : Option Int) (μ : Sto) : Rs Wv := match x with
  | .d (.list xs) => .ok (.d (.list (cut xs lo hi))) μ
  | .d (.tuple xs) => .ok (.d (.tuple (cut xs lo hi))) μ
  | .d (.str z) => if z.length ≤ LIM then .ok (.d (.str (cutS z lo hi))) μ else .no
  | _ => .no
def fSl (f : FE) (g h : FO) : FE := fun env μ => (f env μ).bind fun x μ1 => (g env μ1).bind fun lo μ2 => (h env μ2).bind fun hi μ3 => slW x lo hi μ3
/-- t[lo:hi] -/
theorem sl_tup2 : SlR X (fun x lo hi H Q => ∃ a xs, x = .ref a ∧ SqT X.K H a xs ∧ ((HT.sIx xs.length 0 lo = 0 ∧ HT.sIx xs.length xs.length hi = xs.length) → Q (.ref a) H) ∧ (¬ (HT.sIx xs.length 0 lo = 0 ∧ HT.sIx xs.length xs.length hi = xs.length) → T2 H Q (cutV xs lo hi))) := by
  intro pins s σ H x v vl vu lo hi sl Q I rx hs pl pu h
  obtain ⟨a, xs, rfl, hx, q1, q2⟩ := h
  obtain rfl : v = Value.ref a := rx
  obtain ⟨its, r, ht, hz⟩ := I.tuple hx
  have el : its.toArray.size = xs.length := List.size_toArray.trans r.length.symm
  refine ⟨"tuple", _, PyProof.Rows.slot_tuple_getitem.lookup, ht.typeIs, ?_⟩
  by_cases whole : HT.sIx xs.length 0 lo = 0 ∧ HT.sIx xs.length xs.length hi = xs.length
  · exact getItem_tuple_whole ht hs pl pu (el.symm ▸ whole) ⟨.ref a, H, I, rfl, q1 whole⟩
  · refine HT.getItem_tuple_cut ht hs pl pu (el.symm ▸ whole) ?_ (el.symm ▸ hz)
    rw [el]
    exact fin2 I ((r.drop _).take _) (Nat.le_trans (cutV_length xs lo hi) hz) (q2 whole)
theorem c_slice {e : Expr} {lo hi : Option Expr} {f : FE} {g h : FO} {p2 pos : Pos} (he : CEx X W e f) (hl : CO X W lo g) (hh : CO X W hi h) : CEx X W (.Subscript e (.Slice lo hi none p2) pos) (fSl f g h) := by
  obtain ⟨te, pe, qe⟩ := he
  obtain ⟨tl, pl, ql⟩ := hl
  obtain ⟨th, ph, qh⟩ := hh
  refine ⟨_, pe_slice (SlR.or sl_list (SlR.or sl_tup2 sl_str)) pe pl ph, fun env σ S μ he hS Q hp => ?_⟩
  unfold fSl at hp
  rw [Rs.post_bind] at hp
  refine qe env σ S μ he hS _ (hp.mono (fun x μ1 h1 v S1 e1 hS1 r1 => ?_) fun _ _ z => z)
  rw [Rs.post_bind] at h1
  refine ql env σ S1 μ1 (he.mono e1) hS1 _ (h1.mono (fun o μ2 h2 S2 e2 hS2 => ?_) fun _ _ z => z.mono e1)
  rw [Rs.post_bind] at h2
  refine qh env σ S2 μ2 (he.mono (e1.trans e2)) hS2 _ (h2.mono (fun o' μ3 h3 S3 e3 hS3 => ?_) fun _ _ z => z.mono (e1.trans e2))
  have r3 := r1.mono (e2.trans e3)
  have k := e1.trans (e2.trans e3)
  unfold slW at h3
  split at h3
  · obtain ⟨a, xs, rfl, ha, ra⟩ := rp_lst_inv r3
    exact .inl ⟨a, xs, rfl, .inl (.inl (hS3.sub _ _ ha)), new_lst hS3 (rpA_cut ra o o') (POk.mono k h3)⟩
  · obtain ⟨a, xs, rfl, ha, ra⟩ := rp_tup_inv r3
    refine .inr (.inl ⟨a, xs, rfl, .inl (sb_rd hS3.sub ha), fun hw => ?_, fun _ => new_tup hS3 (rpA_cut ra o o') (POk.mono k h3)⟩)
    rw [ra.len] at hw
    rw [cut_all hw] at h3
    exact h3 _ S3 k hS3 r3
  · split at h3
    · cases r3
      exact .inr (.inr ⟨_, rfl, lim_line (by assumption), h3 _ S3 k hS3 (.str _)⟩)
    · exact h3.elim
  · exact h3.elim

/-! ### a op b op c -/
def fChain (h h' : Wv → Wv → Sto → Rs Wv) (f g k : FE) : FE := fun env μ => (f env μ).bind fun x μ1 => (g env μ1).bind fun y μ2 => ((h x y μ2).bind asB).bind fun b μ3 => if b = true then (k env μ3).bind fun z μ4 => h' y z μ4 else .ok (.d (.bool false)) μ3
theorem chain_core {ta tb tc : TE} {r r' : R2} {f g k : FE} {h h' : Wv → Wv → Sto → Rs Wv} (ok : OkR X r h) (nx : NoEx h) (ok' : OkR X r' h') (nx' : NoEx h')
    (qa : ∀ env σ S μ, EnvR X.K X.N.length S env σ → HS X.K S μ → ∀ Q : VK, (f env μ).Post (POk X.K S Q) (PEx X.K W σ S) → ta σ S.H Q)
    (qb : ∀ env σ S μ, EnvR X.K X.N.length S env σ → HS X.K S μ → ∀ Q : VK, (g env μ).Post (POk X.K S Q) (PEx X.K W σ S) → tb σ S.H Q)
    (qc : ∀ env σ S μ, EnvR X.K X.N.length S env σ → HS X.K S μ → ∀ Q : VK, (k env μ).Post (POk X.K S Q) (PEx X.K W σ S) → tc σ S.H Q) :
    ∀ env σ S μ, EnvR X.K X.N.length S env σ → HS X.K S μ → ∀ Q : VK, (fChain h h' f g k env μ).Post (POk X.K S Q) (PEx X.K W σ S) → tChain r r' ta tb tc σ S.H Q := fun env σ S μ he hS Q hp => by
  unfold fChain at hp
  rw [Rs.post_bind] at hp
  refine qa env σ S μ he hS _ (hp.mono (fun x μ1 h1 v S1 e1 hS1 r1 => ?_) fun _ _ z => z)
  rw [Rs.post_bind] at h1
  refine qb env σ S1 μ1 (he.mono e1) hS1 _ (h1.mono (fun y μ2 h2 u S2 e2 hS2 r2 => ?_) fun _ _ z => z.mono e1)
  rw [Rs.post_bind, Rs.post_bind] at h2
  refine ok x y v u S2 μ2 hS2 (r1.mono e2) r2 _ (rs_noex (h2.mono (fun w μ3 h3 z S3 e3 hS3 r3 => ?_) fun _ _ z => z) (nx x y μ2))
  obtain ⟨b, rfl, h4⟩ := asB_post h3
  cases r3
  refine ⟨b, rfl, ?_⟩
  cases b with
  | true =>
    rw [if_pos rfl] at h4 ⊢
    rw [Rs.post_bind] at h4
    refine qc env σ S3 μ3 (he.mono (e1.trans (e2.trans e3))) hS3 _ (h4.mono (fun z μ4 h5 w S4 e4 hS4 r4 => ?_) fun _ _ z => z.mono (e1.trans (e2.trans e3)))
    exact ok' y z u w S4 μ4 hS4 (r2.mono (e3.trans e4)) r4 Q (rs_noex (h5.mono (fun a ν p => POk.mono (e1.trans (e2.trans (e3.trans e4))) p) fun _ _ z => z) (nx' y z μ4))
  | false =>
    rw [if_neg Bool.false_ne_true] at h4 ⊢
    exact h4 _ S3 (e1.trans (e2.trans e3)) hS3 (.bl false)
section
variable {op op' : CmpOp} {a b c : Expr} {f g k : FE} {pos : Pos} {r r' : R2} {h h' : Wv → Wv → Sto → Rs Wv}
theorem c_chain (ho : OpR X (compareOp op) r) (ok : OkR X r h) (nx : NoEx h) (ho' : OpR X (compareOp op') r') (ok' : OkR X r' h') (nx' : NoEx h') (ha : CEx X W a f) (hb : CEx X W b g) (hc : CEx X W c k) (hm : lastMarks [op, op'] [b, c] = false := by with_unfolding_all rfl) :
    CEx X W (.Compare a [op, op'] [b, c] pos) (fChain h h' f g k) := by
  obtain ⟨ta, pa, qa⟩ := ha
  obtain ⟨tb, pb, qb⟩ := hb
  obtain ⟨tc, pc, qc⟩ := hc
  exact ⟨_, pe_chain ho ho' pa pb pc hm, chain_core ok nx ok' nx' qa qb qc⟩
theorem ct_chain (ho : OpR X (compareOp op) r) (ok : OkR X r h) (nx : NoEx h) (ho' : OpR X (compareOp op') r') (ok' : OkR X r' h') (nx' : NoEx h') (ha : CEx X W a f) (hb : CEx X W b g) (hc : CEx X W c k) (hm : lastMarks [op, op'] [b, c] = false := by with_unfolding_all rfl) :
    CT X W (.Compare a [op, op'] [b, c] pos) (fB (fChain h h' f g k)) := by
  obtain ⟨ta, pa, qa⟩ := ha
  obtain ⟨tb, pb, qb⟩ := hb
  obtain ⟨tc, pc, qc⟩ := hc
  exact ⟨_, pt_chain ho ho' pa pb pc hm, b_core (chain_core ok nx ok' nx' qa qb qc)⟩
abbrev leW := cmpW fun i j => decide (i ≤ j)
abbrev ltW := cmpW fun i j => decide (i < j)
theorem c_lele (ha : CEx X W a f) (hb : CEx X W b g) (hc : CEx X W c k) (hm : lastMarks [.LtE, .LtE] [b, c] = false := by with_unfolding_all rfl) : CEx X W (.Compare a [.LtE, .LtE] [b, c] pos) (fChain leW leW f g k) := c_chain op_le ok_B0 (opI_nx _) op_le ok_B0 (opI_nx _) ha hb hc hm
theorem c_lelt (ha : CEx X W a f) (hb : CEx X W b g) (hc : CEx X W c k) (hm : lastMarks [.LtE, .Lt] [b, c] = false := by with_unfolding_all rfl) : CEx X W (.Compare a [.LtE, .Lt] [b, c] pos) (fChain leW ltW f g k) := c_chain op_le ok_B0 (opI_nx _) op_lt ok_B0 (opI_nx _) ha hb hc hm
theorem ct_lele (ha : CEx X W a f) (hb : CEx X W b g) (hc : CEx X W c k) (hm : lastMarks [.LtE, .LtE] [b, c] = false := by with_unfolding_all rfl) : CT X W (.Compare a [.LtE, .LtE] [b, c] pos) (fB (fChain leW leW f g k)) := ct_chain op_le ok_B0 (opI_nx _) op_le ok_B0 (opI_nx _) ha hb hc hm
theorem ct_lelt (ha : CEx X W a f) (hb : CEx X W b g) (hc : CEx X W c k) (hm : lastMarks [.LtE, .Lt] [b, c] = false := by with_unfolding_all rfl) : CT X W (.Compare a [.LtE, .Lt] [b, c] pos) (fB (fChain leW ltW f g k)) := ct_chain op_le ok_B0 (opI_nx _) op_lt ok_B0 (opI_nx _) ha hb hc hm
end

/-! ### built-in calls -/
abbrev TCall := List V → Hp → VK → Prop
def OkC (X : Cx) (r : TCall) (h : List Wv → Sto → Rs Wv) : Prop := ∀ ws vs S μ, HS X.K S μ → RWs X.K S vs ws → ∀ Q : VK, (h ws μ).Post (POk X.K S Q) (fun _ _ => False) → r vs S.H Q
def NoExC (h : List Wv → Sto → Rs Wv) : Prop := ∀ ws μ e ν, h ws μ ≠ .ex e ν
def fCall (h : List Wv → Sto → Rs Wv) (g : FA) : FE := fun env μ => (g env μ).bind h
theorem call_core {r : TCall} {t : TA} {h : List Wv → Sto → Rs Wv} {g : FA} (ok : OkC X r h) (nx : NoExC h)
    (q : ∀ env σ S μ, EnvR X.K X.N.length S env σ → HS X.K S μ → ∀ Q : List V → Hp → Prop, (g env μ).Post (fun ws μ' => ∀ vs S', Ext S S' → HS X.K S' μ' → RWs X.K S' vs ws → Q vs S'.H) (PEx X.K W σ S) → t σ S.H Q) :
    ∀ env σ S μ, EnvR X.K X.N.length S env σ → HS X.K S μ → ∀ Q : VK, (fCall h g env μ).Post (POk X.K S Q) (PEx X.K W σ S) → tCB r t σ S.H Q := fun env σ S μ he hS Q hp => by
  unfold fCall at hp
  rw [Rs.post_bind] at hp
  refine q env σ S μ he hS _ (hp.mono (fun ws μ1 h1 vs S1 e1 hS1 r1 => ?_) fun _ _ z => z)
  exact ok ws vs S1 μ1 hS1 r1 Q (rs_noex (h1.mono (fun a ν p => POk.mono e1 p) fun _ _ z => z) (nx ws μ1))
section
variable {x : Str} {p pos : Pos} {e : Expr} {es : List Expr} {id : String} {T : String} {g : FA} {r : TCall} {h : List Wv → Sto → Rs Wv}
theorem c_callB (hc : CallR X (.builtin id) r) (ok : OkC X r h) (nx : NoExC h) (hg : Gl X x) (hm : X.mg x = none) (hv : bootBuiltins x = some (.builtin id)) (ha : CA X W (e :: es) g) (hn : x ≠ "__name__" := by decide) (hdb : (x == ("__debug__" : Str)) = false := by decide)
    (he : starEach (e :: es) X.env = (false, eval e X.env) :: starEach es X.env := by rfl) (hpl : (backTo pos (starEach es X.env)).any (·.1) = false := by rfl) : CEx X W (.Call (.Name x p) (e :: es) [] pos) (fCall h g) := by
  obtain ⟨t, pa, q⟩ := ha
  exact ⟨_, pe_callB hc hg hm hv pa hn hdb he hpl, call_core ok nx q⟩
theorem c_callTy (hc : CallR X (.type T) r) (ok : OkC X r h) (nx : NoExC h) (hg : Gl X x) (hm : X.mg x = none) (hv : bootBuiltins x = some (.type T)) (ha : CA X W (e :: es) g) (hn : x ≠ "__name__" := by decide) (hdb : (x == ("__debug__" : Str)) = false := by decide)
    (he : starEach (e :: es) X.env = (false, eval e X.env) :: starEach es X.env := by rfl) (hpl : (backTo pos (starEach es X.env)).any (·.1) = false := by rfl) : CEx X W (.Call (.Name x p) (e :: es) [] pos) (fCall h g) := by
  obtain ⟨t, pa, q⟩ := ha
  exact ⟨_, pe_callTy hc hg hm hv pa hn hdb he hpl, call_core ok nx q⟩
end
/-- a built-in of ints alone -/
def k1I (h : Int → D) (ws : List Wv) (μ : Sto) : Rs Wv := match ws with
  | [.d (.int i)] => .ok (.d (h i)) μ
  | _ => .no
def k2I (h : Int → Int → D) (ws : List Wv) (μ : Sto) : Rs Wv := match ws with
  | [.d (.int i), .d (.int j)] => .ok (.d (h i j)) μ
  | _ => .no
theorem k1I_nx (h : Int → D) : NoExC (k1I h) := fun ws μ e ν q => by
  unfold k1I at q
  split at q <;> cases q
theorem k2I_nx (h : Int → Int → D) : NoExC (k2I h) := fun ws μ e ν q => by
  unfold k2I at q
  split at q <;> cases q
theorem rws1 {K : PySem.W.Frag} {S : Sta} {vs : List V} {w : Wv} (h : RWs K S vs [w]) : ∃ v, vs = [v] ∧ RW K S v w := by
  cases h with
  | cons r t => cases t; exact ⟨_, rfl, r⟩
theorem rws2 {K : PySem.W.Frag} {S : Sta} {vs : List V} {w z : Wv} (h : RWs K S vs [w, z]) : ∃ v u, vs = [v, u] ∧ RW K S v w ∧ RW K S u z := by
  cases h with
  | cons r t =>
    obtain ⟨u, rfl, q⟩ := rws1 t
    exact ⟨_, _, rfl, r, q⟩
def kAbs := k1I fun i => .int (if i < 0 then -i else i)
def kMax2 := k2I fun i j => .int (if j > i then j else i)
def kMin2 := k2I fun i j => .int (if j < i then j else i)
theorem ok_abs : OkC X (fun xs H Q => ∃ i, xs = [.int i] ∧ Q (.int (if i < 0 then -i else i)) H) kAbs := fun ws vs S μ hS r Q hp => by
  unfold kAbs k1I at hp
  split at hp
  · obtain ⟨v, rfl, h⟩ := rws1 r
    cases h
    exact ⟨_, rfl, hp _ S (Ext.refl S) hS (.int _)⟩
  · exact hp.elim
theorem ok_max2 : OkC X (fun xs H Q => ∃ i j, xs = [.int i, .int j] ∧ Q (.int (if j > i then j else i)) H) kMax2 := fun ws vs S μ hS r Q hp => by
  unfold kMax2 k2I at hp
  split at hp
  · obtain ⟨v, u, rfl, h1, h2⟩ := rws2 r
    cases h1
    cases h2
    exact ⟨_, _, rfl, hp _ S (Ext.refl S) hS (.int _)⟩
  · exact hp.elim
theorem ok_min2 : OkC X (fun xs H Q => ∃ i j, xs = [.int i, .int j] ∧ Q (.int (if j < i then j else i)) H) kMin2 := fun ws vs S μ hS r Q hp => by
  unfold kMin2 k2I at hp
  split at hp
  · obtain ⟨v, u, rfl, h1, h2⟩ := rws2 r
    cases h1
    cases h2
    exact ⟨_, _, rfl, hp _ S (Ext.refl S) hS (.int _)⟩
  · exact hp.elim
/-- int(x) of an int or a bool -/
def kInt (ws : List Wv) (μ : Sto) : Rs Wv := match ws with
  | [.d (.int i)] => .ok (.d (.int i)) μ
  | [.d (.bool b)] => .ok (.d (.int (if b then 1 else 0))) μ
  | _ => .no
theorem kInt_nx : NoExC kInt := fun ws μ e ν q => by
  unfold kInt at q
  split at q <;> cases q
theorem ok_int : OkC X (fun xs H Q => (∃ i, xs = [.int i] ∧ Q (.int i) H) ∨ ∃ k, xs = [.bl k] ∧ Q (.int (if k then 1 else 0)) H) kInt := fun ws vs S μ hS r Q hp => by
  unfold kInt at hp
  split at hp
  · obtain ⟨v, rfl, h⟩ := rws1 r
    cases h
    exact .inl ⟨_, rfl, hp _ S (Ext.refl S) hS (.int _)⟩
  · obtain ⟨v, rfl, h⟩ := rws1 r
    cases h
    exact .inr ⟨_, rfl, hp _ S (Ext.refl S) hS (.int _)⟩
  · exact hp.elim
/-- len(x) -/
def kLen (ws : List Wv) (μ : Sto) : Rs Wv := match ws with
  | [.d (.list xs)] => .ok (.d (.int xs.length)) μ
  | [.d (.tuple xs)] => .ok (.d (.int xs.length)) μ
  | [.d (.str z)] => if z.length ≤ LIM then .ok (.d (.int z.length)) μ else .no
  | [.l n] => (match μ[n]? with
    | some (.lst ws) => .ok (.d (.int ws.length)) μ
    | _ => .no)
  | [.s ns] => .ok (.d (.int ns.length)) μ
  | _ => .no
theorem kLen_nx : NoExC kLen := fun ws μ e ν q => by
  unfold kLen at q
  split at q <;> first | cases q | (split at q <;> cases q)
theorem ok_len : OkC X (fun xs H Q => ∃ x n, xs = [x] ∧ LenV X.K x H n ∧ Q (.int n) H) kLen := fun ws vs S μ hS r Q hp => by
  unfold kLen at hp
  split at hp
  · obtain ⟨v, rfl, h⟩ := rws1 r
    obtain ⟨a, xs, rfl, ha, ra⟩ := rp_lst_inv h
    exact ⟨_, _, rfl, .inl ⟨xs, .inl (.inl (hS.sub _ _ ha)), rfl⟩, by rw [ra.len]; exact hp _ S (Ext.refl S) hS (.int _)⟩
  · obtain ⟨v, rfl, h⟩ := rws1 r
    obtain ⟨a, xs, rfl, ha, ra⟩ := rp_tup_inv h
    exact ⟨_, _, rfl, .inr ⟨xs, .inl (sb_rd hS.sub ha), rfl⟩, by rw [ra.len]; exact hp _ S (Ext.refl S) hS (.int _)⟩
  · split at hp
    · obtain ⟨v, rfl, h⟩ := rws1 r
      cases h
      exact ⟨_, _, rfl, ⟨lim_line (by assumption), rfl⟩, hp _ S (Ext.refl S) hS (.int _)⟩
    · exact hp.elim
  · rename_i n
    obtain ⟨v, rfl, a, hL, rfl⟩ := rws1 r
    split at hp
    · rename_i ws hm
      obtain ⟨xs, h1, h2⟩ := hS.ob n a _ hL hm
      exact ⟨_, _, rfl, .inl ⟨xs, .inl (.inl h1), rfl⟩, by rw [rws_len h2]; exact hp _ S (Ext.refl S) hS (.int _)⟩
    · exact hp.elim
  · obtain ⟨v, rfl, a, hL, rfl⟩ := rws1 r
    exact ⟨_, _, rfl, .inl ⟨_, sb_l hS.sub hL, rfl⟩, by rw [List.length_map]; exact hp _ S (Ext.refl S) hS (.int _)⟩
  · exact hp.elim
/-- sum, max, min, all, any of a list -/
def kInts (h : List Int → Option Int) (ws : List Wv) (μ : Sto) : Rs Wv := match ws with
  | [.d (.list xs)] => (match toInts xs with
    | some ns => (match h ns with | some z => .ok (.d (.int z)) μ | none => .no)
    | none => .no)
  | _ => .no
theorem kInts_nx (h : List Int → Option Int) : NoExC (kInts h) := fun ws μ e ν q => by
  unfold kInts at q
  split at q
  · split at q
    · split at q <;> cases q
    · cases q
  · cases q
theorem kInts_post {h : List Int → Option Int} {ws : List Wv} {μ : Sto} {P : Wv → Sto → Prop} {E : Exn → Sto → Prop} (p : (kInts h ws μ).Post P E) : ∃ ns z, ws = [.d (.list (ns.map PyData.int))] ∧ h ns = some z ∧ P (.d (.int z)) μ := by
  unfold kInts at p
  split at p
  · split at p
    · rename_i hx
      split at p
      · exact ⟨_, _, by rw [toInts_eq hx], by assumption, p⟩
      · exact p.elim
    · exact p.elim
  · exact p.elim
def kSum := kInts fun ns => some ns.sum
theorem ok_sum : OkC X (rSum X.K) kSum := fun ws vs S μ hS r Q hp => by
  obtain ⟨ns, z, rfl, e, p⟩ := kInts_post hp
  obtain ⟨v, rfl, h⟩ := rws1 r
  obtain ⟨a, xs, rfl, ha, ra⟩ := rp_lst_inv h
  obtain rfl := rpA_ints ra
  cases e
  exact ⟨a, ns, rfl, .inl (.inl (hS.sub _ _ ha)), p _ S (Ext.refl S) hS (.int _)⟩
def maxL (ns : List Int) : Option Int := match ns with
  | [] => none
  | x :: r => some (r.foldl max x)
def minL (ns : List Int) : Option Int := match ns with
  | [] => none
  | x :: r => some (r.foldl min x)
theorem foldl_max : ∀ (r : List Int) (x : Int), (r.foldl max x = x ∨ r.foldl max x ∈ r) ∧ x ≤ r.foldl max x ∧ ∀ y ∈ r, y ≤ r.foldl max x
  | [], x => ⟨.inl rfl, Int.le_refl x, fun y h => by cases h⟩
  | a :: r, x => by
    obtain ⟨h1, h2, h3⟩ := foldl_max r (max x a)
    rw [List.foldl_cons]
    refine ⟨?_, by omega, fun y hy => ?_⟩
    · rcases h1 with h1 | h1
      · rcases Int.le_total x a with hxa | hxa
        · rw [Int.max_eq_right hxa] at h1 ⊢
          exact .inr (by rw [h1]; exact List.mem_cons_self)
        · rw [Int.max_eq_left hxa] at h1 ⊢
          exact .inl h1
      · exact .inr (List.mem_cons_of_mem _ h1)
    · rcases List.mem_cons.mp hy with rfl | hy
      · omega
      · exact h3 y hy
theorem foldl_min : ∀ (r : List Int) (x : Int), (r.foldl min x = x ∨ r.foldl min x ∈ r) ∧ r.foldl min x ≤ x ∧ ∀ y ∈ r, r.foldl min x ≤ y
  | [], x => ⟨.inl rfl, Int.le_refl x, fun y h => by cases h⟩
  | a :: r, x => by
    obtain ⟨h1, h2, h3⟩ := foldl_min r (min x a)
    rw [List.foldl_cons]
    refine ⟨?_, by omega, fun y hy => ?_⟩
    · rcases h1 with h1 | h1
      · rcases Int.le_total x a with hxa | hxa
        · rw [Int.min_eq_left hxa] at h1 ⊢
          exact .inl h1
        · rw [Int.min_eq_right hxa] at h1 ⊢
          exact .inr (by rw [h1]; exact List.mem_cons_self)
      · exact .inr (List.mem_cons_of_mem _ h1)
    · rcases List.mem_cons.mp hy with rfl | hy
      · omega
      · exact h3 y hy
theorem maxL_is {ns : List Int} {m z : Int} (hm : m ∈ ns) (hle : ∀ y, y ∈ ns → y ≤ m) (h : maxL ns = some z) : m = z := by
  cases ns with
  | nil => cases h
  | cons x r =>
    obtain rfl : r.foldl max x = z := Option.some.inj h
    obtain ⟨h1, h2, h3⟩ := foldl_max r x
    have a1 : r.foldl max x ≤ m := by
      rcases h1 with h1 | h1
      · rw [h1]; exact hle x List.mem_cons_self
      · exact hle _ (List.mem_cons_of_mem _ h1)
    have a2 : m ≤ r.foldl max x := by
      rcases List.mem_cons.mp hm with rfl | hm
      · exact h2
      · exact h3 m hm
    omega
theorem minL_is {ns : List Int} {m z : Int} (hm : m ∈ ns) (hle : ∀ y, y ∈ ns → m ≤ y) (h : minL ns = some z) : m = z := by
  cases ns with
  | nil => cases h
  | cons x r =>
    obtain rfl : r.foldl min x = z := Option.some.inj h
    obtain ⟨h1, h2, h3⟩ := foldl_min r x
    have a1 : m ≤ r.foldl min x := by
      rcases h1 with h1 | h1
      · rw [h1]; exact hle x List.mem_cons_self
      · exact hle _ (List.mem_cons_of_mem _ h1)
    have a2 : r.foldl min x ≤ m := by
      rcases List.mem_cons.mp hm with rfl | hm
      · exact h2
      · exact h3 m hm
    omega
def kMax := kInts maxL
def kMin := kInts minL
theorem ok_max : OkC X (rMax X.K) kMax := fun ws vs S μ hS r Q hp => by
  obtain ⟨ns, z, rfl, e, p⟩ := kInts_post hp
  obtain ⟨v, rfl, h⟩ := rws1 r
  obtain ⟨a, xs, rfl, ha, ra⟩ := rp_lst_inv h
  obtain rfl := rpA_ints ra
  refine ⟨a, ns, rfl, .inl (.inl (hS.sub _ _ ha)), ?_, fun m hm hle => ?_⟩
  · cases ns with
    | nil => cases e
    | cons x r => exact Nat.succ_pos _
  · rw [maxL_is hm hle e]
    exact p _ S (Ext.refl S) hS (.int _)
theorem ok_min : OkC X (rMin X.K) kMin := fun ws vs S μ hS r Q hp => by
  obtain ⟨ns, z, rfl, e, p⟩ := kInts_post hp
  obtain ⟨v, rfl, h⟩ := rws1 r
  obtain ⟨a, xs, rfl, ha, ra⟩ := rp_lst_inv h
  obtain rfl := rpA_ints ra
  refine ⟨a, ns, rfl, .inl (.inl (hS.sub _ _ ha)), ?_, fun m hm hle => ?_⟩
  · cases ns with
    | nil => cases e
    | cons x r => exact Nat.succ_pos _
  · rw [minL_is hm hle e]
    exact p _ S (Ext.refl S) hS (.int _)
def kBools (h : List Bool → Bool) (ws : List Wv) (μ : Sto) : Rs Wv := match ws with
  | [.d (.list xs)] => (match toBools xs with
    | some ns => .ok (.d (.bool (h ns))) μ
    | none => .no)
  | _ => .no
theorem kBools_nx (h : List Bool → Bool) : NoExC (kBools h) := fun ws μ e ν q => by
  unfold kBools at q
  split at q
  · split at q <;> cases q
  · cases q
theorem kBools_post {h : List Bool → Bool} {ws : List Wv} {μ : Sto} {P : Wv → Sto → Prop} {E : Exn → Sto → Prop} (p : (kBools h ws μ).Post P E) : ∃ ns, ws = [.d (.list (ns.map PyData.bool))] ∧ P (.d (.bool (h ns))) μ := by
  unfold kBools at p
  split at p
  · split at p
    · rename_i hx
      exact ⟨_, by rw [toBools_eq hx], p⟩
    · exact p.elim
  · exact p.elim
def kAll := kBools fun bs => bs.all id
def kAny := kBools fun bs => bs.any id
theorem ok_all : OkC X (rAll X.K) kAll := fun ws vs S μ hS r Q hp => by
  obtain ⟨ns, rfl, p⟩ := kBools_post hp
  obtain ⟨v, rfl, h⟩ := rws1 r
  obtain ⟨a, xs, rfl, ha, ra⟩ := rp_lst_inv h
  obtain rfl := rpA_bools ra
  exact ⟨a, ns, rfl, .inl (.inl (hS.sub _ _ ha)), p _ S (Ext.refl S) hS (.bl _)⟩
theorem ok_any : OkC X (rAny X.K) kAny := fun ws vs S μ hS r Q hp => by
  obtain ⟨ns, rfl, p⟩ := kBools_post hp
  obtain ⟨v, rfl, h⟩ := rws1 r
  obtain ⟨a, xs, rfl, ha, ra⟩ := rp_lst_inv h
  obtain rfl := rpA_bools ra
  exact ⟨a, ns, rfl, .inl (.inl (hS.sub _ _ ha)), p _ S (Ext.refl S) hS (.bl _)⟩
/-- tuple(x), list(x) -/
def kTuple (ws : List Wv) (μ : Sto) : Rs Wv := match ws with
  | [.d (.list xs)] => .ok (.d (.tuple xs)) μ
  | [.d (.tuple xs)] => .ok (.d (.tuple xs)) μ
  | _ => .no
def kList (ws : List Wv) (μ : Sto) : Rs Wv := match ws with
  | [.d (.list xs)] => .ok (.d (.list xs)) μ
  | [.d (.tuple xs)] => .ok (.d (.list xs)) μ
  | _ => .no
theorem kTuple_nx : NoExC kTuple := fun ws μ e ν q => by
  unfold kTuple at q
  split at q <;> cases q
theorem kList_nx : NoExC kList := fun ws μ e ν q => by
  unfold kList at q
  split at q <;> cases q
/-- tuple(x) -/
theorem call_tuple2 : CallR X (.type "tuple") (fun xs H Q => ∃ p ys, xs = [.ref p] ∧ ((SqL X.K H p ys ∧ T2 H Q ys) ∨ (SqT X.K H p ys ∧ Q (.ref p) H))) := by
  intro pins s σ H xs us Q I r h
  obtain ⟨p, ys, rfl, h⟩ := h
  rw [Vals.ref1 r]
  rcases h with ⟨hq, q⟩ | ⟨hq, q⟩
  · obtain ⟨its, rv, pl, hz⟩ := I.list hq
    have hl := rv.length
    exact call_tuple_list pl.isList (fun h' kp => fin2 (s := { s with heap := h' }) (I.kept (t' := s.toks) kp) rv hz q) (by rw [List.size_toArray]; omega)
  · obtain ⟨its, rv, pl, _⟩ := I.tuple hq
    exact call_tuple_same pl ⟨.ref p, H, I, rfl, q⟩
theorem ok_tuple : OkC X (fun xs H Q => ∃ p ys, xs = [.ref p] ∧ ((SqL X.K H p ys ∧ T2 H Q ys) ∨ (SqT X.K H p ys ∧ Q (.ref p) H))) kTuple := fun ws vs S μ hS r Q hp => by
  unfold kTuple at hp
  split at hp
  · obtain ⟨v, rfl, h⟩ := rws1 r
    obtain ⟨a, xs, rfl, ha, ra⟩ := rp_lst_inv h
    exact ⟨a, xs, rfl, .inl ⟨.inl (.inl (hS.sub _ _ ha)), new_tup hS ra hp⟩⟩
  · obtain ⟨v, rfl, h⟩ := rws1 r
    have h0 := h
    obtain ⟨a, xs, rfl, ha, ra⟩ := rp_tup_inv h
    exact ⟨a, xs, rfl, .inr ⟨.inl (sb_rd hS.sub ha), hp _ S (Ext.refl S) hS h0⟩⟩
  · exact hp.elim
theorem ok_list : OkC X (fun xs H Q => ∃ p ys, xs = [.ref p] ∧ (SqL X.K H p ys ∨ SqT X.K H p ys) ∧ ∀ l, H l = none → Q (.ref l) (upd H l (.lst ys))) kList := fun ws vs S μ hS r Q hp => by
  unfold kList at hp
  split at hp
  · obtain ⟨v, rfl, h⟩ := rws1 r
    obtain ⟨a, xs, rfl, ha, ra⟩ := rp_lst_inv h
    exact ⟨a, xs, rfl, .inl (.inl (.inl (hS.sub _ _ ha))), new_lst hS ra hp⟩
  · obtain ⟨v, rfl, h⟩ := rws1 r
    obtain ⟨a, xs, rfl, ha, ra⟩ := rp_tup_inv h
    exact ⟨a, xs, rfl, .inr (.inl (sb_rd hS.sub ha)), new_lst hS ra hp⟩
  · exact hp.elim
/-- isinstance(x, T), T a built-in class -/
def tyD : D → String
  | .none => "NoneType"
  | .bool _ => "bool"
  | .int _ => "int"
  | .str _ => "str"
  | .list _ => "list"
  | .tuple _ => "tuple"
  | .dict _ => "dict"
def isTy (T : String) (d : D) : Bool := tyD d == T || (T == "int" && tyD d == "bool")
def fIsi (T : String) (f : FE) : FE := fun env μ => (f env μ).bind fun w μ1 => match w with
  | .d x => .ok (.d (.bool (isTy T x))) μ1
  | _ => .no
theorem tyX_of {K : PySem.W.Frag} {F H : Hp} (hs : Sb F H) {v : V} {d : D} (h : Rp K F v d) : TyX K H v (.type (tyD d)) := by
  cases h with
  | non => exact .base .non
  | bl b => exact .base (.bl b)
  | int i => exact .base (.int i)
  | str x => exact .base (.str x)
  | lst h1 h2 => exact .base (.lst (hs _ _ h1))
  | tup _ h1 h2 => exact .base (.tup (hs _ _ h1))
  | tun _ h1 _ h2 => exact .fTuple (hs _ _ h1)
theorem c_isi {x T : Str} {Tn : String} {a : Expr} {f : FE} {p q pos : Pos} (hT : bootBuiltins T = some (.type Tn)) (hk : ∀ d : D, kitB (tyD d) Tn = some (isTy Tn d)) (hg : Gl X x) (hm : X.mg x = none) (hv : bootBuiltins x = some (.builtin "isinstance")) (hgT : Gl X T) (hmT : X.mg T = none)
    (ha : CEx X W a f) (hn : x ≠ "__name__" := by decide) (hdb : (x == ("__debug__" : Str)) = false := by decide) (hnT : T ≠ "__name__" := by decide) (hdT : (T == ("__debug__" : Str)) = false := by decide)
    (hs2 : starEach [a, .Name T q] X.env = (false, eval a X.env) :: starEach [.Name T q] X.env := by rfl) (hpl : (backTo pos (starEach [.Name T q] X.env)).any (·.1) = false := by rfl) (hs1 : starEach [.Name T q] X.env = (false, eval (.Name T q) X.env) :: starEach [] X.env := by rfl) : CEx X W (.Call (.Name x p) [a, .Name T q] [] pos) (fIsi Tn f) := by
  obtain ⟨ta, pa, qa⟩ := ha
  refine ⟨_, pe_callB call_isi hg hm hv (pa_cons pa (pa_cons (pe_bltn (v := .ty Tn) hgT hmT hT rfl hnT hdT) pa_nil hs1) hs2) hn hdb hs2 hpl, fun env σ S μ he hS Q hp => ?_⟩
  unfold fIsi at hp
  rw [Rs.post_bind] at hp
  refine qa env σ S μ he hS _ (hp.mono (fun w μ1 h1 v S1 e1 hS1 r1 => ?_) fun _ _ z => z)
  cases w with
  | l n => exact h1.elim
  | s n => exact h1.elim
  | e _ _ => exact h1.elim
  | d d => exact ⟨v, .ty Tn, _, _, isTy Tn d, rfl, .ty Tn, tyX_of hS1.sub r1, kit_ty (hk d), h1 _ S1 e1 hS1 (.bl _)⟩
end
end Ped

/-! Ped4: targets, statements, loops, comprehensions, defs -/
namespace Ped
open PySem L2

/-! ### statements -/
/-- how a statement ends: the names behind it, or what is returned -/
inductive Fl where
  | nx (env : Env)
  | rt (w : Wv)
  | bk (env : Env)
  | ct (env : Env)
abbrev FS := Env → Sto → Rs Fl
abbrev FG := Wv → Env → Sto → Rs Env
def EndOk (K : PySem.W.Frag) (n : Nat) (D : Ends) (S : Sta) (fl : Fl) (μ : Sto) : Prop := match fl with
  | .nx env => ∀ σ S', Ext S S' → HS K S' μ → EnvR K n S' env σ → D.nx σ S'.H
  | .rt w => ∀ v S', Ext S S' → HS K S' μ → RW K S' v w → D.rt v S'.H
  | .bk env => ∀ σ S', Ext S S' → HS K S' μ → EnvR K n S' env σ → D.bk σ S'.H
  | .ct env => ∀ σ S', Ext S S' → HS K S' μ → EnvR K n S' env σ → D.ct σ S'.H
theorem EndOk.mono {K : PySem.W.Frag} {n : Nat} {D : Ends} {S S' : Sta} (e : Ext S S') {fl : Fl} {μ : Sto} (h : EndOk K n D S fl μ) : EndOk K n D S' fl μ := by
  cases fl with
  | nx env => exact fun σ T e' => h σ T (e.trans e')
  | rt w => exact fun σ T e' => h σ T (e.trans e')
  | bk env => exact fun σ T e' => h σ T (e.trans e')
  | ct env => exact fun σ T e' => h σ T (e.trans e')
/-- an exception that leaves a statement: whatever the names hold -/
abbrev PExS (K : PySem.W.Frag) (W : WX) (n : Nat) (S : Sta) : Exn → Sto → Prop := fun x μ => ∀ d (σ : L2.St) S', σ.length = n → Ext S S' → HS K S' μ → ExR K S' x d → W (clsV K x.cls) d σ S'.H
theorem PExS.mono {K : PySem.W.Frag} {W : WX} {n : Nat} {S S' : Sta} (e : Ext S S') {x : Exn} {μ : Sto} (h : PExS K W n S x μ) : PExS K W n S' x μ := fun d σ T l e' hs r => h d σ T l (e.trans e') hs r
theorem PExS.at {K : PySem.W.Frag} {W : WX} {S : Sta} {σ : L2.St} {n : Nat} (hl : σ.length = n) {x : Exn} {μ : Sto} (h : PExS K W n S x μ) : PEx K W σ S x μ := fun d T e' hs r => h d σ T hl e' hs r
def CS (X : Cx) (W : WX) (st : Stmt) (f : FS) : Prop := ∃ t : TS, PS X st t ∧ ∀ env σ S μ, EnvR X.K X.N.length S env σ → HS X.K S μ → ∀ D : Ends, (f env μ).Post (EndOk X.K X.N.length D S) (PExS X.K W X.N.length S) → t D σ S.H
def CB (X : Cx) (W : WX) (st : List Stmt) (f : FS) : Prop := ∃ t : TS, PSs X st t ∧ ∀ env σ S μ, EnvR X.K X.N.length S env σ → HS X.K S μ → ∀ D : Ends, (f env μ).Post (EndOk X.K X.N.length D S) (PExS X.K W X.N.length S) → t D σ S.H
/-- a target; is: the slots that it may change -/
def CG (X : Cx) (tg : Expr) (is : List Nat) (g : FG) : Prop := ∃ t : TG, PG X tg t ∧ ∀ w v env σ S μ, RW X.K S v w → EnvR X.K X.N.length S env σ → HS X.K S μ → ∀ Q : L2.St → Hp → Prop, (g w env μ).Post (fun env' μ' => ∀ σ' S', Ext S S' → HS X.K S' μ' → EnvR X.K X.N.length S' env' σ' → (∀ j, j ∉ is → σ'[j]? = σ[j]?) → Q σ' S'.H) (fun _ _ => False) → t v σ S.H Q
def CGs (X : Cx) (tg : List Expr) (is : List Nat) (g : List D → Env → Sto → Rs Env) : Prop := ∃ t : TGs, PGs X tg t ∧ ∀ ds vs env σ S μ, RpA X.K S.F vs ds → EnvR X.K X.N.length S env σ → HS X.K S μ → ∀ Q : L2.St → Hp → Prop, (g ds env μ).Post (fun env' μ' => ∀ σ' S', Ext S S' → HS X.K S' μ' → EnvR X.K X.N.length S' env' σ' → (∀ j, j ∉ is → σ'[j]? = σ[j]?) → Q σ' S'.H) (fun _ _ => False) → t vs σ S.H Q

theorem EnvR.set {K : PySem.W.Frag} {n : Nat} {S : Sta} {env : Env} {σ : L2.St} (h : EnvR K n S env σ) {i : Nat} {w : Wv} {v : V} (r : RW K S v w) : EnvR K n S (env.set i (some w)) (σ.set i (some v)) := by
  refine ⟨by rw [List.length_set]; exact h.len, by rw [List.length_set]; exact h.lenS, fun j z hj => ?_⟩
  by_cases e : i = j
  · subst e
    by_cases hi : i < env.length
    · rw [List.getElem?_set_self hi] at hj
      cases hj
      exact ⟨v, List.getElem?_set_self (by rw [h.lenS, ← h.len]; exact hi), r⟩
    · rw [List.getElem?_eq_none (by rw [List.length_set]; omega)] at hj
      cases hj
  · rw [List.getElem?_set_ne e] at hj
    obtain ⟨u, h1, h2⟩ := h.val j z hj
    exact ⟨u, by rw [List.getElem?_set_ne e]; exact h1, h2⟩
/-- names are forgotten -/
theorem EnvR.less {K : PySem.W.Frag} {n : Nat} {S : Sta} {env env' : Env} {σ : L2.St} (h : EnvR K n S env σ) (hl : env'.length = env.length) (hs : ∀ (i : Nat) (w : Wv), env'[i]? = some (some w) → env[i]? = some (some w)) : EnvR K n S env' σ :=
  ⟨hl.trans h.len, h.lenS, fun i w e => h.val i w (hs i w e)⟩

section
variable {X : Cx} {W : WX}

/-! ### targets -/
def gVar (i : Nat) : FG := fun w env μ => .ok (env.set i (some w)) μ
theorem cg_name {i : Nat} {x : Str} {pos : Pos} (hN : X.N.Nodup) (hi : X.N[i]? = some x) (hx : Loc X.env.scope x) (hf : X.fn x = true ∨ X.env.scope.names.lookup x = some .local := by first | exact .inl rfl | exact .inr rfl | assumption) : CG X (.Name x pos) [i] (gVar i) :=
  ⟨_, pg_name hN hi hx hf, fun w v env σ S μ r he hS Q h => h (σ.set i (some v)) S (Ext.refl S) hS (he.set r) fun j hj => List.getElem?_set_ne fun e => hj (by simp [e])⟩
def gsNil : List D → Env → Sto → Rs Env := fun ds env μ => match ds with
  | [] => .ok env μ
  | _ => .no
def gsCons (g : FG) (k : List D → Env → Sto → Rs Env) : List D → Env → Sto → Rs Env := fun ds env μ => match ds with
  | [] => .no
  | d :: r => (g (.d d) env μ).bind fun env1 μ1 => k r env1 μ1
theorem cgs_nil : CGs X [] [] gsNil := by
  refine ⟨_, pgs_nil, fun ds vs env σ S μ r he hS Q h => ?_⟩
  cases r with
  | nil => exact ⟨rfl, h σ S (Ext.refl S) hS he fun _ _ => rfl⟩
  | cons _ _ => exact h.elim
theorem cgs_cons {e : Expr} {es : List Expr} {is js : List Nat} {g : FG} {k : List D → Env → Sto → Rs Env} (h1 : CG X e is g) (h2 : CGs X es js k) (hs : (assignEach (e :: es) X.env).map (·.2) = assign e X.env :: (assignEach es X.env).map (·.2) := by rfl) : CGs X (e :: es) (is ++ js) (gsCons g k) := by
  obtain ⟨t, p, q⟩ := h1
  obtain ⟨u, p', q'⟩ := h2
  refine ⟨_, pgs_cons p p' hs, fun ds vs env σ S μ r he hS Q h => ?_⟩
  cases r with
  | nil => exact h.elim
  | cons r t =>
    rename_i v vs d ds
    have h : ((g (.d d) env μ).bind fun env1 μ1 => k ds env1 μ1).Post _ _ := h
    rw [Rs.post_bind] at h
    refine ⟨v, vs, rfl, q (.d d) v env σ S μ r he hS _ (h.mono (fun env1 μ1 h1 σ1 S1 e1 hS1 he1 k1 => ?_) fun _ _ z => z)⟩
    exact q' ds vs env1 σ1 S1 μ1 (RpA.mono e1.sb _ _ t) he1 hS1 Q (h1.mono (fun env2 μ2 h2 σ2 S2 e2 hS2 he2 k2 => h2 σ2 S2 (e1.trans e2) hS2 he2 fun j hj => by
      rw [List.mem_append, not_or] at hj
      rw [k2 j hj.2, k1 j hj.1]) fun _ _ z => z)
def gTupF (n : Nat) (k : List D → Env → Sto → Rs Env) : FG := fun w env μ => match w with
  | .d (.tuple ds) => if ds.length = n then k ds env μ else .no
  | _ => .no
theorem cg_tup {es : List Expr} {kk : Nat} {pos : Pos} {n : Nat} {is : List Nat} {k : List D → Env → Sto → Rs Env} (hc : X.calm = true) (h : CGs X es is k) (hn : (assignEach es X.env).length = n := by rfl) (hst : (assignEach es X.env).findIdx? (·.1) = none := by rfl) : CG X (.Tuple es kk pos) is (gTupF n k) := by
  obtain ⟨t, p, q⟩ := h
  refine ⟨_, pg_tup hc p hn hst, fun w v env σ S μ r he hS Q h => ?_⟩
  unfold gTupF at h
  split at h
  · rename_i ds
    split at h
    · rename_i hl
      obtain ⟨a, xs, rfl, ha, ra⟩ := rp_tup_inv r
      exact ⟨a, xs, rfl, .inl (sb_rd hS.sub ha), by rw [ra.len]; exact hl, q ds xs env σ S μ ra he hS Q h⟩
    · exact h.elim
  · exact h.elim

/-! ### blocks -/
def sNil : FS := fun env μ => .ok (.nx env) μ
def sCons (f g : FS) : FS := fun env μ => (f env μ).bind fun fl μ1 => match fl with
  | .nx env1 => g env1 μ1
  | fl => .ok fl μ1
theorem cb_nil : CB X W [] sNil := ⟨_, pss_nil, fun env σ S μ he hS D h => h σ S (Ext.refl S) hS he⟩
theorem cb_cons {st : Stmt} {rest : List Stmt} {f g : FS} (h1 : CS X W st f) (h2 : CB X W rest g) : CB X W (st :: rest) (sCons f g) := by
  obtain ⟨t, p, q⟩ := h1
  obtain ⟨u, p', q'⟩ := h2
  refine ⟨_, pss_cons p p', fun env σ S μ he hS D h => ?_⟩
  unfold sCons at h
  rw [Rs.post_bind] at h
  refine q env σ S μ he hS { D with nx := u D } (h.mono (fun fl μ1 h1 => ?_) fun _ _ z => z)
  cases fl with
  | nx env1 =>
    intro σ1 S1 e1 hS1 he1
    exact q' env1 σ1 S1 μ1 he1 hS1 D (h1.mono (fun fl μ2 h2 => EndOk.mono e1 h2) fun _ _ z => z.mono e1)
  | rt w => exact h1
  | bk env1 => exact h1
  | ct env1 => exact h1
theorem cb_one {st : Stmt} {f : FS} (h1 : CS X W st f) : CB X W [st] f := by
  obtain ⟨t, p, q⟩ := h1
  exact ⟨_, pss_one p, q⟩
theorem cs_pass {pos : Pos} : CS X W (.Pass pos) sNil := ⟨_, ps_pass, fun env σ S μ he hS D h => h σ S (Ext.refl S) hS he⟩
/-- a statement that is not reached -/
theorem cs_never {st : Stmt} : CS X W st (fun _ _ => .no) := ⟨_, ps_never, fun _ _ _ _ _ _ _ h => h.elim⟩
theorem cb_never {st : List Stmt} : CB X W st (fun _ _ => .no) := ⟨_, pss_never, fun _ _ _ _ _ _ _ h => h.elim⟩
def sAsg (f : FE) (g : FG) : FS := fun env μ => (f env μ).bind fun w μ1 => (noex (g w env μ1)).bind fun env1 μ2 => .ok (.nx env1) μ2
theorem asg_core {te : TE} {tg : TG} {f : FE} {is : List Nat} {g : FG}
    (qe : ∀ env σ S μ, EnvR X.K X.N.length S env σ → HS X.K S μ → ∀ Q : VK, (f env μ).Post (POk X.K S Q) (PEx X.K W σ S) → te σ S.H Q)
    (qg : ∀ w v env σ S μ, RW X.K S v w → EnvR X.K X.N.length S env σ → HS X.K S μ → ∀ Q : L2.St → Hp → Prop, (g w env μ).Post (fun env' μ' => ∀ σ' S', Ext S S' → HS X.K S' μ' → EnvR X.K X.N.length S' env' σ' → (∀ j, j ∉ is → σ'[j]? = σ[j]?) → Q σ' S'.H) (fun _ _ => False) → tg v σ S.H Q) :
    ∀ env σ S μ, EnvR X.K X.N.length S env σ → HS X.K S μ → ∀ D : Ends, (sAsg f g env μ).Post (EndOk X.K X.N.length D S) (PExS X.K W X.N.length S) → tAsg te tg D σ S.H := fun env σ S μ he hS D h => by
  unfold sAsg at h
  rw [Rs.post_bind] at h
  refine qe env σ S μ he hS _ (h.mono (fun w μ1 h1 v S1 e1 hS1 r1 => ?_) fun _ _ z => z.at he.lenS)
  rw [Rs.post_bind] at h1
  exact qg w v env σ S1 μ1 r1 (he.mono e1) hS1 _ (noex_post (h1.mono (fun env1 μ2 h2 σ' S' e' hS' he' _ => h2 σ' S' (e1.trans e') hS' he') fun _ _ z => z))
theorem cs_asg {tg e : Expr} {pos : Pos} {f : FE} {is : List Nat} {g : FG} (he : CEx X W e f) (hg : CG X tg is g) (hs : swapsWithSole [tg] e pos.line X.env = pure false := by rfl) (hw : swappedStores [tg] e X.env = pure none := by rfl)
    (h1 : (assignEach [tg] X.env).map (·.2) = [assign tg X.env] := by rfl) : CS X W (.Assign [tg] e pos) (sAsg f g) := by
  obtain ⟨t, p, q⟩ := he
  obtain ⟨u, p', q'⟩ := hg
  exact ⟨_, ps_asg p p' hs hw h1, asg_core q q'⟩
theorem cs_set (i : Nat) {x : Str} {e : Expr} {pos pos' : Pos} {f : FE} (hN : X.N.Nodup) (hi : X.N[i]? = some x) (hx : Loc X.env.scope x) (he : CEx X W e f) (hs : swapsWith e (some (.Name x pos')) pos.line X.env = pure false := by rfl) (hf : X.fn x = true ∨ X.env.scope.names.lookup x = some .local := by first | exact .inl rfl | exact .inr rfl | assumption) :
    CS X W (.Assign [.Name x pos'] e pos) (sAsg f (gVar i)) := by
  obtain ⟨t, p, q⟩ := he
  obtain ⟨u, p', q'⟩ := cg_name (pos := pos') hN hi hx hf
  refine ⟨_, ps_set hN hi hx p hs hf, asg_core (is := [i]) q ?_⟩
  exact fun w v env σ S μ r he hS Q h => h (σ.set i (some v)) S (Ext.refl S) hS (he.set r) fun j hj => List.getElem?_set_ne fun e => hj (by simp [e])
def sPar (i j : Nat) (g : FA) : FS := fun env μ => (g env μ).bind fun ws μ1 => match ws with
  | [w, z] => .ok (.nx ((env.set i (some w)).set j (some z))) μ1
  | _ => .no
theorem cs_par (i j : Nat) {x y : Str} {a b : Expr} {g : FA} {px py pt pos : Pos} {kt k2 pt2} (hc : X.calm = true) (hN : X.N.Nodup) (hi : X.N[i]? = some x) (hj : X.N[j]? = some y) (hij : i ≠ j)
    (hx : X.env.scope.names.lookup x = some .local) (hy : X.env.scope.names.lookup y = some .local) (ha : CA X W [a, b] g)
    (hw : swappedStores [.Tuple [.Name x px, .Name y py] kt pt] (.Tuple [a, b] k2 pt2) X.env = pure (some [x, y]) := by rfl)
    (hs : swapsWithSole [.Tuple [.Name x px, .Name y py] kt pt] (.Tuple [a, b] k2 pt2) pos.line X.env = pure false := by rfl) :
    CS X W (.Assign [.Tuple [.Name x px, .Name y py] kt pt] (.Tuple [a, b] k2 pt2) pos) (sPar i j g) := by
  obtain ⟨t, p, q⟩ := ha
  refine ⟨_, ps_par hc hN hi hj hij hx hy p hw hs, fun env σ S μ he hS D h => ?_⟩
  unfold sPar at h
  rw [Rs.post_bind] at h
  refine q env σ S μ he hS _ (h.mono (fun ws μ1 h1 vs S1 e1 hS1 r1 => ?_) fun _ _ z => z.at he.lenS)
  split at h1
  · obtain ⟨v, u, rfl, r2, r3⟩ := rws2 r1
    exact ⟨v, u, rfl, h1 _ S1 e1 hS1 (((he.mono e1).set r2).set r3)⟩
  · exact h1.elim
theorem rws3 {K : PySem.W.Frag} {S : Sta} {vs : List V} {w z y : Wv} (h : RWs K S vs [w, z, y]) : ∃ v u t, vs = [v, u, t] ∧ RW K S v w ∧ RW K S u z ∧ RW K S t y := by
  cases h with
  | cons r t =>
    obtain ⟨u, v, rfl, q⟩ := rws2 t
    exact ⟨_, _, _, rfl, r, q⟩
def sPar3 (i j l : Nat) (g : FA) : FS := fun env μ => (g env μ).bind fun ws μ1 => match ws with
  | [w, z, y] => .ok (.nx (((env.set i (some w)).set j (some z)).set l (some y))) μ1
  | _ => .no
theorem cs_par3 (i j l : Nat) {x y z : Str} {a b c : Expr} {g : FA} {px py pz pt pos : Pos} {kt k2 pt2} (hc : X.calm = true) (hN : X.N.Nodup) (hi : X.N[i]? = some x) (hj : X.N[j]? = some y) (hl : X.N[l]? = some z) (hij : i ≠ j) (hil : i ≠ l) (hjl : j ≠ l)
    (hx : X.env.scope.names.lookup x = some .local) (hy : X.env.scope.names.lookup y = some .local) (hz : X.env.scope.names.lookup z = some .local) (ha : CA X W [a, b, c] g)
    (hw : swappedStores [.Tuple [.Name x px, .Name y py, .Name z pz] kt pt] (.Tuple [a, b, c] k2 pt2) X.env = pure (some [x, y, z]) := by rfl)
    (hs : swapsWithSole [.Tuple [.Name x px, .Name y py, .Name z pz] kt pt] (.Tuple [a, b, c] k2 pt2) pos.line X.env = pure false := by rfl) :
    CS X W (.Assign [.Tuple [.Name x px, .Name y py, .Name z pz] kt pt] (.Tuple [a, b, c] k2 pt2) pos) (sPar3 i j l g) := by
  obtain ⟨t, p, q⟩ := ha
  refine ⟨_, ps_par3 hc hN hi hj hl hij hil hjl hx hy hz p hw hs, fun env σ S μ he hS D h => ?_⟩
  unfold sPar3 at h
  rw [Rs.post_bind] at h
  refine q env σ S μ he hS _ (h.mono (fun ws μ1 h1 vs S1 e1 hS1 r1 => ?_) fun _ _ z => z.at he.lenS)
  split at h1
  · obtain ⟨v, u, t, rfl, r2, r3, r4⟩ := rws3 r1
    exact ⟨v, u, t, rfl, h1 _ S1 e1 hS1 ((((he.mono e1).set r2).set r3).set r4)⟩
  · exact h1.elim
def sAsg2 (f : FE) (i j : Nat) : FS := fun env μ => (f env μ).bind fun w μ1 => .ok (.nx ((env.set i (some w)).set j (some w))) μ1
theorem cs_asg2 (i j : Nat) {x y : Str} {e : Expr} {f : FE} {px py pos : Pos} (hN : X.N.Nodup) (hi : X.N[i]? = some x) (hx : Loc X.env.scope x) (hj : X.N[j]? = some y) (hy : Loc X.env.scope y) (he : CEx X W e f)
    (hf : X.fn x = true ∨ X.env.scope.names.lookup x = some .local := by first | exact .inl rfl | exact .inr rfl | assumption) (hf' : X.fn y = true ∨ X.env.scope.names.lookup y = some .local := by first | exact .inl rfl | exact .inr rfl | assumption)
    (ha : (assignEach [.Name x px, .Name y py] X.env).map (·.2) = [assign (.Name x px) X.env, assign (.Name y py) X.env] := by rfl) (hw : swappedStores [.Name x px, .Name y py] e X.env = pure none := by rfl) : CS X W (.Assign [.Name x px, .Name y py] e pos) (sAsg2 f i j) := by
  obtain ⟨t, p, q⟩ := he
  refine ⟨_, ps_asg2 p (pg_name hN hi hx hf) (pg_name hN hj hy hf') ha hw, fun env σ S μ he hS D h => ?_⟩
  unfold sAsg2 at h
  rw [Rs.post_bind] at h
  refine q env σ S μ he hS _ (h.mono (fun w μ1 h1 v S1 e1 hS1 r1 => ?_) fun _ _ z => z.at he.lenS)
  exact h1 _ S1 e1 hS1 (((he.mono e1).set r1).set r1)
def sRet (f : FE) : FS := fun env μ => (f env μ).bind fun w μ1 => .ok (.rt w) μ1
theorem cs_ret {e : Expr} {f : FE} {pos : Pos} (h : CEx X W e f) : CS X W (.Return (some e) pos) (sRet f) := by
  obtain ⟨t, p, q⟩ := h
  refine ⟨_, ps_ret p, fun env σ S μ he hS D h => ?_⟩
  unfold sRet at h
  rw [Rs.post_bind] at h
  exact q env σ S μ he hS _ (h.mono (fun w μ1 h1 => h1) fun _ _ z => z.at he.lenS)
def sExpr (f : FE) : FS := fun env μ => (f env μ).bind fun _ μ1 => .ok (.nx env) μ1
theorem cs_expr {e : Expr} {f : FE} {pos : Pos} (h : CEx X W e f) (hs : swapsWith e none pos.line X.env = pure false := by rfl) : CS X W (.Expr e pos) (sExpr f) := by
  obtain ⟨t, p, q⟩ := h
  refine ⟨_, ps_expr p hs, fun env σ S μ he hS D h => ?_⟩
  unfold sExpr at h
  rw [Rs.post_bind] at h
  exact q env σ S μ he hS _ (h.mono (fun w μ1 h1 v S1 e1 hS1 r1 => h1 σ S1 e1 hS1 (he.mono e1)) fun _ _ z => z.at he.lenS)
def sIf (c : FB) (f g : FS) : FS := fun env μ => (c env μ).bind fun b μ1 => if b = true then f env μ1 else g env μ1
theorem cs_if {c : Expr} {a b : List Stmt} {k : FB} {f g : FS} {pos : Pos} (hc : CT X W c k) (ha : CB X W a f) (hb : CB X W b g) : CS X W (.If c a b pos) (sIf k f g) := by
  obtain ⟨tc, pc, qc⟩ := hc
  obtain ⟨ta, pa, qa⟩ := ha
  obtain ⟨tb, pb, qb⟩ := hb
  refine ⟨_, ps_if pc pa pb, fun env σ S μ he hS D h => ?_⟩
  unfold sIf at h
  rw [Rs.post_bind] at h
  refine qc env σ S μ he hS _ (h.mono (fun c μ1 h1 S1 e1 hS1 => ?_) fun _ _ z => z.at he.lenS)
  cases c with
  | true =>
    rw [if_pos rfl] at h1 ⊢
    exact qa env σ S1 μ1 (he.mono e1) hS1 D (h1.mono (fun c μ2 h2 => EndOk.mono e1 h2) fun _ _ z => z.mono e1)
  | false =>
    rw [if_neg Bool.false_ne_true] at h1 ⊢
    exact qb env σ S1 μ1 (he.mono e1) hS1 D (h1.mono (fun c μ2 h2 => EndOk.mono e1 h2) fun _ _ z => z.mono e1)

/-! ### loops -/
abbrev FIt := Env → Sto → Rs (List D)
/-- J walks the items, from the state S0 on -/
def Walks (K : PySem.W.Frag) (J : It) (items : List D) (S0 : Sta) : Prop := ∀ S, Ext S0 S → ∀ μ, HS K S μ →
  (∀ (i : Nat) item, items[i]? = some item → J.go i S.H ∧ ∀ x H', J.yld i S.H x H' → ∃ S', S'.H = H' ∧ Ext S S' ∧ HS K S' μ ∧ Rp K S'.F x item) ∧ J.stop items.length S.H
def CI (X : Cx) (W : WX) (tg iter : Expr) (f : FIt) : Prop := ∃ wi : TI, PI X tg iter wi ∧ ∀ env σ S μ, EnvR X.K X.N.length S env σ → HS X.K S μ → ∀ R : It → Hp → Prop,
  (f env μ).Post (fun items μ' => ∀ J S', Ext S S' → HS X.K S' μ' → Walks X.K J items S' → R J S'.H) (PEx X.K W σ S) → wi σ S.H R
def forF (g : FG) (b : FS) : List D → Env → Sto → Rs Fl
  | [], env, μ => .ok (.nx env) μ
  | d :: r, env, μ => (noex (g (.d d) env μ)).bind fun env1 μ1 => (b env1 μ1).bind fun fl μ2 => match fl with
    | .nx env2 => forF g b r env2 μ2
    | .ct env2 => forF g b r env2 μ2
    | .bk env2 => .ok (.nx env2) μ2
    | .rt w => .ok (.rt w) μ2
def sFor (it : FIt) (g : FG) (b : FS) : FS := fun env μ => (it env μ).bind fun items μ1 => forF g b items env μ1
theorem cs_for {tg iter : Expr} {body : List Stmt} {it : FIt} {is : List Nat} {g : FG} {b : FS} {pos : Pos} (hp : PassesOwn (model X.prog X.w) X.A X.env X.xe) (hc : X.calm = true) (hi : CI X W tg iter it) (hg : CG X tg is g) (hb : CB X W body b)
    (hs : ∀ x, foldedSetIterable iter X.env x = pure x := by intro _; rfl) : CS X W (.For tg iter body [] pos) (sFor it g b) := by
  obtain ⟨wi, pi, qi⟩ := hi
  obtain ⟨tg', pg, qg⟩ := hg
  obtain ⟨tb, pb, qb⟩ := hb
  refine ⟨_, ps_for hp hc pi pg pb hs, fun env σ S μ he hS D h => ?_⟩
  unfold sFor at h
  rw [Rs.post_bind] at h
  refine qi env σ S μ he hS _ (h.mono (fun items μ1 h1 J S1 e1 hS1 wk => ?_) fun _ _ z => z.at he.lenS)
  refine ⟨fun i m σ H => m = items.length - i ∧ i ≤ items.length ∧ ∃ env_ μ_ S_, S_.H = H ∧ Ext S1 S_ ∧ HS X.K S_ μ_ ∧ EnvR X.K X.N.length S_ env_ σ ∧ (forF g b (items.drop i) env_ μ_).Post (EndOk X.K X.N.length D S) (PExS X.K W X.N.length S),
    ⟨items.length, rfl, Nat.zero_le _, env, μ1, S1, rfl, Ext.refl _, hS1, he.mono e1, h1⟩, ?_⟩
  rintro i m σ2 H2 ⟨rfl, hi, env2, μ2, S2, rfl, e2, hS2, he2, h2⟩
  obtain ⟨w1, w2⟩ := wk S2 e2 μ2 hS2
  by_cases hlt : i < items.length
  · obtain ⟨go, yl⟩ := w1 i items[i] (List.getElem?_eq_getElem hlt)
    refine .inr ⟨go, fun σ' H' => ∃ env_ μ_ S_, S_.H = H' ∧ Ext S1 S_ ∧ HS X.K S_ μ_ ∧ EnvR X.K X.N.length S_ env_ σ' ∧ (forF g b (items.drop (i + 1)) env_ μ_).Post (EndOk X.K X.N.length D S) (PExS X.K W X.N.length S),
      fun σ' H' n => ⟨items.length - (i + 1), by omega, rfl, hlt, n⟩, fun x H' y => ?_⟩
    obtain ⟨S3, rfl, e3, hS3, r3⟩ := yl x H' y
    rw [List.drop_eq_getElem_cons hlt] at h2
    have h2 : ((noex (g (.d items[i]) env2 μ2)).bind fun env1 μ1 => (b env1 μ1).bind fun fl μ2 => match fl with
      | .nx env2 => forF g b (items.drop (i + 1)) env2 μ2
      | .ct env2 => forF g b (items.drop (i + 1)) env2 μ2
      | .bk env2 => .ok (.nx env2) μ2
      | .rt w => .ok (.rt w) μ2).Post _ _ := h2
    rw [Rs.post_bind] at h2
    refine qg (.d items[i]) x env2 σ2 S3 μ2 r3 (he2.mono e3) hS3 _ (noex_post (h2.mono (fun env3 μ3 h2 σ4 S4 e4 hS4 he4 _ => ?_) fun _ _ z => z))
    rw [Rs.post_bind] at h2
    refine qb env3 σ4 S4 μ3 he4 hS4 _ (h2.mono (fun fl μ5 h5 => ?_) fun _ _ z => z.mono (e1.trans (e2.trans (e3.trans e4))))
    cases fl with
    | nx env5 => exact fun σ5 S5 e5 hS5 he5 => ⟨env5, μ5, S5, rfl, e2.trans (e3.trans (e4.trans e5)), hS5, he5, h5⟩
    | ct env5 => exact fun σ5 S5 e5 hS5 he5 => ⟨env5, μ5, S5, rfl, e2.trans (e3.trans (e4.trans e5)), hS5, he5, h5⟩
    | bk env5 => exact fun σ5 S5 e5 hS5 he5 => h5 σ5 S5 (e1.trans (e2.trans (e3.trans (e4.trans e5)))) hS5 he5
    | rt w => exact fun v S5 e5 hS5 r5 => h5 v S5 (e1.trans (e2.trans (e3.trans (e4.trans e5)))) hS5 r5
  · have e : i = items.length := by omega
    subst e
    rw [List.drop_length] at h2
    exact .inl ⟨w2, h2 σ2 S2 (e1.trans e2) hS2 he2⟩
end
end Ped

/-! Ped5: while, what is walked, comprehensions, defs and their calls -/
namespace Ped
open PySem L2 PyProof.Rows PySem.Spec
section
variable {X : Cx} {W : WX}

def whileF (c : FB) (b : FS) : Nat → Env → Sto → Rs Fl
  | 0, _, _ => .no
  | n + 1, env, μ => (c env μ).bind fun k μ1 => if k = true then (b env μ1).bind fun fl μ2 => match fl with
      | .nx env2 => whileF c b n env2 μ2
      | .ct env2 => whileF c b n env2 μ2
      | .bk env2 => .ok (.nx env2) μ2
      | .rt w => .ok (.rt w) μ2
    else .ok (.nx env) μ1
/-- a while of at most n turns -/
theorem cs_while (n : Nat) {c : Expr} {body : List Stmt} {k : FB} {b : FS} {pos : Pos} (hp : PassesOwn (model X.prog X.w) X.A X.env X.xe) (hc : CT X W c k) (hb : CB X W body b) : CS X W (.While c body [] pos) (whileF k b n) := by
  obtain ⟨tc, pc, qc⟩ := hc
  obtain ⟨tb, pb, qb⟩ := hb
  refine ⟨_, ps_while hp pc pb, fun env σ S μ he hS D h => ?_⟩
  refine ⟨fun m σ H => ∃ env_ μ_ S_, S_.H = H ∧ Ext S S_ ∧ HS X.K S_ μ_ ∧ EnvR X.K X.N.length S_ env_ σ ∧ (whileF k b m env_ μ_).Post (EndOk X.K X.N.length D S) (PExS X.K W X.N.length S), ⟨n, env, μ, S, rfl, Ext.refl S, hS, he, h⟩, ?_⟩
  rintro m σ1 H1 ⟨env1, μ1, S1, rfl, e1, hS1, he1, h1⟩
  cases m with
  | zero => exact h1.elim
  | succ m =>
    unfold whileF at h1
    rw [Rs.post_bind] at h1
    refine qc env1 σ1 S1 μ1 he1 hS1 _ (h1.mono (fun c μ2 h2 S2 e2 hS2 => ?_) fun _ _ z => (z.mono e1).at he1.lenS)
    cases c with
    | true =>
      rw [if_pos rfl] at h2 ⊢
      rw [Rs.post_bind] at h2
      refine ⟨fun σ' H' => ∃ env_ μ_ S_, S_.H = H' ∧ Ext S S_ ∧ HS X.K S_ μ_ ∧ EnvR X.K X.N.length S_ env_ σ' ∧ (whileF k b m env_ μ_).Post (EndOk X.K X.N.length D S) (PExS X.K W X.N.length S), fun σ' H' z => ⟨m, Nat.lt_succ_self m, z⟩, ?_⟩
      refine qb env1 σ1 S2 μ2 (he1.mono e2) hS2 _ (h2.mono (fun fl μ3 h3 => ?_) fun _ _ z => z.mono (e1.trans e2))
      cases fl with
      | nx env5 => exact fun σ5 S5 e5 hS5 he5 => ⟨env5, μ3, S5, rfl, e1.trans (e2.trans e5), hS5, he5, h3⟩
      | ct env5 => exact fun σ5 S5 e5 hS5 he5 => ⟨env5, μ3, S5, rfl, e1.trans (e2.trans e5), hS5, he5, h3⟩
      | bk env5 => exact fun σ5 S5 e5 hS5 he5 => h3 σ5 S5 (e1.trans (e2.trans e5)) hS5 he5
      | rt w => exact fun v S5 e5 hS5 r5 => h3 v S5 (e1.trans (e2.trans e5)) hS5 r5
    | false =>
      rw [if_neg Bool.false_ne_true] at h2 ⊢
      exact h2 σ1 S2 (e1.trans e2) hS2 (he1.mono e2)

/-! ### what is walked -/
/-- the items of a value -/
def itV (f : FE) : FIt := fun env μ => (f env μ).bind fun w μ1 => match w with
  | .d (.list xs) => .ok xs μ1
  | _ => .no
def itT (f : FE) : FIt := fun env μ => (f env μ).bind fun w μ1 => match w with
  | .d (.tuple xs) => .ok xs μ1
  | _ => .no
theorem ci_list {tg l : Expr} {f : FE} (h : CEx X W l f) : CI X W tg l (itV f) := by
  obtain ⟨t, p, q⟩ := h
  refine ⟨_, pi_list p, fun env σ S μ he hS R h => ?_⟩
  unfold itV at h
  rw [Rs.post_bind] at h
  refine q env σ S μ he hS _ (h.mono (fun w μ1 h1 v S1 e1 hS1 r1 => ?_) fun _ _ z => z)
  split at h1
  · obtain ⟨a, xs, rfl, ha, ra⟩ := rp_lst_inv r1
    refine ⟨a, rfl, ⟨xs, .inl (.inl (hS1.sub _ _ ha))⟩, h1 _ S1 e1 hS1 fun S2 e2 μ2 hS2 => ?_⟩
    have hq : SqL X.K S2.H a xs := .inl (.inl (hS2.sub _ _ (e2.sb _ _ ha)))
    refine ⟨fun i item hi => ?_, ⟨xs, hq, by rw [ra.len]; exact Nat.le_refl _⟩⟩
    obtain ⟨x, hx, rx⟩ := ra.get hi
    refine ⟨⟨xs, x, hq, hx⟩, fun y H' hy => ?_⟩
    obtain ⟨rfl, hy⟩ := hy
    have e := hy xs hq
    rw [hx] at e
    cases e
    exact ⟨S2, rfl, Ext.refl S2, hS2, Rp.mono e2.sb _ _ rx⟩
  · exact h1.elim
theorem ci_tup {tg l : Expr} {f : FE} (h : CEx X W l f) : CI X W tg l (itT f) := by
  obtain ⟨t, p, q⟩ := h
  refine ⟨_, pi_tup p, fun env σ S μ he hS R h => ?_⟩
  unfold itT at h
  rw [Rs.post_bind] at h
  refine q env σ S μ he hS _ (h.mono (fun w μ1 h1 v S1 e1 hS1 r1 => ?_) fun _ _ z => z)
  split at h1
  · obtain ⟨a, xs, rfl, ha, ra⟩ := rp_tup_inv r1
    refine ⟨a, rfl, ⟨xs, .inl (sb_rd hS1.sub ha)⟩, h1 _ S1 e1 hS1 fun S2 e2 μ2 hS2 => ?_⟩
    have hq : SqT X.K S2.H a xs := .inl (sb_rd hS2.sub (sb_rd e2.sb ha))
    refine ⟨fun i item hi => ?_, ⟨xs, hq, by rw [ra.len]; exact Nat.le_refl _⟩⟩
    obtain ⟨x, hx, rx⟩ := ra.get hi
    refine ⟨⟨xs, x, hq, hx⟩, fun y H' hy => ?_⟩
    obtain ⟨rfl, hy⟩ := hy
    have e := hy xs hq
    rw [hx] at e
    cases e
    exact ⟨S2, rfl, Ext.refl S2, hS2, Rp.mono e2.sb _ _ rx⟩
  · exact h1.elim
/-- lo, lo + 1, .., n of them -/
def rangeD (lo : Int) (n : Nat) : List D := (List.range n).map fun (i : Nat) => PyData.int (lo + (i : Int))
theorem rangeD_get {lo : Int} {n i : Nat} {d : D} (h : (rangeD lo n)[i]? = some d) : i < n ∧ d = .int (lo + (i : Int)) := by
  unfold rangeD at h
  rw [List.getElem?_map] at h
  by_cases hi : i < n
  · rw [List.getElem?_range hi] at h
    cases h
    exact ⟨hi, rfl⟩
  · rw [List.getElem?_eq_none (by rw [List.length_range]; omega)] at h
    cases h
theorem rangeD_length (lo : Int) (n : Nat) : (rangeD lo n).length = n := by unfold rangeD; rw [List.length_map, List.length_range]
theorem walks_range {K : PySem.W.Frag} {lo : Int} {n : Nat} {S : Sta} : Walks K (Itr lo n) (rangeD lo n) S := fun S2 e2 μ2 hS2 => by
  refine ⟨fun i item hi => ?_, by rw [rangeD_length]; exact Nat.le_refl _⟩
  obtain ⟨h1, rfl⟩ := rangeD_get hi
  refine ⟨h1, fun y H' hy => ?_⟩
  obtain ⟨rfl, rfl⟩ := hy
  exact ⟨S2, rfl, Ext.refl S2, hS2, .int _⟩
abbrev RB : Int := 1000000000000
def itR1 (f : FE) : FIt := fun env μ => (f env μ).bind fun w μ1 => match w with
  | .d (.int j) => if -RB ≤ j ∧ j ≤ RB then .ok (rangeD 0 j.toNat) μ1 else .no
  | _ => .no
def itR2 (f g : FE) : FIt := fun env μ => (f env μ).bind fun w μ1 => (g env μ1).bind fun z μ2 => match w, z with
  | .d (.int i), .d (.int j) => if (-RB ≤ i ∧ i ≤ RB) ∧ -RB ≤ j ∧ j ≤ RB then .ok (rangeD i (j - i).toNat) μ2 else .no
  | _, _ => .no
theorem ci_range1 {tg a : Expr} {f : FE} {p pos : Pos} (hg : Gl X "range") (hm : X.mg "range" = none) (h : CEx X W a f) (hs : starEach [a] X.env = [(false, eval a X.env)] := by rfl) : CI X W tg (.Call (.Name "range" p) [a] [] pos) (itR1 f) := by
  obtain ⟨t, p, q⟩ := h
  refine ⟨_, pi_range1 hg hm (pa_cons p pa_nil (by rw [hs]; rfl)) hs, fun env σ S μ he hS R h => ?_⟩
  unfold itR1 at h
  rw [Rs.post_bind] at h
  refine q env σ S μ he hS _ (h.mono (fun w μ1 h1 v S1 e1 hS1 r1 => ?_) fun _ _ z => z)
  split at h1
  · split at h1
    · rename_i hj
      cases r1
      exact ⟨_, rfl, by have := hj.1; simp only [RB] at this; omega, by have := hj.2; simp only [RB] at this; omega, h1 _ S1 e1 hS1 walks_range⟩
    · exact h1.elim
  · exact h1.elim
theorem ci_range2 {tg a b : Expr} {f g : FE} {p pos : Pos} (hg : Gl X "range") (hm : X.mg "range" = none) (h : CEx X W a f) (h' : CEx X W b g) (hs : starEach [a, b] X.env = [(false, eval a X.env), (false, eval b X.env)] := by rfl) (hs2 : starEach [b] X.env = [(false, eval b X.env)] := by rfl) : CI X W tg (.Call (.Name "range" p) [a, b] [] pos) (itR2 f g) := by
  obtain ⟨t, p, q⟩ := h
  obtain ⟨t', p', q'⟩ := h'
  refine ⟨_, pi_range2 hg hm (pa_cons p (pa_cons p' pa_nil (by rw [hs2]; rfl)) (by rw [hs, hs2])) hs hs2, fun env σ S μ he hS R h => ?_⟩
  unfold itR2 at h
  rw [Rs.post_bind] at h
  refine q env σ S μ he hS _ (h.mono (fun w μ1 h1 v S1 e1 hS1 r1 => ?_) fun _ _ z => z)
  rw [Rs.post_bind] at h1
  refine q' env σ S1 μ1 (he.mono e1) hS1 _ (h1.mono (fun w' μ2 h2 u S2 e2 hS2 r2 => ?_) fun _ _ z => z.mono e1)
  have r1' := r1.mono e2
  split at h2
  · split at h2
    · rename_i hj
      cases r1'
      cases r2
      refine ⟨_, _, rfl, ?_, h2 _ S2 (e1.trans e2) hS2 walks_range⟩
      have a1 := hj.1.1; have a2 := hj.1.2; have a3 := hj.2.1; have a4 := hj.2.2
      simp only [RB] at a1 a2 a3 a4
      exact ⟨by omega, by omega, by omega, by omega⟩
    · exact h2.elim
  · exact h2.elim

/-! ### comprehensions -/
theorem Ext.side {S T : Sta} (e : Ext S T) {D : Addr} {o : HO} (hD : S.H D = none) : Ext S ⟨upd T.H D o, T.F, T.L⟩ := by
  refine ⟨e.sb, e.pf, fun a u h hn => ?_, fun a u h => ?_, e.nl, e.nf, fun a u x h => (upd_ne (ne_of_none h hD)).trans (e.fz a u x h)⟩
  · show upd T.H D o a = some u
    rw [upd_ne (ne_of_none h hD)]
    exact e.fr a u h hn
  · obtain ⟨o', z⟩ := e.th a u h
    refine ⟨o', ?_⟩
    show upd T.H D o a = some o'
    rw [upd_ne (ne_of_none h hD)]
    exact z
theorem HS.side {K : PySem.W.Frag} {S : Sta} {μ : Sto} (h : HS K S μ) {D : Addr} {o : HO} (hL : D ∉ S.L) (hF : S.F D = none) : HS K ⟨upd S.H D o, S.F, S.L⟩ μ := by
  refine ⟨fun a u e => ?_, h.len, h.nd, fun n a h1 => ?_, h.lv, fun n a ob h1 h2 => ?_⟩
  · show upd S.H D o a = some u
    rw [upd_ne (ne_of_none e hF)]
    exact h.sub a u e
  · obtain ⟨u, e⟩ := h.tr n a h1
    have ha : a ≠ D := fun z => hL (z ▸ List.mem_of_getElem? h1)
    exact ⟨u, (upd_ne ha).trans e⟩
  · have ha : a ≠ D := fun z => hL (z ▸ List.mem_of_getElem? h1)
    have e : Ext S ⟨S.H, S.F, S.L⟩ := Ext.refl S
    have q := h.ob n a ob h1 h2
    cases ob with
    | dead => trivial
    | lst ws => obtain ⟨vs, q1, q2⟩ := q; exact ⟨vs, (upd_ne ha).trans q1, q2⟩
    | dk ws => obtain ⟨vs, q1, q2⟩ := q; exact ⟨vs, (upd_ne ha).trans q1, q2⟩
    | lk ws => obtain ⟨od, vs, q1, q2⟩ := q; exact ⟨od, vs, (upd_ne ha).trans q1, q2⟩
    | dt ws => obtain ⟨vs, q1, q2⟩ := q; exact ⟨vs, (upd_ne ha).trans q1, q2⟩
    | ins C fs => obtain ⟨Ca, dx, vs, hc, q1, q2⟩ := q; exact ⟨Ca, dx, vs, hc, (upd_ne ha).trans q1, q2⟩
/-- a thing of ours beside the store stays -/
theorem Ext.keepSide {S T : Sta} (e : Ext S T) {D : Addr} {o : HO} (hD : S.H D = some o) (hL : D ∉ S.L) (hF : S.F D = none) : T.H D = some o ∧ D ∉ T.L ∧ T.F D = none := by
  refine ⟨e.fr D o hD hL, e.out hD hL, ?_⟩
  cases q : T.F D with
  | none => rfl
  | some u =>
    rcases e.nf D (by rw [q]; simp) with z | z | z
    · exact absurd hF z
    · rw [hD] at z; cases z
    · exact absurd z hL
def wipeE (env : Env) : List Nat → Env
  | [] => env
  | v :: vs => (wipeE env vs).set v none
theorem wipe_get {σ : L2.St} : ∀ {vs : List Nat} {i : Nat}, i ∉ vs → (wipe σ vs)[i]? = σ[i]?
  | [], _, _ => rfl
  | v :: vs, i, h => by
    simp only [List.mem_cons, not_or] at h
    unfold wipe
    rw [List.getElem?_set_ne (Ne.symm h.1), wipe_get h.2]
theorem wipe_in {σ : L2.St} : ∀ {vs : List Nat} {i : Nat}, i ∈ vs → i < σ.length → (wipe σ vs)[i]? = some none
  | v :: vs, i, h, hi => by
    unfold wipe
    by_cases e : v = i
    · subst e
      rw [List.getElem?_set_self (by rw [wipe_length]; exact hi)]
    · rw [List.getElem?_set_ne e]
      rcases List.mem_cons.mp h with z | z
      · exact absurd z.symm e
      · exact wipe_in z hi
theorem wipe_same {σ τ : L2.St} {vs is : List Nat} (hl : τ.length = σ.length) (his : ∀ i ∈ is, i ∈ vs) (h : ∀ j, j ∉ is → τ[j]? = (wipe σ vs)[j]?) : wipe τ vs = wipe σ vs := by
  refine List.ext_getElem? fun i => ?_
  by_cases hv : i ∈ vs
  · by_cases hi : i < σ.length
    · rw [wipe_in hv hi, wipe_in hv (by rw [hl]; exact hi)]
    · rw [List.getElem?_eq_none (by rw [wipe_length, hl]; omega), List.getElem?_eq_none (by rw [wipe_length]; omega)]
  · rw [wipe_get hv, wipe_get hv, h i fun z => hv (his i z), wipe_get hv]
theorem EnvR.wipe {K : PySem.W.Frag} {n : Nat} {S : Sta} {env : Env} {σ : L2.St} (h : EnvR K n S env σ) : ∀ vs : List Nat, EnvR K n S (wipeE env vs) (L2.wipe σ vs)
  | [] => h
  | v :: vs => by
    have q := EnvR.wipe h vs
    refine ⟨by unfold wipeE; rw [List.length_set]; exact q.len, by unfold L2.wipe; rw [List.length_set]; exact q.lenS, fun i w e => ?_⟩
    unfold wipeE at e
    by_cases hv : v = i
    · subst hv
      by_cases hi : v < (wipeE env vs).length
      · rw [List.getElem?_set_self hi] at e; cases e
      · rw [List.getElem?_eq_none (by rw [List.length_set]; omega)] at e; cases e
    · rw [List.getElem?_set_ne hv] at e
      obtain ⟨u, h1, h2⟩ := q.val i w e
      exact ⟨u, by unfold L2.wipe; rw [List.getElem?_set_ne hv]; exact h1, h2⟩
/-- the readings that a judgement gives, one for all contexts of the same names -/
def canE (K : PySem.W.Frag) (n : Nat) (W : WX) (f : FE) : TE := fun σ H Q => ∃ env S μ, S.H = H ∧ EnvR K n S env σ ∧ HS K S μ ∧ (f env μ).Post (POk K S Q) (PEx K W σ S)
def canT (K : PySem.W.Frag) (n : Nat) (W : WX) (f : FB) : TT := fun σ H Q => ∃ env S μ, S.H = H ∧ EnvR K n S env σ ∧ HS K S μ ∧ (f env μ).Post (fun b μ' => ∀ S', Ext S S' → HS K S' μ' → Q b S'.H) (PEx K W σ S)
def canG (K : PySem.W.Frag) (n : Nat) (is : List Nat) (g : FG) : TG := fun v σ H Q => ∃ w env S μ, S.H = H ∧ RW K S v w ∧ EnvR K n S env σ ∧ HS K S μ ∧ (g w env μ).Post (fun env' μ' => ∀ σ' S', Ext S S' → HS K S' μ' → EnvR K n S' env' σ' → (∀ j, j ∉ is → σ'[j]? = σ[j]?) → Q σ' S'.H) (fun _ _ => False)
theorem CEx.can {e : Expr} {f : FE} (h : CEx X W e f) : PE X e (canE X.K X.N.length W f) := by
  obtain ⟨t, p, q⟩ := h
  exact ⟨fun pins s σ H Q I hw => by
    obtain ⟨env, S, μ, rfl, he, hS, hp⟩ := hw
    exact p.run pins s σ S.H Q I (q env σ S μ he hS Q hp)⟩
theorem CT.can {e : Expr} {f : FB} (h : CT X W e f) : PT X e (canT X.K X.N.length W f) := by
  obtain ⟨t, p, q⟩ := h
  exact ⟨fun pins s σ H Q I hw => by
    obtain ⟨env, S, μ, rfl, he, hS, hp⟩ := hw
    exact p.run pins s σ S.H Q I (q env σ S μ he hS Q hp)⟩
theorem CG.can {e : Expr} {is : List Nat} {g : FG} (h : CG X e is g) : PG X e (canG X.K X.N.length is g) := by
  obtain ⟨t, p, q⟩ := h
  exact ⟨fun pins s σ H v u Q I r hw => by
    obtain ⟨w, env, S, μ, rfl, rw_, he, hS, hp⟩ := hw
    exact p.run pins s σ S.H v u Q I r (q w v env σ S μ rw_ he hS Q hp)⟩
/-- no exception is wished for -/
abbrev W0 : WX := fun _ _ _ _ => False
def CTs (X : Cx) (es : List Expr) (f : FB) : Prop := PTs X es (canT X.K X.N.length W0 f)
def fYes : FB := fun _ μ => .ok true μ
theorem cts_nil : CTs X [] fYes := ⟨fun pins s σ H Q I hw => by
  obtain ⟨env, S, μ, rfl, he, hS, hp⟩ := hw
  exact pts_nil.run pins s σ S.H Q I (hp S (Ext.refl S) hS)⟩
theorem cts_one {c : Expr} {f : FB} (h : CT X W0 c f) : CTs X [c] f := pts_one h.can
def compF (g : FG) (t : FB) (e : FE) (env : Env) : List D → Sto → List D → Rs (List D)
  | [], μ, acc => .ok acc μ
  | d :: r, μ, acc => (noex (g (.d d) env μ)).bind fun env1 μ1 => (noex (t env1 μ1)).bind fun b μ2 => if b = true then (noex (e env1 μ2)).bind fun w μ3 => match w with
      | .d x => if acc.length < LIM then compF g t e env r μ3 (acc ++ [x]) else .no
      | _ => .no
    else compF g t e env r μ2 acc
def fComp (it : FIt) (g : FG) (t : FB) (e : FE) (vs : List Nat) : FE := fun env μ => (it env μ).bind fun items μ1 => (compF g t e (wipeE env vs) items μ1 []).bind fun acc μ2 => .ok (.d (.list acc)) μ2
theorem he_free {K : PySem.W.Frag} {S : Sta} {μ : Sto} (h : HS K S μ) {p : Addr} (hp : S.H p = none) : S.F p = none := h.free hp
theorem comp_core {wi : TI} {it : FIt} {is vs : List Nat} {g : FG} {tt : FB} {ee : FE} (his : ∀ i ∈ is, i ∈ vs)
    (qi : ∀ env σ S μ, EnvR X.K X.N.length S env σ → HS X.K S μ → ∀ R : It → Hp → Prop, (it env μ).Post (fun items μ' => ∀ J S', Ext S S' → HS X.K S' μ' → Walks X.K J items S' → R J S'.H) (PEx X.K W σ S) → wi σ S.H R) :
    ∀ env σ S μ, EnvR X.K X.N.length S env σ → HS X.K S μ → ∀ Q : VK, (fComp it g tt ee vs env μ).Post (POk X.K S Q) (PEx X.K W σ S) →
      tLc wi (canG X.K X.N.length is g) (canT X.K X.N.length W0 tt) (canE X.K X.N.length W0 ee) vs σ S.H Q := fun env σ S μ he hS Q h => by
  unfold fComp at h
  rw [Rs.post_bind] at h
  refine qi env σ S μ he hS _ (h.mono (fun items μ1 h1 J S1 e1 hS1 wk => ?_) fun _ _ z => z)
  intro Dl hDl
  have lift : ∀ {acc : List PyData} {μ2 : Sto}, Rs.Post (.ok (Wv.d (.list acc)) μ2) (POk X.K S Q) (PEx X.K W σ S) → POk X.K S Q (.d (.list acc)) μ2 := fun z => z
  let fin : List PyData → Sto → Rs Wv := fun acc μ2 => .ok (.d (.list acc)) μ2
  have h1 : ((compF g tt ee (wipeE env vs) items μ1 []).bind fin).Post (POk X.K S Q) (PEx X.K W σ S) := h1
  refine ⟨fun i m H => m = items.length - i ∧ i ≤ items.length ∧ ∃ μ_ S_ acc vs_, S_.H = H ∧ Ext S1 S_ ∧ HS X.K S_ μ_ ∧ S_.H Dl = some (.lst vs_) ∧ Dl ∉ S_.L ∧ S_.F Dl = none ∧ RpA X.K S_.F vs_ acc ∧ ((compF g tt ee (wipeE env vs) (items.drop i) μ_ acc).bind fin).Post (POk X.K S Q) (PEx X.K W σ S),
    ⟨items.length, rfl, Nat.zero_le _, μ1, ⟨upd S1.H Dl (.lst []), S1.F, S1.L⟩, [], [], rfl, (Ext.refl S1).side hDl, hS1.side (hS1.fresh hDl) (hS1.free hDl), upd_same, hS1.fresh hDl, hS1.free hDl, .nil, h1⟩, ?_⟩
  rintro i m H2 ⟨rfl, hi, μ2, S2, acc, xs, rfl, e2, hS2, hD2, hL2, hF2, ra, h2⟩
  obtain ⟨w1, w2⟩ := wk S2 e2 μ2 hS2
  by_cases hlt : i < items.length
  · obtain ⟨go, yl⟩ := w1 i items[i] (List.getElem?_eq_getElem hlt)
    refine .inr ⟨go, fun H' => ∃ μ_ S_ acc vs_, S_.H = H' ∧ Ext S1 S_ ∧ HS X.K S_ μ_ ∧ S_.H Dl = some (.lst vs_) ∧ Dl ∉ S_.L ∧ S_.F Dl = none ∧ RpA X.K S_.F vs_ acc ∧ ((compF g tt ee (wipeE env vs) (items.drop (i + 1)) μ_ acc).bind fin).Post (POk X.K S Q) (PEx X.K W σ S),
      fun H' n => ⟨items.length - (i + 1), by omega, rfl, hlt, n⟩, fun x H' y => ?_⟩
    obtain ⟨S3, rfl, e3, hS3, r3⟩ := yl x H' y
    rw [List.drop_eq_getElem_cons hlt] at h2
    have h2 : (((noex (g (.d items[i]) (wipeE env vs) μ2)).bind fun env1 μ1 => (noex (tt env1 μ1)).bind fun b μ2 => if b = true then (noex (ee env1 μ2)).bind fun w μ3 => match w with
        | .d x => if acc.length < LIM then compF g tt ee (wipeE env vs) (items.drop (i + 1)) μ3 (acc ++ [x]) else .no
        | _ => .no
      else compF g tt ee (wipeE env vs) (items.drop (i + 1)) μ2 acc).bind fin).Post _ _ := h2
    rw [Rs.post_bind, Rs.post_bind] at h2
    have hw : EnvR X.K X.N.length S3 (wipeE env vs) (L2.wipe σ vs) := ((he.mono e1).mono (e2.trans e3)).wipe vs
    refine ⟨.d items[i], wipeE env vs, S3, μ2, rfl, r3, hw, hS3, noex_post (h2.mono (fun env1 μ3 h3 σ4 S4 e4 hS4 he4 k4 => ?_) fun _ _ z => z)⟩
    have h3 : ((noex (tt env1 μ3)).bind _).Post _ _ := h3
    rw [Rs.post_bind] at h3
    refine ⟨wipe_same (by rw [he4.lenS, he.lenS]) his k4, env1, S4, μ3, rfl, he4, hS4, noex_post (h3.mono (fun b μ5 h5 S5 e5 hS5 => ?_) fun _ _ z => z)⟩
    obtain ⟨hD5, hL5, hF5⟩ := (e3.trans (e4.trans e5)).keepSide hD2 hL2 hF2
    cases b with
    | true =>
      rw [if_pos rfl] at h5 ⊢
      rw [Rs.post_bind] at h5
      refine ⟨env1, S5, μ5, rfl, he4.mono e5, hS5, noex_post (h5.mono (fun w μ6 h6 y S6 e6 hS6 r6 => ?_) fun _ _ z => z)⟩
      obtain ⟨hD6, hL6, hF6⟩ := e6.keepSide hD5 hL5 hF5
      cases w with
      | l n => exact h6.elim
      | s n => exact h6.elim
      | e _ _ => exact h6.elim
      | d z =>
        have h6 : ((if acc.length < LIM then compF g tt ee (wipeE env vs) (items.drop (i + 1)) μ6 (acc ++ [z]) else .no : Rs (List PyData))).Post (fun a μ => (fin a μ).Post (POk X.K S Q) (PEx X.K W σ S)) (PEx X.K W σ S) := h6
        by_cases hl : acc.length < LIM
        · rw [if_pos hl, ← Rs.post_bind] at h6
          have k16 : Ext S1 S6 := e2.trans (e3.trans (e4.trans (e5.trans e6)))
          have ra6 : RpA X.K S6.F xs acc := RpA.mono (e3.trans (e4.trans (e5.trans e6))).sb _ _ ra
          refine ⟨xs, hD6, by rw [ra.len]; exact lim_lt (Nat.le_of_lt hl), μ6, ⟨upd S6.H Dl (.lst (xs ++ [y])), S6.F, S6.L⟩, acc ++ [z], xs ++ [y], rfl, k16.side hDl, hS6.side hL6 hF6, upd_same, hL6, hF6, ra6.append (.cons r6 .nil), h6⟩
        · rw [if_neg hl] at h6
          exact h6.elim
    | false =>
      rw [if_neg Bool.false_ne_true] at h5 ⊢
      rw [← Rs.post_bind] at h5
      exact ⟨μ5, S5, acc, xs, rfl, e2.trans (e3.trans (e4.trans e5)), hS5, hD5, hL5, hF5, RpA.mono (e3.trans (e4.trans e5)).sb _ _ ra, h5⟩
  · have e : i = items.length := by omega
    subst e
    rw [List.drop_length] at h2
    refine .inl ⟨w2, ?_⟩
    have h2 : POk X.K S Q (.d (.list acc)) μ2 := h2
    -- the new list is frozen
    have k2 := e1.trans e2
    refine h2 (.ref Dl) ⟨S2.H, upd S2.F Dl (.lst xs), S2.L⟩ ⟨fun a u z => ?_, k2.pf, k2.fr, k2.th, k2.nl, fun a z => ?_, k2.fz⟩ ⟨fun a u z => ?_, hS2.len, hS2.nd, hS2.tr, fun n a ob z1 z2 z3 => ?_, fun n a ob z1 z2 => ?_⟩ (rp_lst hF2 ra)
    · have hSD : S.F Dl = none := he_free hS (e1.un hDl)
      show upd S2.F Dl (.lst xs) a = some u
      rw [upd_ne (ne_of_none z hSD)]
      exact k2.sb a u z
    · by_cases hb : a = Dl
      · exact .inr (.inl (by rw [hb]; exact e1.un hDl))
      · have z : upd S2.F Dl (.lst xs) a ≠ none := z
        rw [upd_ne hb] at z
        exact k2.nf a z
    · by_cases hb : a = Dl
      · subst hb
        have z : upd S2.F a (.lst xs) a = some u := z
        rw [upd_same] at z
        cases z
        exact hD2
      · have z : upd S2.F Dl (.lst xs) a = some u := z
        rw [upd_ne hb] at z
        exact hS2.sub a u z
    · have hb : a ≠ Dl := fun q => hL2 (q ▸ List.mem_of_getElem? z1)
      show upd S2.F Dl (.lst xs) a = none
      rw [upd_ne hb]
      exact hS2.lv n a ob z1 z2 z3
    · refine ObR.stayG (S := S2) (S' := ⟨S2.H, upd S2.F Dl (.lst xs), S2.L⟩) ⟨fun a u z => ?_, fun _ _ z => z⟩ (hS2.ob n a ob z1 z2) fun o z => z
      show upd S2.F Dl (.lst xs) a = some u
      rw [upd_ne (ne_of_none z hF2)]
      exact z
theorem c_comp {elt tg iter : Expr} {ifs : List Expr} {scope : Scope} {own : List (Str × Nat)} {vs : List Nat} {pos : Pos} {it : FIt} {is : List Nat} {g : FG} {tt : FB} {ee : FE} (hc : X.calm = true) (hN : X.N.Nodup) (hi : CI X W tg iter it) (ok : BlkOk X.N X.env.scope scope own) (his : ∀ i ∈ is, i ∈ vs)
    (hg : ∀ (s : Shared) (H : Hp) (C : Addr) (cl : List (Str × Addr)) (fp : List Addr), CG (X.blk s H scope (compEnvC scope cl C X.env) fp) tg is g)
    (ht : ∀ (s : Shared) (H : Hp) (C : Addr) (cl : List (Str × Addr)) (fp : List Addr), CTs (X.blk s H scope (compEnvC scope cl C X.env) fp) ifs tt)
    (he : ∀ (s : Shared) (H : Hp) (C : Addr) (cl : List (Str × Addr)) (fp : List Addr), CEx (X.blk s H scope (compEnvC scope cl C X.env) fp) W0 elt ee) (hs : ∀ x, foldedSetIterable iter X.env x = pure x := by intro _; rfl) (hvs : own.map (·.2) = vs := by rfl) :
    CEx X W (.ListComp elt [⟨tg, iter, ifs, 0⟩] scope pos) (fComp it g tt ee vs) := by
  subst hvs
  obtain ⟨wi, pi, qi⟩ := hi
  exact ⟨_, pe_lc hc hN pi ok (fun s H C cl fp => (hg s H C cl fp).can) (tt := canT X.K X.N.length W0 tt) (fun s H C cl fp => ht s H C cl fp) (fun s H C cl fp => (he s H C cl fp).can) hs, comp_core his qi⟩
/-- name = [..] on one line -/
theorem cs_setLc (i : Nat) {y : Str} {py : Pos} {elt tg iter : Expr} {ifs : List Expr} {scope : Scope} {own : List (Str × Nat)} {vs : List Nat} {pos spos : Pos} {it : FIt} {is : List Nat} {g : FG} {tt : FB} {ee : FE} (hc : X.calm = true) (hN : X.N.Nodup) (hy : X.N[i]? = some y) (hyl : X.env.scope.names.lookup y = some .local)
    (hsw : swapsWith (.ListComp elt [⟨tg, iter, ifs, 0⟩] scope pos) (some (.Name y py)) spos.line X.env = pure true) (hi : CI X W tg iter it) (ok : BlkOk X.N X.env.scope scope own) (his : ∀ i ∈ is, i ∈ vs)
    (hg : ∀ (s : Shared) (H : Hp) (C : Addr) (cl : List (Str × Addr)) (fp : List Addr), CG (X.blk s H scope (compEnvC scope cl C X.env) fp) tg is g)
    (ht : ∀ (s : Shared) (H : Hp) (C : Addr) (cl : List (Str × Addr)) (fp : List Addr), CTs (X.blk s H scope (compEnvC scope cl C X.env) fp) ifs tt)
    (he : ∀ (s : Shared) (H : Hp) (C : Addr) (cl : List (Str × Addr)) (fp : List Addr), CEx (X.blk s H scope (compEnvC scope cl C X.env) fp) W0 elt ee) (hs : ∀ x, foldedSetIterable iter X.env x = pure x := by intro _; rfl) (hvs : own.map (·.2) = vs := by rfl) :
    CS X W (.Assign [.Name y py] (.ListComp elt [⟨tg, iter, ifs, 0⟩] scope pos) spos) (sAsg (fComp it g tt ee vs) (gVar i)) := by
  subst hvs
  obtain ⟨wi, pi, qi⟩ := hi
  refine ⟨_, ps_setLc hc hN hy hyl hsw pi ok (fun s H C cl fp => (hg s H C cl fp).can) (tt := canT X.K X.N.length W0 tt) (fun s H C cl fp => ht s H C cl fp) (fun s H C cl fp => (he s H C cl fp).can) hs, asg_core (is := [i]) (comp_core his qi) ?_⟩
  exact fun w v env σ S μ r he hS Q h => h (σ.set i (some v)) S (Ext.refl S) hS (he.set r) fun j hj => List.getElem?_set_ne fun e => hj (by simp [e])
end

/-! ### defs -/
/-- a def promises what g says -/
def spD (K : PySem.W.Frag) (n : Nat) (g : List Wv → Sto → Rs Wv) : Sp := fun vs H Q E => vs.length = n ∧ ∃ ws S μ, S.H = H ∧ HS K S μ ∧ RWs K S vs ws ∧ (g ws μ).Post (POk K S Q) (fun x μ' => ∀ d S', Ext S S' → HS K S' μ' → ExR K S' x d → E (clsV K x.cls) d S'.H)
def startE (m : Nat) (ws : List Wv) : Env := ws.map some ++ List.replicate (m - ws.length) none
/-- no thing of the store holds a number beyond n -/
def closedW (n : Nat) : Wv → Bool
  | .l k => decide (k < n)
  | _ => true
def closedO (n : Nat) : Ob → Bool
  | .dead => true
  | .lst ws => ws.all (closedW n)
  | .dk kvs => kvs.all fun p => closedW n p.2
  | .lk kvs => kvs.all fun p => closedW n p.2
  | .dt kvs => kvs.all fun p => closedW n p.2
  | .ins _ fs => fs.all fun p => closedW n p.2
theorem closed_ws {K : PySem.W.Frag} {S : Sta} : ∀ {vs : List V} {ws : List Wv}, RWs K S vs ws → ws.all (closedW S.L.length) = true
  | _, _, .nil => rfl
  | _, w :: _, .cons r t => by
    rw [List.all_cons, closed_ws t, Bool.and_true]
    cases w with
    | d x => rfl
    | s x => rfl
    | e _ _ => rfl
    | l n =>
      obtain ⟨a, h, _⟩ := r
      exact decide_eq_true (List.getElem?_eq_some_iff.mp h).1
theorem closed_kv {κ : Type} {K : PySem.W.Frag} {S : Sta} : ∀ {vs : List (κ × V)} {ws : List (κ × Wv)}, RKv K S vs ws → (ws.all fun p => closedW S.L.length p.2) = true
  | _, _, .nil => rfl
  | _, (k, w) :: _, .cons r t => by
    rw [List.all_cons, closed_kv t, Bool.and_true]
    cases w with
    | d x => rfl
    | s x => rfl
    | e _ _ => rfl
    | l n =>
      obtain ⟨_, a, h, _⟩ := r
      exact decide_eq_true (List.getElem?_eq_some_iff.mp h).1
theorem closed_ob {K : PySem.W.Frag} {S : Sta} {a : Addr} {ob : Ob} (h : ObR K S a ob) : closedO S.L.length ob = true := by
  cases ob with
  | dead => rfl
  | lst ws => obtain ⟨vs, _, q⟩ := h; exact closed_ws q
  | dk ws => obtain ⟨vs, _, q⟩ := h; exact closed_kv q
  | lk ws => obtain ⟨_, vs, _, q⟩ := h; exact closed_kv q
  | dt ws => obtain ⟨vs, _, q⟩ := h; exact closed_kv q
  | ins C ws => obtain ⟨_, _, vs, _, _, q⟩ := h; exact closed_kv q
theorem cut_w {K : PySem.W.Frag} {S : Sta} {n : Nat} {v : V} {w : Wv} (h : RW K S v w) (hc : closedW n w = true) : RW K ⟨S.H, S.F, S.L.take n⟩ v w := by
  cases w with
  | d x => exact h
  | s x => exact h
  | e _ _ => exact h
  | l k =>
    obtain ⟨a, h1, h2⟩ := h
    exact ⟨a, by rw [← h1]; exact List.getElem?_take_of_lt (of_decide_eq_true hc), h2⟩
theorem cut_ws {K : PySem.W.Frag} {S : Sta} {n : Nat} : ∀ {vs : List V} {ws : List Wv}, RWs K S vs ws → ws.all (closedW n) = true → RWs K ⟨S.H, S.F, S.L.take n⟩ vs ws
  | _, _, .nil, _ => .nil
  | _, _, .cons r t, h => by
    rw [List.all_cons, Bool.and_eq_true] at h
    exact .cons (cut_w r h.1) (cut_ws t h.2)
theorem cut_kv {κ : Type} {K : PySem.W.Frag} {S : Sta} {n : Nat} : ∀ {vs : List (κ × V)} {ws : List (κ × Wv)}, RKv K S vs ws → (ws.all fun p => closedW n p.2) = true → RKv K ⟨S.H, S.F, S.L.take n⟩ vs ws
  | _, _, .nil, _ => .nil
  | _, _, .cons r t, h => by
    rw [List.all_cons, Bool.and_eq_true] at h
    exact .cons ⟨r.1, cut_w r.2 h.1⟩ (cut_kv t h.2)
theorem cut_ob {K : PySem.W.Frag} {S : Sta} {n : Nat} {a : Addr} {ob : Ob} (h : ObR K S a ob) (hc : closedO n ob = true) : ObR K ⟨S.H, S.F, S.L.take n⟩ a ob := by
  cases ob with
  | dead => trivial
  | lst ws => obtain ⟨vs, q1, q⟩ := h; exact ⟨vs, q1, cut_ws q hc⟩
  | dk ws => obtain ⟨vs, q1, q⟩ := h; exact ⟨vs, q1, cut_kv q hc⟩
  | lk ws => obtain ⟨od, vs, q1, q⟩ := h; exact ⟨od, vs, q1, cut_kv q hc⟩
  | dt ws => obtain ⟨vs, q1, q⟩ := h; exact ⟨vs, q1, cut_kv q hc⟩
  | ins C ws => obtain ⟨Ca, dx, vs, hC, q1, q⟩ := h; exact ⟨Ca, dx, vs, hC, q1, cut_kv q hc⟩
/-- what was there refers to what was there -/
def KeepRef (μ μ' : Sto) : Prop := ∀ (j : Nat) (ob : Ob), j < μ.length → μ'[j]? = some ob → μ[j]? = some ob ∨ closedO μ.length ob = true
open Classical in
/-- the things beyond are forgotten -/
noncomputable def trim (μ μ' : Sto) : Option Sto := if μ'.length ≤ μ.length then some μ' else if KeepRef μ μ' then some (μ'.take μ.length) else none
theorem trim_same {μ μ' : Sto} (h : μ'.length = μ.length) : trim μ μ' = some μ' := if_pos (Nat.le_of_eq h)
theorem trim_app (μ ν : Sto) : trim μ (μ ++ ν) = some μ := by
  unfold trim
  by_cases h : (μ ++ ν).length ≤ μ.length
  · rw [if_pos h]
    rw [List.length_append] at h
    have : ν = [] := List.eq_nil_of_length_eq_zero (by omega)
    rw [this, List.append_nil]
  · have hk : KeepRef μ (μ ++ ν) := fun j ob hj e => .inl (by rw [List.getElem?_append_left hj] at e; exact e)
    rw [if_neg h, if_pos hk, List.take_left]
theorem trim_set (μ ν : Sto) (i : Nat) (ob : Ob) (hc : closedO μ.length ob = true) : trim μ (μ.set i ob ++ ν) = some (μ.set i ob) := by
  unfold trim
  have hl : (μ.set i ob).length = μ.length := List.length_set
  by_cases h : (μ.set i ob ++ ν).length ≤ μ.length
  · rw [if_pos h]
    rw [List.length_append, hl] at h
    have : ν = [] := List.eq_nil_of_length_eq_zero (by omega)
    rw [this, List.append_nil]
  · have hk : KeepRef μ (μ.set i ob ++ ν) := fun j ob' hj e => by
      rw [List.getElem?_append_left (by rw [hl]; exact hj)] at e
      by_cases hi : i = j
      · subst hi
        rw [List.getElem?_set_self hj] at e
        cases e
        exact .inr hc
      · rw [List.getElem?_set_ne hi] at e
        exact .inl e
    rw [if_neg h, if_pos hk, ← hl, List.take_left]
theorem trim_ok {K : PySem.W.Frag} {S S' : Sta} {μ μ' ν : Sto} (hS : HS K S μ) (e : Ext S S') (hS' : HS K S' μ') (h : trim μ μ' = some ν) : ∃ S'', Ext S S'' ∧ HS K S'' ν ∧ S''.H = S'.H ∧ S''.F = S'.F ∧ ∀ k a, k < μ.length → S'.L[k]? = some a → S''.L[k]? = some a := by
  unfold trim at h
  split at h
  · cases h
    exact ⟨S', e, hS', rfl, rfl, fun _ _ _ z => z⟩
  · split at h
    · rename_i hk
      cases h
      refine ⟨⟨S'.H, S'.F, S'.L.take μ.length⟩, ⟨e.sb, fun n a z => ?_, e.fr, e.th, fun a z => e.nl a (List.mem_of_mem_take z), e.nf, e.fz⟩, ⟨hS'.sub, ?_, hS'.nd.sublist (List.take_sublist _ _), fun n a z => hS'.tr n a ?_, fun n a ob z1 z2 z3 => ?_, fun n a ob z1 z2 => ?_⟩, rfl, rfl, fun k a hk z => ?_⟩
      · have hn : n < μ.length := by rw [← hS.len]; exact (List.getElem?_eq_some_iff.mp z).1
        show (S'.L.take μ.length)[n]? = some a
        rw [List.getElem?_take_of_lt hn]
        exact e.pf n a z
      · show (S'.L.take μ.length).length = (μ'.take μ.length).length
        rw [List.length_take, List.length_take, hS'.len]
      · have z : (S'.L.take μ.length)[n]? = some a := z
        rw [List.getElem?_take] at z
        split at z
        · exact z
        · cases z
      · have z1 : (S'.L.take μ.length)[n]? = some a := z1
        rw [List.getElem?_take] at z1 z2
        split at z1
        · rename_i hn
          rw [if_pos hn] at z2
          exact hS'.lv n a ob z1 z2 z3
        · cases z1
      · have z1 : (S'.L.take μ.length)[n]? = some a := z1
        rw [List.getElem?_take] at z1 z2
        split at z1
        · rename_i hn
          rw [if_pos hn] at z2
          refine cut_ob (hS'.ob n a ob z1 z2) ?_
          rcases hk n ob hn z2 with q | q
          · have hnl : n < S.L.length := by rw [hS.len]; exact hn
            have := closed_ob (hS.ob n S.L[n] ob (List.getElem?_eq_getElem hnl) q)
            rw [hS.len] at this
            exact this
          · exact q
        · cases z1
      · show (S'.L.take μ.length)[k]? = some a
        rw [List.getElem?_take_of_lt hk]
        exact z
    · cases h
/-- what a body hands back; the things that it made are forgotten, but where one is handed back -/
noncomputable def handBack (μ : Sto) (fl : Fl) (μ' : Sto) : Rs Wv := match fl with
  | .rt (.d x) => (match trim μ μ' with | some ν => .ok (.d x) ν | none => .no)
  | .rt (.l n) => if n < μ.length then (match trim μ μ' with | some ν => .ok (.l n) ν | none => .no) else .ok (.l n) μ'
  | .nx _ => (match trim μ μ' with | some ν => .ok (.d .none) ν | none => .no)
  | _ => .no
noncomputable def runF (m : Nat) (F : FS) (ws : List Wv) (μ : Sto) : Rs Wv := (F (startE m ws) μ).bind (handBack μ)
theorem start_env {K : PySem.W.Frag} {S : Sta} {N : List Str} {vs : List V} {ws : List Wv} (r : RWs K S vs ws) (hl : vs.length ≤ N.length) : EnvR K N.length S (startE N.length ws) (L2.start N vs) := by
  have hw := rws_len r
  refine ⟨?_, ?_, fun i w e => ?_⟩
  · unfold startE
    rw [List.length_append, List.length_map, List.length_replicate]
    omega
  · unfold L2.start
    rw [List.length_append, List.length_map, List.length_replicate]
    omega
  · unfold startE at e
    by_cases hi : i < ws.length
    · rw [List.getElem?_append_left (by rw [List.length_map]; exact hi), List.getElem?_map] at e
      cases q : ws[i]? with
      | none => rw [q] at e; cases e
      | some w' =>
        rw [q] at e
        cases e
        obtain ⟨v, h1, h2⟩ := rws_get r q
        refine ⟨v, ?_, h2⟩
        unfold L2.start
        rw [List.getElem?_append_left (by rw [List.length_map]; omega), List.getElem?_map, h1]
        rfl
    · rw [List.getElem?_append_right (by rw [List.length_map]; omega), List.getElem?_replicate] at e
      split at e <;> cases e
section
variable {P : Program} {w : World} {K : PySem.W.Frag} {mg : Str → Option Value} {base : Heap}
/-- what a body's end is for the def's caller -/
theorem hand_ok {S : Sta} {μ : Sto} {n : Nat} {Q : VK} {E : Exn → Sto → Prop} (hS : HS K S μ) {fl : Fl} {μ' : Sto} (h : (handBack μ fl μ').Post (POk K S Q) E) : EndOk K n { nx := fun _ H' => Q .non H', rt := Q } S fl μ' := by
  unfold handBack at h
  cases fl with
  | nx env =>
    simp only at h
    intro σ S' e hS' _
    cases ht : trim μ μ' with
    | none => rw [ht] at h; exact h.elim
    | some ν =>
      rw [ht] at h
      obtain ⟨S'', e'', hS'', hH, hF, _⟩ := trim_ok hS e hS' ht
      show Q .non S'.H
      rw [← hH]
      exact h .non S'' e'' hS'' .non
  | bk env => exact h.elim
  | ct env => exact h.elim
  | rt w =>
    intro v S' e hS' r
    cases w with
    | s x => exact h.elim
    | e _ _ => exact h.elim
    | d x =>
      simp only at h
      cases ht : trim μ μ' with
      | none => rw [ht] at h; exact h.elim
      | some ν =>
        rw [ht] at h
        obtain ⟨S'', e'', hS'', hH, hF, _⟩ := trim_ok hS e hS' ht
        show Q v S'.H
        rw [← hH]
        exact h v S'' e'' hS'' (by show Rp K S''.F v x; rw [hF]; exact r)
    | l k =>
      simp only at h
      by_cases hk : k < μ.length
      · rw [if_pos hk] at h
        cases ht : trim μ μ' with
        | none => rw [ht] at h; exact h.elim
        | some ν =>
          rw [ht] at h
          obtain ⟨S'', e'', hS'', hH, hF, hL⟩ := trim_ok hS e hS' ht
          obtain ⟨a, h1, h2⟩ := r
          show Q v S'.H
          rw [← hH]
          exact h v S'' e'' hS'' ⟨a, hL k a hk h1, h2⟩
      · rw [if_neg hk] at h
        exact h v S' e hS' r
/-- a def that never raises, by its body's combinators -/
theorem ok_def {x qual : Str} {st : Stmt} {f : Addr} {fd : FuncData} {N ps : List Str} {k : Nat} {g : List Wv → Sto → Rs Wv} {B : FS} (F : Fun K x qual st f fd) (S : FnScope N ps (defScope st))
    (hb : ∀ (cdv : Value) (A : Around) (outer : List PySem.Env) (s : Shared) (H : Hp) (E : XK), Room k (A.deeper (envOfC qual (defScope st) s.heap.objs.size f cdv)) → CB (cxOf CX0 P w K mg base N qual (defScope st) f cdv A outer s H E).nox W0 (defBody st) B)
    (hg : ∀ ws μ, ws.length = ps.length → g ws μ = .no ∨ g ws μ = runF N.length B ws μ) : FnOk P w K mg base CX0 (k + 1) f fd ps (spD K ps.length fun ws μ => noex (g ws μ)) := by
  refine F.ok S (fun vs H Q E h => h.1) (fun cdv A outer s H vs Q E hr h => ?_)
  obtain ⟨hl, ws, T, μ, rfl, hS, r, hp⟩ := h
  obtain ⟨t, p, q⟩ := hb cdv A outer s T.H E hr
  have hpl : ps.length ≤ N.length := by have := congrArg List.length S.pre; rw [List.length_take] at this; omega
  refine ⟨t, p, q (startE N.length ws) (L2.start N vs) T μ (start_env (N := N) r (by rw [hl]; exact hpl)) hS _ ?_⟩
  have hp : (noex (g ws μ)).Post (POk K T Q) _ := hp
  rcases hg ws μ (by rw [← rws_len r]; exact hl) with e | e
  · rw [e] at hp
    exact hp.elim
  · rw [e] at hp
    have hp : (runF N.length B ws μ).Post (POk K T Q) (fun _ _ => False) := noex_post hp
    unfold runF at hp
    rw [Rs.post_bind] at hp
    exact hp.mono (fun fl μ' h => hand_ok hS h) fun _ _ z => z.elim
end
section
variable {X : Cx} {W : WX}
/-- f(e, ..): a def that never raises -/
theorem c_call {k n : Nat} {f : Addr} {fd : FuncData} {ps : List Str} {g : List Wv → Sto → Rs Wv} {x : Str} {p pos : Pos} {e : Expr} {es : List Expr} {a : FA} (G : FnOk X.prog X.w X.K X.mg X.base CX0 k f fd ps (spD X.K n fun ws μ => noex (g ws μ))) (hr : Room k X.A) (hg : Gl X x) (hm : X.mg x = some (.ref f)) (hk : PySem.W.keepIn X.K (.ref f) = true) (hb : Binds X.K fd ps [])
    (ha : CA X W (e :: es) a) (hdb : (x == ("__debug__" : Str)) = false := by decide) (he : starEach (e :: es) X.env = (false, eval e X.env) :: starEach es X.env := by rfl) (hpl : (backTo pos (starEach es X.env)).any (·.1) = false := by rfl) :
    CEx X W (.Call (.Name x p) (e :: es) [] pos) (fCall (fun ws μ => if ws.length = n then noex (g ws μ) else .no) a) := by
  obtain ⟨t, pa, q⟩ := ha
  refine ⟨_, pe_call G hr hg hm hk hb .nil pass0 pa hdb he hpl, fun env σ S μ hE hS Q h => ?_⟩
  unfold fCall at h
  rw [Rs.post_bind] at h
  refine q env σ S μ hE hS _ (h.mono (fun ws μ1 h1 vs S1 e1 hS1 r1 => ?_) fun _ _ z => z)
  by_cases hl : ws.length = n
  · rw [if_pos hl] at h1
    rw [List.append_nil]
    exact ⟨by rw [rws_len r1]; exact hl, ws, S1, μ1, rfl, hS1, r1, by
      have q := noex_post (E' := fun _ _ => False) (h1.mono (fun a ν z => POk.mono (Q := Q) e1 z) fun _ _ z => z)
      show (noex (g ws μ1)).Post _ _
      cases eg : g ws μ1 with
      | ok a ν => rw [eg] at q; exact q
      | ex x ν => rw [eg] at q; exact q
      | no => rw [eg] at q; exact q⟩
  · rw [if_neg hl] at h1
    exact h1.elim
end
end Ped

/-! Ped6: things that change: lists and dicts of the store; the written part -/
namespace Ped
open PySem L2 PyProof.Rows PySem.Spec

/-! ### a new thing, a thing changed, a thing frozen -/
theorem HS.push {K : PySem.W.Frag} {S : Sta} {μ : Sto} (h : HS K S μ) {p : Addr} {o : HO} {ob : Ob} (hp : S.H p = none) (hob : ObR K ⟨upd S.H p o, S.F, S.L ++ [p]⟩ p ob) : HS K ⟨upd S.H p o, S.F, S.L ++ [p]⟩ (μ ++ [ob]) := by
  have hpL := h.fresh hp
  have gr : Grow S ⟨upd S.H p o, S.F, S.L ++ [p]⟩ := ⟨fun _ _ z => z, fun n a z => by
    show (S.L ++ [p])[n]? = some a
    rw [List.getElem?_append_left (List.getElem?_eq_some_iff.mp z).1]
    exact z⟩
  refine ⟨fun a u e => ?_, ?_, ?_, fun n a h1 => ?_, fun n a ob' h1 h2 h3 => ?_, fun n a ob' h1 h2 => ?_⟩
  · show upd S.H p o a = some u
    have := h.sub a u e
    rw [upd_ne (ne_of_none this hp)]
    exact this
  · show (S.L ++ [p]).length = (μ ++ [ob]).length
    rw [List.length_append, List.length_append, h.len]
    rfl
  · show (S.L ++ [p]).Nodup
    rw [List.nodup_append]
    exact ⟨h.nd, (by simp), fun a ha b hb => by
      rw [List.mem_singleton] at hb
      subst hb
      exact fun z => hpL (z ▸ ha)⟩
  · have h1 : (S.L ++ [p])[n]? = some a := h1
    show ∃ u, upd S.H p o a = some u
    by_cases ha : a = p
    · subst ha
      exact ⟨o, upd_same⟩
    · rw [upd_ne ha]
      by_cases hn : n < S.L.length
      · rw [List.getElem?_append_left hn] at h1
        exact h.tr n a h1
      · rw [List.getElem?_append_right (by omega)] at h1
        have : a ∈ [p] := List.mem_of_getElem? h1
        exact absurd (List.mem_singleton.mp this) ha
  · have h1 : (S.L ++ [p])[n]? = some a := h1
    show S.F a = none
    by_cases hn : n < S.L.length
    · rw [List.getElem?_append_left hn] at h1
      rw [List.getElem?_append_left (by rw [← h.len]; exact hn)] at h2
      exact h.lv n a ob' h1 h2 h3
    · rw [List.getElem?_append_right (by omega)] at h1
      have : a ∈ [p] := List.mem_of_getElem? h1
      rw [List.mem_singleton.mp this]
      exact h.free hp
  · have h1 : (S.L ++ [p])[n]? = some a := h1
    by_cases hn : n < S.L.length
    · rw [List.getElem?_append_left hn] at h1
      rw [List.getElem?_append_left (by rw [← h.len]; exact hn)] at h2
      refine (h.ob n a ob' h1 h2).stayG gr fun u z => ?_
      show upd S.H p o a = some u
      rw [upd_ne (ne_of_none z hp)]
      exact z
    · rw [List.getElem?_append_right (by omega)] at h1
      rw [List.getElem?_append_right (by rw [← h.len]; omega)] at h2
      have hlt := (List.getElem?_eq_some_iff.mp h1).1
      simp only [List.length_singleton] at hlt
      have e0 : n - S.L.length = 0 := by omega
      have e1 : n - μ.length = 0 := by rw [← h.len]; exact e0
      rw [e0] at h1
      rw [e1] at h2
      cases h1
      cases h2
      exact hob
theorem Ext.push {S : Sta} {p : Addr} {o : HO} (hp : S.H p = none) : Ext S ⟨upd S.H p o, S.F, S.L ++ [p]⟩ := by
  refine ⟨fun _ _ z => z, fun n a z => ?_, fun a u z _ => ?_, fun a u z => ⟨u, ?_⟩, fun a z => ?_, fun _ z => .inl z, fun a u x z => (upd_ne (ne_of_none z hp)).trans z⟩
  · show (S.L ++ [p])[n]? = some a
    rw [List.getElem?_append_left (List.getElem?_eq_some_iff.mp z).1]
    exact z
  · show upd S.H p o a = some u
    rw [upd_ne (ne_of_none z hp)]
    exact z
  · show upd S.H p o a = some u
    rw [upd_ne (ne_of_none z hp)]
    exact z
  · have z : a ∈ S.L ++ [p] := z
    rcases List.mem_append.mp z with z | z
    · exact .inl z
    · rw [List.mem_singleton.mp z]
      exact .inr hp
theorem at_push {S : Sta} {p : Addr} {o : HO} {μ : Sto} (h : S.L.length = μ.length) : (⟨upd S.H p o, S.F, S.L ++ [p]⟩ : Sta).L[μ.length]? = some p := by
  show (S.L ++ [p])[μ.length]? = some p
  rw [← h, List.getElem?_append_right (Nat.le_refl _), Nat.sub_self]
  rfl
/-- the thing of number n becomes another one -/
theorem HS.put {K : PySem.W.Frag} {S : Sta} {μ : Sto} (h : HS K S μ) {n : Nat} {a : Addr} {o : HO} {ob0 ob : Ob} (hn : S.L[n]? = some a) (h0 : μ[n]? = some ob0) (hd : ob0 ≠ .dead) (hob : ObR K ⟨upd S.H a o, S.F, S.L⟩ a ob) : HS K ⟨upd S.H a o, S.F, S.L⟩ (μ.set n ob) := by
  have hF := h.lv n a ob0 hn h0 hd
  have gr : Grow S ⟨upd S.H a o, S.F, S.L⟩ := ⟨fun _ _ z => z, fun _ _ z => z⟩
  have hlt : n < μ.length := (List.getElem?_eq_some_iff.mp h0).1
  refine ⟨fun b u e => ?_, ?_, h.nd, fun m b h1 => ?_, fun m b ob' h1 h2 h3 => ?_, fun m b ob' h1 h2 => ?_⟩
  · show upd S.H a o b = some u
    rw [upd_ne (ne_of_none e hF)]
    exact h.sub b u e
  · rw [List.length_set]
    exact h.len
  · show ∃ u, upd S.H a o b = some u
    by_cases hb : b = a
    · subst hb
      exact ⟨o, upd_same⟩
    · rw [upd_ne hb]
      exact h.tr m b h1
  · by_cases hm : n = m
    · subst hm
      have h1 : S.L[n]? = some b := h1
      rw [hn] at h1
      cases h1
      exact hF
    · rw [List.getElem?_set_ne hm] at h2
      exact h.lv m b ob' h1 h2 h3
  · by_cases hm : n = m
    · subst hm
      have h1 : S.L[n]? = some b := h1
      rw [hn] at h1
      cases h1
      rw [List.getElem?_set_self hlt] at h2
      cases h2
      exact hob
    · rw [List.getElem?_set_ne hm] at h2
      have hb : b ≠ a := fun z => by
        subst z
        have h1 : S.L[m]? = some b := h1
        obtain ⟨l1, e1⟩ := List.getElem?_eq_some_iff.mp h1
        obtain ⟨l2, e2⟩ := List.getElem?_eq_some_iff.mp hn
        exact hm ((List.getElem_inj h.nd).mp (e2.trans e1.symm))
      refine (h.ob m b ob' h1 h2).stayG gr fun u z => ?_
      show upd S.H a o b = some u
      rw [upd_ne hb]
      exact z
theorem Ext.put {S : Sta} {n : Nat} {a : Addr} {o v : HO} (hn : S.L[n]? = some a) (hv : S.H a = some v) (hz : ∀ o u, v ≠ .frz o u := by intro _ _ z; cases z) : Ext S ⟨upd S.H a o, S.F, S.L⟩ := by
  refine ⟨fun _ _ z => z, fun _ _ z => z, fun b u z hb => ?_, fun b u z => ?_, fun _ z => .inl z, fun _ z => .inl z, fun b u x z => (upd_ne fun q => by subst q; rw [hv] at z; exact hz _ _ (Option.some.inj z)).trans z⟩
  · show upd S.H a o b = some u
    rw [upd_ne fun q => hb (by rw [q]; exact List.mem_of_getElem? hn)]
    exact z
  · show ∃ u', upd S.H a o b = some u'
    by_cases hb : b = a
    · subst hb
      exact ⟨o, upd_same⟩
    · rw [upd_ne hb]
      exact ⟨u, z⟩
/-- the list of number n is changed no more -/
theorem HS.freeze {K : PySem.W.Frag} {S : Sta} {μ : Sto} (h : HS K S μ) {n : Nat} {a : Addr} {vs : List V} {ws : List Wv} {ds : List PyData} (hn : S.L[n]? = some a) (h0 : μ[n]? = some (.lst ws)) (hH : S.H a = some (.lst vs)) (r : RWs K S vs ws) (hd : dats ws = some ds) :
    Ext S ⟨S.H, upd S.F a (.lst vs), S.L⟩ ∧ HS K ⟨S.H, upd S.F a (.lst vs), S.L⟩ (μ.set n .dead) ∧ Rp K (upd S.F a (.lst vs)) (.ref a) (.list ds) := by
  have hF := h.lv n a _ hn h0 (by intro z; cases z)
  have hlt : n < μ.length := (List.getElem?_eq_some_iff.mp h0).1
  have sb : Sb S.F (upd S.F a (.lst vs)) := fun b u z => by
    rw [upd_ne (ne_of_none z hF)]
    exact z
  refine ⟨⟨sb, fun _ _ z => z, fun _ _ z _ => z, fun _ u z => ⟨u, z⟩, fun _ z => .inl z, fun b z => ?_, fun _ _ _ z => z⟩, ⟨fun b u e => ?_, ?_, h.nd, h.tr, fun m b ob' h1 h2 h3 => ?_, fun m b ob' h1 h2 => ?_⟩, rp_lst hF (rws_dats r hd)⟩
  · by_cases hb : b = a
    · subst hb
      exact .inr (.inr (List.mem_of_getElem? hn))
    · have z : upd S.F a (.lst vs) b ≠ none := z
      rw [upd_ne hb] at z
      exact .inl z
  · have e : upd S.F a (.lst vs) b = some u := e
    by_cases hb : b = a
    · subst hb
      rw [upd_same] at e
      cases e
      exact hH
    · rw [upd_ne hb] at e
      exact h.sub b u e
  · rw [List.length_set]
    exact h.len
  · by_cases hm : n = m
    · subst hm
      rw [List.getElem?_set_self hlt] at h2
      cases h2
      exact absurd rfl h3
    · rw [List.getElem?_set_ne hm] at h2
      have hb : b ≠ a := fun z => by
        subst z
        have h1 : S.L[m]? = some b := h1
        obtain ⟨l1, e1⟩ := List.getElem?_eq_some_iff.mp h1
        obtain ⟨l2, e2⟩ := List.getElem?_eq_some_iff.mp hn
        exact hm ((List.getElem_inj h.nd).mp (e2.trans e1.symm))
      show upd S.F a (.lst vs) b = none
      rw [upd_ne hb]
      exact h.lv m b ob' h1 h2 h3
  · by_cases hm : n = m
    · subst hm
      rw [List.getElem?_set_self hlt] at h2
      cases h2
      trivial
    · rw [List.getElem?_set_ne hm] at h2
      exact ObR.stayG (S := S) (S' := ⟨S.H, upd S.F a (.lst vs), S.L⟩) ⟨sb, fun _ _ z => z⟩ (h.ob m b ob' h1 h2) fun _ z => z

section
variable {X : Cx} {W : WX}
/-! ### lists of the store -/
def fLstN (g : FA) : FE := fun env μ => (g env μ).bind fun ws μ1 => if ws.length ≤ LIM then .ok (.l μ1.length) (μ1 ++ [.lst ws]) else .no
theorem new_lstN {K : PySem.W.Frag} {S : Sta} {μ : Sto} {Q : VK} {vs : List V} {ws : List Wv} (hS : HS K S μ) (r : RWs K S vs ws) (h : POk K S Q (.l μ.length) (μ ++ [.lst ws])) : ∀ p, S.H p = none → Q (.ref p) (upd S.H p (.lst vs)) := fun p hp =>
  h (.ref p) ⟨upd S.H p (.lst vs), S.F, S.L ++ [p]⟩ (Ext.push hp) (hS.push hp ⟨vs, upd_same, r.mono (Ext.push hp)⟩) ⟨p, at_push hS.len, rfl⟩
theorem c_lstN {es : List Expr} {pos} {g : FA} (h : CA X W es g) : CEx X W (.List es pos) (fLstN g) := by
  obtain ⟨t, p, q⟩ := h
  refine ⟨_, pe_lst p, fun env σ S μ he hS Q h => ?_⟩
  unfold fLstN at h
  rw [Rs.post_bind] at h
  refine q env σ S μ he hS _ (h.mono (fun ws μ1 h1 vs S1 e1 hS1 r1 => ?_) fun _ _ z => z)
  by_cases hl : ws.length ≤ LIM
  · rw [if_pos hl] at h1
    exact ⟨by rw [rws_len r1]; exact lim_line hl, new_lstN hS1 r1 (POk.mono e1 h1)⟩
  · rw [if_neg hl] at h1
    exact h1.elim
/-- [..] * n, to be changed -/
def mulN (x y : Wv) (μ : Sto) : Rs Wv := match x, y with
  | .d (.list i), .d (.int k) => if -1000000 ≤ k ∧ k ≤ 1000000 ∧ i.length * k.toNat ≤ LIM then .ok (.l μ.length) (μ ++ [.lst ((List.replicate k.toNat i).flatten.map Wv.d)]) else .no
  | _, _ => .no
theorem mulN_nx : NoEx mulN := fun x y μ e ν q => by
  unfold mulN at q
  split at q <;> first | cases q | (split at q <;> cases q)
theorem rws_of {K : PySem.W.Frag} {S : Sta} : ∀ {vs : List V} {ds : List PyData}, RpA K S.F vs ds → RWs K S vs (ds.map Wv.d)
  | _, _, .nil => .nil
  | _, _, .cons r t => .cons r (rws_of t)
theorem c_mulN {a b : Expr} {f g : FE} {pos : Pos} (ha : CEx X W a f) (hb : CEx X W b g) : CEx X W (.BinOp a .Mult b pos) (fOp mulN f g) := by
  refine c_op op_rep (fun x y v u S μ hS hx hy Q hp => ?_) mulN_nx ha hb
  unfold mulN at hp
  split at hp
  · split at hp
    · rename_i hk
      obtain ⟨p, xs, rfl, ha, ra⟩ := rp_lst_inv hx
      cases hy
      exact ⟨p, _, xs, rfl, rfl, hS.sub _ _ ha, by omega, by omega, by rw [ra.len]; exact lim_line hk.2.2, new_lstN hS (rws_of (ra.rep _)) hp⟩
    · exact hp.elim
  · exact hp.elim
/-- the list of number n in the store -/
def lstAt (μ : Sto) (n : Nat) : Option (List Wv) := match μ[n]? with
  | some (.lst ws) => some ws
  | _ => none
theorem lstAt_some {μ : Sto} {n : Nat} {ws : List Wv} (h : lstAt μ n = some ws) : μ[n]? = some (.lst ws) := by
  unfold lstAt at h
  split at h
  · cases h; assumption
  · cases h
/-- x.append(e) -/
def fApp (f g : FE) : FE := fun env μ => (f env μ).bind fun x μ1 => match x with
  | .l n => (match lstAt μ1 n with
    | some _ => (g env μ1).bind fun y μ2 => (match lstAt μ2 n with
      | some ws => if ws.length < LIM then .ok (.d .none) (μ2.set n (.lst (ws ++ [y]))) else .no
      | none => .no)
    | none => .no)
  | _ => .no
theorem rws_append {K : PySem.W.Frag} {S : Sta} : ∀ {vs us : List V} {ws zs : List Wv}, RWs K S vs ws → RWs K S us zs → RWs K S (vs ++ us) (ws ++ zs)
  | _, _, _, _, .nil, s => s
  | _, _, _, _, .cons r t, s => .cons r (rws_append t s)
theorem c_append {o e : Expr} {f g : FE} {apos cpos : Pos} (ho : CEx X W o f) (he : CEx X W e g)
    (hbase : attributeBase o "append" X.env (eval o X.env) = eval o X.env := by rfl)
    (hfew : ((backTo cpos (starEach [e] X.env)).all (fun x => !x.1) && (backToKw cpos (keywordEach [] X.env)).all (fun x => x.1.isSome)
      && decide (([e] : List Expr).length + ([] : List Keyword).length + (if ([] : List Keyword).isEmpty then 0 else 1) < 30)) = true := by rfl)
    (hline : (apos.endLine == cpos.line) = true := by rfl) (hs : starEach [e] X.env = (false, eval e X.env) :: starEach [] X.env := by rfl) (hplain : (backTo cpos (starEach [] X.env)).any (·.1) = false := by rfl) :
    CEx X W (.Call (.Attribute o "append" apos) [e] [] cpos) (fApp f g) := by
  obtain ⟨to, po, qo⟩ := ho
  obtain ⟨te, pe, qe⟩ := he
  refine ⟨_, pe_bm PySem.F.plainAttrs_list PySem.F.slot_list_append PySem.F.type_list_append mt_append po (pa_cons pe pa_nil hs) hbase hfew hline hs hplain, fun env σ S μ hE hS Q hp => ?_⟩
  unfold fApp at hp
  rw [Rs.post_bind] at hp
  refine qo env σ S μ hE hS _ (hp.mono (fun x μ1 h1 v S1 e1 hS1 r1 => ?_) fun _ _ z => z)
  cases x with
  | d z => exact h1.elim
  | s z => exact h1.elim
  | e _ _ => exact h1.elim
  | l n =>
    obtain ⟨a, hL, rfl⟩ := r1
    simp only at h1
    cases hm : lstAt μ1 n with
    | none => rw [hm] at h1; exact h1.elim
    | some ws1 =>
      rw [hm] at h1
      obtain ⟨vs1, q1, _⟩ := hS1.ob n a _ hL (lstAt_some hm)
      refine ⟨.inl ⟨rfl, _, .inl (.inl q1)⟩, ?_⟩
      have h1 : ((g env μ1).bind _).Post _ _ := h1
      rw [Rs.post_bind] at h1
      refine qe env σ S1 μ1 (hE.mono e1) hS1 _ (h1.mono (fun y μ2 h2 u S2 e2 hS2 r2 => ?_) fun _ _ z => z.mono e1)
      cases hm2 : lstAt μ2 n with
      | none => rw [hm2] at h2; exact h2.elim
      | some ws =>
        rw [hm2] at h2
        have hL2 := e2.pf n a hL
        obtain ⟨vs, q2, q3⟩ := hS2.ob n a _ hL2 (lstAt_some hm2)
        simp only at h2
        by_cases hl : ws.length < LIM
        · rw [if_pos hl] at h2
          have h2 : POk X.K S Q (.d .none) (μ2.set n (.lst (ws ++ [y]))) := h2
          refine ⟨a, vs, u, rfl, rfl, q2, by rw [rws_len q3]; exact lim_lt (Nat.le_of_lt hl), ?_⟩
          have ex := Ext.put (o := .lst (vs ++ [u])) hL2 q2
          exact h2 .non _ (e1.trans (e2.trans ex)) (hS2.put hL2 (lstAt_some hm2) (by intro z; cases z) ⟨_, upd_same, rws_append (q3.mono ex) (.cons (r2.mono ex) .nil)⟩) .non
        · rw [if_neg hl] at h2
          exact h2.elim
/-- o[i] = e, o a list of the store -/
def sSetIx (f g h : FE) : FS := fun env μ => (f env μ).bind fun y μ1 => (g env μ1).bind fun x μ2 => (h env μ2).bind fun i μ3 => match x, i with
  | .l n, .d (.int k) => (match lstAt μ3 n with
    | some ws => (match ixN ws.length k with
      | some j => .ok (.nx env) (μ3.set n (.lst (ws.set j y)))
      | none => .no)
    | none => .no)
  | _, _ => .no
theorem rws_set {K : PySem.W.Frag} {S : Sta} {v : V} {w : Wv} (r : RW K S v w) : ∀ {vs : List V} {ws : List Wv} (j : Nat), RWs K S vs ws → RWs K S (vs.set j v) (ws.set j w)
  | _, _, _, .nil => .nil
  | _, _, 0, .cons _ t => .cons r t
  | _, _, j + 1, .cons q t => .cons q (rws_set r j t)
theorem cs_setix {o i e : Expr} {f g h : FE} {p pos : Pos} (he : CEx X W e f) (ho : CEx X W o g) (hi : CEx X W i h)
    (ha : ∀ v, assign (.Subscript o i p) X.env v = (do
      let ov ← holding [v] (eval o X.env)
      let iv ← holding [v, ov] (eval i X.env)
      standAt p
      holding [v, ov, iv] (setItem ov iv v)
      release [v, ov, iv] []) := by intro _; rfl) (hs : swapsWithSole [.Subscript o i p] e pos.line X.env = pure false := by rfl) (hw : swappedStores [.Subscript o i p] e X.env = pure none := by rfl)
    (h1 : (assignEach [.Subscript o i p] X.env).map (·.2) = [assign (.Subscript o i p) X.env] := by rfl) : CS X W (.Assign [.Subscript o i p] e pos) (sSetIx f g h) := by
  obtain ⟨te, pe, qe⟩ := he
  obtain ⟨to, po, qo⟩ := ho
  obtain ⟨ti, pi, qi⟩ := hi
  refine ⟨_, ps_asg pe (pg_sub po pi set_list ha) hs hw h1, fun env σ S μ hE hS D hp => ?_⟩
  unfold sSetIx at hp
  rw [Rs.post_bind] at hp
  refine qe env σ S μ hE hS _ (hp.mono (fun y μ1 h1 v S1 e1 hS1 r1 => ?_) fun _ _ z => z.at hE.lenS)
  rw [Rs.post_bind] at h1
  refine qo env σ S1 μ1 (hE.mono e1) hS1 _ (h1.mono (fun x μ2 h2 u S2 e2 hS2 r2 => ?_) fun _ _ z => (z.mono e1).at hE.lenS)
  rw [Rs.post_bind] at h2
  refine qi env σ S2 μ2 (hE.mono (e1.trans e2)) hS2 _ (h2.mono (fun i μ3 h3 t S3 e3 hS3 r3 => ?_) fun _ _ z => (z.mono (e1.trans e2)).at hE.lenS)
  split at h3
  · rename_i n k
    obtain ⟨a, hL, rfl⟩ := r2
    cases r3
    cases hm : lstAt μ3 n with
    | none => rw [hm] at h3; exact h3.elim
    | some ws =>
      rw [hm] at h3
      simp only at h3
      have hL3 := e3.pf n a hL
      obtain ⟨vs, q2, q3⟩ := hS3.ob n a _ hL3 (lstAt_some hm)
      cases hj : ixN ws.length k with
      | none => rw [hj] at h3; exact h3.elim
      | some j =>
        rw [hj] at h3
        have ex := Ext.put (o := .lst (vs.set j v)) hL3 q2
        refine ⟨a, vs, k, j, rfl, rfl, q2, by rw [rws_len q3]; exact hj, ?_⟩
        exact h3 σ _ (e1.trans (e2.trans (e3.trans ex))) (hS3.put hL3 (lstAt_some hm) (by intro z; cases z) ⟨_, upd_same, rws_set (r1.mono (e2.trans (e3.trans ex))) j (q3.mono ex)⟩) (hE.mono (e1.trans (e2.trans (e3.trans ex))))
  · exact h3.elim
/-- from here on the list at the i-th name is changed no more -/
def frz (i : Nat) (f : FS) : FS := fun env μ => match env[i]? with
  | some (some (.l n)) => (match lstAt μ n with
    | some ws => (match dats ws with
      | some ds => f (env.set i (some (.d (.list ds)))) (μ.set n .dead)
      | none => .no)
    | none => .no)
  | _ => .no
theorem cb_frz (i : Nat) {sts : List Stmt} {f : FS} (h : CB X W sts f) : CB X W sts (frz i f) := by
  obtain ⟨t, p, q⟩ := h
  refine ⟨t, p, fun env σ S μ hE hS D hp => ?_⟩
  unfold frz at hp
  split at hp
  · rename_i n hi
    cases hm : lstAt μ n with
    | none => rw [hm] at hp; exact hp.elim
    | some ws =>
      rw [hm] at hp
      simp only at hp
      cases hd : dats ws with
      | none => rw [hd] at hp; exact hp.elim
      | some ds =>
        rw [hd] at hp
        obtain ⟨v, hv, a, hL, rfl⟩ := hE.val i _ hi
        obtain ⟨vs, q1, q2⟩ := hS.ob n a _ hL (lstAt_some hm)
        obtain ⟨ex, hS', r⟩ := hS.freeze hL (lstAt_some hm) q1 q2 hd
        have hE' := (hE.mono ex).set (i := i) (w := .d (.list ds)) (v := .ref a) r
        have es : σ.set i (some (.ref a)) = σ := by
          refine List.ext_getElem? fun j => ?_
          by_cases hj : i = j
          · subst hj
            rw [List.getElem?_set_self (List.getElem?_eq_some_iff.mp hv).1, hv]
          · rw [List.getElem?_set_ne hj]
        rw [es] at hE'
        exact q _ σ _ _ hE' hS' D (hp.mono (fun fl ν z => EndOk.mono ex z) fun _ _ z => z.mono ex)
  · exact hp.elim

/-! ### dicts of the store -/
def keyD : PyData → Option Key
  | .int i => some (.inl i)
  | .str s => some (.inr s)
  | _ => none
def keysD : List PyData → Option (List Key)
  | [] => some []
  | d :: r => match keyD d, keysD r with
    | some k, some ks => some (k :: ks)
    | _, _ => none
theorem keyD_rp {K : PySem.W.Frag} {F : Hp} {v : V} {d : PyData} {k : Key} (h : keyD d = some k) (r : Rp K F v d) : v = kV k := by
  cases r <;> simp [keyD] at h
  · subst h; rfl
  · subst h; rfl
theorem keysD_rp {K : PySem.W.Frag} {F : Hp} : ∀ {vs : List V} {ds : List PyData} {ks : List Key}, keysD ds = some ks → RpA K F vs ds → vs = ks.map kV
  | _, _, ks, h, .nil => by simp [keysD] at h; subst h; rfl
  | _, _, ks, h, .cons r t => by
    unfold keysD at h
    split at h
    · rename_i k ks' h1 h2
      cases h
      rw [keyD_rp h1 r, keysD_rp h2 t]
      rfl
    · cases h
section
variable {κ : Type} [DecidableEq κ]
def valW (kvs : List (κ × Wv)) (k : κ) : Option Wv := (kvs.find? fun kv => decide (kv.1 = k)).map (·.2)
def putW (kvs : List (κ × Wv)) (k : κ) (v : Wv) : List (κ × Wv) :=
  if (kvs.any fun kv => decide (kv.1 = k)) = true then kvs.map (fun kv => if kv.1 = k then (kv.1, v) else kv) else kvs ++ [(k, v)]
theorem valW_cons (k1 k : κ) (w : Wv) (r : List (κ × Wv)) : valW ((k1, w) :: r) k = if k1 = k then some w else valW r k := by
  by_cases h : k1 = k <;> simp [valW, List.find?_cons, h]
theorem rkv_val {K : PySem.W.Frag} {S : Sta} {k : κ} : ∀ {vs : List (κ × V)} {ws : List (κ × Wv)}, RKv K S vs ws → (∀ w, valW ws k = some w → ∃ v, valV vs k = some v ∧ RW K S v w) ∧ (valW ws k = none → valV vs k = none)
  | _, _, .nil => ⟨fun w h => (by simp [valW] at h), fun _ => rfl⟩
  | (k1, v) :: vs, (k2, w) :: ws, .cons r t => by
    obtain ⟨e, r⟩ := r
    have e : k1 = k2 := e
    subst e
    obtain ⟨i1, i2⟩ := rkv_val (k := k) t
    rw [valW_cons]
    by_cases hk : k1 = k
    · rw [if_pos hk, valV_pos (p := (k1, v)) hk]
      exact ⟨fun w' h => by cases h; exact ⟨v, rfl, r⟩, fun h => by cases h⟩
    · rw [if_neg hk, valV_neg (p := (k1, v)) hk]
      exact ⟨i1, i2⟩
theorem rkv_any {K : PySem.W.Frag} {S : Sta} {k : κ} : ∀ {vs : List (κ × V)} {ws : List (κ × Wv)}, RKv K S vs ws → (vs.any fun kv => decide (kv.1 = k)) = ws.any fun kv => decide (kv.1 = k)
  | _, _, .nil => rfl
  | _, _, .cons r t => by rw [List.any_cons, List.any_cons, rkv_any t, r.1]
theorem rkv_len {K : PySem.W.Frag} {S : Sta} {vs : List (κ × V)} {ws : List (κ × Wv)} (h : RKv K S vs ws) : vs.length = ws.length := Paired.length h
theorem rkv_map {K : PySem.W.Frag} {S : Sta} {k : κ} {v : V} {w : Wv} (r : RW K S v w) : ∀ {vs : List (κ × V)} {ws : List (κ × Wv)}, RKv K S vs ws → RKv K S (vs.map fun kv => if kv.1 = k then (kv.1, v) else kv) (ws.map fun kv => if kv.1 = k then (kv.1, w) else kv)
  | _, _, .nil => .nil
  | (k1, x) :: _, (k2, y) :: _, .cons s t => by
    obtain ⟨e, s⟩ := s
    have e : k1 = k2 := e
    subst e
    refine .cons ?_ (rkv_map r t)
    show (if k1 = k then (k1, v) else (k1, x)).1 = (if k1 = k then (k1, w) else (k1, y)).1 ∧ RW K S (if k1 = k then (k1, v) else (k1, x)).2 (if k1 = k then (k1, w) else (k1, y)).2
    by_cases hk : k1 = k
    · rw [if_pos hk, if_pos hk]
      exact ⟨rfl, r⟩
    · rw [if_neg hk, if_neg hk]
      exact ⟨rfl, s⟩
theorem rkv_app {K : PySem.W.Frag} {S : Sta} : ∀ {vs us : List (κ × V)} {ws zs : List (κ × Wv)}, RKv K S vs ws → RKv K S us zs → RKv K S (vs ++ us) (ws ++ zs)
  | _, _, _, _, .nil, s => s
  | _, _, _, _, .cons r t, s => .cons r (rkv_app t s)
theorem rkv_put {K : PySem.W.Frag} {S : Sta} {k : κ} {v : V} {w : Wv} (r : RW K S v w) {vs : List (κ × V)} {ws : List (κ × Wv)} (h : RKv K S vs ws) : RKv K S (putK vs k v) (putW ws k w) := by
  unfold putK putW
  rw [rkv_any h]
  split
  · exact rkv_map r h
  · exact rkv_app h (.cons ⟨rfl, r⟩ .nil)
end
/-- a new dict, of keys that are ints and texts; of tuples of them -/
def fDictK : FE := fun _ μ => .ok (.l μ.length) (μ ++ [.dk []])
def fDictT : FE := fun _ μ => .ok (.l μ.length) (μ ++ [.dt []])
theorem c_dictK {pos : Pos} : CEx X W (.Dict [] [] pos) fDictK := ⟨_, pe_dnewK, fun env σ S μ hE hS Q h p hp =>
  h (.ref p) ⟨upd S.H p (.dK []), S.F, S.L ++ [p]⟩ (Ext.push hp) (hS.push hp ⟨[], upd_same, .nil⟩) ⟨p, at_push hS.len, rfl⟩⟩
theorem c_dictT {pos : Pos} : CEx X W (.Dict [] [] pos) fDictT := ⟨_, pe_dnewT, fun env σ S μ hE hS Q h p hp =>
  h (.ref p) ⟨upd S.H p (.dT []), S.F, S.L ++ [p]⟩ (Ext.push hp) (hS.push hp ⟨[], upd_same, .nil⟩) ⟨p, at_push hS.len, rfl⟩⟩
/-- a tuple as a key: of ints, one at least -/
def keysN (ds : List PyData) : Option (List Key) := if inN ds = true then keysD ds else none
theorem keysN_some {ds : List PyData} {ks : List Key} (h : keysN ds = some ks) : inN ds = true ∧ keysD ds = some ks := by
  unfold keysN at h
  split at h
  · exact ⟨by assumption, h⟩
  · cases h
/-- what the dict of number n holds at a key (none: stuck) -/
def dGet (μ : Sto) (x y : Wv) : Option (Option Wv) := match x, y with
  | .l n, .d d => (match μ[n]? with
    | some (.dk kvs) => (keyD d).map fun k => valW kvs k
    | some (.lk kvs) => (keyD d).map fun k => valW kvs k
    | some (.dt kvs) => (match d with
      | .tuple ds => (keysN ds).map fun k => valW kvs k
      | _ => none)
    | _ => none)
  | _, _ => none
theorem dGet_ok {K : PySem.W.Frag} {S : Sta} {μ : Sto} (hS : HS K S μ) {x y : Wv} {v u : V} {r : Option Wv} (h : dGet μ x y = some r) (rx : RW K S v x) (ry : RW K S u y) : ∃ a o, v = .ref a ∧ DGet S.H a u o ∧ (∀ w, r = some w → ∃ z, o = some z ∧ RW K S z w) ∧ (r = none → o = none) := by
  unfold dGet at h
  split at h
  · rename_i n d
    obtain ⟨a, hL, rfl⟩ := rx
    split at h
    · rename_i kvs hm
      cases hk : keyD d with
      | none => rw [hk] at h; cases h
      | some k =>
        rw [hk] at h
        cases h
        obtain ⟨vs, h1, h2⟩ := hS.ob n a _ hL hm
        obtain ⟨i1, i2⟩ := rkv_val (k := k) h2
        refine ⟨a, _, rfl, by rw [keyD_rp hk ry]; exact DGet.k h1, i1, i2⟩
    · rename_i kvs hm
      cases hk : keyD d with
      | none => rw [hk] at h; cases h
      | some k =>
        rw [hk] at h
        cases h
        obtain ⟨od, vs, h1, h2⟩ := hS.ob n a _ hL hm
        obtain ⟨i1, i2⟩ := rkv_val (k := k) h2
        refine ⟨a, _, rfl, by rw [keyD_rp hk ry]; exact .inl ⟨_, _, .inr ⟨_, h1⟩, rfl, rfl⟩, i1, i2⟩
    · rename_i kvs hm
      split at h
      · rename_i ds
        cases hk : keysN ds with
        | none => rw [hk] at h; cases h
        | some k =>
          rw [hk] at h
          cases h
          obtain ⟨vs, h1, h2⟩ := hS.ob n a _ hL hm
          obtain ⟨i1, i2⟩ := rkv_val (k := k) h2
          obtain ⟨b, xs, rfl, hb, rb⟩ := rp_int_inv ry (keysN_some hk).1
          exact ⟨a, _, rfl, DGet.t h1 (by rw [← keysD_rp (keysN_some hk).2 rb]; exact hS.sub _ _ hb), i1, i2⟩
      · cases h
    · cases h
  · cases h
/-- the store behind d[y] = v -/
def dPut (μ : Sto) (x y z : Wv) : Option Sto := match x, y with
  | .l n, .d d => (match μ[n]? with
    | some (.dk kvs) => if kvs.length < LIM then (keyD d).map fun k => μ.set n (.dk (putW kvs k z)) else none
    | some (.dt kvs) => (match d with
      | .tuple ds => if kvs.length < LIM then (keysN ds).map fun k => μ.set n (.dt (putW kvs k z)) else none
      | _ => none)
    | _ => none)
  | _, _ => none
theorem dPut_ok {K : PySem.W.Frag} {S : Sta} {μ ν : Sto} (hS : HS K S μ) {x y z : Wv} {v u t : V} (h : dPut μ x y z = some ν) (rx : RW K S v x) (ry : RW K S u y) (rz : RW K S t z) : ∃ a H' S', v = .ref a ∧ DPut S.H a u t H' ∧ S'.H = H' ∧ Ext S S' ∧ HS K S' ν := by
  unfold dPut at h
  split at h
  · rename_i n d
    obtain ⟨a, hL, rfl⟩ := rx
    split at h
    · rename_i kvs hm
      split at h
      · rename_i hlen
        cases hk : keyD d with
        | none => rw [hk] at h; cases h
        | some k =>
          rw [hk] at h
          cases h
          obtain ⟨vs, h1, h2⟩ := hS.ob n a _ hL hm
          have ex := Ext.put (o := .dK (putK vs k t)) hL h1
          exact ⟨a, _, _, rfl, by rw [keyD_rp hk ry]; exact DPut.k h1 (by rw [rkv_len h2]; exact lim_lt (Nat.le_of_lt hlen)), rfl, ex, hS.put hL hm (by intro z; cases z) ⟨_, upd_same, rkv_put (rz.mono ex) (h2.mono ex)⟩⟩
      · cases h
    · rename_i kvs hm
      split at h
      · rename_i ds
        split at h
        · rename_i hlen
          cases hk : keysN ds with
          | none => rw [hk] at h; cases h
          | some k =>
            rw [hk] at h
            cases h
            obtain ⟨vs, h1, h2⟩ := hS.ob n a _ hL hm
            obtain ⟨b, xs, rfl, hb, rb⟩ := rp_int_inv ry (keysN_some hk).1
            have ex := Ext.put (o := .dT (putK vs k t)) hL h1
            exact ⟨a, _, _, rfl, DPut.t h1 (by rw [← keysD_rp (keysN_some hk).2 rb]; exact hS.sub _ _ hb) (by rw [rkv_len h2]; exact lim_lt (Nat.le_of_lt hlen)), rfl, ex, hS.put hL hm (by intro z; cases z) ⟨_, upd_same, rkv_put (rz.mono ex) (h2.mono ex)⟩⟩
        · cases h
      · cases h
    · cases h
  · cases h
section
variable {a b : Expr} {f g : FE} {pos : Pos}
def dgetW (x y : Wv) (μ : Sto) : Rs Wv := match dGet μ x y with
  | some (some w) => .ok w μ
  | _ => .no
def fDget (f g : FE) : FE := fOp dgetW f g
def dinW (neg : Bool) (y x : Wv) (μ : Sto) : Rs Wv := match dGet μ x y with
  | some o => .ok (.d (.bool (if neg then !o.isSome else o.isSome))) μ
  | none => .no
def fDin (neg : Bool) (f g : FE) : FE := fOp (dinW neg) f g
theorem c_dget (hu : X.A.units + 1 < cLine) (ha : CEx X W a f) (hb : CEx X W b g) (hs : NoSl b := by intro _ _; rfl) : CEx X W (.Subscript a b pos) (fDget f g) := by
  obtain ⟨ta, pa, qa⟩ := ha
  obtain ⟨tb, pb, qb⟩ := hb
  refine ⟨_, pe_dget hu pa pb hs, fun env σ S μ he hS Q hp => ?_⟩
  unfold fDget fOp at hp
  rw [Rs.post_bind] at hp
  refine qa env σ S μ he hS _ (hp.mono (fun x μ1 h1 v S1 e1 hS1 r1 => ?_) fun _ _ z => z)
  rw [Rs.post_bind] at h1
  refine qb env σ S1 μ1 (he.mono e1) hS1 _ (h1.mono (fun y μ2 h2 u S2 e2 hS2 r2 => ?_) fun _ _ z => z.mono e1)
  unfold dgetW at h2
  cases hg : dGet μ2 x y with
  | none => rw [hg] at h2; exact h2.elim
  | some r =>
    rw [hg] at h2
    cases r with
    | none => exact h2.elim
    | some w =>
      obtain ⟨a, o, rfl, hD, i1, _⟩ := dGet_ok hS2 hg (r1.mono e2) r2
      obtain ⟨z, rfl, rz⟩ := i1 w rfl
      exact ⟨a, z, rfl, hD, h2 z S2 (e1.trans e2) hS2 rz⟩
theorem din_core {neg : Bool} {ta tb : TE} (qa : ∀ env σ S μ, EnvR X.K X.N.length S env σ → HS X.K S μ → ∀ Q : VK, (f env μ).Post (POk X.K S Q) (PEx X.K W σ S) → ta σ S.H Q)
    (qb : ∀ env σ S μ, EnvR X.K X.N.length S env σ → HS X.K S μ → ∀ Q : VK, (g env μ).Post (POk X.K S Q) (PEx X.K W σ S) → tb σ S.H Q) :
    ∀ env σ S μ, EnvR X.K X.N.length S env σ → HS X.K S μ → ∀ Q : VK, (fDin neg f g env μ).Post (POk X.K S Q) (PEx X.K W σ S) →
      ta σ S.H fun y H1 => tb σ H1 fun x H2 => ∃ a o, x = .ref a ∧ DGet H2 a y o ∧ Q (.bl (if neg then !o.isSome else o.isSome)) H2 := fun env σ S μ he hS Q hp => by
  unfold fDin fOp at hp
  rw [Rs.post_bind] at hp
  refine qa env σ S μ he hS _ (hp.mono (fun y μ1 h1 v S1 e1 hS1 r1 => ?_) fun _ _ z => z)
  rw [Rs.post_bind] at h1
  refine qb env σ S1 μ1 (he.mono e1) hS1 _ (h1.mono (fun x μ2 h2 u S2 e2 hS2 r2 => ?_) fun _ _ z => z.mono e1)
  unfold dinW at h2
  cases hg : dGet μ2 x y with
  | none => rw [hg] at h2; exact h2.elim
  | some r =>
    rw [hg] at h2
    obtain ⟨a, o, rfl, hD, i1, i2⟩ := dGet_ok hS2 hg r2 (r1.mono e2)
    have e : o.isSome = r.isSome := by
      cases r with
      | none => rw [i2 rfl]; rfl
      | some w => obtain ⟨z, rfl, _⟩ := i1 w rfl; rfl
    refine ⟨a, o, rfl, hD, ?_⟩
    rw [e]
    exact h2 _ S2 (e1.trans e2) hS2 (.bl _)
theorem c_din (hu : X.A.units + 1 < cLine) (ha : CEx X W a f) (hb : CEx X W b g) (hm : behindInMarks .In b = false := by rfl) : CEx X W (.Compare a [.In] [b] pos) (fDin false f g) := by
  obtain ⟨ta, pa, qa⟩ := ha
  obtain ⟨tb, pb, qb⟩ := hb
  exact ⟨_, pe_cmp (pc_din hu pa pb) hm, din_core (neg := false) qa qb⟩
theorem c_dnotin (hu : X.A.units + 1 < cLine) (ha : CEx X W a f) (hb : CEx X W b g) (hm : behindInMarks .NotIn b = false := by rfl) : CEx X W (.Compare a [.NotIn] [b] pos) (fDin true f g) := by
  obtain ⟨ta, pa, qa⟩ := ha
  obtain ⟨tb, pb, qb⟩ := hb
  exact ⟨_, pe_cmp (pc_dnotin hu pa pb) hm, din_core (neg := true) qa qb⟩
theorem ct_din (hu : X.A.units + 1 < cLine) (ha : CEx X W a f) (hb : CEx X W b g) (hm : behindInMarks .In b = false := by rfl) : CT X W (.Compare a [.In] [b] pos) (fB (fDin false f g)) := by
  obtain ⟨ta, pa, qa⟩ := ha
  obtain ⟨tb, pb, qb⟩ := hb
  exact ⟨_, pt_cmp (pc_din hu pa pb) hm, b_core (din_core (neg := false) qa qb)⟩
theorem ct_dnotin (hu : X.A.units + 1 < cLine) (ha : CEx X W a f) (hb : CEx X W b g) (hm : behindInMarks .NotIn b = false := by rfl) : CT X W (.Compare a [.NotIn] [b] pos) (fB (fDin true f g)) := by
  obtain ⟨ta, pa, qa⟩ := ha
  obtain ⟨tb, pb, qb⟩ := hb
  exact ⟨_, pt_cmp (pc_dnotin hu pa pb) hm, b_core (din_core (neg := true) qa qb)⟩
/-- d[k] = v -/
def sDput (f g h : FE) : FS := fun env μ => (f env μ).bind fun z μ1 => (g env μ1).bind fun x μ2 => (h env μ2).bind fun y μ3 => match dPut μ3 x y z with
  | some ν => .ok (.nx env) ν
  | none => .no
theorem cs_dput {o i e : Expr} {f g h : FE} {p pos : Pos} (hu : X.A.units + 1 < cLine) (he : CEx X W e f) (ho : CEx X W o g) (hi : CEx X W i h) (hs : swapsWith e (some (.Subscript o i p)) pos.line X.env = pure false := by rfl) : CS X W (.Assign [.Subscript o i p] e pos) (sDput f g h) := by
  obtain ⟨te, pe, qe⟩ := he
  obtain ⟨to, po, qo⟩ := ho
  obtain ⟨ti, pi, qi⟩ := hi
  refine ⟨_, ps_dput hu po pi pe hs, fun env σ S μ hE hS D hp => ?_⟩
  unfold sDput at hp
  rw [Rs.post_bind] at hp
  refine qe env σ S μ hE hS _ (hp.mono (fun z μ1 h1 t S1 e1 hS1 r1 => ?_) fun _ _ z => z.at hE.lenS)
  rw [Rs.post_bind] at h1
  refine qo env σ S1 μ1 (hE.mono e1) hS1 _ (h1.mono (fun x μ2 h2 v S2 e2 hS2 r2 => ?_) fun _ _ z => (z.mono e1).at hE.lenS)
  rw [Rs.post_bind] at h2
  refine qi env σ S2 μ2 (hE.mono (e1.trans e2)) hS2 _ (h2.mono (fun y μ3 h3 u S3 e3 hS3 r3 => ?_) fun _ _ z => (z.mono (e1.trans e2)).at hE.lenS)
  split at h3
  · rename_i ν hν
    obtain ⟨a, H', S', rfl, hD, rfl, ex, hS'⟩ := dPut_ok hS3 hν (r2.mono e3) r3 (r1.mono (e2.trans e3))
    exact ⟨a, S'.H, rfl, hD, h3 σ S' (e1.trans (e2.trans (e3.trans ex))) hS' (hE.mono (e1.trans (e2.trans (e3.trans ex))))⟩
  · exact h3.elim
/-- d.get(k, x) -/
def fDget2 (f g h : FE) : FE := fun env μ => (f env μ).bind fun x μ1 => match x with
  | .l n => (match μ1[n]? with
    | some (.dk kv0) => (g env μ1).bind fun y μ2 => (h env μ2).bind fun z μ3 => (match dGet μ3 (.l n) y with
      | some o => .ok (o.getD z) μ3
      | none => .no)
    | _ => .no)
  | _ => .no
theorem c_dget2 {o e c : Expr} {f g h : FE} {apos cpos : Pos} (hu : X.A.units + 1 < cLine) (ho : CEx X W o f) (he : CEx X W e g) (hc : CEx X W c h) (m : M2 X o "get" apos e c cpos) : CEx X W (.Call (.Attribute o "get" apos) [e, c] [] cpos) (fDget2 f g h) := by
  obtain ⟨to, po, qo⟩ := ho
  obtain ⟨te, pe, qe⟩ := he
  obtain ⟨tc, pc, qc⟩ := hc
  refine ⟨_, pe_dget2 hu po pe pc m, fun env σ S μ hE hS Q hp => ?_⟩
  unfold fDget2 at hp
  rw [Rs.post_bind] at hp
  refine qo env σ S μ hE hS _ (hp.mono (fun x μ1 h1 v S1 e1 hS1 r1 => ?_) fun _ _ z => z)
  cases x with
  | d x => exact h1.elim
  | s x => exact h1.elim
  | e _ _ => exact h1.elim
  | l n =>
    obtain ⟨a, hL, rfl⟩ := r1
    simp only at h1
    split at h1
    · rename_i kv0 hm
      obtain ⟨vs0, q1, _⟩ := hS1.ob n a _ hL hm
      refine ⟨a, rfl, .inl ⟨_, .inl q1⟩, ?_⟩
      rw [Rs.post_bind] at h1
      refine qe env σ S1 μ1 (hE.mono e1) hS1 _ (h1.mono (fun y μ2 h2 u S2 e2 hS2 r2 => ?_) fun _ _ z => z.mono e1)
      rw [Rs.post_bind] at h2
      refine qc env σ S2 μ2 (hE.mono (e1.trans e2)) hS2 _ (h2.mono (fun z μ3 h3 t S3 e3 hS3 r3 => ?_) fun _ _ z => z.mono (e1.trans e2))
      split at h3
      · rename_i r hg
        obtain ⟨a', o, e', hD, i1, i2⟩ := dGet_ok hS3 hg (v := .ref a) ⟨a, e3.pf n a (e2.pf n a hL), rfl⟩ (r2.mono e3)
        cases e'
        refine ⟨o, hD, ?_⟩
        cases r with
        | none =>
          rw [i2 rfl]
          exact h3 t S3 (e1.trans (e2.trans e3)) hS3 r3
        | some w =>
          obtain ⟨q, rfl, rq⟩ := i1 w rfl
          exact h3 q S3 (e1.trans (e2.trans e3)) hS3 rq
      · exact h3.elim
    · exact h1.elim
end
end
end Ped

/-! Ped7: the written part: tuples and dicts that stand at the top; a law's end -/
namespace Ped
open PySem L2 PyProof.Rows PySem.Spec

/-- at a stands a tuple of the top, of these data -/
structure KTup (K : PySem.W.Frag) (a : Addr) (ds : List PyData) : Prop where
  ex : ∃ vs, (∀ H, SqT K H a vs) ∧ ∀ F, RpA K F vs ds
theorem ktup_mk {K : PySem.W.Frag} {a : Addr} {vs : List V} {ds : List PyData} {c : Value} {dd : Option Addr} {its : Array Value} {n : Nat} {sl : Array (Option Value)} (h : K.lookup a = some ⟨c, dd, .seq its n, sl⟩) (hc : c = .type "tuple") (hz : its.size ≤ sizeLine) (hv : Vals vs its.toList) (hr : ∀ F, RpA K F vs ds) : KTup K a ds :=
  ⟨vs, fun H => .inr ⟨_, its, n, h, hc, rfl, hz, hv⟩, hr⟩
section
variable {X : Cx} {W : WX}
/-- x in T, T a tuple of the top -/
def inKW (neg : Bool) (ds : List PyData) (x : Wv) (μ : Sto) : Rs Wv := match x with
  | .d d => if flatD d = true ∧ ds.all flatD = true then .ok (.d (.bool (if neg then !(ds.any fun z => PyData.eqv z d) else ds.any fun z => PyData.eqv z d))) μ else .no
  | _ => .no
def f1 (h : Wv → Sto → Rs Wv) (f : FE) : FE := fun env μ => (f env μ).bind h
section
variable {e : Expr} {f : FE} {x : Str} {p pos : Pos} {a : Addr} {ds : List PyData}
theorem inK_core {neg : Bool} {te : TE} (kt : KTup X.K a ds)
    (q : ∀ env σ S μ, EnvR X.K X.N.length S env σ → HS X.K S μ → ∀ Q : VK, (f env μ).Post (POk X.K S Q) (PEx X.K W σ S) → te σ S.H Q) :
    ∀ env σ S μ, EnvR X.K X.N.length S env σ → HS X.K S μ → ∀ Q : VK, (f1 (inKW neg ds) f env μ).Post (POk X.K S Q) (PEx X.K W σ S) → tOp (rIn X.K neg) te (tC (.ref a)) σ S.H Q := fun env σ S μ he hS Q hp => by
  unfold f1 at hp
  rw [Rs.post_bind] at hp
  refine q env σ S μ he hS _ (hp.mono (fun w μ1 h1 v S1 e1 hS1 r1 => ?_) fun _ _ z => z)
  obtain ⟨vs, k1, k2⟩ := kt.ex
  unfold inKW at h1
  split at h1
  · split at h1
    · rename_i hf
      refine ⟨a, vs, rfl, .inr (k1 _), by rw [flat_of r1]; exact hf.1, by rw [flats_of (k2 S1.F)]; exact hf.2, h1 _ S1 e1 hS1 ?_⟩
      rw [inV_of hf.1 r1 (k2 S1.F) hf.2]
      exact .bl _
    · exact h1.elim
  · exact h1.elim
theorem c_inK (kt : KTup X.K a ds) (hg : Gl X x) (hm : X.mg x = some (.ref a)) (he : CEx X W e f) (hd : (x == ("__debug__" : Str)) = false := by decide) (hb : behindInMarks .In (.Name x p) = false := by rfl) : CEx X W (.Compare e [.In] [.Name x p] pos) (f1 (inKW false ds) f) := by
  obtain ⟨t, pe, q⟩ := he
  exact ⟨_, pe_cmpR op_in_seq pe (pe_glob (v := .ref a) hg hm rfl hd) hb, inK_core kt q⟩
theorem ct_inK (kt : KTup X.K a ds) (hg : Gl X x) (hm : X.mg x = some (.ref a)) (he : CEx X W e f) (hd : (x == ("__debug__" : Str)) = false := by decide) (hb : behindInMarks .In (.Name x p) = false := by rfl) : CT X W (.Compare e [.In] [.Name x p] pos) (fB (f1 (inKW false ds) f)) := by
  obtain ⟨t, pe, q⟩ := he
  exact ⟨_, pt_cmpR op_in_seq pe (pe_glob (v := .ref a) hg hm rfl hd) hb, b_core (inK_core kt q)⟩
/-- T + e -/
def addKW (ds : List PyData) (y : Wv) (μ : Sto) : Rs Wv := match y with
  | .d (.tuple es) => if ds ≠ [] ∧ es ≠ [] ∧ ds.length + es.length ≤ LIM then .ok (.d (.tuple (ds ++ es))) μ else .no
  | _ => .no
theorem c_addK (kt : KTup X.K a ds) (hg : Gl X x) (hm : X.mg x = some (.ref a)) (he : CEx X W e f) (hd : (x == ("__debug__" : Str)) = false := by decide) : CEx X W (.BinOp (.Name x p) .Add e pos) (f1 (addKW ds) f) := by
  obtain ⟨t, pe, q⟩ := he
  refine ⟨_, pe_op op_cat2 (pe_glob (v := .ref a) hg hm rfl hd) pe, fun env σ S μ hE hS Q hp => ?_⟩
  unfold f1 at hp
  rw [Rs.post_bind] at hp
  refine q env σ S μ hE hS _ (hp.mono (fun w μ1 h1 v S1 e1 hS1 r1 => ?_) fun _ _ z => z)
  obtain ⟨vs, k1, k2⟩ := kt.ex
  unfold addKW at h1
  split at h1
  · rename_i es
    split at h1
    · rename_i hc
      obtain ⟨b, ys, rfl, hb, rb⟩ := rp_tup_inv r1
      have ra := k2 S1.F
      have n1 : vs ≠ [] := fun z => hc.1 (ra.nil_iff.mpr z)
      have n2 : ys ≠ [] := fun z => hc.2.1 (rb.nil_iff.mpr z)
      exact ⟨a, b, vs, ys, rfl, rfl, ⟨k1 _, .inl (sb_rd hS1.sub hb)⟩, by rw [ra.len, rb.len]; exact lim_line hc.2.2, fun z => absurd z n1, fun _ z => absurd z n2, fun _ _ => new_tup hS1 (ra.append rb) (POk.mono e1 h1)⟩
    · exact h1.elim
  · exact h1.elim
end

/-! ### a dict of the top, of texts to pairs of ints -/
structure KTab (K : PySem.W.Frag) (w : World) (d : Addr) (tab : List (Str × Int × Int)) : Prop where
  kd : ∃ es n, KDict K w d es n
  no : ∀ z, tab.lookup z = none → PySem.W.nsIn K d z = some none
  yes : ∀ z lo hi, tab.lookup z = some (lo, hi) → ∃ u, PySem.W.nsIn K d z = some (some (.ref u)) ∧ ∀ H, SqT K H u [V.int lo, V.int hi]
section
variable {e : Expr} {f : FE} {x : Str} {p pos : Pos} {d : Addr} {tab : List (Str × Int × Int)}
def inTabW (neg : Bool) (tab : List (Str × Int × Int)) (x : Wv) (μ : Sto) : Rs Wv := match x with
  | .d (.str z) => .ok (.d (.bool (if neg then !(tab.lookup z).isSome else (tab.lookup z).isSome))) μ
  | _ => .no
theorem KTab.get {K : PySem.W.Frag} {w : World} {d : Addr} {tab : List (Str × Int × Int)} (k : KTab K w d tab) (z : Str) : ∃ r, PySem.W.nsIn K d z = some r ∧ r.isSome = (tab.lookup z).isSome := by
  cases h : tab.lookup z with
  | none => exact ⟨none, k.no z h, rfl⟩
  | some q =>
    obtain ⟨u, h1, _⟩ := k.yes z q.1 q.2 h
    exact ⟨_, h1, rfl⟩
theorem ct_notinTab (kt : KTab X.K X.w d tab) (hg : Gl X x) (hm : X.mg x = some (.ref d)) (he : CEx X W e f) (hd : (x == ("__debug__" : Str)) = false := by decide) (hb : behindInMarks .NotIn (.Name x p) = false := by rfl) : CT X W (.Compare e [.NotIn] [.Name x p] pos) (fB (f1 (inTabW true tab) f)) := by
  obtain ⟨t, pe, q⟩ := he
  obtain ⟨es, n, D⟩ := kt.kd
  refine ⟨_, pt_cmpR (op_notIn_kd D) pe (pe_glob (v := .ref d) hg hm rfl hd) hb, b_core fun env σ S μ hE hS Q hp => ?_⟩
  unfold f1 at hp
  rw [Rs.post_bind] at hp
  refine q env σ S μ hE hS _ (hp.mono (fun w μ1 h1 v S1 e1 hS1 r1 => ?_) fun _ _ z => z)
  unfold inTabW at h1
  split at h1
  · rename_i z
    cases r1
    obtain ⟨r, h2, h3⟩ := kt.get z
    exact ⟨z, r, rfl, rfl, h2, by rw [h3]; exact h1 _ S1 e1 hS1 (.bl _)⟩
  · exact h1.elim
/-- low, high = T[e] -/
def sTab (tab : List (Str × Int × Int)) (i j : Nat) (f : FE) : FS := fun env μ => (f env μ).bind fun x μ1 => match x with
  | .d (.str z) => (match tab.lookup z with
    | some (lo, hi) => .ok (.nx ((env.set i (some (.d (.int lo)))).set j (some (.d (.int hi))))) μ1
    | none => .no)
  | _ => .no
theorem cs_tab (i j : Nat) {xl xh : Str} {kk : Nat} {pl ph pt psub : Pos} (kt : KTab X.K X.w d tab) (hc : X.calm = true) (hN : X.N.Nodup) (hi : X.N[i]? = some xl) (hj : X.N[j]? = some xh) (hl : Loc X.env.scope xl) (hh : Loc X.env.scope xh) (hg : Gl X x) (hm : X.mg x = some (.ref d)) (he : CEx X W e f)
    (hf1 : X.fn xl = true ∨ X.env.scope.names.lookup xl = some .local := by first | exact .inl rfl | exact .inr rfl | assumption) (hf2 : X.fn xh = true ∨ X.env.scope.names.lookup xh = some .local := by first | exact .inl rfl | exact .inr rfl | assumption)
    (hd : (x == ("__debug__" : Str)) = false := by decide) (hs : PlainIx e := by intro _ _; rfl)
    (hs1 : swapsWithSole [.Tuple [.Name xl pl, .Name xh ph] kk pt] (.Subscript (.Name x p) e psub) pos.line X.env = pure false := by rfl) (hw : swappedStores [.Tuple [.Name xl pl, .Name xh ph] kk pt] (.Subscript (.Name x p) e psub) X.env = pure none := by rfl)
    (ha : (assignEach [.Tuple [.Name xl pl, .Name xh ph] kk pt] X.env).map (·.2) = [assign (.Tuple [.Name xl pl, .Name xh ph] kk pt) X.env] := by rfl)
    (hc1 : (assignEach [.Name xl pl, .Name xh ph] X.env).map (·.2) = assign (.Name xl pl) X.env :: (assignEach [.Name xh ph] X.env).map (·.2) := by rfl) (hc2 : (assignEach [.Name xh ph] X.env).map (·.2) = assign (.Name xh ph) X.env :: (assignEach [] X.env).map (·.2) := by rfl)
    (hn : (assignEach [.Name xl pl, .Name xh ph] X.env).length = 2 := by rfl) (hst : (assignEach [.Name xl pl, .Name xh ph] X.env).findIdx? (·.1) = none := by rfl) :
    CS X W (.Assign [.Tuple [.Name xl pl, .Name xh ph] kk pt] (.Subscript (.Name x p) e psub) pos) (sTab tab i j f) := by
  obtain ⟨t, pe, q⟩ := he
  refine ⟨_, ps_asg (pe_ix (ix_kdict (X := X)) (pe_glob (v := .ref d) hg hm rfl hd) pe hs) (pg_tup hc (pgs_cons (pg_name hN hi hl hf1) (pgs_cons (pg_name hN hj hh hf2) pgs_nil hc2) hc1) hn hst) hs1 hw ha, fun env σ S μ hE hS D hp => ?_⟩
  unfold sTab at hp
  rw [Rs.post_bind] at hp
  refine q env σ S μ hE hS _ (hp.mono (fun w μ1 h1 v S1 e1 hS1 r1 => ?_) fun _ _ z => z.at hE.lenS)
  split at h1
  · rename_i z
    split at h1
    · rename_i lo hi' hl'
      cases r1
      obtain ⟨u, h2, h3⟩ := kt.yes z lo hi' hl'
      refine ⟨d, z, .ref u, rfl, rfl, ?_, u, [.int lo, .int hi'], rfl, h3 _, rfl, .int lo, [.int hi'], rfl, .int hi', [], rfl, rfl, ?_⟩
      · obtain ⟨es, n, D⟩ := kt.kd
        exact ⟨es, n, _, D.at_, D.lit, h2, rfl⟩
      · exact h1 _ S1 e1 hS1 (((hE.mono e1).set (w := .d (.int lo)) (.int lo)).set (w := .d (.int hi')) (.int hi'))
    · exact h1.elim
  · exact h1.elim
end
end

/-! ### the end -/
theorem law_end {K : PySem.W.Frag} {g : List Wv → Sto → Rs Wv} {H : Hp} {a : Addr} {ns : List Int} {E : XK} (hO : Only H) (hS : SqL K H a (ns.map V.int)) {μ : Sto} (hg : g [.s ns] [] = .ok (.d (.bool true)) μ) : spD K 1 (fun ws μ => noex (g ws μ)) [.ref a] H (fun v _ => v = .bl true) E := by
  refine ⟨rfl, [.s ns], ⟨H, H, []⟩, [], rfl, ⟨Sb.refl H, rfl, List.nodup_nil, fun n a z => ?_, fun n a ob z => ?_, fun n a ob z => ?_⟩, .cons ⟨a, hS, rfl⟩ .nil, ?_⟩
  · simp at z
  · simp at z
  · simp at z
  · show (noex (g [.s ns] [])).Post _ _
    rw [hg]
    intro v S' _ _ r
    cases r
    rfl
end Ped

namespace Ped
open PySem L2 PyProof.Rows PySem.Spec
/-! ### the defs of the text by their names -/
/-- the def x stands as the top has made it -/
def DefAt (K : PySem.W.Frag) (mg : Str → Option Value) (x : Str) (st : Stmt) (ps : List Str) : Prop := ∃ f fd, mg x = some (.ref f) ∧ Fun K x x st f fd ∧ Binds K fd ps []
/-- .. and promises sp, at level k -/
def OkAt (P : Program) (w : World) (K : PySem.W.Frag) (mg : Str → Option Value) (base : Heap) (k : Nat) (x : Str) (ps : List Str) (n : Nat) (g : List Wv → Sto → Rs Wv) : Prop :=
  ∃ f fd, mg x = some (.ref f) ∧ PySem.W.keepIn K (.ref f) = true ∧ Binds K fd ps [] ∧ FnOk P w K mg base CX0 k f fd ps (spD K n fun ws μ => noex (g ws μ))
theorem defAt_mk {K : PySem.W.Frag} {h : Heap} {mg : Str → Option Value} {x : Str} {st : Stmt} {ps : List Str} {f : Addr} {od an : Option Addr} {sl : Array (Option Value)} {oc kV dc pm cd ct : Value} (X : K.In h) (G : h.Ns mainGlobals mg)
    (a : PySem.W.nsIn K mainGlobals x = some (some (.ref f))) (l : K.lookup f = some ⟨oc, od, .func (PySem.W.fnOf x x (defArgs st) (defBody st) (defScope st) .none kV dc pm an cd ct), sl⟩) (c : PySem.W.codeIn K cd x = true) (k : PySem.W.keepIn K (.ref f) = true)
    (hb : ∀ (kV doc pm : Value) (an : Option Addr) (cdv ct : Value) (us : List Value), us.length = ps.length → bindArgs (PySem.W.fnOf x x (defArgs st) (defBody st) (defScope st) .none kV doc pm an cdv ct) ⟨us, []⟩ = pure (ps.zip us)) : DefAt K mg x st ps := by
  have F := fun_mk (st := st) l c k
  exact ⟨f, _, PySem.W.mg_of X G a, F, F.binds (ps := ps) hb⟩
section
variable {P : Program} {w : World} {K : PySem.W.Frag} {mg : Str → Option Value} {base : Heap}
theorem okAt_mk {x : Str} {st : Stmt} {N ps : List Str} {k : Nat} {g : List Wv → Sto → Rs Wv} {B : FS} (F : DefAt K mg x st ps) (S : FnScope N ps (defScope st))
    (hb : ∀ (f : Addr) (cdv : Value) (A : Around) (outer : List PySem.Env) (s : Shared) (H : Hp) (E : XK), Room k (A.deeper (envOfC x (defScope st) s.heap.objs.size f cdv)) → CB (cxOf CX0 P w K mg base N x (defScope st) f cdv A outer s H E).nox W0 (defBody st) B)
    (hg : ∀ ws μ, ws.length = ps.length → g ws μ = .no ∨ g ws μ = runF N.length B ws μ) : OkAt P w K mg base (k + 1) x ps ps.length g := by
  obtain ⟨f, fd, h1, h2, h3⟩ := F
  exact ⟨f, fd, h1, h2.kp, h3, ok_def h2 S (fun cdv A outer s H E => hb f cdv A outer s H E) hg⟩
end
/-- what a call does -/
def callD (n : Nat) (g : List Wv → Sto → Rs Wv) (ws : List Wv) (μ : Sto) : Rs Wv := if ws.length = n then noex (g ws μ) else .no
section
variable {X : Cx} {W : WX}
theorem c_fn {k n : Nat} {ps : List Str} {g : List Wv → Sto → Rs Wv} {x : Str} {p pos : Pos} {e : Expr} {es : List Expr} {a : FA} (G : OkAt X.prog X.w X.K X.mg X.base k x ps n g) (hr : Room k X.A) (hg : Gl X x)
    (ha : CA X W (e :: es) a) (hdb : (x == ("__debug__" : Str)) = false := by decide) (he : starEach (e :: es) X.env = (false, eval e X.env) :: starEach es X.env := by rfl) (hpl : (backTo pos (starEach es X.env)).any (·.1) = false := by rfl) :
    CEx X W (.Call (.Name x p) (e :: es) [] pos) (fCall (callD n g) a) := by
  obtain ⟨f, fd, h1, h2, h3, h4⟩ := G
  exact c_call h4 hr hg h1 h2 h3 ha hdb he hpl
theorem c_fn0 {k n : Nat} {ps : List Str} {g : List Wv → Sto → Rs Wv} {x : Str} {p pos : Pos} (G : OkAt X.prog X.w X.K X.mg X.base k x ps n g) (hr : Room k X.A) (hg : Gl X x) (hdb : (x == ("__debug__" : Str)) = false := by decide) :
    CEx X W (.Call (.Name x p) [] [] pos) (fCall (callD n g) fNil) := by
  obtain ⟨f, fd, h1, h2, h3, h4⟩ := G
  refine ⟨_, pe_call0 h4 hr hg h1 h2 h3 .nil pass0 hdb, fun env σ S μ hE hS Q h => ?_⟩
  show spD X.K n (fun ws μ => noex (g ws μ)) ([] ++ []) S.H Q E0
  have h : (callD n g [] μ).Post (POk X.K S Q) (PEx X.K W σ S) := h
  unfold callD at h
  by_cases hl : ([] : List Wv).length = n
  · rw [if_pos hl] at h
    refine ⟨hl, [], S, μ, rfl, hS, .nil, ?_⟩
    have q := noex_post (E' := fun _ _ => False) (show (noex (g [] μ)).Post _ _ from h)
    show (noex (g [] μ)).Post _ _
    cases eg : g [] μ with
    | ok a ν => rw [eg] at q; exact q
    | ex x ν => rw [eg] at q; exact q
    | no => rw [eg] at q; exact q
  · rw [if_neg hl] at h
    exact h.elim
/-- the items of a list or a tuple -/
def itS (f : FE) : FIt := fun env μ => (f env μ).bind fun w μ1 => match w with
  | .d (.list xs) => .ok xs μ1
  | .d (.tuple xs) => .ok xs μ1
  | _ => .no
theorem pi_or {tg e : Expr} {w1 w2 : TI} (h1 : PI X tg e w1) (h2 : PI X tg e w2) : PI X tg e (fun σ H R => w1 σ H R ∨ w2 σ H R) := ⟨fun pins s σ H R I h => by
  rcases h with h | h
  · exact h1.run pins s σ H R I h
  · exact h2.run pins s σ H R I h⟩
theorem ci_seq {tg l : Expr} {f : FE} (h : CEx X W l f) : CI X W tg l (itS f) := by
  obtain ⟨w1, p1, q1⟩ := ci_list (tg := tg) h
  obtain ⟨w2, p2, q2⟩ := ci_tup (tg := tg) h
  refine ⟨_, pi_or p1 p2, fun env σ S μ he hS R hp => ?_⟩
  unfold itS at hp
  cases hf : f env μ with
  | no => rw [hf] at hp; exact hp.elim
  | ex x ν => 
    refine .inl (q1 env σ S μ he hS R ?_)
    unfold itV
    rw [hf] at hp ⊢
    exact hp
  | ok w ν =>
    rw [hf] at hp
    have hp : Rs.Post (match w with | .d (.list xs) => .ok xs ν | .d (.tuple xs) => .ok xs ν | _ => .no) _ _ := hp
    split at hp
    · refine .inl (q1 env σ S μ he hS R ?_)
      unfold itV
      rw [hf]
      exact hp
    · refine .inr (q2 env σ S μ he hS R ?_)
      unfold itT
      rw [hf]
      exact hp
    · exact hp.elim
theorem ok_mulL : OkR X rRep mulL := fun x y v u S μ hS hx hy Q hp => by
  unfold mulL at hp
  split at hp
  · split at hp
    · rename_i hk
      obtain ⟨p, xs, rfl, ha, ra⟩ := rp_lst_inv hx
      cases hy
      exact ⟨p, _, xs, rfl, rfl, hS.sub _ _ ha, by omega, by omega, by rw [ra.len]; exact lim_line hk.2.2, new_lst hS (ra.rep _) hp⟩
    · exact hp.elim
  · exact hp.elim
/-- e * e, ints, a list and an int -/
def mulW (x y : Wv) (μ : Sto) : Rs Wv := match x, y with
  | .d (.int i), .d (.int j) => if CMul i j then .ok (.d (.int (i * j))) μ else .no
  | .d (.list _), _ => mulL x y μ
  | _, _ => .no
theorem mulW_nx : NoEx mulW := fun x y μ e ν q => by
  unfold mulW at q
  split at q
  · split at q <;> cases q
  · exact mulL_nx _ _ _ _ _ q
  · cases q
theorem c_mul {a b : Expr} {f g : FE} {pos : Pos} (ha : CEx X W a f) (hb : CEx X W b g) : CEx X W (.BinOp a .Mult b pos) (fOp mulW f g) := by
  refine c_op (OpR.or op_mul op_rep) (fun x y v u S μ hS hx hy Q hp => ?_) mulW_nx ha hb
  unfold mulW at hp
  split at hp
  · split at hp
    · cases hx; cases hy
      exact .inl ⟨_, _, rfl, rfl, by assumption, hp _ S (Ext.refl S) hS (.int _)⟩
    · exact hp.elim
  · exact .inr (ok_mulL _ _ v u S μ hS hx hy Q hp)
  · exact hp.elim
/-- list(range(..)) -/
def fRg1 (f : FE) : FE := fun env μ => (f env μ).bind fun w μ1 => match w with
  | .d (.int j) => if -1000000 ≤ j ∧ j ≤ 1000000 then .ok (.d (.list (rangeD 0 j.toNat))) μ1 else .no
  | _ => .no
def fRg2 (f g : FE) : FE := fun env μ => (f env μ).bind fun w μ1 => (g env μ1).bind fun z μ2 => match w, z with
  | .d (.int i), .d (.int j) => if (-1000000 ≤ i ∧ i ≤ 1000000) ∧ -1000000 ≤ j ∧ j ≤ 1000000 then .ok (.d (.list (rangeD i (j - i).toNat))) μ2 else .no
  | _, _ => .no
theorem rg_rp {K : PySem.W.Frag} {F : Hp} (i : Int) (n : Nat) : RpA K F ((List.range n).map fun k => V.int (i + (k : Nat))) (rangeD i n) := by
  unfold rangeD
  induction List.range n with
  | nil => exact .nil
  | cons a r ih => exact .cons (.int _) ih
theorem c_listRg1 {a : Expr} {f : FE} {p q qos pos : Pos} (hc : X.calm = true) (hgl : Gl X "list") (hml : X.mg "list" = none) (hg : Gl X "range") (hm : X.mg "range" = none) (h : CEx X W a f) (na : starEach [a] X.env = (false, eval a X.env) :: starEach [] X.env := by rfl)
    (na2 : starEach [.Call (.Name "range" q) [a] [] qos] X.env = (false, eval (.Call (.Name "range" q) [a] [] qos) X.env) :: starEach [] X.env := by rfl) : CEx X W (.Call (.Name "list" p) [.Call (.Name "range" q) [a] [] qos] [] pos) (fRg1 f) := by
  obtain ⟨t, pa, qa⟩ := h
  refine ⟨_, pe_listRg hc hgl hml (prg_1 hg hm pa na) na2, fun env σ S μ he hS Q hp => ?_⟩
  unfold fRg1 at hp
  rw [Rs.post_bind] at hp
  refine qa env σ S μ he hS _ (hp.mono (fun w μ1 h1 v S1 e1 hS1 r1 => ?_) fun _ _ z => z)
  split at h1
  · split at h1
    · rename_i j hj
      cases r1
      refine ⟨j, rfl, ⟨by omega, by omega, by omega, by omega, by omega⟩, new_lst hS1 ?_ (POk.mono e1 h1)⟩
      have := rg_rp (K := X.K) (F := S1.F) 0 j.toNat
      unfold rgV
      rw [Int.sub_zero]
      exact this
    · exact h1.elim
  · exact h1.elim
theorem c_listRg2 {a b : Expr} {f g : FE} {p q qos pos : Pos} (hc : X.calm = true) (hgl : Gl X "list") (hml : X.mg "list" = none) (hg : Gl X "range") (hm : X.mg "range" = none) (h : CEx X W a f) (h' : CEx X W b g) (na : starEach [a, b] X.env = (false, eval a X.env) :: starEach [b] X.env := by rfl) (nb : starEach [b] X.env = (false, eval b X.env) :: starEach [] X.env := by rfl) (hpb : (backTo qos (starEach [b] X.env)).any (·.1) = false := by rfl)
    (na2 : starEach [.Call (.Name "range" q) [a, b] [] qos] X.env = (false, eval (.Call (.Name "range" q) [a, b] [] qos) X.env) :: starEach [] X.env := by rfl) : CEx X W (.Call (.Name "list" p) [.Call (.Name "range" q) [a, b] [] qos] [] pos) (fRg2 f g) := by
  obtain ⟨t, pa, qa⟩ := h
  obtain ⟨t', pb, qb⟩ := h'
  refine ⟨_, pe_listRg hc hgl hml (prg_2 hg hm pa pb na nb hpb) na2, fun env σ S μ he hS Q hp => ?_⟩
  unfold fRg2 at hp
  rw [Rs.post_bind] at hp
  refine qa env σ S μ he hS _ (hp.mono (fun w μ1 h1 v S1 e1 hS1 r1 => ?_) fun _ _ z => z)
  rw [Rs.post_bind] at h1
  refine qb env σ S1 μ1 (he.mono e1) hS1 _ (h1.mono (fun w' μ2 h2 u S2 e2 hS2 r2 => ?_) fun _ _ z => z.mono e1)
  have r1' := r1.mono e2
  split at h2
  · split at h2
    · rename_i i j hj
      cases r1'
      cases r2
      exact ⟨i, j, rfl, rfl, ⟨by omega, by omega, by omega, by omega, by omega⟩, new_lst hS2 (rg_rp i (j - i).toNat) (POk.mono (e1.trans e2) h2)⟩
    · exact h2.elim
  · exact h2.elim
end
end Ped

/-! Ped8: the text's facts: rooms, constants, tables, kinds; the end of a law's walk -/
namespace Ped
open PySem L2 PyProof.Rows PySem.Spec
theorem ru1 {k : Nat} {A : Around} (r : Room k A) : A.units + 1 < cLine := by have := r.un; omega
theorem ru64 {k : Nat} {A : Around} (r : Room k A) : A.units + 64 < cLine := by have := r.un; omega
theorem ru65 {k : Nat} {A : Around} (r : Room k A) : A.units + 65 < cLine := by have := r.un; omega
def tyS (T a : String) : Bool := a == T || (T == "int" && a == "bool")
theorem k_int (d : D) : kitB (tyD d) "int" = some (isTy "int" d) := by
  cases d
  · exact (show kitB "NoneType" "int" = some (tyS "int" "NoneType") by decide +kernel)
  · exact (show kitB "bool" "int" = some (tyS "int" "bool") by decide +kernel)
  · exact (show kitB "int" "int" = some (tyS "int" "int") by decide +kernel)
  · exact (show kitB "str" "int" = some (tyS "int" "str") by decide +kernel)
  · exact (show kitB "list" "int" = some (tyS "int" "list") by decide +kernel)
  · exact (show kitB "tuple" "int" = some (tyS "int" "tuple") by decide +kernel)
  · exact (show kitB "dict" "int" = some (tyS "int" "dict") by decide +kernel)
theorem k_str (d : D) : kitB (tyD d) "str" = some (isTy "str" d) := by
  cases d
  · exact (show kitB "NoneType" "str" = some (tyS "str" "NoneType") by decide +kernel)
  · exact (show kitB "bool" "str" = some (tyS "str" "bool") by decide +kernel)
  · exact (show kitB "int" "str" = some (tyS "str" "int") by decide +kernel)
  · exact (show kitB "str" "str" = some (tyS "str" "str") by decide +kernel)
  · exact (show kitB "list" "str" = some (tyS "str" "list") by decide +kernel)
  · exact (show kitB "tuple" "str" = some (tyS "str" "tuple") by decide +kernel)
  · exact (show kitB "dict" "str" = some (tyS "str" "dict") by decide +kernel)
theorem k_bool (d : D) : kitB (tyD d) "bool" = some (isTy "bool" d) := by
  cases d
  · exact (show kitB "NoneType" "bool" = some (tyS "bool" "NoneType") by decide +kernel)
  · exact (show kitB "bool" "bool" = some (tyS "bool" "bool") by decide +kernel)
  · exact (show kitB "int" "bool" = some (tyS "bool" "int") by decide +kernel)
  · exact (show kitB "str" "bool" = some (tyS "bool" "str") by decide +kernel)
  · exact (show kitB "list" "bool" = some (tyS "bool" "list") by decide +kernel)
  · exact (show kitB "tuple" "bool" = some (tyS "bool" "tuple") by decide +kernel)
  · exact (show kitB "dict" "bool" = some (tyS "bool" "dict") by decide +kernel)
theorem k_tuple (d : D) : kitB (tyD d) "tuple" = some (isTy "tuple" d) := by
  cases d
  · exact (show kitB "NoneType" "tuple" = some (tyS "tuple" "NoneType") by decide +kernel)
  · exact (show kitB "bool" "tuple" = some (tyS "tuple" "bool") by decide +kernel)
  · exact (show kitB "int" "tuple" = some (tyS "tuple" "int") by decide +kernel)
  · exact (show kitB "str" "tuple" = some (tyS "tuple" "str") by decide +kernel)
  · exact (show kitB "list" "tuple" = some (tyS "tuple" "list") by decide +kernel)
  · exact (show kitB "tuple" "tuple" = some (tyS "tuple" "tuple") by decide +kernel)
  · exact (show kitB "dict" "tuple" = some (tyS "tuple" "dict") by decide +kernel)
theorem k_list (d : D) : kitB (tyD d) "list" = some (isTy "list" d) := by
  cases d
  · exact (show kitB "NoneType" "list" = some (tyS "list" "NoneType") by decide +kernel)
  · exact (show kitB "bool" "list" = some (tyS "list" "bool") by decide +kernel)
  · exact (show kitB "int" "list" = some (tyS "list" "int") by decide +kernel)
  · exact (show kitB "str" "list" = some (tyS "list" "str") by decide +kernel)
  · exact (show kitB "list" "list" = some (tyS "list" "list") by decide +kernel)
  · exact (show kitB "tuple" "list" = some (tyS "list" "tuple") by decide +kernel)
  · exact (show kitB "dict" "list" = some (tyS "list" "dict") by decide +kernel)
theorem k_dict (d : D) : kitB (tyD d) "dict" = some (isTy "dict" d) := by
  cases d
  · exact (show kitB "NoneType" "dict" = some (tyS "dict" "NoneType") by decide +kernel)
  · exact (show kitB "bool" "dict" = some (tyS "dict" "bool") by decide +kernel)
  · exact (show kitB "int" "dict" = some (tyS "dict" "int") by decide +kernel)
  · exact (show kitB "str" "dict" = some (tyS "dict" "str") by decide +kernel)
  · exact (show kitB "list" "dict" = some (tyS "dict" "list") by decide +kernel)
  · exact (show kitB "tuple" "dict" = some (tyS "dict" "tuple") by decide +kernel)
  · exact (show kitB "dict" "dict" = some (tyS "dict" "dict") by decide +kernel)
section
variable {X : Cx} {W : WX}
/-- a text, an int that the top binds -/
theorem c_globS {x : Str} {z : Str} {pos : Pos} (hg : Gl X x) (hm : ∃ t, X.mg x = some (.str z t)) (hd : (x == ("__debug__" : Str)) = false := by decide) : CEx X W (.Name x pos) (fC (.str z)) := by
  obtain ⟨t, h⟩ := hm
  exact c_glob (v := .str z) hg h ⟨t, rfl⟩ (fun _ => .str z) hd
theorem c_globI {x : Str} {z : Int} {pos : Pos} (hg : Gl X x) (hm : ∃ t, X.mg x = some (.int z t)) (hd : (x == ("__debug__" : Str)) = false := by decide) : CEx X W (.Name x pos) (fC (.int z)) := by
  obtain ⟨t, h⟩ := hm
  exact c_glob (v := .int z) hg h ⟨t, rfl⟩ (fun _ => .int z) hd
end
/-- the entries of a dict of the top, of texts to pairs of ints -/
inductive TabE (K : PySem.W.Frag) (P : Params) : List DictEntry → List (Str × Int × Int) → Prop
  | nil : TabE K P [] []
  | cons {h : Int} {x : Str} {t : Tok} {u : Addr} {r : List DictEntry} {tab : List (Str × Int × Int)} {lo hi : Int} {c : Value} {dd : Option Addr} {its : Array Value} {n : Nat} {sl : Array (Option Value)}
      (hh : h = PyData.keyHash P x) (hl : K.lookup u = some ⟨c, dd, .seq its n, sl⟩) (hc : c = .type "tuple") (hz : its.size ≤ sizeLine) (hv : Vals [V.int lo, V.int hi] its.toList) (hr : TabE K P r tab) : TabE K P (⟨h, .str x t, .ref u⟩ :: r) ((x, lo, hi) :: tab)
theorem TabE.lit {K : PySem.W.Frag} {P : Params} {es : List DictEntry} {tab : List (Str × Int × Int)} (h : TabE K P es tab) : PySem.W.KeysLit P es := by
  induction h with
  | nil => trivial
  | cons hh _ _ _ _ _ ih => exact ⟨⟨_, _, rfl, hh⟩, ih⟩
theorem TabE.ref {K : PySem.W.Frag} {P : Params} {es : List DictEntry} {tab : List (Str × Int × Int)} (h : TabE K P es tab) : es.any (·.refKey) = false := by
  induction h with
  | nil => rfl
  | cons hh _ _ _ _ _ ih => rw [List.any_cons, ih]; rfl
theorem TabE.no {K : PySem.W.Frag} {P : Params} {es : List DictEntry} {tab : List (Str × Int × Int)} (h : TabE K P es tab) (z : Str) (hz : tab.lookup z = none) : es.find? (·.key.isStr z) = none := by
  induction h with
  | nil => rfl
  | @cons h x t u r tab lo hi c dd its n sl hh _ _ _ _ _ ih =>
    rw [List.lookup_cons] at hz
    by_cases e : z = x
    · subst e
      simp at hz
    · have e' : (z == x) = false := by simpa using e
      rw [e'] at hz
      rw [List.find?_cons]
      have q : (Value.str x t).isStr z = false := by
        show (x == z) = false
        have : ¬ x = z := fun w => e w.symm
        simpa using this
      simp only [q]
      exact ih hz
theorem TabE.yes {K : PySem.W.Frag} {P : Params} {es : List DictEntry} {tab : List (Str × Int × Int)} (h : TabE K P es tab) (z : Str) (lo hi : Int) (hz : tab.lookup z = some (lo, hi)) : ∃ e u, es.find? (·.key.isStr z) = some e ∧ e.val = .ref u ∧ ∀ H, SqT K H u [V.int lo, V.int hi] := by
  induction h with
  | nil => cases hz
  | @cons h x t u r tab lo' hi' c dd its n sl hh hl hc hs hv hr ih =>
    rw [List.lookup_cons] at hz
    rw [List.find?_cons]
    by_cases e : z = x
    · subst e
      simp at hz
      obtain ⟨rfl, rfl⟩ := hz
      have q : (Value.str z t).isStr z = true := by
        show (z == z) = true
        simp
      simp only [q]
      exact ⟨_, u, rfl, rfl, fun H => .inr ⟨_, its, n, hl, hc, rfl, hs, hv⟩⟩
    · have e' : (z == x) = false := by simpa using e
      rw [e'] at hz
      have q : (Value.str x t).isStr z = false := by
        show (x == z) = false
        have : ¬ x = z := fun w => e w.symm
        simpa using this
      simp only [q]
      exact ih hz
theorem ktab_mk {K : PySem.W.Frag} {w : World} {d : Addr} {c : Value} {dd : Option Addr} {es : Array DictEntry} {n : Nat} {sl : Array (Option Value)} {tab : List (Str × Int × Int)} (h : K.lookup d = some ⟨c, dd, .dict es n, sl⟩) (hc : c = .type "dict") (hdd : dd = none) (hsl : sl = #[]) (hlow : (d == sysModules) = false) (he : TabE K w.params es.toList tab) : KTab K w d tab := by
  subst hc hdd hsl
  refine ⟨⟨es, n, h, he.lit, hlow⟩, fun z hz => ?_, fun z lo hi hz => ?_⟩
  · unfold PySem.W.nsIn
    rw [h]
    simp only
    rw [he.no z hz, he.ref]
    rfl
  · obtain ⟨e, u, h1, h2, h3⟩ := he.yes z lo hi hz
    refine ⟨u, ?_, h3⟩
    unfold PySem.W.nsIn
    rw [h]
    simp only
    rw [h1]
    simp only
    rw [h2]
/-- a tuple of texts of the top -/
theorem rpA_strV {K : PySem.W.Frag} (ns : List Str) (F : Hp) : RpA K F (ns.map V.str) (ns.map PyData.str) := RpA.strs ns
inductive ValS : List Value → List Str → Prop
  | nil : ValS [] []
  | cons {z : Str} {t : Tok} {r : List Value} {ns : List Str} (h : ValS r ns) : ValS (.str z t :: r) (z :: ns)
theorem ValS.vals {vs : List Value} {ns : List Str} (h : ValS vs ns) : Vals (ns.map V.str) vs := by
  induction h with
  | nil => exact .nil
  | cons _ ih => exact .cons ⟨_, rfl⟩ ih
theorem ktupS_mk {K : PySem.W.Frag} {a : Addr} {ns : List Str} {c : Value} {dd : Option Addr} {its : Array Value} {n : Nat} {sl : Array (Option Value)} (h : K.lookup a = some ⟨c, dd, .seq its n, sl⟩) (hc : c = .type "tuple") (hz : its.size ≤ sizeLine) (hv : ValS its.toList ns) : KTup K a (ns.map PyData.str) :=
  ktup_mk h hc hz hv.vals (rpA_strV ns)
theorem glob_mk {K : PySem.W.Frag} {h : Heap} {mg : Str → Option Value} (X : K.In h) (G : h.Ns mainGlobals mg) {x : Str} {v : Value} (a : PySem.W.nsIn K mainGlobals x = some (some v)) : mg x = some v := PySem.W.mg_of X G a
theorem globS_mk {K : PySem.W.Frag} {h : Heap} {mg : Str → Option Value} (X : K.In h) (G : h.Ns mainGlobals mg) {x z : Str} {v : Value} (a : PySem.W.nsIn K mainGlobals x = some (some v)) (hv : ∃ t, v = .str z t) : ∃ t, mg x = some (.str z t) := by
  obtain ⟨t, rfl⟩ := hv
  exact ⟨t, PySem.W.mg_of X G a⟩
theorem globI_mk {K : PySem.W.Frag} {h : Heap} {mg : Str → Option Value} (X : K.In h) (G : h.Ns mainGlobals mg) {x : Str} {z : Int} {v : Value} (a : PySem.W.nsIn K mainGlobals x = some (some v)) (hv : ∃ t, v = .int z t) : ∃ t, mg x = some (.int z t) := by
  obtain ⟨t, rfl⟩ := hv
  exact ⟨t, PySem.W.mg_of X G a⟩
/-- the end: the law's def promises True -/
theorem walk {l : PySem.W.OpenLaw} {q : Program} {loose : List Str} {XP : (Str → Option Value) → Heap → Prop} {YP : World → Heap → Prop} {d : DefRec} {K : Params → PySem.W.Frag} {k : Nat} {g : List Wv → Sto → Rs Wv} (hn : l.most = some 63) (hdf : d.params.defaults = []) (hr : Room k callerA)
    (hY : ∀ (w : World) (h : Heap), YP w h → (K w.params).In h)
    (hg : ∀ ns : List Int, ns.length ≤ 63 → (∀ z ∈ ns, Builtin.Int.intBits z ≤ 1048576) → ∃ μ, g [.s ns] [] = .ok (.d (.bool true)) μ)
    (F : ∀ (w : World) (mg : Str → Option Value) (fa : Addr) (h : Heap), (K w.params).In h → h.Ns mainGlobals mg → mg d.name = some (.ref fa) →
      ∃ fd : FuncData, (∀ (s : Shared) (u : Value), BindsTo s fd ⟨[u], []⟩ [("script", u)]) ∧ ∀ base : Heap, (K w.params).In base → base.Ns mainGlobals mg → FnOk l.prog w (K w.params) mg base CX0 k fa fd ["script"] (spD (K w.params) 1 fun ws μ => noex (g ws μ))) :
    PySem.W.WalkO q loose XP YP l.row.toRowW d [] (fun f vs => PySem.call f vs) :=
  L2.walk_ofB (n := 63) (k := k) (x := "script") (CX := fun _ => CX0) (sp := fun w => spD (K w.params) 1 fun ws μ => noex (g ws μ)) hn (by decide) hdf hr hY F (fun _ _ a ns hl hb hO hS => by
    obtain ⟨μ, h⟩ := hg ns hl hb
    exact law_end hO hS h) fun _ _ _ _ _ z => z
/-- the law's own def -/
theorem law_fd {P : Program} {w : World} {K : PySem.W.Frag} {h : Heap} {mg : Str → Option Value} {k : Nat} {g : List Wv → Sto → Rs Wv} {fa f : Addr} {st : Stmt} {od an : Option Addr} {sl : Array (Option Value)} {oc kV dc pm cd ct : Value} (hfa : mg "law" = some (.ref fa)) (X : K.In h) (G : h.Ns mainGlobals mg)
    (a : PySem.W.nsIn K mainGlobals "law" = some (some (.ref f))) (l : K.lookup f = some ⟨oc, od, .func (PySem.W.fnOf "law" "law" (defArgs st) (defBody st) (defScope st) .none kV dc pm an cd ct), sl⟩) (c : PySem.W.codeIn K cd "law" = true) (kp : PySem.W.keepIn K (.ref f) = true)
    (hb : ∀ (kV doc pm : Value) (an : Option Addr) (cdv ct : Value) (u : Value), bindArgs (PySem.W.fnOf "law" "law" (defArgs st) (defBody st) (defScope st) .none kV doc pm an cdv ct) ⟨[u], []⟩ = pure [(("script" : Str), u)])
    (hok : ∀ base : Heap, K.In base → base.Ns mainGlobals mg → ∀ f fd, Fun K "law" "law" st f fd → FnOk P w K mg base CX0 k f fd ["script"] (spD K 1 fun ws μ => noex (g ws μ))) :
    ∃ fd : FuncData, (∀ (s : Shared) (u : Value), BindsTo s fd ⟨[u], []⟩ [("script", u)]) ∧ ∀ base : Heap, K.In base → base.Ns mainGlobals mg → FnOk P w K mg base CX0 k fa fd ["script"] (spD K 1 fun ws μ => noex (g ws μ)) := by
  have F := fun_mk (st := st) l c kp
  have e := hfa.symm.trans (PySem.W.mg_of X G a)
  cases e
  exact ⟨_, fun s u => .of_eq (hb _ _ _ _ _ _ u), fun base hX hG => hok base hX hG _ _ F⟩
end Ped

/-! PedZ: sorted(set(xs)), len(set(xs)), xs a list of ints -/
namespace Ped
open PySem PySem.Spec PyProof.Rows L2
section
variable {P : Program} {w : World} {A : Around} {E : Value → Shared → Prop} {s : Shared}
abbrev nuSet (w : World) : Obj := { cls := .type "set", dict := none, data := .set #[] 0 (.fresh 0 0 (!w.params.followText "set-order")) }
abbrev nuH (w : World) (s : Shared) : Heap := s.heap.push (nuSet w)
/-- what set.__init__ leaves behind -/
def Filled (w : World) (s : Shared) (ns : List Int) (s2 : Shared) : Prop := ∃ h' tk c, s2 = { s with heap := h', toks := tk } ∧ SetR w h' s.heap.objs.size (fun j => decide (j ∈ ns)) c ∧ c ≤ ns.length ∧ ∀ b o, s.heap.get? b = some o → h'.get? b = some o
set_option maxRecDepth 100000 in
set_option maxHeartbeats 3200000 in
/-- set(l) of a list of ints, told by its members -/
theorem setL_made {l : Addr} {items : Array Value} (ns : List Int) {Q : Value → Shared → Prop} (hh : A.handled = none) (hl : s.heap.IsList l items) (hit : IntsAre items.toList ns) (hb : ns.length + 1 < scanBound)
    (h : ∀ s2, Filled w s ns s2 → Q (.ref s.heap.objs.size) s2) : wpAny (model P w) A (call (.type "set") [.ref l]) Q E s := by
  have hz : items.size = ns.length := Array.length_toList.symm.trans (IntsAre.length hit)
  obtain ⟨⟨c, tl, hmro⟩, hmade, hsub⟩ := And.intro F.called_set.mro (And.intro F.called_set.made F.called_set.sub)
  refine wpAny_call (codeAny_of_tree ?_)
  show wpAny _ _ (callAny (.type "set") _) _ _ _
  refine wpAny_pure (And.intro (Code.quiet_builtin _ (by decide +kernel)) (codeAny_builtin F.entry_type_call ?_))
  rw [Around.under_plain (weight_type_call_type "set" [.ref l] []) rfl]
  have k1 := F.called_set.notType; have k2 := F.called_set.canCreate; have k3 := F.typeCall_set_1 (.ref l)
  iterate (any_goals first | assumption | wp_step)
  refine codeAny_mono (code_set_led1 (.ref l) (E := E) (Q₁ := fun u s1 => u = .ref s.heap.objs.size ∧ s1 = { s with heap := nuH w s }) ⟨rfl, rfl⟩) fun r s1 hr => ?_
  cases r with
  | error e => exact hr
  | ok fl =>
    cases fl with
    | ret u =>
      obtain ⟨rfl, rfl⟩ := hr
      have kS : (nuH w s).get? s.heap.objs.size = some (nuSet w) := Heap.get?_push_size _ rfl
      have kT : Shared.TypeIs { s with heap := nuH w s } (.ref s.heap.objs.size) "set" := ⟨_, kS, rfl⟩
      have k4 := F.called_set.init.lookup; have k5 := F.called_set.init.bind (.ref s.heap.objs.size)
      iterate (any_goals first | assumption | wp_step)
      refine codeAny_mono (codeAny_call_builtin (R := wants (fun r s2 => r = .none ∧ Filled w s ns s2) E) F.called_set.init.plain F.entry_set_init (check_set_init_1 kT ?_)) fun r2 s2 hr2 => ?_
      · obtain ⟨⟨oc, od, odt, os⟩, ho, hcl, nl, hdl⟩ := hl
        cases (show oc = _ from hcl); cases (show odt = _ from hdl)
        have g1 : (nuH w s).get? l = some { cls := .type "list", dict := od, data := .seq items nl, slots := os } := Heap.get?_push_of_some _ ho
        have g2 := F.sub_list_set; have g3 := F.sub_list_frozenset
        have g4 : (Value.type "list" == Value.type "dict") = false := by decide
        have g5 : (nuH w s).IsList l items := ⟨_, g1, rfl, nl, rfl⟩
        unfold Builtin.«set.__init__» noKeywords Builtin.Frozenset.updateFrom
        generalize hPI : pyIter = PI
        wp_walk
        subst hPI
        refine wpAny_pyIter_list g5 (wpAny_bind (wpAny_runValue ?_))
        have hlt : l < s.heap.objs.size := Heap.lt_size ho
        have sz : (nuH w s).objs.size = s.heap.objs.size + 1 := Heap.size_push ..
        have n1 : l ≠ (nuH w s).objs.size := sz ▸ Nat.ne_of_lt (Nat.lt_succ_of_lt hlt)
        have n2 : s.heap.objs.size ∉ [(nuH w s).objs.size, l] := fun z => by
          rcases List.mem_cons.mp z with z | z
          · exact Nat.ne_of_lt (Nat.lt_succ_self _) (z.trans sz)
          · exact Nat.ne_of_lt hlt (List.mem_singleton.mp z).symm
        have hv : ∀ (i : Nat) (v : Value), items[i]? = some v → ∃ k t, ns[i]? = some k ∧ v = .int k t := fun i v q => by
          have hi : i < ns.length := hz ▸ (Array.getElem?_eq_some_iff.mp q).1
          obtain ⟨t, e⟩ := PyProof.Rows.IntsAre.int_at hit i v (Array.getElem?_toList.trans q)
          exact ⟨ns[i], t, List.getElem?_eq_getElem hi, by simpa [hi] using e⟩
        refine set_update_ints ((Walks.list (by simp [hh]) _ l n1 items).toS) s.heap.objs.size n2 ns hz hb hv items.size 0 _ (Nat.sub_zero _) (Nat.zero_le _) ⟨⟨_, Heap.get?_push_size _ rfl, rfl, rfl⟩, g5.push _⟩ ⟨0, Nat.le_refl 0, setR_new_at (Heap.get?_push_of_some _ kS)⟩ fun s3 c3 hm hc hS => ?_
        obtain ⟨h3, gg, dd, tk, oo⟩ := s3
        obtain rfl : gg = s.gens := hm.gens
        obtain rfl : dd = s.drawn := hm.drawn
        obtain rfl : oo = s.os := hm.os
        show wpAny _ _ _ _ _ _
        refine wpAny_pure ?_
        show wpAny _ _ (ret Value.none) _ _ _
        refine wpAny_pure ⟨rfl, h3, tk, c3, rfl, hS, hz ▸ hc, fun b o e => hm.heap b o ?_ (Heap.get?_push_of_some _ (Heap.get?_push_of_some _ e))⟩
        have q := Heap.lt_size e
        intro z
        rcases List.mem_cons.mp z with z | z
        · exact Nat.ne_of_lt q z
        · exact Nat.ne_of_lt (Nat.lt_succ_of_lt q) ((List.mem_singleton.mp z).trans sz)
      · cases r2 with
        | error e => exact hr2
        | ok f2 =>
          cases f2 with
          | ret r =>
            obtain ⟨rfl, h2⟩ := hr2
            iterate (any_goals first | assumption | wp_step)
            exact h _ h2
          | _ => exact hr2.elim
    | _ => exact hr.elim
end
end Ped

/-! PedY: the rules for sorted(set(xs)), len(set(xs)) -/
namespace Ped
open PySem PySem.Spec PyProof.Rows L2
/-! ### lists of ints that rise -/
def insS (x : Int) : List Int → List Int
  | [] => [x]
  | y :: r => if x < y then x :: y :: r else if x = y then y :: r else y :: insS x r
def sset : List Int → List Int
  | [] => []
  | x :: r => insS x (sset r)
theorem mem_insS {x z : Int} : ∀ {l : List Int}, z ∈ insS x l ↔ z = x ∨ z ∈ l
  | [] => by simp [insS]
  | y :: r => by
    unfold insS
    split
    · simp
    · split
      · rename_i h; subst h; simp
      · simp only [List.mem_cons, mem_insS (l := r)]
        constructor
        · rintro (h | h | h) <;> simp [h]
        · rintro (h | h | h) <;> simp [h]
theorem mem_sset {z : Int} : ∀ {l : List Int}, z ∈ sset l ↔ z ∈ l
  | [] => by simp [sset]
  | x :: r => by rw [sset, mem_insS, mem_sset (l := r), List.mem_cons]
theorem rise_insS {x : Int} : ∀ {l : List Int}, l.Pairwise (· < ·) → (insS x l).Pairwise (· < ·)
  | [], _ => by simp [insS]
  | y :: r, h => by
    rw [List.pairwise_cons] at h
    unfold insS
    split
    · rename_i hx
      rw [List.pairwise_cons]
      refine ⟨fun z hz => ?_, by rw [List.pairwise_cons]; exact h⟩
      rcases List.mem_cons.mp hz with rfl | hz
      · exact hx
      · have := h.1 z hz; omega
    · split
      · rw [List.pairwise_cons]; exact h
      · rw [List.pairwise_cons]
        refine ⟨fun z hz => ?_, rise_insS h.2⟩
        rcases mem_insS.mp hz with rfl | hz
        · omega
        · exact h.1 z hz
theorem rise_sset : ∀ {l : List Int}, (sset l).Pairwise (· < ·)
  | [] => List.Pairwise.nil
  | x :: r => rise_insS rise_sset
theorem rise_same : ∀ {xs ys : List Int}, xs.Pairwise (· < ·) → ys.Pairwise (· < ·) → (∀ z, z ∈ xs ↔ z ∈ ys) → xs = ys
  | [], [], _, _, _ => rfl
  | [], y :: ys, _, _, h => absurd ((h y).mpr List.mem_cons_self) (by simp)
  | x :: xs, [], _, _, h => absurd ((h x).mp List.mem_cons_self) (by simp)
  | x :: xs, y :: ys, h1, h2, h => by
    rw [List.pairwise_cons] at h1 h2
    have e : x = y := by
      rcases List.mem_cons.mp ((h x).mp List.mem_cons_self) with q | q
      · exact q
      · rcases List.mem_cons.mp ((h y).mpr List.mem_cons_self) with p | p
        · exact p.symm
        · have := h2.1 x q
          have := h1.1 y p
          omega
    subst e
    congr 1
    refine rise_same h1.2 h2.2 fun z => ?_
    constructor
    · intro hz
      rcases List.mem_cons.mp ((h z).mp (List.mem_cons_of_mem _ hz)) with q | q
      · have := h1.1 z hz; omega
      · exact q
    · intro hz
      rcases List.mem_cons.mp ((h z).mpr (List.mem_cons_of_mem _ hz)) with q | q
      · have := h2.1 z hz; omega
      · exact q
theorem rise_nodup {xs : List Int} (h : xs.Pairwise (· < ·)) : xs.Nodup := h.imp fun hab => Int.ne_of_lt hab
theorem card_sset {xs ys : List Int} (h : xs.Nodup) (hm : ∀ z, z ∈ xs ↔ z ∈ ys) : xs.length = (sset ys).length := by
  have e : xs.Perm (sset ys) := (List.perm_ext_iff_of_nodup h (rise_nodup rise_sset)).mpr fun z => by rw [hm z, mem_sset]
  exact e.length_eq
theorem insS_len (x : Int) : ∀ l : List Int, (insS x l).length ≤ l.length + 1
  | [] => by simp [insS]
  | y :: r => by
    unfold insS
    split
    · simp
    · split
      · simp
      · have := insS_len x r
        simp; omega
theorem sset_len : ∀ l : List Int, (sset l).length ≤ l.length
  | [] => Nat.le_refl _
  | x :: r => by
    have := insS_len x (sset r)
    have := sset_len r
    rw [sset, List.length_cons]
    omega
section
variable {X : Cx}
/-- set(l) -/
def rSetL (K : PySem.W.Frag) (w : World) : List V → Hp → VK → Prop := fun xs H Q => ∃ (l : Addr) (ns : List Int), xs = [V.ref l] ∧ SqL K H l (ns.map V.int) ∧ ns.length < 4000 ∧ ∀ p, H p = none → Q (.ref p) (upd H p (SetO w p (fun j => decide (j ∈ ns)) (sset ns).length))
theorem setR_card {w : World} {h : Heap} {a : Addr} {ns : List Int} {c : Nat} (R : SetR w h a (fun j => decide (j ∈ ns)) c) : c = (sset ns).length := by
  obtain ⟨o, es, ep, t, ho, hex, hd, g, nd, hm, hb, hf, hn, hr, hl⟩ := R
  have e := card_sset (ys := ns) nd fun z => by rw [← hm z]; simp
  rw [← hn, ← e, List.length_map, Array.length_toList]
theorem cr_setL (hc : X.calm = true) : CallR X (.type "set") (rSetL X.K X.w) := by
  intro pins s σ H vs us Q I r h
  obtain ⟨l, ns, rfl, hq, hlen, q⟩ := h
  rw [Vals.ref1 r]
  obtain ⟨its, rv, pl, hz⟩ := I.list hq
  refine setL_made (s := s) ns (I.ok.hd hc) pl.isList (by simpa using rv.ints) (by unfold scanBound; omega) fun s2 hF => ?_
  obtain ⟨h', tk, c, rfl, R, hc', hk⟩ := hF
  have ec := setR_card R
  subst ec
  have hn : H s.heap.objs.size = none := I.hok.fresh (Nat.le_refl _)
  exact ⟨.ref _, upd H s.heap.objs.size (SetO X.w s.heap.objs.size (fun j => decide (j ∈ ns)) (sset ns).length), I.laid (t' := tk) hk (Nat.le_refl _) (setO_new R), rfl, q _ hn⟩
/-- len(s), a set of ints -/
def rLenSet (w : World) : List V → Hp → VK → Prop := fun xs H Q => ∃ (a : Addr) (S : Int → Bool) (n : Nat), xs = [V.ref a] ∧ H a = some (SetO w a S n) ∧ Q (.int n) H
theorem cr_lenSet : CallR X (.builtin "len") (rLenSet X.w) := by
  intro pins s σ H vs us Q I r h
  obtain ⟨a, S, n, rfl, ha, q⟩ := h
  rw [Vals.ref1 r]
  obtain ⟨o, es, ep, t, ho, hex, hd, g, nd, hm, hb, hf, hn, hr, hl⟩ := setO_get I ha
  refine call_len_set ho hex hd hf (by unfold scanBound at hb; omega) ⟨.int n, H, I.tok _, ⟨_, by rw [hn]⟩, q⟩
end
section
variable {X : Cx} {W : WX}
/-- the heap with a thing of nobody's -/
theorem side_one {K : PySem.W.Frag} {S : Sta} {μ : Sto} (h : HS K S μ) {p : Addr} {o : HO} (hp : S.H p = none) : Ext S ⟨upd S.H p o, S.F, S.L⟩ ∧ HS K ⟨upd S.H p o, S.F, S.L⟩ μ := ⟨(Ext.refl S).side hp, h.side (h.fresh hp) (h.free hp)⟩
def ssW (w : Wv) (μ : Sto) : Rs Wv := match w with
  | .d (.list xs) => (match toInts xs with
    | some ns => if ns.length < 64 then .ok (.d (.list ((sset ns).map PyData.int))) μ else .no
    | none => .no)
  | _ => .no
def lsW (w : Wv) (μ : Sto) : Rs Wv := match w with
  | .d (.list xs) => (match toInts xs with
    | some ns => if ns.length < 4000 then .ok (.d (.int (sset ns).length)) μ else .no
    | none => .no)
  | _ => .no
theorem rp_intl {K : PySem.W.Frag} {F : Hp} {v : V} {xs : List PyData} {ns : List Int} (h : Rp K F v (.list xs)) (e : toInts xs = some ns) : ∃ a, v = .ref a ∧ F a = some (.lst (ns.map V.int)) := by
  obtain ⟨a, vs, rfl, ha, ra⟩ := rp_lst_inv h
  rw [toInts_eq e] at ra
  rw [rpA_ints ra] at ha
  exact ⟨a, rfl, ha⟩
/-- sorted(set(e)) -/
theorem c_sortedSet {p q qos pos : Pos} {a : Expr} {f : FE} (hc : X.calm = true) (hg : Gl X "sorted") (hm : X.mg "sorted" = none) (hg2 : Gl X "set") (hm2 : X.mg "set" = none) (h : CEx X W a f)
    (na : starEach [a] X.env = (false, eval a X.env) :: starEach [] X.env := by rfl) (na2 : starEach [.Call (.Name "set" q) [a] [] qos] X.env = (false, eval (.Call (.Name "set" q) [a] [] qos) X.env) :: starEach [] X.env := by rfl)
    : CEx X W (.Call (.Name "sorted" p) [.Call (.Name "set" q) [a] [] qos] [] pos) (f1 ssW f) := by
  obtain ⟨t, pa, qa⟩ := h
  refine ⟨_, pe_callB (cr_sortedSet hc) hg hm (by decide +kernel) (pa_cons (pe_callTy (cr_setL hc) hg2 hm2 (by decide +kernel) (pa_cons pa pa_nil na) (by decide) (by decide) na (by rfl)) pa_nil na2) (by decide) (by decide) na2 (by rfl), fun env σ S μ he hS Q hp => ?_⟩
  unfold f1 at hp
  rw [Rs.post_bind] at hp
  refine qa env σ S μ he hS _ (hp.mono (fun w μ1 h1 v S1 e1 hS1 r1 => ?_) fun _ _ z => z)
  unfold ssW at h1
  split at h1
  · rename_i xs
    split at h1
    · rename_i ns hx
      split at h1
      · rename_i hl
        obtain ⟨l, rfl, hF⟩ := rp_intl r1 hx
        refine ⟨l, ns, rfl, .inl (.inl (hS1.sub _ _ hF)), by omega, fun b hb => ?_⟩
        obtain ⟨ex, hs⟩ := side_one hS1 (o := SetO X.w b (fun j => decide (j ∈ ns)) (sset ns).length) hb
        refine ⟨b, _, _, rfl, upd_same, by have := sset_len ns; omega, fun ns' p' hr hmem hl' hp' => ?_⟩
        have e : ns' = sset ns := rise_same hr rise_sset fun z => by rw [hmem z, mem_sset]; simp
        subst e
        exact new_lst hs (RpA.ints _) (POk.mono (e1.trans ex) h1) p' hp'
      · exact h1.elim
    · exact h1.elim
  · exact h1.elim
/-- len(set(e)) -/
theorem c_lenSet {p q qos pos : Pos} {a : Expr} {f : FE} (hc : X.calm = true) (hg : Gl X "len") (hm : X.mg "len" = none) (hg2 : Gl X "set") (hm2 : X.mg "set" = none) (h : CEx X W a f)
    (na : starEach [a] X.env = (false, eval a X.env) :: starEach [] X.env := by rfl) (na2 : starEach [.Call (.Name "set" q) [a] [] qos] X.env = (false, eval (.Call (.Name "set" q) [a] [] qos) X.env) :: starEach [] X.env := by rfl)
    : CEx X W (.Call (.Name "len" p) [.Call (.Name "set" q) [a] [] qos] [] pos) (f1 lsW f) := by
  obtain ⟨t, pa, qa⟩ := h
  refine ⟨_, pe_callB cr_lenSet hg hm (by decide +kernel) (pa_cons (pe_callTy (cr_setL hc) hg2 hm2 (by decide +kernel) (pa_cons pa pa_nil na) (by decide) (by decide) na (by rfl)) pa_nil na2) (by decide) (by decide) na2 (by rfl), fun env σ S μ he hS Q hp => ?_⟩
  unfold f1 at hp
  rw [Rs.post_bind] at hp
  refine qa env σ S μ he hS _ (hp.mono (fun w μ1 h1 v S1 e1 hS1 r1 => ?_) fun _ _ z => z)
  unfold lsW at h1
  split at h1
  · rename_i xs
    split at h1
    · rename_i ns hx
      split at h1
      · rename_i hl
        obtain ⟨l, rfl, hF⟩ := rp_intl r1 hx
        refine ⟨l, ns, rfl, .inl (.inl (hS1.sub _ _ hF)), by omega, fun b hb => ?_⟩
        obtain ⟨ex, hs⟩ := side_one hS1 (o := SetO X.w b (fun j => decide (j ∈ ns)) (sset ns).length) hb
        exact ⟨b, _, _, rfl, upd_same, h1 _ _ (e1.trans ex) hs (.int _)⟩
      · exact h1.elim
    · exact h1.elim
  · exact h1.elim
/-- the keys of a dict, if all are ints -/
def intKeys : List (Key × Wv) → Option (List Int)
  | [] => some []
  | (.inl i, _) :: r => (intKeys r).map (i :: ·)
  | _ :: _ => none
theorem intKeys_is {K : PySem.W.Frag} {S : Sta} : ∀ {vs : List (Key × V)} {ws : List (Key × Wv)} {ks : List Int}, RKv K S vs ws → intKeys ws = some ks → vs.map (·.1) = ks.map Sum.inl
  | _, _, ks, .nil, e => by simp [intKeys] at e; subst e; rfl
  | (k1, v) :: _, (.inl i, w) :: _, ks, .cons r t, e => by
    simp [intKeys] at e
    obtain ⟨ms, e1, e2⟩ := e
    subst e2
    have h : k1 = .inl i := r.1
    rw [List.map_cons, List.map_cons, intKeys_is t e1, h]
  | _, (.inr i, w) :: _, ks, .cons r t, e => by simp [intKeys] at e
def insI (x : Int) : List Int → List Int
  | [] => [x]
  | y :: r => if x ≤ y then x :: y :: r else y :: insI x r
def srtI : List Int → List Int
  | [] => []
  | x :: r => insI x (srtI r)
theorem perm_insI (x : Int) : ∀ l : List Int, (insI x l).Perm (x :: l)
  | [] => List.Perm.refl _
  | y :: r => by
    unfold insI
    split
    · exact List.Perm.refl _
    · exact ((perm_insI x r).cons y).trans (List.Perm.swap x y r)
theorem perm_srtI : ∀ l : List Int, (srtI l).Perm l
  | [] => List.Perm.refl _
  | x :: r => (perm_insI x (srtI r)).trans ((perm_srtI r).cons x)
theorem sorted_insI {x : Int} : ∀ {l : List Int}, l.Pairwise (· ≤ ·) → (insI x l).Pairwise (· ≤ ·)
  | [], _ => by simp [insI]
  | y :: r, h => by
    unfold insI
    split
    · rename_i hx
      rw [List.pairwise_cons]
      refine ⟨fun z hz => ?_, h⟩
      rw [List.pairwise_cons] at h
      rcases List.mem_cons.mp hz with rfl | hz
      · exact hx
      · have := h.1 z hz; omega
    · rw [List.pairwise_cons] at h ⊢
      refine ⟨fun z hz => ?_, sorted_insI h.2⟩
      rcases List.mem_cons.mp ((perm_insI x r).mem_iff.mp hz) with rfl | hz
      · omega
      · exact h.1 z hz
theorem sorted_srtI : ∀ l : List Int, (srtI l).Pairwise (· ≤ ·)
  | [] => List.Pairwise.nil
  | x :: r => sorted_insI (sorted_srtI r)
theorem sorted_same : ∀ {xs ys : List Int}, xs.Perm ys → xs.Pairwise (· ≤ ·) → ys.Pairwise (· ≤ ·) → xs = ys := fun h h1 h2 => List.Perm.eq_of_pairwise (fun a b _ _ h1 h2 => Int.le_antisymm h1 h2) h1 h2 h
def sdW (w : Wv) (μ : Sto) : Rs Wv := match w with
  | .l n => (match μ[n]? with
    | some (.dk kvs) => (match intKeys kvs with
      | some ks => if ks.length < 64 then .ok (.d (.list ((srtI ks).map PyData.int))) μ else .no
      | none => .no)
    | _ => .no)
  | _ => .no
/-- sorted(x), x a dict of the store, its keys ints -/
theorem c_sortedD {p pos : Pos} {a : Expr} {f : FE} (hc : X.calm = true) (hg : Gl X "sorted") (hm : X.mg "sorted" = none) (h : CEx X W a f)
    (na : starEach [a] X.env = (false, eval a X.env) :: starEach [] X.env := by rfl) : CEx X W (.Call (.Name "sorted" p) [a] [] pos) (f1 sdW f) := by
  obtain ⟨t, pa, qa⟩ := h
  refine ⟨_, pe_callB (call_sortedDI hc) hg hm (by decide +kernel) (pa_cons pa pa_nil na) (by decide) (by decide) na (by rfl), fun env σ S μ he hS Q hp => ?_⟩
  unfold f1 at hp
  rw [Rs.post_bind] at hp
  refine qa env σ S μ he hS _ (hp.mono (fun w μ1 h1 v S1 e1 hS1 r1 => ?_) fun _ _ z => z)
  unfold sdW at h1
  split at h1
  · rename_i n
    split at h1
    · rename_i kvs hn
      split at h1
      · rename_i ks hk
        split at h1
        · rename_i hl
          obtain ⟨l, hL, rfl⟩ := r1
          obtain ⟨vs, q1, q2⟩ := hS1.ob n l _ hL hn
          refine ⟨l, vs, ks, rfl, .inl q1, intKeys_is q2 hk, hl, fun ys p' hp1 hs => ?_⟩
          have e : ys = srtI ks := sorted_same (hp1.trans (perm_srtI ks).symm) hs (sorted_srtI ks)
          subst e
          exact new_lst hS1 (RpA.ints _) (POk.mono e1 h1) p'
        · exact h1.elim
      · exact h1.elim
    · exact h1.elim
  · exact h1.elim
def soW (w : Wv) (μ : Sto) : Rs Wv := match w with
  | .d (.list xs) => (match toInts xs with
    | some ns => .ok (.d (.list ((srtI ns).map PyData.int))) μ
    | none => .no)
  | _ => .no
end
end Ped

/-! PedX: t[::-1], t a tuple -/
namespace Ped
open PySem PySem.Spec PyProof.Rows L2 HT
section
variable {prog : Program} {w : World} {A : Around} {E : Value → Shared → Prop} {s : Shared}
theorem applied_rev {sl : Addr} {vs : Value} {n : Nat} {Q : Int × Int × Nat → Shared → Prop} (hs : s.heap.IsSliceOf sl .none .none vs) (ps : IsPart vs (some (-1))) (h : Q ((n : Int) - 1, -1, n) s) : wpAny (model prog w) A (Builtin.Slice.sliceApplied (.ref sl) (pure (n : Int))) Q E s := by
  obtain ⟨os, hos, hcs, hds⟩ := id hs
  unfold Builtin.Slice.sliceApplied Builtin.Slice.sliceFields
  refine wpAny_bind (wpAny_bind (wpAny_field hos hds (x := .none) rfl (wpAny_bind (wpAny_field hos hds (x := .none) rfl (wpAny_bind (wpAny_field hos hds (x := vs) rfl (wpAny_pure ?_)))))))
  refine wpAny_bind (slicePart_ ps ?_)
  show wpAny _ _ (if ((-1 : Int) == 0) = true then _ else _) _ _ s
  rw [if_neg (by decide)]
  refine wpAny_bind (slicePart_none (wpAny_bind (slicePart_none (wpAny_bind (wpAny_pure ?_)))))
  have e1 : Builtin.Slice.sliceAdjust none none (-1) (n : Int) = ((n : Int) - 1, -1) := by
    simp [Builtin.Slice.sliceAdjust]
  have e2 : Builtin.Slice.slicePlaces ((n : Int) - 1) (-1) (-1) = n := by
    unfold Builtin.Slice.slicePlaces
    simp
    omega
  show wpAny _ _ (match Builtin.Slice.sliceAdjust none none (-1) (n : Int) with | (lo, hi) => pure (lo, (-1 : Int), Builtin.Slice.slicePlaces lo hi (-1))) _ _ s
  rw [e1]
  show wpAny _ _ (pure ((n : Int) - 1, (-1 : Int), Builtin.Slice.slicePlaces ((n : Int) - 1) (-1) (-1))) _ _ s
  rw [e2]
  exact wpAny_pure h
theorem pick_rev (xs : Array Value) : ((List.range xs.size).filterMap fun (m : Nat) => xs[(((xs.size : Int) - 1) + (m : Int) * (-1)).toNat]?).toArray = xs.toList.reverse.toArray := by
  congr 1
  have e : ∀ m, m < xs.size → xs[(((xs.size : Int) - 1) + (m : Int) * (-1)).toNat]? = xs.toList.reverse[m]? := fun m hm => by
    have : (((xs.size : Int) - 1) + (m : Int) * (-1)).toNat = xs.size - 1 - m := by omega
    rw [this, List.getElem?_reverse (by simpa using hm)]
    simp
  have g : ∀ (ys : List Value) (k : Nat), k ≤ ys.length → (List.range k).filterMap (fun m => ys[m]?) = ys.take k := fun ys k => by
    induction k with
    | zero => intro _; simp
    | succ k ih =>
      intro hk
      rw [List.range_succ, List.filterMap_append, ih (by omega), List.take_add_one]
      simp [List.getElem?_eq_getElem (show k < ys.length by omega)]
  have g2 := g xs.toList.reverse xs.size (by simp)
  rw [List.take_of_length_le (by simp)] at g2
  rw [← g2]
  have c : ∀ (f g : Nat → Option Value) (q : List Nat), (∀ m ∈ q, f m = g m) → q.filterMap f = q.filterMap g := fun f g q => by
    induction q with
    | nil => intro _; rfl
    | cons a r ih =>
      intro hq
      rw [List.filterMap_cons, List.filterMap_cons, hq a List.mem_cons_self, ih fun m hm => hq m (List.mem_cons_of_mem _ hm)]
  exact c _ _ _ fun m hm => e m (List.mem_range.mp hm)
theorem item_rev {t sl : Addr} {items : Array Value} {vs : Value} {Q : Value → Shared → Prop} (ht : IsTup s.heap t items) (hs : s.heap.IsSliceOf sl .none .none vs) (ps : IsPart vs (some (-1)))
    (h : Q (.ref s.heap.objs.size) { s with heap := s.heap.push { cls := .type "tuple", data := .seq items.toList.reverse.toArray } }) (hsz : items.size ≤ sizeLine) : wpAny (model prog w) A (getItem (.ref t) (.ref sl)) Q E s := by
  obtain ⟨os, hos, hcs, hds⟩ := id hs
  have kT : s.TypeIs (.ref sl) "slice" := ⟨os, hos, hcs⟩
  have kz : sizeOk (.seq items.toList.reverse.toArray) := by
    show items.toList.reverse.toArray.size ≤ sizeLine
    simpa using hsz
  unfold getItem
  (try with_reducible refine wpAny_holding ?_); (first | refine wpAny_bind (wpAny_pure ?_) | skip)
  refine wpAny_bind (wpAny_sequenceKey ht.typeIs (by decide) (wpAny_bind (wpAny_callSpecial?_slot (name := Str.ofString "__getitem__") ht.typeIs PyProof.Rows.slot_tuple_getitem (wpAny_call_entry PyProof.Rows.slot_tuple_getitem ht.typeIs entry_tuple_getitem ?_ (args_tuple_getitem _ _)))))
  show wpAny _ _ (Builtin.Tuple.tupleItemsOf (.ref t) >>= _) _ _ s
  refine wpAny_bind (tupleItemsOf_ ht (wpAny_bind (wpAny_typeOf kT ?_)))
  rw [if_pos (by decide)]
  refine wpAny_bind (applied_rev hs ps ?_)
  show wpAny _ _ (if (((items.size : Int) - 1) == 0 && (-1 : Int) == 1 && items.size == items.size) = true then _ else _) _ _ s
  rw [if_neg (by simp), pick_rev]
  first
    | exact wpAny_bind (m := Builtin.Tuple.tupleExact _) (wpAny_newObj_type (wpAny_pure ⟨_, rfl, wpAny_pure h⟩) kz)
    | exact wpAny_bind (wpAny_bind (m := Builtin.Tuple.tupleExact _) (wpAny_newObj_type (wpAny_pure (wpAny_pure ⟨_, rfl, wpAny_pure h⟩)) kz))
    | exact wpAny_bind (wpAny_bind (m := Builtin.Tuple.tupleExact _) (wpAny_newObj_type (wpAny_pure ⟨_, rfl, wpAny_pure h⟩) kz))
end
section
variable {X : Cx}
def tRevT (K : PySem.W.Frag) (te : TE) : TE := fun σ H Q => te σ H fun x H1 => ∃ a xs, x = .ref a ∧ SqT K H1 a xs ∧ T2 H1 Q xs.reverse
theorem pe_revT {e : Expr} {te : TE} {k : Nat} {p1 p2 p3 pos : Pos} (he : PE X e te) : PE X (.Subscript e (.Slice none none (some (.UnaryOp .USub (.Constant (.int 1) k p1) p2)) p3) pos) (tRevT X.K te) := by
  refine ⟨fun pins s σ H Q I h => Subscript_ (thn (he.run pins s σ H _ I h) fun v s1 ⟨x, H1, I1, r1, a, xs, ex, hx, q⟩ => ?_)⟩
  subst ex
  cases r1
  have kst : PO X (some (.UnaryOp .USub (.Constant (.int 1) k p1) p2)) (tPart (tUn (rU fun i => .int (-i)) (tC (.int 1)))) := po_some (pe_un un_neg pe_int)
  refine wpAny_Slice (thn (po_none.run pins s1 σ H1 (fun o H2 => o = none ∧ H2 = H1) I1 ⟨rfl, rfl⟩) fun vl s2 ⟨l, H2, I2, pl, el, e2⟩ => ?_)
  subst el e2
  refine thn (po_none.run pins s2 σ H2 (fun o H3 => o = none ∧ H3 = H2) I2 ⟨rfl, rfl⟩) fun vu s3 ⟨u, H3, I3, pu, eu, e3⟩ => ?_
  subst eu e3
  refine thn (kst.run pins s3 σ H3 (fun o H4 => o = some (-1) ∧ H4 = H3) I3 ⟨1, rfl, -1, rfl, rfl, rfl⟩) fun vs s4 ⟨o, H4, I4, ps, eo, e4⟩ => ?_
  subst eo e4
  cases pl
  cases pu
  have I5 : Inv X pins σ H4 { s4 with heap := s4.heap.push { cls := .type "slice", data := .fields #[Value.none, Value.none, vs] } } := I4.kept (t' := s4.toks) fun b ob q => Heap.get?_push_of_some _ q
  obtain ⟨its, r, ht, hz⟩ := I5.tuple hx
  have kl := r.length
  show wpAny (model X.prog X.w) X.A (subscriptTail e (.Slice none none (some (.UnaryOp .USub (.Constant (.int 1) k p1) p2)) p3) (.ref a) (.ref s4.heap.objs.size)) (EP X pins σ Q) X.xe { s4 with heap := s4.heap.push { cls := .type "slice", data := .fields #[Value.none, Value.none, vs] } }
  refine tail_any (ops := [.ref a, .ref s4.heap.objs.size]) ht.typeIs (PyProof.Rows.slot_tuple_getitem.lookup) ?_ (by with_unfolding_all rfl)
  refine item_rev ht (Heap.IsSliceOf.new _ .none .none vs) ps ?_ (by rw [List.size_toArray]; omega)
  exact fin2 I5 r.reverse (by rw [List.length_reverse]; exact hz) q
end
section
variable {X : Cx} {W : WX}
def revW (w : Wv) (μ : Sto) : Rs Wv := match w with
  | .d (.tuple xs) => .ok (.d (.tuple xs.reverse)) μ
  | _ => .no
/-- e[::-1], a tuple -/
theorem c_revT {e : Expr} {f : FE} {k : Nat} {p1 p2 p3 pos : Pos} (h : CEx X W e f) : CEx X W (.Subscript e (.Slice none none (some (.UnaryOp .USub (.Constant (.int 1) k p1) p2)) p3) pos) (f1 revW f) := by
  obtain ⟨t, pe, qe⟩ := h
  refine ⟨_, pe_revT pe, fun env σ S μ he hS Q hp => ?_⟩
  unfold f1 at hp
  rw [Rs.post_bind] at hp
  refine qe env σ S μ he hS _ (hp.mono (fun w μ1 h1 v S1 e1 hS1 r1 => ?_) fun _ _ z => z)
  unfold revW at h1
  split at h1
  · obtain ⟨a, xs, rfl, ha, ra⟩ := rp_tup_inv r1
    exact ⟨a, xs, rfl, .inl (sb_rd hS1.sub ha), new_tup hS1 ra.reverse (POk.mono e1 h1)⟩
  · exact h1.elim
end
end Ped

/-! PedW: a tuple so many times -/
namespace Ped
open PySem PySem.Spec PyProof.Rows L2
theorem tup_once (l : Addr) (items : Array Value) (n : Nat) (dd : Option Addr) (sl : Array (Option Value)) (u : Tok) :
    Meets (Builtin.«tuple.__mul__» ⟨[.ref l, .int 1 u], []⟩) (fun _ R s => s.heap.get? l = some { cls := .type "tuple", dict := dd, data := .seq items n, slots := sl } ∧ R (.ok (.ret (Value.ref l))) s) :=
  .of_wp fun prog w A R s h => by
    obtain ⟨hp, g, d, tk, os⟩ := s
    obtain ⟨hl, h⟩ := h
    have f1 := AutoSeq1.idx_int
    wp_walk using wpAny_loadPart' hl
    exact ⟨_, rfl, h⟩
section
variable {X : Cx}
def rOnce (K : PySem.W.Frag) : R2 := fun x y H Q => ∃ l xs, x = .ref l ∧ y = .int 1 ∧ SqT K H l xs ∧ Q (.ref l) H
theorem op_once : OpR X (binaryOp .Mult) (rOnce X.K) := by
  intro pins s σ H x y v u Q I rx ry h
  obtain ⟨l, xs, rfl, rfl, hT, q⟩ := h
  cases rx
  obtain ⟨t, rfl⟩ := ry
  obtain ⟨its, r, ⟨⟨cls, dd, data, sl⟩, ho, hc, n, hd⟩, hs⟩ := I.tuple hT
  cases (show cls = _ from hc); cases (show data = _ from hd)
  exact wpAny_binaryOp_repeat_ref (T := "tuple") (U := "int") (by decide) ⟨_, ho, rfl⟩ (fun s' => typeIs_int s' 1 t) noFill_tuple_mul PySem.F.fills_int_mul PySem.F.slot_int_rmul repeat_tuple PySem.F.slot_int_index.lookup
    (call_meets PySem.F.slot_int_rmul (typeIs_int s 1 t) PySem.F.entry_int_rmul (PySem.F.args_int_rmul_2 _ _) (int_rmul_tuple 1 t l its.toArray n dd sl)
      ⟨ho, rfl, ⟨_, ho, rfl⟩, call_meets PySem.F.slot_tuple_mul ⟨_, ho, rfl⟩ PySem.F.entry_tuple_mul (PySem.F.args_tuple_mul_2 _ _) (tup_once l its.toArray n dd sl t) ⟨ho, .ref l, H, I, rfl, q⟩⟩)
/-- t * k, twice or more -/
def rRep2 (K : PySem.W.Frag) : R2 := fun x y H Q => ∃ l k xs, x = .ref l ∧ y = .int k ∧ (SqT K H l xs ∧ xs ≠ []) ∧ (2 ≤ k ∧ k ≤ 1000 ∧ xs.length ≤ 1000) ∧ T2 H Q (List.replicate k.toNat xs).flatten
theorem op_rep2 : OpR X (binaryOp .Mult) (rRep2 X.K) := by
  intro pins s σ H x y v u Q I rx ry h
  obtain ⟨l, k, xs, rfl, rfl, ⟨hT, hne⟩, ⟨k2, k3, hz⟩, q⟩ := h
  cases rx
  obtain ⟨t, rfl⟩ := ry
  obtain ⟨its, r, ⟨⟨cls, dd, data, sl⟩, ho, hc, n, hd⟩, hs⟩ := I.tuple hT
  cases (show cls = _ from hc); cases (show data = _ from hd)
  have el : its.length = xs.length := r.length.symm
  have e2 : its.toArray.size = xs.length := List.size_toArray.trans el
  have few : k.toNat * xs.length ≤ 1000000 := Nat.le_trans (Nat.mul_le_mul (show k.toNat ≤ 1000 by omega) hz) (by decide)
  have few2 : ((xs.length : Nat) : Int) * k ≤ 1000000 := by
    have e : ((k.toNat * xs.length : Nat) : Int) = (xs.length : Int) * k := by
      rw [Int.natCast_mul, Int.toNat_of_nonneg (by omega), Int.mul_comm]
    omega
  have ne0 : its.toArray.isEmpty = false := by
    cases its with
    | cons => rfl
    | nil => cases r; exact absurd rfl hne
  have m1 : (decide (k < -(2 ^ 63)) || decide (k ≥ 2 ^ 63)) = false := by simp; omega
  have m2 : (its.toArray.isEmpty || k == 1) = false := by rw [ne0]; simp; omega
  have m3 : (decide (k ≤ 0) || its.toArray.isEmpty) = false := by rw [ne0]; simp; omega
  have m4 : Builtin.Tuple.tupleTooMany (((its.toArray.size : Nat) : Int) * k) = false := by
    rw [e2]
    unfold Builtin.Tuple.tupleTooMany
    rw [sizeLine_eq]
    simp
    omega
  have len2 : (List.replicate k.toNat its).flatten.length ≤ sizeLine := by
    rw [PyProof.Rows.lm_len_rep_flat, el, sizeLine_eq]
    omega
  refine wpAny_binaryOp_repeat_ref (T := "tuple") (U := "int") (by decide) ⟨_, ho, rfl⟩ (fun s2 => typeIs_int s2 k t) noFill_tuple_mul PySem.F.fills_int_mul PySem.F.slot_int_rmul repeat_tuple PySem.F.slot_int_index.lookup
    (call_meets PySem.F.slot_int_rmul (typeIs_int s k t) PySem.F.entry_int_rmul (PySem.F.args_int_rmul_2 _ _) (int_rmul_tuple k t l its.toArray n dd sl)
      ⟨ho, rfl, ⟨_, ho, rfl⟩, call_meets PySem.F.slot_tuple_mul ⟨_, ho, rfl⟩ PySem.F.entry_tuple_mul (PySem.F.args_tuple_mul_2 _ _) (tuple_mulW l its.toArray n dd sl k t m1 m2 m3 (by rw [e2]; omega) m4 (by rw [size_rep, List.size_toArray]; exact len2)) ⟨ho, ?_⟩⟩)
  rw [size_rep]
  exact fin2 I (r.rep k.toNat) (by rw [PyProof.Rows.lm_len_rep_flat, sizeLine_eq]; omega) q
end
section
variable {X : Cx} {W : WX}
/-- t * n -/
def mulTW (x y : Wv) (μ : Sto) : Rs Wv := match x, y with
  | .d (.tuple xs), .d (.int k) => if xs ≠ [] ∧ 1 ≤ k ∧ k ≤ 1000 ∧ xs.length ≤ 1000 then .ok (.d (.tuple (List.replicate k.toNat xs).flatten)) μ else .no
  | _, _ => .no
theorem mulTW_nx : NoEx mulTW := fun x y μ e ν q => by
  unfold mulTW at q
  split at q
  · split at q <;> cases q
  · cases q
theorem c_mulT {a b : Expr} {f g : FE} {pos : Pos} (ha : CEx X W a f) (hb : CEx X W b g) : CEx X W (.BinOp a .Mult b pos) (fOp mulTW f g) := by
  refine c_op (OpR.or op_once op_rep2) (fun x y v u S μ hS hx hy Q hp => ?_) mulTW_nx ha hb
  unfold mulTW at hp
  split at hp
  · split at hp
    · rename_i xs k hk
      obtain ⟨p, vs, rfl, ha, ra⟩ := rp_tup_inv hx
      cases hy
      by_cases h1 : k = 1
      · subst h1
        refine .inl ⟨p, vs, rfl, rfl, .inl (sb_rd hS.sub ha), hp _ S (Ext.refl S) hS ?_⟩
        have e : (List.replicate (1 : Int).toNat xs).flatten = xs := by simp
        rw [e]
        exact hx
      · exact .inr ⟨p, k, vs, rfl, rfl, ⟨.inl (sb_rd hS.sub ha), fun z => hk.1 (ra.nil_iff.mpr z)⟩, ⟨by omega, by omega, by rw [ra.len]; exact hk.2.2.2⟩, new_tup hS (ra.rep _) hp⟩
    · exact hp.elim
  · exact hp.elim
end
end Ped

/-! PedE: enumerate over a tuple, over a list -/
namespace Ped
open PySem PySem.Spec PyProof.Rows L2
theorem enum_one {v : Value} {o : Obj} {H : Heap → Prop} (B : Begins v o H) :
    Meets (Builtin.«enumerate.__new__» ⟨[.type "enumerate", v], []⟩) (fun _ R s => H s.heap ∧ R (.ok (.ret (.ref (s.heap.push o).objs.size))) { s with heap := (s.heap.push o).push { cls := .type "enumerate", data := .fields #[.none, .bool false, .ref s.heap.objs.size, rawInt 0, .none, .none] } }) :=
  .of_wp fun prog w A R s h => by
    obtain ⟨hp, g, d, tk, os⟩ := s
    obtain ⟨h1, h⟩ := h
    have k1 := sub_enumerate
    have k2 : ∀ {A' : Around} {E : Value → Shared → Prop} {Q : Value → Shared → Prop}, Q (.ref hp.objs.size) ⟨hp.push o, g, d, tk, os⟩ → wpAny (model prog w) A' (pyIter v) Q E ⟨hp, g, d, tk, os⟩ := fun q => B.iter prog w _ _ ⟨hp, g, d, tk, os⟩ _ h1 q
    wp_walk using k2
    refine wpAny_stack_any fun st => wpAny_pure ?_
    split
    · rename_i c _ _ _ _ _
      cases (c == Value.type "enumerate") <;> (wp_walk using k2; exact ⟨_, rfl, h⟩)
    · wp_walk using k2
      exact ⟨_, rfl, h⟩
section
variable {prog : Program} {w : World} {A : Around} {E : Value → Shared → Prop} {s : Shared}
theorem call_enum1 {v : Value} {o : Obj} {H : Heap → Prop} {Q : Value → Shared → Prop} (B : Begins v o H) (h1 : H s.heap)
    (h : ∀ h', IsEnum h' (s.heap.objs.size + 1) s.heap.objs.size 0 .none → h'.get? s.heap.objs.size = some o → (∀ b o, s.heap.get? b = some o → h'.get? b = some o) → Q (.ref (s.heap.objs.size + 1)) { s with heap := h' }) :
    wpAny (model prog w) A (call (.type "enumerate") [v]) Q E s := by
  refine callType_new F.called_enumerate (by decide) (F.typeCall_enumerate_1 _) (F.newCall_enumerate_1 _) (fun obj => F.args_object_init_2 obj _) F.entry_enumerate_new (enum_one B) ⟨h1, ?_⟩
  have sz : (s.heap.push o).objs.size = s.heap.objs.size + 1 := Heap.size_push ..
  have he := Heap.get?_push_size (s.heap.push o) (o := { cls := .type "enumerate", data := .fields #[.none, .bool false, .ref s.heap.objs.size, rawInt 0, .none, .none] }) rfl
  show _ ∧ _
  rw [sz] at he ⊢
  exact ⟨⟨_, he, rfl⟩, h _ he (Heap.get?_push_of_some _ (Heap.get?_push_size _ B.free)) fun b o x => Heap.get?_push_of_some _ (Heap.get?_push_of_some _ x)⟩
end
/-- a pair as it is told: as it stands, or locked -/
def laidP (b : Bool) (H : Hp) (T : Addr) (u v : V) (H' : Hp) : Prop := if b = true then H' = upd H T (.tup [u, v]) else ∃ o : Obj, o.dict = none ∧ H' = upd H T (.frz o (.tup [u, v]))
/-- the sequence at a (a tuple, or a list), each item in a new pair -/
def ItT (K : PySem.W.Frag) (a : Addr) (b : Nat → Bool) : It :=
  ⟨fun i H => ∃ (xs : List V) (x : V), SqT K H a xs ∧ xs[i]? = some x, fun i H v H' => ∃ T x, v = .ref T ∧ H T = none ∧ laidP (b i) H T (.int (i : Nat)) x H' ∧ ∀ xs, SqT K H a xs → xs[i]? = some x, fun i H => ∃ xs : List V, SqT K H a xs ∧ xs.length = i⟩
def ItL (K : PySem.W.Frag) (a : Addr) (b : Nat → Bool) : It :=
  ⟨fun i H => ∃ (xs : List V) (x : V), SqL K H a xs ∧ xs[i]? = some x, fun i H v H' => ∃ T x, v = .ref T ∧ H T = none ∧ laidP (b i) H T (.int (i : Nat)) x H' ∧ ∀ xs, SqL K H a xs → xs[i]? = some x, fun i H => ∃ xs : List V, SqL K H a xs ∧ xs.length = i⟩
/-- the new pair in the heap -/
theorem pair_in {X : Cx} {pins : List (Addr × Obj)} {σ : L2.St} {H : Hp} {s : Shared} {e it : Addr} {h'' : Heap} {tk : Nat} {u v : Value} {x y : V} (I : Inv X pins σ H s) (b : Bool) (kp : ∀ c ob, c ∉ [e, it] → s.heap.get? c = some ob → h''.get? c = some ob)
    (hf : ∀ c, c ∈ [e, it] → FpOk X pins H c) (hT : h''.get? s.heap.objs.size = some { cls := .type "tuple", data := .seq #[u, v] }) (ru : RelV x u) (rv : RelV y v) : ∃ H', laidP b H s.heap.objs.size x y H' ∧ Inv X pins σ H' { s with heap := h'', toks := tk } ∧ (∀ c, c ≠ s.heap.objs.size → H' c = H c) := by
  have two : ([x, y] : List V).length ≤ sizeLine := by show 2 ≤ sizeLine; rw [sizeLine_eq]; decide
  cases b with
  | true => exact ⟨_, rfl, I.turnedNew (ch := [e, it]) kp hf (Nat.le_refl _) ⟨two, [u, v], .cons ru (.cons rv .nil), ⟨_, hT, rfl, _, rfl⟩⟩, fun c hc => upd_ne hc⟩
  | false => exact ⟨_, ⟨_, rfl, rfl⟩, I.turnedNew (ch := [e, it]) kp hf (Nat.le_refl _) ⟨hT, two, [u, v], .cons ru (.cons rv .nil), ⟨_, hT, rfl, _, rfl⟩⟩, fun c hc => upd_ne hc⟩
theorem turn_enumT {P : Program} {w : World} {K : PySem.W.Frag} {elts : List Expr} {kk : Nat} {tpos : Pos} (a e it : Addr) (b : Nat → Bool) :
    Turn P w K (.Tuple elts kk tpos) (ItT K a b) [e, it] e (fun i h => (∃ old, IsEnum h e it ((i : Nat) : Int) old) ∧ h.IsTupleIter it a i ∧ e ≠ it ∧ a ≠ e ∧ a ≠ it) where
  mem := by simp
  obj := fun i h st c hc => by
    obtain ⟨⟨old, he⟩, ⟨o, ho, _, hd⟩, _⟩ := st
    rcases List.mem_cons.mp hc with z | z
    · exact z ▸ ⟨_, he, fun v q => nomatch q⟩
    · exact (List.mem_singleton.mp z) ▸ ⟨o, ho, fun v q => by rw [hd] at q; cases q⟩
  keep := fun i h h' ⟨⟨old, he⟩, hi, hne⟩ k => ⟨⟨old, k e (by simp) _ he⟩, hi.at fun o q => k it (by simp) o q, hne⟩
  item := by
    intro X hP hw hK hc i pins s σ H E I hf st hg
    subst hP hw hK
    obtain ⟨⟨old, he⟩, hit, hne, ha1, ha2⟩ := st
    obtain ⟨xs, x, hq, hx⟩ := hg
    obtain ⟨its, rv, p, hz⟩ := I.tuple hq
    obtain ⟨u, hu, ru⟩ := rv.get hx
    have hel : e < s.heap.objs.size := Heap.lt_size he
    have hil : it < s.heap.objs.size := by obtain ⟨_, q, _⟩ := hit; exact Heap.lt_size q
    have hil2 : i < its.toArray.size := by simpa using (List.getElem?_eq_some_iff.mp hu).1
    have D := Draws.tuple (prog := X.prog) (w := X.w) (A := X.A.in1) (by simpa using I.ok.hd hc) it a ha2 its.toArray
    refine wpAny_pyNext_enum_itemD D he ⟨hit, p⟩ hil2 hne (by simp; exact ⟨hne, Ne.symm ha1⟩) fun x1 h' tk hp ho hit' hT hsz hk => ?_
    obtain rfl : u = x1 := by
      have q : its[i]? = some x1 := by simpa using hp
      exact Option.some.inj (hu.symm.trans q)
    refine ⟨_, rfl, wpAny_letOwnedTupleGo_enum (s := { s with heap := h', toks := tk + 1 }) ho fun h'' he' sb => ?_⟩
    obtain ⟨H', l1, I1, l3⟩ := pair_in (tk := tk + 1) (h'' := h'') (x := .int (i : Nat)) I (b i) (fun c ob hc q => (sb.2 c (fun z => hc (by simp [z]))).trans (hk c ob (fun z => hc (by simp [z])) (fun z => hc (by simp [z])) q)) hf ((sb.2 _ (Nat.ne_of_gt hel)).trans hT) ⟨_, rfl⟩ ru
    refine ⟨.ref s.heap.objs.size, H', I1, rfl, ⟨_, x, rfl, I.hok.fresh (Nat.le_refl _), l1, fun ys hy => (I.tuple_inj hy hq) ▸ hx⟩, ⟨⟨u, ?_⟩, hit'.1.at fun o q => (sb.2 it (Ne.symm hne)).trans q, hne, ha1, ha2⟩, fun c hc => ?_⟩
    · rw [show ((i + 1 : Nat) : Int) = (i : Int) + 1 by omega]
      exact he'
    · have lt : c < s.heap.objs.size := by
        rcases List.mem_cons.mp hc with z | z
        · exact z ▸ hel
        · exact (List.mem_singleton.mp z) ▸ hil
      rw [l3 c (Nat.ne_of_lt lt)]
      exact (hf c hc).1
  done := by
    intro X hP hw hK hc i pins s σ H E I hf st hg
    subst hP hw hK
    obtain ⟨⟨old, he⟩, hit, hne, ha1, ha2⟩ := st
    obtain ⟨xs, hq, hx⟩ := hg
    obtain ⟨its, rv, p, hz⟩ := I.tuple hq
    obtain ⟨f0, f1, f2, f3, f4, f5⟩ := hf it (by simp)
    have hl := rv.length
    have D := Draws.tuple (prog := X.prog) (w := X.w) (A := X.A.in1) (by simpa using I.ok.hd hc) it a ha2 its.toArray
    obtain rfl : i = its.toArray.size := by simp; omega
    exact wpAny_pyNext_enum_endD D he ⟨hit, p⟩ fun h' eb => ⟨rfl, I.turned (t' := s.toks) (fun b o hb q => eb b o hb q) f0 f1 f3 f4 f5⟩
  self := fun A i s Q E ⟨⟨_, he⟩, _⟩ h => wpAny_pyIter_enum he h
theorem turn_enumL {P : Program} {w : World} {K : PySem.W.Frag} {elts : List Expr} {kk : Nat} {tpos : Pos} (a e it : Addr) (b : Nat → Bool) :
    Turn P w K (.Tuple elts kk tpos) (ItL K a b) [e, it] e (fun i h => (∃ old, IsEnum h e it ((i : Nat) : Int) old) ∧ h.IsListIter it a i ∧ e ≠ it) where
  mem := by simp
  obj := fun i h st c hc => by
    obtain ⟨⟨old, he⟩, ⟨o, ho, _, hd⟩, _⟩ := st
    rcases List.mem_cons.mp hc with z | z
    · exact z ▸ ⟨_, he, fun v q => nomatch q⟩
    · exact (List.mem_singleton.mp z) ▸ ⟨o, ho, fun v q => by rw [hd] at q; cases q⟩
  keep := fun i h h' ⟨⟨old, he⟩, hi, hne⟩ k => ⟨⟨old, k e (by simp) _ he⟩, hi.at fun o q => k it (by simp) o q, hne⟩
  item := by
    intro X hP hw hK hc i pins s σ H E I hf st hg
    subst hP hw hK
    obtain ⟨⟨old, he⟩, hit, hne⟩ := st
    obtain ⟨xs, x, hq, hx⟩ := hg
    obtain ⟨its, rv, p, hz⟩ := I.list hq
    obtain ⟨u, hu, ru⟩ := rv.get hx
    have hel : e < s.heap.objs.size := Heap.lt_size he
    have hil : it < s.heap.objs.size := by obtain ⟨_, q, _⟩ := hit; exact Heap.lt_size q
    have hil2 : i < its.toArray.size := by simpa using (List.getElem?_eq_some_iff.mp hu).1
    refine wpAny_pyNext_enum_item he hit p.isList (x := u) (by simpa using hu) hne fun h' ho hit' hT hsz hk => ?_
    refine ⟨_, rfl, wpAny_letOwnedTupleGo_enum (s := { s with heap := h', toks := s.toks + 1 }) ho fun h'' he' sb => ?_⟩
    obtain ⟨H', l1, I1, l3⟩ := pair_in (tk := s.toks + 1) (h'' := h'') (x := .int (i : Nat)) I (b i) (fun c ob hc q => (sb.2 c (fun z => hc (by simp [z]))).trans (hk c ob (fun z => hc (by simp [z])) (fun z => hc (by simp [z])) q)) hf ((sb.2 _ (Nat.ne_of_gt hel)).trans hT) ⟨_, rfl⟩ ru
    refine ⟨.ref s.heap.objs.size, H', I1, rfl, ⟨_, x, rfl, I.hok.fresh (Nat.le_refl _), l1, fun ys hy => (I.list_inj hy hq) ▸ hx⟩, ⟨⟨u, ?_⟩, hit'.at fun o q => (sb.2 it (Ne.symm hne)).trans q, hne⟩, fun c hc => ?_⟩
    · rw [show ((i + 1 : Nat) : Int) = (i : Int) + 1 by omega]
      exact he'
    · have lt : c < s.heap.objs.size := by
        rcases List.mem_cons.mp hc with z | z
        · exact z ▸ hel
        · exact (List.mem_singleton.mp z) ▸ hil
      rw [l3 c (Nat.ne_of_lt lt)]
      exact (hf c hc).1
  done := by
    intro X hP hw hK hc i pins s σ H E I hf st hg
    subst hP hw hK
    obtain ⟨⟨old, he⟩, hit, hne⟩ := st
    obtain ⟨xs, hq, hx⟩ := hg
    obtain ⟨its, rv, p, hz⟩ := I.list hq
    obtain ⟨f0, f1, f2, f3, f4, f5⟩ := hf it (by simp)
    have hl := rv.length
    exact wpAny_pyNext_enum_end (I.ok.hd hc) he hit p.isList (by simp; omega) fun h' eb => ⟨rfl, I.turned (t' := s.toks) (fun b o hb q => eb b o hb q) f0 f1 f3 f4 f5⟩
  self := fun A i s Q E ⟨⟨_, he⟩, _⟩ h => wpAny_pyIter_enum he h
theorem pi_enumT {X : Cx} {e : Expr} {ta : TA} {p pos tpos : Pos} {elts : List Expr} {kk : Nat} (hg : Gl X "enumerate") (hm : X.mg "enumerate" = none) (ha : PA X [e] ta) (hs : starEach [e] X.env = [(false, eval e X.env)] := by rfl) :
    PI X (.Tuple elts kk tpos) (.Call (.Name "enumerate" p) [e] [] pos) (fun σ H R => ta σ H fun vs H1 => ∃ a xs b, vs = [.ref a] ∧ ((SqT X.K H1 a xs ∧ R (ItT X.K a b) H1) ∨ (SqL X.K H1 a xs ∧ R (ItL X.K a b) H1))) := by
  refine ⟨fun pins s σ H R I h => Call_ (ld_blt I hg hm boot_enumerate (PyProof.Rows.callWith_type1 (thn (ha.run pos pins s σ H _ I h) fun us s1 ⟨vs, H1, I1, r1, a, xs, bb, ex, hq⟩ => ?_) hs rfl))⟩
  subst ex
  rw [Vals.ref1 r1]
  rcases hq with ⟨hq, q⟩ | ⟨hq, q⟩
  · obtain ⟨its, rv, p', hz⟩ := I1.tuple hq
    refine call_enum1 (begins_tuple a its.toArray) p' fun h' he hit hk => wpAny_pyIter_enum he ?_
    have hlt : a < s1.heap.objs.size := by obtain ⟨o, ho, _⟩ := p'; exact Heap.lt_size ho
    refine ⟨s1.heap.objs.size + 1, [s1.heap.objs.size + 1, s1.heap.objs.size], _, _, H1, rfl, (I1.kept (t' := s1.toks) hk : Inv X pins σ H1 { s1 with heap := h' }), turn_enumT a (s1.heap.objs.size + 1) s1.heap.objs.size bb, ⟨⟨.none, he⟩, ⟨_, hit, rfl, rfl⟩, Nat.succ_ne_self _, Nat.ne_of_lt (Nat.lt_succ_of_lt hlt), Nat.ne_of_lt hlt⟩, fun c hc => ?_, q⟩
    have hle : s1.heap.objs.size ≤ c := by
      rcases List.mem_cons.mp hc with z | z
      · rw [z]; exact Nat.le_succ _
      · rw [List.mem_singleton.mp z]; exact Nat.le_refl _
    exact I1.fpOk hle (I1.hok.fresh hle)
  · obtain ⟨its, rv, p', hz⟩ := I1.list hq
    refine call_enumerate_list p'.isList fun h' he hit hsz hk => wpAny_pyIter_enum he ?_
    refine ⟨s1.heap.objs.size + 1, [s1.heap.objs.size + 1, s1.heap.objs.size], _, _, H1, rfl, (I1.kept (t' := s1.toks) hk : Inv X pins σ H1 { s1 with heap := h' }), turn_enumL a (s1.heap.objs.size + 1) s1.heap.objs.size bb, ⟨⟨.none, he⟩, hit, Nat.succ_ne_self _⟩, fun c hc => ?_, q⟩
    have hle : s1.heap.objs.size ≤ c := by
      rcases List.mem_cons.mp hc with z | z
      · rw [z]; exact Nat.le_succ _
      · rw [List.mem_singleton.mp z]; exact Nat.le_refl _
    exact I1.fpOk hle (I1.hok.fresh hle)
/-- 0, 1, .. beside the items -/
def enumD (xs : List PyData) : List PyData := xs.zipIdx.map fun p => .tuple [.int (p.2 : Nat), p.1]
theorem enumD_get {xs : List PyData} {i : Nat} {d : PyData} (h : (enumD xs)[i]? = some d) : ∃ x, xs[i]? = some x ∧ d = .tuple [.int (i : Nat), x] := by
  unfold enumD at h
  rw [List.getElem?_map, List.getElem?_zipIdx] at h
  cases hx : xs[i]? with
  | none => rw [hx] at h; cases h
  | some x =>
    rw [hx] at h
    simp at h
    exact ⟨x, rfl, h.symm⟩
theorem enumD_length (xs : List PyData) : (enumD xs).length = xs.length := by unfold enumD; simp
def itEnT (f : FE) : FIt := fun env μ => (f env μ).bind fun w μ1 => match w with
  | .d (.tuple xs) => .ok (enumD xs) μ1
  | _ => .no
/-- the new pair as data -/
theorem pair_D {K : PySem.W.Frag} {S : Sta} {μ : Sto} (hS : HS K S μ) {T : Addr} {H' : Hp} {i : Nat} {u : V} {x : D} (hT : S.H T = none) (hl : laidP (isIn x) S.H T (.int (i : Nat)) u H') (ru : Rp K S.F u x) : ∃ S' : Sta, S'.H = H' ∧ Ext S S' ∧ HS K S' μ ∧ Rp K S'.F (.ref T) (.tuple [.int (i : Nat), x]) := by
  have ei : inN [.int (i : Nat), x] = isIn x := by simp [inN, isIn]
  have ra : RpA K S.F [.int (i : Nat), u] [.int (i : Nat), x] := .cons (.int _) (.cons ru .nil)
  unfold laidP at hl
  split at hl
  · rename_i h
    subst hl
    exact ⟨S.lay T (.tup [.int (i : Nat), u]), rfl, Ext.lay hS.sub hT, hS.lay _ hT, rp_tupI (ei.trans h) (hS.free hT) ra⟩
  · rename_i h
    obtain ⟨o, ho, rfl⟩ := hl
    exact ⟨S.lay T (.frz o (.tup [.int (i : Nat), u])), rfl, Ext.lay hS.sub hT, hS.lay _ hT, rp_tupN (ei.trans (by simpa using h)) (hS.free hT) ho ra⟩
def atB (xs : List D) (i : Nat) : Bool := match xs[i]? with
  | some x => isIn x
  | none => true
theorem atB_eq {xs : List D} {i : Nat} {x : D} (h : xs[i]? = some x) : atB xs i = isIn x := by unfold atB; rw [h]
theorem ci_enumT {X : Cx} {W : WX} {e : Expr} {f : FE} {p pos tpos : Pos} {elts : List Expr} {kk : Nat} (hg : Gl X "enumerate") (hm : X.mg "enumerate" = none) (h : CEx X W e f) (hs : starEach [e] X.env = [(false, eval e X.env)] := by rfl) : CI X W (.Tuple elts kk tpos) (.Call (.Name "enumerate" p) [e] [] pos) (itEnT f) := by
  obtain ⟨t, pe, q⟩ := h
  refine ⟨_, pi_enumT hg hm (pa_cons pe pa_nil (by rw [hs]; rfl)) hs, fun env σ S μ he hS R hp => ?_⟩
  unfold itEnT at hp
  rw [Rs.post_bind] at hp
  refine q env σ S μ he hS _ (hp.mono (fun w μ1 h1 v S1 e1 hS1 r1 => ?_) fun _ _ z => z)
  split at h1
  · rename_i xs
    obtain ⟨a, vs, rfl, ha, ra⟩ := rp_tup_inv r1
    refine ⟨a, vs, atB xs, rfl, .inl ⟨.inl (sb_rd hS1.sub ha), h1 _ S1 e1 hS1 fun S2 e2 μ2 hS2 => ?_⟩⟩
    have hq : SqT X.K S2.H a vs := .inl (sb_rd hS2.sub (sb_rd e2.sb ha))
    refine ⟨fun i item hi => ?_, ⟨vs, hq, by rw [enumD_length, ra.len]⟩⟩
    obtain ⟨x, hx, rfl⟩ := enumD_get hi
    obtain ⟨u, hu, ru⟩ := ra.get hx
    refine ⟨⟨vs, u, hq, hu⟩, fun y H' hy => ?_⟩
    obtain ⟨T, z, rfl, hT, hl, hz⟩ := hy
    have ez := hz vs hq
    rw [hu] at ez
    cases ez
    rw [atB_eq hx] at hl
    exact pair_D hS2 hT hl (Rp.mono e2.sb _ _ ru)
  · exact h1.elim
/-- enumerate over a list -/
def itEnL (f : FE) : FIt := fun env μ => (f env μ).bind fun w μ1 => match w with
  | .d (.list xs) => .ok (enumD xs) μ1
  | _ => .no
theorem ci_enumL {X : Cx} {W : WX} {e : Expr} {f : FE} {p pos tpos : Pos} {elts : List Expr} {kk : Nat} (hg : Gl X "enumerate") (hm : X.mg "enumerate" = none) (h : CEx X W e f) (hs : starEach [e] X.env = [(false, eval e X.env)] := by rfl) : CI X W (.Tuple elts kk tpos) (.Call (.Name "enumerate" p) [e] [] pos) (itEnL f) := by
  obtain ⟨t, pe, q⟩ := h
  refine ⟨_, pi_enumT hg hm (pa_cons pe pa_nil (by rw [hs]; rfl)) hs, fun env σ S μ he hS R hp => ?_⟩
  unfold itEnL at hp
  rw [Rs.post_bind] at hp
  refine q env σ S μ he hS _ (hp.mono (fun w μ1 h1 v S1 e1 hS1 r1 => ?_) fun _ _ z => z)
  split at h1
  · rename_i xs
    obtain ⟨a, vs, rfl, ha, ra⟩ := rp_lst_inv r1
    refine ⟨a, vs, atB xs, rfl, .inr ⟨.inl (.inl (hS1.sub _ _ ha)), h1 _ S1 e1 hS1 fun S2 e2 μ2 hS2 => ?_⟩⟩
    have hq : SqL X.K S2.H a vs := .inl (.inl (hS2.sub _ _ (e2.sb _ _ ha)))
    refine ⟨fun i item hi => ?_, ⟨vs, hq, by rw [enumD_length, ra.len]⟩⟩
    obtain ⟨x, hx, rfl⟩ := enumD_get hi
    obtain ⟨u, hu, ru⟩ := ra.get hx
    refine ⟨⟨vs, u, hq, hu⟩, fun y H' hy => ?_⟩
    obtain ⟨T, z, rfl, hT, hl, hz⟩ := hy
    have ez := hz vs hq
    rw [hu] at ez
    cases ez
    rw [atB_eq hx] at hl
    exact pair_D hS2 hT hl (Rp.mono e2.sb _ _ ru)
  · exact h1.elim
end Ped

/-! PedF: a list of the store + a list; data against a list of the store -/
namespace Ped
open PySem PySem.Spec PyProof.Rows L2
/-- the data that the list of number n holds -/
def lstD (μ : Sto) (n : Nat) : Option (List PyData) := match lstAt μ n with
  | some ws => dats ws
  | none => none
theorem lstD_ok {K : PySem.W.Frag} {S : Sta} {μ : Sto} {n : Nat} {ds : List PyData} {v : V} (hS : HS K S μ) (h : lstD μ n = some ds) (r : RW K S v (.l n)) : ∃ a vs, v = .ref a ∧ S.H a = some (.lst vs) ∧ RpA K S.F vs ds := by
  unfold lstD at h
  split at h
  · rename_i ws hm
    obtain ⟨a, hL, rfl⟩ := r
    obtain ⟨vs, q1, q2⟩ := hS.ob n a _ hL (lstAt_some hm)
    exact ⟨a, vs, rfl, q1, rws_dats q2 h⟩
  · cases h
section
variable {X : Cx} {W : WX} {a b : Expr} {f g : FE} {pos : Pos}
def addLW (x y : Wv) (μ : Sto) : Rs Wv := match x, y with
  | .l n, .d (.list ys) => (match lstD μ n with
    | some ds => if ds.length + ys.length ≤ LIM then .ok (.d (.list (ds ++ ys))) μ else .no
    | none => .no)
  | x, y => addW x y μ
theorem addLW_nx : NoEx addLW := fun x y μ e ν q => by
  unfold addLW at q
  split at q
  · split at q
    · split at q <;> cases q
    · cases q
  · exact addW_nx _ _ _ _ _ q
theorem c_addL (ha : CEx X W a f) (hb : CEx X W b g) : CEx X W (.BinOp a .Add b pos) (fOp addLW f g) := by
  refine c_op (OpR.or op_add (OpR.or op_add_str (OpR.or op_cat2 op_cat))) (fun x y v u S μ hS hx hy Q hp => ?_) addLW_nx ha hb
  unfold addLW at hp
  split at hp
  · rename_i n ys
    split at hp
    · rename_i ds hd
      split at hp
      · rename_i hl
        obtain ⟨p, vs, rfl, h1, r1⟩ := lstD_ok hS hd hx
        obtain ⟨q, us, rfl, h2, r2⟩ := rp_lst_inv hy
        exact .inr (.inr (.inr ⟨p, q, vs, us, rfl, rfl, h1, hS.sub _ _ h2, by rw [r1.len, r2.len]; exact lim_line hl, new_lst hS (r1.append r2) hp⟩))
      · exact hp.elim
    · exact hp.elim
  · exact ok_add _ _ v u S μ hS hx hy Q hp
def neLW (x y : Wv) (μ : Sto) : Rs Wv := match x, y with
  | .d d, .l n => (match lstD μ n with
    | some ds => if SeqAt.shaped d = true ∧ SeqAt.shaped (.list ds) = true then .ok (.d (.bool (!PyData.eqv d (.list ds)))) μ else .no
    | none => .no)
  | x, y => eqW true x y μ
theorem neLW_nx : NoEx neLW := fun x y μ e ν q => by
  unfold neLW at q
  split at q
  · split at q
    · split at q <;> cases q
    · cases q
  · exact eqW_nx true _ _ _ _ _ q
theorem ok_neL : OkR X (fun x y H Q => rNe x y H Q ∨ rNeD X.K x y H Q) neLW := fun x y v u S μ hS hx hy Q hp => by
  unfold neLW at hp
  split at hp
  · rename_i d n
    split at hp
    · rename_i ds hd
      split at hp
      · rename_i hh
        obtain ⟨p, vs, rfl, h1, r1⟩ := lstD_ok hS hd hy
        exact .inr ⟨d, .list ds, Rp.dp hS.sub _ _ hx, .lst (.inl (.inl h1)) (RpA.dp hS.sub _ _ r1), hh.1, hh.2, hp _ S (Ext.refl S) hS (.bl _)⟩
      · exact hp.elim
    · exact hp.elim
  · exact ok_ne _ _ v u S μ hS hx hy Q hp
theorem c_neL (hu : X.A.units + 64 < cLine) (ha : CEx X W a f) (hb : CEx X W b g) : CEx X W (.Compare a [.NotEq] [b] pos) (fOp neLW f g) := c_cmp (OpR.or op_ne (op_neD hu)) ok_neL neLW_nx ha hb (nomark _)
theorem ct_neL (hu : X.A.units + 64 < cLine) (ha : CEx X W a f) (hb : CEx X W b g) : CT X W (.Compare a [.NotEq] [b] pos) (fB (fOp neLW f g)) := ct_cmp (OpR.or op_ne (op_neD hu)) ok_neL neLW_nx ha hb (nomark _)
end
end Ped

/-! PedDd: {k: v, ..} -/
namespace Ped
open PySem PySem.Spec PyProof.Rows L2
section
variable {X : Cx} {W : WX}
abbrev RPs (K : PySem.W.Frag) (S : Sta) : List (V × V) → List (Wv × Wv) → Prop := Paired fun p q => RW K S p.1 q.1 ∧ RW K S p.2 q.2
theorem RPs.mono {K : PySem.W.Frag} {S S' : Sta} (e : Ext S S') : ∀ {vs : List (V × V)} {ws : List (Wv × Wv)}, RPs K S vs ws → RPs K S' vs ws
  | _, _, .nil => .nil
  | _, _, .cons r t => .cons ⟨r.1.mono e, r.2.mono e⟩ (RPs.mono e t)
abbrev FPs := Env → Sto → Rs (List (Wv × Wv))
def CPs (X : Cx) (W : WX) (pos : Pos) (keys : List (Option Expr)) (values : List Expr) (f : FPs) : Prop := ∃ trs, PPs X pos keys values trs ∧ ∀ env σ S μ, EnvR X.K X.N.length S env σ → HS X.K S μ → ∀ Q : List (V × V) → Hp → Prop,
  (f env μ).Post (fun ps μ' => ∀ qs S', Ext S S' → HS X.K S' μ' → RPs X.K S' qs ps → Q qs S'.H) (PEx X.K W σ S) → tPairs trs σ S.H Q
def fPs0 : FPs := fun _ μ => .ok [] μ
def fPsC (f g : FE) (k : FPs) : FPs := fun env μ => (f env μ).bind fun x μ1 => (g env μ1).bind fun y μ2 => (k env μ2).bind fun ps μ3 => .ok ((x, y) :: ps) μ3
theorem cps_nil {pos : Pos} : CPs X W pos [] [] fPs0 := ⟨_, pps_nil, fun env σ S μ hE hS Q h => h [] S (Ext.refl S) hS .nil⟩
theorem cps_cons {pos : Pos} {k v : Expr} {ks : List (Option Expr)} {vs : List Expr} {f g : FE} {h : FPs} (hk : CEx X W k f) (hv : CEx X W v g) (hr : CPs X W pos ks vs h) : CPs X W pos (some k :: ks) (v :: vs) (fPsC f g h) := by
  obtain ⟨tk, pk, qk⟩ := hk
  obtain ⟨tv, pv, qv⟩ := hv
  obtain ⟨tr, pr, qr⟩ := hr
  refine ⟨_, pps_cons pk pv pr, fun env σ S μ hE hS Q hp => ?_⟩
  unfold fPsC at hp
  rw [Rs.post_bind] at hp
  refine qk env σ S μ hE hS _ (hp.mono (fun x μ1 h1 v S1 e1 hS1 r1 => ?_) fun _ _ z => z)
  rw [Rs.post_bind] at h1
  refine qv env σ S1 μ1 (hE.mono e1) hS1 _ (h1.mono (fun y μ2 h2 u S2 e2 hS2 r2 => ?_) fun _ _ z => z.mono e1)
  rw [Rs.post_bind] at h2
  refine qr env σ S2 μ2 (hE.mono (e1.trans e2)) hS2 _ (h2.mono (fun ps μ3 h3 qs S3 e3 hS3 r3 => ?_) fun _ _ z => z.mono (e1.trans e2))
  exact h3 ((v, u) :: qs) S3 (e1.trans (e2.trans e3)) hS3 (.cons ⟨r1.mono (e2.trans e3), r2.mono e3⟩ r3)
def keyPs : List (Wv × Wv) → Option (List (Key × Wv))
  | [] => some []
  | (.d d, w) :: r => match keyD d, keyPs r with
    | some k, some kws => some ((k, w) :: kws)
    | _, _ => none
  | _ :: _ => none
def mergeW (kvs more : List (Key × Wv)) : List (Key × Wv) := more.foldl (fun acc kv => putW acc kv.1 kv.2) kvs
theorem rkv_merge {K : PySem.W.Frag} {S : Sta} : ∀ {more : List (Key × V)} {mw : List (Key × Wv)} {kvs : List (Key × V)} {kws : List (Key × Wv)}, RKv K S more mw → RKv K S kvs kws → RKv K S (mergeK kvs more) (mergeW kws mw)
  | _, _, _, _, .nil, h => h
  | (k1, v) :: vs, (k2, w) :: ws, kvs, kws, .cons r t, h => by
    obtain ⟨e, r⟩ := r
    have e : k1 = k2 := e
    subst e
    show RKv K S (mergeK (putK kvs k1 v) vs) (mergeW (putW kws k1 w) ws)
    exact rkv_merge t (rkv_put r h)
theorem keyPs_ok {K : PySem.W.Frag} {S : Sta} : ∀ {qs : List (V × V)} {ps : List (Wv × Wv)} {kws : List (Key × Wv)}, RPs K S qs ps → keyPs ps = some kws → ∃ kvs : List (Key × V), qs = kvs.map (fun kv => (kV kv.1, kv.2)) ∧ RKv K S kvs kws
  | _, _, kws, .nil, h => by
    simp [keyPs] at h
    subst h
    exact ⟨[], rfl, .nil⟩
  | (v, u) :: qs, (.d d, w) :: ps, kws, .cons r t, h => by
    unfold keyPs at h
    split at h
    · rename_i k kws' h1 h2
      cases h
      obtain ⟨kvs, e, rk⟩ := keyPs_ok t h2
      have ev : v = kV k := keyD_rp h1 r.1
      exact ⟨(k, u) :: kvs, by rw [e, ev]; rfl, .cons ⟨rfl, r.2⟩ rk⟩
    · cases h
  | _, (.l n, w) :: ps, kws, .cons r t, h => by simp [keyPs] at h
  | _, (.s n, w) :: ps, kws, .cons r t, h => by simp [keyPs] at h
  | _, (.e n _, w) :: ps, kws, .cons r t, h => by simp [keyPs] at h
def fDisp (f : FPs) : FE := fun env μ => (f env (μ ++ [.dk []])).bind fun ps μ1 => match keyPs ps, μ1[μ.length]? with
  | some kws, some (.dk []) => if kws.length ≤ 15 then .ok (.l μ.length) (μ1.set μ.length (.dk (mergeW [] kws))) else .no
  | _, _ => .no
theorem c_disp {pos : Pos} {keys : List (Option Expr)} {values : List Expr} {f : FPs} (h : CPs X W pos keys values f) (hall : keys.all (·.isSome) = true) (hl : keys.length = values.length) (h0 : keys ≠ []) (h15 : keys.length ≤ 15) : CEx X W (.Dict keys values pos) (fDisp f) := by
  obtain ⟨trs, p, q⟩ := h
  refine ⟨_, pe_disp p hall hl h0 h15, fun env σ S μ hE hS Q hp a ha => ?_⟩
  unfold fDisp at hp
  rw [Rs.post_bind] at hp
  have ex := Ext.push (S := S) (o := .dK []) ha
  have hS1 : HS X.K ⟨upd S.H a (.dK []), S.F, S.L ++ [a]⟩ (μ ++ [.dk []]) := hS.push ha ⟨[], upd_same, .nil⟩
  have hat : (⟨upd S.H a (.dK []), S.F, S.L ++ [a]⟩ : Sta).L[μ.length]? = some a := at_push hS.len
  refine q env σ _ _ (hE.mono ex) hS1 _ (hp.mono (fun ps μ1 h1 qs S2 e2 hS2 r2 => ?_) fun _ _ z => z.mono ex)
  split at h1
  · rename_i kws hk hm
    split at h1
    · rename_i hlen
      obtain ⟨kvs, rfl, rk⟩ := keyPs_ok r2 hk
      have hL := e2.pf _ _ hat
      obtain ⟨vs, g1, g2⟩ := hS2.ob _ a _ hL hm
      cases g2
      have ex3 := Ext.put (o := .dK (mergeK [] kvs)) hL g1
      refine ⟨g1, kvs, rfl, by rw [rkv_len rk]; exact hlen, ?_⟩
      exact h1 (.ref a) _ (ex.trans (e2.trans ex3)) (hS2.put hL hm (by intro z; cases z) ⟨_, upd_same, (rkv_merge rk .nil).mono ex3⟩) ⟨a, hL, rfl⟩
    · exact h1.elim
  · exact h1.elim
end
end Ped

/-! PedLk: dicts of the store that are walked -/
namespace Ped
open PySem PySem.Spec PyProof.Rows L2
section
variable {X : Cx} {W : WX}
theorem upd_twice {H : Hp} {a : Addr} {o u : HO} : upd (upd H a o) a u = upd H a u := by
  funext b
  by_cases h : b = a
  · subst h; rw [upd_same, upd_same]
  · rw [upd_ne h, upd_ne h, upd_ne h]
/-- a dict of the store is locked -/
theorem lock_ok {K : PySem.W.Frag} {S : Sta} {μ : Sto} (hS : HS K S μ) {n : Nat} {a : Addr} {kvs : List (Key × Wv)} {vs : List (Key × V)} (hL : S.L[n]? = some a) (hm : μ[n]? = some (.dk kvs)) (h1 : S.H a = some (.dK vs)) (h2 : RKv K S vs kvs) (od : Obj) :
    Ext S ⟨upd S.H a (.frz od (.dK vs)), S.F, S.L⟩ ∧ HS K ⟨upd S.H a (.frz od (.dK vs)), S.F, S.L⟩ (μ.set n (.lk kvs)) := by
  have ex := Ext.put (o := .frz od (.dK vs)) hL h1
  exact ⟨ex, hS.put hL hm (by intro z; cases z) ⟨od, vs, upd_same, h2.mono ex⟩⟩
/-- .. and free again -/
theorem unlock_ok {K : PySem.W.Frag} {S S' : Sta} {μ2 : Sto} {n : Nat} {a : Addr} {od : Obj} {kvs' : List (Key × Wv)} {vs : List (Key × V)} (hL : S.L[n]? = some a) (h1 : S.H a = some (.dK vs))
    (e : Ext ⟨upd S.H a (.frz od (.dK vs)), S.F, S.L⟩ S') (hS' : HS K S' μ2) (hm : μ2[n]? = some (.lk kvs')) :
    S'.H a = some (.frz od (.dK vs)) ∧ Ext S ⟨upd S'.H a (.dK vs), S'.F, S'.L⟩ ∧ HS K ⟨upd S'.H a (.dK vs), S'.F, S'.L⟩ (μ2.set n (.dk kvs')) ∧ Grow S' ⟨upd S'.H a (.dK vs), S'.F, S'.L⟩ := by
  have hf := e.fz a od (.dK vs) upd_same
  have hL' := e.pf n a hL
  obtain ⟨od', vs', q1, q2⟩ := hS'.ob n a _ hL' hm
  rw [hf] at q1
  cases q1
  have gr : Grow S' ⟨upd S'.H a (.dK vs), S'.F, S'.L⟩ := ⟨fun _ _ z => z, fun _ _ z => z⟩
  refine ⟨hf, ⟨e.sb, e.pf, fun b u z hb => ?_, fun b u z => ?_, fun b z => ?_, fun b z => ?_, fun b o u z => ?_⟩, hS'.put hL' hm (by intro z; cases z) ⟨vs, upd_same, q2.gr gr⟩, gr⟩
  · have hba : b ≠ a := fun q => hb (by rw [q]; exact List.mem_of_getElem? hL)
    exact (upd_ne hba).trans (e.fr b u ((upd_ne hba).trans z) hb)
  · by_cases hba : b = a
    · subst hba; exact ⟨_, upd_same⟩
    · obtain ⟨o', q⟩ := e.th b u ((upd_ne hba).trans z)
      exact ⟨o', (upd_ne hba).trans q⟩
  · rcases e.nl b z with q | q
    · exact .inl q
    · by_cases hba : b = a
      · subst hba
        exact .inl (List.mem_of_getElem? hL)
      · exact .inr ((upd_ne hba).symm.trans q)
  · rcases e.nf b z with q | q | q
    · exact .inl q
    · by_cases hba : b = a
      · subst hba
        exact .inr (.inr (List.mem_of_getElem? hL))
      · exact .inr (.inl ((upd_ne hba).symm.trans q))
    · exact .inr (.inr q)
  · have hba : b ≠ a := fun q => by rw [q, h1] at z; cases z
    exact (upd_ne hba).trans (e.fz b o u ((upd_ne hba).trans z))
theorem RW.gr' {K : PySem.W.Frag} {S S' : Sta} (e : Grow S S') {v : V} {w : Wv} (h : RW K S v w) : RW K S' v w := h.gr e
theorem EnvR.gr {K : PySem.W.Frag} {n : Nat} {S S' : Sta} (e : Grow S S') {env : Env} {σ : L2.St} (h : EnvR K n S env σ) : EnvR K n S' env σ := ⟨h.len, h.lenS, fun i w hw => by
  obtain ⟨v, h1, h2⟩ := h.val i w hw
  exact ⟨v, h1, h2.gr e⟩⟩
def unlk {α : Type} (n : Nat) (a : α) (μ2 : Sto) : Rs α := match μ2[n]? with
  | some (.lk kvs) => .ok a (μ2.set n (.dk kvs))
  | _ => .no
/-- the statement runs while the dict at the i-th name is locked -/
def lockS (i : Nat) (f : FS) : FS := fun env μ => match env[i]? with
  | some (some (.l n)) => (match μ[n]? with
    | some (.dk kvs) => (noex (f env (μ.set n (.lk kvs)))).bind (unlk n)
    | _ => .no)
  | _ => .no
def lockE (i : Nat) (f : FE) : FE := fun env μ => match env[i]? with
  | some (some (.l n)) => (match μ[n]? with
    | some (.dk kvs) => (noex (f env (μ.set n (.lk kvs)))).bind (unlk n)
    | _ => .no)
  | _ => .no
theorem unlk_post {α : Type} {n : Nat} {a : α} {μ2 : Sto} {P : α → Sto → Prop} {E : Exn → Sto → Prop} (h : (unlk n a μ2).Post P E) : ∃ kvs, μ2[n]? = some (.lk kvs) ∧ P a (μ2.set n (.dk kvs)) := by
  unfold unlk at h
  split at h
  · exact ⟨_, by assumption, h⟩
  · exact h.elim
theorem cs_lock (i : Nat) {st : Stmt} {f : FS} (h : CS X W st f) : CS X W st (lockS i f) := by
  obtain ⟨t, p, q⟩ := h
  refine ⟨_, ps_lock p, fun env σ S μ hE hS D hp => ?_⟩
  unfold lockS at hp
  split at hp
  · rename_i n hi
    split at hp
    · rename_i kvs hm
      obtain ⟨v, _, a, hL, rfl⟩ := hE.val i _ hi
      obtain ⟨vs, h1, h2⟩ := hS.ob n a _ hL hm
      refine ⟨a, _, h1, trivial, fun od => ?_⟩
      obtain ⟨ex, hS'⟩ := lock_ok hS hL hm h1 h2 od
      rw [Rs.post_bind] at hp
      refine q env σ _ _ (hE.mono ex) hS' _ (noex_post (hp.mono (fun fl μ2 z => ?_) fun _ _ z => z))
      obtain ⟨kvs', hm2, z⟩ := unlk_post z
      cases fl with
      | nx env2 =>
        intro σ2 S2 e2 hS2 he2
        obtain ⟨g1, g2, g3, g4⟩ := unlock_ok hL h1 e2 hS2 hm2
        exact ⟨g1, z σ2 _ g2 g3 (he2.gr g4)⟩
      | rt w =>
        intro v2 S2 e2 hS2 r2
        obtain ⟨g1, g2, g3, g4⟩ := unlock_ok hL h1 e2 hS2 hm2
        exact ⟨g1, z v2 _ g2 g3 (r2.gr g4)⟩
      | bk env2 =>
        intro σ2 S2 e2 hS2 he2
        obtain ⟨g1, g2, g3, g4⟩ := unlock_ok hL h1 e2 hS2 hm2
        exact ⟨g1, z σ2 _ g2 g3 (he2.gr g4)⟩
      | ct env2 =>
        intro σ2 S2 e2 hS2 he2
        obtain ⟨g1, g2, g3, g4⟩ := unlock_ok hL h1 e2 hS2 hm2
        exact ⟨g1, z σ2 _ g2 g3 (he2.gr g4)⟩
    · exact hp.elim
  · exact hp.elim
theorem c_lock (i : Nat) {e : Expr} {f : FE} (h : CEx X W e f) : CEx X W e (lockE i f) := by
  obtain ⟨t, p, q⟩ := h
  refine ⟨_, pe_lock p, fun env σ S μ hE hS Q hp => ?_⟩
  unfold lockE at hp
  split at hp
  · rename_i n hi
    split at hp
    · rename_i kvs hm
      obtain ⟨v, _, a, hL, rfl⟩ := hE.val i _ hi
      obtain ⟨vs, h1, h2⟩ := hS.ob n a _ hL hm
      refine ⟨a, _, h1, trivial, fun od => ?_⟩
      obtain ⟨ex, hS'⟩ := lock_ok hS hL hm h1 h2 od
      rw [Rs.post_bind] at hp
      refine q env σ _ _ (hE.mono ex) hS' _ (noex_post (hp.mono (fun w μ2 z => ?_) fun _ _ z => z))
      obtain ⟨kvs', hm2, z⟩ := unlk_post z
      intro v2 S2 e2 hS2 r2
      obtain ⟨g1, g2, g3, g4⟩ := unlock_ok hL h1 e2 hS2 hm2
      exact ⟨g1, z v2 _ g2 g3 (r2.gr g4)⟩
    · exact hp.elim
  · exact hp.elim
/-- a key as data -/
def keyDat : Key → PyData
  | .inl i => .int i
  | .inr s => .str s
theorem rp_key {K : PySem.W.Frag} {F : Hp} (k : Key) : Rp K F (kV k) (keyDat k) := by
  cases k with
  | inl i => exact .int i
  | inr s => exact .str s
/-- the keys of a locked dict -/
def itK (f : FE) : FIt := fun env μ => (f env μ).bind fun w μ1 => match w with
  | .l n => (match μ1[n]? with
    | some (.lk kvs) => .ok (kvs.map fun p => keyDat p.1) μ1
    | _ => .no)
  | _ => .no
theorem rkv_get {K : PySem.W.Frag} {S : Sta} : ∀ {vs : List (Key × V)} {ws : List (Key × Wv)} {i : Nat} {p : Key × Wv}, RKv K S vs ws → ws[i]? = some p → ∃ v, vs[i]? = some (p.1, v)
  | _, _, _, _, .nil, e => by simp at e
  | (k, v) :: _, _ :: _, 0, _, .cons r _, e => by simp at e; subst e; exact ⟨v, by simp; exact r.1⟩
  | _, _, i + 1, p, .cons _ t, e => by
    obtain ⟨v, h⟩ := rkv_get (i := i) t (by simpa using e)
    exact ⟨v, by simpa using h⟩
theorem ci_keys {tg l : Expr} {f : FE} (h : CEx X W l f) : CI X W tg l (itK f) := by
  obtain ⟨t, p, q⟩ := h
  refine ⟨_, pi_keys p, fun env σ S μ he hS R h => ?_⟩
  unfold itK at h
  rw [Rs.post_bind] at h
  refine q env σ S μ he hS _ (h.mono (fun w μ1 h1 v S1 e1 hS1 r1 => ?_) fun _ _ z => z)
  split at h1
  · rename_i n
    split at h1
    · rename_i kvs hm
      obtain ⟨a, hL, rfl⟩ := r1
      obtain ⟨od, vs, g1, g2⟩ := hS1.ob n a _ hL hm
      refine ⟨a, od, rfl, .inl ⟨vs, g1, h1 _ S1 e1 hS1 fun S2 e2 μ2 hS2 => ?_⟩⟩
      have hf := e2.fz a od _ g1
      refine ⟨fun j item hj => ?_, ⟨hf, by rw [List.length_map, rkv_len g2]; exact Nat.le_refl _⟩⟩
      rw [List.getElem?_map] at hj
      cases hk : kvs[j]? with
      | none => rw [hk] at hj; cases hj
      | some p =>
        rw [hk] at hj
        cases hj
        obtain ⟨v, hv⟩ := rkv_get g2 hk
        have hlt : j < vs.length := (List.getElem?_eq_some_iff.mp hv).1
        refine ⟨⟨hf, hlt⟩, fun y H' hy => ?_⟩
        obtain ⟨rfl, k, u, hk', rfl⟩ := hy
        rw [hv] at hk'
        cases hk'
        exact ⟨S2, rfl, Ext.refl S2, hS2, rp_key _⟩
    · exact h1.elim
  · exact h1.elim
end
end Ped

/-! PedSo: sorted(xs), min(xs), max(xs) of data that can be compared -/
namespace Ped
open PySem PySem.Spec PyProof.Rows L2
theorem each_vals : ∀ {ys : List V} {its : List Value} {ds : List PyData}, Vals ys its → ds.length = ys.length → PySem.W.EachIs (fun v (b : V × PyData) => RelV b.1 v) its (ys.zip ds)
  | _, _, ds, .nil, h => by
    cases ds with
    | nil => exact .nil
    | cons => simp at h
  | _ :: _, _ :: _, ds, .cons r t, h => by
    cases ds with
    | nil => simp at h
    | cons d ds => exact .cons r (each_vals t (by simpa using h))
theorem vals_each : ∀ {out : List Value} {bs : List (V × PyData)}, PySem.W.EachIs (fun v (b : V × PyData) => RelV b.1 v) out bs → Vals (bs.map (·.1)) out
  | _, _, .nil => .nil
  | _, _, .cons r t => .cons r (vals_each t)
theorem zip_snd : ∀ {ys : List V} {ds : List PyData}, ds.length = ys.length → (ys.zip ds).map Prod.snd = ds
  | [], [], _ => rfl
  | _ :: _, _ :: _, h => by
    simp at h
    simp [zip_snd h]
theorem zip_fst : ∀ {ys : List V} {ds : List PyData}, ds.length = ys.length → (ys.zip ds).map Prod.fst = ys
  | [], [], _ => rfl
  | _ :: _, _ :: _, h => by
    simp at h
    simp [zip_fst h]
section
variable {X : Cx}
def rSortedG (K : PySem.W.Frag) : List V → Hp → VK → Prop := fun vs H Q => ∃ (a : Addr) (ys : List V) (ds : List PyData), vs = [V.ref a] ∧ SqL K H a ys ∧ DpAll K H ys ds ∧ ds.length = ys.length ∧ PySem.W.AllAlike ds ∧ PySem.W.Sortable ds ∧ (∀ d ∈ ds, d.depth ≤ 60) ∧
  ∀ p, H p = none → Q (.ref p) (upd H p (.lst (((ys.zip ds).mergeSort (PySem.W.dataLe false Prod.snd)).map (·.1))))
theorem cr_sortedG (hu : X.A.units + 65 < cLine) : CallR X (.builtin "sorted") (rSortedG X.K) := by
  intro pins s σ H vs us Q I r h
  obtain ⟨a, ys, ds, rfl, hs, hd, hl2, ha, hk, hdp, q⟩ := h
  obtain ⟨its, rv, hl, hz⟩ := I.list hs
  rw [Vals.ref1 r]
  obtain ⟨as, h4⟩ := Dp.readsAll I ds ys its hd rv
  have hz' : (ys.zip ds).length ≤ sizeLine := by rw [List.length_zip, hl2, Nat.min_self]; exact hz
  have e2 : (ys.zip ds).map Prod.snd = ds := zip_snd hl2
  refine PySem.W.sorted_data (R := fun v (b : V × PyData) => RelV b.1 v) (enc := Prod.snd) (bs := ys.zip ds) hl.isList (each_vals rv hl2) (PySem.W.readsAll_each Prod.snd (by rw [e2]; exact h4)) (by rw [e2]; exact ha) (by rw [e2]; exact hk) hz' (fun b hb => ?_) fun out ho he => ?_
  · have : b.2 ∈ ds := by rw [← e2]; exact List.mem_map_of_mem hb
    have := hdp _ this
    omega
  · obtain ⟨ep, he'⟩ := PyProof.Rows.sortedAll_at s.heap its out.toArray
    refine ⟨.ref _, upd H (s.heap.objs.size + 1) (.lst (((ys.zip ds).mergeSort (PySem.W.dataLe false Prod.snd)).map (·.1))), I.laid (t' := s.toks) (fun _ _ => PyProof.Rows.sortedAll_old) (Nat.le_succ _) ⟨?_, out, ep, vals_each he, he'⟩, rfl, q _ (I.hok.fresh (Nat.le_succ _))⟩
    rw [List.length_map, List.length_mergeSort]
    exact hz'
def rBestG (K : PySem.W.Frag) (best : PyData → List PyData → PyData) : List V → Hp → VK → Prop := fun vs H Q => ∃ (a : Addr) (ys : List V) (x : PyData) (xs : List PyData), vs = [V.ref a] ∧ SqL K H a ys ∧ DpAll K H ys (x :: xs) ∧ PySem.W.AlikeAll (x :: xs) ∧ SeqAt.shaped (.list (x :: xs)) = true ∧ SeqAt.shaped (best x xs) = true ∧ PyData.depthAll (x :: xs) ≤ 60 ∧
  ∀ (i : Nat) (y : V), ys[i]? = some y → (x :: xs)[i]? = some (best x xs) → Q y H
theorem cr_minG (hc : X.calm = true) (hu : X.A.units + 65 < cLine) : CallR X (.builtin "min") (rBestG X.K PySem.W.minD) := by
  intro pins s σ H vs us Q I r h
  obtain ⟨a, ys, x, xs, rfl, hs, hd, ha, sh, sb, hdp, q⟩ := h
  obtain ⟨its, rv, hl, hz⟩ := I.list hs
  rw [Vals.ref1 r]
  obtain ⟨as, h4⟩ := Dp.readsAll I (x :: xs) ys its hd rv
  refine PySem.W.min_list_data (I.ok.hd hc) hl.isList (show ReadsAll s.heap its.toArray.toList (x :: xs) as from h4) ha (by omega) fun i v h' tk bs hv hr hk => ?_
  have hv : its[i]? = some v := by simpa using hv
  have hi : i < its.length := (List.getElem?_eq_some_iff.mp hv).1
  have hiy : i < ys.length := by rw [rv.length]; exact hi
  obtain ⟨u, hu1, hu2⟩ := rv.get (List.getElem?_eq_getElem hiy)
  rw [hv] at hu1
  cases hu1
  have hmap : its.map (SeqAt.readOf s.heap) = x :: xs := SeqAt.readsAll_map (x :: xs) its as (SeqAt.canLay_of_shaped sh) h4
  obtain ⟨bs2, hr2⟩ : ∃ bs2, Reads s.heap v ((x :: xs).getD i .none) bs2 := by
    obtain ⟨bs2, z, _⟩ := PySem.W.readsAll_at h4 i v hv
    exact ⟨bs2, z⟩
  have hlen : its.length = (x :: xs).length := by rw [← hmap, List.length_map]
  have hix : i < (x :: xs).length := by rw [← hlen]; exact hi
  have e1 : (x :: xs)[i]? = some (SeqAt.readOf s.heap v) := by rw [← hmap, List.getElem?_map, hv]; rfl
  have e2 : (x :: xs).getD i .none = SeqAt.readOf s.heap v := by rw [List.getD_eq_getElem?_getD, e1]; rfl
  have c2 : (SeqAt.readOf s.heap v).canLay0 = true := by
    have hm : SeqAt.readOf s.heap v ∈ x :: xs := List.mem_of_getElem? e1
    have hall : PyData.canLayAll0 (x :: xs) = true := SeqAt.canLay_of_shaped sh
    generalize SeqAt.readOf s.heap v = d at hm ⊢
    generalize x :: xs = l at hm hall
    induction l with
    | nil => cases hm
    | cons y r ih =>
      simp only [PyData.canLayAll0, Bool.and_eq_true] at hall
      rcases List.mem_cons.mp hm with rfl | hm
      · exact hall.1
      · exact ih hm hall.2
  have e3 : SeqAt.readOf h' v = SeqAt.readOf s.heap v := SeqAt.readOf_eq c2 (by rw [← e2]; exact PyProof.Rows.Reads.keeps hk hr2)
  have e4 : SeqAt.readOf h' v = PySem.W.minD x xs := SeqAt.readOf_eq (SeqAt.canLay_of_shaped sb) hr
  exact ⟨ys[i], H, I.kept hk, hu2, q i _ (List.getElem?_eq_getElem hiy) (by rw [e1, ← e3, e4])⟩
theorem cr_maxG (hc : X.calm = true) (hu : X.A.units + 65 < cLine) : CallR X (.builtin "max") (rBestG X.K PySem.W.maxD) := by
  intro pins s σ H vs us Q I r h
  obtain ⟨a, ys, x, xs, rfl, hs, hd, ha, sh, sb, hdp, q⟩ := h
  obtain ⟨its, rv, hl, hz⟩ := I.list hs
  rw [Vals.ref1 r]
  obtain ⟨as, h4⟩ := Dp.readsAll I (x :: xs) ys its hd rv
  refine PySem.W.max_list_data (I.ok.hd hc) hl.isList (show ReadsAll s.heap its.toArray.toList (x :: xs) as from h4) ha (by omega) fun i v h' tk bs hv hr hk => ?_
  have hv : its[i]? = some v := by simpa using hv
  have hi : i < its.length := (List.getElem?_eq_some_iff.mp hv).1
  have hiy : i < ys.length := by rw [rv.length]; exact hi
  obtain ⟨u, hu1, hu2⟩ := rv.get (List.getElem?_eq_getElem hiy)
  rw [hv] at hu1
  cases hu1
  have hmap : its.map (SeqAt.readOf s.heap) = x :: xs := SeqAt.readsAll_map (x :: xs) its as (SeqAt.canLay_of_shaped sh) h4
  obtain ⟨bs2, hr2⟩ : ∃ bs2, Reads s.heap v ((x :: xs).getD i .none) bs2 := by
    obtain ⟨bs2, z, _⟩ := PySem.W.readsAll_at h4 i v hv
    exact ⟨bs2, z⟩
  have hlen : its.length = (x :: xs).length := by rw [← hmap, List.length_map]
  have hix : i < (x :: xs).length := by rw [← hlen]; exact hi
  have e1 : (x :: xs)[i]? = some (SeqAt.readOf s.heap v) := by rw [← hmap, List.getElem?_map, hv]; rfl
  have e2 : (x :: xs).getD i .none = SeqAt.readOf s.heap v := by rw [List.getD_eq_getElem?_getD, e1]; rfl
  have c2 : (SeqAt.readOf s.heap v).canLay0 = true := by
    have hm : SeqAt.readOf s.heap v ∈ x :: xs := List.mem_of_getElem? e1
    have hall : PyData.canLayAll0 (x :: xs) = true := SeqAt.canLay_of_shaped sh
    generalize SeqAt.readOf s.heap v = d at hm ⊢
    generalize x :: xs = l at hm hall
    induction l with
    | nil => cases hm
    | cons y r ih =>
      simp only [PyData.canLayAll0, Bool.and_eq_true] at hall
      rcases List.mem_cons.mp hm with rfl | hm
      · exact hall.1
      · exact ih hm hall.2
  have e3 : SeqAt.readOf h' v = SeqAt.readOf s.heap v := SeqAt.readOf_eq c2 (by rw [← e2]; exact PyProof.Rows.Reads.keeps hk hr2)
  have e4 : SeqAt.readOf h' v = PySem.W.maxD x xs := SeqAt.readOf_eq (SeqAt.canLay_of_shaped sb) hr
  exact ⟨ys[i], H, I.kept hk, hu2, q i _ (List.getElem?_eq_getElem hiy) (by rw [e1, ← e3, e4])⟩
open Classical in
noncomputable def kBest (best : PyData → List PyData → PyData) (ws : List Wv) (μ : Sto) : Rs Wv := match ws with
  | [.d (.list (x :: xs))] => if PySem.W.AlikeAll (x :: xs) ∧ SeqAt.shaped (.list (x :: xs)) = true ∧ SeqAt.shaped (best x xs) = true ∧ PyData.depthAll (x :: xs) ≤ 60 then .ok (.d (best x xs)) μ else .no
  | _ => .no
theorem kBest_nx (best : PyData → List PyData → PyData) : NoExC (kBest best) := fun ws μ e ν q => by
  unfold kBest at q
  split at q
  · split at q <;> cases q
  · cases q
theorem ok_best (best : PyData → List PyData → PyData) : OkC X (rBestG X.K best) (kBest best) := fun ws vs S μ hS r Q hp => by
  unfold kBest at hp
  split at hp
  · rename_i x xs
    split at hp
    · rename_i hh
      obtain ⟨v, rfl, rv⟩ := rws1 r
      obtain ⟨a, ys, rfl, ha, ra⟩ := rp_lst_inv rv
      refine ⟨a, ys, x, xs, rfl, .inl (.inl (hS.sub _ _ ha)), RpA.dp hS.sub _ _ ra, hh.1, hh.2.1, hh.2.2.1, hh.2.2.2, fun i y hy hd => ?_⟩
      obtain ⟨v, h1, h2⟩ := ra.get hd
      rw [hy] at h1
      cases h1
      exact hp _ S (Ext.refl S) hS h2
    · exact hp.elim
  · exact hp.elim
open Classical in
noncomputable def kSorted (ws : List Wv) (μ : Sto) : Rs Wv := match ws with
  | [.d (.list ds)] => if PySem.W.AllAlike ds ∧ PySem.W.Sortable ds ∧ (∀ d ∈ ds, d.depth ≤ 60) then .ok (.d (.list (ds.mergeSort (PySem.W.dataLe false id)))) μ else .no
  | _ => .no
theorem kSorted_nx : NoExC kSorted := fun ws μ e ν q => by
  unfold kSorted at q
  split at q
  · split at q <;> cases q
  · cases q
theorem rpA_fst {K : PySem.W.Frag} {F : Hp} : ∀ {bs : List (V × PyData)}, (∀ b ∈ bs, Rp K F b.1 b.2) → RpA K F (bs.map (·.1)) (bs.map (·.2))
  | [], _ => .nil
  | b :: r, h => .cons (h b List.mem_cons_self) (rpA_fst fun c hc => h c (List.mem_cons_of_mem _ hc))
theorem rpA_zip {K : PySem.W.Frag} {F : Hp} : ∀ {ys : List V} {ds : List PyData}, RpA K F ys ds → ∀ b ∈ ys.zip ds, Rp K F b.1 b.2
  | _, _, .nil, b, h => by simp at h
  | _, _, .cons r t, b, h => by
    rw [List.zip_cons_cons] at h
    rcases List.mem_cons.mp h with rfl | h
    · exact r
    · exact rpA_zip t b h
theorem ok_sortedG : OkC X (rSortedG X.K) kSorted := fun ws vs S μ hS r Q hp => by
  unfold kSorted at hp
  split at hp
  · rename_i ds
    split at hp
    · rename_i hh
      obtain ⟨v, rfl, rv⟩ := rws1 r
      obtain ⟨a, ys, rfl, ha, ra⟩ := rp_lst_inv rv
      refine ⟨a, ys, ds, rfl, .inl (.inl (hS.sub _ _ ha)), RpA.dp hS.sub _ _ ra, ra.len.symm, hh.1, hh.2.1, hh.2.2, fun p hpn => ?_⟩
      have e : ((ys.zip ds).mergeSort (PySem.W.dataLe false Prod.snd)).map (·.2) = ds.mergeSort (PySem.W.dataLe false id) := by
        have q := List.map_mergeSort (r := PySem.W.dataLe false Prod.snd) (s := PySem.W.dataLe false id) (f := Prod.snd) (l := ys.zip ds) (fun a _ b _ => rfl)
        rw [zip_snd ra.len.symm] at q
        exact q
      refine new_lst hS (ds := ds.mergeSort (PySem.W.dataLe false id)) ?_ hp p hpn
      rw [← e]
      refine rpA_fst fun b hb => ?_
      exact rpA_zip ra b ((List.mergeSort_perm _ _).mem_iff.mp hb)
    · exact hp.elim
  · exact hp.elim
end
end Ped

/-! PedDe: len of a dict of the store -/
namespace Ped
open PySem PySem.Spec PyProof.Rows L2
section
variable {X : Cx} {W : WX}
def kLenD (ws : List Wv) (μ : Sto) : Rs Wv := match ws with
  | [.l n] => (match μ[n]? with
    | some (.dk kvs) => .ok (.d (.int kvs.length)) μ
    | _ => .no)
  | _ => .no
theorem kLenD_nx : NoExC kLenD := fun ws μ e ν q => by
  unfold kLenD at q
  split at q
  · split at q <;> cases q
  · cases q
theorem ok_lenD : OkC X (fun xs H Q => ∃ a kvs, xs = [V.ref a] ∧ H a = some (.dK kvs) ∧ Q (.int kvs.length) H) kLenD := fun ws vs S μ hS r Q hp => by
  unfold kLenD at hp
  split at hp
  · rename_i n
    split at hp
    · rename_i kvs hm
      obtain ⟨v, rfl, a, hL, rfl⟩ := rws1 r
      obtain ⟨xs, h1, h2⟩ := hS.ob n a _ hL hm
      exact ⟨a, xs, rfl, h1, by rw [rkv_len h2]; exact hp _ S (Ext.refl S) hS (.int _)⟩
    · exact hp.elim
  · exact hp.elim
end
end Ped

/-! PedMx: the greatest of three ints -/
namespace Ped
open PySem PySem.Spec PyProof.Rows L2
section
variable {X : Cx}
def kMax3 (ws : List Wv) (μ : Sto) : Rs Wv := match ws with
  | [.d (.int i), .d (.int j), .d (.int k)] => .ok (.d (.int (if k > (if j > i then j else i) then k else (if j > i then j else i)))) μ
  | _ => .no
theorem kMax3_nx : NoExC kMax3 := fun ws μ e ν q => by
  unfold kMax3 at q
  split at q <;> cases q
theorem ok_max3 : OkC X (rNuC3 nuMax3) kMax3 := fun ws vs S μ hS r Q hp => by
  unfold kMax3 at hp
  split at hp
  · rename_i i j k
    obtain ⟨v, u, t, rfl, r1, r2, r3⟩ := rws3 r
    cases r1
    cases r2
    cases r3
    refine ⟨.int i, .int j, .int k, .int (if k > (if j > i then j else i) then k else (if j > i then j else i)), rfl, ?_, hp _ S (Ext.refl S) hS (.int _)⟩
    have e1 : nuMax2 (.int i) (.int j) = some (.int (if j > i then j else i)) := by
      unfold nuMax2
      by_cases h : j > i
      · have : nuLt (.int i) (.int j) = some true := congrArg some (decide_eq_true h)
        rw [this, if_pos h]; rfl
      · have : nuLt (.int i) (.int j) = some false := congrArg some (decide_eq_false h)
        rw [this, if_neg h]; rfl
    have e2 : ∀ m, nuMax2 (.int m) (.int k) = some (.int (if k > m then k else m)) := fun m => by
      unfold nuMax2
      by_cases h : k > m
      · have : nuLt (.int m) (.int k) = some true := congrArg some (decide_eq_true h)
        rw [this, if_pos h]; rfl
      · have : nuLt (.int m) (.int k) = some false := congrArg some (decide_eq_false h)
        rw [this, if_neg h]; rfl
    unfold nuMax3
    rw [e1]
    exact e2 _
  · exact hp.elim
end
end Ped


namespace Ped
open PySem L2 PyProof.Rows PySem.Spec
def v_PLAIN : List PyData := (["turn", "fold"] : List Str).map PyData.str
def v_WISHES : List PyData := (["even", "growing", "odd", "rising", "silent", "whole"] : List Str).map PyData.str
def v_BOUNDS : List (Str × Int × Int) := [("louder", 2, 4), ("cut", 1, 50), ("gate", 1, 50), ("lift", -20, 20), ("steps", 2, 5), ("late", 1, 5)]
noncomputable def B_is_number : FS := sRet (fAndV (fIsi "int" (fVar 0)) (fNotV (fIsi "bool" (fVar 0))))
noncomputable def g_is_number (ws : List Wv) (μ : Sto) : Rs Wv := runF 1 B_is_number ws μ
noncomputable def B_is_pedal : FS := sCons (sIf (fOr (fNot (fB (fIsi "tuple" (fVar 0)))) (fOr (fB (fOp (eqW false) (fVar 0) (fTup (fNil)))) (fNot (fB (fIsi "str" (fOp ixW (fVar 0) (fC (.int 0)))))))) (sRet (fC (.bool false))) (sNil)) (sCons (sIf (fB (f1 (inKW false v_PLAIN) (fOp ixW (fVar 0) (fC (.int 0))))) (sRet (fOp (eqW false) (fCall kLen (fCons (fVar 0) (fNil))) (fC (.int 1)))) (sNil)) (sCons (sIf (fOr (fB (f1 (inTabW true v_BOUNDS) (fOp ixW (fVar 0) (fC (.int 0))))) (fOr (fB (fOp (eqW true) (fCall kLen (fCons (fVar 0) (fNil))) (fC (.int 2)))) (fNot (fB (fCall (callD 1 g_is_number) (fCons (fOp ixW (fVar 0) (fC (.int 1))) (fNil))))))) (sRet (fC (.bool false))) (sNil)) (sCons (sTab v_BOUNDS 1 2 (fOp ixW (fVar 0) (fC (.int 0)))) (sRet (fAndV (fChain leW leW (fVar 1) (fOp ixW (fVar 0) (fC (.int 1))) (fVar 2)) (fOp (eqW true) (fOp ixW (fVar 0) (fC (.int 1))) (fC (.int 0))))))))
noncomputable def g_is_pedal (ws : List Wv) (μ : Sto) : Rs Wv := runF 3 B_is_pedal ws μ
noncomputable def B_is_row : FS := sRet (fAndV (fIsi "tuple" (fVar 0)) (fAndV (fOp (cmpW fun i j => decide (i ≤ j)) (fCall kLen (fCons (fVar 0) (fNil))) (fC (.int 6))) (fCall kAll (fCons (fComp (itS (fVar 0)) (gVar 1) (fYes) (fCall (callD 1 g_is_pedal) (fCons (fVar 1) (fNil))) [1]) (fNil)))))
noncomputable def g_is_row (ws : List Wv) (μ : Sto) : Rs Wv := runF 2 B_is_row ws μ
noncomputable def B_is_board : FS := sRet (fAndV (fIsi "tuple" (fVar 0)) (fAndV (fChain leW leW (fC (.int 1)) (fCall kLen (fCons (fVar 0) (fNil))) (fC (.int 3))) (fCall kAll (fCons (fComp (itS (fVar 0)) (gVar 1) (fYes) (fCall (callD 1 g_is_row) (fCons (fVar 1) (fNil))) [1]) (fNil)))))
noncomputable def g_is_board (ws : List Wv) (μ : Sto) : Rs Wv := runF 2 B_is_board ws μ
noncomputable def B_are_numbers : FS := sRet (fAndV (fIsi "tuple" (fVar 0)) (fCall kAll (fCons (fComp (itS (fVar 0)) (gVar 1) (fYes) (fCall (callD 1 g_is_number) (fCons (fVar 1) (fNil))) [1]) (fNil))))
noncomputable def g_are_numbers (ws : List Wv) (μ : Sto) : Rs Wv := runF 2 B_are_numbers ws μ
noncomputable def B_is_sound : FS := sRet (fAndV (fCall (callD 1 g_are_numbers) (fCons (fVar 0) (fNil))) (fOp (cmpW fun i j => decide (i ≤ j)) (fCall kLen (fCons (fVar 0) (fNil))) (fC (.int 40))))
noncomputable def g_is_sound (ws : List Wv) (μ : Sto) : Rs Wv := runF 1 B_is_sound ws μ
noncomputable def B_need_row : FS := sIf (fNot (fB (fCall (callD 1 g_is_row) (fCons (fVar 0) (fNil))))) ((fun _ _ => .no)) (sNil)
noncomputable def g_need_row (ws : List Wv) (μ : Sto) : Rs Wv := runF 1 B_need_row ws μ
noncomputable def B_need_board : FS := sIf (fNot (fB (fCall (callD 1 g_is_board) (fCons (fVar 0) (fNil))))) ((fun _ _ => .no)) (sNil)
noncomputable def g_need_board (ws : List Wv) (μ : Sto) : Rs Wv := runF 1 B_need_board ws μ
noncomputable def B_need_sound : FS := sIf (fNot (fB (fCall (callD 1 g_is_sound) (fCons (fVar 0) (fNil))))) ((fun _ _ => .no)) (sNil)
noncomputable def g_need_sound (ws : List Wv) (μ : Sto) : Rs Wv := runF 1 B_need_sound ws μ
noncomputable def B_need_number : FS := sIf (fNot (fB (fCall (callD 1 g_is_number) (fCons (fVar 0) (fNil))))) ((fun _ _ => .no)) (sNil)
noncomputable def g_need_number (ws : List Wv) (μ : Sto) : Rs Wv := runF 1 B_need_number ws μ
noncomputable def B_late_of : FS := sRet (fCall kSum (fCons (fComp (itS (fVar 0)) (gVar 1) (fB (fOp (eqW false) (fOp ixW (fVar 1) (fC (.int 0))) (fC (.str "late")))) (fOp ixW (fVar 1) (fC (.int 1))) [1]) (fNil)))
noncomputable def g_late_of (ws : List Wv) (μ : Sto) : Rs Wv := runF 2 B_late_of ws μ
noncomputable def B_board_late : FS := sRet (fCall kMax (fCons (fComp (itS (fVar 0)) (gVar 1) (fYes) (fCall (callD 1 g_late_of) (fCons (fVar 1) (fNil))) [1]) (fNil)))
noncomputable def g_board_late (ws : List Wv) (μ : Sto) : Rs Wv := runF 2 B_board_late ws μ
noncomputable def B_pedal_shape : FS := sCons (sAsg (fOp ixW (fVar 0) (fC (.int 0))) (gVar 2)) (sCons (sIf (fB (fOp (eqW false) (fVar 2) (fC (.str "louder")))) (sRet (fOp mulW (fVar 1) (fOp ixW (fVar 0) (fC (.int 1))))) (sNil)) (sCons (sIf (fB (fOp (eqW false) (fVar 2) (fC (.str "cut")))) (sRet (fCall kMax2 (fCons (fOp (opI fun i j => some (.int (i - j))) (fC (.int 0)) (fOp ixW (fVar 0) (fC (.int 1)))) (fCons (fCall kMin2 (fCons (fOp ixW (fVar 0) (fC (.int 1))) (fCons (fVar 1) (fNil)))) (fNil))))) (sNil)) (sCons (sIf (fB (fOp (eqW false) (fVar 2) (fC (.str "gate")))) (sRet (fIf (fOr (fB (fOp (cmpW fun i j => decide (j ≤ i)) (fVar 1) (fOp ixW (fVar 0) (fC (.int 1))))) (fB (fOp (cmpW fun i j => decide (i ≤ j)) (fVar 1) (fOp (opI fun i j => some (.int (i - j))) (fC (.int 0)) (fOp ixW (fVar 0) (fC (.int 1))))))) (fVar 1) (fC (.int 0)))) (sNil)) (sCons (sIf (fB (fOp (eqW false) (fVar 2) (fC (.str "turn")))) (sRet (fOp (opI fun i j => some (.int (i - j))) (fC (.int 0)) (fVar 1))) (sNil)) (sCons (sIf (fB (fOp (eqW false) (fVar 2) (fC (.str "fold")))) (sRet (fCall kMax2 (fCons (fVar 1) (fCons (fOp (opI fun i j => some (.int (i - j))) (fC (.int 0)) (fVar 1)) (fNil))))) (sNil)) (sCons (sIf (fB (fOp (eqW false) (fVar 2) (fC (.str "lift")))) (sRet (fOp addW (fVar 1) (fOp ixW (fVar 0) (fC (.int 1))))) (sNil)) (sCons (sIf (fB (fOp (eqW false) (fVar 2) (fC (.str "steps")))) (sRet (fIf (fB (fOp (cmpW fun i j => decide (j ≤ i)) (fVar 1) (fC (.int 0)))) (fOp (opI fun i j => some (.int (i - j))) (fVar 1) (fOp (opI modI) (fVar 1) (fOp ixW (fVar 0) (fC (.int 1))))) (fOp addW (fOp (opI modI) (fOp (opI fun i j => some (.int (i - j))) (fC (.int 0)) (fVar 1)) (fOp ixW (fVar 0) (fC (.int 1)))) (fVar 1)))) (sNil)) (sRet (fVar 1)))))))))
noncomputable def g_pedal_shape (ws : List Wv) (μ : Sto) : Rs Wv := runF 3 B_pedal_shape ws μ
noncomputable abbrev L_row_shape_1 : FS := sAsg (fCall (callD 2 g_pedal_shape) (fCons (fVar 2) (fCons (fVar 1) (fNil)))) (gVar 1)
noncomputable def B_row_shape : FS := sCons (sFor (itS (fVar 0)) (gVar 2) (L_row_shape_1)) (sRet (fVar 1))
noncomputable def g_row_shape (ws : List Wv) (μ : Sto) : Rs Wv := runF 3 B_row_shape ws μ
noncomputable def B_number_at : FS := sRet (fIf (fB (fChain leW ltW (fC (.int 0)) (fVar 1) (fCall kLen (fCons (fVar 0) (fNil))))) (fOp ixW (fVar 0) (fVar 1)) (fC (.int 0)))
noncomputable def g_number_at (ws : List Wv) (μ : Sto) : Rs Wv := runF 2 B_number_at ws μ
noncomputable def B_heard_at : FS := sRet (fCall kSum (fCons (fComp (itS (fVar 0)) (gVar 3) (fYes) (fCall (callD 2 g_row_shape) (fCons (fVar 3) (fCons (fCall (callD 2 g_number_at) (fCons (fVar 1) (fCons (fOp (opI fun i j => some (.int (i - j))) (fVar 2) (fCall (callD 1 g_late_of) (fCons (fVar 3) (fNil)))) (fNil)))) (fNil)))) [3]) (fNil)))
noncomputable def g_heard_at (ws : List Wv) (μ : Sto) : Rs Wv := runF 4 B_heard_at ws μ
noncomputable def B_all_heard : FS := sRet (fComp (itS (fRg1 (fOp addW (fCall kLen (fCons (fVar 1) (fNil))) (fCall (callD 1 g_board_late) (fCons (fVar 0) (fNil)))))) (gVar 2) (fYes) (fCall (callD 3 g_heard_at) (fCons (fVar 0) (fCons (fVar 1) (fCons (fVar 2) (fNil))))) [2])
noncomputable def g_all_heard (ws : List Wv) (μ : Sto) : Rs Wv := runF 3 B_all_heard ws μ
noncomputable def B_shaped : FS := sCons (sExpr (fCall (callD 1 g_need_row) (fCons (fVar 0) (fNil)))) (sCons (sExpr (fCall (callD 1 g_need_number) (fCons (fVar 1) (fNil)))) (sRet (fCall (callD 2 g_row_shape) (fCons (fVar 0) (fCons (fVar 1) (fNil))))))
noncomputable def g_shaped (ws : List Wv) (μ : Sto) : Rs Wv := runF 2 B_shaped ws μ
noncomputable def B_heard : FS := sCons (sExpr (fCall (callD 1 g_need_board) (fCons (fVar 0) (fNil)))) (sCons (sExpr (fCall (callD 1 g_need_sound) (fCons (fVar 1) (fNil)))) (sRet (fCall (callD 2 g_all_heard) (fCons (fVar 0) (fCons (fVar 1) (fNil))))))
noncomputable def g_heard (ws : List Wv) (μ : Sto) : Rs Wv := runF 2 B_heard ws μ
noncomputable def B_silence : FS := sCons (sExpr (fCall (callD 1 g_need_board) (fCons (fVar 0) (fNil)))) (sRet (fCall (callD 3 g_heard_at) (fCons (fVar 0) (fCons (fTup (fNil)) (fCons (fC (.int 0)) (fNil))))))
noncomputable def g_silence (ws : List Wv) (μ : Sto) : Rs Wv := runF 1 B_silence ws μ
noncomputable def B__law_bag : FS := sCons (sAsg (fIf (fB (fOp (cmpW fun i j => decide (i < j)) (fVar 1) (fCall kLen (fCons (fVar 0) (fNil))))) (fCall kAbs (fCons (fCall kInt (fCons (fOp ixW (fVar 0) (fVar 1)) (fNil))) (fNil))) (fOp addW (fOp mulW (fC (.int 53)) (fVar 1)) (fC (.int 13)))) (gVar 2)) (sRet (fLstN (fCons (fIf (fB (fOp (cmpW fun i j => decide (j ≤ i)) (fVar 2) (fOp (opI fun i j => if CPow i j then some (.int (i ^ j.toNat)) else none) (fC (.int 10)) (fC (.int 18))))) (fVar 2) (fC (.int 0))) (fCons (fOp (opI modI) (fCall kInt (fCons (fOp addW (fOp addW (fOp (opI modI) (fCall kInt (fCons (fVar 2) (fNil))) (fC (.int 2147483423))) (fOp mulW (fC (.int 70001)) (fVar 1))) (fC (.int 31))) (fNil))) (fC (.int 2147483423))) (fNil)))))
noncomputable def g__law_bag (ws : List Wv) (μ : Sto) : Rs Wv := runF 3 B__law_bag ws μ
noncomputable def B__law_take : FS := sCons (sIf (fB (fOp (cmpW fun i j => decide (j < i)) (fOp ixW (fVar 0) (fC (.int 0))) (fC (.int 0)))) (sCons (sAsg (fOp (opI modI) (fCall kInt (fCons (fOp ixW (fVar 0) (fC (.int 0))) (fNil))) (fVar 1)) (gVar 3)) (sCons (sSetIx (fOp (opI divI) (fCall kInt (fCons (fOp ixW (fVar 0) (fC (.int 0))) (fNil))) (fVar 1)) (fVar 0) (fC (.int 0))) (sRet (fVar 3)))) (sNil)) (sCons (sSetIx (fOp (opI modI) (fCall kInt (fCons (fOp addW (fOp mulW (fOp ixW (fVar 0) (fC (.int 1))) (fC (.int 41358))) (fC (.int 211))) (fNil))) (fC (.int 2147483423))) (fVar 0) (fC (.int 1))) (sCons (sAsg (fOp (opI modI) (fOp mulW (fCall kInt (fCons (fOp ixW (fVar 0) (fC (.int 1))) (fNil))) (fOp addW (fOp (opI divI) (fCall kInt (fCons (fOp ixW (fVar 0) (fC (.int 1))) (fNil))) (fC (.int 9))) (fC (.int 23)))) (fC (.int 2147483407))) (gVar 2)) (sRet (fOp (opI modI) (fCall kInt (fCons (fOp (opI divI) (fCall kInt (fCons (fVar 2) (fNil))) (fC (.int 15))) (fNil))) (fVar 1)))))
noncomputable def g__law_take (ws : List Wv) (μ : Sto) : Rs Wv := runF 4 B__law_take ws μ
noncomputable def B__law_of : FS := sRet (fOp ixW (fVar 1) (fCall (callD 2 g__law_take) (fCons (fVar 0) (fCons (fCall kLen (fCons (fVar 1) (fNil))) (fNil)))))
noncomputable def g__law_of (ws : List Wv) (μ : Sto) : Rs Wv := runF 2 B__law_of ws μ
noncomputable def B__law_pedal : FS := sCons (sAsg (fLst (fCons (fC (.str "louder")) (fCons (fC (.str "cut")) (fCons (fC (.str "cut")) (fCons (fC (.str "gate")) (fCons (fC (.str "turn")) (fCons (fC (.str "fold")) (fCons (fC (.str "lift")) (fCons (fC (.str "lift")) (fCons (fC (.str "steps")) (fNil))))))))))) (gVar 2)) (sCons (sAsg (fCall (callD 2 g__law_of) (fCons (fVar 0) (fCons (fOp addW (fVar 2) (fLst (fCons (fIf (fB (fVar 1)) (fC (.str "late")) (fC (.str "gate"))) (fNil)))) (fNil)))) (gVar 3)) (sCons (sIf (fB (fOp (inW false) (fVar 3) (fLst (fCons (fC (.str "turn")) (fCons (fC (.str "fold")) (fNil)))))) (sRet (fTup (fCons (fVar 3) (fNil)))) (sNil)) (sCons (sIf (fB (fOp (eqW false) (fVar 3) (fC (.str "louder")))) (sRet (fTup (fCons (fVar 3) (fCons (fOp addW (fC (.int 2)) (fCall (callD 2 g__law_take) (fCons (fVar 0) (fCons (fC (.int 3)) (fNil))))) (fNil))))) (sNil)) (sCons (sIf (fB (fOp (eqW false) (fVar 3) (fC (.str "lift")))) (sRet (fTup (fCons (fVar 3) (fCons (fOp mulW (fCall (callD 2 g__law_of) (fCons (fVar 0) (fCons (fLst (fCons (fNeg (fC (.int 1))) (fCons (fC (.int 1)) (fNil)))) (fNil)))) (fOp addW (fC (.int 1)) (fCall (callD 2 g__law_take) (fCons (fVar 0) (fCons (fCall (callD 2 g__law_of) (fCons (fVar 0) (fCons (fLst (fCons (fC (.int 3)) (fCons (fC (.int 20)) (fNil)))) (fNil)))) (fNil)))))) (fNil))))) (sNil)) (sCons (sIf (fB (fOp (eqW false) (fVar 3) (fC (.str "steps")))) (sRet (fTup (fCons (fVar 3) (fCons (fOp addW (fC (.int 2)) (fCall (callD 2 g__law_take) (fCons (fVar 0) (fCons (fC (.int 4)) (fNil))))) (fNil))))) (sNil)) (sRet (fTup (fCons (fVar 3) (fCons (fOp addW (fC (.int 1)) (fCall (callD 2 g__law_take) (fCons (fVar 0) (fCons (fIf (fB (fOp (eqW false) (fVar 3) (fC (.str "late")))) (fC (.int 5)) (fCall (callD 2 g__law_of) (fCons (fVar 0) (fCons (fLst (fCons (fC (.int 4)) (fCons (fC (.int 9)) (fCons (fC (.int 50)) (fNil))))) (fNil))))) (fNil))))) (fNil))))))))))
noncomputable def g__law_pedal (ws : List Wv) (μ : Sto) : Rs Wv := runF 4 B__law_pedal ws μ
noncomputable def B__law_pedals : FS := sRet (fCall kTuple (fCons (fComp (itR1 (fCall (callD 2 g__law_take) (fCons (fVar 0) (fCons (fOp addW (fVar 1) (fC (.int 1))) (fNil))))) (gVar 3) (fYes) (fCall (callD 2 g__law_pedal) (fCons (fVar 0) (fCons (fVar 2) (fNil)))) [3]) (fNil)))
noncomputable def g__law_pedals (ws : List Wv) (μ : Sto) : Rs Wv := runF 4 B__law_pedals ws μ
noncomputable def B__law_board : FS := sCons (sAsg (fCall (callD 2 g__law_of) (fCons (fVar 0) (fCons (fLst (fCons (fC (.int 1)) (fCons (fC (.int 1)) (fCons (fC (.int 2)) (fCons (fC (.int 3)) (fNil)))))) (fNil)))) (gVar 2)) (sRet (fCall kTuple (fCons (fComp (itR1 (fVar 2)) (gVar 3) (fYes) (fCall (callD 3 g__law_pedals) (fCons (fVar 0) (fCons (fVar 1) (fCons (fC (.bool true)) (fNil))))) [3]) (fNil))))
noncomputable def g__law_board (ws : List Wv) (μ : Sto) : Rs Wv := runF 4 B__law_board ws μ
noncomputable abbrev L__law_numbers_1 : FS := sCons (sAsg (fCall (callD 2 g__law_of) (fCons (fVar 0) (fCons (fLst (fCons (fC (.int 4)) (fCons (fC (.int 12)) (fCons (fC (.int 60)) (fCons (fC (.int 400)) (fCons (fOp (opI fun i j => if CPow i j then some (.int (i ^ j.toNat)) else none) (fC (.int 10)) (fC (.int 12))) (fNil))))))) (fNil)))) (gVar 4)) (sAsg (fOp addW (fVar 2) (fTup (fCons (fOp (opI fun i j => some (.int (i - j))) (fCall (callD 2 g__law_take) (fCons (fVar 0) (fCons (fOp addW (fOp mulW (fC (.int 2)) (fVar 4)) (fC (.int 1))) (fNil)))) (fVar 4)) (fNil)))) (gVar 2))
noncomputable def B__law_numbers : FS := sCons (sAsg (fTup (fNil)) (gVar 2)) (sCons (sFor (itR1 (fCall (callD 2 g__law_take) (fCons (fVar 0) (fCons (fOp addW (fVar 1) (fC (.int 1))) (fNil))))) (gVar 3) (L__law_numbers_1)) (sRet (fVar 2)))
noncomputable def g__law_numbers (ws : List Wv) (μ : Sto) : Rs Wv := runF 5 B__law_numbers ws μ
noncomputable abbrev L__law_shape_1 : FS := sCons (sPar 4 5 (fCons (fOp ixW (fVar 2) (fC (.int 0))) (fCons (fIf (fB (fOp (cmpW fun i j => decide (i < j)) (fVar 1) (fC (.int 0)))) (fNeg (fC (.int 1))) (fC (.int 1))) (fNil)))) (sCons (sAsg (fOp mulW (fVar 5) (fVar 1)) (gVar 3)) (sIf (fB (fOp (eqW false) (fVar 4) (fC (.str "louder")))) (sAsg (fOp mulW (fOp ixW (fVar 2) (fC (.int 1))) (fVar 1)) (gVar 1)) (sIf (fB (fOp (eqW false) (fVar 4) (fC (.str "lift")))) (sAsg (fOp addW (fVar 1) (fOp ixW (fVar 2) (fC (.int 1)))) (gVar 1)) (sIf (fB (fOp (eqW false) (fVar 4) (fC (.str "turn")))) (sAsg (fNeg (fVar 1)) (gVar 1)) (sIf (fB (fOp (eqW false) (fVar 4) (fC (.str "fold")))) (sAsg (fVar 3) (gVar 1)) (sIf (fAnd (fB (fOp (eqW false) (fVar 4) (fC (.str "cut")))) (fB (fOp (cmpW fun i j => decide (j < i)) (fVar 3) (fOp ixW (fVar 2) (fC (.int 1)))))) (sAsg (fOp mulW (fVar 5) (fOp ixW (fVar 2) (fC (.int 1)))) (gVar 1)) (sIf (fAnd (fB (fOp (eqW false) (fVar 4) (fC (.str "gate")))) (fB (fOp (cmpW fun i j => decide (i < j)) (fVar 3) (fOp ixW (fVar 2) (fC (.int 1)))))) (sAsg (fC (.int 0)) (gVar 1)) (sIf (fB (fOp (eqW false) (fVar 4) (fC (.str "steps")))) (sAsg (fOp mulW (fOp mulW (fVar 5) (fOp (opI divI) (fVar 3) (fOp ixW (fVar 2) (fC (.int 1))))) (fOp ixW (fVar 2) (fC (.int 1)))) (gVar 1)) (sNil)))))))))
noncomputable def B__law_shape : FS := sCons (sFor (itS (fVar 0)) (gVar 2) (L__law_shape_1)) (sRet (fVar 1))
noncomputable def g__law_shape (ws : List Wv) (μ : Sto) : Rs Wv := runF 6 B__law_shape ws μ
noncomputable def B__law_lateness : FS := sRet (fCall kSum (fCons (fComp (itS (fVar 0)) (gVar 1) (fB (fOp (eqW false) (fOp ixW (fVar 1) (fC (.int 0))) (fC (.str "late")))) (fOp ixW (fVar 1) (fC (.int 1))) [1]) (fNil)))
noncomputable def g__law_lateness (ws : List Wv) (μ : Sto) : Rs Wv := runF 2 B__law_lateness ws μ
noncomputable abbrev L__law_heard_1 : FS := sCons (sAsg (fChain leW ltW (fVar 7) (fVar 5) (fOp addW (fVar 7) (fCall kLen (fCons (fVar 1) (fNil))))) (gVar 8)) (sSetIx (fOp addW (fOp ixW (fVar 3) (fVar 5)) (fIf (fB (fVar 8)) (fCall (callD 2 g__law_shape) (fCons (fVar 4) (fCons (fOp ixW (fVar 1) (fOp (opI fun i j => some (.int (i - j))) (fVar 5) (fVar 7))) (fNil)))) (fVar 6))) (fVar 3) (fVar 5))
noncomputable abbrev L__law_heard_2 : FS := sCons (sPar 6 7 (fCons (fCall (callD 2 g__law_shape) (fCons (fVar 4) (fCons (fC (.int 0)) (fNil)))) (fCons (fCall (callD 1 g__law_lateness) (fCons (fVar 4) (fNil))) (fNil)))) (sFor (itR1 (fVar 2)) (gVar 5) (L__law_heard_1))
noncomputable def B__law_heard : FS := sCons (sAsg (fOp addW (fCall kLen (fCons (fVar 1) (fNil))) (fCall kMax (fCons (fComp (itS (fVar 0)) (gVar 4) (fYes) (fCall (callD 1 g__law_lateness) (fCons (fVar 4) (fNil))) [4]) (fNil)))) (gVar 2)) (sCons (sAsg (fOp mulN (fLst (fCons (fC (.int 0)) (fNil))) (fVar 2)) (gVar 3)) (sCons (sFor (itS (fVar 0)) (gVar 4) (L__law_heard_2)) (frz 3 (sRet (fVar 3)))))
noncomputable def g__law_heard (ws : List Wv) (μ : Sto) : Rs Wv := runF 9 B__law_heard ws μ
noncomputable abbrev L_law_2_1 : FS := sIf (fB (fOp (eqW true) (fCall (callD 2 g_shaped) (fCons (fVar 4) (fCons (fVar 6) (fNil)))) (fCall (callD 2 g__law_shape) (fCons (fVar 4) (fCons (fVar 6) (fNil)))))) (sRet (fC (.bool false))) (sNil)
noncomputable abbrev L_law_2_2 : FS := sFor (itS (fOp addW (fCall (callD 2 g__law_numbers) (fCons (fVar 2) (fCons (fC (.int 20)) (fNil)))) (fTup (fCons (fC (.int 0)) (fCons (fC (.int 1)) (fCons (fNeg (fC (.int 1))) (fNil))))))) (gVar 6) (L_law_2_1)
noncomputable abbrev L_law_2_3 : FS := sIf (fB (fOp (eqW true) (fCall (callD 2 g_heard) (fCons (fVar 3) (fCons (fVar 5) (fNil)))) (fCall (callD 2 g__law_heard) (fCons (fVar 3) (fCons (fVar 5) (fNil)))))) (sRet (fC (.bool false))) (sNil)
noncomputable abbrev L_law_2_4 : FS := sCons (sAsg (fCall (callD 2 g__law_bag) (fCons (fVar 0) (fCons (fVar 1) (fNil)))) (gVar 2)) (sCons (sAsg (fCall (callD 2 g__law_board) (fCons (fVar 2) (fCons (fC (.int 6)) (fNil)))) (gVar 3)) (sCons (sFor (itS (fVar 3)) (gVar 4) (L_law_2_2)) (sCons (sIf (fB (fOp (eqW true) (fCall (callD 1 g_silence) (fCons (fVar 3) (fNil))) (fCall kSum (fCons (fComp (itS (fVar 3)) (gVar 4) (fYes) (fCall (callD 2 g__law_shape) (fCons (fVar 4) (fCons (fC (.int 0)) (fNil)))) [4]) (fNil))))) (sRet (fC (.bool false))) (sNil)) (sFor (itS (fLst (fCons (fTup (fNil)) (fCons (fCall (callD 2 g__law_numbers) (fCons (fVar 2) (fCons (fC (.int 5)) (fNil)))) (fCons (fCall (callD 2 g__law_numbers) (fCons (fVar 2) (fCons (fC (.int 40)) (fNil)))) (fNil)))))) (gVar 5) (L_law_2_3)))))
noncomputable def B_law_2 : FS := sCons (sFor (itR1 (fCall kMax2 (fCons (fC (.int 4)) (fCons (fCall kMin2 (fCons (fC (.int 12)) (fCons (fOp addW (fCall kLen (fCons (fVar 0) (fNil))) (fC (.int 3))) (fNil)))) (fNil))))) (gVar 1) (L_law_2_4)) (sRet (fC (.bool true)))
noncomputable def g_law_2 (ws : List Wv) (μ : Sto) : Rs Wv := runF 7 B_law_2 ws μ
noncomputable def B_need_most : FS := sIf (fOr (fNot (fB (fCall (callD 1 g_is_number) (fCons (fVar 0) (fNil))))) (fNot (fB (fChain leW leW (fC (.int 0)) (fVar 0) (fC (.int 1000)))))) ((fun _ _ => .no)) (sNil)
noncomputable def g_need_most (ws : List Wv) (μ : Sto) : Rs Wv := runF 1 B_need_most ws μ
def w_common : Nat := 64
noncomputable abbrev L_common_1 : FS := sPar 0 1 (fCons (fVar 1) (fCons (fOp (opI modI) (fVar 0) (fVar 1)) (fNil)))
noncomputable def B_common : FS := sCons (whileF (fB (fOp (cmpW fun i j => decide (j < i)) (fVar 1) (fC (.int 0)))) (L_common_1) w_common) (sRet (fVar 0))
noncomputable def g_common (ws : List Wv) (μ : Sto) : Rs Wv := runF 2 B_common ws μ
noncomputable abbrev L_near_of_1 : FS := sCons (sAsg (fComp (itS (fVar 2)) (gVar 4) (fB (fOp (inW true) (fOp ixW (fVar 4) (fC (.int 0))) (f1 (addKW v_PLAIN) (fTup (fCons (fC (.str "late")) (fNil)))))) (fCall kMax2 (fCons (fOp ixW (fVar 4) (fC (.int 1))) (fCons (fOp (opI fun i j => some (.int (i - j))) (fC (.int 0)) (fOp ixW (fVar 4) (fC (.int 1)))) (fNil)))) [4]) (gVar 3)) (sAsg (fCall kMax2 (fCons (fVar 1) (fCons (fOp addW (fC (.int 1)) (fCall kSum (fCons (fVar 3) (fNil)))) (fNil)))) (gVar 1))
noncomputable def B_near_of : FS := sCons (sAsg (fC (.int 1)) (gVar 1)) (sCons (sFor (itS (fVar 0)) (gVar 2) (L_near_of_1)) (sRet (fVar 1)))
noncomputable def g_near_of (ws : List Wv) (μ : Sto) : Rs Wv := runF 5 B_near_of ws μ
noncomputable abbrev L_period_of_1 : FS := sIf (fB (fOp (eqW false) (fOp ixW (fVar 3) (fC (.int 0))) (fC (.str "steps")))) (sAsg (fOp (opI divI) (fOp mulW (fVar 1) (fOp ixW (fVar 3) (fC (.int 1)))) (fCall (callD 2 g_common) (fCons (fVar 1) (fCons (fOp ixW (fVar 3) (fC (.int 1))) (fNil))))) (gVar 1)) (sNil)
noncomputable abbrev L_period_of_2 : FS := sFor (itS (fVar 2)) (gVar 3) (L_period_of_1)
noncomputable def B_period_of : FS := sCons (sAsg (fC (.int 1)) (gVar 1)) (sCons (sFor (itS (fVar 0)) (gVar 2) (L_period_of_2)) (sRet (fVar 1)))
noncomputable def g_period_of (ws : List Wv) (μ : Sto) : Rs Wv := runF 4 B_period_of ws μ
noncomputable abbrev L_by_loudness_1 : FS := sAsg (fOp addW (fVar 1) (fLst (fCons (fVar 2) (fCons (fOp (opI fun i j => some (.int (i - j))) (fC (.int 0)) (fVar 2)) (fNil))))) (gVar 1)
noncomputable def B_by_loudness : FS := sCons (sAsg (fLst (fCons (fC (.int 0)) (fNil))) (gVar 1)) (sCons (sFor (itR2 (fC (.int 1)) (fOp addW (fVar 0) (fC (.int 1)))) (gVar 2) (L_by_loudness_1)) (sRet (fVar 1)))
noncomputable def g_by_loudness (ws : List Wv) (μ : Sto) : Rs Wv := runF 3 B_by_loudness ws μ
noncomputable def B_span_of : FS := sRet (fOp addW (fCall (callD 1 g_near_of) (fCons (fVar 0) (fNil))) (fOp mulW (fC (.int 2)) (fCall (callD 1 g_period_of) (fCons (fVar 0) (fNil)))))
noncomputable def g_span_of (ws : List Wv) (μ : Sto) : Rs Wv := runF 1 B_span_of ws μ
noncomputable def B_latenesses : FS := sRet (f1 ssW (fComp (itS (fVar 0)) (gVar 1) (fYes) (fCall (callD 1 g_late_of) (fCons (fVar 1) (fNil))) [1]))
noncomputable def g_latenesses (ws : List Wv) (μ : Sto) : Rs Wv := runF 2 B_latenesses ws μ
noncomputable def B_part_shape : FS := sRet (fCall kSum (fCons (fComp (itS (fVar 0)) (gVar 3) (fB (fOp (eqW false) (fCall (callD 1 g_late_of) (fCons (fVar 3) (fNil))) (fVar 1))) (fOp (opI fun i j => some (.int (i - j))) (fCall (callD 2 g_row_shape) (fCons (fVar 3) (fCons (fVar 2) (fNil)))) (fCall (callD 2 g_row_shape) (fCons (fVar 3) (fCons (fC (.int 0)) (fNil))))) [3]) (fNil)))
noncomputable def g_part_shape (ws : List Wv) (μ : Sto) : Rs Wv := runF 4 B_part_shape ws μ
noncomputable abbrev L_parting_of_1 : FS := sIf (fB (fOp (eqW true) (fCall (callD 3 g_part_shape) (fCons (fVar 0) (fCons (fVar 4) (fCons (fVar 3) (fNil))))) (fCall (callD 3 g_part_shape) (fCons (fVar 1) (fCons (fVar 4) (fCons (fVar 3) (fNil))))))) (sRet (fTup (fCons (fVar 3) (fNil)))) (sNil)
noncomputable abbrev L_parting_of_2 : FS := sFor (itS (fVar 2)) (gVar 4) (L_parting_of_1)
noncomputable def B_parting_of : FS := sCons (sIf (fB (fOp (eqW true) (fCall (callD 3 g_heard_at) (fCons (fVar 0) (fCons (fTup (fNil)) (fCons (fC (.int 0)) (fNil))))) (fCall (callD 3 g_heard_at) (fCons (fVar 1) (fCons (fTup (fNil)) (fCons (fC (.int 0)) (fNil))))))) (sRet (fTup (fNil))) (sNil)) (sCons (sAsg (f1 ssW (fOp addW (fCall (callD 1 g_latenesses) (fCons (fVar 0) (fNil))) (fCall (callD 1 g_latenesses) (fCons (fVar 1) (fNil))))) (gVar 2)) (sCons (sFor (itS (fCall (callD 1 g_by_loudness) (fCons (fCall (callD 1 g_span_of) (fCons (fOp addW (fVar 0) (fVar 1)) (fNil))) (fNil)))) (gVar 3) (L_parting_of_2)) (sRet (fC .none))))
noncomputable def g_parting_of (ws : List Wv) (μ : Sto) : Rs Wv := runF 5 B_parting_of ws μ
noncomputable def B_alike : FS := sCons (sExpr (fCall (callD 1 g_need_board) (fCons (fVar 0) (fNil)))) (sCons (sExpr (fCall (callD 1 g_need_board) (fCons (fVar 1) (fNil)))) (sRet (fOp (isNW false) (fCall (callD 2 g_parting_of) (fCons (fVar 0) (fCons (fVar 1) (fNil)))) (fC .none))))
noncomputable def g_alike (ws : List Wv) (μ : Sto) : Rs Wv := runF 2 B_alike ws μ
noncomputable def B_loudness : FS := sRet (fCall kMax2 (fCons (fVar 0) (fCons (fOp (opI fun i j => some (.int (i - j))) (fC (.int 0)) (fVar 0)) (fNil))))
noncomputable def g_loudness (ws : List Wv) (μ : Sto) : Rs Wv := runF 1 B_loudness ws μ
noncomputable abbrev L_loudest_of_1 : FS := sCons (sAsg (fComp (itS (fRg2 (fOp (opI fun i j => some (.int (i - j))) (fC (.int 0)) (fVar 1)) (fOp addW (fVar 1) (fC (.int 1))))) (gVar 6) (fYes) (fCall (callD 3 g_part_shape) (fCons (fVar 0) (fCons (fVar 4) (fCons (fVar 6) (fNil))))) [6]) (gVar 5)) (sPar 2 3 (fCons (fOp addW (fVar 2) (fCall kMin (fCons (fVar 5) (fNil)))) (fCons (fOp addW (fVar 3) (fCall kMax (fCons (fVar 5) (fNil)))) (fNil))))
noncomputable def B_loudest_of : FS := sCons (sAsg2 (fCall (callD 3 g_heard_at) (fCons (fVar 0) (fCons (fTup (fNil)) (fCons (fC (.int 0)) (fNil))))) 2 3) (sCons (sFor (itS (fCall (callD 1 g_latenesses) (fCons (fVar 0) (fNil)))) (gVar 4) (L_loudest_of_1)) (sRet (fCall kMax2 (fCons (fCall (callD 1 g_loudness) (fCons (fVar 2) (fNil))) (fCons (fCall (callD 1 g_loudness) (fCons (fVar 3) (fNil))) (fNil))))))
noncomputable def g_loudest_of (ws : List Wv) (μ : Sto) : Rs Wv := runF 7 B_loudest_of ws μ
noncomputable def B_loudest : FS := sCons (sExpr (fCall (callD 1 g_need_board) (fCons (fVar 0) (fNil)))) (sCons (sExpr (fCall (callD 1 g_need_most) (fCons (fVar 1) (fNil)))) (sRet (fCall (callD 2 g_loudest_of) (fCons (fVar 0) (fCons (fVar 1) (fNil))))))
noncomputable def g_loudest (ws : List Wv) (μ : Sto) : Rs Wv := runF 2 B_loudest ws μ
noncomputable abbrev L_exchanges_1 : FS := sCons (sAsg (fOp addW (fOp addW (fSl (fVar 0) (fO0) (fO1 (fVar 2))) (fTup (fCons (fOp ixW (fVar 0) (fOp addW (fVar 2) (fC (.int 1)))) (fCons (fOp ixW (fVar 0) (fVar 2)) (fNil))))) (fSl (fVar 0) (fO1 (fOp addW (fVar 2) (fC (.int 2)))) (fO0))) (gVar 3)) (sIf (fB (fOp (isNW false) (fCall (callD 2 g_parting_of) (fCons (fTup (fCons (fVar 0) (fNil))) (fCons (fTup (fCons (fVar 3) (fNil))) (fNil)))) (fC .none))) (sExpr (fApp (fVar 1) (fVar 2))) (sNil))
noncomputable def B_exchanges : FS := sCons (sExpr (fCall (callD 1 g_need_row) (fCons (fVar 0) (fNil)))) (sCons (sAsg (fLstN (fNil)) (gVar 1)) (sCons (sFor (itR1 (fOp (opI fun i j => some (.int (i - j))) (fCall kLen (fCons (fVar 0) (fNil))) (fC (.int 1)))) (gVar 2) (L_exchanges_1)) (frz 1 (sRet (fVar 1)))))
noncomputable def g_exchanges (ws : List Wv) (μ : Sto) : Rs Wv := runF 4 B_exchanges ws μ
noncomputable abbrev L_law_12_1 : FS := sCons (sAsg (fOp addW (fOp addW (fSl (fVar 7) (fO0) (fO1 (fVar 3))) (fTup (fCons (fVar 8) (fNil)))) (fSl (fVar 7) (fO1 (fVar 3)) (fO0))) (gVar 9)) (sCons (sIf (fNot (fB (fCall (callD 2 g_alike) (fCons (fTup (fCons (fVar 9) (fNil))) (fCons (fTup (fCons (fOp addW (fTup (fCons (fVar 8) (fNil))) (fVar 7)) (fNil))) (fNil)))))) (sRet (fC (.bool false))) (sNil)) (sIf (fOr (fAnd (fB (fOp (cmpW fun i j => decide (j < i)) (fVar 3) (fC (.int 0)))) (fB (fOp (inW true) (fOp (opI fun i j => some (.int (i - j))) (fVar 3) (fC (.int 1))) (fCall (callD 1 g_exchanges) (fCons (fVar 9) (fNil)))))) (fAnd (fB (fOp (cmpW fun i j => decide (i < j)) (fVar 3) (fCall kLen (fCons (fVar 7) (fNil))))) (fB (fOp (inW true) (fVar 3) (fCall (callD 1 g_exchanges) (fCons (fVar 9) (fNil))))))) (sRet (fC (.bool false))) (sNil)))
noncomputable abbrev L_law_12_2 : FS := sCons (sAsg (fComp (itR1 (fC (.int 4))) (gVar 16) (fYes) (fCall (callD 2 g_shaped) (fCons (fVar 7) (fCons (fOp mulW (fVar 5) (fOp addW (fVar 4) (fOp mulW (fC (.int 60)) (fVar 16)))) (fNil)))) [16]) (gVar 10)) (sIf (fB (fOp (eqW true) (f1 lsW (fComp (itR1 (fC (.int 3))) (gVar 16) (fYes) (fOp (opI fun i j => some (.int (i - j))) (fOp ixW (fVar 10) (fOp addW (fVar 16) (fC (.int 1)))) (fOp ixW (fVar 10) (fVar 16))) [16])) (fC (.int 1)))) (sRet (fC (.bool false))) (sNil))
noncomputable abbrev L_law_12_3 : FS := sCons (sAsg (fCall (callD 2 g__law_bag) (fCons (fVar 0) (fCons (fVar 1) (fNil)))) (gVar 2)) (sCons (sAsg (fTup (fCons (fCall (callD 3 g__law_pedals) (fCons (fVar 2) (fCons (fC (.int 5)) (fCons (fC (.bool false)) (fNil))))) (fCons (fTup (fCons (fC (.str "late")) (fCons (fOp addW (fC (.int 1)) (fCall (callD 2 g__law_take) (fCons (fVar 2) (fCons (fC (.int 5)) (fNil))))) (fNil)))) (fNil)))) (gTupF 2 (gsCons (gVar 7) (gsCons (gVar 8) (gsNil))))) (sCons (sFor (itR1 (fOp addW (fCall kLen (fCons (fVar 7) (fNil))) (fC (.int 1)))) (gVar 3) (L_law_12_1)) (sCons (sAsg (fOp addW (fC (.int 400)) (fCall (callD 2 g__law_take) (fCons (fVar 2) (fCons (fOp (opI fun i j => if CPow i j then some (.int (i ^ j.toNat)) else none) (fC (.int 10)) (fC (.int 6))) (fNil))))) (gVar 4)) (sCons (sFor (itS (fTup (fCons (fC (.int 1)) (fCons (fNeg (fC (.int 1))) (fNil))))) (gVar 5) (L_law_12_2)) (sCons (sAsg (fTup (fCons (fCall (callD 2 g__law_board) (fCons (fVar 2) (fCons (fC (.int 4)) (fNil)))) (fCons (fCall (callD 2 g__law_numbers) (fCons (fVar 2) (fCons (fC (.int 20)) (fNil)))) (fNil)))) (gTupF 2 (gsCons (gVar 11) (gsCons (gVar 12) (gsNil))))) (sCons (sPar 13 14 (fCons (fCall (callD 1 g_silence) (fCons (fVar 11) (fNil))) (fCons (fOp addW (fC (.int 1)) (fCall (callD 2 g__law_take) (fCons (fVar 2) (fCons (fC (.int 4)) (fNil))))) (fNil)))) (sCons (sIf (fB (fOp (eqW true) (fSl (fCall (callD 2 g_heard) (fCons (fVar 11) (fCons (fOp addW (fOp mulTW (fTup (fCons (fC (.int 0)) (fNil))) (fVar 14)) (fVar 12)) (fNil)))) (fO1 (fVar 14)) (fO0)) (fCall (callD 2 g_heard) (fCons (fVar 11) (fCons (fVar 12) (fNil)))))) (sRet (fC (.bool false))) (sNil)) (sCons (sIf (fOr (fB (fOp (eqW true) (fCall (callD 2 g_heard) (fCons (fVar 11) (fCons (fOp mulTW (fTup (fCons (fC (.int 0)) (fNil))) (fC (.int 6))) (fNil)))) (fOp mulW (fLst (fCons (fVar 13) (fNil))) (fCall kLen (fCons (fCall (callD 2 g_heard) (fCons (fVar 11) (fCons (fOp mulTW (fTup (fCons (fC (.int 0)) (fNil))) (fC (.int 6))) (fNil)))) (fNil)))))) (fB (fOp (eqW true) (fCall (callD 2 g_loudest) (fCons (fVar 11) (fCons (fC (.int 0)) (fNil)))) (fCall kAbs (fCons (fVar 13) (fNil)))))) (sRet (fC (.bool false))) (sNil)) (sCons (sIf (fNot (fB (fCall (callD 2 g_alike) (fCons (fVar 11) (fCons (f1 revW (fVar 11)) (fNil)))))) (sRet (fC (.bool false))) (sNil)) (sCons (sAsg (fComp (itS (fVar 11)) (gVar 15) (fYes) (fSl (fCall (callD 2 g_heard) (fCons (fTup (fCons (fVar 15) (fNil))) (fCons (fOp addW (fVar 12) (fOp mulTW (fTup (fCons (fC (.int 0)) (fNil))) (fC (.int 15)))) (fNil)))) (fO0) (fO1 (fCall kLen (fCons (fVar 12) (fNil))))) [15]) (gVar 6)) (sIf (fB (fOp (eqW true) (fComp (itR1 (fCall kLen (fCons (fVar 12) (fNil)))) (gVar 17) (fYes) (fCall kSum (fCons (fComp (itS (fVar 6)) (gVar 18) (fYes) (fOp ixW (fVar 18) (fVar 17)) [18]) (fNil))) [17]) (fSl (fCall (callD 2 g_heard) (fCons (fVar 11) (fCons (fVar 12) (fNil)))) (fO0) (fO1 (fCall kLen (fCons (fVar 12) (fNil))))))) (sRet (fC (.bool false))) (sNil))))))))))))
noncomputable def B_law_12 : FS := sCons (sFor (itR1 (fCall kMax2 (fCons (fC (.int 3)) (fCons (fCall kMin2 (fCons (fC (.int 8)) (fCons (fOp addW (fCall kLen (fCons (fVar 0) (fNil))) (fC (.int 2))) (fNil)))) (fNil))))) (gVar 1) (L_law_12_3)) (sRet (fC (.bool true)))
noncomputable def g_law_12 (ws : List Wv) (μ : Sto) : Rs Wv := runF 19 B_law_12 ws μ
noncomputable def B_parting : FS := sCons (sExpr (fCall (callD 1 g_need_board) (fCons (fVar 0) (fNil)))) (sCons (sExpr (fCall (callD 1 g_need_board) (fCons (fVar 1) (fNil)))) (sRet (fCall (callD 2 g_parting_of) (fCons (fVar 0) (fCons (fVar 1) (fNil))))))
noncomputable def g_parting (ws : List Wv) (μ : Sto) : Rs Wv := runF 2 B_parting ws μ
noncomputable def B__law_other : FS := sCons (sPar 2 3 (fCons (fCall (callD 2 g__law_take) (fCons (fVar 0) (fCons (fC (.int 4)) (fNil)))) (fCons (fCall (callD 2 g__law_take) (fCons (fVar 0) (fCons (fCall kMax2 (fCons (fC (.int 1)) (fCons (fCall kLen (fCons (fVar 1) (fNil))) (fNil)))) (fNil)))) (fNil)))) (sCons (sIf (fOr (fB (fOp (eqW false) (fVar 2) (fC (.int 0)))) (fB (fOp (eqW false) (fVar 1) (fTup (fNil))))) (sRet (fOp addW (fOp addW (fSl (fVar 1) (fO0) (fO1 (fVar 3))) (fTup (fCons (fCall (callD 2 g__law_pedal) (fCons (fVar 0) (fCons (fC (.bool true)) (fNil)))) (fNil)))) (fSl (fVar 1) (fO1 (fOp addW (fVar 3) (fC (.int 1)))) (fO0)))) (sNil)) (sCons (sIf (fB (fOp (eqW false) (fVar 2) (fC (.int 1)))) (sRet (fOp addW (fOp addW (fSl (fVar 1) (fO0) (fO1 (fVar 3))) (f1 revW (fSl (fVar 1) (fO1 (fVar 3)) (fO1 (fOp addW (fVar 3) (fC (.int 2))))))) (fSl (fVar 1) (fO1 (fOp addW (fVar 3) (fC (.int 2)))) (fO0)))) (sNil)) (sCons (sIf (fB (fOp (eqW false) (fVar 2) (fC (.int 2)))) (sRet (fOp addW (fSl (fVar 1) (fO0) (fO1 (fVar 3))) (fSl (fVar 1) (fO1 (fOp addW (fVar 3) (fC (.int 1)))) (fO0)))) (sNil)) (sRet (fIf (fB (fOp (cmpW fun i j => decide (i < j)) (fCall kLen (fCons (fVar 1) (fNil))) (fC (.int 6)))) (fOp addW (fOp addW (fSl (fVar 1) (fO0) (fO1 (fVar 3))) (fTup (fCons (fOp ixW (fVar 1) (fVar 3)) (fCons (fCall (callD 2 g__law_pedal) (fCons (fVar 0) (fCons (fC (.bool false)) (fNil)))) (fNil))))) (fSl (fVar 1) (fO1 (fOp addW (fVar 3) (fC (.int 1)))) (fO0))) (fVar 1))))))
noncomputable def g__law_other (ws : List Wv) (μ : Sto) : Rs Wv := runF 4 B__law_other ws μ
noncomputable abbrev L__law_reach_1 : FS := sAsg (fCall kMax2 (fCons (fVar 1) (fCons (fOp addW (fC (.int 1)) (fCall kSum (fCons (fComp (itS (fVar 2)) (gVar 3) (fAnd (fB (fOp (eqW false) (fCall kLen (fCons (fVar 3) (fNil))) (fC (.int 2)))) (fB (fOp (eqW true) (fOp ixW (fVar 3) (fC (.int 0))) (fC (.str "late"))))) (fCall kAbs (fCons (fOp ixW (fVar 3) (fC (.int 1))) (fNil))) [3]) (fNil)))) (fNil)))) (gVar 1)
noncomputable def B__law_reach : FS := sCons (sAsg (fC (.int 1)) (gVar 1)) (sCons (sFor (itS (fVar 0)) (gVar 2) (L__law_reach_1)) (sRet (fOp addW (fVar 1) (fC (.int 120)))))
noncomputable def g__law_reach (ws : List Wv) (μ : Sto) : Rs Wv := runF 4 B__law_reach ws μ
noncomputable abbrev L__law_around_1 : FS := sAsg (fOp addW (fVar 1) (fLst (fCons (fVar 2) (fCons (fNeg (fVar 2)) (fNil))))) (gVar 1)
noncomputable def B__law_around : FS := sCons (sAsg (fLst (fCons (fC (.int 0)) (fNil))) (gVar 1)) (sCons (sFor (itR2 (fC (.int 1)) (fOp addW (fVar 0) (fC (.int 1)))) (gVar 2) (L__law_around_1)) (sRet (fVar 1)))
noncomputable def g__law_around (ws : List Wv) (μ : Sto) : Rs Wv := runF 3 B__law_around ws μ
noncomputable abbrev L__law_sums_1 : FS := sCons (sAsg (fCall (callD 1 g__law_lateness) (fCons (fVar 3) (fNil))) (gVar 4)) (sDput (fOp (opI fun i j => some (.int (i - j))) (fOp addW (fDget2 (fVar 2) (fVar 4) (fC (.int 0))) (fCall (callD 2 g__law_shape) (fCons (fVar 3) (fCons (fVar 1) (fNil))))) (fCall (callD 2 g__law_shape) (fCons (fVar 3) (fCons (fC (.int 0)) (fNil))))) (fVar 2) (fVar 4))
noncomputable def B__law_sums : FS := sCons (sAsg (fDictK) (gVar 2)) (sCons (sFor (itS (fVar 0)) (gVar 3) (L__law_sums_1)) (sRet (fComp (itS (f1 sdW (fVar 2))) (gVar 4) (fB (fOp (eqW true) (fDget (fVar 2) (fVar 4)) (fC (.int 0)))) (fTup (fCons (fVar 4) (fCons (fDget (fVar 2) (fVar 4)) (fNil)))) [4])))
noncomputable def g__law_sums (ws : List Wv) (μ : Sto) : Rs Wv := runF 5 B__law_sums ws μ
noncomputable def B__law_silence : FS := sRet (fCall kSum (fCons (fComp (itS (fVar 0)) (gVar 1) (fYes) (fCall (callD 2 g__law_shape) (fCons (fVar 1) (fCons (fC (.int 0)) (fNil)))) [1]) (fNil)))
noncomputable def g__law_silence (ws : List Wv) (μ : Sto) : Rs Wv := runF 2 B__law_silence ws μ
noncomputable abbrev L__law_softest_1 : FS := sIf (fB (fOp (eqW true) (fCall (callD 2 g__law_sums) (fCons (fVar 0) (fCons (fVar 2) (fNil)))) (fCall (callD 2 g__law_sums) (fCons (fVar 1) (fCons (fVar 2) (fNil)))))) (sRet (fCall kAbs (fCons (fVar 2) (fNil)))) (sNil)
noncomputable def B__law_softest : FS := sCons (sIf (fB (fOp (eqW true) (fCall (callD 1 g__law_silence) (fCons (fVar 0) (fNil))) (fCall (callD 1 g__law_silence) (fCons (fVar 1) (fNil))))) (sRet (fNeg (fC (.int 1)))) (sNil)) (sCons (sFor (itS (fCall (callD 1 g__law_around) (fCons (fCall (callD 1 g__law_reach) (fCons (fOp addW (fVar 0) (fVar 1)) (fNil))) (fNil)))) (gVar 2) (L__law_softest_1)) (sRet (fC .none)))
noncomputable def g__law_softest (ws : List Wv) (μ : Sto) : Rs Wv := runF 3 B__law_softest ws μ
noncomputable def B__law_beside : FS := sCons (sPar 2 3 (fCons (fCall (callD 2 g__law_take) (fCons (fVar 0) (fCons (fCall kLen (fCons (fVar 1) (fNil))) (fNil)))) (fCons (fCall (callD 2 g__law_take) (fCons (fVar 0) (fCons (fC (.int 5)) (fNil)))) (fNil)))) (sCons (sIf (fB (fOp (eqW false) (fVar 3) (fC (.int 0)))) (sRet (f1 revW (fVar 1))) (sNil)) (sCons (sIf (fAnd (fB (fOp (eqW false) (fVar 3) (fC (.int 1)))) (fAnd (fB (fOp (cmpW fun i j => decide (j < i)) (fCall kLen (fCons (fVar 1) (fNil))) (fC (.int 1)))) (fAnd (fB (fOp (cmpW fun i j => decide (i < j)) (fCall kLen (fCons (fOp ixW (fVar 1) (fC (.int 0))) (fNil))) (fC (.int 6)))) (fB (fOp (cmpW fun i j => decide (i < j)) (fCall kLen (fCons (fOp ixW (fVar 1) (fC (.int 1))) (fNil))) (fC (.int 6))))))) (sRet (fOp addW (fTup (fCons (fOp addW (fOp ixW (fVar 1) (fC (.int 0))) (fTup (fCons (fTup (fCons (fC (.str "lift")) (fCons (fC (.int 3)) (fNil)))) (fNil)))) (fCons (fOp addW (fOp ixW (fVar 1) (fC (.int 1))) (fTup (fCons (fTup (fCons (fC (.str "lift")) (fCons (fNeg (fC (.int 3))) (fNil)))) (fNil)))) (fNil)))) (fSl (fVar 1) (fO1 (fC (.int 2))) (fO0)))) (sNil)) (sCons (sIf (fAnd (fB (fOp (eqW false) (fVar 3) (fC (.int 2)))) (fB (fOp (cmpW fun i j => decide (i < j)) (fCall kLen (fCons (fVar 1) (fNil))) (fC (.int 3))))) (sRet (fOp addW (fVar 1) (fTup (fCons (fCall (callD 2 g__law_of) (fCons (fVar 0) (fCons (fLst (fCons (fTup (fCons (fTup (fCons (fC (.str "cut")) (fCons (fC (.int 1)) (fNil)))) (fCons (fTup (fCons (fC (.str "gate")) (fCons (fC (.int 2)) (fNil)))) (fNil)))) (fCons (fTup (fCons (fTup (fCons (fC (.str "lift")) (fCons (fC (.int 2)) (fNil)))) (fCons (fTup (fCons (fC (.str "cut")) (fCons (fC (.int 1)) (fNil)))) (fCons (fTup (fCons (fC (.str "fold")) (fNil))) (fNil))))) (fNil)))) (fNil)))) (fNil))))) (sNil)) (sRet (fOp addW (fOp addW (fSl (fVar 1) (fO0) (fO1 (fVar 2))) (fTup (fCons (fCall (callD 2 g__law_other) (fCons (fVar 0) (fCons (fOp ixW (fVar 1) (fVar 2)) (fNil)))) (fNil)))) (fSl (fVar 1) (fO1 (fOp addW (fVar 2) (fC (.int 1)))) (fO0)))))))
noncomputable def g__law_beside (ws : List Wv) (μ : Sto) : Rs Wv := runF 4 B__law_beside ws μ
noncomputable def B__law_right : FS := sCons (sPar3 2 3 4 (fCons (fCall (callD 2 g__law_softest) (fCons (fVar 0) (fCons (fVar 1) (fNil)))) (fCons (fCall (callD 2 g_parting) (fCons (fVar 0) (fCons (fVar 1) (fNil)))) (fCons (fCall (callD 2 g_alike) (fCons (fVar 0) (fCons (fVar 1) (fNil)))) (fNil))))) (sCons (sIf (fOr (fNot (fB (fIsi "bool" (fVar 4)))) (fOr (fB (fOp (eqW true) (fVar 4) (fOp (isNW false) (fVar 2) (fC .none)))) (fB (fOp (eqW true) (fOp (isNW false) (fVar 3) (fC .none)) (fVar 4))))) (sRet (fC (.bool false))) (sNil)) (sCons (sIf (fB (fOp (isNW false) (fVar 3) (fC .none))) (sRet (fC (.bool true))) (sNil)) (sCons (sIf (fOr (fNot (fB (fIsi "tuple" (fVar 3)))) (fB (fOp (eqW true) (fCall kLen (fCons (fVar 3) (fNil))) (fCall kInt (fCons (fOp (cmpW fun i j => decide (j ≤ i)) (fVar 2) (fC (.int 0))) (fNil)))))) (sRet (fC (.bool false))) (sNil)) (sCons (sIf (fB (fOp (eqW false) (fVar 3) (fTup (fNil)))) (sRet (fOp (eqW false) (fVar 2) (fNeg (fC (.int 1))))) (sNil)) (sRet (fAndV (fOp (eqW false) (fCall kAbs (fCons (fOp ixW (fVar 3) (fC (.int 0))) (fNil))) (fVar 2)) (fOp (eqW true) (fCall (callD 2 g__law_sums) (fCons (fVar 0) (fCons (fOp ixW (fVar 3) (fC (.int 0))) (fNil)))) (fCall (callD 2 g__law_sums) (fCons (fVar 1) (fCons (fOp ixW (fVar 3) (fC (.int 0))) (fNil)))))))))))
noncomputable def g__law_right (ws : List Wv) (μ : Sto) : Rs Wv := runF 5 B__law_right ws μ
noncomputable abbrev L_law_3_1 : FS := sCons (sAsg (fCall (callD 2 g__law_bag) (fCons (fVar 0) (fCons (fVar 1) (fNil)))) (gVar 2)) (sCons (sAsg (fCall (callD 2 g__law_board) (fCons (fVar 2) (fCons (fC (.int 5)) (fNil)))) (gVar 3)) (sCons (sAsg (fCall (callD 2 g__law_beside) (fCons (fVar 2) (fCons (fVar 3) (fNil)))) (gVar 4)) (sCons (sIf (fOr (fNot (fB (fCall (callD 2 g__law_right) (fCons (fVar 3) (fCons (fVar 4) (fNil)))))) (fOr (fNot (fB (fCall (callD 2 g__law_right) (fCons (fVar 4) (fCons (fVar 3) (fNil)))))) (fNot (fB (fCall (callD 2 g__law_right) (fCons (fVar 3) (fCons (fVar 3) (fNil)))))))) (sRet (fC (.bool false))) (sNil)) (sIf (fNot (fB (fCall (callD 2 g__law_right) (fCons (fVar 3) (fCons (fCall (callD 2 g__law_beside) (fCons (fVar 2) (fCons (fVar 4) (fNil)))) (fNil)))))) (sRet (fC (.bool false))) (sNil)))))
noncomputable def B_law_3 : FS := sCons (sFor (itR1 (fCall kMax2 (fCons (fC (.int 3)) (fCons (fCall kMin2 (fCons (fC (.int 8)) (fCons (fOp addW (fCall kLen (fCons (fVar 0) (fNil))) (fC (.int 2))) (fNil)))) (fNil))))) (gVar 1) (L_law_3_1)) (sRet (fC (.bool true)))
noncomputable def g_law_3 (ws : List Wv) (μ : Sto) : Rs Wv := runF 5 B_law_3 ws μ
noncomputable def B_less_at : FS := sRet (fOp addW (fSl (fVar 0) (fO0) (fO1 (fVar 1))) (fSl (fVar 0) (fO1 (fOp addW (fVar 1) (fC (.int 1)))) (fO0)))
noncomputable def g_less_at (ws : List Wv) (μ : Sto) : Rs Wv := runF 2 B_less_at ws μ
noncomputable abbrev L_needless_1 : FS := sCons (sAsg (fOp addW (fOp addW (fSl (fVar 0) (fO0) (fO1 (fVar 2))) (fTup (fCons (fCall (callD 2 g_less_at) (fCons (fVar 3) (fCons (fVar 4) (fNil)))) (fNil)))) (fSl (fVar 0) (fO1 (fOp addW (fVar 2) (fC (.int 1)))) (fO0))) (gVar 5)) (sIf (fB (fOp (isNW false) (fCall (callD 2 g_parting_of) (fCons (fVar 0) (fCons (fVar 5) (fNil)))) (fC .none))) (sExpr (fApp (fVar 1) (fTup (fCons (fVar 2) (fCons (fVar 4) (fNil)))))) (sNil))
noncomputable abbrev L_needless_2 : FS := sFor (itR1 (fCall kLen (fCons (fVar 3) (fNil)))) (gVar 4) (L_needless_1)
noncomputable def B_needless : FS := sCons (sExpr (fCall (callD 1 g_need_board) (fCons (fVar 0) (fNil)))) (sCons (sAsg (fLstN (fNil)) (gVar 1)) (sCons (sFor (itEnT (fVar 0)) (gTupF 2 (gsCons (gVar 2) (gsCons (gVar 3) (gsNil)))) (L_needless_2)) (frz 1 (sRet (fVar 1)))))
noncomputable def g_needless (ws : List Wv) (μ : Sto) : Rs Wv := runF 6 B_needless ws μ
noncomputable abbrev L_law_4_1 : FS := sCons (sAsg (fOp addW (fOp addW (fSl (fVar 4) (fO0) (fO1 (fVar 3))) (f1 revW (fSl (fVar 4) (fO1 (fVar 3)) (fO1 (fOp addW (fVar 3) (fC (.int 2))))))) (fSl (fVar 4) (fO1 (fOp addW (fVar 3) (fC (.int 2)))) (fO0))) (gVar 6)) (sAsg (fOp addLW (fVar 5) (fOp mulW (fLst (fCons (fVar 3) (fNil))) (fCall kInt (fCons (fOp (isNW false) (fCall (callD 2 g__law_softest) (fCons (fTup (fCons (fVar 4) (fNil))) (fCons (fTup (fCons (fVar 6) (fNil))) (fNil)))) (fC .none)) (fNil))))) (gVar 5))
noncomputable abbrev L_law_4_2 : FS := sCons (sAsg (fOp addW (fSl (fOp ixW (fVar 7) (fVar 3)) (fO0) (fO1 (fVar 8))) (fSl (fOp ixW (fVar 7) (fVar 3)) (fO1 (fOp addW (fVar 8) (fC (.int 1)))) (fO0))) (gVar 9)) (sIf (fB (fOp (isNW false) (fCall (callD 2 g__law_softest) (fCons (fVar 7) (fCons (fOp addW (fOp addW (fSl (fVar 7) (fO0) (fO1 (fVar 3))) (fTup (fCons (fVar 9) (fNil)))) (fSl (fVar 7) (fO1 (fOp addW (fVar 3) (fC (.int 1)))) (fO0))) (fNil)))) (fC .none))) (sExpr (fApp (fVar 5) (fTup (fCons (fVar 3) (fCons (fVar 8) (fNil)))))) (sNil))
noncomputable abbrev L_law_4_3 : FS := sFor (itR1 (fCall kLen (fCons (fOp ixW (fVar 7) (fVar 3)) (fNil)))) (gVar 8) (L_law_4_2)
noncomputable abbrev L_law_4_4 : FS := sCons (sAsg (fCall (callD 2 g__law_bag) (fCons (fVar 0) (fCons (fVar 1) (fNil)))) (gVar 2)) (sCons (sPar 4 5 (fCons (fCall (callD 3 g__law_pedals) (fCons (fVar 2) (fCons (fC (.int 6)) (fCons (fC (.bool true)) (fNil))))) (fCons (fLstN (fNil)) (fNil)))) (sCons (sFor (itR1 (fOp (opI fun i j => some (.int (i - j))) (fCall kLen (fCons (fVar 4) (fNil))) (fC (.int 1)))) (gVar 3) (L_law_4_1)) (sCons (sIf (fB (fOp neLW (fCall (callD 1 g_exchanges) (fCons (fVar 4) (fNil))) (fVar 5))) (sRet (fC (.bool false))) (sNil)) (sCons (sPar 7 5 (fCons (fSl (fTup (fCons (fCall (callD 3 g__law_pedals) (fCons (fVar 2) (fCons (fC (.int 4)) (fCons (fC (.bool true)) (fNil))))) (fCons (fCall (callD 3 g__law_pedals) (fCons (fVar 2) (fCons (fC (.int 4)) (fCons (fC (.bool true)) (fNil))))) (fNil)))) (fO0) (fO1 (fOp addW (fC (.int 1)) (fCall (callD 2 g__law_take) (fCons (fVar 2) (fCons (fC (.int 2)) (fNil))))))) (fCons (fLstN (fNil)) (fNil)))) (sCons (sFor (itR1 (fCall kLen (fCons (fVar 7) (fNil)))) (gVar 3) (L_law_4_3)) (sIf (fB (fOp neLW (fCall (callD 1 g_needless) (fCons (fVar 7) (fNil))) (fVar 5))) (sRet (fC (.bool false))) (sNil)))))))
noncomputable def B_law_4 : FS := sCons (sFor (itR1 (fCall kMax2 (fCons (fC (.int 3)) (fCons (fCall kMin2 (fCons (fC (.int 7)) (fCons (fOp addW (fCall kLen (fCons (fVar 0) (fNil))) (fC (.int 2))) (fNil)))) (fNil))))) (gVar 1) (L_law_4_4)) (sRet (fC (.bool true)))
noncomputable def g_law_4 (ws : List Wv) (μ : Sto) : Rs Wv := runF 10 B_law_4 ws μ
noncomputable abbrev L_acts_1 : FS := sCons (sAsg (fCall (callD 2 g_row_shape) (fCons (fSl (fVar 0) (fO0) (fO1 (fVar 1))) (fCons (fVar 3) (fNil)))) (gVar 4)) (sIf (fB (fOp (eqW true) (fCall (callD 2 g_pedal_shape) (fCons (fOp ixW (fVar 0) (fVar 1)) (fCons (fVar 4) (fNil)))) (fVar 4))) (sRet (fC (.bool true))) (sNil))
noncomputable def B_acts : FS := sCons (sFor (itR2 (fOp (opI fun i j => some (.int (i - j))) (fC (.int 0)) (fVar 2)) (fOp addW (fVar 2) (fC (.int 1)))) (gVar 3) (L_acts_1)) (sRet (fC (.bool false)))
noncomputable def g_acts (ws : List Wv) (μ : Sto) : Rs Wv := runF 5 B_acts ws μ
noncomputable def B_idle : FS := sCons (sExpr (fCall (callD 1 g_need_row) (fCons (fVar 0) (fNil)))) (sCons (sExpr (fCall (callD 1 g_need_most) (fCons (fVar 1) (fNil)))) (sCons (sAsg (fComp (itEnT (fVar 0)) (gTupF 2 (gsCons (gVar 3) (gsCons (gVar 4) (gsNil)))) (fB (fOp (eqW true) (fOp ixW (fVar 4) (fC (.int 0))) (fC (.str "late")))) (fVar 3) [3, 4]) (gVar 2)) (sRet (fComp (itS (fVar 2)) (gVar 3) (fNot (fB (fCall (callD 3 g_acts) (fCons (fVar 0) (fCons (fVar 3) (fCons (fVar 1) (fNil))))))) (fVar 3) [3]))))
noncomputable def g_idle (ws : List Wv) (μ : Sto) : Rs Wv := runF 5 B_idle ws μ
noncomputable abbrev L__law_extremes_1 : FS := sCons (sAsg (fComp (itS (fVar 0)) (gVar 6) (fB (fOp (eqW false) (fCall (callD 1 g__law_lateness) (fCons (fVar 6) (fNil))) (fVar 3))) (fVar 6) [6]) (gVar 4)) (sCons (sAsg (fComp (itR2 (fNeg (fVar 1)) (fOp addW (fVar 1) (fC (.int 1)))) (gVar 7) (fYes) (fTup (fCons (fCall kSum (fCons (fComp (itS (fVar 4)) (gVar 6) (fYes) (fCall (callD 2 g__law_shape) (fCons (fVar 6) (fCons (fVar 7) (fNil)))) [6]) (fNil))) (fCons (fVar 7) (fNil)))) [7]) (gVar 5)) (sDput (fTup (fCons (fCall (kBest PySem.W.minD) (fCons (fVar 5) (fNil))) (fCons (fCall (kBest PySem.W.maxD) (fCons (fVar 5) (fNil))) (fNil)))) (fVar 2) (fVar 3)))
noncomputable def B__law_extremes : FS := sCons (sAsg (fDictK) (gVar 2)) (sCons (sFor (itS (f1 ssW (fComp (itS (fVar 0)) (gVar 6) (fYes) (fCall (callD 1 g__law_lateness) (fCons (fVar 6) (fNil))) [6]))) (gVar 3) (L__law_extremes_1)) (sRet (fVar 2)))
noncomputable def g__law_extremes (ws : List Wv) (μ : Sto) : Rs Wv := runF 8 B__law_extremes ws μ
noncomputable abbrev L__law_loud_sound_1 : FS := sSetIx (fOp ixW (fOp ixW (fDget (fVar 0) (fVar 4)) (fVar 1)) (fC (.int 1))) (fVar 3) (fOp (opI fun i j => some (.int (i - j))) (fVar 2) (fVar 4))
noncomputable def B__law_loud_sound : FS := sCons (sAsg (fCall kMax (fCons (lockE 0 (fComp (itK (fVar 0)) (gVar 4) (fYes) (fVar 4) [4])) (fNil))) (gVar 2)) (sCons (sAsg (fOp mulN (fLst (fCons (fC (.int 0)) (fNil))) (fOp addW (fVar 2) (fC (.int 1)))) (gVar 3)) (sCons (lockS 0 (sFor (itK (fVar 0)) (gVar 4) (L__law_loud_sound_1))) (frz 3 (sRet (fTup (fCons (fCall kTuple (fCons (fVar 3) (fNil))) (fCons (fVar 2) (fNil))))))))
noncomputable def g__law_loud_sound (ws : List Wv) (μ : Sto) : Rs Wv := runF 5 B__law_loud_sound ws μ
noncomputable abbrev L_law_6_1 : FS := sCons (sAsg (fCall (callD 2 g__law_loud_sound) (fCons (fVar 3) (fCons (fVar 7) (fNil)))) (gTupF 2 (gsCons (gVar 15) (gsCons (gVar 16) (gsNil))))) (sExpr (fApp (fVar 6) (fCall kAbs (fCons (fOp ixW (fCall (callD 2 g_heard) (fCons (fVar 9) (fCons (fVar 15) (fNil)))) (fVar 16)) (fNil)))))
noncomputable abbrev L_law_6_2 : FS := sCons (sAsg (fComp (itR2 (fNeg (fVar 10)) (fOp addW (fVar 10) (fC (.int 1)))) (gVar 17) (fYes) (fCall (callD 2 g__law_shape) (fCons (fSl (fVar 11) (fO0) (fO1 (fVar 8))) (fCons (fVar 17) (fNil)))) [17]) (gVar 13)) (sCons (sAsg (fComp (itS (fVar 13)) (gVar 17) (fB (fOp (eqW true) (fCall (callD 2 g__law_shape) (fCons (fSl (fVar 11) (fO1 (fVar 8)) (fO1 (fOp addW (fVar 8) (fC (.int 1))))) (fCons (fVar 17) (fNil)))) (fVar 17))) (fVar 17) [17]) (gVar 14)) (sAsg (fOp addW (fVar 12) (fOp mulW (fLst (fCons (fVar 8) (fNil))) (fCall kInt (fCons (fAndV (fOp (eqW false) (fVar 14) (fLst (fNil))) (fOp (eqW true) (fOp ixW (fOp ixW (fVar 11) (fVar 8)) (fC (.int 0))) (fC (.str "late")))) (fNil))))) (gVar 12)))
noncomputable abbrev L_law_6_3 : FS := sCons (sAsg (fCall (callD 2 g__law_bag) (fCons (fVar 0) (fCons (fVar 1) (fNil)))) (gVar 2)) (sCons (sPar 9 10 (fCons (fCall (callD 2 g__law_board) (fCons (fVar 2) (fCons (fC (.int 4)) (fNil)))) (fCons (fCall (callD 2 g__law_take) (fCons (fVar 2) (fCons (fCall (callD 2 g__law_of) (fCons (fVar 2) (fCons (fLst (fCons (fC (.int 6)) (fCons (fC (.int 30)) (fCons (fC (.int 90)) (fNil))))) (fNil)))) (fNil)))) (fNil)))) (sCons (sAsg (fCall (callD 2 g__law_extremes) (fCons (fVar 9) (fCons (fVar 10) (fNil)))) (gVar 3)) (sCons (sAsg (fComp (itR1 (fC (.int 2))) (gVar 7) (fYes) (fCall kSum (fCons (lockE 3 (fComp (itK (fVar 3)) (gVar 18) (fYes) (fOp ixW (fOp ixW (fDget (fVar 3) (fVar 18)) (fVar 7)) (fC (.int 0))) [18])) (fNil))) [7]) (gVar 4)) (sCons (sAsg (fCall kMax2 (fCons (fCall kAbs (fCons (fOp ixW (fVar 4) (fC (.int 0))) (fNil))) (fCons (fCall kAbs (fCons (fOp ixW (fVar 4) (fC (.int 1))) (fNil))) (fNil)))) (gVar 5)) (sCons (sIf (fB (fOp (eqW true) (fCall (callD 2 g_loudest) (fCons (fVar 9) (fCons (fVar 10) (fNil)))) (fVar 5))) (sRet (fC (.bool false))) (sNil)) (sCons (sAsg (fLstN (fNil)) (gVar 6)) (sCons (sFor (itR1 (fC (.int 2))) (gVar 7) (L_law_6_1)) (frz 6 (sCons (sIf (fB (fOp (eqW true) (fCall kMax (fCons (fVar 6) (fNil))) (fVar 5))) (sRet (fC (.bool false))) (sNil)) (sCons (sAsg (fTup (fCons (fCall (callD 3 g__law_pedals) (fCons (fVar 2) (fCons (fC (.int 6)) (fCons (fC (.bool true)) (fNil))))) (fCons (fLst (fNil)) (fNil)))) (gTupF 2 (gsCons (gVar 11) (gsCons (gVar 12) (gsNil))))) (sCons (sFor (itR1 (fCall kLen (fCons (fVar 11) (fNil)))) (gVar 8) (L_law_6_2)) (sIf (fB (fOp (eqW true) (fCall (callD 2 g_idle) (fCons (fVar 11) (fCons (fVar 10) (fNil)))) (fVar 12))) (sRet (fC (.bool false))) (sNil)))))))))))))
noncomputable def B_law_6 : FS := sCons (sFor (itR1 (fCall kMax2 (fCons (fC (.int 3)) (fCons (fCall kMin2 (fCons (fC (.int 8)) (fCons (fOp addW (fCall kLen (fCons (fVar 0) (fNil))) (fC (.int 2))) (fNil)))) (fNil))))) (gVar 1) (L_law_6_3)) (sRet (fC (.bool true)))
noncomputable def g_law_6 (ws : List Wv) (μ : Sto) : Rs Wv := runF 19 B_law_6 ws μ
noncomputable abbrev L_turned_rows_1 : FS := sIf (fAnd (fB (fOp (eqW true) (fVar 4) (fOp ixW (fVar 3) (fC (.int 1))))) (fB (fCall (callD 1 g_is_pedal) (fCons (fTup (fCons (fOp ixW (fVar 3) (fC (.int 0))) (fCons (fVar 4) (fNil)))) (fNil))))) (sExpr (fApp (fVar 1) (fOp addW (fOp addW (fSl (fVar 0) (fO0) (fO1 (fVar 2))) (fTup (fCons (fTup (fCons (fOp ixW (fVar 3) (fC (.int 0))) (fCons (fVar 4) (fNil)))) (fNil)))) (fSl (fVar 0) (fO1 (fOp addW (fVar 2) (fC (.int 1)))) (fO0))))) (sNil)
noncomputable abbrev L_turned_rows_2 : FS := sIf (fB (fOp (eqW false) (fCall kLen (fCons (fVar 3) (fNil))) (fC (.int 2)))) (sCons (sTab v_BOUNDS 5 6 (fOp ixW (fVar 3) (fC (.int 0)))) (sFor (itR2 (fVar 5) (fOp addW (fVar 6) (fC (.int 1)))) (gVar 4) (L_turned_rows_1))) (sNil)
noncomputable def B_turned_rows : FS := sCons (sAsg (fLstN (fNil)) (gVar 1)) (sCons (sFor (itEnT (fVar 0)) (gTupF 2 (gsCons (gVar 2) (gsCons (gVar 3) (gsNil)))) (L_turned_rows_2)) (frz 1 (sRet (fVar 1))))
noncomputable def g_turned_rows (ws : List Wv) (μ : Sto) : Rs Wv := runF 7 B_turned_rows ws μ
noncomputable def B_knobs : FS := sCons (sExpr (fCall (callD 1 g_need_row) (fCons (fVar 0) (fNil)))) (sCons (sExpr (fCall (callD 1 g_need_row) (fCons (fVar 1) (fNil)))) (sRet (fCall kSorted (fCons (fComp (itS (fCall (callD 1 g_turned_rows) (fCons (fVar 0) (fNil)))) (gVar 2) (fB (fOp (isNW false) (fCall (callD 2 g_parting_of) (fCons (fTup (fCons (fVar 2) (fNil))) (fCons (fTup (fCons (fVar 1) (fNil))) (fNil)))) (fC .none))) (fVar 2) [2]) (fNil)))))
noncomputable def g_knobs (ws : List Wv) (μ : Sto) : Rs Wv := runF 3 B_knobs ws μ
noncomputable abbrev L__law_turned_1 : FS := sIf (fB (fOp (inW true) (fVar 4) (fLst (fCons (fC (.int 0)) (fCons (fVar 6) (fNil)))))) (sExpr (fApp (fVar 2) (fOp addW (fOp addW (fSl (fVar 0) (fO0) (fO1 (fVar 3))) (fTup (fCons (fTup (fCons (fVar 5) (fCons (fVar 4) (fNil)))) (fNil)))) (fSl (fVar 0) (fO1 (fOp addW (fVar 3) (fC (.int 1)))) (fO0))))) (sNil)
noncomputable abbrev L__law_turned_2 : FS := sIf (fB (fOp (eqW false) (fCall kLen (fCons (fOp ixW (fVar 0) (fVar 3)) (fNil))) (fC (.int 2)))) (sCons (sAsg (fOp ixW (fVar 0) (fVar 3)) (gTupF 2 (gsCons (gVar 5) (gsCons (gVar 6) (gsNil))))) (sCons (sAsg (fDget (fVar 1) (fVar 5)) (gTupF 2 (gsCons (gVar 7) (gsCons (gVar 8) (gsNil))))) (sFor (itR2 (fVar 7) (fOp addW (fVar 8) (fC (.int 1)))) (gVar 4) (L__law_turned_1)))) (sNil)
noncomputable def B__law_turned : FS := sCons (sAsg (fDisp (fPsC (fC (.str "louder")) (fTup (fCons (fC (.int 2)) (fCons (fC (.int 4)) (fNil)))) (fPsC (fC (.str "cut")) (fTup (fCons (fC (.int 1)) (fCons (fC (.int 50)) (fNil)))) (fPsC (fC (.str "gate")) (fTup (fCons (fC (.int 1)) (fCons (fC (.int 50)) (fNil)))) (fPsC (fC (.str "lift")) (fTup (fCons (fNeg (fC (.int 20))) (fCons (fC (.int 20)) (fNil)))) (fPsC (fC (.str "steps")) (fTup (fCons (fC (.int 2)) (fCons (fC (.int 5)) (fNil)))) (fPsC (fC (.str "late")) (fTup (fCons (fC (.int 1)) (fCons (fC (.int 5)) (fNil)))) (fPs0)))))))) (gVar 1)) (sCons (sAsg (fLstN (fNil)) (gVar 2)) (sCons (sFor (itR1 (fCall kLen (fCons (fVar 0) (fNil)))) (gVar 3) (L__law_turned_2)) (frz 2 (sRet (fVar 2)))))
noncomputable def g__law_turned (ws : List Wv) (μ : Sto) : Rs Wv := runF 9 B__law_turned ws μ
noncomputable abbrev L_law_11_1 : FS := sCons (sAsg (fCall (callD 2 g__law_bag) (fCons (fVar 0) (fCons (fVar 1) (fNil)))) (gVar 2)) (sCons (sAsg (fCall (callD 3 g__law_pedals) (fCons (fVar 2) (fCons (fC (.int 3)) (fCons (fC (.bool true)) (fNil))))) (gVar 3)) (sCons (sAsg (fOp addW (fCall (callD 1 g__law_turned) (fCons (fVar 3) (fNil))) (fLst (fCons (fVar 3) (fNil)))) (gVar 4)) (sCons (sAsg (fCall (callD 2 g__law_of) (fCons (fVar 2) (fCons (fVar 4) (fNil)))) (gVar 5)) (sCons (sIf (fB (fOp (eqW false) (fCall (callD 2 g__law_take) (fCons (fVar 2) (fCons (fC (.int 2)) (fNil)))) (fC (.int 0)))) (sAsg (fCall (callD 2 g__law_other) (fCons (fVar 2) (fCons (fVar 5) (fNil)))) (gVar 5)) (sNil)) (sCons (sAsg (fComp (itS (fSl (fVar 4) (fO0) (fO1 (fNeg (fC (.int 1)))))) (gVar 7) (fB (fOp (isNW false) (fCall (callD 2 g__law_softest) (fCons (fTup (fCons (fVar 7) (fNil))) (fCons (fTup (fCons (fVar 5) (fNil))) (fNil)))) (fC .none))) (fVar 7) [7]) (gVar 6)) (sIf (fB (fOp (eqW true) (fCall (callD 2 g_knobs) (fCons (fVar 3) (fCons (fVar 5) (fNil)))) (fCall kSorted (fCons (fVar 6) (fNil))))) (sRet (fC (.bool false))) (sNil)))))))
noncomputable def B_law_11 : FS := sCons (sFor (itR1 (fCall kMax2 (fCons (fC (.int 2)) (fCons (fCall kMin2 (fCons (fC (.int 5)) (fCons (fOp addW (fCall kLen (fCons (fVar 0) (fNil))) (fC (.int 2))) (fNil)))) (fNil))))) (gVar 1) (L_law_11_1)) (sRet (fC (.bool true)))
noncomputable def g_law_11 (ws : List Wv) (μ : Sto) : Rs Wv := runF 8 B_law_11 ws μ
noncomputable def B_window_of : FS := sRet (fOp mulW (fC (.int 3)) (fCall (callD 1 g_span_of) (fCons (fVar 0) (fNil))))
noncomputable def g_window_of (ws : List Wv) (μ : Sto) : Rs Wv := runF 1 B_window_of ws μ
noncomputable abbrev L_far_source_1 : FS := sCons (sAsg (fCall (callD 2 g_row_shape) (fCons (fVar 0) (fCons (fOp mulW (fVar 6) (fVar 2)) (fNil)))) (gVar 7)) (sCons (sAsg (fOp (opI fun i j => some (.int (i - j))) (fCall (callD 2 g_row_shape) (fCons (fVar 0) (fCons (fOp mulW (fVar 6) (fOp addW (fVar 2) (fVar 4))) (fNil)))) (fVar 7)) (gVar 8)) (sIf (fAnd (fB (fOp (eqW true) (fVar 8) (fC (.int 0)))) (fAnd (fB (fOp (eqW false) (fOp (opI modI) (fOp (opI fun i j => some (.int (i - j))) (fVar 1) (fVar 7)) (fVar 8)) (fC (.int 0)))) (fB (fOp (cmpW fun i j => decide (j ≤ i)) (fOp (opI divI) (fOp (opI fun i j => some (.int (i - j))) (fVar 1) (fVar 7)) (fVar 8)) (fC (.int 0)))))) (sExpr (fApp (fVar 5) (fOp mulW (fVar 6) (fOp addW (fVar 2) (fOp mulW (fVar 4) (fOp (opI divI) (fOp (opI fun i j => some (.int (i - j))) (fVar 1) (fVar 7)) (fVar 8))))))) (sNil)))
noncomputable abbrev L_far_source_2 : FS := sFor (itS (fTup (fCons (fC (.int 1)) (fCons (fNeg (fC (.int 1))) (fNil))))) (gVar 6) (L_far_source_1)
noncomputable def B_far_source : FS := sCons (sPar3 3 4 5 (fCons (fCall (callD 1 g_near_of) (fCons (fLst (fCons (fVar 0) (fNil))) (fNil))) (fCons (fCall (callD 1 g_period_of) (fCons (fLst (fCons (fVar 0) (fNil))) (fNil))) (fCons (fLstN (fNil)) (fNil))))) (sCons (sFor (itR2 (fVar 3) (fOp addW (fVar 3) (fVar 4))) (gVar 2) (L_far_source_2)) (frz 5 (sRet (fVar 5))))
noncomputable def g_far_source (ws : List Wv) (μ : Sto) : Rs Wv := runF 9 B_far_source ws μ
noncomputable def B_softest : FS := sRet (fIf (fB (fOp (eqW true) (fVar 0) (fLst (fNil)))) (fOp ixW (fOp ixW (fCall kSorted (fCons (fComp (itS (fVar 0)) (gVar 1) (fYes) (fTup (fCons (fCall (callD 1 g_loudness) (fCons (fVar 1) (fNil))) (fCons (fVar 1) (fNil)))) [1]) (fNil))) (fC (.int 0))) (fC (.int 1))) (fC .none))
noncomputable def g_softest (ws : List Wv) (μ : Sto) : Rs Wv := runF 2 B_softest ws μ
noncomputable abbrev L_source_of_1 : FS := sIf (fB (fOp (eqW false) (fCall (callD 2 g_row_shape) (fCons (fVar 0) (fCons (fVar 2) (fNil)))) (fVar 1))) (sRet (fVar 2)) (sNil)
noncomputable def B_source_of : FS := sCons (sFor (itS (fCall (callD 1 g_by_loudness) (fCons (fCall (callD 1 g_near_of) (fCons (fLst (fCons (fVar 0) (fNil))) (fNil))) (fNil)))) (gVar 2) (L_source_of_1)) (sRet (fCall (callD 1 g_softest) (fCons (fCall (callD 2 g_far_source) (fCons (fVar 0) (fCons (fVar 1) (fNil)))) (fNil))))
noncomputable def g_source_of (ws : List Wv) (μ : Sto) : Rs Wv := runF 3 B_source_of ws μ
noncomputable abbrev L_confused_of_1 : FS := sCons (sAsg (fCall (callD 2 g_row_shape) (fCons (fVar 0) (fCons (fVar 2) (fNil)))) (gVar 3)) (sCons (sIf (fB (fDin false (fVar 3) (fVar 1))) (sRet (fTup (fCons (fDget (fVar 1) (fVar 3)) (fCons (fVar 2) (fNil))))) (sNil)) (sDput (fVar 2) (fVar 1) (fVar 3)))
noncomputable def B_confused_of : FS := sCons (sAsg (fDictK) (gVar 1)) (sCons (sFor (itS (fCall (callD 1 g_by_loudness) (fCons (fCall (callD 1 g_window_of) (fCons (fLst (fCons (fVar 0) (fNil))) (fNil))) (fNil)))) (gVar 2) (L_confused_of_1)) (sRet (fC .none)))
noncomputable def g_confused_of (ws : List Wv) (μ : Sto) : Rs Wv := runF 4 B_confused_of ws μ
noncomputable def B_source : FS := sCons (sExpr (fCall (callD 1 g_need_row) (fCons (fVar 0) (fNil)))) (sCons (sExpr (fCall (callD 1 g_need_number) (fCons (fVar 1) (fNil)))) (sRet (fCall (callD 2 g_source_of) (fCons (fVar 0) (fCons (fVar 1) (fNil))))))
noncomputable def g_source (ws : List Wv) (μ : Sto) : Rs Wv := runF 2 B_source ws μ
noncomputable def B_confused : FS := sCons (sExpr (fCall (callD 1 g_need_row) (fCons (fVar 0) (fNil)))) (sRet (fCall (callD 1 g_confused_of) (fCons (fVar 0) (fNil))))
noncomputable def g_confused (ws : List Wv) (μ : Sto) : Rs Wv := runF 1 B_confused ws μ
noncomputable abbrev L__law_softest_source_1 : FS := sIf (fB (fOp (eqW false) (fCall (callD 2 g__law_shape) (fCons (fVar 0) (fCons (fVar 2) (fNil)))) (fVar 1))) (sRet (fCall kAbs (fCons (fVar 2) (fNil)))) (sNil)
noncomputable abbrev L__law_softest_source_2 : FS := sCons (sAsg (fCall (callD 2 g__law_shape) (fCons (fVar 0) (fCons (fOp mulW (fVar 6) (fVar 3)) (fNil)))) (gVar 7)) (sCons (sAsg (fOp (opI fun i j => some (.int (i - j))) (fCall (callD 2 g__law_shape) (fCons (fVar 0) (fCons (fOp mulW (fVar 6) (fOp addW (fVar 3) (fC (.int 60)))) (fNil)))) (fVar 7)) (gVar 8)) (sIf (fAnd (fB (fOp (eqW true) (fVar 8) (fC (.int 0)))) (fAnd (fB (fOp (cmpW fun i j => decide (j < i)) (fOp mulW (fOp (opI fun i j => some (.int (i - j))) (fVar 1) (fVar 7)) (fVar 8)) (fC (.int 0)))) (fB (fOp (eqW false) (fOp (opI modI) (fOp (opI fun i j => some (.int (i - j))) (fVar 1) (fVar 7)) (fVar 8)) (fC (.int 0)))))) (sExpr (fApp (fVar 5) (fOp addW (fVar 3) (fOp mulW (fC (.int 60)) (fOp (opI divI) (fOp (opI fun i j => some (.int (i - j))) (fVar 1) (fVar 7)) (fVar 8)))))) (sNil)))
noncomputable abbrev L__law_softest_source_3 : FS := sFor (itS (fTup (fCons (fC (.int 1)) (fCons (fNeg (fC (.int 1))) (fNil))))) (gVar 6) (L__law_softest_source_2)
noncomputable def B__law_softest_source : FS := sCons (sPar 4 5 (fCons (fCall (callD 1 g__law_reach) (fCons (fLst (fCons (fVar 0) (fNil))) (fNil))) (fCons (fLstN (fNil)) (fNil)))) (sCons (sFor (itS (fCall (callD 1 g__law_around) (fCons (fVar 4) (fNil)))) (gVar 2) (L__law_softest_source_1)) (sCons (sFor (itR2 (fOp (opI fun i j => some (.int (i - j))) (fVar 4) (fC (.int 59))) (fOp addW (fVar 4) (fC (.int 1)))) (gVar 3) (L__law_softest_source_3)) (frz 5 (sRet (fIf (fB (fOp (eqW true) (fVar 5) (fLst (fNil)))) (fCall kMin (fCons (fVar 5) (fNil))) (fC .none))))))
noncomputable def g__law_softest_source (ws : List Wv) (μ : Sto) : Rs Wv := runF 9 B__law_softest_source ws μ
noncomputable abbrev L__law_first_confused_1 : FS := sCons (sAsg (fCall (callD 2 g__law_shape) (fCons (fVar 0) (fCons (fVar 2) (fNil)))) (gVar 3)) (sCons (sIf (fB (fDin false (fVar 3) (fVar 1))) (sRet (fCall kAbs (fCons (fVar 2) (fNil)))) (sNil)) (sDput (fC (.bool true)) (fVar 1) (fVar 3)))
noncomputable def B__law_first_confused : FS := sCons (sAsg (fDictK) (gVar 1)) (sCons (sFor (itS (fCall (callD 1 g__law_around) (fCons (fOp mulW (fC (.int 3)) (fCall (callD 1 g__law_reach) (fCons (fLst (fCons (fVar 0) (fNil))) (fNil)))) (fNil)))) (gVar 2) (L__law_first_confused_1)) (sRet (fC .none)))
noncomputable def g__law_first_confused (ws : List Wv) (μ : Sto) : Rs Wv := runF 4 B__law_first_confused ws μ
noncomputable abbrev L_law_7_1 : FS := sCons (sPar 6 7 (fCons (fCall (callD 2 g__law_softest_source) (fCons (fVar 3) (fCons (fVar 5) (fNil)))) (fCons (fCall (callD 2 g_source) (fCons (fVar 3) (fCons (fVar 5) (fNil)))) (fNil)))) (sCons (sIf (fB (fOp (eqW true) (fOp (isNW false) (fVar 7) (fC .none)) (fOp (isNW false) (fVar 6) (fC .none)))) (sRet (fC (.bool false))) (sNil)) (sIf (fAnd (fB (fOp (isNW true) (fVar 7) (fC .none))) (fOr (fB (fOp (eqW true) (fCall kAbs (fCons (fVar 7) (fNil))) (fVar 6))) (fB (fOp (eqW true) (fCall (callD 2 g__law_shape) (fCons (fVar 3) (fCons (fVar 7) (fNil)))) (fVar 5))))) (sRet (fC (.bool false))) (sNil)))
noncomputable abbrev L_law_7_2 : FS := sCons (sAsg (fCall (callD 2 g__law_bag) (fCons (fVar 0) (fCons (fVar 1) (fNil)))) (gVar 2)) (sCons (sAsg (fCall (callD 3 g__law_pedals) (fCons (fVar 2) (fCons (fC (.int 6)) (fCons (fC (.bool true)) (fNil))))) (gVar 3)) (sCons (sAsg (fComp (itS (fCall (callD 2 g__law_numbers) (fCons (fVar 2) (fCons (fC (.int 6)) (fNil))))) (gVar 8) (fYes) (fCall (callD 2 g__law_shape) (fCons (fVar 3) (fCons (fVar 8) (fNil)))) [8]) (gVar 4)) (sCons (sFor (itS (fOp addW (fOp addW (fVar 4) (fCall kList (fCons (fCall (callD 2 g__law_numbers) (fCons (fVar 2) (fCons (fC (.int 6)) (fNil)))) (fNil)))) (fLst (fCons (fC (.int 0)) (fNil))))) (gVar 5) (L_law_7_1)) (sCons (sPar 6 7 (fCons (fCall (callD 1 g__law_first_confused) (fCons (fVar 3) (fNil))) (fCons (fCall (callD 1 g_confused) (fCons (fVar 3) (fNil))) (fNil)))) (sCons (sIf (fB (fOp (eqW true) (fOp (isNW false) (fVar 7) (fC .none)) (fOp (isNW false) (fVar 6) (fC .none)))) (sRet (fC (.bool false))) (sNil)) (sIf (fB (fOp (isNW true) (fVar 7) (fC .none))) (sCons (sAsg (fVar 7) (gTupF 2 (gsCons (gVar 9) (gsCons (gVar 10) (gsNil))))) (sIf (fOr (fB (fOp (eqW false) (fVar 9) (fVar 10))) (fOr (fB (fOp (eqW true) (fCall kMax2 (fCons (fCall kAbs (fCons (fVar 9) (fNil))) (fCons (fCall kAbs (fCons (fVar 10) (fNil))) (fNil)))) (fVar 6))) (fB (fOp (eqW true) (fCall (callD 2 g__law_shape) (fCons (fVar 3) (fCons (fVar 9) (fNil)))) (fCall (callD 2 g__law_shape) (fCons (fVar 3) (fCons (fVar 10) (fNil)))))))) (sRet (fC (.bool false))) (sNil))) (sNil)))))))
noncomputable def B_law_7 : FS := sCons (sFor (itR1 (fCall kMax2 (fCons (fC (.int 3)) (fCons (fCall kMin2 (fCons (fC (.int 8)) (fCons (fOp addW (fCall kLen (fCons (fVar 0) (fNil))) (fC (.int 2))) (fNil)))) (fNil))))) (gVar 1) (L_law_7_2)) (sRet (fC (.bool true)))
noncomputable def g_law_7 (ws : List Wv) (μ : Sto) : Rs Wv := runF 11 B_law_7 ws μ
noncomputable def B_is_wish : FS := sRet (fAndV (fIsi "str" (fVar 0)) (f1 (inKW false v_WISHES) (fVar 0)))
noncomputable def g_is_wish (ws : List Wv) (μ : Sto) : Rs Wv := runF 1 B_is_wish ws μ
noncomputable def B_need_wish : FS := sIf (fNot (fB (fCall (callD 1 g_is_wish) (fCons (fVar 0) (fNil))))) ((fun _ _ => .no)) (sNil)
noncomputable def g_need_wish (ws : List Wv) (μ : Sto) : Rs Wv := runF 1 B_need_wish ws μ
noncomputable abbrev L_growing_break_1 : FS := sIf (fB (fOp (cmpW fun i j => decide (j < i)) (fCall (callD 1 g_loudness) (fCons (fCall (callD 2 g_row_shape) (fCons (fVar 0) (fCons (fVar 2) (fNil)))) (fNil))) (fCall (callD 1 g_loudness) (fCons (fCall (callD 2 g_row_shape) (fCons (fVar 0) (fCons (fVar 4) (fNil)))) (fNil))))) (sRet (fTup (fCons (fVar 2) (fCons (fVar 4) (fNil))))) (sNil)
noncomputable abbrev L_growing_break_2 : FS := sIf (fB (fOp (cmpW fun i j => decide (j < i)) (fCall (callD 1 g_loudness) (fCons (fCall (callD 2 g_row_shape) (fCons (fVar 0) (fCons (fVar 4) (fNil)))) (fNil))) (fCall (callD 1 g_loudness) (fCons (fCall (callD 2 g_row_shape) (fCons (fVar 0) (fCons (fVar 2) (fNil)))) (fNil))))) (sAsg (fVar 4) (gVar 2)) (sNil)
noncomputable abbrev L_growing_break_3 : FS := sCons (sFor (itS (fTup (fCons (fVar 3) (fCons (fOp (opI fun i j => some (.int (i - j))) (fC (.int 0)) (fVar 3)) (fNil))))) (gVar 4) (L_growing_break_1)) (sFor (itS (fTup (fCons (fVar 3) (fCons (fOp (opI fun i j => some (.int (i - j))) (fC (.int 0)) (fVar 3)) (fNil))))) (gVar 4) (L_growing_break_2))
noncomputable def B_growing_break : FS := sCons (sAsg (fC (.int 0)) (gVar 2)) (sCons (sFor (itR2 (fC (.int 1)) (fOp addW (fVar 1) (fC (.int 1)))) (gVar 3) (L_growing_break_3)) (sRet (fC .none)))
noncomputable def g_growing_break (ws : List Wv) (μ : Sto) : Rs Wv := runF 5 B_growing_break ws μ
noncomputable abbrev L_break_of_1 : FS := sCons (sPar 4 5 (fCons (fCall (callD 2 g_row_shape) (fCons (fVar 0) (fCons (fVar 3) (fNil)))) (fCons (fCall (callD 2 g_row_shape) (fCons (fVar 0) (fCons (fOp (opI fun i j => some (.int (i - j))) (fC (.int 0)) (fVar 3)) (fNil)))) (fNil)))) (sCons (sIf (fOr (fAnd (fB (fOp (eqW false) (fVar 1) (fC (.str "odd")))) (fB (fOp (eqW true) (fVar 4) (fOp (opI fun i j => some (.int (i - j))) (fC (.int 0)) (fVar 5))))) (fAnd (fB (fOp (eqW false) (fVar 1) (fC (.str "even")))) (fB (fOp (eqW true) (fVar 4) (fVar 5))))) (sRet (fTup (fCons (fVar 3) (fCons (fOp (opI fun i j => some (.int (i - j))) (fC (.int 0)) (fVar 3)) (fNil))))) (sNil)) (sIf (fAnd (fB (fOp (eqW false) (fVar 1) (fC (.str "rising")))) (fB (fOp (cmpW fun i j => decide (j < i)) (fVar 4) (fCall (callD 2 g_row_shape) (fCons (fVar 0) (fCons (fOp addW (fVar 3) (fC (.int 1))) (fNil))))))) (sRet (fTup (fCons (fVar 3) (fCons (fOp addW (fVar 3) (fC (.int 1))) (fNil))))) (sNil)))
noncomputable def B_break_of : FS := sCons (sAsg (fCall (callD 1 g_span_of) (fCons (fLst (fCons (fVar 0) (fNil))) (fNil))) (gVar 2)) (sCons (sIf (fB (fOp (eqW false) (fVar 1) (fC (.str "silent")))) (sRet (fIf (fB (fOp (eqW false) (fCall (callD 2 g_row_shape) (fCons (fVar 0) (fCons (fC (.int 0)) (fNil)))) (fC (.int 0)))) (fC .none) (fTup (fCons (fC (.int 0)) (fCons (fC (.int 0)) (fNil)))))) (sNil)) (sCons (sIf (fB (fOp (eqW false) (fVar 1) (fC (.str "whole")))) (sRet (fCall (callD 1 g_confused_of) (fCons (fVar 0) (fNil)))) (sNil)) (sCons (sIf (fB (fOp (eqW false) (fVar 1) (fC (.str "growing")))) (sRet (fCall (callD 2 g_growing_break) (fCons (fVar 0) (fCons (fVar 2) (fNil))))) (sNil)) (sCons (sFor (itR2 (fOp (opI fun i j => some (.int (i - j))) (fC (.int 0)) (fVar 2)) (fOp addW (fVar 2) (fC (.int 1)))) (gVar 3) (L_break_of_1)) (sRet (fC .none))))))
noncomputable def g_break_of (ws : List Wv) (μ : Sto) : Rs Wv := runF 6 B_break_of ws μ
noncomputable def B_keeps : FS := sCons (sExpr (fCall (callD 1 g_need_row) (fCons (fVar 0) (fNil)))) (sCons (sExpr (fCall (callD 1 g_need_wish) (fCons (fVar 1) (fNil)))) (sRet (fOp (isNW false) (fCall (callD 2 g_break_of) (fCons (fVar 0) (fCons (fVar 1) (fNil)))) (fC .none))))
noncomputable def g_keeps (ws : List Wv) (μ : Sto) : Rs Wv := runF 2 B_keeps ws μ
noncomputable def B_breaking : FS := sCons (sExpr (fCall (callD 1 g_need_row) (fCons (fVar 0) (fNil)))) (sCons (sExpr (fCall (callD 1 g_need_wish) (fCons (fVar 1) (fNil)))) (sRet (fCall (callD 2 g_break_of) (fCons (fVar 0) (fCons (fVar 1) (fNil))))))
noncomputable def g_breaking (ws : List Wv) (μ : Sto) : Rs Wv := runF 2 B_breaking ws μ
noncomputable abbrev L__law_kept_1 : FS := sDput (fCall (callD 2 g__law_shape) (fCons (fVar 0) (fCons (fVar 4) (fNil)))) (fVar 3) (fVar 4)
noncomputable abbrev L__law_kept_2 : FS := sCons (sIf (fB (fOp (cmpW fun i j => decide (i < j)) (fCall kMin2 (fCons (fCall kAbs (fCons (fDget (fVar 3) (fVar 4)) (fNil))) (fCons (fCall kAbs (fCons (fDget (fVar 3) (fNeg (fVar 4))) (fNil))) (fNil)))) (fVar 6))) (sRet (fC (.bool false))) (sNil)) (sAsg (fCall kMax3 (fCons (fVar 6) (fCons (fCall kAbs (fCons (fDget (fVar 3) (fVar 4)) (fNil))) (fCons (fCall kAbs (fCons (fDget (fVar 3) (fNeg (fVar 4))) (fNil))) (fNil))))) (gVar 6))
noncomputable def B__law_kept : FS := sCons (sAsg (fCall (callD 1 g__law_reach) (fCons (fLst (fCons (fVar 0) (fNil))) (fNil))) (gVar 2)) (sCons (sAsg (fDictK) (gVar 3)) (sCons (sFor (itR2 (fOp mulW (fNeg (fC (.int 3))) (fVar 2)) (fOp addW (fOp mulW (fC (.int 3)) (fVar 2)) (fC (.int 1)))) (gVar 4) (L__law_kept_1)) (sCons (sIf (fB (fOp (eqW false) (fVar 1) (fC (.str "silent")))) (sRet (fOp (eqW false) (fDget (fVar 3) (fC (.int 0))) (fC (.int 0)))) (sNil)) (sCons (sIf (fB (fOp (eqW false) (fVar 1) (fC (.str "whole")))) (sRet (fOp (eqW false) (f1 lsW (lockE 3 (fComp (itK (fVar 3)) (gVar 4) (fYes) (fDget (fVar 3) (fVar 4)) [4]))) (fCall kLenD (fCons (fVar 3) (fNil))))) (sNil)) (sCons (sAsg (fRg2 (fNeg (fVar 2)) (fOp addW (fVar 2) (fC (.int 1)))) (gVar 5)) (sCons (sIf (fB (fOp (eqW false) (fVar 1) (fC (.str "odd")))) (sRet (fOp (eqW false) (fComp (itS (fVar 5)) (gVar 4) (fB (fOp (eqW true) (fDget (fVar 3) (fVar 4)) (fNeg (fDget (fVar 3) (fNeg (fVar 4)))))) (fVar 4) [4]) (fLst (fNil)))) (sNil)) (sCons (sIf (fB (fOp (eqW false) (fVar 1) (fC (.str "even")))) (sRet (fOp (eqW false) (fComp (itS (fVar 5)) (gVar 4) (fB (fOp (eqW true) (fDget (fVar 3) (fVar 4)) (fDget (fVar 3) (fNeg (fVar 4))))) (fVar 4) [4]) (fLst (fNil)))) (sNil)) (sCons (sIf (fB (fOp (eqW false) (fVar 1) (fC (.str "rising")))) (sRet (fOp (eqW false) (fComp (itS (fVar 5)) (gVar 4) (fB (fOp (cmpW fun i j => decide (j < i)) (fDget (fVar 3) (fVar 4)) (fDget (fVar 3) (fOp addW (fVar 4) (fC (.int 1)))))) (fVar 4) [4]) (fLst (fNil)))) (sNil)) (sCons (sAsg (fCall kAbs (fCons (fDget (fVar 3) (fC (.int 0))) (fNil))) (gVar 6)) (sCons (sFor (itR2 (fC (.int 1)) (fOp addW (fVar 2) (fC (.int 1)))) (gVar 4) (L__law_kept_2)) (sRet (fC (.bool true)))))))))))))
noncomputable def g__law_kept (ws : List Wv) (μ : Sto) : Rs Wv := runF 7 B__law_kept ws μ
noncomputable def B__law_shows : FS := sCons (sAsg (fVar 2) (gTupF 2 (gsCons (gVar 3) (gsCons (gVar 4) (gsNil))))) (sCons (sPar 5 6 (fCons (fCall (callD 2 g__law_shape) (fCons (fVar 0) (fCons (fVar 3) (fNil)))) (fCons (fCall (callD 2 g__law_shape) (fCons (fVar 0) (fCons (fVar 4) (fNil)))) (fNil)))) (sCons (sIf (fB (fOp (eqW false) (fVar 1) (fC (.str "silent")))) (sRet (fAndV (fOp (eqW false) (fVar 3) (fC (.int 0))) (fAndV (fOp (eqW false) (fVar 4) (fC (.int 0))) (fOp (eqW true) (fVar 5) (fC (.int 0)))))) (sNil)) (sCons (sIf (fB (fOp (eqW false) (fVar 1) (fC (.str "whole")))) (sRet (fAndV (fOp (eqW true) (fVar 3) (fVar 4)) (fOp (eqW false) (fVar 5) (fVar 6)))) (sNil)) (sCons (sIf (fB (fOp (eqW false) (fVar 1) (fC (.str "odd")))) (sRet (fAndV (fOp (eqW false) (fVar 4) (fNeg (fVar 3))) (fOp (eqW true) (fVar 6) (fNeg (fVar 5))))) (sNil)) (sCons (sIf (fB (fOp (eqW false) (fVar 1) (fC (.str "even")))) (sRet (fAndV (fOp (eqW false) (fVar 4) (fNeg (fVar 3))) (fOp (eqW true) (fVar 6) (fVar 5)))) (sNil)) (sCons (sIf (fB (fOp (eqW false) (fVar 1) (fC (.str "rising")))) (sRet (fAndV (fOp (cmpW fun i j => decide (i < j)) (fVar 3) (fVar 4)) (fOp (cmpW fun i j => decide (j < i)) (fVar 5) (fVar 6)))) (sNil)) (sRet (fAndV (fOp (cmpW fun i j => decide (i < j)) (fCall kAbs (fCons (fVar 3) (fNil))) (fCall kAbs (fCons (fVar 4) (fNil)))) (fOp (cmpW fun i j => decide (j < i)) (fCall kAbs (fCons (fVar 5) (fNil))) (fCall kAbs (fCons (fVar 6) (fNil))))))))))))
noncomputable def g__law_shows (ws : List Wv) (μ : Sto) : Rs Wv := runF 7 B__law_shows ws μ
noncomputable abbrev L_law_8_1 : FS := sCons (sPar 5 6 (fCons (fCall (callD 2 g_keeps) (fCons (fVar 3) (fCons (fVar 4) (fNil)))) (fCons (fCall (callD 2 g_breaking) (fCons (fVar 3) (fCons (fVar 4) (fNil)))) (fNil)))) (sCons (sIf (fOr (fNot (fB (fIsi "bool" (fVar 5)))) (fOr (fB (fOp (eqW true) (fVar 5) (fCall (callD 2 g__law_kept) (fCons (fVar 3) (fCons (fVar 4) (fNil)))))) (fB (fOp (eqW true) (fOp (isNW false) (fVar 6) (fC .none)) (fVar 5))))) (sRet (fC (.bool false))) (sNil)) (sIf (fAnd (fB (fOp (isNW true) (fVar 6) (fC .none))) (fNot (fB (fCall (callD 3 g__law_shows) (fCons (fVar 3) (fCons (fVar 4) (fCons (fVar 6) (fNil)))))))) (sRet (fC (.bool false))) (sNil)))
noncomputable abbrev L_law_8_2 : FS := sCons (sAsg (fCall (callD 2 g__law_bag) (fCons (fVar 0) (fCons (fVar 1) (fNil)))) (gVar 2)) (sCons (sAsg (fCall (callD 3 g__law_pedals) (fCons (fVar 2) (fCons (fCall (callD 2 g__law_of) (fCons (fVar 2) (fCons (fLst (fCons (fC (.int 2)) (fCons (fC (.int 3)) (fCons (fC (.int 6)) (fNil))))) (fNil)))) (fCons (fC (.bool true)) (fNil))))) (gVar 3)) (sFor (itS (fLst (fCons (fC (.str "even")) (fCons (fC (.str "growing")) (fCons (fC (.str "odd")) (fCons (fC (.str "rising")) (fCons (fC (.str "silent")) (fCons (fC (.str "whole")) (fNil))))))))) (gVar 4) (L_law_8_1)))
noncomputable def B_law_8 : FS := sCons (sFor (itR1 (fCall kMax2 (fCons (fC (.int 3)) (fCons (fCall kMin2 (fCons (fC (.int 8)) (fCons (fOp addW (fCall kLen (fCons (fVar 0) (fNil))) (fC (.int 2))) (fNil)))) (fNil))))) (gVar 1) (L_law_8_2)) (sRet (fC (.bool true)))
noncomputable def g_law_8 (ws : List Wv) (μ : Sto) : Rs Wv := runF 7 B_law_8 ws μ
end Ped

/-! PedTx1: texts: join, split, str, int of a text, the signs of a text -/
namespace Ped
open PySem PySem.Spec PyProof.Rows L2
def toStrs : List D → Option (List Str)
  | [] => some []
  | .str z :: r => (toStrs r).map (z :: ·)
  | _ :: _ => none
@[simp] theorem toStrs_map : ∀ (ns : List Str), toStrs (ns.map PyData.str) = some ns
  | [] => rfl
  | n :: r => by simp [toStrs, toStrs_map r]
theorem toStrs_eq : ∀ {ds : List D} {ns : List Str}, toStrs ds = some ns → ds = ns.map PyData.str
  | [], ns, h => by cases h; rfl
  | d :: r, ns, h => by
    cases d <;> first | (cases h; done) | skip
    rename_i z
    unfold toStrs at h
    cases hr : toStrs r with
    | none => rw [hr] at h; cases h
    | some q =>
      rw [hr] at h
      cases h
      rw [toStrs_eq hr]
      rfl
theorem rpA_strs {K : PySem.W.Frag} {F : Hp} : ∀ {ns : List Str} {vs : List V}, RpA K F vs (ns.map PyData.str) → vs = ns.map V.str
  | [], _, h => by cases h; rfl
  | n :: r, _, h => by
    cases h with
    | cons a b =>
      cases a
      rw [rpA_strs b]
      rfl
section
variable {X : Cx} {W : WX}
/-- a method of a text, of one argument -/
def fM (h : Str → Wv → Sto → Rs Wv) (f g : FE) : FE := fun env μ => (f env μ).bind fun x μ1 => match x with
  | .d (.str a) => (g env μ1).bind fun y μ2 => h a y μ2
  | _ => .no
theorem fM_ok {h : Str → Wv → Sto → Rs Wv} {f g : FE} {o e : Expr} {pos apos : Pos} {name : Str} {r : V → List V → Hp → VK → Prop}
    (ok : ∀ (a : Str) (y : Wv) (u : V) (S S0 : Sta) (μ : Sto) (Q : VK) (σ : L2.St), Ext S0 S → HS X.K S μ → RW X.K S u y → (h a y μ).Post (POk X.K S Q) (PEx X.K W σ S0) → r (.str a) [u] S.H Q)
    (rule : ∀ {to te : TE}, PE X o to → PE X e te → PE X (.Call (.Attribute o name apos) [e] [] pos) (tM1 r to te)) (ho : CEx X W o f) (he : CEx X W e g) :
    CEx X W (.Call (.Attribute o name apos) [e] [] pos) (fM h f g) := by
  obtain ⟨to, po, qo⟩ := ho
  obtain ⟨te, pe, qe⟩ := he
  refine ⟨_, rule po pe, fun env σ S μ hE hS Q hp => ?_⟩
  unfold fM at hp
  rw [Rs.post_bind] at hp
  refine qo env σ S μ hE hS _ (hp.mono (fun x μ1 h1 v S1 e1 hS1 r1 => ?_) fun _ _ z => z)
  split at h1
  · cases r1
    refine ⟨⟨_, rfl⟩, ?_⟩
    rw [Rs.post_bind] at h1
    refine qe env σ S1 μ1 (hE.mono e1) hS1 _ (h1.mono (fun y μ2 h2 u S2 e2 hS2 r2 => ?_) fun _ _ z => z.mono e1)
    exact ok _ y u S2 S μ2 Q σ (e1.trans e2) hS2 r2 (h2.mono (fun w ν q => POk.mono (e1.trans e2) q) fun _ _ z => z)
  · exact h1.elim
/-- sep.join(texts) -/
def joinS (a : Str) (ds : List D) (μ : Sto) : Rs Wv := match toStrs ds with
  | some ys => if (ys.map (·.length)).sum + ys.length * a.length ≤ 16777216 then .ok (.d (.str (Txt.join a ys))) μ else .no
  | none => .no
def joinW (a : Str) (y : Wv) (μ : Sto) : Rs Wv := match y with
  | .d (.list ds) => joinS a ds μ
  | _ => .no
theorem c_join {o e : Expr} {f g : FE} {apos pos : Pos} (ho : CEx X W o f) (he : CEx X W e g) (hs : starEach [e] X.env = [(false, eval e X.env)] := by rfl) (hbase : attributeBase o "join" X.env (eval o X.env) = eval o X.env := by rfl) (hline : (apos.endLine == pos.line) = true := by rfl) :
    CEx X W (.Call (.Attribute o "join" apos) [e] [] pos) (fM joinW f g) := by
  refine fM_ok (fun a y u S S0 μ Q σ e hS r hp => ?_) (fun po pe => pe_join po pe hs hbase hline) ho he
  unfold joinW at hp
  split at hp
  · obtain ⟨p, xs, rfl, ha, ra⟩ := rp_lst_inv r
    unfold joinS at hp
    split at hp
    · rename_i ys hy
      split at hp
      · rename_i hl
        cases toStrs_eq hy
        cases rpA_strs ra
        exact ⟨a, p, ys, rfl, rfl, .inl (.inl (.inl (hS.sub _ _ ha))), hl, hp _ S (Ext.refl S) hS (.str _)⟩
      · exact hp.elim
    · exact hp.elim
  · exact hp.elim
/-- a.split(sep) -/
def splitW (a : Str) (y : Wv) (μ : Sto) : Rs Wv := match y with
  | .d (.str b) => if (b.length == 0) = false ∧ a.length + 2 ≤ LIM then .ok (.d (.list ((Txt.split a b).map PyData.str))) μ else .no
  | _ => .no
theorem c_split {o e : Expr} {f g : FE} {apos pos : Pos} (ho : CEx X W o f) (he : CEx X W e g) (hs : starEach [e] X.env = [(false, eval e X.env)] := by rfl) (hbase : attributeBase o "split" X.env (eval o X.env) = eval o X.env := by rfl) (hline : (apos.endLine == pos.line) = true := by rfl) :
    CEx X W (.Call (.Attribute o "split" apos) [e] [] pos) (fM splitW f g) := by
  refine fM_ok (fun a y u S S0 μ Q σ e hS r hp => ?_) (fun po pe => pe_split po pe hs hbase hline) ho he
  unfold splitW at hp
  split at hp
  · split at hp
    · rename_i hl
      cases r
      exact ⟨a, _, rfl, rfl, hl.1, lim_line hl.2, new_lst hS (RpA.strs _) hp⟩
    · exact hp.elim
  · exact hp.elim
/-- str(x) of an int or a text -/
def kStr (ws : List Wv) (μ : Sto) : Rs Wv := match ws with
  | [.d (.int i)] => if i.natAbs.log2 < 1920 then .ok (.d (.str (toString i))) μ else .no
  | [.d (.str a)] => .ok (.d (.str a)) μ
  | _ => .no
theorem kStr_nx : NoExC kStr := fun ws μ e ν q => by
  unfold kStr at q
  split at q <;> first | cases q | (split at q <;> cases q)
theorem ok_str : OkC X (fun xs H Q => (∃ i, xs = [.int i] ∧ i.natAbs.log2 < 1920 ∧ Q (.str (toString i)) H) ∨ ∃ a, xs = [.str a] ∧ Q (.str a) H) kStr := fun ws vs S μ hS r Q hp => by
  unfold kStr at hp
  split at hp
  · split at hp
    · rename_i hl
      obtain ⟨v, rfl, h⟩ := rws1 r
      cases h
      exact .inl ⟨_, rfl, hl, hp _ S (Ext.refl S) hS (.str _)⟩
    · exact hp.elim
  · obtain ⟨v, rfl, h⟩ := rws1 r
    cases h
    exact .inr ⟨_, rfl, hp _ S (Ext.refl S) hS (.str _)⟩
  · exact hp.elim
theorem call_strB : CallR X (.type "str") (fun xs H Q => (∃ i, xs = [.int i] ∧ i.natAbs.log2 < 1920 ∧ Q (.str (toString i)) H) ∨ ∃ a, xs = [.str a] ∧ Q (.str a) H) := by
  intro pins s σ H xs us Q I rs h
  rcases h with h | h
  · exact call_str_int pins s σ H xs us Q I rs h
  · exact SkE.call_str_str pins s σ H xs us Q I rs h
/-- int(text) -/
def kIntT (ws : List Wv) (μ : Sto) : Rs Wv := match ws with
  | [.d (.str a)] => (match PySem.intText? a with
    | some n => if a.length ≤ 640 then .ok (.d (.int n)) μ else .no
    | none => .no)
  | _ => .no
theorem kIntT_nx : NoExC kIntT := fun ws μ e ν q => by
  unfold kIntT at q
  split at q
  · split at q
    · split at q <;> cases q
    · cases q
  · cases q
theorem ok_intT : OkC X (fun xs H Q => ∃ a n, xs = [.str a] ∧ PySem.intText? a = some n ∧ a.length ≤ 640 ∧ Q (.int n) H) kIntT := fun ws vs S μ hS r Q hp => by
  unfold kIntT at hp
  split at hp
  · split at hp
    · rename_i n hn
      split at hp
      · rename_i hl
        obtain ⟨v, rfl, h⟩ := rws1 r
        cases h
        exact ⟨_, n, rfl, hn, hl, hp _ S (Ext.refl S) hS (.int _)⟩
      · exact hp.elim
    · exact hp.elim
  · exact hp.elim
/-- one sign in a text -/
def inSgW (x y : Wv) (μ : Sto) : Rs Wv := match x, y with
  | .d (.str a), .d (.str z) => (match a.cps.toList with
    | [c] => .ok (.d (.bool (decide (c ∈ z.cps.toList)))) μ
    | _ => .no)
  | _, _ => .no
theorem inSgW_nx : NoEx inSgW := fun x y μ e ν q => by
  unfold inSgW at q
  split at q
  · split at q <;> cases q
  · cases q
theorem ok_inSg : OkR X (fun x y H Q => ∃ (c : Nat) (z : Str), x = .str ⟨#[c]⟩ ∧ y = .str z ∧ Q (.bl (decide (c ∈ z.cps.toList))) H) inSgW := fun x y v u S μ hS hx hy Q hp => by
  unfold inSgW at hp
  split at hp
  · rename_i a z
    split at hp
    · rename_i c hc
      cases hx
      cases hy
      refine ⟨c, z, ?_, rfl, hp _ S (Ext.refl S) hS (.bl _)⟩
      have : a = ⟨#[c]⟩ := by
        obtain ⟨q⟩ := a
        congr
        exact Array.toList_inj.mp hc
      rw [this]
    · exact hp.elim
  · exact hp.elim
theorem c_inSg {a b : Expr} {f g : FE} {pos : Pos} (ha : CEx X W a f) (hb : CEx X W b g) (hm : behindInMarks .In b = false := by rfl) : CEx X W (.Compare a [.In] [b] pos) (fOp inSgW f g) := c_cmp op_in_sign ok_inSg inSgW_nx ha hb hm
theorem ct_inSg {a b : Expr} {f g : FE} {pos : Pos} (ha : CEx X W a f) (hb : CEx X W b g) (hm : behindInMarks .In b = false := by rfl) : CT X W (.Compare a [.In] [b] pos) (fB (fOp inSgW f g)) := ct_cmp op_in_sign ok_inSg inSgW_nx ha hb hm
/-- the signs of a text -/
def signsD (z : Str) : List D := z.cps.toList.map fun c => .str ⟨#[c]⟩
def itSg (f : FE) : FIt := fun env μ => (f env μ).bind fun w μ1 => match w with
  | .d (.str z) => .ok (signsD z) μ1
  | _ => .no
theorem ci_str {tg e : Expr} {f : FE} (h : CEx X W e f) : CI X W tg e (itSg f) := by
  obtain ⟨t, pe, q⟩ := h
  refine ⟨_, pi_str pe, fun env σ S μ he hS R hp => ?_⟩
  unfold itSg at hp
  rw [Rs.post_bind] at hp
  refine q env σ S μ he hS _ (hp.mono (fun w μ1 h1 v S1 e1 hS1 r1 => ?_) fun _ _ z => z)
  split at h1
  · rename_i z
    cases r1
    refine ⟨z, rfl, h1 _ S1 e1 hS1 fun S2 e2 μ2 hS2 => ⟨fun i item hi => ?_, ?_⟩⟩
    · unfold signsD at hi
      rw [List.getElem?_map] at hi
      cases hx : z.cps.toList[i]? with
      | none => rw [hx] at hi; cases hi
      | some c =>
        rw [hx] at hi
        have ec : z.cps[i]? = some c := by simpa using hx
        obtain rfl : PyData.str ⟨#[c]⟩ = item := by simpa using hi
        refine ⟨(Array.getElem?_eq_some_iff.mp ec).1, fun y H' hy => ?_⟩
        obtain ⟨rfl, c', hc', rfl⟩ := hy
        rw [ec] at hc'
        cases hc'
        exact ⟨S2, rfl, Ext.refl S2, hS2, .str _⟩
    · show z.cps.size ≤ (signsD z).length
      unfold signsD
      simp
  · exact h1.elim
end
end Ped


namespace Ped
open PySem L2 PyProof.Rows PySem.Spec
noncomputable def B_row_text : FS := sCons (sIf (fB (fOp (eqW false) (fVar 0) (fTup (fNil)))) (sRet (fC (.str "plain"))) (sNil)) (sRet (fM joinW (fC (.str " > ")) (fComp (itS (fVar 0)) (gVar 1) (fYes) (fM joinW (fC (.str " ")) (fComp (itS (fVar 1)) (gVar 2) (fYes) (fCall kStr (fCons (fVar 2) (fNil))) [2])) [1])))
noncomputable def g_row_text (ws : List Wv) (μ : Sto) : Rs Wv := runF 3 B_row_text ws μ
noncomputable def B_text_of : FS := sRet (fM joinW (fC (.str "\n")) (fComp (itS (fVar 0)) (gVar 1) (fYes) (fCall (callD 1 g_row_text) (fCons (fVar 1) (fNil))) [1]))
noncomputable def g_text_of (ws : List Wv) (μ : Sto) : Rs Wv := runF 2 B_text_of ws μ
noncomputable def B_part_of : FS := sCons (sAsg (fIf (fB (fOp (eqW false) (fSl (fVar 0) (fO0) (fO1 (fC (.int 1)))) (fC (.str "-")))) (fSl (fVar 0) (fO1 (fC (.int 1))) (fO0)) (fVar 0)) (gVar 1)) (sCons (sIf (fAnd (fB (fChain leW leW (fC (.int 1)) (fCall kLen (fCons (fVar 1) (fNil))) (fC (.int 2)))) (fB (fCall kAll (fCons (fComp (itSg (fVar 1)) (gVar 2) (fYes) (fOp inSgW (fVar 2) (fC (.str "0123456789"))) [2]) (fNil))))) (sRet (fIf (fB (fOp (eqW false) (fVar 1) (fVar 0))) (fCall kIntT (fCons (fVar 1) (fNil))) (fOp (opI fun i j => some (.int (i - j))) (fC (.int 0)) (fCall kIntT (fCons (fVar 1) (fNil)))))) (sNil)) (sRet (fVar 0)))
noncomputable def g_part_of (ws : List Wv) (μ : Sto) : Rs Wv := runF 3 B_part_of ws μ
noncomputable abbrev L_row_of_1 : FS := sAsg (fOp addW (fVar 1) (fTup (fCons (fCall kTuple (fCons (fComp (itS (fM splitW (fVar 2) (fC (.str " ")))) (gVar 3) (fYes) (fCall (callD 1 g_part_of) (fCons (fVar 3) (fNil))) [3]) (fNil))) (fNil)))) (gVar 1)
noncomputable def B_row_of : FS := sCons (sIf (fB (fOp (eqW false) (fVar 0) (fC (.str "plain")))) (sRet (fTup (fNil))) (sNil)) (sCons (sAsg (fTup (fNil)) (gVar 1)) (sCons (sFor (itS (fM splitW (fVar 0) (fC (.str " > ")))) (gVar 2) (L_row_of_1)) (sRet (fIf (fAnd (fB (fCall (callD 1 g_is_row) (fCons (fVar 1) (fNil)))) (fB (fOp (eqW false) (fCall (callD 1 g_row_text) (fCons (fVar 1) (fNil))) (fVar 0)))) (fVar 1) (fC .none)))))
noncomputable def g_row_of (ws : List Wv) (μ : Sto) : Rs Wv := runF 4 B_row_of ws μ
noncomputable abbrev L_board_read_1 : FS := sCons (sAsg (fCall (callD 1 g_row_of) (fCons (fVar 3) (fNil))) (gVar 4)) (sCons (sIf (fB (fOp (isNW false) (fVar 4) (fC .none))) ((fun _ _ => .no)) (sNil)) (sAsg (fOp addW (fVar 1) (fTup (fCons (fVar 4) (fNil)))) (gVar 1)))
noncomputable def B_board_read : FS := sCons (sIf (fNot (fB (fIsi "str" (fVar 0)))) ((fun _ _ => .no)) (sNil)) (sCons (sAsg (fTup (fNil)) (gVar 1)) (sCons (sFor (itEnL (fM splitW (fVar 0) (fC (.str "\n")))) (gTupF 2 (gsCons (gVar 2) (gsCons (gVar 3) (gsNil)))) (L_board_read_1)) (sCons (sIf (fB (fOp (cmpW fun i j => decide (j < i)) (fCall kLen (fCons (fVar 1) (fNil))) (fC (.int 3)))) ((fun _ _ => .no)) (sNil)) (sRet (fVar 1)))))
noncomputable def g_board_read (ws : List Wv) (μ : Sto) : Rs Wv := runF 5 B_board_read ws μ
noncomputable def B_board_text : FS := sCons (sExpr (fCall (callD 1 g_need_board) (fCons (fVar 0) (fNil)))) (sRet (fCall (callD 1 g_text_of) (fCons (fVar 0) (fNil))))
noncomputable def g_board_text (ws : List Wv) (μ : Sto) : Rs Wv := runF 1 B_board_text ws μ
noncomputable def B_read_board : FS := sRet (fCall (callD 1 g_board_read) (fCons (fVar 0) (fNil)))
noncomputable def g_read_board (ws : List Wv) (μ : Sto) : Rs Wv := runF 1 B_read_board ws μ
noncomputable def B__law_row_text : FS := sCons (sIf (fB (fOp (eqW false) (fVar 0) (fTup (fNil)))) (sRet (fC (.str "plain"))) (sNil)) (sRet (fM joinW (fC (.str " > ")) (fComp (itS (fVar 0)) (gVar 1) (fYes) (fIf (fB (fOp (eqW false) (fCall kLen (fCons (fVar 1) (fNil))) (fC (.int 1)))) (fOp ixW (fVar 1) (fC (.int 0))) (fOp addW (fOp addW (fOp ixW (fVar 1) (fC (.int 0))) (fC (.str " "))) (fCall kStr (fCons (fOp ixW (fVar 1) (fC (.int 1))) (fNil))))) [1])))
noncomputable def g__law_row_text (ws : List Wv) (μ : Sto) : Rs Wv := runF 2 B__law_row_text ws μ
noncomputable def B__law_text : FS := sRet (fM joinW (fC (.str "\n")) (fComp (itS (fVar 0)) (gVar 1) (fYes) (fCall (callD 1 g__law_row_text) (fCons (fVar 1) (fNil))) [1]))
noncomputable def g__law_text (ws : List Wv) (μ : Sto) : Rs Wv := runF 2 B__law_text ws μ
noncomputable abbrev L_law_13_1 : FS := sCons (sAsg (fCall (callD 1 g__law_text) (fCons (fVar 3) (fNil))) (gVar 4)) (sIf (fOr (fB (fOp (eqW true) (fCall (callD 1 g_board_text) (fCons (fVar 3) (fNil))) (fVar 4))) (fB (fOp (eqW true) (fCall (callD 1 g_read_board) (fCons (fVar 4) (fNil))) (fVar 3)))) (sRet (fC (.bool false))) (sNil))
noncomputable abbrev L_law_13_2 : FS := sCons (sAsg (fCall (callD 2 g__law_bag) (fCons (fVar 0) (fCons (fVar 1) (fNil)))) (gVar 2)) (sFor (itS (fLst (fCons (fCall (callD 2 g__law_board) (fCons (fVar 2) (fCons (fC (.int 6)) (fNil)))) (fCons (fCall (callD 2 g__law_board) (fCons (fVar 2) (fCons (fC (.int 2)) (fNil)))) (fNil))))) (gVar 3) (L_law_13_1))
noncomputable def B_law_13 : FS := sCons (sFor (itR1 (fCall kMax2 (fCons (fC (.int 4)) (fCons (fCall kMin2 (fCons (fC (.int 12)) (fCons (fOp addW (fCall kLen (fCons (fVar 0) (fNil))) (fC (.int 3))) (fNil)))) (fNil))))) (gVar 1) (L_law_13_2)) (sRet (fOp (eqW false) (fCall (callD 1 g_read_board) (fCons (fC (.str "plain\nlift -20\ncut 50")) (fNil))) (fTup (fCons (fTup (fNil)) (fCons (fTup (fCons (fTup (fCons (fC (.str "lift")) (fCons (fNeg (fC (.int 20))) (fNil)))) (fNil))) (fCons (fTup (fCons (fTup (fCons (fC (.str "cut")) (fCons (fC (.int 50)) (fNil)))) (fNil))) (fNil)))))))
noncomputable def g_law_13 (ws : List Wv) (μ : Sto) : Rs Wv := runF 5 B_law_13 ws μ
end Ped


namespace Ped
open PySem L2 PyProof.Rows PySem.Spec
noncomputable def B_is_lot : FS := sCons (sIf (fOr (fNot (fB (fCall (callD 1 g_is_row) (fCons (fVar 0) (fNil))))) (fNot (fB (fChain leW leW (fC (.int 1)) (fCall kLen (fCons (fVar 0) (fNil))) (fC (.int 5)))))) (sRet (fC (.bool false))) (sNil)) (sRet (fOp (inW true) (fC (.str "late")) (fComp (itS (fVar 0)) (gVar 1) (fYes) (fOp ixW (fVar 1) (fC (.int 0))) [1])))
noncomputable def g_is_lot (ws : List Wv) (μ : Sto) : Rs Wv := runF 2 B_is_lot ws μ
noncomputable def B_lateness : FS := sCons (sExpr (fCall (callD 1 g_need_board) (fCons (fVar 0) (fNil)))) (sRet (fCall (callD 1 g_board_late) (fCons (fVar 0) (fNil))))
noncomputable def g_lateness (ws : List Wv) (μ : Sto) : Rs Wv := runF 1 B_lateness ws μ
noncomputable def B__law_any_value (self : List Wv → Sto → Rs Wv) : FS := sCons (sAsg (fCall (callD 2 g__law_take) (fCons (fVar 0) (fCons (fC (.int 8)) (fNil)))) (gVar 2)) (sCons (sIf (fOr (fB (fOp (cmpW fun i j => decide (i < j)) (fVar 2) (fC (.int 5)))) (fB (fOp (eqW false) (fVar 1) (fC (.int 0))))) (sCons (sAsg (fLst (fCons (fC (.int 0)) (fCons (fNeg (fC (.int 1))) (fCons (fC (.int 1)) (fCons (fC (.int 2)) (fCons (fC (.int 5)) (fCons (fC (.int 51)) (fCons (fC (.bool true)) (fCons (fC (.bool false)) (fCons (fC .none) (fCons (fC (.str "")) (fCons (fC (.str "turn")) (fCons (fC (.str "cut")) (fCons (fC (.str "late")) (fCons (fC (.str "plain")) (fCons (fOp (opI fun i j => if CPow i j then some (.int (i ^ j.toNat)) else none) (fC (.int 10)) (fC (.int 30))) (fNil))))))))))))))))) (gVar 4)) (sRet (fCall (callD 2 g__law_of) (fCons (fVar 0) (fCons (fOp addW (fVar 4) (fLst (fCons (fTup (fNil)) (fCons (fLst (fNil)) (fCons (fTup (fCons (fC (.str "turn")) (fNil))) (fCons (fTup (fCons (fC (.str "cut")) (fCons (fC (.int 3)) (fNil)))) (fCons (fTup (fCons (fC (.str "lift")) (fCons (fC (.int 0)) (fNil)))) (fCons (fTup (fCons (fTup (fCons (fC (.str "fold")) (fNil))) (fNil))) (fNil))))))))) (fNil)))))) (sNil)) (sCons (sAsg (fComp (itR1 (fCall (callD 2 g__law_take) (fCons (fVar 0) (fCons (fC (.int 5)) (fNil))))) (gVar 5) (fYes) (fCall (callD 2 self) (fCons (fVar 0) (fCons (fOp (opI fun i j => some (.int (i - j))) (fVar 1) (fC (.int 1))) (fNil)))) [5]) (gVar 3)) (sRet (fOp ixW (fLst (fCons (fVar 3) (fCons (fCall kTuple (fCons (fVar 3) (fNil))) (fCons (fCall kTuple (fCons (fVar 3) (fNil))) (fNil))))) (fOp (opI fun i j => some (.int (i - j))) (fVar 2) (fC (.int 5)))))))
noncomputable def gr__law_any_value : Nat → List Wv → Sto → Rs Wv
  | 0 => fun _ _ => .no
  | n + 1 => fun ws μ => runF 6 (B__law_any_value (gr__law_any_value n)) ws μ
noncomputable def g__law_any_value (ws : List Wv) (μ : Sto) : Rs Wv := gr__law_any_value 3 ws μ
noncomputable def B__law_spoiled (self : List Wv → Sto → Rs Wv) : FS := sCons (sIf (fOr (fNot (fB (fIsi "tuple" (fVar 1)))) (fOr (fB (fOp (eqW false) (fVar 1) (fTup (fNil)))) (fB (fOp (eqW false) (fCall (callD 2 g__law_take) (fCons (fVar 0) (fCons (fC (.int 6)) (fNil)))) (fC (.int 0)))))) (sCons (sAsg (fLst (fCons (fCall (callD 2 g__law_any_value) (fCons (fVar 0) (fCons (fC (.int 1)) (fNil)))) (fCons (fLst (fCons (fVar 1) (fNil))) (fNil)))) (gVar 2)) (sCons (sIf (fB (fIsi "str" (fVar 1))) (sAsg (fOp addW (fVar 2) (fLst (fCons (fOp addW (fVar 1) (fC (.str "s"))) (fCons (fC (.str "louder")) (fCons (fC (.str "gate")) (fCons (fC (.str "lift")) (fCons (fC (.str "steps")) (fCons (fC (.str "fold")) (fNil))))))))) (gVar 2)) (sNil)) (sCons (sIf (fB (fIsi "int" (fVar 1))) (sAsg (fOp addW (fVar 2) (fLst (fCons (fOp addW (fVar 1) (fC (.int 1))) (fCons (fOp mulW (fVar 1) (fC (.int 3))) (fCons (fC (.int 50)) (fCons (fNeg (fC (.int 20))) (fCons (fC (.int 0)) (fCons (fC (.bool true)) (fNil))))))))) (gVar 2)) (sNil)) (sRet (fCall (callD 2 g__law_of) (fCons (fVar 0) (fCons (fVar 2) (fNil)))))))) (sNil)) (sCons (sPar 3 4 (fCons (fCall (callD 2 g__law_take) (fCons (fVar 0) (fCons (fCall kLen (fCons (fVar 1) (fNil))) (fNil)))) (fCons (fCall (callD 2 g__law_take) (fCons (fVar 0) (fCons (fC (.int 8)) (fNil)))) (fNil)))) (sCons (sIf (fB (fOp (eqW false) (fVar 4) (fC (.int 0)))) (sRet (fOp addW (fSl (fVar 1) (fO0) (fO1 (fVar 3))) (fSl (fVar 1) (fO1 (fOp addW (fVar 3) (fC (.int 1)))) (fO0)))) (sNil)) (sCons (sIf (fB (fOp (eqW false) (fVar 4) (fC (.int 1)))) (sRet (fOp addW (fOp addW (fSl (fVar 1) (fO0) (fO1 (fVar 3))) (fOp mulTW (fSl (fVar 1) (fO1 (fVar 3)) (fO1 (fOp addW (fVar 3) (fC (.int 1))))) (fC (.int 2)))) (fSl (fVar 1) (fO1 (fOp addW (fVar 3) (fC (.int 1)))) (fO0)))) (sNil)) (sCons (sIf (fB (fOp (eqW false) (fVar 4) (fC (.int 2)))) (sRet (f1 revW (fVar 1))) (sNil)) (sCons (sIf (fB (fOp (eqW false) (fVar 4) (fC (.int 3)))) (sRet (fCall kList (fCons (fVar 1) (fNil)))) (sNil)) (sRet (fOp addW (fOp addW (fSl (fVar 1) (fO0) (fO1 (fVar 3))) (fTup (fCons (fCall (callD 2 self) (fCons (fVar 0) (fCons (fOp ixW (fVar 1) (fVar 3)) (fNil)))) (fNil)))) (fSl (fVar 1) (fO1 (fOp addW (fVar 3) (fC (.int 1)))) (fO0)))))))))
noncomputable def gr__law_spoiled : Nat → List Wv → Sto → Rs Wv
  | 0 => fun _ _ => .no
  | n + 1 => fun ws μ => runF 5 (B__law_spoiled (gr__law_spoiled n)) ws μ
noncomputable def g__law_spoiled (ws : List Wv) (μ : Sto) : Rs Wv := gr__law_spoiled 4 ws μ
noncomputable def B__law_is_pedal : FS := sCons (sIf (fOr (fNot (fB (fIsi "tuple" (fVar 0)))) (fOr (fB (fOp (inW true) (fCall kLen (fCons (fVar 0) (fNil))) (fLst (fCons (fC (.int 1)) (fCons (fC (.int 2)) (fNil)))))) (fNot (fB (fIsi "str" (fOp ixW (fVar 0) (fC (.int 0)))))))) (sRet (fC (.bool false))) (sNil)) (sCons (sIf (fB (fOp (eqW false) (fCall kLen (fCons (fVar 0) (fNil))) (fC (.int 1)))) (sRet (fOp (inW false) (fOp ixW (fVar 0) (fC (.int 0))) (fLst (fCons (fC (.str "turn")) (fCons (fC (.str "fold")) (fNil)))))) (sNil)) (sCons (sAsg (fDisp (fPsC (fC (.str "louder")) (fTup (fCons (fC (.int 2)) (fCons (fC (.int 4)) (fNil)))) (fPsC (fC (.str "cut")) (fTup (fCons (fC (.int 1)) (fCons (fC (.int 50)) (fNil)))) (fPsC (fC (.str "gate")) (fTup (fCons (fC (.int 1)) (fCons (fC (.int 50)) (fNil)))) (fPsC (fC (.str "lift")) (fTup (fCons (fNeg (fC (.int 20))) (fCons (fC (.int 20)) (fNil)))) (fPsC (fC (.str "steps")) (fTup (fCons (fC (.int 2)) (fCons (fC (.int 5)) (fNil)))) (fPsC (fC (.str "late")) (fTup (fCons (fC (.int 1)) (fCons (fC (.int 5)) (fNil)))) (fPs0)))))))) (gVar 1)) (sCons (sAsg (fDget2 (fVar 1) (fOp ixW (fVar 0) (fC (.int 0))) (fTup (fCons (fC (.int 1)) (fCons (fC (.int 0)) (fNil))))) (gTupF 2 (gsCons (gVar 2) (gsCons (gVar 3) (gsNil))))) (sCons (sIf (fOr (fNot (fB (fIsi "int" (fOp ixW (fVar 0) (fC (.int 1)))))) (fOr (fB (fIsi "bool" (fOp ixW (fVar 0) (fC (.int 1))))) (fB (fOp (eqW false) (fOp ixW (fVar 0) (fC (.int 1))) (fC (.int 0)))))) (sRet (fC (.bool false))) (sNil)) (sRet (fChain leW leW (fVar 2) (fOp ixW (fVar 0) (fC (.int 1))) (fVar 3)))))))
noncomputable def g__law_is_pedal (ws : List Wv) (μ : Sto) : Rs Wv := runF 4 B__law_is_pedal ws μ
noncomputable def B__law_is_row : FS := sCons (sIf (fOr (fNot (fB (fIsi "tuple" (fVar 0)))) (fB (fOp (cmpW fun i j => decide (j < i)) (fCall kLen (fCons (fVar 0) (fNil))) (fC (.int 6))))) (sRet (fC (.bool false))) (sNil)) (sRet (fOp (eqW false) (fComp (itS (fVar 0)) (gVar 1) (fNot (fB (fCall (callD 1 g__law_is_pedal) (fCons (fVar 1) (fNil))))) (fVar 1) [1]) (fLst (fNil))))
noncomputable def g__law_is_row (ws : List Wv) (μ : Sto) : Rs Wv := runF 2 B__law_is_row ws μ
noncomputable def B__law_is_board : FS := sCons (sIf (fOr (fNot (fB (fIsi "tuple" (fVar 0)))) (fNot (fB (fChain leW leW (fC (.int 1)) (fCall kLen (fCons (fVar 0) (fNil))) (fC (.int 3)))))) (sRet (fC (.bool false))) (sNil)) (sRet (fOp (eqW false) (fComp (itS (fVar 0)) (gVar 1) (fNot (fB (fCall (callD 1 g__law_is_row) (fCons (fVar 1) (fNil))))) (fVar 1) [1]) (fLst (fNil))))
noncomputable def g__law_is_board (ws : List Wv) (μ : Sto) : Rs Wv := runF 2 B__law_is_board ws μ
noncomputable def B__law_is_sound : FS := sCons (sIf (fOr (fNot (fB (fIsi "tuple" (fVar 0)))) (fB (fOp (cmpW fun i j => decide (j < i)) (fCall kLen (fCons (fVar 0) (fNil))) (fC (.int 40))))) (sRet (fC (.bool false))) (sNil)) (sRet (fOp (eqW false) (fComp (itS (fVar 0)) (gVar 1) (fOr (fNot (fB (fIsi "int" (fVar 1)))) (fB (fIsi "bool" (fVar 1)))) (fVar 1) [1]) (fLst (fNil))))
noncomputable def g__law_is_sound (ws : List Wv) (μ : Sto) : Rs Wv := runF 2 B__law_is_sound ws μ
noncomputable def B__law_is_lot : FS := sCons (sIf (fOr (fNot (fB (fCall (callD 1 g__law_is_row) (fCons (fVar 0) (fNil))))) (fNot (fB (fChain leW leW (fC (.int 1)) (fCall kLen (fCons (fVar 0) (fNil))) (fC (.int 5)))))) (sRet (fC (.bool false))) (sNil)) (sRet (fOp (eqW false) (fComp (itS (fVar 0)) (gVar 1) (fB (fOp (eqW false) (fOp ixW (fVar 1) (fC (.int 0))) (fC (.str "late")))) (fVar 1) [1]) (fLst (fNil))))
noncomputable def g__law_is_lot (ws : List Wv) (μ : Sto) : Rs Wv := runF 2 B__law_is_lot ws μ
noncomputable def B__law_told_right : FS := sCons (sAsg (fLst (fCons (fCall (callD 1 g_is_pedal) (fCons (fVar 0) (fNil))) (fCons (fCall (callD 1 g_is_row) (fCons (fVar 0) (fNil))) (fCons (fCall (callD 1 g_is_board) (fCons (fVar 0) (fNil))) (fCons (fCall (callD 1 g_is_sound) (fCons (fVar 0) (fNil))) (fCons (fCall (callD 1 g_is_lot) (fCons (fVar 0) (fNil))) (fNil))))))) (gVar 1)) (sCons (sIf (fB (fOp (eqW true) (fComp (itS (fVar 1)) (gVar 3) (fNot (fB (fIsi "bool" (fVar 3)))) (fVar 3) [3]) (fLst (fNil)))) (sRet (fC (.bool false))) (sNil)) (sCons (sAsg (fLst (fCons (fCall (callD 1 g__law_is_pedal) (fCons (fVar 0) (fNil))) (fCons (fCall (callD 1 g__law_is_row) (fCons (fVar 0) (fNil))) (fCons (fCall (callD 1 g__law_is_board) (fCons (fVar 0) (fNil))) (fNil))))) (gVar 2)) (sRet (fOp (eqW false) (fVar 1) (fOp addW (fVar 2) (fLst (fCons (fCall (callD 1 g__law_is_sound) (fCons (fVar 0) (fNil))) (fCons (fCall (callD 1 g__law_is_lot) (fCons (fVar 0) (fNil))) (fNil)))))))))
noncomputable def g__law_told_right (ws : List Wv) (μ : Sto) : Rs Wv := runF 4 B__law_told_right ws μ
noncomputable abbrev L_law_1 : FS := sCons (sAsg (fCall (callD 2 g__law_of) (fCons (fVar 4) (fCons (fVar 6) (fNil)))) (gVar 7)) (sCons (sAsg (fLstN (fCons (fVar 7) (fCons (fCall (callD 2 g__law_spoiled) (fCons (fVar 4) (fCons (fVar 7) (fNil)))) (fCons (fCall (callD 2 g__law_spoiled) (fCons (fVar 4) (fCons (fVar 7) (fNil)))) (fNil))))) (gVar 8)) (sCons (sExpr (fApp (fVar 8) (fCall (callD 2 g__law_any_value) (fCons (fVar 4) (fCons (fC (.int 2)) (fNil)))))) (frz 8 (sIf (fNot (fB (fCall (callD 1 g__law_told_right) (fCons (fCall (callD 2 g__law_of) (fCons (fVar 4) (fCons (fVar 8) (fNil)))) (fNil))))) (sRet (fC (.bool false))) (sNil)))))
noncomputable abbrev L_law_2 : FS := sCons (sAsg (fCall (callD 2 g__law_bag) (fCons (fVar 0) (fCons (fVar 1) (fNil)))) (gVar 4)) (sCons (sAsg (fCall (callD 2 g__law_board) (fCons (fVar 4) (fCons (fC (.int 6)) (fNil)))) (gVar 5)) (sCons (sAsg (fLst (fCons (fVar 5) (fCons (fVar 5) (fCons (fOp ixW (fVar 5) (fC (.int 0))) (fCons (fCall (callD 2 g__law_pedal) (fCons (fVar 4) (fCons (fC (.bool true)) (fNil)))) (fCons (fCall (callD 2 g__law_numbers) (fCons (fVar 4) (fCons (fC (.int 40)) (fNil)))) (fCons (fCall (callD 3 g__law_pedals) (fCons (fVar 4) (fCons (fC (.int 5)) (fCons (fC (.bool false)) (fNil))))) (fNil)))))))) (gVar 6)) (sCons (sFor (itR1 (fC (.int 12))) (gVar 2) (L_law_1)) (sIf (fB (fOp (eqW true) (fCall (callD 1 g_lateness) (fCons (fVar 5) (fNil))) (fCall kMax (fCons (fComp (itS (fVar 5)) (gVar 9) (fYes) (fCall (callD 1 g__law_lateness) (fCons (fVar 9) (fNil))) [9]) (fNil))))) (sRet (fC (.bool false))) (sNil)))))
noncomputable def B_law : FS := sCons (sFor (itR1 (fCall kMax2 (fCons (fC (.int 4)) (fCons (fCall kMin2 (fCons (fC (.int 10)) (fCons (fOp addW (fCall kLen (fCons (fVar 0) (fNil))) (fC (.int 3))) (fNil)))) (fNil))))) (gVar 1) (L_law_2)) (sCons (sAsg (fTup (fCons (fC (.str "turn")) (fNil))) (gVar 2)) (sCons (sAsg (fLst (fCons (fTup (fCons (fC (.str "louder")) (fCons (fC (.int 1)) (fNil)))) (fCons (fTup (fCons (fC (.str "louder")) (fCons (fC (.int 4)) (fNil)))) (fCons (fTup (fCons (fC (.str "louder")) (fCons (fC (.int 5)) (fNil)))) (fCons (fTup (fCons (fC (.str "cut")) (fCons (fC (.int 0)) (fNil)))) (fCons (fTup (fCons (fC (.str "cut")) (fCons (fC (.int 50)) (fNil)))) (fCons (fTup (fCons (fC (.str "cut")) (fCons (fC (.int 51)) (fNil)))) (fCons (fTup (fCons (fC (.str "gate")) (fCons (fNeg (fC (.int 1))) (fNil)))) (fNil))))))))) (gVar 3)) (sCons (sAsg (fOp addW (fVar 3) (fLst (fCons (fTup (fCons (fC (.str "lift")) (fCons (fNeg (fC (.int 20))) (fNil)))) (fCons (fTup (fCons (fC (.str "lift")) (fCons (fC (.int 21)) (fNil)))) (fCons (fTup (fCons (fC (.str "lift")) (fCons (fC (.int 0)) (fNil)))) (fCons (fTup (fCons (fC (.str "steps")) (fCons (fC (.int 1)) (fNil)))) (fCons (fTup (fCons (fC (.str "steps")) (fCons (fC (.int 5)) (fNil)))) (fCons (fTup (fCons (fC (.str "late")) (fCons (fC (.int 6)) (fNil)))) (fCons (fTup (fCons (fC (.str "cut")) (fNil))) (fNil)))))))))) (gVar 3)) (sCons (sAsg (fOp addW (fVar 3) (fLst (fCons (fTup (fCons (fC (.str "late")) (fCons (fC (.bool true)) (fNil)))) (fCons (fTup (fCons (fC (.str "turn")) (fCons (fC (.int 1)) (fNil)))) (fCons (fOp mulTW (fTup (fCons (fVar 2) (fNil))) (fC (.int 5))) (fCons (fOp mulTW (fTup (fCons (fVar 2) (fNil))) (fC (.int 6))) (fCons (fOp mulTW (fTup (fCons (fVar 2) (fNil))) (fC (.int 7))) (fCons (fOp mulTW (fTup (fCons (fTup (fNil)) (fNil))) (fC (.int 3))) (fCons (fOp mulTW (fTup (fCons (fTup (fNil)) (fNil))) (fC (.int 4))) (fNil)))))))))) (gVar 3)) (sCons (sAsg (fOp addW (fVar 3) (fLst (fCons (fTup (fNil)) (fCons (fOp mulTW (fTup (fCons (fC (.int 3)) (fNil))) (fC (.int 40))) (fCons (fOp mulTW (fTup (fCons (fC (.int 3)) (fNil))) (fC (.int 41))) (fCons (fTup (fCons (fTup (fCons (fC (.str "late")) (fCons (fC (.int 1)) (fNil)))) (fNil))) (fNil))))))) (gVar 3)) (sRet (fOp (eqW false) (fComp (itS (fVar 3)) (gVar 7) (fNot (fB (fCall (callD 1 g__law_told_right) (fCons (fVar 7) (fNil))))) (fVar 7) [7]) (fLst (fNil)))))))))
noncomputable def g_law (ws : List Wv) (μ : Sto) : Rs Wv := runF 10 B_law ws μ
end Ped

/-! PedTm: t.count(x), t.index(x), t a tuple made at run time -/
namespace Ped
open PySem PySem.Spec PyProof.Rows L2
theorem ru66 {k : Nat} {A : Around} (r : Room k A) : A.units + 66 < cLine := by have := r.un; omega
section
variable {X : Cx} {pins : List (Addr × Obj)} {σ : L2.St} {H : Hp} {s : Shared}
theorem dp_tup {a : Addr} {ds : List D} (I : Inv X pins σ H s) (h : Dp X.K H (.ref a) (.tuple ds)) : ∃ (its : List Value) (as : List Addr), IsTup s.heap a its.toArray ∧ ReadsAll s.heap its.toArray.toList ds as := by
  cases h with
  | tup hs ha =>
    obtain ⟨its, rv, p, hz⟩ := I.tuple hs
    obtain ⟨as, r⟩ := Dp.readsAll I ds _ its ha rv
    exact ⟨its, as, p, r⟩
theorem plain_all {ds : List D} (h : SeqAt.shaped (.tuple ds) = true) : PyData.plainAll ds = true := PyData.plain_of_canLay0 (.tuple ds) (SeqAt.canLay_of_shaped h)
theorem shaped_depth {d : D} (h : SeqAt.shaped d = true) : d.depth ≤ 64 := by
  unfold SeqAt.shaped at h
  rw [Bool.and_eq_true, decide_eq_true_eq] at h
  exact h.2
theorem room_tm {ds : List D} {d : D} (hd : SeqAt.shaped d = true) (hu : X.A.units + 66 < cLine) : X.A.units + 1 + min (PyData.depthAll ds) d.depth < cLine := by
  have := shaped_depth hd
  omega
theorem call_tcount {a : Addr} {ds : List D} {d : D} {y : V} {u : Value} {Q : VK} (I : Inv X pins σ H s) (hu : X.A.units + 66 < cLine) (ha : Dp X.K H (.ref a) (.tuple ds)) (hy : Dp X.K H y d) (ry : RelV y u) (s1 : SeqAt.shaped (.tuple ds) = true) (s2 : SeqAt.shaped d = true)
    (q : Q (.int (ds.countP fun z => PyData.eqv z d : Nat)) H) : wpAny (model X.prog X.w) X.A (call (.builtin "tuple.count") [.ref a, u]) (EP X pins σ Q) X.xe s := by
  obtain ⟨its, as, p, r⟩ := dp_tup I ha
  obtain ⟨bs, rx⟩ := Dp.reads I d y u hy ry
  exact SeqAt.count_tuple_data p r rx (plain_all s1) (PyData.plain_of_canLay0 d (SeqAt.canLay_of_shaped s2)) (room_tm s2 hu) ⟨.int _, H, I.tok _, ⟨_, rfl⟩, q⟩
theorem call_tindex {a : Addr} {ds : List D} {d : D} {y : V} {u : Value} {j : Nat} {Q : VK} (I : Inv X pins σ H s) (hu : X.A.units + 66 < cLine) (ha : Dp X.K H (.ref a) (.tuple ds)) (hy : Dp X.K H y d) (ry : RelV y u) (s1 : SeqAt.shaped (.tuple ds) = true) (s2 : SeqAt.shaped d = true)
    (hj : SeqAt.dataPlace ds d = some j) (q : Q (.int (j : Nat)) H) : wpAny (model X.prog X.w) X.A (call (.builtin "tuple.index") [.ref a, u]) (EP X pins σ Q) X.xe s := by
  obtain ⟨its, as, p, r⟩ := dp_tup I ha
  obtain ⟨bs, rx⟩ := Dp.reads I d y u hy ry
  obtain ⟨j1, j2, j3⟩ := SeqAt.hit_at r (plain_all s1) hj
  have eqs := SeqAt.items_plain (A := X.A) r rx (plain_all s1) (PyData.plain_of_canLay0 d (SeqAt.canLay_of_shaped s2)) (room_tm s2 hu)
  obtain ⟨⟨cls, dd, data, sl⟩, ho, hc, n, hd⟩ := p
  cases (show cls = _ from hc); cases (show data = _ from hd)
  exact call_meets PySem.F.slot_tuple_index ⟨_, ho, rfl⟩ PySem.F.entry_tuple_index (PySem.F.args_tuple_index_2 _ _) (TI.tuple_indexAt a its.toArray n dd sl u (fun z => PyData.eqv (SeqAt.readOf s.heap z) d) j j1 j2 j3) ⟨ho, eqs, .int _, H, I.tok _, ⟨_, rfl⟩, q⟩
end
section
variable {X : Cx} {W : WX}
/-- a method of a tuple made at run time, of one argument -/
def tTm (r : V → V → Hp → VK → Prop) (to te : TE) : TE := fun σ H Q => to σ H fun x H1 => (∃ a o xs, x = .ref a ∧ H1 a = some (.frz o (.tup xs)) ∧ o.dict = none) ∧ te σ H1 fun y H2 => r x y H2 Q
theorem pe_tm {o e : Expr} {to te : TE} {id : String} {name : Str} {apos pos : Pos} {r : V → V → Hp → VK → Prop} (slot : Slot "tuple" name id) (ty : typeOf (.builtin id) = pure (.type "method_descriptor"))
    (rule : ∀ (pins : List (Addr × Obj)) (s : Shared) (σ : L2.St) (H : Hp) (a : Addr) (y : V) (u : Value) (Q : VK), Inv X pins σ H s → RelV y u → r (.ref a) y H Q → wpAny (model X.prog X.w) X.A (call (.builtin id) [.ref a, u]) (EP X pins σ Q) X.xe s) (ho : PE X o to) (he : PE X e te)
    (hs : starEach [e] X.env = [(false, eval e X.env)] := by rfl) (hbase : attributeBase o name X.env (eval o X.env) = eval o X.env := by rfl) (hline : (apos.endLine == pos.line) = true := by rfl) : PE X (.Call (.Attribute o name apos) [e] [] pos) (tTm r to te) := by
  refine ⟨fun pins s σ H Q I h => PySem.Call_method1 hbase hs hline (thn (ho.run pins s σ H _ I h) fun v s1 ⟨x, H1, I1, r1, ⟨a, ob, xs, ex, ha, hd⟩, q1⟩ => ?_)⟩
  subst ex
  obtain rfl : v = Value.ref a := r1
  obtain ⟨g1, _, its, rv, o2, g2, g3, g4⟩ := I1.hok a _ ha
  rw [g1] at g2
  cases g2
  refine ⟨"tuple", _, PySem.F.plainAttrs_tuple, slot, ty, ⟨ob, g1, g3⟩, fun b e => ?_, Calls.callWith_builtin rfl (Calls.evalArgs_plain (Calls.spliced_cons ?_))⟩
  · cases e
    exact ⟨ob, g1, hd⟩
  · exact thn (he.run pins s1 σ H1 _ I1 q1) fun u s2 ⟨y, H2, I2, r2, q2⟩ => Calls.spliced_nil (rule pins s2 σ H2 a y u Q I2 r2 q2)
def fTm (h : List D → Wv → Sto → Rs Wv) (f g : FE) : FE := fun env μ => (f env μ).bind fun x μ1 => match x with
  | .d (.tuple ds) => if inN ds = false then (g env μ1).bind fun y μ2 => h ds y μ2 else .no
  | _ => .no
def countW (ds : List D) (y : Wv) (μ : Sto) : Rs Wv := match y with
  | .d d => if SeqAt.shaped (.tuple ds) = true ∧ SeqAt.shaped d = true then .ok (.d (.int (ds.countP fun z => PyData.eqv z d : Nat))) μ else .no
  | _ => .no
def indexW (ds : List D) (y : Wv) (μ : Sto) : Rs Wv := match y with
  | .d d => if SeqAt.shaped (.tuple ds) = true ∧ SeqAt.shaped d = true then (match SeqAt.dataPlace ds d with
    | some j => .ok (.d (.int (j : Nat))) μ
    | none => .no) else .no
  | _ => .no
def rTc (X : Cx) : V → V → Hp → VK → Prop := fun x y H Q => ∃ ds d, Dp X.K H x (.tuple ds) ∧ Dp X.K H y d ∧ SeqAt.shaped (.tuple ds) = true ∧ SeqAt.shaped d = true ∧ Q (.int (ds.countP fun z => PyData.eqv z d : Nat)) H
def rTi (X : Cx) : V → V → Hp → VK → Prop := fun x y H Q => ∃ ds d j, Dp X.K H x (.tuple ds) ∧ Dp X.K H y d ∧ SeqAt.shaped (.tuple ds) = true ∧ SeqAt.shaped d = true ∧ SeqAt.dataPlace ds d = some j ∧ Q (.int (j : Nat)) H
theorem fTm_ok {h : List D → Wv → Sto → Rs Wv} {f g : FE} {o e : Expr} {pos apos : Pos} {name : Str} {r : V → V → Hp → VK → Prop}
    (ok : ∀ (x : V) (ds : List D) (y : Wv) (u : V) (S S0 : Sta) (μ : Sto) (Q : VK) (σ : L2.St), HS X.K S μ → Rp X.K S.F x (.tuple ds) → RW X.K S u y → (h ds y μ).Post (POk X.K S Q) (PEx X.K W σ S0) → r x u S.H Q)
    (rule : ∀ {to te : TE}, PE X o to → PE X e te → PE X (.Call (.Attribute o name apos) [e] [] pos) (tTm r to te)) (ho : CEx X W o f) (he : CEx X W e g) :
    CEx X W (.Call (.Attribute o name apos) [e] [] pos) (fTm h f g) := by
  obtain ⟨to, po, qo⟩ := ho
  obtain ⟨te, pe, qe⟩ := he
  refine ⟨_, rule po pe, fun env σ S μ hE hS Q hp => ?_⟩
  unfold fTm at hp
  rw [Rs.post_bind] at hp
  refine qo env σ S μ hE hS _ (hp.mono (fun x μ1 h1 v S1 e1 hS1 r1 => ?_) fun _ _ z => z)
  split at h1
  · split at h1
    · rename_i ds hi
      obtain ⟨a, xs, ob, rfl, ha, hd, ra⟩ := rp_nd_inv r1 hi
      refine ⟨⟨a, ob, xs, rfl, hS1.sub _ _ ha, hd⟩, ?_⟩
      rw [Rs.post_bind] at h1
      refine qe env σ S1 μ1 (hE.mono e1) hS1 _ (h1.mono (fun y μ2 h2 u S2 e2 hS2 r2 => ?_) fun _ _ z => z.mono e1)
      exact ok _ ds y u S2 S μ2 Q σ hS2 (Rp.mono e2.sb _ _ r1) r2 (h2.mono (fun w ν q => POk.mono (e1.trans e2) q) fun _ _ z => z)
    · exact h1.elim
  · exact h1.elim
theorem c_tcount {o e : Expr} {f g : FE} {apos pos : Pos} (hu : X.A.units + 66 < cLine) (ho : CEx X W o f) (he : CEx X W e g) (hs : starEach [e] X.env = [(false, eval e X.env)] := by rfl) (hbase : attributeBase o "count" X.env (eval o X.env) = eval o X.env := by rfl) (hline : (apos.endLine == pos.line) = true := by rfl) :
    CEx X W (.Call (.Attribute o "count" apos) [e] [] pos) (fTm countW f g) := by
  refine fTm_ok (r := rTc X) (fun x ds y u S S0 μ Q σ hS rx ry hp => ?_) (fun po pe => pe_tm (r := rTc X) PySem.F.slot_tuple_count PySem.F.type_tuple_count (fun pins s σ H a y u Q I ry ⟨ds, d, h1, h2, h3, h4, q⟩ => call_tcount I hu h1 h2 ry h3 h4 q) po pe hs hbase hline) ho he
  unfold countW at hp
  split at hp
  · split at hp
    · rename_i hh
      exact ⟨ds, _, Rp.dp hS.sub _ _ rx, Rp.dp hS.sub _ _ ry, hh.1, hh.2, hp _ S (Ext.refl S) hS (.int _)⟩
    · exact hp.elim
  · exact hp.elim
theorem c_tindex {o e : Expr} {f g : FE} {apos pos : Pos} (hu : X.A.units + 66 < cLine) (ho : CEx X W o f) (he : CEx X W e g) (hs : starEach [e] X.env = [(false, eval e X.env)] := by rfl) (hbase : attributeBase o "index" X.env (eval o X.env) = eval o X.env := by rfl) (hline : (apos.endLine == pos.line) = true := by rfl) :
    CEx X W (.Call (.Attribute o "index" apos) [e] [] pos) (fTm indexW f g) := by
  refine fTm_ok (r := rTi X) (fun x ds y u S S0 μ Q σ hS rx ry hp => ?_) (fun po pe => pe_tm (r := rTi X) PySem.F.slot_tuple_index PySem.F.type_tuple_index (fun pins s σ H a y u Q I ry ⟨ds, d, j, h1, h2, h3, h4, h5, q⟩ => call_tindex I hu h1 h2 ry h3 h4 h5 q) po pe hs hbase hline) ho he
  unfold indexW at hp
  split at hp
  · split at hp
    · rename_i hh
      split at hp
      · rename_i j hj
        exact ⟨ds, _, j, Rp.dp hS.sub _ _ rx, Rp.dp hS.sub _ _ ry, hh.1, hh.2, hj, hp _ S (Ext.refl S) hS (.int _)⟩
      · exact hp.elim
    · exact hp.elim
  · exact hp.elim
end
end Ped

/-! PedSt1: sets of keys of any depth: the small questions -/
namespace Ped
open PySem PySem.Spec PyProof.Rows L2
abbrev KN := NestedKey
abbrev IsK (P : Program) (w : World) (h : Heap) (k : KN) (a : Addr) : Prop := (nestedKind P w).is h k a
theorem nested_items {h : Heap} : ∀ {ks : List KN} {vs : List Value}, NestedAll h ks vs → ∀ v ∈ vs, ∃ k, NestedIs h k v ∧ k.depth ≤ NestedKey.depthAll ks
  | _, _, .nil, v, hv => by cases hv
  | k :: ks, _, .cons r t, v, hv => by
    have hd : NestedKey.depthAll (k :: ks) = max k.depth (NestedKey.depthAll ks) := rfl
    rcases List.mem_cons.mp hv with rfl | hv
    · exact ⟨k, r, by omega⟩
    · obtain ⟨k', h1, h2⟩ := nested_items t v hv
      exact ⟨k', h1, by omega⟩
section
variable {P : Program} {w : World}
/-- whether the hash is by value is answered, either way -/
theorem hashBy_any : ∀ (n : Nat) {k : KN} {v : Value} {s : Shared} {A : Around} {E : Value → Shared → Prop} {Q : Bool → Shared → Prop}, NestedIs s.heap k v → k.depth ≤ n → (∀ b, Q b s) → wpAny (model P w) A (hashByValue n v) Q E s := by
  intro n
  induction n with
  | zero =>
    intro k v s A E Q hk hd hQ
    cases hk with
    | tup h1 h2 h3 h4 =>
      simp only [NestedKey.depth] at hd
      omega
    | _ => exact wpAny_pure (hQ _)
  | succ n ih =>
    intro k v s A E Q hk hd hQ
    cases hk with
    | @tup a o vs m ks h1 h2 h3 h4 =>
      simp only [NestedKey.depth] at hd
      have hT : s.TypeIs (.ref a) "tuple" := ⟨o, h1, h2⟩
      have hin := nested_items h4
      unfold hashByValue
      refine wpAny_bind (wpAny_specialOf hT F.slot_tuple_hash.lookup ?_)
      show wpAny _ _ (seqItems? (.ref a) >>= _) _ _ s
      refine wpAny_bind (wpAny_seqItems h1 h3 (wpAny_bind ?_))
      show wpAny _ _ (forIn vs _ _) _ _ s
      rw [← Array.forIn_toList]
      refine wpAny_forIn_list _ (fun l z s1 => (z.1 = none ∧ s1 = s) ∧ ∀ v ∈ l, v ∈ vs.toList) _ ?_ ?_ _ _ ⟨⟨rfl, rfl⟩, fun _ z => z⟩
      · rintro v l ⟨z1, z2⟩ s1 ⟨⟨e1, rfl⟩, hl⟩
        obtain ⟨k', c1, c2⟩ := hin v (hl v List.mem_cons_self)
        refine wpAny_bind (ih c1 (by omega) fun b => ?_)
        cases b with
        | true => exact wpAny_pure ⟨⟨rfl, rfl⟩, fun u hu => hl u (List.mem_cons_of_mem _ hu)⟩
        | false => exact wpAny_pure (show wpAny (model P w) A (pure false) Q E s1 from wpAny_pure (hQ false))
      · rintro ⟨z1, z2⟩ s1 ⟨⟨e1, rfl⟩, _⟩
        cases e1
        exact wpAny_pure (hQ true)
    | _ => exact wpAny_pure (hQ _)
/-- such a key is of no class statement -/
theorem noClass : ∀ (n : Nat) {k : KN} {v : Value} {s : Shared} {A : Around} {E : Value → Shared → Prop} {Q : Bool → Shared → Prop}, NestedIs s.heap k v → k.depth ≤ n → Q false s → wpAny (model P w) A (ofAClassStatement n v) Q E s := by
  intro n
  induction n with
  | zero =>
    intro k v s A E Q hk hd hQ
    cases hk with
    | tup h1 h2 h3 h4 => simp only [NestedKey.depth] at hd; omega
    | _ => exact wpAny_pure hQ
  | succ n ih =>
    intro k v s A E Q hk hd hQ
    cases hk with
    | @tup a o vs m ks h1 h2 h3 h4 =>
      simp only [NestedKey.depth] at hd
      have hT : s.TypeIs (.ref a) "tuple" := ⟨o, h1, h2⟩
      have hin := nested_items h4
      have tt : (("tuple" : String) == "tuple") = true := by decide
      unfold ofAClassStatement
      refine wpAny_bind (wpAny_typeOf hT ?_)
      simp only [tt, if_true, Bool.not_true, Bool.false_eq_true, if_false]
      show wpAny _ _ (pure true >>= _) _ _ s
      refine wpAny_bind (wpAny_pure ?_)
      simp only [Bool.not_true, Bool.false_eq_true, if_false]
      show wpAny _ _ (seqItems? (.ref a) >>= _) _ _ s
      refine wpAny_bind (wpAny_seqItems h1 h3 (wpAny_bind ?_))
      show wpAny _ _ (forIn vs _ _) _ _ s
      rw [← Array.forIn_toList]
      refine wpAny_forIn_list _ (fun l z s1 => (z.1 = none ∧ s1 = s) ∧ ∀ v ∈ l, v ∈ vs.toList) _ ?_ ?_ _ _ ⟨⟨rfl, rfl⟩, fun _ z => z⟩
      · rintro v l ⟨z1, z2⟩ s1 ⟨⟨e1, rfl⟩, hl⟩
        obtain ⟨k', c1, c2⟩ := hin v (hl v List.mem_cons_self)
        refine wpAny_bind (ih c1 (by omega) ?_)
        exact wpAny_pure ⟨⟨rfl, rfl⟩, fun u hu => hl u (List.mem_cons_of_mem _ hu)⟩
      · rintro ⟨z1, z2⟩ s1 ⟨⟨e1, rfl⟩, _⟩
        cases e1
        exact wpAny_pure hQ
    | _ => exact wpAny_pure hQ
/-- the search of a key among keys shows nothing -/
theorem unseen {k : KN} {b : Addr} {s : Shared} {A : Around} {E : Value → Shared → Prop} {Q : Bool → Shared → Prop} (hk : IsK P w s.heap k b) {ys : List Value} (hy : ∀ y ∈ ys, ∃ k' c, y = Value.ref c ∧ IsK P w s.heap k' c) (hQ : Q false s) :
    wpAny (model P w) A (searchCouldBeSeen (.ref b) ys) Q E s := by
  unfold searchCouldBeSeen
  refine wpAny_bind (wpAny_forIn_list _ (fun l z s1 => (z.1 = none ∧ s1 = s) ∧ ∀ v ∈ l, v ∈ ys) _ ?_ ?_ _ _ ⟨⟨rfl, rfl⟩, fun _ z => z⟩)
  · rintro v l ⟨z1, z2⟩ s1 ⟨⟨e1, rfl⟩, hl⟩
    obtain ⟨k', c, rfl, hc⟩ := hy v (hl v List.mem_cons_self)
    have next : ∀ v ∈ l, v ∈ ys := fun u hu => hl u (List.mem_cons_of_mem _ hu)
    dsimp only
    by_cases q : (b == c || (carriedByValue (.ref b) && carriedByValue (.ref c))) = true
    · exact wp_if_pos q (wpAny_pure ⟨⟨rfl, rfl⟩, next⟩)
    · refine wp_if_neg q (wpAny_bind ((nestedKind P w).quiet hk ?_))
      refine wp_if_neg (by decide) (wpAny_bind ((nestedKind P w).quiet hc ?_))
      refine wp_if_neg (by decide) (wpAny_bind (noClass 8 hk.1 hk.2 ?_))
      refine wp_if_neg (by decide) (wpAny_bind (noClass 8 hc.1 hc.2 ?_))
      exact wp_if_neg (by decide) (wpAny_pure ⟨⟨rfl, rfl⟩, next⟩)
  · rintro ⟨z1, z2⟩ s1 ⟨⟨e1, rfl⟩, _⟩
    cases e1
    exact wpAny_pure hQ
end
end Ped

/-! PedSt2: a set of such keys, and the search in it -/
namespace Ped
open PySem PySem.Spec PyProof.Rows L2
/-- the row of a key -/
def rowK (w : World) (p : Addr × KN) : Int × Value := (p.2.hash w, .ref p.1)
def hashK (w : World) (L : List (Addr × KN)) : List Int := L.map fun p => p.2.hash w
structure SN (P : Program) (w : World) (h : Heap) (a : Addr) (L : List (Addr × KN)) (es : Array (Int × Value)) (ep : Nat) (t : SetTable) : Prop where
  obj : ∃ o, (h.get? a = some o ∧ o.data = .set es ep t) ∧ o.ExactSet
  all : es.toList = L.map (rowK w)
  good : TabOk t (hashK w L)
  dist : (L.map Prod.snd).Nodup
  keys : ∀ p, p ∈ L → IsK P w h p.2 p.1
  ord : w.params.followText "set-order" = true ∨ t.led = true
  free : L.length * 5 < t.mask * 3
  few : L.length < 64
/-- the c-th place of the search -/
abbrev pb (m : Nat) (h : Int) (c : Nat) : SetTable.Probe := nth m (runAt m (SetTable.bits h % (m + 1)) (SetTable.bits h)) c
theorem pb_dummy (m : Nat) (h : Int) (c : Nat) : (pb m h c).dummy = none := by
  suffices H : ∀ (c : Nat) (p : SetTable.Probe), p.dummy = none → (nth m p c).dummy = none from H c _ rfl
  intro c
  induction c with
  | zero => exact fun p h => h
  | succ c ih =>
    intro p hp
    apply ih
    unfold adv
    split
    · exact hp
    · exact hp
theorem pb_step (m : Nat) (h : Int) (c q : Nat) : nth m (pb m h c) q = pb m h (c + q) := (nth_add m c _ q).symm
section
variable {P : Program} {w : World} {A : Around} {E : Value → Shared → Prop} {s : Shared} {a : Addr} {L : List (Addr × KN)} {es : Array (Int × Value)} {ep : Nat} {t : SetTable}
theorem SN.size {h : Heap} (R : SN P w h a L es ep t) : es.size = L.length := by
  rw [← Array.length_toList, R.all, List.length_map]
theorem SN.fit {h : Heap} (R : SN P w h a L es ep t) : t.fits es.size = true := by
  have e1 : t.place.size = L.length := by rw [R.good.sz, hashK, List.length_map]
  have e2 := R.free
  unfold SetTable.fits SetTable.fill
  rw [R.good.dm, R.size, e1]
  simp
  omega
theorem SN.at {h : Heap} (R : SN P w h a L es ep t) {i : Nat} {p : Addr × KN} (hp : L[i]? = some p) : es[i]? = some (rowK w p) := by
  have : es.toList[i]? = some (rowK w p) := by rw [R.all, List.getElem?_map, hp]; rfl
  simpa using this
theorem SN.live {h : Heap} (R : SN P w h a L es ep t) {i j : Nat} (hi : t.place.toList[i]? = some j) : ∃ p, L[i]? = some p ∧ p ∈ L := by
  have h1 := (List.getElem?_eq_some_iff.mp hi).1
  have e1 : t.place.size = L.length := by rw [R.good.sz, hashK, List.length_map]
  rw [Array.length_toList, e1] at h1
  exact ⟨L[i], List.getElem?_eq_getElem h1, List.getElem_mem h1⟩
theorem SN.here {h : Heap} (R : SN P w h a L es ep t) : ¬ t.gaveWay = true := by
  have := mask_odd R.good.mok
  unfold SetTable.gaveWay
  rw [this]
  decide
theorem seek (R : SN P w s.heap a L es ep t) {x : Addr} {k : KN} (hx : IsK P w s.heap k x) (hu : A.units + 8 < cLine) {K : Nat} (k1 : K < 10 * SetTable.turns t.mask)
    (k2 : ¬ way t.mask (k.hash w) K ∈ t.place.toList) (k3 : ∀ c, c < K → way t.mask (k.hash w) c ∈ t.place.toList) {Q : SetFound → Shared → Prop}
    (yes : k ∈ L.map Prod.snd → Q (.there none) s) (no : ¬ k ∈ L.map Prod.snd → Q (.free (way t.mask (k.hash w) K) false) s) :
    ∀ (f c : Nat) (st : Option SetTable.Probe), c ≤ K → K < f + c → st.getD (t.probeStart (k.hash w)) = pb t.mask (k.hash w) c →
      (∀ (i : Nat) p, L[i]? = some p → p.2 = k → ∃ d, (c ≤ d ∧ d < K) ∧ t.place.toList[i]? = some (way t.mask (k.hash w) d)) →
      wpAny (model P w) A (setSearchFrom a (.ref x) (k.hash w) true f st) Q E s := by
  obtain ⟨o, ⟨ho, hd⟩, _⟩ := R.obj
  intro f
  induction f with
  | zero => intro c st h1 h2; omega
  | succ f ih =>
    intro c st hc hf hst hre
    rw [setSearchFrom_succ]
    refine wpAny_bind (wpAny_setState_of ho hd R.fit ?_)
    dsimp only
    refine wp_if_neg R.here ?_
    try refine wpAny_bind (wpAny_pure ?_)
    rw [hst]
    have wj : ∀ q, (nth t.mask (pb t.mask (k.hash w) c) q).j = way t.mask (k.hash w) (c + q) := fun q => by rw [pb_step]
    have hh : ∀ (i : Nat) p, L[i]? = some p → (es[i]?.map (·.1)).getD 0 = p.2.hash w := fun i p hp => by rw [R.at hp]; rfl
    have passed : ∀ {q : Nat}, (∀ (k' i' : Nat), k' < q → t.place.toList[i']? = some (nth t.mask (pb t.mask (k.hash w) c) k').j → (es[i']?.map (·.1)).getD 0 ≠ k.hash w) → ∀ {i : Nat} {p : Addr × KN} {d : Nat}, L[i]? = some p → p.2 = k → c ≤ d → t.place.toList[i]? = some (way t.mask (k.hash w) d) → c + q ≤ d := by
      intro q hno i p d hp hk hd1 hpl
      rcases Nat.lt_or_ge d (c + q) with z | z
      · refine absurd ?_ (hno (d - c) i (by omega) (by rw [wj, show c + (d - c) = d by omega]; exact hpl))
        rw [hh i p hp, hk]
      · exact z
    have sp := go_spec t R.good.ris R.good.dm (fun i => (es[i]?.map (·.1)).getD 0) (k.hash w) (10 * SetTable.turns t.mask) (K - c) (pb t.mask (k.hash w) c) (pb_dummy _ _ _) (by omega)
      (fun q hq => by rw [wj]; exact k3 _ (by omega)) (by rw [wj, show c + (K - c) = K by omega]; exact k2)
    rcases sp with ⟨q, i, hq, hi, he, hno, hgo⟩ | ⟨hno, hgo⟩
    · rw [wj] at hi
      have hpr : t.probe (fun i => (es[i]?.map (·.1)).getD 0) (k.hash w) (pb t.mask (k.hash w) c) = some (.candidate (way t.mask (k.hash w) (c + q)) i (pb t.mask (k.hash w) (c + (q + 1)))) := by
        rw [← wj, ← pb_step]
        exact hgo
      rw [hpr]
      dsimp only
      obtain ⟨p, hp, hm⟩ := R.live hi
      have body : wpAny (model P w) A (searchRest a (.ref x) (k.hash w) true f es t (way t.mask (k.hash w) (c + q)) i (pb t.mask (k.hash w) (c + (q + 1)))) Q E s := by
        unfold searchRest
        rw [R.at hp]
        dsimp only [rowK]
        refine wpAny_bind (wpAny_holding ((nestedKind P w).eqBool hu (R.keys p hm) hx (wpAny_bind (wpAny_setState_of ho hd R.fit ?_))))
        dsimp only
        by_cases same : p.2 = k
        · exact wp_if_pos (by simp [same]) (wpAny_pure (yes (same ▸ List.mem_map_of_mem hm)))
        · refine wp_if_neg (by simp [same]) ?_
          try refine wpAny_bind (wpAny_pure ?_)
          have sl : t.slot (way t.mask (k.hash w) (c + q)) = .live i := slot_live R.good.ris hi
          rw [sameMem]
          dsimp only
          simp only [if_true, sl, R.at hp, rowK]
          refine wpAny_bind (wpAny_isSame_ref_self (wpAny_bind (wpAny_pure ?_)))
          simp only [if_true]
          refine wp_if_neg (by simp [same]) (ih (c + (q + 1)) _ (by omega) (by omega) rfl fun i0 p0 h0 e0 => ?_)
          obtain ⟨d, ⟨d1, d2⟩, d3⟩ := hre i0 p0 h0 e0
          have d4 := passed hno h0 e0 d1 d3
          refine ⟨d, ⟨?_, d2⟩, d3⟩
          rcases Nat.eq_or_lt_of_le d4 with z | z
          · rw [← z] at d3
            have := slot_live R.good.ris d3
            rw [sl] at this
            cases this
            rw [hp] at h0
            cases h0
            exact absurd e0 same
          · omega
      by_cases led : t.led = true
      · refine wp_if_neg (by simp [led]) ?_
        try refine wpAny_bind (wpAny_pure ?_)
        exact body
      · refine wp_if_pos (by simp [led]) (wpAny_bind (unseen hx (fun y hy => ?_) ?_))
        · obtain ⟨e, h1, h2⟩ := List.mem_map.mp hy
          have h3 : e ∈ es.toList := by
            have : e ∈ es ∧ e.1 = k.hash w := by simpa using h1
            simpa using this.1
          rw [R.all] at h3
          obtain ⟨p2, h4, h5⟩ := List.mem_map.mp h3
          exact ⟨p2.2, p2.1, by rw [← h2, ← h5]; rfl, R.keys p2 h4⟩
        · refine wp_if_neg (by decide) ?_
          try refine wpAny_bind (wpAny_pure ?_)
          exact body
    · have hpr : t.probe (fun i => (es[i]?.map (·.1)).getD 0) (k.hash w) (pb t.mask (k.hash w) c) = some (.empty (way t.mask (k.hash w) K) none) := by
        have z : way t.mask (k.hash w) K = (nth t.mask (pb t.mask (k.hash w) c) (K - c)).j := by rw [wj, show c + (K - c) = K by omega]
        rw [z]
        exact hgo
      rw [hpr]
      dsimp only
      refine wpAny_pure (no fun hm => ?_)
      obtain ⟨p0, h0, e0⟩ := List.mem_map.mp hm
      obtain ⟨i0, h1, h2⟩ := List.getElem_of_mem h0
      have h3 : L[i0]? = some p0 := by rw [List.getElem?_eq_getElem h1, h2]
      obtain ⟨d, ⟨d1, d2⟩, d3⟩ := hre i0 p0 h3 e0
      have := passed hno h3 e0 d1 d3
      omega
/-- .. as adding asks -/
theorem seek0 (R : SN P w s.heap a L es ep t) {x : Addr} {k : KN} (hx : IsK P w s.heap k x) (hu : A.units + 8 < cLine) {Q : SetFound → Shared → Prop}
    (yes : k ∈ L.map Prod.snd → Q (.there none) s)
    (no : ∀ K, ¬ k ∈ L.map Prod.snd → ¬ way t.mask (k.hash w) K ∈ t.place.toList → (∀ c, c < K → way t.mask (k.hash w) c ∈ t.place.toList) → Q (.free (way t.mask (k.hash w) K) false) s) :
    wpAny (model P w) A (setSearch a (.ref x) (k.hash w) true) Q E s := by
  have fr := R.free
  have hlen : (hashK w L).length = L.length := by rw [hashK, List.length_map]
  obtain ⟨K, k1, k2, k3⟩ := R.good.first (by rw [hlen]; omega) (k.hash w)
  have big : K < 100000 := by
    unfold SetTable.turns at k1
    rcases R.good.mok with e | e | e <;> rw [e] at k1 <;> omega
  unfold setSearch
  refine seek R hx hu k1 k2 k3 yes (fun z => no K z k2 k3) 100000 0 none (Nat.zero_le _) (by omega) rfl fun i p hp e => ?_
  have hi : (hashK w L)[i]? = some (k.hash w) := by rw [hashK, List.getElem?_map, hp, ← e]; rfl
  have hl : i < t.place.toList.length := by
    rw [Array.length_toList, R.good.sz, hlen]
    exact (List.getElem?_eq_some_iff.mp hp).1
  obtain ⟨d, d1, d2⟩ := R.good.before k2 hi (List.getElem?_eq_getElem hl)
  exact ⟨d, ⟨Nat.zero_le _, d1⟩, by rw [List.getElem?_eq_getElem hl, d2]⟩
end
end Ped

/-! PedSt3: a key is put in -/
namespace Ped
open PySem PySem.Spec PyProof.Rows L2
section
variable {P : Program} {w : World} {A : Around} {E : Value → Shared → Prop} {s : Shared}
theorem IsK.stay {h h' : Heap} {k : KN} {b : Addr} (x : IsK P w h k b) (hs : ∀ c o vs n, h.get? c = some o → o.data = .seq vs n → h'.get? c = some o) : IsK P w h' k b := ⟨NestedIs.at hs k _ x.1, x.2⟩
theorem IsK.keep {h h' : Heap} {k : KN} {b : Addr} (x : IsK P w h k b) (hs : ∀ c o, h.get? c = some o → h'.get? c = some o) : IsK P w h' k b := x.stay fun c o _ _ e _ => hs c o e
theorem IsK.but {h h' : Heap} {k : KN} {a b : Addr} {o : Obj} {es : Array (Int × Value)} {ep : Nat} {t : SetTable} (x : IsK P w h k b) (ho : h.get? a = some o) (hd : o.data = .set es ep t) (hs : Heap.SameBut a h h') : IsK P w h' k b :=
  x.stay fun c o' vs n e1 e2 => (hs.2 c fun z => by
    rw [z, ho] at e1
    cases e1
    rw [hd] at e2
    cases e2).trans e1
theorem range_pick {α : Type} : ∀ L : List α, (List.range L.length).filterMap (fun i => L[i]?) = L
  | [] => rfl
  | x :: r => by
    rw [List.length_cons, List.range_succ_eq_map, List.filterMap_cons_some (b := x) (by rfl), List.filterMap_map]
    congr 1
    exact range_pick r
theorem rows_pick (L : List (Addr × KN)) (es : Array (Int × Value)) (hall : es.toList = L.map (rowK w)) : ∀ l : List Nat, (∀ i ∈ l, i < L.length) →
    l.filterMap (fun i => es[i]?) = (l.filterMap fun i => L[i]?).map (rowK w) ∧ hashK w (l.filterMap fun i => L[i]?) = l.map fun i => (es.map (·.1)).getD i 0
  | [], _ => ⟨rfl, rfl⟩
  | i :: l, hl => by
    obtain ⟨e1, e2⟩ := rows_pick L es hall l fun j hj => hl j (List.mem_cons_of_mem _ hj)
    have hi := hl i List.mem_cons_self
    have h1 : L[i]? = some L[i] := List.getElem?_eq_getElem hi
    have h2 : es[i]? = some (rowK w L[i]) := by
      have : es.toList[i]? = some (rowK w L[i]) := by rw [hall, List.getElem?_map, h1]; rfl
      simpa using this
    have h3 : (es.map (·.1))[i]? = some ((L[i]).2.hash w) := by rw [Array.getElem?_map, h2]; rfl
    rw [List.filterMap_cons_some h1, List.filterMap_cons_some h2, e1]
    refine ⟨rfl, ?_⟩
    rw [List.map_cons, ← e2, Array.getD_eq_getD_getElem?, h3]
    rfl
variable {a : Addr} {L : List (Addr × KN)} {es : Array (Int × Value)} {ep : Nat} {t : SetTable}
/-- laid anew -/
theorem again {o : Obj} (ho : s.heap.get? a = some o) (hd : o.data = .set es ep t) (hx : o.ExactSet) (hall : es.toList = L.map (rowK w)) (hsz : t.place.size = es.size) (hdm : t.dummies = #[]) (hfl : es.size ≤ t.mask)
    (nd : (L.map Prod.snd).Nodup) (ks : ∀ p, p ∈ L → IsK P w s.heap p.2 p.1) (ord : w.params.followText "set-order" = true ∨ t.led = true) (few : L.length < 64) {n M : Nat}
    (hw : SetTable.sizeAbove n - 1 = M) (hM : MaskOk M) (hn : SetTable.sizeAbove n ≤ 128) (hroom : L.length * 5 < M * 3) {Q : Unit → Shared → Prop}
    (fin : ∀ h' L' es' ep' t', Heap.SameBut a s.heap h' → SN P w h' a L' es' ep' t' → L'.Perm L → Q () { s with heap := h' }) : wpAny (model P w) A (setRelay a n) Q E s := by
  have hl : es.size = L.length := by rw [← Array.length_toList, hall, List.length_map]
  have fit : t.fits es.size = true := by
    unfold SetTable.fits SetTable.fill
    rw [hdm, hsz]
    simpa using hfl
  obtain ⟨t', order, e, pm, T, em, el, _, ed⟩ := relaid_ok t (hs := es.map (·.1)) (wanted := n) hw hM (by rw [Array.size_map, hl]; omega)
  rw [Array.size_map, hl] at pm
  obtain ⟨r1, r2⟩ := rows_pick (w := w) L es hall order.toList fun i hi => List.mem_range.mp (pm.mem_iff.mp hi)
  have r3 : (order.toList.filterMap fun i => L[i]?).Perm L := by
    have := pm.filterMap (fun i => L[i]?)
    rwa [range_pick] at this
  generalize (order.toList.filterMap fun i => L[i]?) = L2 at r1 r2 r3
  rw [← r2] at T
  have r4 : (order.filterMap (es[·]?)).toList = L2.map (rowK w) := by simpa using r1
  have hl2 : (order.filterMap (es[·]?)).size = L.length := by rw [← Array.length_toList, r4, List.length_map, r3.length_eq]
  rw [setRelay_eq]
  refine wpAny_bind (wpAny_setState_of ho hd fit ?_)
  dsimp only
  refine wp_if_neg (by rw [sizeLine_eq]; omega) ?_
  try refine wpAny_bind (wpAny_pure ?_)
  rw [e]
  dsimp only
  refine wpAny_bind (wp_if_neg (by rw [hl2, hl]; simp) ?_)
  try refine wpAny_bind (wpAny_pure ?_)
  refine wpAny_pure ?_
  dsimp only
  generalize order.filterMap (es[·]?) = es2 at r4 hl2
  have sb : Heap.SameBut a s.heap (s.heap.update a (Obj.putSet es2 t')) := .update ..
  refine wpAny_storeSet_of ho hd (fin _ L2 es2 (ep + 1) t' sb ?_ r3) (by rw [hl2, sizeLine_eq]; omega)
  exact ⟨⟨_, ⟨store_at ho hd, rfl⟩, hx.1, hx.2.1, hx.2.2⟩, r4, T, (r3.map Prod.snd).nodup_iff.mpr nd, fun p hp => (ks p (r3.mem_iff.mp hp)).but ho hd sb, by rw [el]; exact ord, by rw [em, r3.length_eq]; exact hroom, by rw [r3.length_eq]; exact few⟩
theorem byVal {c : Bool} {x : Addr} {k : KN} (hk : IsK P w s.heap k x) {Q : Bool → Shared → Prop} {f : Bool → Sem Bool} (h : ∀ b, wpAny (model P w) A (f b) Q E s) : wpAny (model P w) A (if c = true then (hashByValue 8 (.ref x) >>= f) else (pure true >>= f)) Q E s := by
  split
  · exact wpAny_bind (hashBy_any 8 hk.1 hk.2 h)
  · exact wpAny_bind (wpAny_pure (h true))
/-- the parts of a table that matter -/
structure Alike (t t' : SetTable) : Prop where
  pl : t'.place = t.place
  dm : t'.dummies = t.dummies
  mm : t'.mask = t.mask
  ld : t'.led = t.led
theorem Alike.tab {t t' : SetTable} (h : Alike t t') {hs : List Int} (T : TabOk t hs) : TabOk t' hs := by
  obtain ⟨a1, a2, a3, a4, a5, a6⟩ := T
  obtain ⟨b1, b2, b3, b4⟩ := h
  exact ⟨by rw [b1]; exact a1, by rw [b2]; exact a2, by rw [b1]; exact a3, by rw [b3]; exact a4, by rw [b1, b3]; exact a5, by rw [b1, b3]; exact a6⟩
theorem alike_plain (t : SetTable) (b : Bool) : Alike t (if b = true then t else { t with plain := false }) := by
  cases b <;> exact ⟨rfl, rfl, rfl, rfl⟩
theorem putK (R : SN P w s.heap a L es ep t) {x : Addr} {k : KN} (hx : IsK P w s.heap k x) (hu : A.units + 8 < cLine) (hfew : L.length + 1 < 64) {Q : Bool → Shared → Prop}
    (fin : ∀ b h' L' es' ep' t', Heap.SameBut a s.heap h' → SN P w h' a L' es' ep' t' → (k ∈ L.map Prod.snd → L' = L) → (¬ k ∈ L.map Prod.snd → L'.Perm ((x, k) :: L)) → Q b { s with heap := h' }) :
    wpAny (model P w) A (setAddHashed a (.ref x) (k.hash w)) Q E s := by
  obtain ⟨o, ⟨ho, hd⟩, hex⟩ := R.obj
  have fr := R.free
  have hs := R.size
  have hlen : (hashK w L).length = L.length := by rw [hashK, List.length_map]
  unfold setAddHashed
  refine wpAny_holding ?_
  show wpAny _ _ (setAddHashedIn a (.ref x) (k.hash w) (99999 + 1)) _ _ s
  rw [setAddHashedIn_succ]
  refine wpAny_bind (wpAny_setState_of ho hd R.fit ?_)
  dsimp only
  refine wp_if_neg (by simp [byScan, Value.scannable]) ?_
  try refine wpAny_bind (wpAny_pure ?_)
  refine wpAny_bind (seek0 R hx hu (fun hm => ?_) fun K hm k2 k3 => ?_)
  · dsimp only
    exact wpAny_pure (fin false s.heap L es ep t (.refl a s.heap) R (fun _ => rfl) (absurd hm))
  dsimp only
  refine wpAny_bind (wpAny_setState_of ho hd R.fit ?_)
  dsimp only
  obtain ⟨q1, q2, q3, q4, q5, q6, q7, q8, q9⟩ := R.good.put k2 k3
  generalize hpt : t.put (way t.mask (k.hash w) K) = pt at q1 q3 q4 q5 q6 q7 q8 q9 ⊢
  obtain ⟨t1, i⟩ := pt
  dsimp only at q1 q3 q4 q5 q6 q7 q8 q9 ⊢
  subst q1
  generalize SetTable.below t.place (way t.mask (k.hash w) K) = i at q2 q3 ⊢
  rw [hlen] at q2 q9
  -- the rows that follow
  have pm : (L.take i ++ (x, k) :: L.drop i).Perm ((x, k) :: L) := put_perm L i (x, k)
  have eh : hashK w (L.take i ++ (x, k) :: L.drop i) = (hashK w L).take i ++ k.hash w :: (hashK w L).drop i := by
    unfold hashK
    simp
  rw [← eh] at q3
  have ee : (SetTable.insertAt es i (k.hash w, Value.ref x)).toList = (L.take i ++ (x, k) :: L.drop i).map (rowK w) := by
    rw [SetTable.toList_insertAt, R.all]
    simp [rowK]
  generalize L.take i ++ (x, k) :: L.drop i = L1 at pm q3 ee eh
  have l1 : L1.length = L.length + 1 := pm.length_eq
  have nd1 : (L1.map Prod.snd).Nodup := (pm.map Prod.snd).nodup_iff.mpr (List.nodup_cons.mpr ⟨hm, R.dist⟩)
  have sz1 : (SetTable.insertAt es i (k.hash w, Value.ref x)).size = L.length + 1 := by rw [← Array.length_toList, ee, List.length_map, l1]
  generalize SetTable.insertAt es i (k.hash w, Value.ref x) = es1 at ee sz1 ⊢
  refine byVal hx fun b => ?_
  have al := alike_plain t1 b
  generalize (if b = true then t1 else { t1 with plain := false }) = t2 at al ⊢
  have tb : TabOk t2 (hashK w L1) := al.tab q3
  have m2 : t2.mask = t.mask := al.mm.trans q4
  have o2 : w.params.followText "set-order" = true ∨ t2.led = true := by rw [al.ld, q5]; exact R.ord
  have f2 : t2.fill = L.length + 1 := by
    unfold SetTable.fill at q9 ⊢
    rw [al.pl, al.dm]
    exact q9
  have sb : Heap.SameBut a s.heap (s.heap.update a (Obj.putSet es1 t2)) := .update ..
  have ho1 := store_at (es' := es1) (t' := t2) ho hd
  refine wpAny_bind (wpAny_storeSet_of ho hd ?_ (by rw [sz1, sizeLine_eq]; omega))
  generalize s.heap.update a (Obj.putSet es1 t2) = h1 at sb ho1 ⊢
  have ks1 : ∀ p, p ∈ L1 → IsK P w h1 p.2 p.1 := fun p hp => by
    rcases List.mem_cons.mp (pm.mem_iff.mp hp) with rfl | hp
    · exact hx.but ho hd sb
    · exact (R.keys p hp).but ho hd sb
  by_cases full : t2.tooFull = true
  · have hfull := full
    unfold SetTable.tooFull at hfull
    rw [decide_eq_true_eq, f2, m2] at hfull
    have two : (t.mask = 7 ∧ L.length = 4) ∨ (t.mask = 31 ∧ L.length = 18) := by
      rcases R.good.mok with e | e | e <;> rw [e] at fr hfull <;> omega
    have ps1 : t2.place.size = es1.size := by rw [sz1, ← l1, tb.sz, hashK, List.length_map]
    have grow : ∀ M, SetTable.sizeAbove (SetTable.grown (es.size + 1)) - 1 = M → MaskOk M → SetTable.sizeAbove (SetTable.grown (es.size + 1)) ≤ 128 → (L.length + 1) * 5 < M * 3 → ∀ {R' : Unit → Shared → Prop}, (∀ h', R' () { s with heap := h' } = wpAny (model P w) A (pure true) Q E { s with heap := h' }) → wpAny (model P w) A (setRelay a (SetTable.grown (es.size + 1))) R' E { s with heap := h1 } := fun M g1 g2 g3 g4 R' hR' => by
      refine again (s := { s with heap := h1 }) ho1 rfl ⟨hex.1, hex.2.1, hex.2.2⟩ ee ps1 tb.dm ?_ nd1 ks1 o2 (by omega) g1 g2 g3 (by rw [l1]; exact g4) fun h2 L2 es2 ep2 t3 sb2 R2 pm2 => ?_
      · rw [sz1, m2]
        rcases two with ⟨e, e2⟩ | ⟨e, e2⟩ <;> omega
      · show R' () { s with heap := h2 }
        rw [hR']
        exact wpAny_pure (fin true h2 L2 es2 ep2 t3 (sb.trans sb2) R2 (fun z => absurd z hm) fun _ => pm2.trans pm)
    first
      | (refine wpAny_bind ?_; refine wp_if_pos (by simp [full]) ?_)
      | (refine wp_if_pos (by simp [full]) ?_; refine wpAny_bind ?_)
    rcases two with ⟨_, e2⟩ | ⟨_, e2⟩
    · exact grow 31 (by rw [hs, e2, size_20]) (.inr (.inl rfl)) (by rw [hs, e2, size_20]; decide) (by omega) fun _ => rfl
    · exact grow 127 (by rw [hs, e2, size_76]) (.inr (.inr rfl)) (by rw [hs, e2, size_76]; decide) (by omega) fun _ => rfl
  · have room : L1.length * 5 < t2.mask * 3 := by
      have z := full
      unfold SetTable.tooFull at z
      rw [decide_eq_true_eq, f2] at z
      omega
    first
      | refine wp_if_neg (by simp [full]) ?_
      | (refine wpAny_bind ?_; refine wp_if_neg (by simp [full]) ?_; refine wpAny_pure ?_)
    exact wpAny_pure (fin true h1 L1 es1 (ep + 1) t2 sb ⟨⟨_, ⟨ho1, rfl⟩, hex.1, hex.2.1, hex.2.2⟩, ee, tb, nd1, ks1, o2, room, by omega⟩ (fun z => absurd z hm) fun _ => pm)
end
end Ped

/-! PedSt4: set(xs), xs a list or a tuple of keys -/
namespace Ped
open PySem PySem.Spec PyProof.Rows L2
/-- what is in the set after i items -/
structure Has (ks : List (Addr × KN)) (i : Nat) (L : List (Addr × KN)) : Prop where
  sub : ∀ p, p ∈ L → p ∈ ks.take i
  cov : ∀ p, p ∈ ks.take i → p.2 ∈ L.map Prod.snd
  len : L.length ≤ i
theorem Has.none (ks : List (Addr × KN)) : Has ks 0 [] := ⟨fun p h => (by cases h), fun p h => (by simp at h), Nat.le_refl 0⟩
theorem take_one {α : Type} {l : List α} {i : Nat} {x : α} (h : l[i]? = some x) : ∀ p, p ∈ l.take (i + 1) ↔ p ∈ l.take i ∨ p = x := fun p => by
  have : l.take (i + 1) = l.take i ++ [x] := by
    rw [List.take_add_one, h]
    rfl
  rw [this, List.mem_append, List.mem_singleton]
theorem Has.next {ks L L' : List (Addr × KN)} {i : Nat} {x : Addr × KN} (g : Has ks i L) (h : ks[i]? = some x) (c1 : x.2 ∈ L.map Prod.snd → L' = L) (c2 : ¬ x.2 ∈ L.map Prod.snd → L'.Perm (x :: L)) : Has ks (i + 1) L' := by
  have tk := take_one h
  by_cases c : x.2 ∈ L.map Prod.snd
  · rw [c1 c]
    refine ⟨fun p hp => (tk p).mpr (.inl (g.sub p hp)), fun p hp => ?_, Nat.le_succ_of_le g.len⟩
    rcases (tk p).mp hp with z | rfl
    · exact g.cov p z
    · exact c
  · have pm := c2 c
    refine ⟨fun p hp => ?_, fun p hp => ?_, by rw [pm.length_eq]; exact Nat.succ_le_succ g.len⟩
    · rcases List.mem_cons.mp (pm.mem_iff.mp hp) with rfl | z
      · exact (tk p).mpr (.inr rfl)
      · exact (tk p).mpr (.inl (g.sub p z))
    · refine (pm.map Prod.snd).mem_iff.mpr ?_
      rcases (tk p).mp hp with z | rfl
      · exact List.mem_cons_of_mem _ (g.cov p z)
      · exact List.mem_cons_self
theorem nodup_le : ∀ (A B : List KN), A.Nodup → (∀ x, x ∈ A → x ∈ B) → A.length ≤ B.length
  | [], _, _, _ => Nat.zero_le _
  | a :: A, B, hn, hs => by
    obtain ⟨h1, h2⟩ := List.nodup_cons.mp hn
    have ha := hs a List.mem_cons_self
    have ih := nodup_le A (B.erase a) h2 fun x hx => (List.mem_erase_of_ne (fun e : x = a => h1 (by rw [← e]; exact hx))).mpr (hs x (List.mem_cons_of_mem _ hx))
    have el := List.length_erase_of_mem ha
    have pos := List.length_pos_of_mem ha
    rw [List.length_cons]
    omega
/-- keys of a bound number -/
def Bnd (ks : List (Addr × KN)) : Prop := ∀ L : List (Addr × KN), (∀ p, p ∈ L → p ∈ ks) → (L.map Prod.snd).Nodup → L.length < 63
section
variable {P : Program} {w : World} {A : Around} {E : Value → Shared → Prop} {s : Shared}
theorem SN.keep {h h' : Heap} {a : Addr} {L : List (Addr × KN)} {es : Array (Int × Value)} {ep : Nat} {t : SetTable} (R : SN P w h a L es ep t) (ha : ∀ o, h.get? a = some o → h'.get? a = some o) (ks : ∀ p, p ∈ L → IsK P w h' p.2 p.1) : SN P w h' a L es ep t := by
  obtain ⟨⟨o, ⟨h1, h2⟩, h3⟩, r2, r3, r4, _, r6, r7, r8⟩ := R
  exact ⟨⟨o, ⟨ha o h1, h2⟩, h3⟩, r2, r3, r4, ks, r6, r7, r8⟩
theorem SN.empty {h : Heap} {a : Addr} (ho : h.get? a = some (nuSet w)) : SN P w h a [] #[] 0 (.fresh 0 0 (!w.params.followText "set-order")) := by
  refine ⟨⟨_, ⟨ho, rfl⟩, rfl, rfl, rfl⟩, rfl, ⟨.nil, rfl, rfl, .inl rfl, fun x hx => (by cases hx), fun i h j hi => (by simp [hashK] at hi)⟩, .nil, fun p hp => (by cases hp), ?_, ?_, ?_⟩
  · show _ ∨ (!w.params.followText "set-order") = true
    cases w.params.followText "set-order" <;> simp
  · show 0 * 5 < 7 * 3
    decide
  · show 0 < 64
    decide
theorem loopK {I : Addr} {fp wr : List Addr} {G : Array GenState → Array GenState → Prop} {n : Nat} {Pv : Nat → Value → Prop} {St : Nat → Shared → Prop} {R : Result → Shared → Prop} (W : WalksS P w A.in1 I fp wr G n Pv St) (S : Addr) (hSf : ¬ S ∈ fp)
    (ks : List (Addr × KN)) (hn : ks.length = n) (hfew : Bnd ks) (hval : ∀ i v, Pv i v → ∃ p, ks[i]? = some p ∧ v = .ref p.1) (h0 : Heap) (hk : ∀ p, p ∈ ks → IsK P w h0 p.2 p.1) (hS0 : h0.get? S = none) (hw0 : ∀ b, b ∈ wr → h0.get? b = none) (hu : A.in1.units + 8 < cLine) :
    ∀ (m i : Nat) (s : Shared), i + m = n → St i s → (∀ b o, h0.get? b = some o → s.heap.get? b = some o) → (∃ L es ep t, SN P w s.heap S L es ep t ∧ Has ks i L) →
      (∀ s' L es ep t, Moved (S :: wr) G s s' → SN P w s'.heap S L es ep t → Has ks n L → (∀ b o, h0.get? b = some o → s'.heap.get? b = some o) → R (.ok (.ret .none)) s') →
      codeAny (model P w) A (.builtin "set.update.loop" ⟨[.ref S, .ref I], []⟩) R s := by
  have hSw : ¬ S ∈ wr := fun z => hSf (W.sub S z)
  have up : ∀ b, b ∈ wr → b ∈ S :: wr := fun b z => List.mem_cons_of_mem S z
  have old : ∀ {x y : Shared}, Moved wr G x y → (∀ b o, h0.get? b = some o → x.heap.get? b = some o) → ∀ b o, h0.get? b = some o → y.heap.get? b = some o := fun mv z b o e =>
    mv.heap b o (fun q => by rw [hw0 b q] at e; cases e) (z b o e)
  intro m
  induction m with
  | zero =>
    rintro i s hi st kp ⟨L, es, ep, t, hS, g⟩ fin
    obtain rfl : i = n := hi
    refine codeAny_builtin F.entry_set_update_loop ?_
    rw [Around.under_plainId F.plain_set_update_loop _]
    show wpAny _ _ (pyNext (.ref I) >>= _) _ _ s
    refine wpAny_bind (W.done s _ _ st fun s' mv => ?_)
    have kp' := old mv kp
    show wpAny _ _ (ret .none) _ _ s'
    refine wpAny_pure (fin s' L es ep t (mv.mono up) (hS.keep (fun o e => mv.heap S o hSw e) fun p hp => (hk p (List.mem_of_mem_take (g.sub p hp))).keep kp') g kp')
  | succ m ih =>
    rintro i s hi st kp ⟨L, es, ep, t, hS, g⟩ fin
    refine codeAny_builtin F.entry_set_update_loop ?_
    rw [Around.under_plainId F.plain_set_update_loop _]
    show wpAny _ _ (pyNext (.ref I) >>= _) _ _ s
    refine wpAny_bind (W.item i s _ _ (by omega) st fun v s' hv st' mv => ?_)
    obtain ⟨p, hp, rfl⟩ := hval i v hv
    have kp' := old mv kp
    have hS' : SN P w s'.heap S L es ep t := hS.keep (fun o e => mv.heap S o hSw e) fun q hq => (hk q (List.mem_of_mem_take (g.sub q hq))).keep kp'
    have hx := (hk p (List.mem_of_getElem? hp)).keep kp'
    show wpAny _ _ (holding [Value.ref p.1] (setAdd S (.ref p.1)) >>= _) _ _ s'
    refine wpAny_bind (wpAny_holding ?_)
    unfold setAdd
    refine wpAny_holding (wpAny_bind ((nestedKind P w).pyHash hu hx ?_))
    refine putK (s := { s' with toks := s'.toks + p.2.draws }) hS' hx hu (by have := hfew L (fun q hq => List.mem_of_mem_take (g.sub q hq)) hS'.dist; omega) fun b h' L' es' ep' t' sb hS2 c1 c2 => ?_
    have kp2 : ∀ b o, h0.get? b = some o → h'.get? b = some o := fun b o e => (sb.2 b (fun z => by rw [z, hS0] at e; cases e)).trans (kp' b o e)
    refine wpAny_pure ⟨plainId_quiet F.plain_set_update_loop _, ih (i + 1) _ (by omega) (W.frame _ s' _ _ st' (Nat.le_add_right _ _) fun b hb o e => ?_) kp2 ⟨L', es', ep', t', hS2, g.next hp c1 c2⟩ fun s2 L2 es2 ep2 t2 mv2 hS3 g3 kp3 => ?_⟩
    · exact (sb.2 b (fun z => hSf (z ▸ hb))).trans e
    · refine fin s2 L2 es2 ep2 t2 (.trans W.gtrans ((mv.mono up).then_heap (Nat.le_add_right _ _) fun b o hb e => ?_) mv2) hS3 g3 kp3
      exact (sb.2 b (fun z => hb (z ▸ List.mem_cons_self))).trans e
/-- what set.__init__ leaves -/
def FilledK (P : Program) (w : World) (s : Shared) (ks : List (Addr × KN)) (s2 : Shared) : Prop := ∃ h' tk L es ep t, s2 = { s with heap := h', toks := tk } ∧ SN P w h' s.heap.objs.size L es ep t ∧ Has ks ks.length L ∧ ∀ b o, s.heap.get? b = some o → h'.get? b = some o
set_option maxRecDepth 100000 in
set_option maxHeartbeats 3200000 in
theorem setK_made {l : Addr} {items : Array Value} (ks : List (Addr × KN)) {Q : Value → Shared → Prop} (hh : A.handled = none) (hl : s.heap.IsList l items ∨ s.heap.IsTuple l items) (hit : items.toList = ks.map fun p => Value.ref p.1) (hk : ∀ p, p ∈ ks → IsK P w s.heap p.2 p.1) (hb : Bnd ks) (hu : A.units + 12 < cLine)
    (h : ∀ s2, FilledK P w s ks s2 → Q (.ref s.heap.objs.size) s2) : wpAny (model P w) A (call (.type "set") [.ref l]) Q E s := by
  have hz : ks.length = items.size := by rw [← Array.length_toList, hit, List.length_map]
  obtain ⟨⟨c, tl, hmro⟩, hmade, hsub⟩ := And.intro F.called_set.mro (And.intro F.called_set.made F.called_set.sub)
  refine wpAny_call (codeAny_of_tree ?_)
  show wpAny _ _ (callAny (.type "set") _) _ _ _
  refine wpAny_pure (And.intro (Code.quiet_builtin _ (by decide +kernel)) (codeAny_builtin F.entry_type_call ?_))
  rw [Around.under_plain (weight_type_call_type "set" [.ref l] []) rfl]
  have k1 := F.called_set.notType; have k2 := F.called_set.canCreate; have k3 := F.typeCall_set_1 (.ref l)
  iterate (any_goals first | assumption | wp_step)
  refine codeAny_mono (code_set_led1 (.ref l) (E := E) (Q₁ := fun u s1 => u = .ref s.heap.objs.size ∧ s1 = { s with heap := nuH w s }) ⟨rfl, rfl⟩) fun r s1 hr => ?_
  cases r with
  | error e => exact hr
  | ok fl =>
    cases fl with
    | ret u =>
      obtain ⟨rfl, rfl⟩ := hr
      have kS : (nuH w s).get? s.heap.objs.size = some (nuSet w) := Heap.get?_push_size _ rfl
      have kT : Shared.TypeIs { s with heap := nuH w s } (.ref s.heap.objs.size) "set" := ⟨_, kS, rfl⟩
      have k4 := F.called_set.init.lookup; have k5 := F.called_set.init.bind (.ref s.heap.objs.size)
      iterate (any_goals first | assumption | wp_step)
      refine codeAny_mono (codeAny_call_builtin (R := wants (fun r s2 => r = .none ∧ FilledK P w s ks s2) E) F.called_set.init.plain F.entry_set_init (check_set_init_1 kT ?_)) fun r2 s2 hr2 => ?_
      · have sz : (nuH w s).objs.size = s.heap.objs.size + 1 := Heap.size_push ..
        have gone : ∀ b, s.heap.objs.size ≤ b → s.heap.get? b = none := fun b hb => by
          cases q : s.heap.get? b with
          | none => rfl
          | some o => exact absurd (Heap.lt_size q) (Nat.not_lt.mpr hb)
        have hv : ∀ (i : Nat) (v : Value), items[i]? = some v → ∃ p, ks[i]? = some p ∧ v = .ref p.1 := fun i v q => by
          have e : items.toList[i]? = some v := Array.getElem?_toList.trans q
          rw [hit, List.getElem?_map] at e
          obtain ⟨p, e1, e2⟩ := Option.map_eq_some_iff.mp e
          exact ⟨p, e1, e2.symm⟩
        have fin : ∀ {I0 : Addr} {s3 : Shared} {L : List (Addr × KN)} {es : Array (Int × Value)} {ep : Nat} {t : SetTable} {o0 : Obj}, I0 = (nuH w s).objs.size → Moved [s.heap.objs.size, I0] (fun a b => b = a) { s with heap := (nuH w s).push o0 } s3 → SN P w s3.heap s.heap.objs.size L es ep t → Has ks items.size L → FilledK P w s ks s3 := fun {I0 s3 L es ep t o0} hI hm hS g => by
          obtain ⟨h3, gg, dd, tk, oo⟩ := s3
          obtain rfl : gg = s.gens := hm.gens
          obtain rfl : dd = s.drawn := hm.drawn
          obtain rfl : oo = s.os := hm.os
          refine ⟨h3, tk, L, es, ep, t, rfl, hS, by rw [hz]; exact g, fun b o e => hm.heap b o (fun z => ?_) (Heap.get?_push_of_some _ (Heap.get?_push_of_some _ e))⟩
          have q := Heap.lt_size e
          rcases List.mem_cons.mp z with z | z
          · exact absurd z (Nat.ne_of_lt q)
          · exact absurd (((List.mem_singleton.mp z).trans hI).trans sz) (Nat.ne_of_lt (Nat.lt_succ_of_lt q))
        have kk : ∀ (I0 : Addr) {o0 : Obj}, I0 = (nuH w s).objs.size → ∀ {R : Result → Shared → Prop} {Pv : Nat → Value → Prop} {St : Nat → Shared → Prop} {A' : Around}, A'.in1.units + 8 < cLine → WalksS P w A'.in1 I0 [I0, l] [I0] (fun a b => b = a) items.size Pv St → (∀ i v, Pv i v → items[i]? = some v) → l < s.heap.objs.size → St 0 { s with heap := (nuH w s).push o0 } →
            (∀ s3, FilledK P w s ks s3 → R (.ok (.ret .none)) s3) → codeAny (model P w) A' (.builtin "set.update.loop" ⟨[.ref s.heap.objs.size, .ref I0], []⟩) R { s with heap := (nuH w s).push o0 } := fun I0 {o0} hI {R Pv St A'} hA W hP hlt h0 hR => by
          refine loopK W s.heap.objs.size (fun z => ?_) ks hz hb (fun i v q => hv i v (hP i v q)) s.heap hk (gone _ (Nat.le_refl _)) (fun b q => gone b ?_) hA items.size 0 _ (Nat.zero_add _) h0 (fun b o e => Heap.get?_push_of_some _ (Heap.get?_push_of_some _ e)) ⟨[], #[], 0, _, SN.empty (Heap.get?_push_of_some _ kS), .none ks⟩ fun s3 L es ep t mv hS g _ => hR s3 (fin hI mv hS g)
          · rcases List.mem_cons.mp z with z | z
            · exact absurd (z.trans (hI.trans sz)) (Nat.ne_of_lt (Nat.lt_succ_self _))
            · exact absurd (List.mem_singleton.mp z) (Nat.ne_of_gt hlt)
          · rw [List.mem_singleton.mp q, hI, sz]
            exact Nat.le_succ _
        rcases hl with hl | hl
        · obtain ⟨⟨oc, od, odt, os⟩, ho, hcl, nl, hdl⟩ := hl
          cases (show oc = _ from hcl); cases (show odt = _ from hdl)
          have g1 : (nuH w s).get? l = some { cls := .type "list", dict := od, data := .seq items nl, slots := os } := Heap.get?_push_of_some _ ho
          have g2 := F.sub_list_set; have g3 := F.sub_list_frozenset
          have g4 : (Value.type "list" == Value.type "dict") = false := by decide
          have g5 : (nuH w s).IsList l items := ⟨_, g1, rfl, nl, rfl⟩
          unfold Builtin.«set.__init__» noKeywords Builtin.Frozenset.updateFrom
          generalize hPI : pyIter = PI
          wp_walk
          subst hPI
          refine wpAny_pyIter_list g5 (wpAny_bind (wpAny_runValue ?_))
          have hlt : l < s.heap.objs.size := Heap.lt_size ho
          have n1 : l ≠ (nuH w s).objs.size := sz ▸ Nat.ne_of_lt (Nat.lt_succ_of_lt hlt)
          refine kk _ rfl ?_ (Walks.list (by simp [hh]) _ l n1 items).toS (fun _ _ q => q) hlt ⟨⟨_, Heap.get?_push_size _ rfl, rfl, rfl⟩, g5.push _⟩ fun s3 h3 => ?_
          · simp; omega
          · show wpAny _ _ _ _ _ _
            refine wpAny_pure ?_
            show wpAny _ _ (ret Value.none) _ _ _
            exact wpAny_pure ⟨rfl, h3⟩
        · obtain ⟨⟨oc, od, odt, os⟩, ho, hcl, nl, hdl⟩ := hl
          cases (show oc = _ from hcl); cases (show odt = _ from hdl)
          have g1 : (nuH w s).get? l = some { cls := .type "tuple", dict := od, data := .seq items nl, slots := os } := Heap.get?_push_of_some _ ho
          have g2 := F.sub_tuple_set; have g3 := F.sub_tuple_frozenset
          have g4 : (Value.type "tuple" == Value.type "dict") = false := by decide
          have g5 : (nuH w s).IsTuple l items := ⟨_, g1, rfl, nl, rfl⟩
          unfold Builtin.«set.__init__» noKeywords Builtin.Frozenset.updateFrom
          generalize hPI : pyIter = PI
          wp_walk
          subst hPI
          refine wpAny_pyIter_tuple g5 (wpAny_bind (wpAny_runValue ?_))
          have hlt : l < s.heap.objs.size := Heap.lt_size ho
          have n1 : l ≠ (nuH w s).objs.size := sz ▸ Nat.ne_of_lt (Nat.lt_succ_of_lt hlt)
          refine kk _ rfl ?_ (Walks.tuple (by simp [hh]) _ l n1 items).toS (fun _ _ q => q) hlt ⟨⟨_, Heap.get?_push_size _ rfl, rfl, rfl⟩, g5.push _⟩ fun s3 h3 => ?_
          · simp; omega
          · show wpAny _ _ _ _ _ _
            refine wpAny_pure ?_
            show wpAny _ _ (ret Value.none) _ _ _
            exact wpAny_pure ⟨rfl, h3⟩
      · cases r2 with
        | error e => exact hr2
        | ok f2 =>
          cases f2 with
          | ret r =>
            obtain ⟨rfl, h2⟩ := hr2
            iterate (any_goals first | assumption | wp_step)
            exact h _ h2
          | _ => exact hr2.elim
    | _ => exact hr.elim
end
end Ped

/-! PedSt5: sorted(s), s a set of keys -/
namespace Ped
open PySem PySem.Spec PyProof.Rows L2
mutual
def keyOf : D → Option KN
  | .none => some .none
  | .int i => some (.num i)
  | .str x => some (.text x)
  | .tuple xs => (keysOf xs).map .tup
  | .bool _ => none
  | .list _ => none
  | .dict _ => none
def keysOf : List D → Option (List KN)
  | [] => some []
  | d :: r => match keyOf d, keysOf r with
    | some k, some ks => some (k :: ks)
    | _, _ => none
end
theorem keysOf_cons {d : D} {r : List D} {ks : List KN} (h : keysOf (d :: r) = some ks) : ∃ k t, ks = k :: t ∧ keyOf d = some k ∧ keysOf r = some t := by
  unfold keysOf at h
  split at h
  · rename_i k t e1 e2
    exact ⟨k, t, (Option.some.inj h).symm, e1, e2⟩
  · cases h
theorem keyOf_tup {xs : List D} {k : KN} (h : keyOf (.tuple xs) = some k) : ∃ ks, k = .tup ks ∧ keysOf xs = some ks := by
  unfold keyOf at h
  obtain ⟨ks, e1, e2⟩ := Option.map_eq_some_iff.mp h
  exact ⟨ks, e2.symm, e1⟩
mutual
theorem key_data : ∀ (d : D) (k : KN), keyOf d = some k → k.data = d
  | .none, _, h => by cases h; rfl
  | .int i, _, h => by cases h; rfl
  | .str x, _, h => by cases h; rfl
  | .tuple xs, k, h => by
    obtain ⟨ks, rfl, h2⟩ := keyOf_tup h
    show PyData.tuple (NestedKey.datas ks) = _
    rw [keys_data xs ks h2]
  | .bool _, _, h => by cases h
  | .list _, _, h => by cases h
  | .dict _, _, h => by cases h
theorem keys_data : ∀ (ds : List D) (ks : List KN), keysOf ds = some ks → NestedKey.datas ks = ds
  | [], _, h => by cases h; rfl
  | d :: r, _, h => by
    obtain ⟨k, t, rfl, e1, e2⟩ := keysOf_cons h
    show k.data :: NestedKey.datas t = _
    rw [key_data d k e1, keys_data r t e2]
end
mutual
theorem key_depth : ∀ (d : D) (k : KN), keyOf d = some k → k.depth = d.depth
  | .none, _, h => by cases h; rfl
  | .int i, _, h => by cases h; rfl
  | .str x, _, h => by cases h; rfl
  | .tuple xs, k, h => by
    obtain ⟨ks, rfl, h2⟩ := keyOf_tup h
    show NestedKey.depthAll ks + 1 = PyData.depthAll xs + 1
    rw [keys_depth xs ks h2]
  | .bool _, _, h => by cases h
  | .list _, _, h => by cases h
  | .dict _, _, h => by cases h
theorem keys_depth : ∀ (ds : List D) (ks : List KN), keysOf ds = some ks → NestedKey.depthAll ks = PyData.depthAll ds
  | [], _, h => by cases h; rfl
  | d :: r, _, h => by
    obtain ⟨k, t, rfl, e1, e2⟩ := keysOf_cons h
    show max k.depth (NestedKey.depthAll t) = max d.depth (PyData.depthAll r)
    rw [key_depth d k e1, keys_depth r t e2]
end
mutual
theorem key_reads {h : Heap} : ∀ (d : D) (k : KN) (v : Value) (as : List Addr), keyOf d = some k → Reads h v d as → as = [] ∧ NestedIs h k v
  | .none, _, _, _, e, r => by cases e; cases r; exact ⟨rfl, .none⟩
  | .int i, _, _, _, e, r => by cases e; cases r; exact ⟨rfl, .int _ _⟩
  | .str x, _, _, _, e, r => by cases e; cases r; exact ⟨rfl, .text _ _⟩
  | .tuple xs, k, _, _, e, r => by
    obtain ⟨ks, rfl, e2⟩ := keyOf_tup e
    cases r with
    | tuple h1 h2 h3 h4 =>
      obtain ⟨q1, q2⟩ := keys_reads xs ks _ _ e2 h4
      exact ⟨q1, .tup h1 h2 h3 q2⟩
  | .bool _, _, _, _, e, _ => by cases e
  | .list _, _, _, _, e, _ => by cases e
  | .dict _, _, _, _, e, _ => by cases e
theorem keys_reads {h : Heap} : ∀ (ds : List D) (ks : List KN) (vs : List Value) (as : List Addr), keysOf ds = some ks → ReadsAll h vs ds as → as = [] ∧ NestedAll h ks vs
  | [], _, _, _, e, r => by cases e; cases r; exact ⟨rfl, .nil⟩
  | d :: ds, _, _, _, e, r => by
    obtain ⟨k, t, rfl, e1, e2⟩ := keysOf_cons e
    cases r with
    | cons h1 h2 =>
      obtain ⟨p1, p2⟩ := key_reads d k _ _ e1 h1
      obtain ⟨q1, q2⟩ := keys_reads ds t _ _ e2 h2
      exact ⟨by rw [p1, q1]; rfl, .cons p2 q2⟩
end
theorem perm_lift {α β : Type} {f : α → β} {vs us : List β} (h : vs.Perm us) : ∀ L : List α, us = L.map f → ∃ bs : List α, bs.Perm L ∧ vs = bs.map f := by
  induction h with
  | nil =>
    intro L e
    cases L with
    | nil => exact ⟨[], List.Perm.refl _, rfl⟩
    | cons => cases e
  | cons x _ ih =>
    intro L e
    cases L with
    | nil => cases e
    | cons y L =>
      cases e
      obtain ⟨bs, p, e2⟩ := ih L rfl
      exact ⟨y :: bs, p.cons y, by rw [e2]; rfl⟩
  | swap x y l =>
    intro L e
    cases L with
    | nil => cases e
    | cons a L =>
      cases L with
      | nil => cases e
      | cons b L =>
        cases e
        exact ⟨b :: a :: L, .swap a b L, rfl⟩
  | trans _ _ ih1 ih2 =>
    intro L e
    obtain ⟨bs, p, e2⟩ := ih2 L e
    obtain ⟨cs, p2, e3⟩ := ih1 bs e2
    exact ⟨cs, p2.trans p, e3⟩
theorem each_refs {L : List (Addr × KN)} {S : Value → Addr × KN → Prop} (h : ∀ p, p ∈ L → S (.ref p.1) p) : PySem.W.EachIs S (L.map fun p => Value.ref p.1) L := by
  induction L with
  | nil => exact .nil
  | cons p r ih => exact .cons (h p List.mem_cons_self) (ih fun q hq => h q (List.mem_cons_of_mem _ hq))
theorem refs_each : ∀ {L : List (Addr × KN)} {out : List Value}, PySem.W.EachIs (fun v (p : Addr × KN) => v = Value.ref p.1) out L → out = L.map fun p => Value.ref p.1
  | _, _, .nil => rfl
  | p :: r, _, .cons e t => by rw [e, refs_each t]; rfl
abbrev enc (p : Addr × KN) : D := p.2.data
abbrev leE (p q : Addr × KN) : Bool := PySem.W.dataLe false enc p q
theorem le_all {β : Type} (f : β → D) (l : List β) : (l.mergeSort (PySem.W.dataLe false f)).Pairwise fun p q => PySem.W.dataLe false f p q = true := by
  have T := PySem.W.sortLe_total (listOrd itemOrd) false fun b : β => PySem.W.keyToks (f b)
  exact List.pairwise_mergeSort (fun a b c h1 h2 => T.trans a b c h1 h2) (fun a b => Bool.or_eq_true_iff.mpr (T.total a b)) l
section
variable {P : Program} {w : World} {A : Around} {E : Value → Shared → Prop} {s : Shared}
theorem sortK {a : Addr} {L : List (Addr × KN)} {es : Array (Int × Value)} {ep : Nat} {t : SetTable} {Q : Value → Shared → Prop} (R : SN P w s.heap a L es ep t) (hh : A.handled = none) (hr : ∀ p, p ∈ L → ∃ as, Reads s.heap (.ref p.1) (enc p) as ∧ as = []) (hal : PySem.W.AllAlike (L.map enc)) (hk : PySem.W.Sortable (L.map enc))
    (hd : ∀ p, p ∈ L → (enc p).depth ≤ 8) (hu : A.units + 20 < cLine)
    (fin : ∀ s' p (out : Array Value) (c : Nat) (L' : List (Addr × KN)), (∀ b o, s.heap.get? b = some o → s'.heap.get? b = some o) → s'.gens = s.gens → s'.os = s.os → s.heap.objs.size ≤ p → s'.heap.get? p = some (seqObj "list" out c) → out.toList = L'.map (fun q => Value.ref q.1) → L'.Perm L →
      L'.Pairwise (fun p q => leE p q = true) → Q (.ref p) s') : wpAny (model P w) A (call (.builtin "sorted") [.ref a]) Q E s := by
  obtain ⟨o, ⟨ho, hd'⟩, hex⟩ := R.obj
  have hs := R.size
  have hf := R.few
  refine Calls.call_function_entry kind_sorted plain_sorted entry_sorted (args_sorted1 _) ?_
  unfold Builtin.«sorted»
  refine wpAny_bind (m := checkCount "sorted" 1 1 _) (wpAny_pure (wpAny_bind (collect_set (A := A.in1) hh ⟨o, ho, hex.1, hd'⟩ R.fit (by unfold scanBound; omega) R.good.ris R.ord fun s1 vs kp hz g1 o1 pm => ?_)))
  have ev : es.toList.map (·.2) = L.map fun q => Value.ref q.1 := by
    rw [R.all, List.map_map]
    rfl
  obtain ⟨bs, pb', rfl⟩ := perm_lift pm L ev
  have hlen : bs.length < 64 := by rw [pb'.length_eq]; exact hf
  refine wpAny_bind (wpAny_newList ?_ (by rw [List.length_map, sizeLine_eq]; omega))
  have hoL : (s1.heap.push (seqObj "list" (bs.map fun q => Value.ref q.1).toArray 0)).get? s1.heap.objs.size = some (seqObj "list" (bs.map fun q => Value.ref q.1).toArray 0) := Heap.get?_push_size _ rfl
  have pmE : (bs.map enc).Perm (L.map enc) := pb'.map enc
  have mem : ∀ d, d ∈ bs.map enc ↔ d ∈ L.map enc := fun d => pmE.mem_iff
  refine wpAny_bind (wpAny_holding (PySem.W.list_sort_data (s := { s1 with heap := s1.heap.push (seqObj "list" (bs.map fun q => Value.ref q.1).toArray 0) }) (R := fun v (p : Addr × KN) => v = Value.ref p.1) (enc := enc) (bs := bs) hoL (each_refs fun _ _ => rfl) (each_refs fun p hp => ?_) (fun d h1 e h2 => hal d ((mem d).mp h1) e ((mem e).mp h2)) ?_ (by rw [sizeLine_eq]; omega) (fun p hp => ?_) fun out l1 eo => ?_))
  · obtain ⟨as, r, rfl⟩ := hr p (pb'.mem_iff.mp hp)
    exact ⟨[], PyProof.Rows.Reads.keeps (fun b u e => Heap.get?_push_of_some _ (kp b u e)) r, by simp⟩
  · rcases hk with z | z
    · exact .inl fun d h => z d ((mem d).mp h)
    · exact .inr fun d h => z d ((mem d).mp h)
  · have := hd p (pb'.mem_iff.mp hp)
    simp
    omega
  · obtain ⟨c, hc⟩ := sortedHeap_at (vs := bs.map fun q => Value.ref q.1) (out := out.toArray) hoL
    refine wpAny_pure ⟨_, rfl, fin _ s1.heap.objs.size out.toArray c (bs.mergeSort (PySem.W.dataLe false enc)) (fun b u e => ?_) g1 o1 hz hc (refs_each eo) ((List.mergeSort_perm _ _).trans pb') (le_all enc bs)⟩
    have q := kp b u e
    have lt := Heap.lt_size q
    show (sortedHeap (s1.heap.push (seqObj "list" (bs.map fun q => Value.ref q.1).toArray 0)) s1.heap.objs.size _ _).get? b = some u
    rw [sortedHeap_old (Nat.ne_of_lt lt) (by rw [size_push']; exact Nat.lt_succ_of_lt lt)]
    exact Heap.get?_push_of_some _ q
end
end Ped

/-! PedSt6: the rules, and sorted(set(e)) as one -/
namespace Ped
open PySem PySem.Spec PyProof.Rows L2
/-- the set at a, its members told apart from the heap -/
def S0 (P : Program) (w : World) (h : Heap) (a : Addr) (L : List (Addr × KN)) : Prop := ∃ (es : Array (Int × Value)) (ep : Nat) (t : SetTable), (∃ o, (h.get? a = some o ∧ o.data = .set es ep t) ∧ o.ExactSet) ∧ es.toList = L.map (rowK w) ∧ TabOk t (hashK w L) ∧ (L.map Prod.snd).Nodup ∧
  (w.params.followText "set-order" = true ∨ t.led = true) ∧ L.length * 5 < t.mask * 3 ∧ L.length < 64
def SetKO (P : Program) (w : World) (a : Addr) (L : List (Addr × KN)) : HO := .ext fun h => S0 P w h a L
theorem SN.s0 {P : Program} {w : World} {h : Heap} {a : Addr} {L : List (Addr × KN)} {es : Array (Int × Value)} {ep : Nat} {t : SetTable} (R : SN P w h a L es ep t) : S0 P w h a L := ⟨es, ep, t, R.obj, R.all, R.good, R.dist, R.ord, R.free, R.few⟩
theorem S0.sn {P : Program} {w : World} {h : Heap} {a : Addr} {L : List (Addr × KN)} (R : S0 P w h a L) (ks : ∀ p, p ∈ L → IsK P w h p.2 p.1) : ∃ es ep t, SN P w h a L es ep t := by
  obtain ⟨es, ep, t, r1, r2, r3, r4, r5, r6, r7⟩ := R
  exact ⟨es, ep, t, r1, r2, r3, r4, ks, r5, r6, r7⟩
theorem setKO_ok {P : Program} {w : World} {H : Hp} {h : Heap} {a : Addr} {L : List (Addr × KN)} (R : S0 P w h a L) : ObjOk P w H h a (SetKO P w a L) := by
  have R' := R
  obtain ⟨es, ep, t, ⟨o, ⟨ho, _⟩, _⟩, _⟩ := R'
  refine ⟨R, ⟨o, ho⟩, fun h1 h2 p k => ?_⟩
  obtain ⟨es', ep', t', ⟨o', ⟨ho', hd'⟩, hx'⟩, q⟩ := (show S0 P w h1 a L from p)
  exact ⟨es', ep', t', ⟨o', ⟨k o' ho', hd'⟩, hx'⟩, q⟩
/-- the value at p.1 reads as the key p.2 -/
def KeyAt (K : PySem.W.Frag) (H : Hp) (p : Addr × KN) : Prop := Dp K H (.ref p.1) (enc p) ∧ keyOf (enc p) = some p.2 ∧ (enc p).depth ≤ 8
/-! ### the answer -/
def ddK : List KN → List KN
  | [] => []
  | k :: r => if k ∈ ddK r then ddK r else k :: ddK r
theorem mem_ddK {k : KN} : ∀ {l : List KN}, k ∈ ddK l ↔ k ∈ l
  | [] => Iff.rfl
  | x :: r => by
    unfold ddK
    split
    · rename_i h
      rw [mem_ddK (l := r), List.mem_cons]
      constructor
      · exact .inr
      · rintro (rfl | z)
        · exact mem_ddK.mp h
        · exact z
    · rw [List.mem_cons, List.mem_cons, mem_ddK (l := r)]
theorem nodup_ddK : ∀ l : List KN, (ddK l).Nodup
  | [] => .nil
  | x :: r => by
    unfold ddK
    split
    · exact nodup_ddK r
    · rename_i h
      exact List.nodup_cons.mpr ⟨h, nodup_ddK r⟩
theorem bnd_ddK {ks : List (Addr × KN)} (h : (ddK (ks.map Prod.snd)).length < 63) : Bnd ks := fun L hs nd => by
  have := nodup_le (L.map Prod.snd) (ddK (ks.map Prod.snd)) nd fun x hx => by
    obtain ⟨p, hp, rfl⟩ := List.mem_map.mp hx
    exact mem_ddK.mpr (List.mem_map_of_mem (hs p hp))
  rw [List.length_map] at this
  omega
section
variable {X : Cx}
theorem KeyAt.reads {pins : List (Addr × Obj)} {σ : L2.St} {H : Hp} {s : Shared} (I : Inv X pins σ H s) {p : Addr × KN} (h : KeyAt X.K H p) : (∃ as, Reads s.heap (.ref p.1) (enc p) as ∧ as = []) ∧ IsK X.prog X.w s.heap p.2 p.1 := by
  obtain ⟨h1, h2, h3⟩ := h
  obtain ⟨as, r⟩ := Dp.reads I _ _ (.ref p.1) h1 rfl
  obtain ⟨e, n⟩ := key_reads _ _ _ _ h2 r
  exact ⟨⟨as, r, e⟩, n, by rw [key_depth _ _ h2]; exact h3⟩
theorem refs_vals : ∀ {ks : List (Addr × KN)} {us : List Value}, Vals (ks.map fun p => V.ref p.1) us → us = ks.map fun p => Value.ref p.1
  | [], _, h => by cases h; rfl
  | p :: r, _, h => by
    cases h with
    | cons a b =>
      cases a
      rw [refs_vals b]
      rfl
theorem vals_refs : ∀ ks : List (Addr × KN), Vals (ks.map fun p => V.ref p.1) (ks.map fun p => Value.ref p.1)
  | [] => .nil
  | p :: r => .cons rfl (vals_refs r)
/-- set(e) -/
def rSetK (K : PySem.W.Frag) (P : Program) (w : World) : List V → Hp → VK → Prop := fun xs H Q => ∃ (l : Addr) (ks : List (Addr × KN)), xs = [V.ref l] ∧ (SqL K H l (ks.map fun p => V.ref p.1) ∨ SqT K H l (ks.map fun p => V.ref p.1)) ∧ (∀ p, p ∈ ks → KeyAt K H p) ∧ (ddK (ks.map Prod.snd)).length < 63 ∧
  ∀ a L, H a = none → Has ks ks.length L → (L.map Prod.snd).Nodup → Q (.ref a) (upd H a (SetKO P w a L))
theorem cr_setK (hc : X.calm = true) (hu : X.A.units + 64 < cLine) : CallR X (.type "set") (rSetK X.K X.prog X.w) := by
  intro pins s σ H xs us Q I r h
  obtain ⟨l, ks, rfl, hl, hk, hf, q⟩ := h
  rw [Vals.ref1 r]
  have hn : H s.heap.objs.size = none := I.hok.fresh (Nat.le_refl _)
  have go : ∀ items : Array Value, s.heap.IsList l items ∨ s.heap.IsTuple l items → items.toList = ks.map (fun p => Value.ref p.1) → wpAny (model X.prog X.w) X.A (call (.type "set") [.ref l]) (fun u s' => ∃ v H', Inv X pins σ H' s' ∧ RelV v u ∧ Q v H') X.xe s := fun items hi ei => by
    refine setK_made ks (I.ok.hd hc) hi ei (fun p hp => ((hk p hp).reads I).2) (bnd_ddK hf) (by omega) fun s2 h2 => ?_
    obtain ⟨h', tk, L, es, ep, t, rfl, R, g, k⟩ := h2
    exact ⟨.ref s.heap.objs.size, upd H s.heap.objs.size (SetKO X.prog X.w s.heap.objs.size L), I.laid (t' := tk) k (Nat.le_refl _) (setKO_ok R.s0), rfl, q _ L hn g R.dist⟩
  rcases hl with hl | hl
  · obtain ⟨its, rv, pl, hz⟩ := I.list hl
    exact go its.toArray (.inl pl.isList) (by simpa using refs_vals rv)
  · obtain ⟨its, rv, pl, hz⟩ := I.tuple hl
    exact go its.toArray (.inr pl) (by simpa using refs_vals rv)
/-- sorted(s) -/
def rSortK (K : PySem.W.Frag) (P : Program) (w : World) : List V → Hp → VK → Prop := fun xs H Q => ∃ (a : Addr) (L : List (Addr × KN)), xs = [V.ref a] ∧ H a = some (SetKO P w a L) ∧ (∀ p, p ∈ L → KeyAt K H p) ∧ PySem.W.AllAlike (L.map enc) ∧ PySem.W.Sortable (L.map enc) ∧
  ∀ (L' : List (Addr × KN)) (p : Addr), L'.Perm L → L'.Pairwise (fun p q => leE p q = true) → H p = none → Q (.ref p) (upd H p (.lst (L'.map fun q => V.ref q.1)))
theorem cr_sortK (hc : X.calm = true) (hu : X.A.units + 64 < cLine) : CallR X (.builtin "sorted") (rSortK X.K X.prog X.w) := by
  intro pins s σ H xs us Q I r h
  obtain ⟨a, L, rfl, ha, hk, hal, hs, q⟩ := h
  rw [Vals.ref1 r]
  obtain ⟨es, ep, t, R⟩ := S0.sn (P := X.prog) (w := X.w) (I.hok a _ ha).1 fun p hp => ((hk p hp).reads I).2
  refine sortK R (I.ok.hd hc) (fun p hp => ((hk p hp).reads I).1) hal hs (fun p hp => (hk p hp).2.2) (by omega) fun s' p out c L' k g o hp hg ho pm pw => ?_
  have hn : H p = none := I.hok.fresh hp
  have hl : (L'.map fun q => V.ref q.1).length ≤ sizeLine := by rw [List.length_map, pm.length_eq, sizeLine_eq]; have := R.few; omega
  have J : Inv X pins σ (upd H p (.lst (L'.map fun q => V.ref q.1))) { s with heap := s'.heap, gens := s'.gens, drawn := s'.drawn, toks := s'.toks } :=
    I.call (ch := []) (Un.laid k hp hn) (I.hok.laid k hp ⟨hl, out.toList, c, by rw [ho]; exact vals_refs L', hg⟩) (by rw [g]; exact I.bare) fun _ z => nomatch z
  have e : { s with heap := s'.heap, gens := s'.gens, drawn := s'.drawn, toks := s'.toks } = s' := by
    cases s'
    cases s
    cases o
    rfl
  rw [e] at J
  exact ⟨.ref p, _, J, rfl, q L' p pm pw hn⟩
end
abbrev leD (a b : D) : Bool := PySem.W.dataLe false (fun d : D => d) a b
/-- what may be put into a set and sorted -/
structure SetOk (xs : List D) (ks : List KN) : Prop where
  key : keysOf xs = some ks
  few : (ddK ks).length < 63
  tup : ∀ d, d ∈ xs → ∃ x r, d = .tuple (x :: r)
  dep : ∀ d, d ∈ xs → d.depth ≤ 8
  alike : PySem.W.AllAlike xs
  anti : ∀ d, d ∈ xs → ∀ e, e ∈ xs → leD d e = true → leD e d = true → d = e
open Classical in
noncomputable def ssD (xs : List D) (μ : Sto) : Rs Wv := match keysOf xs with
  | some ks => if SetOk xs ks then .ok (.d (.list (((ddK ks).map NestedKey.data).mergeSort leD))) μ else .no
  | none => .no
noncomputable def ssKW (w : Wv) (μ : Sto) : Rs Wv := match w with
  | .d (.list xs) => ssD xs μ
  | .d (.tuple xs) => ssD xs μ
  | _ => .no
theorem keys_map : ∀ {xs : List D} {ks : List KN}, keysOf xs = some ks → ks.map NestedKey.data = xs
  | [], _, h => by cases h; rfl
  | d :: r, _, h => by
    obtain ⟨k, t, rfl, e1, e2⟩ := keysOf_cons h
    rw [List.map_cons, key_data d k e1, keys_map e2]
theorem keys_each : ∀ {xs : List D} {ks : List KN}, keysOf xs = some ks → ∀ k, k ∈ ks → k.data ∈ xs ∧ keyOf k.data = some k
  | [], _, h, k, hk => by cases h; cases hk
  | d :: r, _, h, k, hk => by
    obtain ⟨k0, t, rfl, e1, e2⟩ := keysOf_cons h
    rcases List.mem_cons.mp hk with rfl | hk
    · rw [key_data d k e1]
      exact ⟨List.mem_cons_self, e1⟩
    · obtain ⟨q1, q2⟩ := keys_each e2 k hk
      exact ⟨List.mem_cons_of_mem _ q1, q2⟩
theorem zip_keys {K : PySem.W.Frag} {F : Hp} : ∀ {xs : List D} {ks : List KN} {vs : List V}, keysOf xs = some ks → RpA K F vs xs → (∀ d, d ∈ xs → ∃ x r, d = .tuple (x :: r)) → ∃ ps : List (Addr × KN), vs = ps.map (fun p => V.ref p.1) ∧ ps.map Prod.snd = ks ∧ ∀ p, p ∈ ps → Rp K F (.ref p.1) (enc p)
  | [], _, _, h, r, _ => by cases h; cases r; exact ⟨[], rfl, rfl, fun p hp => by cases hp⟩
  | d :: xs, _, _, h, r, ht => by
    obtain ⟨k, t, rfl, e1, e2⟩ := keysOf_cons h
    cases r with
    | cons r1 r2 =>
      obtain ⟨ps, p1, p2, p3⟩ := zip_keys e2 r2 fun e he => ht e (List.mem_cons_of_mem _ he)
      obtain ⟨x, rr, rfl⟩ := ht d List.mem_cons_self
      obtain ⟨a, vs', rfl, _⟩ := rp_tup_inv r1
      refine ⟨(a, k) :: ps, by rw [p1]; rfl, by rw [List.map_cons, p2], fun p hp => ?_⟩
      rcases List.mem_cons.mp hp with rfl | hp
      · show Rp K F (.ref a) k.data
        rw [key_data _ _ e1]
        exact r1
      · exact p3 p hp
theorem rpA_refs {K : PySem.W.Frag} {F : Hp} : ∀ {L : List (Addr × KN)}, (∀ p, p ∈ L → Rp K F (.ref p.1) (enc p)) → RpA K F (L.map fun p => V.ref p.1) (L.map enc)
  | [], _ => .nil
  | p :: r, h => .cons (h p List.mem_cons_self) (rpA_refs fun q hq => h q (List.mem_cons_of_mem _ hq))
section
variable {X : Cx} {W : WX}
/-- sorted(set(e)), e a list or a tuple of tuples -/
theorem c_sortedSetK {p q qos pos : Pos} {a : Expr} {f : FE} (hc : X.calm = true) (hu : X.A.units + 65 < cLine) (hg : Gl X "sorted") (hm : X.mg "sorted" = none) (hg2 : Gl X "set") (hm2 : X.mg "set" = none) (h : CEx X W a f)
    (na : starEach [a] X.env = (false, eval a X.env) :: starEach [] X.env := by rfl) (na2 : starEach [.Call (.Name "set" q) [a] [] qos] X.env = (false, eval (.Call (.Name "set" q) [a] [] qos) X.env) :: starEach [] X.env := by rfl)
    : CEx X W (.Call (.Name "sorted" p) [.Call (.Name "set" q) [a] [] qos] [] pos) (f1 ssKW f) := by
  obtain ⟨t, pa, qa⟩ := h
  refine ⟨_, pe_callB (cr_sortK hc (by omega)) hg hm (by decide +kernel) (pa_cons (pe_callTy (cr_setK hc (by omega)) hg2 hm2 (by decide +kernel) (pa_cons pa pa_nil na) (by decide) (by decide) na (by rfl)) pa_nil na2) (by decide) (by decide) na2 (by rfl), fun env σ S μ he hS Q hp => ?_⟩
  unfold f1 at hp
  rw [Rs.post_bind] at hp
  refine qa env σ S μ he hS _ (hp.mono (fun w μ1 h1 v S1 e1 hS1 r1 => ?_) fun _ _ z => z)
  have main : ∀ {xs : List D} {vs : List V} {l : Addr}, v = .ref l → (SqL X.K S1.H l vs ∨ SqT X.K S1.H l vs) → RpA X.K S1.F vs xs → (ssD xs μ1).Post (POk X.K S Q) (PEx X.K W σ S) → ∃ ks : List (Addr × KN), (SqL X.K S1.H l (ks.map fun p => V.ref p.1) ∨ SqT X.K S1.H l (ks.map fun p => V.ref p.1)) ∧ (∀ p, p ∈ ks → KeyAt X.K S1.H p) ∧ (ddK (ks.map Prod.snd)).length < 63 ∧
      ∀ a L, S1.H a = none → Has ks ks.length L → (L.map Prod.snd).Nodup → rSortK X.K X.prog X.w [.ref a] (upd S1.H a (SetKO X.prog X.w a L)) Q := by
    intro xs vs l hv hq ra hpost
    unfold ssD at hpost
    split at hpost
    · rename_i kk hkk
      split at hpost
      · rename_i ok
        obtain ⟨ps, e2, e3, e4⟩ := zip_keys hkk ra ok.tup
        have inx : ∀ p, p ∈ ps → enc p ∈ xs ∧ keyOf (enc p) = some p.2 := fun p hp => keys_each hkk p.2 (e3 ▸ List.mem_map_of_mem hp)
        refine ⟨ps, by rw [← e2]; exact hq, fun p hp => ⟨Rp.dp hS1.sub _ _ (e4 p hp), (inx p hp).2, ok.dep _ (inx p hp).1⟩, by rw [e3]; exact ok.few, fun b L hb hh nd => ?_⟩
        obtain ⟨ex, hs⟩ := side_one hS1 (o := SetKO X.prog X.w b L) hb
        have sub : ∀ p, p ∈ L → p ∈ ps := fun p hp => List.mem_of_mem_take (hh.sub p hp)
        have inL : ∀ d, d ∈ L.map enc → d ∈ xs := fun d hd => by
          obtain ⟨p, hp, rfl⟩ := List.mem_map.mp hd
          exact (inx p (sub p hp)).1
        refine ⟨b, L, rfl, upd_same, fun p hp => ?_, fun d h2 e h3 => ok.alike d (inL d h2) e (inL e h3), .inl fun d hd => ok.tup d (inL d hd), fun L' p' pm pw hp' => ?_⟩
        · have hp2 := sub p hp
          exact ⟨Rp.dp hs.sub _ _ (e4 p hp2), (inx p hp2).2, ok.dep _ (inx p hp2).1⟩
        · have ek : (L.map Prod.snd).Perm (ddK kk) := (List.perm_ext_iff_of_nodup nd (nodup_ddK kk)).mpr fun k => by
            rw [mem_ddK, ← e3]
            constructor
            · intro hk
              obtain ⟨p, hp, rfl⟩ := List.mem_map.mp hk
              exact List.mem_map_of_mem (sub p hp)
            · intro hk
              obtain ⟨p, hp, rfl⟩ := List.mem_map.mp hk
              exact hh.cov p (by rw [List.take_length]; exact hp)
          have ed : (L'.map enc).Perm (((ddK kk).map NestedKey.data).mergeSort leD) := by
            refine ((pm.map enc).trans ?_).trans (List.mergeSort_perm _ _).symm
            have := ek.map NestedKey.data
            rw [List.map_map] at this
            exact this
          have es : L'.map enc = ((ddK kk).map NestedKey.data).mergeSort leD := by
            refine List.Perm.eq_of_pairwise (fun d e hd he z1 z2 => ok.anti d (inL d ((pm.map enc).mem_iff.mp hd)) e ?_ z1 z2) (List.pairwise_map.mpr pw) (le_all (fun d : D => d) _) ed
            exact inL e ((pm.map enc).mem_iff.mp (ed.mem_iff.mpr he))
          have ra2 : RpA X.K (⟨upd S1.H b (SetKO X.prog X.w b L), S1.F, S1.L⟩ : Sta).F (L'.map fun q => V.ref q.1) (((ddK kk).map NestedKey.data).mergeSort leD) := by
            rw [← es]
            exact rpA_refs fun p hp => e4 p (sub p (pm.mem_iff.mp hp))
          exact new_lst hs ra2 (POk.mono (e1.trans ex) hpost) p' hp'
      · exact hpost.elim
    · exact hpost.elim
  unfold ssKW at h1
  split at h1
  · obtain ⟨l, vs, rfl, hF, ra⟩ := rp_lst_inv r1
    obtain ⟨ks, k1, k2, k3, k4⟩ := main rfl (.inl (.inl (.inl (hS1.sub _ _ hF)))) ra h1
    exact ⟨l, ks, rfl, k1, k2, k3, fun b L hb hh nd => k4 b L hb hh nd⟩
  · obtain ⟨l, vs, rfl, hF, ra⟩ := rp_tup_inv r1
    obtain ⟨ks, k1, k2, k3, k4⟩ := main rfl (.inr (.inl (sb_rd hS1.sub hF))) ra h1
    exact ⟨l, ks, rfl, k1, k2, k3, fun b L hb hh nd => k4 b L hb hh nd⟩
  · exact h1.elim
end
end Ped


namespace Ped
open PySem L2 PyProof.Rows PySem.Spec
noncomputable def B_need_lot : FS := sIf (fNot (fB (fCall (callD 1 g_is_lot) (fCons (fVar 0) (fNil))))) ((fun _ _ => .no)) (sNil)
noncomputable def g_need_lot (ws : List Wv) (μ : Sto) : Rs Wv := runF 1 B_need_lot ws μ
noncomputable abbrev L_orders_of_1 (self : List Wv → Sto → Rs Wv) : FS := sAsg (fOp addW (fVar 1) (fComp (itS (fCall (callD 1 self) (fCons (fCall (callD 2 g_less_at) (fCons (fVar 0) (fCons (fTm indexW (fVar 0) (fVar 2)) (fNil)))) (fNil)))) (gVar 3) (fYes) (fOp addW (fTup (fCons (fVar 2) (fNil))) (fVar 3)) [3])) (gVar 1)
noncomputable def B_orders_of (self : List Wv → Sto → Rs Wv) : FS := sCons (sIf (fB (fOp (eqW false) (fVar 0) (fTup (fNil)))) (sRet (fLst (fCons (fTup (fNil)) (fNil)))) (sNil)) (sCons (sAsg (fLst (fNil)) (gVar 1)) (sCons (sFor (itS (f1 ssKW (fVar 0))) (gVar 2) ((L_orders_of_1 self))) (sRet (fVar 1))))
noncomputable def gr_orders_of : Nat → List Wv → Sto → Rs Wv
  | 0 => fun _ _ => .no
  | n + 1 => fun ws μ => runF 4 (B_orders_of (gr_orders_of n)) ws μ
noncomputable def g_orders_of (ws : List Wv) (μ : Sto) : Rs Wv := gr_orders_of 6 ws μ
noncomputable abbrev L_are_facts_1 : FS := sIf (fOr (fNot (fB (fIsi "tuple" (fVar 1)))) (fOr (fB (fOp (eqW true) (fCall kLen (fCons (fVar 1) (fNil))) (fC (.int 2)))) (fOr (fNot (fB (fCall (callD 1 g_is_number) (fCons (fOp ixW (fVar 1) (fC (.int 0))) (fNil))))) (fNot (fB (fCall (callD 1 g_is_number) (fCons (fOp ixW (fVar 1) (fC (.int 1))) (fNil)))))))) (sRet (fC (.bool false))) (sNil)
noncomputable def B_are_facts : FS := sCons (sIf (fOr (fNot (fB (fIsi "tuple" (fVar 0)))) (fB (fOp (cmpW fun i j => decide (j < i)) (fCall kLen (fCons (fVar 0) (fNil))) (fC (.int 40))))) (sRet (fC (.bool false))) (sNil)) (sCons (sFor (itS (fVar 0)) (gVar 1) (L_are_facts_1)) (sRet (fC (.bool true))))
noncomputable def g_are_facts (ws : List Wv) (μ : Sto) : Rs Wv := runF 2 B_are_facts ws μ
noncomputable abbrev L_fitting_1 : FS := sIf (fB (fCall kAll (fCons (fComp (itS (fVar 1)) (gTupF 2 (gsCons (gVar 4) (gsCons (gVar 5) (gsNil)))) (fYes) (fOp (eqW false) (fCall (callD 2 g_row_shape) (fCons (fVar 3) (fCons (fVar 4) (fNil)))) (fVar 5)) [4, 5]) (fNil)))) (sExpr (fApp (fVar 2) (fVar 3))) (sNil)
noncomputable def B_fitting : FS := sCons (sExpr (fCall (callD 1 g_need_lot) (fCons (fVar 0) (fNil)))) (sCons (sIf (fNot (fB (fCall (callD 1 g_are_facts) (fCons (fVar 1) (fNil))))) ((fun _ _ => .no)) (sNil)) (sCons (sAsg (fLstN (fNil)) (gVar 2)) (sCons (sFor (itS (fCall (callD 1 g_orders_of) (fCons (fVar 0) (fNil)))) (gVar 3) (L_fitting_1)) (frz 2 (sRet (fVar 2))))))
noncomputable def g_fitting (ws : List Wv) (μ : Sto) : Rs Wv := runF 6 B_fitting ws μ
noncomputable def B_orders_with : FS := sCons (sExpr (fCall (callD 1 g_need_lot) (fCons (fVar 0) (fNil)))) (sCons (sIf (fOr (fNot (fB (fIsi "tuple" (fVar 1)))) (fOr (fB (fOp (cmpW fun i j => decide (j < i)) (fCall kLen (fCons (fVar 1) (fNil))) (fC (.int 6)))) (fNot (fB (fCall kAll (fCons (fComp (itS (fVar 1)) (gVar 3) (fYes) (fCall (callD 1 g_is_wish) (fCons (fVar 3) (fNil))) [3]) (fNil))))))) ((fun _ _ => .no)) (sNil)) (sRet (fComp (itS (fCall (callD 1 g_orders_of) (fCons (fVar 0) (fNil)))) (gVar 2) (fB (fCall kAll (fCons (fComp (itS (fVar 1)) (gVar 3) (fYes) (fOp (isNW false) (fCall (callD 2 g_break_of) (fCons (fVar 2) (fCons (fVar 3) (fNil)))) (fC .none)) [3]) (fNil)))) (fVar 2) [2])))
noncomputable def g_orders_with (ws : List Wv) (μ : Sto) : Rs Wv := runF 4 B_orders_with ws μ
noncomputable abbrev L__law_orders_1 : FS := sIf (fB (fOp (cmpW fun i j => decide (i < j)) (fTm countW (fVar 4) (fVar 5)) (fTm countW (fVar 0) (fVar 5)))) (sExpr (fApp (fVar 3) (fOp addW (fVar 4) (fTup (fCons (fVar 5) (fNil)))))) (sNil)
noncomputable abbrev L__law_orders_2 : FS := sFor (itS (fVar 0)) (gVar 5) (L__law_orders_1)
noncomputable abbrev L__law_orders_3 : FS := sCons (sAsg (fLstN (fNil)) (gVar 3)) (sCons (sFor (itS (fVar 1)) (gVar 4) (L__law_orders_2)) (frz 3 (sAsg (fVar 3) (gVar 1))))
noncomputable def B__law_orders : FS := sCons (sAsg (fLst (fCons (fTup (fNil)) (fNil))) (gVar 1)) (sCons (sFor (itR1 (fCall kLen (fCons (fVar 0) (fNil)))) (gVar 2) (L__law_orders_3)) (sRet (f1 ssKW (fVar 1))))
noncomputable def g__law_orders (ws : List Wv) (μ : Sto) : Rs Wv := runF 6 B__law_orders ws μ
noncomputable def B__law_lot : FS := sRet (fCall kTuple (fCons (fComp (itR1 (fOp addW (fC (.int 1)) (fCall (callD 2 g__law_take) (fCons (fVar 0) (fCons (fVar 1) (fNil)))))) (gVar 2) (fYes) (fCall (callD 2 g__law_pedal) (fCons (fVar 0) (fCons (fC (.bool false)) (fNil)))) [2]) (fNil)))
noncomputable def g__law_lot (ws : List Wv) (μ : Sto) : Rs Wv := runF 3 B__law_lot ws μ
noncomputable abbrev L_law_9_1 : FS := sAsg (fOp addW (fVar 11) (fTup (fCons (fTup (fCons (fVar 8) (fCons (fCall (callD 2 g__law_shape) (fCons (fVar 10) (fCons (fVar 8) (fNil)))) (fNil)))) (fNil)))) (gVar 11)
noncomputable abbrev L_law_9_2 : FS := sAsg (fOp addW (fVar 7) (fOp mulW (fLst (fCons (fVar 12) (fNil))) (fCall kInt (fCons (fOp (eqW false) (fComp (itS (fVar 9)) (gVar 15) (fB (fOp (eqW true) (fCall (callD 2 g__law_shape) (fCons (fVar 12) (fCons (fOp ixW (fVar 15) (fC (.int 0))) (fNil)))) (fOp ixW (fVar 15) (fC (.int 1))))) (fVar 15) [15]) (fLst (fNil))) (fNil))))) (gVar 7)
noncomputable abbrev L_law_9_3 : FS := sCons (sAsg (fLst (fNil)) (gVar 7)) (sCons (sFor (itS (fVar 4)) (gVar 12) (L_law_9_2)) (sIf (fB (fOp (eqW true) (fCall (callD 2 g_fitting) (fCons (fVar 3) (fCons (fVar 9) (fNil)))) (fVar 7))) (sRet (fC (.bool false))) (sNil)))
noncomputable abbrev L_law_9_4 : FS := sCons (sAsg (fCall (callD 2 g__law_bag) (fCons (fVar 0) (fCons (fVar 1) (fNil)))) (gVar 2)) (sCons (sAsg (fCall (callD 2 g__law_lot) (fCons (fVar 2) (fCons (fC (.int 4)) (fNil)))) (gVar 3)) (sCons (sAsg (fCall (callD 1 g__law_orders) (fCons (fVar 3) (fNil))) (gVar 4)) (sCons (sAsg (fLst (fCons (fC (.str "even")) (fCons (fC (.str "growing")) (fCons (fC (.str "odd")) (fCons (fC (.str "rising")) (fCons (fC (.str "silent")) (fNil))))))) (gVar 5)) (sCons (sAsg (fCall kTuple (fCons (fComp (itR1 (fCall (callD 2 g__law_take) (fCons (fVar 2) (fCons (fC (.int 4)) (fNil))))) (gVar 13) (fYes) (fCall (callD 2 g__law_of) (fCons (fVar 2) (fCons (fVar 5) (fNil)))) [13]) (fNil))) (gVar 6)) (sCons (sAsg (fComp (itS (fVar 4)) (gVar 10) (fB (fOp (eqW false) (fComp (itS (fVar 6)) (gVar 14) (fNot (fB (fCall (callD 2 g_keeps) (fCons (fVar 10) (fCons (fVar 14) (fNil)))))) (fVar 14) [14]) (fLst (fNil)))) (fVar 10) [10]) (gVar 7)) (sCons (sIf (fB (fOp (eqW true) (fCall (callD 2 g_orders_with) (fCons (fVar 3) (fCons (fVar 6) (fNil)))) (fVar 7))) (sRet (fC (.bool false))) (sNil)) (sCons (sPar 10 11 (fCons (fCall (callD 2 g__law_of) (fCons (fVar 2) (fCons (fVar 4) (fNil)))) (fCons (fTup (fNil)) (fNil)))) (sCons (sFor (itS (fCall (callD 2 g__law_numbers) (fCons (fVar 2) (fCons (fC (.int 5)) (fNil))))) (gVar 8) (L_law_9_1)) (sCons (sFor (itS (fLst (fCons (fVar 11) (fCons (fOp addW (fVar 11) (fTup (fCons (fTup (fCons (fC (.int 2)) (fCons (fOp (opI fun i j => some (.int (i - j))) (fCall (callD 2 g__law_take) (fCons (fVar 2) (fCons (fC (.int 9)) (fNil)))) (fC (.int 4))) (fNil)))) (fNil)))) (fCons (fTup (fNil)) (fNil)))))) (gVar 9) (L_law_9_3)) (sIf (fB (fOp (inW true) (fVar 10) (fCall (callD 2 g_fitting) (fCons (fVar 3) (fCons (fVar 11) (fNil)))))) (sRet (fC (.bool false))) (sNil)))))))))))
noncomputable def B_law_9 : FS := sCons (sFor (itR1 (fCall kMax2 (fCons (fC (.int 3)) (fCons (fCall kMin2 (fCons (fC (.int 7)) (fCons (fOp addW (fCall kLen (fCons (fVar 0) (fNil))) (fC (.int 2))) (fNil)))) (fNil))))) (gVar 1) (L_law_9_4)) (sRet (fC (.bool true)))
noncomputable def g_law_9 (ws : List Wv) (μ : Sto) : Rs Wv := runF 16 B_law_9 ws μ
end Ped

/-! PedFz: a list of lists of the store is changed no more; x in l, l.index(x), l a list of the store -/
namespace Ped
open PySem PySem.Spec PyProof.Rows L2
/-- the data of lists that are changed no more from here on -/
def deepD : Sto → List Wv → Option (List PyData × Sto)
  | μ, [] => some ([], μ)
  | μ, .d x :: r => match deepD μ r with
    | some (ds, ν) => some (x :: ds, ν)
    | none => none
  | μ, .l m :: r => match lstAt μ m with
    | some ws => (match dats ws with
      | some es => (match deepD (μ.set m .dead) r with
        | some (ds, ν) => some (.list es :: ds, ν)
        | none => none)
      | none => none)
    | none => none
  | _, .s _ :: _ => none
  | _, .e _ _ :: _ => none
theorem HS.deep {K : PySem.W.Frag} : ∀ {ws : List Wv} {S : Sta} {μ ν : Sto} {vs : List V} {ds : List PyData}, HS K S μ → deepD μ ws = some (ds, ν) → RWs K S vs ws →
    ∃ F', Ext S ⟨S.H, F', S.L⟩ ∧ HS K ⟨S.H, F', S.L⟩ ν ∧ RpA K F' vs ds := by
  intro ws
  induction ws with
  | nil =>
    intro S μ ν vs ds hS h r
    cases r
    cases h
    exact ⟨S.F, Ext.refl S, hS, .nil⟩
  | cons w r ih =>
    intro S μ ν vs ds hS h rw
    cases rw with
    | cons r1 rt =>
      cases w with
      | d x =>
        unfold deepD at h
        split at h
        · rename_i es ν' he
          cases h
          obtain ⟨F', ex, hS', ra⟩ := ih hS he rt
          exact ⟨F', ex, hS', .cons (Rp.mono ex.sb _ _ r1) ra⟩
        · cases h
      | s x => exact absurd h (by unfold deepD; simp)
      | e _ _ => exact absurd h (by unfold deepD; simp)
      | l m =>
        unfold deepD at h
        split at h
        · rename_i us hm
          split at h
          · rename_i es hd
            split at h
            · rename_i ds' ν' he
              cases h
              obtain ⟨a, hL, rfl⟩ := r1
              obtain ⟨vs', q1, q2⟩ := hS.ob m a _ hL (lstAt_some hm)
              obtain ⟨ex1, hS1, rp⟩ := hS.freeze hL (lstAt_some hm) q1 q2 hd
              obtain ⟨F', ex, hS', ra⟩ := ih hS1 he (RWs.mono ex1 rt)
              exact ⟨F', ex1.trans ex, hS', .cons (Rp.mono ex.sb _ _ rp) ra⟩
            · cases h
          · cases h
        · cases h
theorem RpA.rws {K : PySem.W.Frag} {S : Sta} : ∀ {vs : List V} {ds : List PyData}, RpA K S.F vs ds → RWs K S vs (ds.map Wv.d)
  | _, _, .nil => .nil
  | _, _, .cons r t => .cons r (RpA.rws t)
theorem HS.relab {K : PySem.W.Frag} {S : Sta} {μ : Sto} (h : HS K S μ) {n : Nat} {a : Addr} {ob ob' : Ob} (hn : S.L[n]? = some a) (h0 : μ[n]? = some ob) (hd : ob ≠ .dead) (hob : ObR K S a ob') : HS K S (μ.set n ob') := by
  have hlt : n < μ.length := (List.getElem?_eq_some_iff.mp h0).1
  refine ⟨h.sub, by rw [List.length_set]; exact h.len, h.nd, h.tr, fun m b o h1 h2 h3 => ?_, fun m b o h1 h2 => ?_⟩
  · by_cases hm : n = m
    · subst hm
      rw [hn] at h1
      cases h1
      exact h.lv n a ob hn h0 hd
    · rw [List.getElem?_set_ne hm] at h2
      exact h.lv m b o h1 h2 h3
  · by_cases hm : n = m
    · subst hm
      rw [hn] at h1
      cases h1
      rw [List.getElem?_set_self hlt] at h2
      cases h2
      exact hob
    · rw [List.getElem?_set_ne hm] at h2
      exact h.ob m b o h1 h2
section
variable {X : Cx} {W : WX}
/-- from here on the list at the i-th name, and the lists in it, are changed no more -/
def frz2 (i : Nat) (f : FS) : FS := fun env μ => match env[i]? with
  | some (some (.l n)) => (match lstAt μ n with
    | some ws => (match deepD μ ws with
      | some (ds, ν) => (match lstAt ν n with
        | some _ => f (env.set i (some (.d (.list ds)))) (ν.set n .dead)
        | none => .no)
      | none => .no)
    | none => .no)
  | _ => .no
theorem cb_frz2 (i : Nat) {sts : List Stmt} {f : FS} (h : CB X W sts f) : CB X W sts (frz2 i f) := by
  obtain ⟨t, p, q⟩ := h
  refine ⟨t, p, fun env σ S μ hE hS D hp => ?_⟩
  unfold frz2 at hp
  split at hp
  · rename_i n hi
    split at hp
    · rename_i ws hm
      split at hp
      · rename_i ds ν hd
        split at hp
        · rename_i us hu
          obtain ⟨v, hv, a, hL, rfl⟩ := hE.val i _ hi
          obtain ⟨vs, q1, q2⟩ := hS.ob n a _ hL (lstAt_some hm)
          obtain ⟨F', ex1, hS1, ra⟩ := hS.deep hd q2
          have hS2 : HS X.K ⟨S.H, F', S.L⟩ (ν.set n (.lst (ds.map Wv.d))) := hS1.relab hL (lstAt_some hu) (by intro z; cases z) ⟨vs, q1, RpA.rws ra⟩
          have h0 : (ν.set n (.lst (ds.map Wv.d)))[n]? = some (.lst (ds.map Wv.d)) := List.getElem?_set_self (List.getElem?_eq_some_iff.mp (lstAt_some hu)).1
          obtain ⟨ex2, hS', r⟩ := hS2.freeze (S := ⟨S.H, F', S.L⟩) hL h0 q1 (RpA.rws ra) (dats_map ds)
          rw [List.set_set] at hS'
          have ex := ex1.trans ex2
          have hE' := (hE.mono ex).set (i := i) (w := .d (.list ds)) (v := .ref a) r
          have es : σ.set i (some (.ref a)) = σ := by
            refine List.ext_getElem? fun j => ?_
            by_cases hj : i = j
            · subst hj
              rw [List.getElem?_set_self (List.getElem?_eq_some_iff.mp hv).1, hv]
            · rw [List.getElem?_set_ne hj]
          rw [es] at hE'
          exact q _ σ _ _ hE' hS' D (hp.mono (fun fl ν z => EndOk.mono ex z) fun _ _ z => z.mono ex)
        · exact hp.elim
      · exact hp.elim
    · exact hp.elim
  · exact hp.elim
variable {a b : Expr} {f g : FE} {pos : Pos}
/-- x in l, l a list of the store -/
def inLW (x y : Wv) (μ : Sto) : Rs Wv := match x, y with
  | .d d, .l n => (match lstD μ n with
    | some ds => if SeqAt.shaped d = true ∧ SeqAt.shaped (.list ds) = true then .ok (.d (.bool (ds.any fun z => PyData.eqv z d))) μ else .no
    | none => .no)
  | x, y => inW false x y μ
theorem inLW_nx : NoEx inLW := fun x y μ e ν q => by
  unfold inLW at q
  split at q
  · split at q
    · split at q <;> cases q
    · cases q
  · exact inW_nx false _ _ _ _ _ q
theorem ok_inL : OkR X (fun x y H Q => rIn X.K false x y H Q ∨ rInD X.K x y H Q) inLW := fun x y v u S μ hS hx hy Q hp => by
  unfold inLW at hp
  split at hp
  · rename_i d n
    split at hp
    · rename_i ds hd
      split at hp
      · rename_i hh
        obtain ⟨p, vs, rfl, h1, r1⟩ := lstD_ok hS hd hy
        exact .inr ⟨d, ds, Rp.dp hS.sub _ _ hx, .lst (.inl (.inl h1)) (RpA.dp hS.sub _ _ r1), hh.1, hh.2, hp _ S (Ext.refl S) hS (.bl _)⟩
      · exact hp.elim
    · exact hp.elim
  · exact ok_in _ _ v u S μ hS hx hy Q hp
theorem c_inL (hu : X.A.units + 65 < cLine) (ha : CEx X W a f) (hb : CEx X W b g) (hm : behindInMarks .In b = false := by rfl) : CEx X W (.Compare a [.In] [b] pos) (fOp inLW f g) := c_cmp (OpR.or op_in_seq (op_inD hu)) ok_inL inLW_nx ha hb hm
theorem ct_inL (hu : X.A.units + 65 < cLine) (ha : CEx X W a f) (hb : CEx X W b g) (hm : behindInMarks .In b = false := by rfl) : CT X W (.Compare a [.In] [b] pos) (fB (fOp inLW f g)) := ct_cmp (OpR.or op_in_seq (op_inD hu)) ok_inL inLW_nx ha hb hm
/-- l.index(x), l a list of the store -/
def fIxL (f g : FE) : FE := fun env μ => (f env μ).bind fun x μ1 => match x with
  | .l n => (match lstAt μ1 n with
    | some _ => (g env μ1).bind fun y μ2 => (match y, lstD μ2 n with
      | .d d, some ds => if SeqAt.shaped (.list ds) = true ∧ SeqAt.shaped d = true then (match SeqAt.dataPlace ds d with
        | some j => .ok (.d (.int (j : Nat))) μ2
        | none => .no) else .no
      | _, _ => .no)
    | none => .no)
  | _ => .no
theorem place_first {ds : List PyData} {d : PyData} {j : Nat} (h : SeqAt.dataPlace ds d = some j) : ∃ z, ds[j]? = some z ∧ PyData.eqv z d = true ∧ ∀ (m : Nat) (z' : PyData), m < j → ds[m]? = some z' → PyData.eqv z' d = false := by
  unfold SeqAt.dataPlace at h
  rw [List.findIdx?_eq_some_iff_getElem] at h
  obtain ⟨hj, h1, h2⟩ := h
  refine ⟨ds[j], List.getElem?_eq_getElem hj, h1, fun m z' hm hz => ?_⟩
  obtain ⟨hm', rfl⟩ := List.getElem?_eq_some_iff.mp hz
  simpa using h2 m hm
theorem c_lindex {o e : Expr} {f g : FE} {apos cpos : Pos} (hu : X.A.units + 65 < cLine) (ho : CEx X W o f) (he : CEx X W e g)
    (hbase : attributeBase o "index" X.env (eval o X.env) = eval o X.env := by rfl)
    (hfew : ((backTo cpos (starEach [e] X.env)).all (fun x => !x.1) && (backToKw cpos (keywordEach [] X.env)).all (fun x => x.1.isSome)
      && decide (([e] : List Expr).length + ([] : List Keyword).length + (if ([] : List Keyword).isEmpty then 0 else 1) < 30)) = true := by rfl)
    (hline : (apos.endLine == cpos.line) = true := by rfl) (hs : starEach [e] X.env = (false, eval e X.env) :: starEach [] X.env := by rfl) (hplain : (backTo cpos (starEach [] X.env)).any (·.1) = false := by rfl) :
    CEx X W (.Call (.Attribute o "index" apos) [e] [] cpos) (fIxL f g) := by
  obtain ⟨to, po, qo⟩ := ho
  obtain ⟨te, pe, qe⟩ := he
  refine ⟨_, pe_bm PySem.F.plainAttrs_list PySem.F.slot_list_index PySem.F.type_list_index (mt_indexD hu) po (pa_cons pe pa_nil hs) hbase hfew hline hs hplain, fun env σ S μ hE hS Q hp => ?_⟩
  unfold fIxL at hp
  rw [Rs.post_bind] at hp
  refine qo env σ S μ hE hS _ (hp.mono (fun x μ1 h1 v S1 e1 hS1 r1 => ?_) fun _ _ z => z)
  cases x with
  | d z => exact h1.elim
  | s z => exact h1.elim
  | e _ _ => exact h1.elim
  | l n =>
    obtain ⟨a, hL, rfl⟩ := r1
    simp only at h1
    cases hm : lstAt μ1 n with
    | none => rw [hm] at h1; exact h1.elim
    | some ws1 =>
      rw [hm] at h1
      obtain ⟨vs1, q1, _⟩ := hS1.ob n a _ hL (lstAt_some hm)
      refine ⟨.inl ⟨rfl, _, .inl (.inl q1)⟩, ?_⟩
      have h1 : ((g env μ1).bind _).Post _ _ := h1
      rw [Rs.post_bind] at h1
      refine qe env σ S1 μ1 (hE.mono e1) hS1 _ (h1.mono (fun y μ2 h2 u S2 e2 hS2 r2 => ?_) fun _ _ z => z.mono e1)
      have hL2 := e2.pf n a hL
      split at h2
      · rename_i d ds hd
        split at h2
        · rename_i hh
          split at h2
          · rename_i j hj
            obtain ⟨p, vs, hpv, h3, r3⟩ := lstD_ok hS2 hd ⟨a, hL2, rfl⟩
            cases hpv
            obtain ⟨z, z1, z2, z3⟩ := place_first hj
            exact ⟨a, u, d, ds, j, z, rfl, rfl, .lst (.inl (.inl h3)) (RpA.dp hS2.sub _ _ r3), Rp.dp hS2.sub _ _ r2, hh.1, hh.2, z1, z2, z3, POk.mono (e1.trans e2) h2 _ S2 (Ext.refl S2) hS2 (.int _)⟩
          · exact h2.elim
        · exact h2.elim
      · exact h2.elim
end
end Ped


namespace Ped
open PySem L2 PyProof.Rows PySem.Spec
noncomputable def B_table_of : FS := sRet (fCall kTuple (fCons (fComp (itS (fRg2 (fOp (opI fun i j => some (.int (i - j))) (fC (.int 0)) (fVar 1)) (fOp addW (fVar 1) (fC (.int 1))))) (gVar 2) (fYes) (fCall (callD 2 g_row_shape) (fCons (fVar 0) (fCons (fVar 2) (fNil)))) [2]) (fNil)))
noncomputable def g_table_of (ws : List Wv) (μ : Sto) : Rs Wv := runF 3 B_table_of ws μ
noncomputable abbrev L_classes_of_1 : FS := sCons (sAsg (fCall (callD 2 g_table_of) (fCons (fVar 1) (fCons (fVar 2) (fNil)))) (gVar 5)) (sCons (sIf (fB (fDin true (fVar 5) (fVar 4))) (sCons (sDput (fCall kLen (fCons (fVar 3) (fNil))) (fVar 4) (fVar 5)) (sExpr (fApp (fVar 3) (fLstN (fNil))))) (sNil)) (sExpr (fApp (fOp ixW (fVar 3) (fDget (fVar 4) (fVar 5))) (fVar 1))))
noncomputable def B_classes_of : FS := sCons (sPar3 2 3 4 (fCons (fCall (callD 1 g_span_of) (fCons (fLst (fCons (fVar 0) (fNil))) (fNil))) (fCons (fLstN (fNil)) (fCons (fDictT) (fNil))))) (sCons (sFor (itS (fCall (callD 1 g_orders_of) (fCons (fVar 0) (fNil)))) (gVar 1) (L_classes_of_1)) (frz2 3 (sRet (fVar 3))))
noncomputable def g_classes_of (ws : List Wv) (μ : Sto) : Rs Wv := runF 6 B_classes_of ws μ
noncomputable def B_classes : FS := sCons (sExpr (fCall (callD 1 g_need_lot) (fCons (fVar 0) (fNil)))) (sRet (fCall (callD 1 g_classes_of) (fCons (fVar 0) (fNil))))
noncomputable def g_classes (ws : List Wv) (μ : Sto) : Rs Wv := runF 1 B_classes ws μ
noncomputable def B__law_table : FS := sRet (fCall kTuple (fCons (fComp (itR2 (fNeg (fVar 1)) (fOp addW (fVar 1) (fC (.int 1)))) (gVar 2) (fYes) (fCall (callD 2 g__law_shape) (fCons (fVar 0) (fCons (fVar 2) (fNil)))) [2]) (fNil)))
noncomputable def g__law_table (ws : List Wv) (μ : Sto) : Rs Wv := runF 3 B__law_table ws μ
noncomputable abbrev L_law_5_1 : FS := sCons (sAsg (fCall (callD 2 g__law_table) (fCons (fVar 4) (fCons (fVar 5) (fNil)))) (gVar 8)) (sIf (fB (fOp inLW (fVar 8) (fVar 7))) (sExpr (fApp (fOp ixW (fVar 6) (fIxL (fVar 7) (fVar 8))) (fVar 4))) (sCons (sExpr (fApp (fVar 7) (fVar 8))) (sExpr (fApp (fVar 6) (fLstN (fCons (fVar 4) (fNil)))))))
noncomputable abbrev L_law_5_2 : FS := sCons (sAsg (fCall (callD 2 g__law_bag) (fCons (fVar 0) (fCons (fVar 1) (fNil)))) (gVar 2)) (sCons (sAsg (fCall (callD 2 g__law_lot) (fCons (fVar 2) (fCons (fC (.int 4)) (fNil)))) (gVar 3)) (sCons (sIf (fAnd (fB (fOp (eqW false) (fCall (callD 2 g__law_take) (fCons (fVar 2) (fCons (fC (.int 3)) (fNil)))) (fC (.int 0)))) (fB (fOp (cmpW fun i j => decide (i < j)) (fCall kLen (fCons (fVar 3) (fNil))) (fC (.int 4))))) (sAsg (fOp addW (fVar 3) (fSl (fVar 3) (fO0) (fO1 (fC (.int 1))))) (gVar 3)) (sNil)) (sCons (sPar3 5 6 7 (fCons (fCall (callD 1 g__law_reach) (fCons (fLst (fCons (fVar 3) (fNil))) (fNil))) (fCons (fLstN (fNil)) (fCons (fLstN (fNil)) (fNil))))) (sCons (sFor (itS (fCall (callD 1 g__law_orders) (fCons (fVar 3) (fNil)))) (gVar 4) (L_law_5_1)) (frz2 6 (sIf (fB (fOp (eqW true) (fCall (callD 1 g_classes) (fCons (fVar 3) (fNil))) (fVar 6))) (sRet (fC (.bool false))) (sNil)))))))
noncomputable def B_law_5 : FS := sCons (sFor (itR1 (fCall kMax2 (fCons (fC (.int 2)) (fCons (fCall kMin2 (fCons (fC (.int 5)) (fCons (fOp addW (fCall kLen (fCons (fVar 0) (fNil))) (fC (.int 2))) (fNil)))) (fNil))))) (gVar 1) (L_law_5_2)) (sRet (fC (.bool true)))
noncomputable def g_law_5 (ws : List Wv) (μ : Sto) : Rs Wv := runF 9 B_law_5 ws μ
end Ped

/-! PedGl: a target of names, of a list -/
namespace Ped
open PySem PySem.Spec PyProof.Rows L2
section
variable {X : Cx} {W : WX}
def gLstF (n : Nat) (k : List D → Env → Sto → Rs Env) : FG := fun w env μ => match w with
  | .d (.list ds) => if ds.length = n then k ds env μ else .no
  | _ => .no
#check @pg_lst
theorem cg_lst {es : List Expr} {kk : Nat} {pos : Pos} {n : Nat} {is : List Nat} {k : List D → Env → Sto → Rs Env} (hc : X.calm = true) (h : CGs X es is k) (hn : (assignEach es X.env).length = n := by rfl) (hst : (assignEach es X.env).findIdx? (·.1) = none := by rfl) : CG X (.Tuple es kk pos) is (gLstF n k) := by
  obtain ⟨t, p, q⟩ := h
  refine ⟨_, pg_lst hc p hn hst, fun w v env σ S μ r he hS Q h => ?_⟩
  unfold gLstF at h
  split at h
  · rename_i ds
    split at h
    · rename_i hl
      obtain ⟨a, xs, rfl, ha, ra⟩ := rp_lst_inv r
      exact ⟨a, xs, rfl, .inl (.inl (hS.sub _ _ ha)), by rw [ra.len]; exact hl, q ds xs env σ S μ ra he hS Q h⟩
    · exact h.elim
  · exact h.elim
end
end Ped


namespace Ped
open PySem L2 PyProof.Rows PySem.Spec
noncomputable abbrev L__law_wishes_hold_1 : FS := sCons (sIf (fAnd (fB (fVar 5)) (fAnd (fB (fOp (cmpW fun i j => decide (i < j)) (fVar 2) (fVar 7))) (fB (fOp (cmpW fun i j => decide (j < i)) (fVar 9) (fCall (callD 2 g_shaped) (fCons (fVar 0) (fCons (fVar 7) (fNil)))))))) (sRet (fC (.bool false))) (sNil)) (sIf (fAnd (fB (fVar 6)) (fAnd (fB (fOp (eqW true) (fVar 2) (fVar 7))) (fB (fOp (eqW false) (fVar 9) (fCall (callD 2 g_shaped) (fCons (fVar 0) (fCons (fVar 7) (fNil)))))))) (sRet (fC (.bool false))) (sNil))
noncomputable abbrev L__law_wishes_hold_2 : FS := sCons (sPar 9 10 (fCons (fCall (callD 2 g_shaped) (fCons (fVar 0) (fCons (fVar 2) (fNil)))) (fCons (fCall (callD 2 g_shaped) (fCons (fVar 0) (fCons (fNeg (fVar 2)) (fNil)))) (fNil)))) (sCons (sIf (fOr (fAnd (fB (fVar 3)) (fB (fOp (eqW true) (fVar 10) (fNeg (fVar 9))))) (fAnd (fB (fVar 4)) (fB (fOp (eqW true) (fVar 10) (fVar 9))))) (sRet (fC (.bool false))) (sNil)) (sFor (itS (fVar 1)) (gVar 7) (L__law_wishes_hold_1)))
noncomputable def B__law_wishes_hold : FS := sCons (sAsg (fComp (itS (fLst (fCons (fC (.str "odd")) (fCons (fC (.str "even")) (fCons (fC (.str "rising")) (fCons (fC (.str "whole")) (fNil))))))) (gVar 8) (fYes) (fCall (callD 2 g_keeps) (fCons (fVar 0) (fCons (fVar 8) (fNil)))) [8]) (gLstF 4 (gsCons (gVar 3) (gsCons (gVar 4) (gsCons (gVar 5) (gsCons (gVar 6) (gsNil))))))) (sCons (sIf (fB (fOp (eqW true) (fVar 6) (fOp (isNW false) (fCall (callD 1 g_confused) (fCons (fVar 0) (fNil))) (fC .none)))) (sRet (fC (.bool false))) (sNil)) (sCons (sFor (itS (fVar 1)) (gVar 2) (L__law_wishes_hold_2)) (sRet (fC (.bool true)))))
noncomputable def g__law_wishes_hold (ws : List Wv) (μ : Sto) : Rs Wv := runF 11 B__law_wishes_hold ws μ
noncomputable abbrev L_law_22_1 : FS := sCons (sAsg (fOp addW (fSl (fOp ixW (fVar 3) (fVar 21)) (fO0) (fO1 (fVar 22))) (fSl (fOp ixW (fVar 3) (fVar 21)) (fO1 (fOp addW (fVar 22) (fC (.int 1)))) (fO0))) (gVar 18)) (sCons (sAsg (fOp addW (fOp addW (fSl (fVar 3) (fO0) (fO1 (fVar 21))) (fTup (fCons (fVar 18) (fNil)))) (fSl (fVar 3) (fO1 (fOp addW (fVar 21) (fC (.int 1)))) (fO0))) (gVar 23)) (sCons (sAsg (fCall kMin2 (fCons (fCall kLen (fCons (fCall (callD 2 g_heard) (fCons (fVar 3) (fCons (fVar 14) (fNil)))) (fNil))) (fCons (fCall kLen (fCons (fCall (callD 2 g_heard) (fCons (fVar 23) (fCons (fVar 14) (fNil)))) (fNil))) (fNil)))) (gVar 16)) (sIf (fB (fOp (eqW true) (fSl (fCall (callD 2 g_heard) (fCons (fVar 3) (fCons (fVar 14) (fNil)))) (fO0) (fO1 (fVar 16))) (fSl (fCall (callD 2 g_heard) (fCons (fVar 23) (fCons (fVar 14) (fNil)))) (fO0) (fO1 (fVar 16))))) (sRet (fC (.bool false))) (sNil))))
noncomputable abbrev L_law_22_2 : FS := sCons (sAsg (fCall (callD 2 g__law_numbers) (fCons (fVar 2) (fCons (fC (.int 20)) (fNil)))) (gVar 14)) (sCons (sAsg (fCall kTuple (fCons (fComp (itS (fVar 14)) (gVar 24) (fYes) (fCall kMax2 (fCons (fNeg (fVar 10)) (fCons (fCall kMin2 (fCons (fVar 10) (fCons (fVar 24) (fNil)))) (fNil)))) [24]) (fNil))) (gVar 15)) (sCons (sPar 19 20 (fCons (fCall (callD 2 g_heard) (fCons (fVar 3) (fCons (fVar 14) (fNil)))) (fCons (fCall (callD 2 g_heard) (fCons (fVar 4) (fCons (fVar 14) (fNil)))) (fNil)))) (sCons (sAsg (fCall kMin2 (fCons (fCall kLen (fCons (fVar 19) (fNil))) (fCons (fCall kLen (fCons (fVar 20) (fNil))) (fNil)))) (gVar 16)) (sCons (sIf (fAnd (fB (fVar 11)) (fB (fOp (eqW true) (fSl (fVar 19) (fO0) (fO1 (fVar 16))) (fSl (fVar 20) (fO0) (fO1 (fVar 16)))))) (sRet (fC (.bool false))) (sNil)) (sCons (sIf (fB (fOp (eqW true) (fComp (itS (fCall (callD 2 g_heard) (fCons (fVar 3) (fCons (fVar 15) (fNil))))) (gVar 24) (fB (fOp (cmpW fun i j => decide (j < i)) (fCall kAbs (fCons (fVar 24) (fNil))) (fVar 12))) (fVar 24) [24]) (fLst (fNil)))) (sRet (fC (.bool false))) (sNil)) (sFor (itS (fVar 13)) (gTupF 2 (gsCons (gVar 21) (gsCons (gVar 22) (gsNil)))) (L_law_22_1)))))))
noncomputable abbrev L_law_22_3 : FS := sIf (fB (fOp (eqW true) (fComp (itS (fVar 6)) (gVar 24) (fYes) (fCall (callD 2 g_shaped) (fCons (fVar 17) (fCons (fVar 24) (fNil)))) [24]) (fComp (itS (fVar 6)) (gVar 24) (fYes) (fCall (callD 2 g_shaped) (fCons (fOp ixW (fVar 7) (fC (.int 0))) (fCons (fVar 24) (fNil)))) [24]))) (sRet (fC (.bool false))) (sNil)
noncomputable abbrev L_law_22_4 : FS := sFor (itS (fSl (fVar 7) (fO1 (fC (.int 1))) (fO0))) (gVar 17) (L_law_22_3)
noncomputable abbrev L_law_22_5 : FS := sCons (sAsg (fOp addW (fSl (fOp ixW (fVar 3) (fVar 9)) (fO0) (fO1 (fVar 8))) (fSl (fOp ixW (fVar 3) (fVar 9)) (fO1 (fOp addW (fVar 8) (fC (.int 1)))) (fO0))) (gVar 18)) (sIf (fB (fOp (eqW true) (fComp (itR2 (fNeg (fVar 10)) (fOp addW (fVar 10) (fC (.int 1)))) (gVar 24) (fB (fOp (eqW true) (fCall (callD 2 g_shaped) (fCons (fVar 18) (fCons (fVar 24) (fNil)))) (fCall (callD 2 g_shaped) (fCons (fOp ixW (fVar 3) (fVar 9)) (fCons (fVar 24) (fNil)))))) (fVar 24) [24]) (fLst (fNil)))) (sRet (fC (.bool false))) (sNil))
noncomputable abbrev L_law_22_6 : FS := sCons (sAsg (fCall (callD 2 g__law_bag) (fCons (fVar 0) (fCons (fVar 1) (fNil)))) (gVar 2)) (sCons (sAsg (fCall (callD 2 g__law_board) (fCons (fVar 2) (fCons (fC (.int 4)) (fNil)))) (gVar 3)) (sCons (sAsg (fTup (fCons (fCall (callD 2 g__law_take) (fCons (fVar 2) (fCons (fCall kLen (fCons (fVar 3) (fNil))) (fNil)))) (fCons (fCall (callD 2 g__law_of) (fCons (fVar 2) (fCons (fLst (fCons (fC (.int 3)) (fCons (fC (.int 20)) (fCons (fC (.int 200)) (fNil))))) (fNil)))) (fNil)))) (gTupF 2 (gsCons (gVar 9) (gsCons (gVar 10) (gsNil))))) (sCons (sAsg (fOp addW (fOp addW (fSl (fVar 3) (fO0) (fO1 (fVar 9))) (fTup (fCons (fCall (callD 2 g__law_other) (fCons (fVar 2) (fCons (fOp ixW (fVar 3) (fVar 9)) (fNil)))) (fNil)))) (fSl (fVar 3) (fO1 (fOp addW (fVar 9) (fC (.int 1)))) (fO0))) (gVar 4)) (sCons (sAsg (fTup (fCons (fCall (callD 2 g_alike) (fCons (fVar 3) (fCons (fVar 4) (fNil)))) (fCons (fCall (callD 2 g_loudest) (fCons (fVar 3) (fCons (fVar 10) (fNil)))) (fCons (fSl (fCall (callD 1 g_needless) (fCons (fVar 3) (fNil))) (fO1 (fNeg (fC (.int 1)))) (fO0)) (fNil))))) (gTupF 3 (gsCons (gVar 11) (gsCons (gVar 12) (gsCons (gVar 13) (gsNil)))))) (sCons (sFor (itR1 (fC (.int 6))) (gVar 5) (L_law_22_2)) (sCons (sAsg (fCall (callD 2 g__law_numbers) (fCons (fVar 2) (fCons (fC (.int 12)) (fNil)))) (gVar 6)) (sCons (sFor (itS (fCall (callD 1 g_classes) (fCons (fOp addW (fTup (fCons (fCall (callD 2 g__law_pedal) (fCons (fVar 2) (fCons (fC (.bool false)) (fNil)))) (fNil))) (fCall (callD 3 g__law_pedals) (fCons (fVar 2) (fCons (fC (.int 2)) (fCons (fC (.bool false)) (fNil)))))) (fNil)))) (gVar 7) (L_law_22_4)) (sCons (sIf (fNot (fB (fCall (callD 2 g__law_wishes_hold) (fCons (fOp ixW (fVar 3) (fVar 9)) (fCons (fVar 6) (fNil)))))) (sRet (fC (.bool false))) (sNil)) (sFor (itS (fCall (callD 2 g_idle) (fCons (fOp ixW (fVar 3) (fVar 9)) (fCons (fVar 10) (fNil))))) (gVar 8) (L_law_22_5))))))))))
noncomputable def B_law_22 : FS := sCons (sFor (itR1 (fCall kMax2 (fCons (fC (.int 3)) (fCons (fCall kMin2 (fCons (fC (.int 7)) (fCons (fOp addW (fCall kLen (fCons (fVar 0) (fNil))) (fC (.int 2))) (fNil)))) (fNil))))) (gVar 1) (L_law_22_6)) (sRet (fC (.bool true)))
noncomputable def g_law_22 (ws : List Wv) (μ : Sto) : Rs Wv := runF 25 B_law_22 ws μ
end Ped

/-! PedTry: try with clauses of both kinds (named or not) whose suites return -/
namespace Ped
open PySem L2 PyProof.Rows PySem.Spec
/-- a clause: its class, the slot of its name, its suite's reading (which only returns) -/
abbrev Cl := Value × Option Nat × (Addr → Value → Option Addr → VK → L2.St → Hp → Prop)
def slotA (σ : L2.St) (a : Addr) : Option Nat → L2.St
  | none => σ
  | some i => σ.set i (some (.ref a))
def wMix (K : PySem.W.Frag) (Wout : WX) (R : VK) : List Cl → WX
  | [] => Wout
  | (c, i, ts) :: r => fun cls d σ H => ∃ b, PySem.W.exmOne K cls c = some b ∧ (b = true → ∀ a, H a = none → ts a cls d R (slotA σ a i) H) ∧ (b = false → wMix K Wout R r cls d σ H)
abbrev onlyRt (R : VK) : Ends := { nx := fun _ _ => False, rt := R }
inductive HdsMix (X : Cx) : List ExceptHandler → List Cl → Prop
  | nil : HdsMix X [] []
  | bare {x : Str} {c : Value} {ts : Addr → Value → Option Addr → VK → L2.St → Hp → Prop} {b₀ : Stmt} {su : List Stmt} {np q : Pos} {hds : List ExceptHandler} {l : List Cl} (hc : Names X x c)
      (hsu : ∀ a oe cls d pn, Zc cls d oe → (∃ vs, oe.data = .fields vs) → PSs (X.suite a ((a, oe) :: pn)) (b₀ :: su) fun D σ H => D = onlyRt D.rt ∧ ts a cls d D.rt σ H) (r : HdsMix X hds l) :
      HdsMix X (.ExceptHandler (some (.Name x np)) none (b₀ :: su) q :: hds) ((c, none, ts) :: l)
  | named {x n : Str} {i : Nat} {c : Value} {ts : Addr → Value → Option Addr → VK → L2.St → Hp → Prop} {b₀ : Stmt} {su : List Stmt} {np q : Pos} {hds : List ExceptHandler} {l : List Cl} (hc : Names X x c) (hi : X.N[i]? = some n) (hln : X.env.kindOf n = some .local)
      (hsu : ∀ a oe cls d pn, Zc cls d oe → (∃ vs, oe.data = .fields vs) → PSs (X.suite a ((a, oe) :: pn)) (b₀ :: su) fun D σ H => D = onlyRt D.rt ∧ ts a cls d D.rt σ H) (r : HdsMix X hds l) :
      HdsMix X (.ExceptHandler (some (.Name x np)) (some n) (b₀ :: su) q :: hds) ((c, some i, ts) :: l)
section
variable {X : Cx} {body : List Stmt} {h₀ : ExceptHandler} {hds : List ExceptHandler} {l : List Cl} {pos : Pos} {tb : WX → TS} {Wout : WX}
theorem ps_try_mix (hs : X.stack = X.env :: X.outer) (hf : X.env.frame = some X.env.locals) (hN : X.N.Nodup) (tk : Takes X Wout)
    (hb : ∀ (W : WX) (pn : List (Addr × Obj)) (xe : Value → Shared → Prop), Takes (X.tr pn xe) W → PassesOwn (model X.prog X.w) X.A X.env xe → PSs (X.tr pn xe) body (tb W))
    (hh : HdsMix X (h₀ :: hds) l) : PS X (.Try body (h₀ :: hds) [] [] pos) (fun D σ H => tb (wMix X.K Wout D.rt l) D σ H) := by
  refine ⟨fun pins s σ H D I h => ?_⟩
  have ok := I.ok
  have hfr : X.A.frames = some (X.env :: X.outer) := by rw [ok.frames, hs]
  refine wpAny_Try_except ?_
  refine wpAny_mono ((hb (wMix X.K Wout D.rt l) (X.pn ++ pins) (fun e s₁ => wpAny (model X.prog X.w) X.A (noteFrame e X.env) (fun _ s₂ => wpAny (model X.prog X.w) X.A (setFlight e none) (fun _ s₃ =>
    wpAny (model X.prog X.w) X.A (handleBy e X.env (h₀ :: hds)) (SP X pins D) X.xe s₃) X.xe s₂) X.xe s₁) (fun u s' xx => ?_) PassesOwn.looking).run [] s σ H D (I.toTry _) h) (fun f s1 hsp => ?_) (fun e s1 he => he)
  · obtain ⟨a, B, sI, pins', τ, Hc, cls, d, rfl, J', nb, up, sky, na, os, ag, w⟩ := xx
    have J : Inv X pins τ Hc sI := J'.ofTry ok
    rw [show (X.tr (X.pn ++ pins) _).stack = X.env :: X.outer from hs] at sky
    show wpAny (model X.prog X.w) X.A (noteFrame (.ref a) X.env) _ _ _
    refine Sky.land Zc.steady hfr hf sky fun h3 fl3 up3 => ?_
    have J3 : Inv X pins τ Hc { s' with heap := h3 } := J.landed nb fl3.1 (up.trans up3) os ag
    obtain ⟨oe3, vs3, he3, hz3, hd3⟩ := fl3.there
    have nfr : a ∉ frs (X.env :: X.outer) := fun hm => by
      obtain ⟨_, o', e', hnf⟩ := fl3.2.2.1.mem hm
      rw [he3] at e'; cases e'
      exact hnf _ hd3
    have nL : a ≠ X.env.locals := fun z => nfr (List.mem_filterMap.mpr ⟨X.env, List.mem_cons_self, by rw [hf, z]⟩)
    have nF : a ∉ X.fs := fun hm => by
      obtain ⟨e, he, q⟩ := List.mem_filterMap.mp hm
      exact nfr (List.mem_filterMap.mpr ⟨e, List.mem_cons_of_mem _ he, q⟩)
    have S3 := J3.suite he3 hd3 na nL nF
    have LT : PySem.W.Looks (model X.prog X.w) h3 (typeOf (.ref a)) cls := fun A Q E s k q => wpAny_typeOf_ref (k _ _ he3) (by rw [hz3.1]; exact q)
    have test : ∀ {x : Str} {c : Value} {np : Pos} {Q : Value → Shared → Prop} {E : Value → Shared → Prop}, Names X x c → Q c { s' with heap := h3 } → wpAny (model X.prog X.w) (X.A.mark (some (.ref a))) (eval (.Name x np) X.env) Q E { s' with heap := h3 } := fun {x c np Q E} hc q => by
      obtain ⟨hg, hdbg, hm | ⟨hm, hv, hnn⟩⟩ := hc
      · exact ld_glob (X := X.suite a ((a, oe3) :: (X.pn ++ pins))) S3 hg hm q hdbg
      · exact ld_blt (X := X.suite a ((a, oe3) :: (X.pn ++ pins))) S3 hg hm hv q hnn hdbg
    have go : ∀ {hx : List ExceptHandler} {lx : List Cl}, HdsMix X hx lx → wMix X.K Wout D.rt lx cls d τ Hc →
        wpAny (model X.prog X.w) X.A (handleBy (.ref a) X.env hx) (SP X pins D) X.xe { s' with heap := h3 } := by
      intro hx lx hk
      induction hk with
      | nil =>
        intro w
        refine wpAny_handleBy_nil ?_
        obtain ⟨k1, k2, k3, oe, vs, T, oT, ts', he, hz, hd, h1, hr⟩ := id fl3
        unfold PySem.passOn
        refine wpAny_bind (wpAny_field he hd h1 ?_)
        rw [if_neg (show ¬ ((Value.ref T == Value.none) = true) from by simp)]
        have fin : wpAny (model X.prog X.w) X.A (setFlight (.ref a) X.env.frame) (fun _ s4 => wpAny (model X.prog X.w) X.A (throw (.ref a) : Sem Flow) (SP X pins D) X.xe s4) X.xe { s' with heap := h3 } := by
          rw [hf]
          refine HandSPX.setFlight_upZ fl3 fun h4 hh4 up4 => wpAny_throw (tk _ _ ?_)
          exact ⟨a, B, sI, pins, τ, Hc, cls, d, rfl, J, nb, (up.trans up3).trans up4, .inr (.inr (by rw [hs]; exact hh4)), na, os, ag, w⟩
        first
          | exact wpAny_bind (wpAny_pure (wpAny_bind fin))
          | exact wpAny_bind fin
      | bare hc hsu r ih =>
        intro w
        obtain ⟨b, hb1, hyes, hno⟩ := w
        refine wpAny_handleBy_cons (codeAny_handlers_test ?_) (by intro q; cases q)
        have LM := PySem.W.exm_one (M := model X.prog X.w) (J3.kIn) LT hb1
        refine test hc (LM.here ?_)
        cases b with
        | true =>
          refine codeAny_handlers_suite ?_
          refine HandSPX.lands_againZ fl3 fun h4 fl4 up4 => ?_
          have J4 : Inv X pins τ Hc { s' with heap := h4 } := J.landed nb fl4.1 ((up.trans up3).trans up4) os ag
          obtain ⟨oe4, vs4, he4, hz4, hd4⟩ := fl4.there
          have S4 := J4.suite he4 hd4 na nL nF
          refine wpAny_mono ((hsu a oe4 cls d (X.pn ++ pins) hz4 ⟨_, hd4⟩).run [] _ _ Hc (onlyRt D.rt) S4 ⟨rfl, hyes rfl a na⟩) (fun f s6 hsp => ?_) (fun _ _ z => False.elim z)
          cases f with
          | next => obtain ⟨σ6, H6, S6, q6⟩ := hsp; exact q6.elim
          | brk => obtain ⟨σ6, H6, S6, q6⟩ := hsp; exact q6.elim
          | cont => obtain ⟨σ6, H6, S6, q6⟩ := hsp; exact q6.elim
          | ret u =>
            obtain ⟨v6, σ6, H6, S6, r6, q6⟩ := hsp
            exact ⟨_, _, _, S6.unsuite ok, r6, q6⟩
        | false =>
          show wpAny _ X.A (handleBy (.ref a) X.env _) _ _ _
          exact ih (hno rfl)
      | named hc hi hln hsu r ih =>
        intro w
        obtain ⟨b, hb1, hyes, hno⟩ := w
        refine wpAny_handleBy_cons (codeAny_handlers_test ?_) (by intro q; cases q)
        have LM := PySem.W.exm_one (M := model X.prog X.w) (J3.kIn) LT hb1
        refine test hc (LM.here ?_)
        cases b with
        | true =>
          refine codeAny_handlers_suite_as ?_
          refine HandSPX.lands_againZ fl3 fun h4 fl4 up4 => ?_
          have J4 : Inv X pins τ Hc { s' with heap := h4 } := J.landed nb fl4.1 ((up.trans up3).trans up4) os ag
          obtain ⟨oe4, vs4, he4, hz4, hd4⟩ := fl4.there
          have S4 := J4.suite he4 hd4 na nL nF
          refine store_ok (X := X.suite a ((a, oe4) :: (X.pn ++ pins))) (v := .ref a) S4 hN hi (.inl hln) rfl (fun s5 S5 => ?_) (.inr hln)
          refine wpAny_mono ((hsu a oe4 cls d (X.pn ++ pins) hz4 ⟨_, hd4⟩).run [] s5 _ Hc (onlyRt D.rt) S5 ⟨rfl, hyes rfl a na⟩) (fun f s6 hsp => ?_) (fun _ _ z => False.elim z)
          cases f with
          | next => obtain ⟨σ6, H6, S6, q6⟩ := hsp; exact q6.elim
          | brk => obtain ⟨σ6, H6, S6, q6⟩ := hsp; exact q6.elim
          | cont => obtain ⟨σ6, H6, S6, q6⟩ := hsp; exact q6.elim
          | ret u =>
            obtain ⟨v6, σ6, H6, S6, r6, q6⟩ := hsp
            exact gone_ok (S6.unsuite ok) hN hi hln fun s7 J7 => ⟨_, _, _, J7, r6, q6⟩
        | false =>
          show wpAny _ X.A (handleBy (.ref a) X.env _) _ _ _
          exact ih (hno rfl)
    exact go hh w
  · cases f with
    | next =>
      obtain ⟨τ, Hc, J', q⟩ := hsp
      exact wpAny_execs_nil ⟨τ, Hc, J'.ofTry ok, q⟩
    | brk => obtain ⟨τ, Hc, J', q⟩ := hsp; exact ⟨τ, Hc, J'.ofTry ok, q⟩
    | cont => obtain ⟨τ, Hc, J', q⟩ := hsp; exact ⟨τ, Hc, J'.ofTry ok, q⟩
    | ret u => obtain ⟨v, τ, Hc, J', r, q⟩ := hsp; exact ⟨v, τ, Hc, J'.ofTry ok, r, q⟩
end
end Ped

/-! PedEx: defs that raise, raise, try -/
namespace Ped
open PySem L2 PyProof.Rows PySem.Spec
/-- an exception that leaves a def; the things made there are forgotten -/
noncomputable def handEx (μ : Sto) (x : Exn) (μ' : Sto) : Rs Wv := if (x.fs.all fun p => closedW μ.length p.2) = true then (match trim μ μ' with | some ν => .ex x ν | none => .no) else .no
noncomputable def runX (m : Nat) (F : FS) (ws : List Wv) (μ : Sto) : Rs Wv := match F (startE m ws) μ with
  | .ok fl μ' => handBack μ fl μ'
  | .ex x μ' => handEx μ x μ'
  | .no => .no
theorem kv_cut {K : PySem.W.Frag} {S T : Sta} {n : Nat} (hF : T.F = S.F) (hL : ∀ k a, k < n → S.L[k]? = some a → T.L[k]? = some a) : ∀ {vs : List (Str × V)} {ws : List (Str × Wv)}, RKv K S vs ws → (ws.all fun p => closedW n p.2) = true → RKv K T vs ws
  | _, _, .nil, _ => .nil
  | _, (k, w) :: _, .cons r t, h => by
    rw [List.all_cons, Bool.and_eq_true] at h
    refine .cons ⟨r.1, ?_⟩ (kv_cut hF hL t h.2)
    cases w with
    | d x => show Rp K T.F _ x; rw [hF]; exact r.2
    | s x => obtain ⟨a, h1, h2⟩ := r.2; exact ⟨a, by rw [show SqL K T.F a _ = SqL K S.F a _ by rw [hF]]; exact h1, h2⟩
    | e C fs => show RE K T.F _ C fs; rw [hF]; exact r.2
    | l m => obtain ⟨a, h1, h2⟩ := r.2; exact ⟨a, hL m a (of_decide_eq_true h.1) h1, h2⟩
section
variable {P : Program} {w : World} {K : PySem.W.Frag} {mg : Str → Option Value} {base : Heap}
theorem handEx_ok {S : Sta} {μ : Sto} {n : Nat} {Pk : Wv → Sto → Prop} {E : XK} (hS : HS K S μ) {x : Exn} {μ' : Sto} (h : (handEx μ x μ').Post Pk (fun x μ' => ∀ d S', Ext S S' → HS K S' μ' → ExR K S' x d → E (clsV K x.cls) d S'.H)) :
    PExS K (fun cls d _ H => E cls d H) n S x μ' := by
  intro d σ S' _ e hS' r
  unfold handEx at h
  split at h
  · rename_i hc
    cases ht : trim μ μ' with
    | none => rw [ht] at h; exact h.elim
    | some ν =>
      rw [ht] at h
      obtain ⟨S'', e'', hS'', hH, hF, hL⟩ := trim_ok hS e hS' ht
      show E _ d S'.H
      rw [← hH]
      refine h d S'' e'' hS'' ?_
      cases d with
      | none => exact r
      | some a =>
        obtain ⟨vs, h1, h2⟩ := r
        exact ⟨vs, by rw [hH]; exact h1, kv_cut hF hL h2 hc⟩
  · exact h.elim
/-- a def that may raise, by its body's combinators -/
theorem ok_defX {x qual : Str} {st : Stmt} {f : Addr} {fd : FuncData} {N ps : List Str} {k : Nat} {g : List Wv → Sto → Rs Wv} {B : FS} (F : Fun K x qual st f fd) (S : FnScope N ps (defScope st))
    (hb : ∀ (cdv : Value) (A : Around) (outer : List PySem.Env) (s : Shared) (H : Hp) (E : XK), Room k (A.deeper (envOfC qual (defScope st) s.heap.objs.size f cdv)) →
      Takes (cxOf (L2.CX P w) P w K mg base N qual (defScope st) f cdv A outer s H E) (fun cls d _ H => E cls d H) → PassesOwn (model P w) (cxOf (L2.CX P w) P w K mg base N qual (defScope st) f cdv A outer s H E).A (cxOf (L2.CX P w) P w K mg base N qual (defScope st) f cdv A outer s H E).env (cxOf (L2.CX P w) P w K mg base N qual (defScope st) f cdv A outer s H E).xe →
      CB (cxOf (L2.CX P w) P w K mg base N qual (defScope st) f cdv A outer s H E) (fun cls d _ H => E cls d H) (defBody st) B)
    (hg : ∀ ws μ, ws.length = ps.length → g ws μ = .no ∨ g ws μ = runX N.length B ws μ) : FnOk P w K mg base (L2.CX P w) (k + 1) f fd ps (spD K ps.length g) := by
  refine F.okX S (fun vs H Q E h => h.1) (fun cdv A outer s H vs Q E hr h => ?_)
  obtain ⟨hl, ws, T, μ, rfl, hS, r, hp⟩ := h
  obtain ⟨t, p, q⟩ := hb cdv A outer s T.H E hr (takes_of rfl rfl rfl rfl) (passes_of rfl)
  have hpl : ps.length ≤ N.length := by have := congrArg List.length S.pre; rw [List.length_take] at this; omega
  refine ⟨t, p, q (startE N.length ws) (L2.start N vs) T μ (start_env (N := N) r (by rw [hl]; exact hpl)) hS _ ?_⟩
  rcases hg ws μ (by rw [← rws_len r]; exact hl) with e | e
  · rw [e] at hp
    exact hp.elim
  · rw [e] at hp
    unfold runX at hp
    cases hB : B (startE N.length ws) μ with
    | no => rw [hB] at hp; exact hp.elim
    | ok fl μ' => rw [hB] at hp; exact hand_ok hS hp
    | ex x μ' => rw [hB] at hp; exact handEx_ok hS hp
/-- the def x promises g, and may raise -/
def OkAtX (P : Program) (w : World) (K : PySem.W.Frag) (mg : Str → Option Value) (base : Heap) (k : Nat) (x : Str) (ps : List Str) (n : Nat) (g : List Wv → Sto → Rs Wv) : Prop :=
  ∃ f fd, mg x = some (.ref f) ∧ PySem.W.keepIn K (.ref f) = true ∧ Binds K fd ps [] ∧ FnOk P w K mg base (L2.CX P w) k f fd ps (spD K n g)
theorem okAtX_mk {x : Str} {st : Stmt} {N ps : List Str} {k : Nat} {g : List Wv → Sto → Rs Wv} {B : FS} (F : DefAt K mg x st ps) (S : FnScope N ps (defScope st))
    (hb : ∀ (f : Addr) (cdv : Value) (A : Around) (outer : List PySem.Env) (s : Shared) (H : Hp) (E : XK), Room k (A.deeper (envOfC x (defScope st) s.heap.objs.size f cdv)) →
      Takes (cxOf (L2.CX P w) P w K mg base N x (defScope st) f cdv A outer s H E) (fun cls d _ H => E cls d H) → PassesOwn (model P w) (cxOf (L2.CX P w) P w K mg base N x (defScope st) f cdv A outer s H E).A (cxOf (L2.CX P w) P w K mg base N x (defScope st) f cdv A outer s H E).env (cxOf (L2.CX P w) P w K mg base N x (defScope st) f cdv A outer s H E).xe →
      CB (cxOf (L2.CX P w) P w K mg base N x (defScope st) f cdv A outer s H E) (fun cls d _ H => E cls d H) (defBody st) B)
    (hg : ∀ ws μ, ws.length = ps.length → g ws μ = .no ∨ g ws μ = runX N.length B ws μ) : OkAtX P w K mg base (k + 1) x ps ps.length g := by
  obtain ⟨f, fd, h1, h2, h3⟩ := F
  exact ⟨f, fd, h1, h2.kp, h3, ok_defX h2 S (fun cdv A outer s H E => hb f cdv A outer s H E) hg⟩
end
/-- what a call of such a def does -/
def callX (n : Nat) (g : List Wv → Sto → Rs Wv) (ws : List Wv) (μ : Sto) : Rs Wv := if ws.length = n then g ws μ else .no
section
variable {X : Cx} {W : WX}
theorem c_fnX {k n : Nat} {ps : List Str} {g : List Wv → Sto → Rs Wv} {x : Str} {p pos : Pos} {e : Expr} {es : List Expr} {a : FA} (G : OkAtX X.prog X.w X.K X.mg X.base k x ps n g) (tk : Takes X W) (hr : Room k X.A) (hg : Gl X x)
    (ha : CA X W (e :: es) a) (hdb : (x == ("__debug__" : Str)) = false := by decide) (he : starEach (e :: es) X.env = (false, eval e X.env) :: starEach es X.env := by rfl) (hpl : (backTo pos (starEach es X.env)).any (·.1) = false := by rfl) :
    CEx X W (.Call (.Name x p) (e :: es) [] pos) (fCall (callX n g) a) := by
  obtain ⟨f, fd, h1, h2, h3, h4⟩ := G
  obtain ⟨t, pa, q⟩ := ha
  refine ⟨_, pe_callS (E := L2.WE W) h4 hr hg h1 h2 h3 (passAt tk) pa hdb he hpl, fun env σ S μ hE hS Q h => ?_⟩
  unfold fCall at h
  rw [Rs.post_bind] at h
  refine q env σ S μ hE hS _ (h.mono (fun ws μ1 hp vs S1 e1 hS1 r1 => ?_) fun _ _ z => z)
  unfold callX at hp
  by_cases hl : ws.length = n
  · rw [if_pos hl] at hp
    exact ⟨by rw [rws_len r1]; exact hl, ws, S1, μ1, rfl, hS1, r1, hp.mono (fun a ν z => POk.mono (Q := Q) e1 z) fun _ _ z => z.mono e1⟩
  · rw [if_neg hl] at hp
    exact hp.elim
/-! ### raise -/
def CMk (X : Cx) (W : WX) (e : Expr) (f : Env → Sto → Rs Exn) : Prop := ∃ t, PMk X e t ∧ ∀ env σ S μ, EnvR X.K X.N.length S env σ → HS X.K S μ → ∀ Q : XK,
  (f env μ).Post (fun x μ' => ∀ d S', Ext S S' → HS X.K S' μ' → ExR X.K S' x d → Q (clsV X.K x.cls) d S'.H) (PEx X.K W σ S) → t σ S.H Q
def sRaise (f : Env → Sto → Rs Exn) : FS := fun env μ => (f env μ).bind fun x μ1 => .ex x μ1
theorem cs_raise {e : Expr} {f : Env → Sto → Rs Exn} {pos : Pos} (hc : X.calm = true) (tk : Takes X W) (h : CMk X W e f) : CS X W (.Raise (some e) none pos) (sRaise f) := by
  obtain ⟨t, p, q⟩ := h
  refine ⟨_, ps_raise hc tk p, fun env σ S μ he hS D h => ?_⟩
  unfold sRaise at h
  rw [Rs.post_bind] at h
  exact q env σ S μ he hS _ (h.mono (fun x μ1 h1 d S1 e1 hS1 r1 => h1 d σ S1 he.lenS e1 hS1 r1) fun _ _ z => z.at he.lenS)
/-- an own class of error without own __init__ -/
structure OwnE (K : PySem.W.Frag) (mg : Str → Option Value) (x : Str) (C : Addr) : Prop where
  g : mg x = some (.ref C)
  v : clsV K x = .ref C
  q : PySem.W.excIn K C [.type "ValueError", .type "Exception", .type "BaseException", .type "object"] "ValueError.__new__" = true
  k : PySem.W.keepIn K (.ref C) = true
  s : PySem.W.subIn K (.ref C) (.type "BaseException") = some true
  t : PySem.W.typeIn K (.ref C) = some (.type "type")
def fMk0 (x : Str) : Env → Sto → Rs Exn := fun _ μ => .ok ⟨x, []⟩ μ
theorem cmk_own {x m : Str} {C : Addr} {j : Nat} {p p2 pos : Pos} {bm : List Value} (F : ExcBaseFacts "ValueError" "ValueError.__new__" "ValueError.__init__" bm) (hb : bm = [.type "ValueError", .type "Exception", .type "BaseException", .type "object"]) (o : OwnE X.K X.mg x C) (hg : Gl X x) (hdb : (x == ("__debug__" : Str)) = false := by decide) :
    CMk X W (.Call (.Name x p) [.Constant (.str m) j p2] [] pos) (fMk0 x) := by
  subst hb
  refine ⟨_, pmk_own F o.q o.g o.k (raises_own o.s o.t) hg hdb, fun env σ S μ he hS Q h => ?_⟩
  have h : ∀ d S', Ext S S' → HS X.K S' μ → ExR X.K S' ⟨x, []⟩ d → Q (clsV X.K x) d S'.H := h
  have := h none S (Ext.refl S) hS rfl
  rw [o.v] at this
  exact this
/-! ### try -/
def pick (sub : Str → Str → Option Bool) : List (Str × (Exn → Sto → Rs Wv)) → Exn → Sto → Rs Wv
  | [], x, μ => .ex x μ
  | (c, h) :: r, x, μ => match sub x.cls c with
    | some true => noex (h x μ)
    | some false => pick sub r x μ
    | none => .no
def sTry (b : FS) (hs : Exn → Sto → Rs Wv) : FS := fun env μ => match b env μ with
  | .ok fl μ' => .ok fl μ'
  | .ex x μ' => (hs x μ').bind fun w μ2 => .ok (.rt w) μ2
  | .no => .no
def canS (K : PySem.W.Frag) (n : Nat) (f : FS) (W : WX) : TS := fun D σ H => ∃ env S μ, S.H = H ∧ EnvR K n S env σ ∧ HS K S μ ∧ (f env μ).Post (EndOk K n D S) (PExS K W n S)
theorem CB.can {b : List Stmt} {f : FS} (h : CB X W b f) : PSs X b (canS X.K X.N.length f W) := by
  obtain ⟨t, p, q⟩ := h
  exact ⟨fun pins s σ H D I hw => by
    obtain ⟨env, S, μ, rfl, he, hS, hp⟩ := hw
    exact p.run pins s σ S.H D I (q env σ S μ he hS D hp)⟩
/-- a suite's reading -/
def canSu (K : PySem.W.Frag) (n : Nat) (h : Exn → Sto → Rs Wv) (i : Option Nat) : Addr → Value → Option Addr → VK → L2.St → Hp → Prop := fun a cls d R σ H => ∃ x S μ, S.H = H ∧ clsV K x.cls = cls ∧ ExR K S x d ∧ σ.length = n ∧ HS K S μ ∧ (∀ j, i = some j → σ[j]? = some (some (.ref a))) ∧
  (h x μ).Post (POk K S R) (fun _ _ => False)
def CSu (X : Cx) (su : List Stmt) (h : Exn → Sto → Rs Wv) (i : Option Nat) : Prop := ∀ a oe cls d pn, Zc cls d oe → (∃ vs, oe.data = .fields vs) → PSs (X.suite a ((a, oe) :: pn)) su fun D σ H => D = onlyRt D.rt ∧ canSu X.K X.N.length h i a cls d D.rt σ H
/-- the clauses -/
inductive CHs (X : Cx) : List ExceptHandler → List (Str × (Exn → Sto → Rs Wv)) → Prop
  | nil : CHs X [] []
  | bare {x : Str} {h : Exn → Sto → Rs Wv} {b₀ : Stmt} {su : List Stmt} {np q : Pos} {hds : List ExceptHandler} {l : List (Str × (Exn → Sto → Rs Wv))} (hc : Names X x (clsV X.K x)) (hsu : CSu X (b₀ :: su) h none) (r : CHs X hds l) :
      CHs X (.ExceptHandler (some (.Name x np)) none (b₀ :: su) q :: hds) ((x, h) :: l)
  | named {x n : Str} (i : Nat) {h : Exn → Sto → Rs Wv} {b₀ : Stmt} {su : List Stmt} {np q : Pos} {hds : List ExceptHandler} {l : List (Str × (Exn → Sto → Rs Wv))} (hc : Names X x (clsV X.K x)) (hi : X.N[i]? = some n) (hln : X.env.kindOf n = some .local) (hsu : CSu X (b₀ :: su) h (some i)) (r : CHs X hds l) :
      CHs X (.ExceptHandler (some (.Name x np)) (some n) (b₀ :: su) q :: hds) ((x, h) :: l)
theorem CHs.mix {sub : Str → Str → Option Bool} (hsub : ∀ x c b, sub x c = some b → PySem.W.exmOne X.K (clsV X.K x) (clsV X.K c) = some b) {hds : List ExceptHandler} {l : List (Str × (Exn → Sto → Rs Wv))} (h : CHs X hds l) : ∃ cl, HdsMix X hds cl ∧
    ∀ (D : Ends) (S : Sta) (x : Exn) (μ : Sto), ((pick sub l x μ).bind fun w μ2 => (.ok (.rt w) μ2 : Rs Fl)).Post (EndOk X.K X.N.length D S) (PExS X.K W X.N.length S) → PExS X.K (wMix X.K W D.rt cl) X.N.length S x μ := by
  induction h with
  | nil => exact ⟨[], .nil, fun D S x μ hp => hp⟩
  | @bare x h b₀ su np q hds l hc hsu r ih =>
    obtain ⟨cl, h1, h2⟩ := ih
    refine ⟨_, .bare hc hsu h1, fun D S e μ hp d σ S' hl ex hS' hr => ?_⟩
    unfold pick at hp
    cases hs : sub e.cls x with
    | none => rw [hs] at hp; exact hp.elim
    | some b =>
      rw [hs] at hp
      refine ⟨b, hsub _ _ _ hs, fun eb a na => ?_, fun eb => ?_⟩
      · subst eb
        rw [Rs.post_bind] at hp
        refine ⟨e, S', μ, rfl, rfl, hr, hl, hS', (fun _ z => by cases z), noex_post ((show (noex (h e μ)).Post _ _ from hp).mono (fun w μ2 z => ?_) fun _ _ z => z)⟩
        exact fun v T e2 => z v T (ex.trans e2)
      · subst eb
        exact h2 D S e μ hp d σ S' hl ex hS' hr
  | @named x n i h b₀ su np q hds l hc hi hln hsu r ih =>
    obtain ⟨cl, h1, h2⟩ := ih
    refine ⟨_, .named hc hi hln hsu h1, fun D S e μ hp d σ S' hl ex hS' hr => ?_⟩
    unfold pick at hp
    cases hs : sub e.cls x with
    | none => rw [hs] at hp; exact hp.elim
    | some b =>
      rw [hs] at hp
      refine ⟨b, hsub _ _ _ hs, fun eb a na => ?_, fun eb => ?_⟩
      · subst eb
        rw [Rs.post_bind] at hp
        refine ⟨e, S', μ, rfl, rfl, hr, ?_, hS', (fun j z => ?_), noex_post ((show (noex (h e μ)).Post _ _ from hp).mono (fun w μ2 z => ?_) fun _ _ z => z)⟩
        · show (σ.set i _).length = _
          rw [List.length_set]; exact hl
        · cases z
          show (σ.set i (some (.ref a)))[i]? = _
          rw [List.getElem?_set_self]
          rw [hl]
          exact (List.getElem?_eq_some_iff.mp hi).1
        · exact fun v T e2 => z v T (ex.trans e2)
      · subst eb
        exact h2 D S e μ hp d σ S' hl ex hS' hr
theorem cs_try {body : List Stmt} {h₀ : ExceptHandler} {hds : List ExceptHandler} {l : List (Str × (Exn → Sto → Rs Wv))} {sub : Str → Str → Option Bool} {b : FS} {pos : Pos} (hs : X.stack = X.env :: X.outer) (hf : X.env.frame = some X.env.locals) (hN : X.N.Nodup) (tk : Takes X W)
    (hsub : ∀ x c b, sub x c = some b → PySem.W.exmOne X.K (clsV X.K x) (clsV X.K c) = some b)
    (hb : ∀ (W : WX) (pn : List (Addr × Obj)) (xe : Value → Shared → Prop), Takes (X.tr pn xe) W → PassesOwn (model X.prog X.w) X.A X.env xe → CB (X.tr pn xe) W body b)
    (hh : CHs X (h₀ :: hds) l) : CS X W (.Try body (h₀ :: hds) [] [] pos) (sTry b (pick sub l)) := by
  obtain ⟨cl, h1, h2⟩ := hh.mix (W := W) hsub
  refine ⟨_, ps_try_mix hs hf hN tk (tb := canS X.K X.N.length b) (fun W' pn xe t p => (hb W' pn xe t p).can) h1, fun env σ S μ he hS D h => ?_⟩
  refine ⟨env, S, μ, rfl, he, hS, ?_⟩
  unfold sTry at h
  cases hB : b env μ with
  | no => rw [hB] at h; exact h.elim
  | ok fl μ' => rw [hB] at h; exact h
  | ex x μ' => rw [hB] at h; exact h2 D S x μ' h
/-! ### suites -/
theorem env0 {K : PySem.W.Frag} {n : Nat} {S : Sta} {σ : L2.St} (h : σ.length = n) : EnvR K n S (List.replicate n none) σ :=
  ⟨List.length_replicate, h, fun i w e => by rw [List.getElem?_replicate] at e; split at e <;> cases e⟩
/-- return e, e without the exception -/
theorem csu_ret {e : Expr} {f : FE} {pos : Pos} {i : Option Nat} (h : ∀ a oe pn, CEx (X.suite a ((a, oe) :: pn)) W0 e f) : CSu X [.Return (some e) pos] (fun _ μ => f (List.replicate X.N.length none) μ) i := by
  intro a oe cls d pn _ _
  obtain ⟨t, p, q⟩ := h a oe pn
  refine ⟨fun pins s σ H D I hw => ?_⟩
  obtain ⟨hD, x, S, μ, rfl, _, _, hl, hS, _, hp⟩ := hw
  exact (pss_one (ps_ret p)).run pins s σ S.H D I (q _ σ S μ (env0 hl) hS _ (hp.mono (fun _ _ z => z) fun _ _ z => z.elim))
/-- the field f of the exception -/
def xfld (f : Str) (k : Wv → Sto → Rs Wv) : Exn → Sto → Rs Wv := fun x μ => match x.fs.lookup f with
  | some w => k w μ
  | none => .no
theorem rkv_look {κ : Type} [BEq κ] [LawfulBEq κ] {K : PySem.W.Frag} {S : Sta} {f : κ} : ∀ {vs : List (κ × V)} {ws : List (κ × Wv)} {w : Wv}, RKv K S vs ws → ws.lookup f = some w → ∃ v, vs.lookup f = some v ∧ RW K S v w
  | _, _, _, .nil, h => by cases h
  | (k, v) :: _, (k', w') :: _, w, .cons r t, h => by
    obtain ⟨rfl, r2⟩ := r
    rw [List.lookup_cons] at h ⊢
    by_cases e : (f == k) = true
    · rw [e] at h ⊢
      cases h
      exact ⟨v, rfl, r2⟩
    · have e : (f == k) = false := by simpa using e
      rw [e] at h ⊢
      exact rkv_look t h
/-- the class of a caught error whose field is read -/
structure FldE (K : PySem.W.Frag) (c f : Str) (C : Addr) : Prop where
  v : clsV K c = .ref C
  x : XfC K C
  n : PySem.W.findIn K (.ref C) f = some none
/-- n.f in the suite, by values -/
theorem xf_core {n f : Str} {i : Nat} {a C : Addr} {oe : Obj} {cls : Value} {d : Option Addr} {pn : List (Addr × Obj)} {p q : Pos} {c : Str} (fe : FldE X.K c f C) (hi : X.N[i]? = some n) (hv : Vis X.env.scope n) (hz : Zc cls d oe) (hd : ∃ vs, oe.data = .fields vs) (hdb : (n == ("__debug__" : Str)) = false := by decide) (hcd : (n == ("__classdict__" : Str)) = false := by decide)
    (hb : attributeBase (.Name n p) f X.env (eval (.Name n p) X.env) = eval (.Name n p) X.env := by rfl) :
    ∃ t, PE (X.suite a ((a, oe) :: pn)) (.Attribute (.Name n p) f q) t ∧ ∀ x S σ w, clsV X.K x.cls = cls → x.cls = c → ExR X.K S x d → σ[i]? = some (some (.ref a)) → x.fs.lookup f = some w → ∀ Q : VK, (∀ v, RW X.K S v w → Q v S.H) → t σ S.H Q := by
  refine ⟨_, pe_xf fe.x fe.n hz hd (pe_var (i := i) hi hv hdb hcd) hb, fun x S σ w hc hc2 hr hs hl Q hq => ?_⟩
  subst hc2
  have hcl : cls = .ref C := hc.symm.trans fe.v
  cases d with
  | none => rw [show x.fs = [] from hr] at hl; cases hl
  | some dd =>
    obtain ⟨vs, h1, h2⟩ := hr
    obtain ⟨v, h3, h4⟩ := rkv_look h2 hl
    exact ⟨.ref a, hs, rfl, hcl, dd, vs, v, rfl, h1, h3, hq v h4⟩
/-- return n.f -/
theorem csu_fld {n f c : Str} {i : Nat} {C : Addr} {p q pos : Pos} (fe : FldE X.K c f C) (hi : X.N[i]? = some n) (hv : Vis X.env.scope n) (hdb : (n == ("__debug__" : Str)) = false := by decide) (hcd : (n == ("__classdict__" : Str)) = false := by decide)
    (hb : attributeBase (.Name n p) f X.env (eval (.Name n p) X.env) = eval (.Name n p) X.env := by rfl) : CSu X [.Return (some (.Attribute (.Name n p) f q)) pos] (fun x μ => if x.cls = c then xfld f (fun w μ => .ok w μ) x μ else .no) (some i) := by
  intro a oe cls d pn hz hd
  obtain ⟨t, pe, qe⟩ := xf_core (a := a) (pn := pn) (q := q) fe hi hv hz hd hdb hcd hb
  refine ⟨fun pins s σ H D I hw => ?_⟩
  obtain ⟨hD, x, S, μ, rfl, hc, hr, hl, hS, hs, hp⟩ := hw
  refine (pss_one (ps_ret pe)).run pins s σ S.H D I ?_
  by_cases hcc : x.cls = c
  · have hp : (xfld f (fun w μ => .ok w μ) x μ).Post (POk X.K S D.rt) (fun _ _ => False) := by
      have z := hp
      simp only [if_pos hcc] at z
      exact z
    unfold xfld at hp
    cases hlk : x.fs.lookup f with
    | none => rw [hlk] at hp; exact hp.elim
    | some w =>
      rw [hlk] at hp
      exact qe x S σ w hc hcc hr (hs i rfl) hlk _ fun v rv => hp v S (Ext.refl S) hS rv
  · simp only [if_neg hcc] at hp
    exact hp.elim
end
end Ped
namespace Ped
open PySem L2 PyProof.Rows PySem.Spec
section
variable {X : Cx} {W : WX}
/-- a call of a def that may raise, where it raises nothing -/
theorem c_fnX0 {k n : Nat} {ps : List Str} {g : List Wv → Sto → Rs Wv} {x : Str} {p pos : Pos} {e : Expr} {es : List Expr} {a : FA} (G : OkAtX X.prog X.w X.K X.mg X.base k x ps n g) (hr : Room k X.A) (hg : Gl X x)
    (ha : CA X W (e :: es) a) (hdb : (x == ("__debug__" : Str)) = false := by decide) (he : starEach (e :: es) X.env = (false, eval e X.env) :: starEach es X.env := by rfl) (hpl : (backTo pos (starEach es X.env)).any (·.1) = false := by rfl) :
    CEx X W (.Call (.Name x p) (e :: es) [] pos) (fCall (callD n g) a) := by
  obtain ⟨f, fd, h1, h2, h3, h4⟩ := G
  obtain ⟨t, pa, q⟩ := ha
  refine ⟨_, pe_call (E := E0) h4 hr hg h1 h2 h3 .nil passL pa hdb he hpl, fun env σ S μ hE hS Q h => ?_⟩
  unfold fCall at h
  rw [Rs.post_bind] at h
  refine q env σ S μ hE hS _ (h.mono (fun ws μ1 hp vs S1 e1 hS1 r1 => ?_) fun _ _ z => z)
  unfold callD at hp
  by_cases hl : ws.length = n
  · rw [if_pos hl] at hp
    rw [List.append_nil]
    refine ⟨by rw [rws_len r1]; exact hl, ws, S1, μ1, rfl, hS1, r1, ?_⟩
    cases hg : g ws μ1 with
    | no => rw [hg] at hp; exact hp.elim
    | ex x ν => rw [hg] at hp; exact hp.elim
    | ok w ν => rw [hg] at hp; exact POk.mono (Q := Q) e1 hp
  · rw [if_neg hl] at hp
    exact hp.elim
end
/-- which class is under which -/
def subL (cs hs : List Str) (x c : Str) : Option Bool := if x ∈ cs ∧ c ∈ hs then some (x == c || c == "PedalError") else none
theorem subL_mk {K : PySem.W.Frag} {cs hs : List Str} (h : ∀ x ∈ cs, ∀ c ∈ hs, PySem.W.exmOne K (clsV K x) (clsV K c) = some (x == c || c == "PedalError")) (x c : Str) (b : Bool) (e : subL cs hs x c = some b) : PySem.W.exmOne K (clsV K x) (clsV K c) = some b := by
  unfold subL at e
  split at e
  · rename_i hm
    cases e
    exact h x hm.1 c hm.2
  · cases e
theorem clsV_mk {K : PySem.W.Frag} {x : Str} {C : Addr} (y : PySem.W.nsIn K mainGlobals x = some (some (.ref C))) : clsV K x = .ref C := by
  unfold clsV
  rw [y]
theorem clsV_mg {K : PySem.W.Frag} {h : Heap} {mg : Str → Option Value} (X : K.In h) (G : h.Ns mainGlobals mg) {x : Str} {C : Addr} (y : PySem.W.nsIn K mainGlobals x = some (some (.ref C))) : mg x = some (clsV K x) := by
  rw [clsV_mk y]
  exact PySem.W.mg_of X G y
theorem exm_mk {K : PySem.W.Frag} {x c : Str} {A C : Addr} {b : Bool} (hx : clsV K x = .ref A) (hc : clsV K c = .ref C) (h1 : PySem.W.subIn K (.ref C) (.type "BaseException") = some true) (hd : PySem.W.hasDictIn K C = true) (ht : PySem.W.typeIn K (.ref C) = some (.type "type")) (h4 : PySem.W.subIn K (.ref A) (.ref C) = some b) :
    PySem.W.exmOne K (clsV K x) (clsV K c) = some b := by
  rw [hx, hc]
  have hi : (PySem.W.clsIn K C).isSome = true := by
    unfold PySem.W.hasDictIn at hd
    cases e : PySem.W.clsIn K C with
    | none => rw [e] at hd; cases hd
    | some cd => rfl
  have e1 : (PySem.W.subIn K (.ref C) (.type "BaseException") == some true) = true := by rw [h1] <;> rfl
  have e2 : ((PySem.W.clsIn K C).isSome && PySem.W.typeIn K (.ref C) == some (.type "type")) = true := by rw [hi, ht] <;> rfl
  show (if (PySem.W.subIn K (.ref C) (.type "BaseException") == some true) = true then (if ((PySem.W.clsIn K C).isSome && PySem.W.typeIn K (.ref C) == some (.type "type")) = true then PySem.W.subIn K (.ref A) (.ref C) else none) else none) = some b
  rw [if_pos e1, if_pos e2]
  exact h4
end Ped

/-! PedSup: an own error over another own one, whose __init__ says super().__init__('..') and stores its argument -/
namespace Ped
open PySem PySem.W PySem.Calls PyProof.Rows PySem.HandSPX
theorem one_le (v : Value) : [v].length ≤ sizeLine := by
  rw [sizeLine_eq]
  exact (by decide : 1 ≤ 16777216)
theorem ldN {M : Model} {s : Shared} {env : PySem.Env} {m : Str → Option Value} {x : Str} {pos : Pos} {v : Value} {Q : Value → Shared → Prop} {A : Around} {E : Value → Shared → Prop} (hn : s.heap.Ns env.locals m) (hv : m x = some v) (h : Q v s)
    (hk : env.scope.kind = .function) (hl : env.kindOf x = some .local) (hd : (x == ("__debug__" : Str)) = false) : wpAny M A (eval (.Name x pos) env) Q E s := wpAny_Name (wpAny_loadName_local hk hl hn hv h) hd
/-- the wrapper of ValueError.__init__ called -/
theorem call_mwV {prog : Program} {w : World} {A : Around} {E : Value → Shared → Prop} {h : Heap} {g : Array GenState} {d : Drawn} {t : Nat} {os : OsState} {nm q : Str} {C N : Addr} {bs bm : List Value} {hdct : Bool} {sn : List Str} {sub : List Value} {ab : Bool} {col : Option Bool} {dd : Option Addr} {k0 k1 k2 k3 k5 : Option Value}
    {u e t0 : Addr} {rest : List Value} {Q : Value → Shared → Prop} (hC : h.get? C = some (excClassObj nm q C N bs bm hdct sn sub ab col dd k0 k1 k2 k3 k5 "ValueError.__new__")) (he : h.get? e = some (excO C t0)) (hu : h.get? u = some (kxs_mw "ValueError.__init__" e)) (hz : rest.length ≤ sizeLine)
    (hq : ∀ h' t1, (∀ b o, b ≠ e → h.get? b = some o → h'.get? b = some o) → h'.get? e = some (excO C t1) → Q .none ⟨h', g, d, t, os⟩) :
    wpAny (model prog w) A (call (.ref u) rest) Q E ⟨h, g, d, t, os⟩ := by
  have FB := F.excBase_ValueError
  refine wpAny_call (codeAny_of_tree ?_)
  show wpAny _ A.in1 (callAny (.ref u) ⟨rest, []⟩) _ _ _
  simp only [callAny]
  refine wpAny_bind (wpAny_load hu ?_)
  simp only [kxs_mw, show (Value.type "method-wrapper" == Value.type "method" || Value.type "method-wrapper" == Value.type "builtin_function_or_method" || Value.type "method-wrapper" == Value.type "method-wrapper") = true by decide, if_true]
  refine KFB.if_so (by decide) ?_
  refine wpAny_bind (check_bound_init FB.toExcCallFacts hC he rfl ?_)
  refine wpAny_bind (wpAny_pure (wpAny_pure ?_))
  refine ⟨plainId_quiet FB.init.plain _, codeAny_builtin FB.initEntry ?_⟩
  exact exc_init_tree (cls := .ref C) (t0 := t0) (dv := none) (c2 := .none) (c3 := .none) (b4 := .bool false) he hz fun h' k e' _ => hq h' _ k e'
/-- what __init__ leaves -/
structure InitE (h h' : Heap) (x C dx t1 : Addr) (fld : Str) (v : Value) : Prop where
  keep : ∀ b o, b ≠ x → h.get? b = some o → h'.get? b = some o
  obj : h'.get? x = some { cls := .ref C, dict := some dx, data := .fields #[.ref t1, .none, .none, .none, .bool false, .none] }
  dbig : h.objs.size ≤ dx
  dne : dx ≠ x
  ns : h'.Ns1 dx (fun y => if y = fld then some v else none)
end Ped

namespace Ped
open PySem PySem.W PySem.Calls PyProof.Rows PySem.HandSPX
def supB_limit (msg : Str) (j : Nat) (n1 n2 n3 n4 n5 : Nat) (p0 p1 p3 p5 q1 q2 q3 q4 : Pos) : List Stmt :=
  [.Expr (.Call (.Attribute (.Call (.Name "super" p0) [] [] p1) "__init__" ⟨25, n1, 25, n2⟩) [.Constant (.str msg) j p3] [] ⟨25, n3, n4, n5⟩) p5, .Assign [.Attribute (.Name "self" q1) "limit" q2] (.Name "limit" q3) q4]
def supA_limit (p1 p2 : Pos) : Arguments := { posonlyargs := [], args := [{ arg := "self", annotation := none, pos := p1 }, { arg := "limit", annotation := none, pos := p2 }], vararg := none, kwonlyargs := [], kw_defaults := [], kwarg := none, defaults := [] }
def supS_limit : Scope := { kind := .function, names := [(("self" : Str), .local), ("limit", .local), ("__class__", .free), ("super", .globalImplicit)], isGenerator := false, isCoroutine := false, more := [] }
/-- what the top says of such a class, at C; fI its __init__, cc the cell of its name, cda the code object -/
structure SupE_limit (P : Program) (K : Frag) (mg : Str → Option Value) (x : Str) (C : Addr) : Prop where
  gC : mg x = some (.ref C)
  v : clsV K x = .ref C
  o : L2.OexC K C
  xf : L2.XfC K C
  noN : findIn K (.ref C) "limit" = some none
  tC : ∃ fI, findIn K (.ref C) "__init__" = some (some (.ref fI)) ∧ typeIn K (.ref fI) = some (.type "function") ∧
    ∃ (oc : Value) (od : Option Addr) (qual : Str) (doc pm : Value) (an : Option Addr) (cda cc : Addr) (ct : Value) (osl : Array (Option Value)) (p1 p2 : Pos) (msg : Str) (j : Nat) (n1 n2 n3 n4 n5 : Nat) (r0 r1 r3 r5 q1 q2 q3 q4 : Pos),
    K.lookup fI = some ⟨oc, od, .func (ksFn "__init__" qual (supA_limit p1 p2) (supB_limit msg j n1 n2 n3 n4 n5 r0 r1 r3 r5 q1 q2 q3 q4) supS_limit .none .none doc pm an (.ref cda) ct cc), osl⟩ ∧ codeIn K (.ref cda) qual = true ∧
    (∃ ccl cdd vs ccs file tf, K.lookup cda = some ⟨ccl, cdd, .fields vs, ccs⟩ ∧ vs[2]? = some (.str file tf) ∧ ((P.main.file : Str) == file) = true) ∧
    ∃ cl cld csl, K.lookup cc = some ⟨cl, cld, .cell (some (.ref C)), csl⟩
  hsub : mroIn K C (.ref C) = some true
  hsuper : nsIn K mainGlobals "super" = some none
  htop : (P.main.scope.names.lookup ("super" : Str)).isSome = false
  htp : nsIn K cStatics "thirdparty.any" = some none
  sup : ks_superIn K C C "__init__" = some (some (.builtin "ValueError.__init__"))
  hB : subIn K (.ref C) (.type "ValueError") = some true
section
variable {prog : Program} {w : World} {A : Around} {E : Value → Shared → Prop} {R : Result → Shared → Prop} {s : Shared} {K : Frag} {mg : Str → Option Value} {C : Addr} {x : Str} {base : Heap}
theorem sup_init_limit (T : SupE_limit prog K mg x C) (Md : L2.Mod K mg base) (bk : ∀ b o, base.get? b = some o → s.heap.get? b = some o) {fI e t0 : Addr} {v : Value} (hx : s.heap.get? e = some (excO C t0)) (hnx : K.lookup e = none) (hroom : A.depth < recursionLimit)
    (hfI : findIn K (.ref C) "__init__" = some (some (.ref fI)))
    (hq : ∀ h' tk dx t1, InitE s.heap h' e C dx t1 "limit" v → R (.ok (.ret .none)) { s with heap := h', toks := tk }) :
    codeAny (model prog w) A (.call (.ref fI) ⟨[.ref e, v], []⟩) R s := by
  obtain ⟨fI', hfi, htf, oc, od, qual, doc, pm, an, cda, cc, ct, osl, p1, p2, msg, j, n1, n2, n3, n4, n5, r0, r1, r3, r5, q1, q2, q3, q4, ho, hcd, ⟨ccl, cdd, vs, ccs, file, tf, hcda, hvs, hfile⟩, cl, cld, csl, hcell⟩ := T.tC
  rw [hfi] at hfI
  cases hfI
  obtain ⟨nm, q, N, bs, bm, sn, sub, ab, col, dd, k0, k1, k2, k3, k5, hC, hbm⟩ := T.o.cls
  have hcls : clsIn K C = some { name := nm, bases := bs, mro := .ref C :: bm, ns := N, qualname := q, hasDict := true, slotNames := sn, subclasses := sub, abstract := ab, collection := col, hasDel := false } := by unfold clsIn; rw [hC] <;> rfl
  have X : K.In s.heap := Md.kin.keeps bk
  obtain ⟨mb, hmb, hbb⟩ := Md.blt
  refine ks_codeAny_call_defAt (fd := ksFn "__init__" qual (supA_limit p1 p2) (supB_limit msg j n1 n2 n3 n4 n5 r0 r1 r3 r5 q1 q2 q3 q4) supS_limit .none .none doc pm an (.ref cda) ct cc) (body := supB_limit msg j n1 n2 n3 n4 n5 r0 r1 r3 r5 q1 q2 q3 q4) (binds := [("self", .ref e), ("limit", v)]) hroom (X _ _ ho) rfl (Md.nolimit.keeps bk) (codeRec_of X hcd) rfl (BindsTo.of_eq (by first | rfl | with_unfolding_all rfl)) (by show ∀ x ∈ supS_limit.names, _; decide) (locs rfl) (fun h₁ hns hk₁ => ?_) rfl rfl rfl
  have hxL : s.heap.objs.size ≠ e := Nat.ne_of_gt (Heap.lt_size hx)
  have X₁ : K.In h₁ := X.keeps hk₁
  have hx₁ := hk₁ _ _ hx
  have hD1 : h₁.get? C = some (excClassObj nm q C N bs bm true sn sub ab col dd k0 k1 k2 k3 k5 "ValueError.__new__") := X₁ _ _ hC
  refine ks_wpAt_execs_cons (ks_wpAt_Expr_any ?_ rfl rfl)
  refine ks_wpAt_MethodCall ?_
  refine ks_wpAt_super_base (env := ksEnv qual supS_limit s.heap.objs.size fI (.ref cda) cc) ?_ ?_ rfl rfl (X₁ _ _ ho) rfl rfl rfl (X₁ _ _ hcda) rfl hvs hfile T.htop ?_
  · rfl
  · rfl
  refine ks_loadName_global (by rfl) (by rfl) (loadGlobal_builtin (env := ksEnv qual supS_limit s.heap.objs.size fI (.ref cda) cc) ((Md.glob.keeps bk).keeps hk₁) (mg_none_of Md.kin Md.glob T.hsuper) ((hmb.keeps bk).keeps hk₁) ((hbb _ (by decide)).trans (by kernel_rfl)) ⟨rfl, ?_⟩)
  refine wpAny_loadName_free (by rfl) (by rfl) rfl ⟨_, X₁ _ _ hcell, rfl⟩ ?_
  refine wpAny_loadName_local (by rfl) (by rfl) hns (v := .ref e) (by first | rfl | with_unfolding_all rfl | kernel_rfl) ?_
  refine ks_wpAny_isType_cls hD1 rfl ⟨rfl, ?_⟩
  refine ks_wpAny_call_super hD1 rfl hx₁ rfl (fun c z => by cases z) (looks_mroIn X₁ T.hsub) (fun h₂ hso hk₂ => ?_)
  have X₂ : K.In h₂ := X₁.keeps hk₂
  have hx₂ := hk₂ _ _ hx₁
  have hI : Looks (model prog w) h₂ (isInstance (.ref e) (.type "ValueError")) true := (InstAt.type (ox := excO C t0) (od := none) ⟨hx₂, rfl, rfl, trivial⟩).andThen (looks_subIn X₂ T.hB)
  have hne : e ≠ C := ks_ne X₂ (ox := excO C t0) (odx := none) ⟨hx₂, rfl, rfl, trivial⟩ hcls
  have hsup := T.sup
  unfold ks_superIn at hsup
  rw [hcls] at hsup
  refine kxs_getMethod kxs_ValueError hso (looks_opaque X₂ T.htp) (l₀ := .ref C :: bm) ?_ rfl X₂ hsup hI hne (by decide) ?_
  · exact fun A Q E s k q => wpAny_bind ((looks_clsIn X₂ hcls) A _ E s k (wpAny_pure q))
  refine kxs_callWith (i := "ValueError.__init__") (x := e) (by rfl) (evalArgs_plain ?_)
  show wpAny _ _ (spliced ((false, eval (.Constant (.str msg) j r3) (ksEnv qual supS_limit s.heap.objs.size fI (.ref cda) cc)) :: [])) _ _ _
  refine Calls.spliced_cons (Calls.Constant_str (Calls.spliced_nil ?_))
  have hk₃ : ∀ b o, h₂.get? b = some o → (h₂.push (kxs_mw "ValueError.__init__" e)).get? b = some o := fun b o q => Heap.get?_push_of_some _ q
  refine ⟨Heap.get?_push_size _ rfl, ?_⟩
  refine call_mwV (nm := nm) (q := q) (C := C) (N := N) (hk₃ _ _ (X₂ _ _ hC)) (hk₃ _ _ hx₂) (Heap.get?_push_size _ rfl) (one_le _) fun h₄ t1 hk₄ hx₄ => ?_
  have old : ∀ b o, b ≠ e → h₁.get? b = some o → h₄.get? b = some o := fun b o hb q => hk₄ b o hb (hk₃ b o (hk₂ b o q))
  have X₄ : K.In h₄ := fun b o q => old b o (fun z => by rw [z, hnx] at q; cases q) (X₁ b o q)
  refine wpAt_of_wpAny ?_
  refine wpAny_execs_cons (plainObj_wpAny_Assign_Attribute ?_)
  have hns₄ : h₄.Ns s.heap.objs.size (fun y => [(("self" : Str), Value.ref e), (("limit" : Str), v)].reverse.lookup y) := hns.at fun o q => old _ o hxL q
  refine ldN (v := v) hns₄ (by first | rfl | with_unfolding_all rfl | kernel_rfl) (ldN (v := .ref e) hns₄ (by first | rfl | with_unfolding_all rfl | kernel_rfl) ?_ (by rfl) (by rfl) (by decide)) (by rfl) (by rfl) (by decide)
  refine set_plain X₄ (ox := excO C t1) (od := none) ⟨hx₄, rfl, rfl, trivial⟩ T.o.sa ?_
  refine exc_osa X₄ hx₄ hcls (show refsVE (.ref C :: bm) = true from hbm) rfl T.noN (fun h₅ tk₅ dx k₅ dn dne hx₅ hn₅ => ?_)
  show wpAny _ _ (execs _ _) _ _ _
  refine wpAny_execs_nil (hq h₅ tk₅ dx t1 ⟨fun b o hb q => k₅ b o hb (old b o hb (hk₁ b o q)), hx₅, ?_, dne, hn₅⟩)
  exact Nat.le_of_lt (Nat.lt_of_lt_of_le hns₄.lt dn)
/-- a made one -/
structure MadeE_limit (h h' : Heap) (e C d : Addr) (v : Value) : Prop where
  keep : ∀ b o, h.get? b = some o → h'.get? b = some o
  new : h.objs.size ≤ e
  obj : ∃ oe vs, h'.get? e = some oe ∧ oe.cls = .ref C ∧ oe.dict = some d ∧ oe.data = .fields vs ∧ vs[1]? = some .none
  dbig : h.objs.size ≤ d
  dne : d ≠ e
  ns : h'.Ns1 d (fun y => if y = "limit" then some v else none)
theorem sup_made_limit (T : SupE_limit prog K mg x C) (Md : L2.Mod K mg base) (bk : ∀ b o, base.get? b = some o → s.heap.get? b = some o) {v : Value} (hroom : A.depth + 1 < recursionLimit)
    (hq : ∀ h' tk e d, MadeE_limit s.heap h' e C d v → R (.ok (.ret (.ref e))) { s with heap := h', toks := tk }) : codeAny (model prog w) A (.call (.ref C) ⟨[v], []⟩) R s := by
  obtain ⟨fI, hfi, htf, _⟩ := T.tC
  obtain ⟨nm, q, N, bs, bm, sn, sub, ab, col, dd, k0, k1, k2, k3, k5, hC, hbm⟩ := T.o.cls
  obtain ⟨hp, g, dr, tk, os⟩ := s
  have X : K.In hp := Md.kin.keeps bk
  have k : ∀ b o, hp.get? b = some o → ((hp.push (kdv_tup [v])).push (excO C hp.objs.size)).get? b = some o := fun b o e => Heap.get?_push_of_some _ (Heap.get?_push_of_some _ e)
  have hget : ((hp.push (kdv_tup [v])).push (excO C hp.objs.size)).get? (hp.objs.size + 1) = some (excO C hp.objs.size) := by heap_get
  have hnx : K.lookup (hp.objs.size + 1) = none := by
    cases e : K.lookup (hp.objs.size + 1) with
    | none => rfl
    | some o => exact absurd (Nat.lt_of_succ_lt (Heap.lt_size (X _ _ e))) (Nat.lt_irrefl _)
  refine call_own F.excBase_ValueError (fun Y => refsVE_contains Y bm hbm) (X _ _ hC) (looks_findIn X hfi) (fun self => bind_fn X self htf) (one_le v) ?_
  refine sup_init_limit (s := ⟨(hp.push (kdv_tup [v])).push (excO C hp.objs.size), g, dr, tk, os⟩) T Md (fun b o q => k b o (bk b o q)) hget hnx ?_ hfi fun h' tk' dx t1 I => ?_
  · show A.depth + 1 < recursionLimit
    exact hroom
  · have old : ∀ b o, hp.get? b = some o → h'.get? b = some o := fun b o e => I.keep b o (Nat.ne_of_lt (Nat.lt_succ_of_lt (Heap.lt_size e))) (k b o e)
    have z : hp.objs.size + 1 + 1 ≤ dx := by
      have y := I.dbig
      simpa only [Heap.size_push] using y
    exact ⟨rfl, hq h' tk' (hp.objs.size + 1) dx ⟨old, Nat.le_succ _, ⟨_, _, I.obj, rfl, rfl, rfl, rfl⟩, Nat.le_trans (Nat.le_trans (Nat.le_succ _) (Nat.le_succ _)) z, I.dne, I.ns⟩⟩
end
end Ped
namespace Ped
open PySem L2 PyProof.Rows PySem.Spec
theorem relO_limit {v : V} {v' : Value} (r : RelV v v') (f : Str) : RelO (List.lookup f [(("limit" : Str), v)]) (if f = "limit" then some v' else none) := by
  by_cases hw : f = "limit"
  · subst hw
    rw [if_pos rfl]
    show RelO (List.lookup _ [_]) _
    simp only [List.lookup, beq_self_eq_true]
    exact r
  · rw [if_neg hw]
    have qw : (f == ("limit" : Str)) = false := by simpa using hw
    simp only [List.lookup, qw]
    trivial
section
variable {X : Cx} {W : WX} {C : Addr} {x : Str}
def tMk_limit (C : Addr) (ta : TA) : L2.St → Hp → XK → Prop := fun σ H Q => ta σ H fun vs H1 => ∃ v, vs = [v] ∧ ∀ d, H1 d = none → Q (.ref C) (some d) (upd H1 d (.xd [(("limit" : Str), v)]))
theorem pmk_limit {a : Expr} {ta : TA} {p pos : Pos} {k : Nat} (T : SupE_limit X.prog X.K X.mg x C) (hr : Room k X.A) (ha : PA X [a] ta) (hg : Gl X x) (hdb : (x == ("__debug__" : Str)) = false := by decide)
    (he : starEach (a :: []) X.env = (false, eval a X.env) :: starEach [] X.env := by rfl) (hpl : (backTo pos (starEach [] X.env)).any (·.1) = false := by rfl) :
    PMk X (.Call (.Name x p) [a] [] pos) (tMk_limit C ta) := by
  intro pins s σ H Q I h
  refine wpAny_Call_Name_kw (ld_glob I hg T.gC ?_ hdb)
  refine PySem.W.callWith_K (h₀ := X.base) I.ok.mod.kin T.o.kC (thn (ha.run pos pins s σ H _ I h) fun us s1 hh => ?_) he hpl
  obtain ⟨vs, H1, I1, r1, v, ev, q1⟩ := hh
  subst ev
  refine ⟨I1.kIn, ?_⟩
  cases r1 with
  | cons rv rn =>
    rename_i v' us'
    cases rn
    show wpAny _ _ (call (.ref C) [v']) _ _ _
    have bk := I1.bk
    obtain ⟨hp, g, dr, tk, os⟩ := s1
    refine wpAny_call (sup_made_limit (base := X.base) T I1.mod bk (by have := hr.dp; omega) fun h' tk' e d M => ?_)
    show MkP X pins σ Q (.ref e) ⟨h', g, dr, tk', os⟩
    obtain ⟨oe, fv, hoe, hc, hd, hdat, h1⟩ := M.obj
    have hns := M.ns
    obtain ⟨G', g1, g2⟩ := restrict h' fun b => decide (b ≠ e)
    have gk : ∀ b, b ≠ e → G'.get? b = h'.get? b := fun b hb => g1 b (decide_eq_true hb)
    have ge : G'.get? e = none := g2 e (by simp)
    have old : ∀ b o, hp.get? b = some o → G'.get? b = some o := fun b o q => (gk b (Nat.ne_of_lt (Nat.lt_of_lt_of_le (Heap.lt_size q) M.new))).trans (M.keep b o q)
    have ob : ObjOk X.prog X.w (upd H1 d (.xd [(("limit" : Str), v)])) G' d (.xd [(("limit" : Str), v)]) :=
      ⟨_, hns.at (fun o q => (gk d M.dne).trans q), fun f => relO_limit rv f⟩
    have J : Inv X pins σ (upd H1 d (.xd [(("limit" : Str), v)])) ⟨G', g, dr, tk', os⟩ := I1.laid (t' := tk') old M.dbig ob
    refine ⟨e, oe, fv, ⟨G', g, dr, tk', os⟩, _, .ref C, some d, rfl, J, fun b o q => ?_, ge, hoe, ⟨hc, hd⟩, hdat, h1, ?_, rfl, I1.bare, raises_own T.o.exC T.o.tyC, q1 d (I1.hok.fresh M.dbig)⟩
    · by_cases hb : b = e
      · have q' : G'.get? b = some o := q
        rw [hb, ge] at q'; cases q'
      · exact (gk b hb).symm.trans q
    · rw [upd_ne (Ne.symm M.dne)]
      exact I1.hok.fresh M.new
def fMk_limit (x : Str) (f : FE) : Env → Sto → Rs Exn := fun env μ => (f env μ).bind fun w μ1 => .ok ⟨x, [("limit", w)]⟩ μ1
theorem cmk_limit {a : Expr} {f : FE} {p pos : Pos} {k : Nat} (T : SupE_limit X.prog X.K X.mg x C) (hr : Room k X.A) (ha : CEx X W a f) (hg : Gl X x) (hdb : (x == ("__debug__" : Str)) = false := by decide)
    (he : starEach (a :: []) X.env = (false, eval a X.env) :: starEach [] X.env := by rfl) (hpl : (backTo pos (starEach [] X.env)).any (·.1) = false := by rfl) :
    CMk X W (.Call (.Name x p) [a] [] pos) (fMk_limit x f) := by
  obtain ⟨t, pa, q⟩ := ha
  refine ⟨_, pmk_limit T hr (pa_cons pa pa_nil he) hg hdb he hpl, fun env σ S μ hE hS Q h => ?_⟩
  unfold fMk_limit at h
  rw [Rs.post_bind] at h
  refine q env σ S μ hE hS _ (h.mono (fun w μ1 h1 v S1 e1 hS1 r1 => ?_) fun _ _ z => z)
  refine ⟨v, rfl, fun d hd => ?_⟩
  have z := h1 (some d) ⟨upd S1.H d (.xd [(("limit" : Str), v)]), S1.F, S1.L⟩ (e1.side (e1.un hd)) (hS1.side (hS1.fresh hd) (hS1.free hd)) ⟨[(("limit" : Str), v)], upd_same, .cons ⟨rfl, r1.gr ⟨Sb.refl _, fun _ _ h => h⟩⟩ .nil⟩
  rw [show clsV X.K x = .ref C from T.v] at z
  exact z
end
end Ped
namespace Ped
open PySem PySem.W PySem.Calls PyProof.Rows PySem.HandSPX
def supB_line (msg : Str) (j : Nat) (n1 n2 n3 n4 n5 : Nat) (p0 p1 p3 p5 q1 q2 q3 q4 : Pos) : List Stmt :=
  [.Expr (.Call (.Attribute (.Call (.Name "super" p0) [] [] p1) "__init__" ⟨30, n1, 30, n2⟩) [.Constant (.str msg) j p3] [] ⟨30, n3, n4, n5⟩) p5, .Assign [.Attribute (.Name "self" q1) "line" q2] (.Name "line" q3) q4]
def supA_line (p1 p2 : Pos) : Arguments := { posonlyargs := [], args := [{ arg := "self", annotation := none, pos := p1 }, { arg := "line", annotation := none, pos := p2 }], vararg := none, kwonlyargs := [], kw_defaults := [], kwarg := none, defaults := [] }
def supS_line : Scope := { kind := .function, names := [(("self" : Str), .local), ("line", .local), ("__class__", .free), ("super", .globalImplicit)], isGenerator := false, isCoroutine := false, more := [] }
/-- what the top says of such a class, at C; fI its __init__, cc the cell of its name, cda the code object -/
structure SupE_line (P : Program) (K : Frag) (mg : Str → Option Value) (x : Str) (C : Addr) : Prop where
  gC : mg x = some (.ref C)
  v : clsV K x = .ref C
  o : L2.OexC K C
  xf : L2.XfC K C
  noN : findIn K (.ref C) "line" = some none
  tC : ∃ fI, findIn K (.ref C) "__init__" = some (some (.ref fI)) ∧ typeIn K (.ref fI) = some (.type "function") ∧
    ∃ (oc : Value) (od : Option Addr) (qual : Str) (doc pm : Value) (an : Option Addr) (cda cc : Addr) (ct : Value) (osl : Array (Option Value)) (p1 p2 : Pos) (msg : Str) (j : Nat) (n1 n2 n3 n4 n5 : Nat) (r0 r1 r3 r5 q1 q2 q3 q4 : Pos),
    K.lookup fI = some ⟨oc, od, .func (ksFn "__init__" qual (supA_line p1 p2) (supB_line msg j n1 n2 n3 n4 n5 r0 r1 r3 r5 q1 q2 q3 q4) supS_line .none .none doc pm an (.ref cda) ct cc), osl⟩ ∧ codeIn K (.ref cda) qual = true ∧
    (∃ ccl cdd vs ccs file tf, K.lookup cda = some ⟨ccl, cdd, .fields vs, ccs⟩ ∧ vs[2]? = some (.str file tf) ∧ ((P.main.file : Str) == file) = true) ∧
    ∃ cl cld csl, K.lookup cc = some ⟨cl, cld, .cell (some (.ref C)), csl⟩
  hsub : mroIn K C (.ref C) = some true
  hsuper : nsIn K mainGlobals "super" = some none
  htop : (P.main.scope.names.lookup ("super" : Str)).isSome = false
  htp : nsIn K cStatics "thirdparty.any" = some none
  sup : ks_superIn K C C "__init__" = some (some (.builtin "ValueError.__init__"))
  hB : subIn K (.ref C) (.type "ValueError") = some true
section
variable {prog : Program} {w : World} {A : Around} {E : Value → Shared → Prop} {R : Result → Shared → Prop} {s : Shared} {K : Frag} {mg : Str → Option Value} {C : Addr} {x : Str} {base : Heap}
theorem sup_init_line (T : SupE_line prog K mg x C) (Md : L2.Mod K mg base) (bk : ∀ b o, base.get? b = some o → s.heap.get? b = some o) {fI e t0 : Addr} {v : Value} (hx : s.heap.get? e = some (excO C t0)) (hnx : K.lookup e = none) (hroom : A.depth < recursionLimit)
    (hfI : findIn K (.ref C) "__init__" = some (some (.ref fI)))
    (hq : ∀ h' tk dx t1, InitE s.heap h' e C dx t1 "line" v → R (.ok (.ret .none)) { s with heap := h', toks := tk }) :
    codeAny (model prog w) A (.call (.ref fI) ⟨[.ref e, v], []⟩) R s := by
  obtain ⟨fI', hfi, htf, oc, od, qual, doc, pm, an, cda, cc, ct, osl, p1, p2, msg, j, n1, n2, n3, n4, n5, r0, r1, r3, r5, q1, q2, q3, q4, ho, hcd, ⟨ccl, cdd, vs, ccs, file, tf, hcda, hvs, hfile⟩, cl, cld, csl, hcell⟩ := T.tC
  rw [hfi] at hfI
  cases hfI
  obtain ⟨nm, q, N, bs, bm, sn, sub, ab, col, dd, k0, k1, k2, k3, k5, hC, hbm⟩ := T.o.cls
  have hcls : clsIn K C = some { name := nm, bases := bs, mro := .ref C :: bm, ns := N, qualname := q, hasDict := true, slotNames := sn, subclasses := sub, abstract := ab, collection := col, hasDel := false } := by unfold clsIn; rw [hC] <;> rfl
  have X : K.In s.heap := Md.kin.keeps bk
  obtain ⟨mb, hmb, hbb⟩ := Md.blt
  refine ks_codeAny_call_defAt (fd := ksFn "__init__" qual (supA_line p1 p2) (supB_line msg j n1 n2 n3 n4 n5 r0 r1 r3 r5 q1 q2 q3 q4) supS_line .none .none doc pm an (.ref cda) ct cc) (body := supB_line msg j n1 n2 n3 n4 n5 r0 r1 r3 r5 q1 q2 q3 q4) (binds := [("self", .ref e), ("line", v)]) hroom (X _ _ ho) rfl (Md.nolimit.keeps bk) (codeRec_of X hcd) rfl (BindsTo.of_eq (by first | rfl | with_unfolding_all rfl)) (by show ∀ x ∈ supS_line.names, _; decide) (locs rfl) (fun h₁ hns hk₁ => ?_) rfl rfl rfl
  have hxL : s.heap.objs.size ≠ e := Nat.ne_of_gt (Heap.lt_size hx)
  have X₁ : K.In h₁ := X.keeps hk₁
  have hx₁ := hk₁ _ _ hx
  have hD1 : h₁.get? C = some (excClassObj nm q C N bs bm true sn sub ab col dd k0 k1 k2 k3 k5 "ValueError.__new__") := X₁ _ _ hC
  refine ks_wpAt_execs_cons (ks_wpAt_Expr_any ?_ rfl rfl)
  refine ks_wpAt_MethodCall ?_
  refine ks_wpAt_super_base (env := ksEnv qual supS_line s.heap.objs.size fI (.ref cda) cc) ?_ ?_ rfl rfl (X₁ _ _ ho) rfl rfl rfl (X₁ _ _ hcda) rfl hvs hfile T.htop ?_
  · rfl
  · rfl
  refine ks_loadName_global (by rfl) (by rfl) (loadGlobal_builtin (env := ksEnv qual supS_line s.heap.objs.size fI (.ref cda) cc) ((Md.glob.keeps bk).keeps hk₁) (mg_none_of Md.kin Md.glob T.hsuper) ((hmb.keeps bk).keeps hk₁) ((hbb _ (by decide)).trans (by kernel_rfl)) ⟨rfl, ?_⟩)
  refine wpAny_loadName_free (by rfl) (by rfl) rfl ⟨_, X₁ _ _ hcell, rfl⟩ ?_
  refine wpAny_loadName_local (by rfl) (by rfl) hns (v := .ref e) (by first | rfl | with_unfolding_all rfl | kernel_rfl) ?_
  refine ks_wpAny_isType_cls hD1 rfl ⟨rfl, ?_⟩
  refine ks_wpAny_call_super hD1 rfl hx₁ rfl (fun c z => by cases z) (looks_mroIn X₁ T.hsub) (fun h₂ hso hk₂ => ?_)
  have X₂ : K.In h₂ := X₁.keeps hk₂
  have hx₂ := hk₂ _ _ hx₁
  have hI : Looks (model prog w) h₂ (isInstance (.ref e) (.type "ValueError")) true := (InstAt.type (ox := excO C t0) (od := none) ⟨hx₂, rfl, rfl, trivial⟩).andThen (looks_subIn X₂ T.hB)
  have hne : e ≠ C := ks_ne X₂ (ox := excO C t0) (odx := none) ⟨hx₂, rfl, rfl, trivial⟩ hcls
  have hsup := T.sup
  unfold ks_superIn at hsup
  rw [hcls] at hsup
  refine kxs_getMethod kxs_ValueError hso (looks_opaque X₂ T.htp) (l₀ := .ref C :: bm) ?_ rfl X₂ hsup hI hne (by decide) ?_
  · exact fun A Q E s k q => wpAny_bind ((looks_clsIn X₂ hcls) A _ E s k (wpAny_pure q))
  refine kxs_callWith (i := "ValueError.__init__") (x := e) (by rfl) (evalArgs_plain ?_)
  show wpAny _ _ (spliced ((false, eval (.Constant (.str msg) j r3) (ksEnv qual supS_line s.heap.objs.size fI (.ref cda) cc)) :: [])) _ _ _
  refine Calls.spliced_cons (Calls.Constant_str (Calls.spliced_nil ?_))
  have hk₃ : ∀ b o, h₂.get? b = some o → (h₂.push (kxs_mw "ValueError.__init__" e)).get? b = some o := fun b o q => Heap.get?_push_of_some _ q
  refine ⟨Heap.get?_push_size _ rfl, ?_⟩
  refine call_mwV (nm := nm) (q := q) (C := C) (N := N) (hk₃ _ _ (X₂ _ _ hC)) (hk₃ _ _ hx₂) (Heap.get?_push_size _ rfl) (one_le _) fun h₄ t1 hk₄ hx₄ => ?_
  have old : ∀ b o, b ≠ e → h₁.get? b = some o → h₄.get? b = some o := fun b o hb q => hk₄ b o hb (hk₃ b o (hk₂ b o q))
  have X₄ : K.In h₄ := fun b o q => old b o (fun z => by rw [z, hnx] at q; cases q) (X₁ b o q)
  refine wpAt_of_wpAny ?_
  refine wpAny_execs_cons (plainObj_wpAny_Assign_Attribute ?_)
  have hns₄ : h₄.Ns s.heap.objs.size (fun y => [(("self" : Str), Value.ref e), (("line" : Str), v)].reverse.lookup y) := hns.at fun o q => old _ o hxL q
  refine ldN (v := v) hns₄ (by first | rfl | with_unfolding_all rfl | kernel_rfl) (ldN (v := .ref e) hns₄ (by first | rfl | with_unfolding_all rfl | kernel_rfl) ?_ (by rfl) (by rfl) (by decide)) (by rfl) (by rfl) (by decide)
  refine set_plain X₄ (ox := excO C t1) (od := none) ⟨hx₄, rfl, rfl, trivial⟩ T.o.sa ?_
  refine exc_osa X₄ hx₄ hcls (show refsVE (.ref C :: bm) = true from hbm) rfl T.noN (fun h₅ tk₅ dx k₅ dn dne hx₅ hn₅ => ?_)
  show wpAny _ _ (execs _ _) _ _ _
  refine wpAny_execs_nil (hq h₅ tk₅ dx t1 ⟨fun b o hb q => k₅ b o hb (old b o hb (hk₁ b o q)), hx₅, ?_, dne, hn₅⟩)
  exact Nat.le_of_lt (Nat.lt_of_lt_of_le hns₄.lt dn)
/-- a made one -/
structure MadeE_line (h h' : Heap) (e C d : Addr) (v : Value) : Prop where
  keep : ∀ b o, h.get? b = some o → h'.get? b = some o
  new : h.objs.size ≤ e
  obj : ∃ oe vs, h'.get? e = some oe ∧ oe.cls = .ref C ∧ oe.dict = some d ∧ oe.data = .fields vs ∧ vs[1]? = some .none
  dbig : h.objs.size ≤ d
  dne : d ≠ e
  ns : h'.Ns1 d (fun y => if y = "line" then some v else none)
theorem sup_made_line (T : SupE_line prog K mg x C) (Md : L2.Mod K mg base) (bk : ∀ b o, base.get? b = some o → s.heap.get? b = some o) {v : Value} (hroom : A.depth + 1 < recursionLimit)
    (hq : ∀ h' tk e d, MadeE_line s.heap h' e C d v → R (.ok (.ret (.ref e))) { s with heap := h', toks := tk }) : codeAny (model prog w) A (.call (.ref C) ⟨[v], []⟩) R s := by
  obtain ⟨fI, hfi, htf, _⟩ := T.tC
  obtain ⟨nm, q, N, bs, bm, sn, sub, ab, col, dd, k0, k1, k2, k3, k5, hC, hbm⟩ := T.o.cls
  obtain ⟨hp, g, dr, tk, os⟩ := s
  have X : K.In hp := Md.kin.keeps bk
  have k : ∀ b o, hp.get? b = some o → ((hp.push (kdv_tup [v])).push (excO C hp.objs.size)).get? b = some o := fun b o e => Heap.get?_push_of_some _ (Heap.get?_push_of_some _ e)
  have hget : ((hp.push (kdv_tup [v])).push (excO C hp.objs.size)).get? (hp.objs.size + 1) = some (excO C hp.objs.size) := by heap_get
  have hnx : K.lookup (hp.objs.size + 1) = none := by
    cases e : K.lookup (hp.objs.size + 1) with
    | none => rfl
    | some o => exact absurd (Nat.lt_of_succ_lt (Heap.lt_size (X _ _ e))) (Nat.lt_irrefl _)
  refine call_own F.excBase_ValueError (fun Y => refsVE_contains Y bm hbm) (X _ _ hC) (looks_findIn X hfi) (fun self => bind_fn X self htf) (one_le v) ?_
  refine sup_init_line (s := ⟨(hp.push (kdv_tup [v])).push (excO C hp.objs.size), g, dr, tk, os⟩) T Md (fun b o q => k b o (bk b o q)) hget hnx ?_ hfi fun h' tk' dx t1 I => ?_
  · show A.depth + 1 < recursionLimit
    exact hroom
  · have old : ∀ b o, hp.get? b = some o → h'.get? b = some o := fun b o e => I.keep b o (Nat.ne_of_lt (Nat.lt_succ_of_lt (Heap.lt_size e))) (k b o e)
    have z : hp.objs.size + 1 + 1 ≤ dx := by
      have y := I.dbig
      simpa only [Heap.size_push] using y
    exact ⟨rfl, hq h' tk' (hp.objs.size + 1) dx ⟨old, Nat.le_succ _, ⟨_, _, I.obj, rfl, rfl, rfl, rfl⟩, Nat.le_trans (Nat.le_trans (Nat.le_succ _) (Nat.le_succ _)) z, I.dne, I.ns⟩⟩
end
end Ped
namespace Ped
open PySem L2 PyProof.Rows PySem.Spec
theorem relO_line {v : V} {v' : Value} (r : RelV v v') (f : Str) : RelO (List.lookup f [(("line" : Str), v)]) (if f = "line" then some v' else none) := by
  by_cases hw : f = "line"
  · subst hw
    rw [if_pos rfl]
    show RelO (List.lookup _ [_]) _
    simp only [List.lookup, beq_self_eq_true]
    exact r
  · rw [if_neg hw]
    have qw : (f == ("line" : Str)) = false := by simpa using hw
    simp only [List.lookup, qw]
    trivial
section
variable {X : Cx} {W : WX} {C : Addr} {x : Str}
def tMk_line (C : Addr) (ta : TA) : L2.St → Hp → XK → Prop := fun σ H Q => ta σ H fun vs H1 => ∃ v, vs = [v] ∧ ∀ d, H1 d = none → Q (.ref C) (some d) (upd H1 d (.xd [(("line" : Str), v)]))
theorem pmk_line {a : Expr} {ta : TA} {p pos : Pos} {k : Nat} (T : SupE_line X.prog X.K X.mg x C) (hr : Room k X.A) (ha : PA X [a] ta) (hg : Gl X x) (hdb : (x == ("__debug__" : Str)) = false := by decide)
    (he : starEach (a :: []) X.env = (false, eval a X.env) :: starEach [] X.env := by rfl) (hpl : (backTo pos (starEach [] X.env)).any (·.1) = false := by rfl) :
    PMk X (.Call (.Name x p) [a] [] pos) (tMk_line C ta) := by
  intro pins s σ H Q I h
  refine wpAny_Call_Name_kw (ld_glob I hg T.gC ?_ hdb)
  refine PySem.W.callWith_K (h₀ := X.base) I.ok.mod.kin T.o.kC (thn (ha.run pos pins s σ H _ I h) fun us s1 hh => ?_) he hpl
  obtain ⟨vs, H1, I1, r1, v, ev, q1⟩ := hh
  subst ev
  refine ⟨I1.kIn, ?_⟩
  cases r1 with
  | cons rv rn =>
    rename_i v' us'
    cases rn
    show wpAny _ _ (call (.ref C) [v']) _ _ _
    have bk := I1.bk
    obtain ⟨hp, g, dr, tk, os⟩ := s1
    refine wpAny_call (sup_made_line (base := X.base) T I1.mod bk (by have := hr.dp; omega) fun h' tk' e d M => ?_)
    show MkP X pins σ Q (.ref e) ⟨h', g, dr, tk', os⟩
    obtain ⟨oe, fv, hoe, hc, hd, hdat, h1⟩ := M.obj
    have hns := M.ns
    obtain ⟨G', g1, g2⟩ := restrict h' fun b => decide (b ≠ e)
    have gk : ∀ b, b ≠ e → G'.get? b = h'.get? b := fun b hb => g1 b (decide_eq_true hb)
    have ge : G'.get? e = none := g2 e (by simp)
    have old : ∀ b o, hp.get? b = some o → G'.get? b = some o := fun b o q => (gk b (Nat.ne_of_lt (Nat.lt_of_lt_of_le (Heap.lt_size q) M.new))).trans (M.keep b o q)
    have ob : ObjOk X.prog X.w (upd H1 d (.xd [(("line" : Str), v)])) G' d (.xd [(("line" : Str), v)]) :=
      ⟨_, hns.at (fun o q => (gk d M.dne).trans q), fun f => relO_line rv f⟩
    have J : Inv X pins σ (upd H1 d (.xd [(("line" : Str), v)])) ⟨G', g, dr, tk', os⟩ := I1.laid (t' := tk') old M.dbig ob
    refine ⟨e, oe, fv, ⟨G', g, dr, tk', os⟩, _, .ref C, some d, rfl, J, fun b o q => ?_, ge, hoe, ⟨hc, hd⟩, hdat, h1, ?_, rfl, I1.bare, raises_own T.o.exC T.o.tyC, q1 d (I1.hok.fresh M.dbig)⟩
    · by_cases hb : b = e
      · have q' : G'.get? b = some o := q
        rw [hb, ge] at q'; cases q'
      · exact (gk b hb).symm.trans q
    · rw [upd_ne (Ne.symm M.dne)]
      exact I1.hok.fresh M.new
def fMk_line (x : Str) (f : FE) : Env → Sto → Rs Exn := fun env μ => (f env μ).bind fun w μ1 => .ok ⟨x, [("line", w)]⟩ μ1
theorem cmk_line {a : Expr} {f : FE} {p pos : Pos} {k : Nat} (T : SupE_line X.prog X.K X.mg x C) (hr : Room k X.A) (ha : CEx X W a f) (hg : Gl X x) (hdb : (x == ("__debug__" : Str)) = false := by decide)
    (he : starEach (a :: []) X.env = (false, eval a X.env) :: starEach [] X.env := by rfl) (hpl : (backTo pos (starEach [] X.env)).any (·.1) = false := by rfl) :
    CMk X W (.Call (.Name x p) [a] [] pos) (fMk_line x f) := by
  obtain ⟨t, pa, q⟩ := ha
  refine ⟨_, pmk_line T hr (pa_cons pa pa_nil he) hg hdb he hpl, fun env σ S μ hE hS Q h => ?_⟩
  unfold fMk_line at h
  rw [Rs.post_bind] at h
  refine q env σ S μ hE hS _ (h.mono (fun w μ1 h1 v S1 e1 hS1 r1 => ?_) fun _ _ z => z)
  refine ⟨v, rfl, fun d hd => ?_⟩
  have z := h1 (some d) ⟨upd S1.H d (.xd [(("line" : Str), v)]), S1.F, S1.L⟩ (e1.side (e1.un hd)) (hS1.side (hS1.fresh hd) (hS1.free hd)) ⟨[(("line" : Str), v)], upd_same, .cons ⟨rfl, r1.gr ⟨Sb.refl _, fun _ _ h => h⟩⟩ .nil⟩
  rw [show clsV X.K x = .ref C from T.v] at z
  exact z
end
end Ped
namespace Ped
open PySem L2 PyProof.Rows PySem.Spec
section
variable {X : Cx} {W : WX} {C : Addr} {x : Str}
def tSupV_limit (C : Addr) (ta : TA) : TE := fun σ H Q => ta σ H fun vs H1 => ∃ v, vs = [v] ∧ ∀ d a, H1 d = none → H1 a = none → a ≠ d → Q (.ref a) (upd (upd H1 d (.xd [(("limit" : Str), v)])) a (ExD (.ref C) d a))
theorem pe_supV_limit {a : Expr} {ta : TA} {p pos : Pos} {k : Nat} (T : SupE_limit X.prog X.K X.mg x C) (hr : Room k X.A) (ha : PA X [a] ta) (hg : Gl X x) (hdb : (x == ("__debug__" : Str)) = false := by decide)
    (he : starEach (a :: []) X.env = (false, eval a X.env) :: starEach [] X.env := by rfl) (hpl : (backTo pos (starEach [] X.env)).any (·.1) = false := by rfl) :
    PE X (.Call (.Name x p) [a] [] pos) (tSupV_limit C ta) := by
  refine ⟨fun pins s σ H Q I h => ?_⟩
  refine wpAny_Call_Name_kw (ld_glob I hg T.gC ?_ hdb)
  refine PySem.W.callWith_K (h₀ := X.base) I.ok.mod.kin T.o.kC (thn (ha.run pos pins s σ H _ I h) fun us s1 hh => ?_) he hpl
  obtain ⟨vs, H1, I1, r1, v, ev, q1⟩ := hh
  subst ev
  refine ⟨I1.kIn, ?_⟩
  cases r1 with
  | cons rv rn =>
    rename_i v' us'
    cases rn
    show wpAny _ _ (call (.ref C) [v']) _ _ _
    have bk := I1.bk
    obtain ⟨hp, g, dr, tk, os⟩ := s1
    refine wpAny_call (sup_made_limit (base := X.base) T I1.mod bk (by have := hr.dp; omega) fun h' tk' e d M => ?_)
    show EP X pins σ Q (.ref e) ⟨h', g, dr, tk', os⟩
    obtain ⟨oe, fv, hoe, hc, hd, hdat, h1⟩ := M.obj
    have hns := M.ns
    obtain ⟨G', g1, g2⟩ := restrict h' fun b => decide (b ≠ e)
    have gk : ∀ b, b ≠ e → G'.get? b = h'.get? b := fun b hb => g1 b (decide_eq_true hb)
    have ge : G'.get? e = none := g2 e (by simp)
    have old : ∀ b o, hp.get? b = some o → G'.get? b = some o := fun b o q => (gk b (Nat.ne_of_lt (Nat.lt_of_lt_of_le (Heap.lt_size q) M.new))).trans (M.keep b o q)
    have ob : ObjOk X.prog X.w (upd H1 d (.xd [(("limit" : Str), v)])) G' d (.xd [(("limit" : Str), v)]) :=
      ⟨_, hns.at (fun o q => (gk d M.dne).trans q), fun f => relO_limit rv f⟩
    have J : Inv X pins σ (upd H1 d (.xd [(("limit" : Str), v)])) ⟨G', g, dr, tk', os⟩ := I1.laid (t' := tk') old M.dbig ob
    have hne : upd H1 d (.xd [(("limit" : Str), v)]) e = none := by
      rw [upd_ne (Ne.symm M.dne)]
      exact I1.hok.fresh M.new
    have J2 := J.laidN (h' := h') (a := e) (o := ExD (.ref C) d e) (t' := tk') (fun b o q => by
      by_cases hb : b = e
      · have q' : G'.get? b = some o := q
        rw [hb, ge] at q'; cases q'
      · exact (gk b hb).symm.trans q) ge hne (exD_ok hoe ⟨hc, hd⟩ hdat)
    exact ⟨.ref e, _, J2, rfl, q1 d e (I1.hok.fresh M.dbig) (I1.hok.fresh M.new) (Ne.symm M.dne)⟩
def fSupV_limit (x fld : Str) (f : FE) : FE := fun env μ => (f env μ).bind fun w μ1 => match w with
  | .d d => .ok (.e x [(fld, d)]) μ1
  | _ => .no
theorem c_supV_limit {a : Expr} {f : FE} {p pos : Pos} {k : Nat} (T : SupE_limit X.prog X.K X.mg x C) (hr : Room k X.A) (ha : CEx X W a f) (hg : Gl X x) (hdb : (x == ("__debug__" : Str)) = false := by decide)
    (he : starEach (a :: []) X.env = (false, eval a X.env) :: starEach [] X.env := by rfl) (hpl : (backTo pos (starEach [] X.env)).any (·.1) = false := by rfl) :
    CEx X W (.Call (.Name x p) [a] [] pos) (fSupV_limit x "limit" f) := by
  obtain ⟨t, pa, q⟩ := ha
  refine ⟨_, pe_supV_limit T hr (pa_cons pa pa_nil he) hg hdb he hpl, fun env σ S μ hE hS Q h => ?_⟩
  unfold fSupV_limit at h
  rw [Rs.post_bind] at h
  refine q env σ S μ hE hS _ (h.mono (fun w μ1 h1 v S1 e1 hS1 r1 => ?_) fun _ _ z => z)
  cases w with
  | l n => exact h1.elim
  | s n => exact h1.elim
  | e _ _ => exact h1.elim
  | d dd =>
    have h1 : POk X.K S Q (.e x [("limit", dd)]) μ1 := h1
    refine ⟨v, rfl, fun d a hd ha hn => ?_⟩
    have E1 : Ext S1 (S1.lay d (.xd [(("limit" : Str), v)])) := Ext.lay hS1.sub hd
    have H1 : HS X.K (S1.lay d (.xd [(("limit" : Str), v)])) μ1 := hS1.lay _ hd
    have hf := hS1.free hd
    have ha2 : (S1.lay d (.xd [(("limit" : Str), v)])).H a = none := by
      show upd S1.H d _ a = none
      rw [upd_ne hn]
      exact ha
    refine h1 (.ref a) ((S1.lay d (.xd [(("limit" : Str), v)])).lay a (ExD (.ref C) d a)) (e1.trans (E1.trans (Ext.lay H1.sub ha2))) (H1.lay _ ha2) ⟨a, C, rfl, T.v, .inr ⟨d, [(("limit" : Str), v)], upd_same, ?_, .cons ⟨rfl, ?_⟩ .nil⟩⟩
    · show upd (upd S1.F d _) a _ d = _
      rw [upd_ne (Ne.symm hn), upd_same]
    · exact Rp.mono (E1.trans (Ext.lay H1.sub ha2)).sb _ _ r1
end
end Ped
namespace Ped
open PySem L2 PyProof.Rows PySem.Spec
section
variable {X : Cx} {W : WX} {C : Addr} {x : Str}
def tSupV_line (C : Addr) (ta : TA) : TE := fun σ H Q => ta σ H fun vs H1 => ∃ v, vs = [v] ∧ ∀ d a, H1 d = none → H1 a = none → a ≠ d → Q (.ref a) (upd (upd H1 d (.xd [(("line" : Str), v)])) a (ExD (.ref C) d a))
theorem pe_supV_line {a : Expr} {ta : TA} {p pos : Pos} {k : Nat} (T : SupE_line X.prog X.K X.mg x C) (hr : Room k X.A) (ha : PA X [a] ta) (hg : Gl X x) (hdb : (x == ("__debug__" : Str)) = false := by decide)
    (he : starEach (a :: []) X.env = (false, eval a X.env) :: starEach [] X.env := by rfl) (hpl : (backTo pos (starEach [] X.env)).any (·.1) = false := by rfl) :
    PE X (.Call (.Name x p) [a] [] pos) (tSupV_line C ta) := by
  refine ⟨fun pins s σ H Q I h => ?_⟩
  refine wpAny_Call_Name_kw (ld_glob I hg T.gC ?_ hdb)
  refine PySem.W.callWith_K (h₀ := X.base) I.ok.mod.kin T.o.kC (thn (ha.run pos pins s σ H _ I h) fun us s1 hh => ?_) he hpl
  obtain ⟨vs, H1, I1, r1, v, ev, q1⟩ := hh
  subst ev
  refine ⟨I1.kIn, ?_⟩
  cases r1 with
  | cons rv rn =>
    rename_i v' us'
    cases rn
    show wpAny _ _ (call (.ref C) [v']) _ _ _
    have bk := I1.bk
    obtain ⟨hp, g, dr, tk, os⟩ := s1
    refine wpAny_call (sup_made_line (base := X.base) T I1.mod bk (by have := hr.dp; omega) fun h' tk' e d M => ?_)
    show EP X pins σ Q (.ref e) ⟨h', g, dr, tk', os⟩
    obtain ⟨oe, fv, hoe, hc, hd, hdat, h1⟩ := M.obj
    have hns := M.ns
    obtain ⟨G', g1, g2⟩ := restrict h' fun b => decide (b ≠ e)
    have gk : ∀ b, b ≠ e → G'.get? b = h'.get? b := fun b hb => g1 b (decide_eq_true hb)
    have ge : G'.get? e = none := g2 e (by simp)
    have old : ∀ b o, hp.get? b = some o → G'.get? b = some o := fun b o q => (gk b (Nat.ne_of_lt (Nat.lt_of_lt_of_le (Heap.lt_size q) M.new))).trans (M.keep b o q)
    have ob : ObjOk X.prog X.w (upd H1 d (.xd [(("line" : Str), v)])) G' d (.xd [(("line" : Str), v)]) :=
      ⟨_, hns.at (fun o q => (gk d M.dne).trans q), fun f => relO_line rv f⟩
    have J : Inv X pins σ (upd H1 d (.xd [(("line" : Str), v)])) ⟨G', g, dr, tk', os⟩ := I1.laid (t' := tk') old M.dbig ob
    have hne : upd H1 d (.xd [(("line" : Str), v)]) e = none := by
      rw [upd_ne (Ne.symm M.dne)]
      exact I1.hok.fresh M.new
    have J2 := J.laidN (h' := h') (a := e) (o := ExD (.ref C) d e) (t' := tk') (fun b o q => by
      by_cases hb : b = e
      · have q' : G'.get? b = some o := q
        rw [hb, ge] at q'; cases q'
      · exact (gk b hb).symm.trans q) ge hne (exD_ok hoe ⟨hc, hd⟩ hdat)
    exact ⟨.ref e, _, J2, rfl, q1 d e (I1.hok.fresh M.dbig) (I1.hok.fresh M.new) (Ne.symm M.dne)⟩
def fSupV_line (x fld : Str) (f : FE) : FE := fun env μ => (f env μ).bind fun w μ1 => match w with
  | .d d => .ok (.e x [(fld, d)]) μ1
  | _ => .no
theorem c_supV_line {a : Expr} {f : FE} {p pos : Pos} {k : Nat} (T : SupE_line X.prog X.K X.mg x C) (hr : Room k X.A) (ha : CEx X W a f) (hg : Gl X x) (hdb : (x == ("__debug__" : Str)) = false := by decide)
    (he : starEach (a :: []) X.env = (false, eval a X.env) :: starEach [] X.env := by rfl) (hpl : (backTo pos (starEach [] X.env)).any (·.1) = false := by rfl) :
    CEx X W (.Call (.Name x p) [a] [] pos) (fSupV_line x "line" f) := by
  obtain ⟨t, pa, q⟩ := ha
  refine ⟨_, pe_supV_line T hr (pa_cons pa pa_nil he) hg hdb he hpl, fun env σ S μ hE hS Q h => ?_⟩
  unfold fSupV_line at h
  rw [Rs.post_bind] at h
  refine q env σ S μ hE hS _ (h.mono (fun w μ1 h1 v S1 e1 hS1 r1 => ?_) fun _ _ z => z)
  cases w with
  | l n => exact h1.elim
  | s n => exact h1.elim
  | e _ _ => exact h1.elim
  | d dd =>
    have h1 : POk X.K S Q (.e x [("line", dd)]) μ1 := h1
    refine ⟨v, rfl, fun d a hd ha hn => ?_⟩
    have E1 : Ext S1 (S1.lay d (.xd [(("line" : Str), v)])) := Ext.lay hS1.sub hd
    have H1 : HS X.K (S1.lay d (.xd [(("line" : Str), v)])) μ1 := hS1.lay _ hd
    have hf := hS1.free hd
    have ha2 : (S1.lay d (.xd [(("line" : Str), v)])).H a = none := by
      show upd S1.H d _ a = none
      rw [upd_ne hn]
      exact ha
    refine h1 (.ref a) ((S1.lay d (.xd [(("line" : Str), v)])).lay a (ExD (.ref C) d a)) (e1.trans (E1.trans (Ext.lay H1.sub ha2))) (H1.lay _ ha2) ⟨a, C, rfl, T.v, .inr ⟨d, [(("line" : Str), v)], upd_same, ?_, .cons ⟨rfl, ?_⟩ .nil⟩⟩
    · show upd (upd S1.F d _) a _ d = _
      rw [upd_ne (Ne.symm hn), upd_same]
    · exact Rp.mono (E1.trans (Ext.lay H1.sub ha2)).sb _ _ r1
end
end Ped

/-! Ped9: reckoning with the functions that the combinators give -/
namespace Ped
open PySem L2 PyProof.Rows PySem.Spec

/-! ### plain steps -/
section
variable {w : Wv} {env : Env} {μ : Sto}
@[simp] theorem e_fC (d : D) : fC d env μ = .ok (.d d) μ := rfl
@[simp] theorem e_var (i : Nat) : fVar i env μ = match env[i]? with | some (some w) => .ok w μ | _ => .no := rfl
@[simp] theorem e_nil : fNil env μ = .ok [] μ := rfl
@[simp] theorem e_cons (f : FE) (g : FA) : fCons f g env μ = (f env μ).bind fun w μ1 => (g env μ1).bind fun ws μ2 => .ok (w :: ws) μ2 := rfl
@[simp] theorem e_op (h : Wv → Wv → Sto → Rs Wv) (f g : FE) : fOp h f g env μ = (f env μ).bind fun x μ1 => (g env μ1).bind fun y μ2 => h x y μ2 := rfl
@[simp] theorem e_call (h : List Wv → Sto → Rs Wv) (g : FA) : fCall h g env μ = (g env μ).bind h := rfl
@[simp] theorem e_B (f : FE) : fB f env μ = (f env μ).bind asB := rfl
@[simp] theorem e_asB (b : Bool) : asB (.d (.bool b)) μ = .ok b μ := rfl
@[simp] theorem e_Not (f : FB) : fNot f env μ = (f env μ).bind fun b μ1 => .ok (!b) μ1 := rfl
@[simp] theorem e_And (f g : FB) : fAnd f g env μ = (f env μ).bind fun b μ1 => if b = true then g env μ1 else .ok false μ1 := rfl
@[simp] theorem e_Or (f g : FB) : fOr f g env μ = (f env μ).bind fun b μ1 => if b = true then .ok true μ1 else g env μ1 := rfl
@[simp] theorem e_AndV (f g : FE) : fAndV f g env μ = (fB f env μ).bind fun b μ1 => if b = true then g env μ1 else .ok (.d (.bool false)) μ1 := rfl
@[simp] theorem e_OrV (f g : FE) : fOrV f g env μ = (fB f env μ).bind fun b μ1 => if b = true then .ok (.d (.bool true)) μ1 else g env μ1 := rfl
@[simp] theorem e_NotV (f : FE) : fNotV f env μ = (fB f env μ).bind fun b μ1 => .ok (.d (.bool (!b))) μ1 := rfl
@[simp] theorem e_If (c : FB) (f g : FE) : fIf c f g env μ = (c env μ).bind fun b μ1 => if b = true then f env μ1 else g env μ1 := rfl
@[simp] theorem e_chain (h h' : Wv → Wv → Sto → Rs Wv) (f g k : FE) : fChain h h' f g k env μ = (f env μ).bind fun x μ1 => (g env μ1).bind fun y μ2 => ((h x y μ2).bind asB).bind fun b μ3 => if b = true then (k env μ3).bind fun z μ4 => h' y z μ4 else .ok (.d (.bool false)) μ3 := rfl
@[simp] theorem e_tup (g : FA) : fTup g env μ = (g env μ).bind (mkSeq .tuple) := rfl
@[simp] theorem e_lst (g : FA) : fLst g env μ = (g env μ).bind (mkSeq .list) := rfl
@[simp] theorem e_isi (T : String) (f : FE) : fIsi T f env μ = (f env μ).bind fun w μ1 => match w with | .d x => .ok (.d (.bool (isTy T x))) μ1 | _ => .no := rfl
@[simp] theorem e_neg (f : FE) : fNeg f env μ = (f env μ).bind fun x μ1 => match x with | .d (.int i) => .ok (.d (.int (-i))) μ1 | _ => .no := rfl
@[simp] theorem e_f1 (h : Wv → Sto → Rs Wv) (f : FE) : f1 h f env μ = (f env μ).bind h := rfl
@[simp] theorem e_sNil : sNil env μ = .ok (.nx env) μ := rfl
@[simp] theorem e_sCons (f g : FS) : sCons f g env μ = (f env μ).bind fun fl μ1 => match fl with | .nx env1 => g env1 μ1 | fl => .ok fl μ1 := rfl
@[simp] theorem e_sAsg (f : FE) (g : FG) : sAsg f g env μ = (f env μ).bind fun w μ1 => (noex (g w env μ1)).bind fun env1 μ2 => .ok (.nx env1) μ2 := rfl
@[simp] theorem e_gVar (i : Nat) : gVar i w env μ = .ok (env.set i (some w)) μ := rfl
@[simp] theorem e_sRet (f : FE) : sRet f env μ = (f env μ).bind fun w μ1 => .ok (.rt w) μ1 := rfl
@[simp] theorem e_sExpr (f : FE) : sExpr f env μ = (f env μ).bind fun _ μ1 => .ok (.nx env) μ1 := rfl
@[simp] theorem e_sIf (c : FB) (f g : FS) : sIf c f g env μ = (c env μ).bind fun b μ1 => if b = true then f env μ1 else g env μ1 := rfl
@[simp] theorem e_sFor (it : FIt) (g : FG) (b : FS) : sFor it g b env μ = (it env μ).bind fun items μ1 => forF g b items env μ1 := rfl
@[simp] theorem e_sPar (i j : Nat) (g : FA) : sPar i j g env μ = (g env μ).bind fun ws μ1 => match ws with | [w, z] => .ok (.nx ((env.set i (some w)).set j (some z))) μ1 | _ => .no := rfl
@[simp] theorem e_lstN (g : FA) : fLstN g env μ = (g env μ).bind fun ws μ1 => if ws.length ≤ LIM then .ok (.l μ1.length) (μ1 ++ [.lst ws]) else .no := rfl
@[simp] theorem e_comp (it : FIt) (g : FG) (t : FB) (e : FE) (vs : List Nat) : fComp it g t e vs env μ = (it env μ).bind fun items μ1 => (compF g t e (wipeE env vs) items μ1 []).bind fun acc μ2 => .ok (.d (.list acc)) μ2 := rfl
@[simp] theorem e_itS (f : FE) : itS f env μ = (f env μ).bind fun w μ1 => match w with | .d (.list xs) => .ok xs μ1 | .d (.tuple xs) => .ok xs μ1 | _ => .no := rfl
def rgK (w : Wv) (μ1 : Sto) : Rs (List D) := match w with | .d (.int j) => if -RB ≤ j ∧ j ≤ RB then .ok (rangeD 0 j.toNat) μ1 else .no | _ => .no
def rgL (w : Wv) (μ1 : Sto) : Rs Wv := match w with | .d (.int j) => if -1000000 ≤ j ∧ j ≤ 1000000 then .ok (.d (.list (rangeD 0 j.toNat))) μ1 else .no | _ => .no
theorem rg_k {k : Nat} {μ : Sto} (h : k ≤ 1000000) : rgK (.d (.int (k : Int))) μ = .ok (rangeD 0 k) μ := by
  show (if -RB ≤ (k : Int) ∧ (k : Int) ≤ RB then Rs.ok (rangeD 0 (k : Int).toNat) μ else Rs.no) = _
  have : RB = 1000000000000 := rfl
  rw [if_pos (by omega), Int.toNat_natCast]
theorem rg_l {k : Nat} {μ : Sto} (h : k ≤ 1000000) : rgL (.d (.int (k : Int))) μ = .ok (.d (.list (rangeD 0 k))) μ := by
  show (if -1000000 ≤ (k : Int) ∧ (k : Int) ≤ 1000000 then Rs.ok (Wv.d (.list (rangeD 0 (k : Int).toNat))) μ else Rs.no) = _
  rw [if_pos (by omega), Int.toNat_natCast]
@[simp] theorem e_itR1 (f : FE) : itR1 f env μ = (f env μ).bind rgK := rfl
@[simp] theorem e_fRg1 (f : FE) : fRg1 f env μ = (f env μ).bind rgL := rfl
@[simp] theorem e_Sl (f : FE) (g h : FO) : fSl f g h env μ = (f env μ).bind fun x μ1 => (g env μ1).bind fun lo μ2 => (h env μ2).bind fun hi μ3 => slW x lo hi μ3 := rfl
@[simp] theorem e_O0 : fO0 env μ = .ok none μ := rfl
@[simp] theorem e_O1 (f : FE) : fO1 f env μ = (f env μ).bind fun w μ1 => match w with | .d (.int i) => .ok (some i) μ1 | _ => .no := rfl
@[simp] theorem e_SetIx (f g h : FE) : sSetIx f g h env μ = (f env μ).bind fun y μ1 => (g env μ1).bind fun x μ2 => (h env μ2).bind fun i μ3 => match x, i with
  | .l n, .d (.int k) => (match lstAt μ3 n with
    | some ws => (match ixN ws.length k with
      | some j => .ok (.nx env) (μ3.set n (.lst (ws.set j y)))
      | none => .no)
    | none => .no)
  | _, _ => .no := rfl
@[simp] theorem e_noexbind {α β : Type} (r : Rs α) : noex (noex r) = noex r := by cases r <;> rfl
@[simp] theorem e_callD (n : Nat) (g : List Wv → Sto → Rs Wv) (ws : List Wv) : callD n g ws μ = if ws.length = n then noex (g ws μ) else .no := rfl
@[simp] theorem e_wipe0 : wipeE env [] = env := rfl
@[simp] theorem e_wipe1 (v : Nat) (vs : List Nat) : wipeE env (v :: vs) = (wipeE env vs).set v none := rfl
@[simp] theorem e_fYes : fYes env μ = .ok true μ := rfl
end

/-! ### operations on data -/
section
variable {μ : Sto} {i j : Int}
@[simp] theorem o_cmp (g : Int → Int → Bool) : opI (fun i j => some (.bool (g i j))) (.d (.int i)) (.d (.int j)) μ = .ok (.d (.bool (g i j))) μ := rfl
@[simp] theorem o_int (g : Int → Int → Int) : opI (fun i j => some (.int (g i j))) (.d (.int i)) (.d (.int j)) μ = .ok (.d (.int (g i j))) μ := rfl
@[simp] theorem o_add : addW (.d (.int i)) (.d (.int j)) μ = .ok (.d (.int (i + j))) μ := rfl
theorem o_addT (x y : List D) : addW (.d (.tuple x)) (.d (.tuple y)) μ = if x.length + y.length ≤ LIM then .ok (.d (.tuple (x ++ y))) μ else .no := rfl
theorem o_addL (x y : List D) : addW (.d (.list x)) (.d (.list y)) μ = if x.length + y.length ≤ LIM then .ok (.d (.list (x ++ y))) μ else .no := rfl
@[simp] theorem o_mul : mulW (.d (.int i)) (.d (.int j)) μ = if CMul i j then .ok (.d (.int (i * j))) μ else .no := rfl
theorem o_mod (h : 0 < j) : opI modI (.d (.int i)) (.d (.int j)) μ = .ok (.d (.int (i % j))) μ := by
  show (match modI i j with | some d => Rs.ok (Wv.d d) μ | none => Rs.no) = _
  unfold modI
  rw [if_pos h]
theorem o_div (h : 0 < j) (h' : j < 2 ^ 100) : opI divI (.d (.int i)) (.d (.int j)) μ = .ok (.d (.int (i / j))) μ := by
  show (match divI i j with | some d => Rs.ok (Wv.d d) μ | none => Rs.no) = _
  unfold divI
  rw [if_pos ⟨h, h'⟩]
theorem eq_int (n : Bool) : eqW n (.d (.int i)) (.d (.int j)) μ = .ok (.d (.bool (if n then !decide (i = j) else decide (i = j)))) μ := rfl
theorem eq_str (n : Bool) (a b : Str) : eqW n (.d (.str a)) (.d (.str b)) μ = .ok (.d (.bool (if n then !decide (a = b) else decide (a = b)))) μ := rfl
@[simp] theorem k_len_t (xs : List D) : kLen [.d (.tuple xs)] μ = .ok (.d (.int xs.length)) μ := rfl
@[simp] theorem k_len_l (xs : List D) : kLen [.d (.list xs)] μ = .ok (.d (.int xs.length)) μ := rfl
@[simp] theorem k_len_s (ns : List Int) : kLen [.s ns] μ = .ok (.d (.int ns.length)) μ := rfl
@[simp] theorem k_int_i : kInt [.d (.int i)] μ = .ok (.d (.int i)) μ := rfl
@[simp] theorem k_abs_i : kAbs [.d (.int i)] μ = .ok (.d (.int (if i < 0 then -i else i))) μ := rfl
@[simp] theorem k_max2_i : kMax2 [.d (.int i), .d (.int j)] μ = .ok (.d (.int (if j > i then j else i))) μ := rfl
@[simp] theorem k_min2_i : kMin2 [.d (.int i), .d (.int j)] μ = .ok (.d (.int (if j < i then j else i))) μ := rfl
@[simp] theorem k_tuple_l (xs : List D) : kTuple [.d (.list xs)] μ = .ok (.d (.tuple xs)) μ := rfl
@[simp] theorem k_sum_i (ns : List Int) : kSum [.d (.list (ns.map PyData.int))] μ = .ok (.d (.int ns.sum)) μ := by
  unfold kSum kInts
  simp [toInts_map]
@[simp] theorem k_all_b (bs : List Bool) : kAll [.d (.list (bs.map PyData.bool))] μ = .ok (.d (.bool (bs.all id))) μ := by
  unfold kAll kBools
  simp [toBools_map]
@[simp] theorem k_any_b (bs : List Bool) : kAny [.d (.list (bs.map PyData.bool))] μ = .ok (.d (.bool (bs.any id))) μ := by
  unfold kAny kBools
  simp [toBools_map]
theorem k_max_i {ns : List Int} {m : Int} (h : maxL ns = some m) : kMax [.d (.list (ns.map PyData.int))] μ = .ok (.d (.int m)) μ := by
  unfold kMax kInts
  simp [toInts_map, h]
theorem atI_nat {α : Type} (xs : List α) (n : Nat) : atI xs (n : Int) = xs[n]? := by
  unfold atI
  by_cases h : n < xs.length
  · have : ixN xs.length (n : Int) = some n := by
      unfold ixN
      simp [h]
    rw [this]
    rfl
  · have : ixN xs.length (n : Int) = none := by
      unfold ixN
      simp
      omega
    rw [this, List.getElem?_eq_none (by omega)]
    rfl
theorem atI_0 {α : Type} (x : α) (r : List α) : atI (x :: r) 0 = some x := atI_nat (x :: r) 0
theorem atI_1 {α : Type} (x y : α) (r : List α) : atI (x :: y :: r) 1 = some y := atI_nat (x :: y :: r) 1
@[simp] theorem ix_0 (x : D) (r : List D) : ixW (.d (.tuple (x :: r))) (.d (.int 0)) μ = .ok (.d x) μ := by
  show (match atI (x :: r) 0 with | some d => Rs.ok (Wv.d d) μ | none => Rs.no) = _
  rw [atI_0]
@[simp] theorem ix_1 (x y : D) (r : List D) : ixW (.d (.tuple (x :: y :: r))) (.d (.int 1)) μ = .ok (.d y) μ := by
  show (match atI (x :: y :: r) 1 with | some d => Rs.ok (Wv.d d) μ | none => Rs.no) = _
  rw [atI_1]
theorem mkSeq_d (c : List D → D) (ds : List D) (h : ds.length ≤ LIM) : mkSeq c (ds.map Wv.d) μ = .ok (.d (c ds)) μ := by
  unfold mkSeq
  rw [dats_map]
  simp only [if_pos h]
@[simp] theorem mkSeq_0 (c : List D → D) : mkSeq c [] μ = .ok (.d (c [])) μ := mkSeq_d c [] (by decide)
@[simp] theorem mkSeq_1 (c : List D → D) (x : D) : mkSeq c [.d x] μ = .ok (.d (c [x])) μ := mkSeq_d c [x] (by simp [LIM])
@[simp] theorem mkSeq_2 (c : List D → D) (x y : D) : mkSeq c [.d x, .d y] μ = .ok (.d (c [x, y])) μ := mkSeq_d c [x, y] (by simp [LIM])
@[simp] theorem mkSeq_3 (c : List D → D) (x y z : D) : mkSeq c [.d x, .d y, .d z] μ = .ok (.d (c [x, y, z])) μ := mkSeq_d c [x, y, z] (by simp [LIM])
@[simp] theorem mkSeq_4 (c : List D → D) (x y z t : D) : mkSeq c [.d x, .d y, .d z, .d t] μ = .ok (.d (c [x, y, z, t])) μ := mkSeq_d c [x, y, z, t] (by simp [LIM])
@[simp] theorem mkSeq_5 (c : List D → D) (x y z t u : D) : mkSeq c [.d x, .d y, .d z, .d t, .d u] μ = .ok (.d (c [x, y, z, t, u])) μ := mkSeq_d c [x, y, z, t, u] (by simp [LIM])
end

/-! ### bodies -/
theorem hb_d {μ μ' : Sto} {x : D} (h : μ'.length = μ.length) : handBack μ (.rt (.d x)) μ' = .ok (.d x) μ' := by
  unfold handBack
  rw [trim_same h]
theorem hb_n {μ μ' : Sto} {env : Env} (h : μ'.length = μ.length) : handBack μ (.nx env) μ' = .ok (.d .none) μ' := by
  unfold handBack
  rw [trim_same h]
theorem run_d {m : Nat} {F : FS} {ws : List Wv} {μ μ' : Sto} {x : D} (h : F (startE m ws) μ = .ok (.rt (.d x)) μ') (hl : μ'.length = μ.length) : runF m F ws μ = .ok (.d x) μ' := by
  unfold runF
  rw [h]
  exact hb_d hl
theorem run_0 {m : Nat} {F : FS} {ws : List Wv} {μ : Sto} {x : D} (h : F (startE m ws) μ = .ok (.rt (.d x)) μ) : runF m F ws μ = .ok (.d x) μ := run_d h rfl
theorem run_n {m : Nat} {F : FS} {ws : List Wv} {μ : Sto} {env : Env} (h : F (startE m ws) μ = .ok (.nx env) μ) : runF m F ws μ = .ok (.d .none) μ := by
  unfold runF
  rw [h]
  exact hb_n (env := env) rfl
/-- what was made meanwhile is forgotten -/
theorem run_app {m : Nat} {F : FS} {ws : List Wv} {μ ν : Sto} {x : D} (h : F (startE m ws) μ = .ok (.rt (.d x)) (μ ++ ν)) : runF m F ws μ = .ok (.d x) μ := by
  unfold runF
  rw [h]
  show handBack μ (.rt (.d x)) (μ ++ ν) = _
  unfold handBack
  rw [trim_app]

/-! ### comprehensions and loops -/
/-- each item gives its value -/
theorem comp_map {α : Type} {g : FG} {e : FE} {env : Env} {toD : α → D} {φ : α → D} : ∀ (xs : List α) (μ : Sto) (acc : List D), (∀ x ∈ xs, ∃ env1, g (.d (toD x)) env μ = .ok env1 μ ∧ e env1 μ = .ok (.d (φ x)) μ) → acc.length + xs.length ≤ LIM → compF g fYes e env (xs.map toD) μ acc = .ok (acc ++ xs.map φ) μ
  | [], μ, acc, _, _ => by simp [compF]
  | x :: r, μ, acc, h, hl => by
    obtain ⟨env1, h1, h2⟩ := h x List.mem_cons_self
    rw [List.length_cons] at hl
    rw [List.map_cons]
    unfold compF
    rw [h1]
    simp only [noex_ok, Rs.bind_ok, e_fYes, if_true, h2]
    rw [if_pos (by omega), comp_map r μ (acc ++ [φ x]) (fun y hy => h y (List.mem_cons_of_mem _ hy)) (by rw [List.length_append, List.length_singleton]; omega)]
    simp
/-- .. where a test says so -/
theorem comp_filter {α : Type} {g : FG} {t : FB} {e : FE} {env : Env} {toD : α → D} {q : α → Bool} {φ : α → D} : ∀ (xs : List α) (μ : Sto) (acc : List D), (∀ x ∈ xs, ∃ env1, g (.d (toD x)) env μ = .ok env1 μ ∧ t env1 μ = .ok (q x) μ ∧ (q x = true → e env1 μ = .ok (.d (φ x)) μ)) → acc.length + xs.length ≤ LIM → compF g t e env (xs.map toD) μ acc = .ok (acc ++ (xs.filter q).map φ) μ
  | [], μ, acc, _, _ => by simp [compF]
  | x :: r, μ, acc, h, hl => by
    obtain ⟨env1, h1, h2, h3⟩ := h x List.mem_cons_self
    rw [List.length_cons] at hl
    rw [List.map_cons]
    unfold compF
    rw [h1]
    simp only [noex_ok, Rs.bind_ok, h2]
    cases hq : q x with
    | true =>
      simp only [if_true, h3 hq, noex_ok, Rs.bind_ok]
      rw [if_pos (by omega), comp_filter r μ (acc ++ [φ x]) (fun y hy => h y (List.mem_cons_of_mem _ hy)) (by rw [List.length_append, List.length_singleton]; omega)]
      simp [hq]
    | false =>
      simp only [Bool.false_eq_true, if_false]
      rw [comp_filter r μ acc (fun y hy => h y (List.mem_cons_of_mem _ hy)) (by omega)]
      simp [hq]
/-- a loop that carries a state in names alone -/
theorem for_fold {α σ : Type} {g : FG} {b : FS} {toD : α → D} {E : σ → Env → Prop} {step : σ → α → σ} : ∀ (xs : List α) (s : σ) (env : Env) (μ : Sto), E s env → (∀ x ∈ xs, ∀ s env, E s env → ∃ env1 env2, g (.d (toD x)) env μ = .ok env1 μ ∧ b env1 μ = .ok (.nx env2) μ ∧ E (step s x) env2) → ∃ env', forF g b (xs.map toD) env μ = .ok (.nx env') μ ∧ E (xs.foldl step s) env'
  | [], s, env, μ, h, _ => ⟨env, rfl, h⟩
  | x :: r, s, env, μ, h, hs => by
    obtain ⟨env1, env2, h1, h2, h3⟩ := hs x List.mem_cons_self s env h
    obtain ⟨env', h4, h5⟩ := for_fold r (step s x) env2 μ h3 fun y hy => hs y (List.mem_cons_of_mem _ hy)
    refine ⟨env', ?_, h5⟩
    rw [List.map_cons]
    unfold forF
    rw [h1]
    simp only [noex_ok, Rs.bind_ok, h2, h4]
/-- a loop with an invariant over the names and the store, that falls through -/
theorem for_inv {g : FG} {b : FS} {I : Env → Sto → Prop} : ∀ (xs : List D) (env : Env) (μ : Sto), I env μ → (∀ x ∈ xs, ∀ env μ, I env μ → ∃ env1 μ1 env2 μ2, g (.d x) env μ = .ok env1 μ1 ∧ b env1 μ1 = .ok (.nx env2) μ2 ∧ I env2 μ2) → ∃ env' μ', forF g b xs env μ = .ok (.nx env') μ' ∧ I env' μ'
  | [], env, μ, h, _ => ⟨env, μ, rfl, h⟩
  | x :: r, env, μ, h, hs => by
    obtain ⟨env1, μ1, env2, μ2, h1, h2, h3⟩ := hs x List.mem_cons_self env μ h
    obtain ⟨env', μ', h4, h5⟩ := for_inv r env2 μ2 h3 fun y hy => hs y (List.mem_cons_of_mem _ hy)
    refine ⟨env', μ', ?_, h5⟩
    unfold forF
    rw [h1]
    simp only [noex_ok, Rs.bind_ok, h2, h4]
/-- a comprehension whose items are drawn: one value after the other, each with a step of the store -/
theorem comp_draw {β : Type} {g : FG} {e : FE} {env : Env} {toD : β → D} {P : β → Prop} {I : Sto → Prop} : ∀ (xs : List D) (μ : Sto) (acc : List β), I μ → (∀ b ∈ acc, P b) → (∀ x ∈ xs, ∀ μ, I μ → ∃ env1 b μ', g (.d x) env μ = .ok env1 μ ∧ e env1 μ = .ok (.d (toD b)) μ' ∧ P b ∧ I μ') → acc.length + xs.length ≤ LIM → ∃ (bs : List β) (μ' : Sto), compF g fYes e env xs μ (acc.map toD) = .ok (bs.map toD) μ' ∧ bs.length = acc.length + xs.length ∧ (∀ b ∈ bs, P b) ∧ I μ'
  | [], μ, acc, h, ha, _, _ => ⟨acc, μ, rfl, rfl, ha, h⟩
  | x :: r, μ, acc, h, ha, hs, hl => by
    obtain ⟨env1, b, μ1, h1, h2, h3, h4⟩ := hs x List.mem_cons_self μ h
    rw [List.length_cons] at hl
    obtain ⟨bs, μ', h5, h6, h7, h8⟩ := comp_draw (P := P) (I := I) r μ1 (acc ++ [b]) h4 (by
      intro c hc
      rcases List.mem_append.mp hc with hc | hc
      · exact ha c hc
      · rw [List.mem_singleton.mp hc]; exact h3) (fun y hy => hs y (List.mem_cons_of_mem _ hy)) (by rw [List.length_append, List.length_singleton]; omega)
    refine ⟨bs, μ', ?_, by rw [h6, List.length_append, List.length_singleton, List.length_cons]; omega, h7, h8⟩
    unfold compF
    rw [h1]
    simp only [noex_ok, Rs.bind_ok, e_fYes, if_true, h2]
    rw [if_pos (by rw [List.length_map]; omega)]
    rw [List.map_append] at h5
    exact h5

/-! ### the bag that a law draws from -/
def bagO (x y : Int) : Ob := .lst [.d (.int x), .d (.int y)]
def BagOk (x y : Int) : Prop := 0 ≤ x ∧ 0 ≤ y ∧ y < 2147483423
def Bg (b : Nat) (μ : Sto) : Prop := ∃ x y, μ[b]? = some (bagO x y) ∧ BagOk x y
def Stp (b : Nat) (μ μ' : Sto) : Prop := ∃ x y, μ' = μ.set b (bagO x y) ∧ BagOk x y
theorem Stp.len {b : Nat} {μ μ' : Sto} (s : Stp b μ μ') : μ'.length = μ.length := by
  obtain ⟨x, y, rfl, _⟩ := s
  exact List.length_set
theorem Stp.bg {b : Nat} {μ μ' : Sto} (s : Stp b μ μ') (h : Bg b μ) : Bg b μ' := by
  obtain ⟨x, y, rfl, k⟩ := s
  obtain ⟨x', y', h, _⟩ := h
  exact ⟨x, y, List.getElem?_set_self (List.getElem?_eq_some_iff.mp h).1, k⟩
theorem Stp.refl {b : Nat} {μ : Sto} (h : Bg b μ) : Stp b μ μ := by
  obtain ⟨x, y, h, k⟩ := h
  refine ⟨x, y, ?_, k⟩
  refine List.ext_getElem? fun j => ?_
  by_cases hj : b = j
  · subst hj
    rw [List.getElem?_set_self (List.getElem?_eq_some_iff.mp h).1, h]
  · rw [List.getElem?_set_ne hj]
theorem Stp.trans {b : Nat} {μ μ' μ'' : Sto} (s : Stp b μ μ') (t : Stp b μ' μ'') : Stp b μ μ'' := by
  obtain ⟨x, y, rfl, _⟩ := s
  obtain ⟨x', y', rfl, k⟩ := t
  exact ⟨x', y', List.set_set .., k⟩
theorem Stp.get {b j : Nat} {μ μ' : Sto} (s : Stp b μ μ') (h : b ≠ j) : μ'[j]? = μ[j]? := by
  obtain ⟨x, y, rfl, _⟩ := s
  exact List.getElem?_set_ne h
theorem bg_lst {b : Nat} {μ : Sto} {x y : Int} (h : μ[b]? = some (bagO x y)) : lstAt μ b = some [.d (.int x), .d (.int y)] := by
  unfold lstAt
  rw [h]
  rfl
theorem ix_bag0 {b : Nat} {μ : Sto} {x y : Int} (h : μ[b]? = some (bagO x y)) : ixW (.l b) (.d (.int 0)) μ = .ok (.d (.int x)) μ := by
  show (match μ[b]? with | some (.lst ws) => (match atI ws 0 with | some w => Rs.ok w μ | none => Rs.no) | _ => Rs.no) = _
  rw [h]
  rfl
theorem ix_bag1 {b : Nat} {μ : Sto} {x y : Int} (h : μ[b]? = some (bagO x y)) : ixW (.l b) (.d (.int 1)) μ = .ok (.d (.int y)) μ := by
  show (match μ[b]? with | some (.lst ws) => (match atI ws 1 with | some w => Rs.ok w μ | none => Rs.no) | _ => Rs.no) = _
  rw [h]
  rfl
end Ped

/-! PedQ: what a law draws -/
namespace Ped
open PySem L2 PyProof.Rows PySem.Spec
theorem cmul1 {i j : Int} (h : -(2 ^ 64) < i ∧ i < 2 ^ 64) : CMul i j := .inl h
theorem cmul2 {i j : Int} (h : -(2 ^ 64) < j ∧ j < 2 ^ 64) : CMul i j := .inr h
theorem set_bag0 {b : Nat} {μ : Sto} {x y z : Int} (h : μ[b]? = some (bagO x y)) : (match lstAt μ b with
    | some ws => (match ixN ws.length (0 : Int) with
      | some j => (Rs.ok (μ.set b (.lst (ws.set j (.d (.int z))))) μ : Rs Sto)
      | none => .no)
    | none => .no) = .ok (μ.set b (bagO z y)) μ := by
  rw [bg_lst h]
  rfl
theorem take_ok {b : Nat} {μ : Sto} (h : Bg b μ) {m : Int} (h0 : 0 < m) (h1 : m < 2 ^ 64) : ∃ r μ', g__law_take [.l b, .d (.int m)] μ = .ok (.d (.int r)) μ' ∧ 0 ≤ r ∧ r < m ∧ Stp b μ μ' := by
  obtain ⟨x, y, hb, hx, hy, hy2⟩ := h
  have hlt := (List.getElem?_eq_some_iff.mp hb).1
  have hm2 : m < 2 ^ 100 := by omega
  by_cases hp : 0 < x
  · refine ⟨x % m, μ.set b (bagO (x / m) y), ?_, Int.emod_nonneg _ (by omega), Int.emod_lt_of_pos _ h0, _, _, rfl, Int.ediv_nonneg hx (by omega), hy, hy2⟩
    unfold g__law_take
    refine run_d ?_ List.length_set
    unfold B__law_take
    simp [startE, ix_bag0 hb, hp, o_mod h0, o_div h0 hm2, bg_lst hb]
    rfl
  · have hx0 : x = 0 := by omega
    subst hx0
    have hy3 : 0 ≤ (y * 41358 + 211) % 2147483423 := Int.emod_nonneg _ (by decide)
    have hy4 : (y * 41358 + 211) % 2147483423 < 2147483423 := Int.emod_lt_of_pos _ (by decide)
    refine ⟨(((y * 41358 + 211) % 2147483423) * (((y * 41358 + 211) % 2147483423) / 9 + 23) % 2147483407) / 15 % m, μ.set b (bagO 0 ((y * 41358 + 211) % 2147483423)), ?_, Int.emod_nonneg _ (by omega), Int.emod_lt_of_pos _ h0, _, _, rfl, Int.le_refl 0, hy3, hy4⟩
    unfold g__law_take
    refine run_d ?_ List.length_set
    unfold B__law_take
    have hb2 : (μ.set b (bagO 0 ((y * 41358 + 211) % 2147483423)))[b]? = some (bagO 0 ((y * 41358 + 211) % 2147483423)) := List.getElem?_set_self hlt
    have c1 : CMul y 41358 := cmul2 (by omega)
    have c2 : CMul ((y * 41358 + 211) % 2147483423) (((y * 41358 + 211) % 2147483423) / 9 + 23) := cmul1 (by omega)
    have e3 : ixW (.l b) (.d (.int 1)) (μ.set b (.lst [.d (.int 0), .d (.int ((y * 41358 + 211) % 2147483423))])) = .ok (.d (.int ((y * 41358 + 211) % 2147483423))) (μ.set b (.lst [.d (.int 0), .d (.int ((y * 41358 + 211) % 2147483423))])) := ix_bag1 hb2
    have e4 : ixN 2 (1 : Int) = some 1 := rfl
    simp [startE, ix_bag0 hb, ix_bag1 hb, o_mod (show (0 : Int) < 2147483423 by decide), o_mod (show (0 : Int) < 2147483407 by decide), o_mod h0, o_div (show (0 : Int) < 9 by decide) (by decide), o_div (show (0 : Int) < 15 by decide) (by decide), bg_lst hb, c1, c2, e3, e4, bagO]
theorem ix_l {xs : List D} {r : Int} {μ : Sto} (h0 : 0 ≤ r) (h1 : r < xs.length) : ∃ d, d ∈ xs ∧ ixW (.d (.list xs)) (.d (.int r)) μ = .ok (.d d) μ := by
  obtain ⟨n, rfl⟩ := Int.eq_ofNat_of_zero_le h0
  have hn : n < xs.length := by omega
  refine ⟨xs[n], List.getElem_mem hn, ?_⟩
  show (match atI xs (n : Int) with | some d => Rs.ok (Wv.d d) μ | none => Rs.no) = _
  rw [atI_nat, List.getElem?_eq_getElem hn]
theorem of_ok {b : Nat} {μ : Sto} (h : Bg b μ) {xs : List D} (h0 : 0 < xs.length) (h1 : xs.length < 1000000) : ∃ d μ', g__law_of [.l b, .d (.list xs)] μ = .ok (.d d) μ' ∧ d ∈ xs ∧ Stp b μ μ' := by
  obtain ⟨r, μ', e, r0, r1, s⟩ := take_ok h (m := xs.length) (by omega) (by omega)
  obtain ⟨d, hd, e2⟩ := ix_l (μ := μ') r0 r1
  refine ⟨d, μ', ?_, hd, s⟩
  unfold g__law_of
  refine run_d ?_ s.len
  unfold B__law_of
  simp [startE, e, e2]

/-! ### pedals -/
inductive Pd where
  | louder (k : Int) | cut (k : Int) | gate (k : Int) | turn | fold | lift (k : Int) | steps (k : Int) | late (k : Int)
  deriving DecidableEq
def Pd.toD : Pd → D
  | .louder k => .tuple [.str "louder", .int k]
  | .cut k => .tuple [.str "cut", .int k]
  | .gate k => .tuple [.str "gate", .int k]
  | .turn => .tuple [.str "turn"]
  | .fold => .tuple [.str "fold"]
  | .lift k => .tuple [.str "lift", .int k]
  | .steps k => .tuple [.str "steps", .int k]
  | .late k => .tuple [.str "late", .int k]
def Pd.ok : Pd → Prop
  | .louder k => 2 ≤ k ∧ k ≤ 4
  | .cut k => 1 ≤ k ∧ k ≤ 50
  | .gate k => 1 ≤ k ∧ k ≤ 50
  | .turn => True
  | .fold => True
  | .lift k => -20 ≤ k ∧ k ≤ 20 ∧ k ≠ 0
  | .steps k => 2 ≤ k ∧ k ≤ 5
  | .late k => 1 ≤ k ∧ k ≤ 5
def Pd.isLate : Pd → Bool
  | .late _ => true
  | _ => false
def rowD (r : List Pd) : D := .tuple (r.map Pd.toD)
def boardD (b : List (List Pd)) : D := .tuple (b.map rowD)
def numsD (ns : List Int) : D := .tuple (ns.map PyData.int)
@[simp] theorem w_louder_cut : (("louder" : Str) = "cut") = False := eq_false (by decide +kernel)
@[simp] theorem w_louder_gate : (("louder" : Str) = "gate") = False := eq_false (by decide +kernel)
@[simp] theorem w_louder_turn : (("louder" : Str) = "turn") = False := eq_false (by decide +kernel)
@[simp] theorem w_louder_fold : (("louder" : Str) = "fold") = False := eq_false (by decide +kernel)
@[simp] theorem w_louder_lift : (("louder" : Str) = "lift") = False := eq_false (by decide +kernel)
@[simp] theorem w_louder_steps : (("louder" : Str) = "steps") = False := eq_false (by decide +kernel)
@[simp] theorem w_louder_late : (("louder" : Str) = "late") = False := eq_false (by decide +kernel)
@[simp] theorem w_cut_louder : (("cut" : Str) = "louder") = False := eq_false (by decide +kernel)
@[simp] theorem w_cut_gate : (("cut" : Str) = "gate") = False := eq_false (by decide +kernel)
@[simp] theorem w_cut_turn : (("cut" : Str) = "turn") = False := eq_false (by decide +kernel)
@[simp] theorem w_cut_fold : (("cut" : Str) = "fold") = False := eq_false (by decide +kernel)
@[simp] theorem w_cut_lift : (("cut" : Str) = "lift") = False := eq_false (by decide +kernel)
@[simp] theorem w_cut_steps : (("cut" : Str) = "steps") = False := eq_false (by decide +kernel)
@[simp] theorem w_cut_late : (("cut" : Str) = "late") = False := eq_false (by decide +kernel)
@[simp] theorem w_gate_louder : (("gate" : Str) = "louder") = False := eq_false (by decide +kernel)
@[simp] theorem w_gate_cut : (("gate" : Str) = "cut") = False := eq_false (by decide +kernel)
@[simp] theorem w_gate_turn : (("gate" : Str) = "turn") = False := eq_false (by decide +kernel)
@[simp] theorem w_gate_fold : (("gate" : Str) = "fold") = False := eq_false (by decide +kernel)
@[simp] theorem w_gate_lift : (("gate" : Str) = "lift") = False := eq_false (by decide +kernel)
@[simp] theorem w_gate_steps : (("gate" : Str) = "steps") = False := eq_false (by decide +kernel)
@[simp] theorem w_gate_late : (("gate" : Str) = "late") = False := eq_false (by decide +kernel)
@[simp] theorem w_turn_louder : (("turn" : Str) = "louder") = False := eq_false (by decide +kernel)
@[simp] theorem w_turn_cut : (("turn" : Str) = "cut") = False := eq_false (by decide +kernel)
@[simp] theorem w_turn_gate : (("turn" : Str) = "gate") = False := eq_false (by decide +kernel)
@[simp] theorem w_turn_fold : (("turn" : Str) = "fold") = False := eq_false (by decide +kernel)
@[simp] theorem w_turn_lift : (("turn" : Str) = "lift") = False := eq_false (by decide +kernel)
@[simp] theorem w_turn_steps : (("turn" : Str) = "steps") = False := eq_false (by decide +kernel)
@[simp] theorem w_turn_late : (("turn" : Str) = "late") = False := eq_false (by decide +kernel)
@[simp] theorem w_fold_louder : (("fold" : Str) = "louder") = False := eq_false (by decide +kernel)
@[simp] theorem w_fold_cut : (("fold" : Str) = "cut") = False := eq_false (by decide +kernel)
@[simp] theorem w_fold_gate : (("fold" : Str) = "gate") = False := eq_false (by decide +kernel)
@[simp] theorem w_fold_turn : (("fold" : Str) = "turn") = False := eq_false (by decide +kernel)
@[simp] theorem w_fold_lift : (("fold" : Str) = "lift") = False := eq_false (by decide +kernel)
@[simp] theorem w_fold_steps : (("fold" : Str) = "steps") = False := eq_false (by decide +kernel)
@[simp] theorem w_fold_late : (("fold" : Str) = "late") = False := eq_false (by decide +kernel)
@[simp] theorem w_lift_louder : (("lift" : Str) = "louder") = False := eq_false (by decide +kernel)
@[simp] theorem w_lift_cut : (("lift" : Str) = "cut") = False := eq_false (by decide +kernel)
@[simp] theorem w_lift_gate : (("lift" : Str) = "gate") = False := eq_false (by decide +kernel)
@[simp] theorem w_lift_turn : (("lift" : Str) = "turn") = False := eq_false (by decide +kernel)
@[simp] theorem w_lift_fold : (("lift" : Str) = "fold") = False := eq_false (by decide +kernel)
@[simp] theorem w_lift_steps : (("lift" : Str) = "steps") = False := eq_false (by decide +kernel)
@[simp] theorem w_lift_late : (("lift" : Str) = "late") = False := eq_false (by decide +kernel)
@[simp] theorem w_steps_louder : (("steps" : Str) = "louder") = False := eq_false (by decide +kernel)
@[simp] theorem w_steps_cut : (("steps" : Str) = "cut") = False := eq_false (by decide +kernel)
@[simp] theorem w_steps_gate : (("steps" : Str) = "gate") = False := eq_false (by decide +kernel)
@[simp] theorem w_steps_turn : (("steps" : Str) = "turn") = False := eq_false (by decide +kernel)
@[simp] theorem w_steps_fold : (("steps" : Str) = "fold") = False := eq_false (by decide +kernel)
@[simp] theorem w_steps_lift : (("steps" : Str) = "lift") = False := eq_false (by decide +kernel)
@[simp] theorem w_steps_late : (("steps" : Str) = "late") = False := eq_false (by decide +kernel)
@[simp] theorem w_late_louder : (("late" : Str) = "louder") = False := eq_false (by decide +kernel)
@[simp] theorem w_late_cut : (("late" : Str) = "cut") = False := eq_false (by decide +kernel)
@[simp] theorem w_late_gate : (("late" : Str) = "gate") = False := eq_false (by decide +kernel)
@[simp] theorem w_late_turn : (("late" : Str) = "turn") = False := eq_false (by decide +kernel)
@[simp] theorem w_late_fold : (("late" : Str) = "fold") = False := eq_false (by decide +kernel)
@[simp] theorem w_late_lift : (("late" : Str) = "lift") = False := eq_false (by decide +kernel)
@[simp] theorem w_late_steps : (("late" : Str) = "steps") = False := eq_false (by decide +kernel)
theorem str_ne {a b : Str} (h : (decide (a = b)) = false) : a ≠ b := of_decide_eq_false h
@[simp] theorem eqv_str (a b : Str) : PyData.eqv (.str a) (.str b) = decide (a = b) := by
  show (a == b) = decide (a = b)
  by_cases h : a = b <;> simp [h]
@[simp] theorem in_str (a : Str) (xs : List D) (μ : Sto) (h : xs.all flatD = true) : inW false (.d (.str a)) (.d (.list xs)) μ = .ok (.d (.bool (xs.any fun z => PyData.eqv z (.str a)))) μ := by
  show (if (flatD (.str a) = true ∧ xs.all flatD = true) ∨ (SeqAt.shaped (.str a) = true ∧ SeqAt.shaped (.list xs) = true) then Rs.ok (Wv.d (.bool (if false = true then !(xs.any fun z => PyData.eqv z (.str a)) else xs.any fun z => PyData.eqv z (.str a)))) μ else Rs.no) = _
  rw [if_pos (.inl ⟨rfl, h⟩)]
  rfl
theorem of3 {b : Nat} {μ : Sto} (h : Bg b μ) {xs : List Int} (h0 : 0 < xs.length) (h1 : xs.length < 1000000) : ∃ n μ', g__law_of [.l b, .d (.list (xs.map PyData.int))] μ = .ok (.d (.int n)) μ' ∧ n ∈ xs ∧ Stp b μ μ' := by
  obtain ⟨d, μ', e, hd, s⟩ := of_ok h (xs := xs.map PyData.int) (by simpa using h0) (by simpa using h1)
  obtain ⟨n, hn, rfl⟩ := List.mem_map.mp hd
  exact ⟨n, μ', e, hn, s⟩
theorem pedal_ok {b : Nat} {μ : Sto} (h : Bg b μ) (lates : Bool) : ∃ p μ', g__law_pedal [.l b, .d (.bool lates)] μ = .ok (.d (Pd.toD p)) μ' ∧ p.ok ∧ (lates = false → p.isLate = false) ∧ Stp b μ μ' := by
  obtain ⟨d, μ1, e1, hd, s1⟩ := of_ok h (xs := [.str "louder", .str "cut", .str "cut", .str "gate", .str "turn", .str "fold", .str "lift", .str "lift", .str "steps", .str (if lates then "late" else "gate")]) (by simp) (by simp)
  have hb1 := s1.bg h
  have L : ∀ {p : Pd} {μ' : Sto}, B__law_pedal [some (.l b), some (.d (.bool lates)), none, none] μ = .ok (.rt (.d p.toD)) μ' → Stp b μ μ' → g__law_pedal [.l b, .d (.bool lates)] μ = .ok (.d (Pd.toD p)) μ' := fun e s => by
    unfold g__law_pedal
    exact run_d e s.len
  have hd : d = .str "louder" ∨ d = .str "cut" ∨ d = .str "gate" ∨ d = .str "turn" ∨ d = .str "fold" ∨ d = .str "lift" ∨ d = .str "steps" ∨ (d = .str "late" ∧ lates = true) := by
    cases lates <;> simp at hd <;> rcases hd with rfl | rfl | rfl | rfl | rfl | rfl | rfl | rfl <;> simp
  have m2 : ∀ {μ'}, Stp b μ1 μ' → Stp b μ μ' := fun s => s1.trans s
  have t2 : ∀ {μ'}, Stp b μ μ' → ∀ m, 0 < m → m < 2 ^ 64 → ∃ r μ'', g__law_take [.l b, .d (.int m)] μ' = .ok (.d (.int r)) μ'' ∧ 0 ≤ r ∧ r < m ∧ Stp b μ μ'' := fun s m z0 z1 => by
    obtain ⟨r, μ2, e, r0, r1, s2⟩ := take_ok (s.bg h) z0 z1
    exact ⟨r, μ2, e, r0, r1, s.trans s2⟩
  have o2 : ∀ {μ'}, Stp b μ μ' → ∀ xs : List Int, 0 < xs.length → xs.length < 1000000 → ∃ n μ'', g__law_of [.l b, .d (.list (xs.map PyData.int))] μ' = .ok (.d (.int n)) μ'' ∧ n ∈ xs ∧ Stp b μ μ'' := fun s xs z0 z1 => by
    obtain ⟨r, μ2, e, r0, s2⟩ := of3 (s.bg h) z0 z1
    exact ⟨r, μ2, e, r0, s.trans s2⟩
  rcases hd with rfl | rfl | rfl | rfl | rfl | rfl | rfl | ⟨rfl, hl⟩
  · obtain ⟨r, μ2, e2, r0, r1, s2⟩ := t2 s1 3 (by decide) (by decide)
    refine ⟨.louder (2 + r), μ2, L ?_ s2, ⟨by omega, by omega⟩, fun _ => rfl, s2⟩
    unfold B__law_pedal
    cases lates <;> simp at e1 <;> simp [mkSeq, dats, LIM, o_addL, e1, e2, flatD, eq_str, Pd.toD]
  · obtain ⟨n, μ2, e2, hn, s2⟩ := o2 s1 [4, 9, 50] (by decide) (by decide)
    have hn : n = 4 ∨ n = 9 ∨ n = 50 := by simpa using hn
    obtain ⟨r, μ3, e3, r0, r1, s3⟩ := t2 s2 n (by omega) (by omega)
    refine ⟨.cut (1 + r), μ3, L ?_ s3, ⟨by omega, by omega⟩, fun _ => rfl, s3⟩
    simp only [List.map_cons, List.map_nil] at e2
    unfold B__law_pedal
    cases lates <;> simp at e1 <;> simp [mkSeq, dats, LIM, o_addL, e1, e2, e3, flatD, eq_str, Pd.toD]
  · obtain ⟨n, μ2, e2, hn, s2⟩ := o2 s1 [4, 9, 50] (by decide) (by decide)
    have hn : n = 4 ∨ n = 9 ∨ n = 50 := by simpa using hn
    obtain ⟨r, μ3, e3, r0, r1, s3⟩ := t2 s2 n (by omega) (by omega)
    refine ⟨.gate (1 + r), μ3, L ?_ s3, ⟨by omega, by omega⟩, fun _ => rfl, s3⟩
    simp only [List.map_cons, List.map_nil] at e2
    unfold B__law_pedal
    cases lates <;> simp at e1 <;> simp [mkSeq, dats, LIM, o_addL, e1, e2, e3, flatD, eq_str, Pd.toD]
  · refine ⟨.turn, μ1, L ?_ s1, trivial, fun _ => rfl, s1⟩
    unfold B__law_pedal
    cases lates <;> simp at e1 <;> simp [mkSeq, dats, LIM, o_addL, e1, e1, flatD, eq_str, Pd.toD]
  · refine ⟨.fold, μ1, L ?_ s1, trivial, fun _ => rfl, s1⟩
    unfold B__law_pedal
    cases lates <;> simp at e1 <;> simp [mkSeq, dats, LIM, o_addL, e1, e1, flatD, eq_str, Pd.toD]
  · obtain ⟨g, μ2, e2, hg, s2⟩ := o2 s1 [-1, 1] (by decide) (by decide)
    obtain ⟨n, μ3, e3, hn, s3⟩ := o2 s2 [3, 20] (by decide) (by decide)
    have hn : n = 3 ∨ n = 20 := by simpa using hn
    have hg : g = -1 ∨ g = 1 := by simpa using hg
    obtain ⟨r, μ4, e4, r0, r1, s4⟩ := t2 s3 n (by omega) (by omega)
    refine ⟨.lift (g * (1 + r)), μ4, L ?_ s4, ⟨?_, ?_, ?_⟩, fun _ => rfl, s4⟩
    · have c : CMul g (1 + r) := cmul1 (by omega)
      simp only [List.map_cons, List.map_nil] at e2 e3
      unfold B__law_pedal
      cases lates <;> simp at e1 <;> simp [mkSeq, dats, LIM, o_addL, e1, e2, e3, e4, c, flatD, eq_str, Pd.toD]
    · rcases hg with rfl | rfl <;> omega
    · rcases hg with rfl | rfl <;> omega
    · rcases hg with rfl | rfl <;> omega
  · obtain ⟨r, μ2, e2, r0, r1, s2⟩ := t2 s1 4 (by decide) (by decide)
    refine ⟨.steps (2 + r), μ2, L ?_ s2, ⟨by omega, by omega⟩, fun _ => rfl, s2⟩
    unfold B__law_pedal
    cases lates <;> simp at e1 <;> simp [mkSeq, dats, LIM, o_addL, e1, e2, flatD, eq_str, Pd.toD]
  · subst hl
    obtain ⟨r, μ2, e2, r0, r1, s2⟩ := t2 s1 5 (by decide) (by decide)
    refine ⟨.late (1 + r), μ2, L ?_ s2, ⟨by omega, by omega⟩, fun z => (by cases z), s2⟩
    unfold B__law_pedal
    simp at e1
    simp [mkSeq, dats, LIM, o_addL, e1, e2, flatD, eq_str, Pd.toD]

/-! ### rows, boards, numbers -/
def rowOk (r : List Pd) : Prop := ∀ p ∈ r, p.ok
theorem rb {j : Int} (h0 : 0 ≤ j) (h1 : j ≤ 1000000) : -RB ≤ j ∧ j ≤ RB := by
  have : RB = 1000000000000 := rfl
  omega
theorem rangeD_len (n : Nat) : (rangeD 0 n).length = n := rangeD_length 0 n
theorem pedals_ok {b : Nat} {μ : Sto} (h : Bg b μ) (most : Nat) (hm : most < 1000) (lates : Bool) : ∃ r μ', g__law_pedals [.l b, .d (.int most), .d (.bool lates)] μ = .ok (.d (rowD r)) μ' ∧ rowOk r ∧ r.length ≤ most ∧ (lates = false → ∀ p ∈ r, p.isLate = false) ∧ Stp b μ μ' := by
  obtain ⟨n, μ1, e1, n0, n1, s1⟩ := take_ok h (m := (most : Int) + 1) (by omega) (by omega)
  obtain ⟨k, rfl⟩ := Int.eq_ofNat_of_zero_le n0
  have hk : k ≤ most := by omega
  obtain ⟨ps, μ2, e2, l2, p2, s2⟩ := comp_draw (g := gVar 3) (e := fCall (callD 2 g__law_pedal) (fCons (fVar 0) (fCons (fVar 2) (fNil)))) (env := [some (.l b), some (.d (.int most)), some (.d (.bool lates)), none]) (toD := Pd.toD) (P := fun p => p.ok ∧ (lates = false → p.isLate = false)) (I := fun μ' => Stp b μ μ') (rangeD 0 k) μ1 [] s1 (by simp) (by
    intro x hx μ' s'
    obtain ⟨p, μ2, e2, o2, l2, s2⟩ := pedal_ok (s'.bg h) lates
    exact ⟨_, p, μ2, rfl, by simp [e2], ⟨o2, l2⟩, s'.trans s2⟩) (by rw [rangeD_len]; simp [LIM]; omega)
  rw [rangeD_len] at l2
  refine ⟨ps, μ2, ?_, fun p hp => (p2 p hp).1, by simp at l2; omega, fun z p hp => (p2 p hp).2 z, s2⟩
  unfold g__law_pedals
  refine run_d ?_ s2.len
  unfold B__law_pedals
  simp [startE, e1, rg_k (show k ≤ 1000000 by omega)]
  simp at e2 ⊢
  rw [e2]
  simp [rowD]
def boardOk (b : List (List Pd)) : Prop := ∀ r ∈ b, rowOk r
theorem board_ok {b : Nat} {μ : Sto} (h : Bg b μ) (most : Nat) (hm : most < 1000) : ∃ B μ', g__law_board [.l b, .d (.int most)] μ = .ok (.d (boardD B)) μ' ∧ boardOk B ∧ (∀ r ∈ B, r.length ≤ most) ∧ 1 ≤ B.length ∧ B.length ≤ 3 ∧ Stp b μ μ' := by
  obtain ⟨n, μ1, e1, hn, s1⟩ := of3 h (xs := [1, 1, 2, 3]) (by decide) (by decide)
  have hn : n = 1 ∨ n = 2 ∨ n = 3 := by simp at hn; omega
  obtain ⟨k, rfl⟩ := Int.eq_ofNat_of_zero_le (show 0 ≤ n by omega)
  obtain ⟨ps, μ2, e2, l2, p2, s2⟩ := comp_draw (g := gVar 3) (e := fCall (callD 3 g__law_pedals) (fCons (fVar 0) (fCons (fVar 1) (fCons (fC (.bool true)) (fNil))))) (env := [some (.l b), some (.d (.int most)), some (.d (.int k)), none]) (toD := rowD) (P := fun r => rowOk r ∧ r.length ≤ most) (I := fun μ' => Stp b μ μ') (rangeD 0 k) μ1 [] s1 (by simp) (by
    intro x hx μ' s'
    obtain ⟨p, μ2, e2, o2, l2, _, s2⟩ := pedals_ok (s'.bg h) most hm true
    exact ⟨_, p, μ2, rfl, by simp [e2], ⟨o2, l2⟩, s'.trans s2⟩) (by rw [rangeD_len]; simp [LIM]; omega)
  rw [rangeD_len] at l2
  simp at l2
  refine ⟨ps, μ2, ?_, fun p hp => (p2 p hp).1, fun p hp => (p2 p hp).2, by omega, by omega, s2⟩
  unfold g__law_board
  refine run_d ?_ s2.len
  unfold B__law_board
  simp only [List.map_cons, List.map_nil] at e1
  simp [startE, mkSeq, dats, LIM, e1, rg_k (show k ≤ 1000000 by omega)]
  simp at e2 ⊢
  rw [e2]
  simp [boardD]
theorem for_draw {β : Type} {g : FG} {bd : FS} {P : List β → Prop} {E : List β → Env → Prop} {I : Sto → Prop} (N : Nat) : ∀ (xs : List D) (acc : List β) (env : Env) (μ : Sto), acc.length + xs.length ≤ N → I μ → E acc env → P acc → (∀ x ∈ xs, ∀ acc env μ, acc.length < N → I μ → E acc env → P acc → ∃ env1 env2 b μ', g (.d x) env μ = .ok env1 μ ∧ bd env1 μ = .ok (.nx env2) μ' ∧ E (acc ++ [b]) env2 ∧ P (acc ++ [b]) ∧ I μ') → ∃ (bs : List β) (env' : Env) (μ' : Sto), forF g bd xs env μ = .ok (.nx env') μ' ∧ E bs env' ∧ bs.length = acc.length + xs.length ∧ P bs ∧ I μ'
  | [], acc, env, μ, _, h, he, hp, _ => ⟨acc, env, μ, rfl, he, rfl, hp, h⟩
  | x :: r, acc, env, μ, hN, h, he, hp, hs => by
    rw [List.length_cons] at hN
    obtain ⟨env1, env2, b, μ1, h1, h2, h3, h4, h5⟩ := hs x List.mem_cons_self acc env μ (by omega) h he hp
    obtain ⟨bs, env', μ', h6, h7, h8, h9⟩ := for_draw (P := P) (E := E) (I := I) N r (acc ++ [b]) env2 μ1 (by rw [List.length_append, List.length_singleton]; omega) h5 h3 h4 fun y hy => hs y (List.mem_cons_of_mem _ hy)
    refine ⟨bs, env', μ', ?_, h7, by rw [h8, List.length_append, List.length_singleton, List.length_cons]; omega, h9⟩
    unfold forF
    rw [h1]
    simp only [noex_ok, Rs.bind_ok, h2, h6]
theorem numbers_ok {b : Nat} {μ : Sto} (h : Bg b μ) (most : Nat) (hm : most < 1000) : ∃ ns μ', g__law_numbers [.l b, .d (.int most)] μ = .ok (.d (numsD ns)) μ' ∧ ns.length ≤ most ∧ (∀ n ∈ ns, -1000000000000 ≤ n ∧ n ≤ 1000000000000) ∧ Stp b μ μ' := by
  obtain ⟨n, μ1, e1, n0, n1, s1⟩ := take_ok h (m := (most : Int) + 1) (by omega) (by omega)
  obtain ⟨k, rfl⟩ := Int.eq_ofNat_of_zero_le n0
  have hk : k ≤ most := by omega
  have cp : CPow 10 12 := by unfold CPow; decide
  obtain ⟨ns, env', μ2, e2, he, l2, p2, s2⟩ := for_draw (β := Int) (g := gVar 3) (bd := (sCons (sAsg (fCall (callD 2 g__law_of) (fCons (fVar 0) (fCons (fLst (fCons (fC (.int 4)) (fCons (fC (.int 12)) (fCons (fC (.int 60)) (fCons (fC (.int 400)) (fCons (fOp (opI fun i j => if CPow i j then some (.int (i ^ j.toNat)) else none) (fC (.int 10)) (fC (.int 12))) (fNil))))))) (fNil)))) (gVar 4)) (sAsg (fOp addW (fVar 2) (fTup (fCons (fOp (opI fun i j => some (.int (i - j))) (fCall (callD 2 g__law_take) (fCons (fVar 0) (fCons (fOp addW (fOp mulW (fC (.int 2)) (fVar 4)) (fC (.int 1))) (fNil)))) (fVar 4)) (fNil)))) (gVar 2))))
    (P := fun ns => ∀ n ∈ ns, -1000000000000 ≤ n ∧ n ≤ 1000000000000) (E := fun ns env => ∃ t z, env = [some (.l b), some (.d (.int most)), some (.d (numsD ns)), t, z]) (I := fun μ' => Stp b μ μ') k (rangeD 0 k) [] [some (.l b), some (.d (.int most)), some (.d (numsD [])), none, none] μ1 (by rw [rangeD_len]; simp) s1 ⟨_, _, rfl⟩ (by simp) (by
    intro x hx acc env μ' hl s' he hp
    obtain ⟨t, z, rfl⟩ := he
    obtain ⟨m, μ3, e3, hm3, s3⟩ := of3 (s'.bg h) (xs := [4, 12, 60, 400, 1000000000000]) (by decide) (by decide)
    have hm3 : 4 ≤ m ∧ m ≤ 1000000000000 := by simp at hm3; omega
    have s3' := s'.trans s3
    obtain ⟨r, μ4, e4, r0, r1, s4⟩ := take_ok (s3'.bg h) (m := 2 * m + 1) (by omega) (by omega)
    have c : CMul 2 m := cmul1 (by omega)
    simp only [List.map_cons, List.map_nil] at e3
    refine ⟨_, [some (.l b), some (.d (.int most)), some (.d (numsD (acc ++ [r - m]))), some (.d x), some (.d (.int m))], r - m, μ4, rfl, ?_, ⟨_, _, rfl⟩, ?_, s3'.trans s4⟩
    · have cp' : (10 : Int) ^ (12 : Int).toNat = 1000000000000 := by decide
      have e5 : ∀ μ, opI (fun i j => if CPow i j then some (.int (i ^ j.toNat)) else none) (.d (.int 10)) (.d (.int 12)) μ = .ok (.d (.int 1000000000000)) μ := fun μ => by
        show (match (if CPow 10 12 then some (PyData.int ((10 : Int) ^ (12 : Int).toNat)) else none) with | some d => Rs.ok (Wv.d d) μ | none => Rs.no) = _
        rw [if_pos cp, cp']
      have hl' : acc.length + 1 ≤ 16000000 := by omega
      simp [e5, e3, c, e4, numsD, o_addT, LIM, hl']
    · intro n hn
      rcases List.mem_append.mp hn with hn | hn
      · exact hp n hn
      · rw [List.mem_singleton.mp hn]
        omega)
  rw [rangeD_len] at l2
  obtain ⟨t, z, rfl⟩ := he
  refine ⟨ns, μ2, ?_, by simp at l2; omega, p2, s2⟩
  unfold g__law_numbers
  refine run_d ?_ s2.len
  unfold B__law_numbers
  simp [startE, e1, rg_k (show k ≤ 1000000 by omega)]
  simp [numsD] at e2 ⊢
  rw [e2]
  simp

/-! ### the bag's making -/
theorem bag_ok (ns : List Int) (k : Nat) (hk : k < 1000) (μ : Sto) : ∃ x y, g__law_bag [.s ns, .d (.int k)] μ = .ok (.l μ.length) (μ ++ [bagO x y]) ∧ BagOk x y := by
  have cp : CPow 10 18 := by unfold CPow; decide
  have e5 : ∀ μ, opI (fun i j => if CPow i j then some (.int (i ^ j.toNat)) else none) (.d (.int 10)) (.d (.int 18)) μ = .ok (.d (.int 1000000000000000000)) μ := fun μ => by
    show (match (if CPow 10 18 then some (PyData.int ((10 : Int) ^ (18 : Int).toNat)) else none) with | some d => Rs.ok (Wv.d d) μ | none => Rs.no) = _
    rw [if_pos cp]
    rfl
  have hc : ∃ c : Int, 0 ≤ c ∧ (fIf (fB (fOp (cmpW fun i j => decide (i < j)) (fVar 1) (fCall kLen (fCons (fVar 0) (fNil))))) (fCall kAbs (fCons (fCall kInt (fCons (fOp ixW (fVar 0) (fVar 1)) (fNil))) (fNil))) (fOp addW (fOp mulW (fC (.int 53)) (fVar 1)) (fC (.int 13)))) [some (.s ns), some (.d (.int k)), none] μ = .ok (.d (.int c)) μ := by
    by_cases h : k < ns.length
    · refine ⟨if ns[k] < 0 then -ns[k] else ns[k], by split <;> omega, ?_⟩
      have e : ixW (.s ns) (.d (.int k)) μ = .ok (.d (.int ns[k])) μ := by
        show (match atI ns (k : Int) with | some k => Rs.ok (Wv.d (.int k)) μ | none => Rs.no) = _
        rw [atI_nat, List.getElem?_eq_getElem h]
      simp [h, e]
    · have c : CMul 53 k := cmul1 (by omega)
      exact ⟨53 * k + 13, by omega, by simp [h, c]⟩
  obtain ⟨c, c0, ec⟩ := hc
  have ck : CMul 70001 k := cmul1 (by omega)
  refine ⟨if 1000000000000000000 ≤ c then c else 0, (c % 2147483423 + 70001 * k + 31) % 2147483423, ?_, by split <;> omega, Int.emod_nonneg _ (by decide), Int.emod_lt_of_pos _ (by decide)⟩
  unfold g__law_bag runF B__law_bag
  have hs : startE 3 [.s ns, .d (.int k)] = [some (.s ns), some (.d (.int k)), none] := rfl
  rw [hs, e_sCons, e_sAsg, ec]
  simp [e5, o_mod (show (0 : Int) < 2147483423 by decide), ck, LIM]
  have key : ∀ z : Int, handBack μ (.rt (.l μ.length)) (μ ++ [.lst [.d (.int z), .d (.int ((c % 2147483423 + 70001 * k + 31) % 2147483423))]]) = .ok (.l μ.length) (μ ++ [bagO z ((c % 2147483423 + 70001 * k + 31) % 2147483423)]) := fun z => by
    unfold handBack
    simp [bagO]
  by_cases hz : 1000000000000000000 ≤ c
  · simp [hz, key]
  · simp [hz, key]
theorem bag_new {μ : Sto} {x y : Int} (h : BagOk x y) : Bg μ.length (μ ++ [bagO x y]) := ⟨x, y, by simp, h⟩
end Ped

/-! PedR: what the program's own functions answer of pedals, rows, boards, sounds -/
namespace Ped
open PySem L2 PyProof.Rows PySem.Spec
def shape : Pd → Int → Int
  | .louder k, n => n * k
  | .cut k, n => if (if n < k then n else k) > 0 - k then (if n < k then n else k) else 0 - k
  | .gate k, n => if k ≤ n ∨ n ≤ 0 - k then n else 0
  | .turn, n => 0 - n
  | .fold, n => if 0 - n > n then 0 - n else n
  | .lift k, n => n + k
  | .steps k, n => if 0 ≤ n then n - n % k else (0 - n) % k + n
  | .late _, n => n
def rowShape (r : List Pd) (n : Int) : Int := r.foldl (fun n p => shape p n) n
def lateK : Pd → Int
  | .late k => k
  | _ => 0
def lateOf (r : List Pd) : Int := (r.map lateK).sum
theorem isty_int (T : String) (i : Int) : isTy T (.int i) = ("int" == T || (T == "int" && "int" == "bool")) := rfl
/-- data of a known depth, that can be laid -/
def Shp (n : Nat) (d : D) : Prop := d.canLay0 = true ∧ d.depth ≤ n
theorem Shp.mono {m n : Nat} {d : D} (h : Shp m d) (hm : m ≤ n) : Shp n d := ⟨h.1, Nat.le_trans h.2 hm⟩
theorem Shp.shaped {n : Nat} {d : D} (h : Shp n d) (hn : n ≤ 64) : SeqAt.shaped d = true := by
  unfold SeqAt.shaped
  rw [h.1, decide_eq_true (Nat.le_trans h.2 hn)]
  rfl
theorem Shp.int (i : Int) (n : Nat) : Shp n (.int i) := ⟨rfl, Nat.zero_le _⟩
theorem Shp.bool (i : Bool) (n : Nat) : Shp n (.bool i) := ⟨rfl, Nat.zero_le _⟩
theorem Shp.non (n : Nat) : Shp n .none := ⟨rfl, Nat.zero_le _⟩
theorem Shp.str {s : Str} (h : (PyData.str s).canLay0 = true) (n : Nat) : Shp n (.str s) := ⟨h, Nat.zero_le _⟩
theorem Shp.all {n : Nat} : ∀ {ds : List D}, (∀ d ∈ ds, Shp n d) → PyData.canLayAll0 ds = true ∧ PyData.depthAll ds ≤ n
  | [], _ => ⟨rfl, Nat.zero_le _⟩
  | d :: r, h => by
    obtain ⟨h1, h2⟩ := Shp.all fun e he => h e (List.mem_cons_of_mem _ he)
    obtain ⟨h3, h4⟩ := h d List.mem_cons_self
    exact ⟨by show (d.canLay0 && PyData.canLayAll0 r) = true; rw [h1, h3]; rfl, Nat.max_le.mpr ⟨h4, h2⟩⟩
theorem Shp.tup {n : Nat} {ds : List D} (h : ∀ d ∈ ds, Shp n d) : Shp (n + 1) (.tuple ds) := ⟨(Shp.all h).1, Nat.succ_le_succ (Shp.all h).2⟩
theorem Shp.lst {n : Nat} {ds : List D} (h : ∀ d ∈ ds, Shp n d) : Shp (n + 1) (.list ds) := ⟨(Shp.all h).1, Nat.succ_le_succ (Shp.all h).2⟩
theorem shp_pd (p : Pd) : Shp 1 p.toD := by
  cases p <;> (refine Shp.tup fun d hd => ?_) <;> simp at hd <;> (try rcases hd with rfl | rfl) <;> (try subst hd) <;> first | exact .str (by decide +kernel) 0 | exact .int _ 0
theorem shp_row (r : List Pd) : Shp 2 (rowD r) := Shp.tup fun d hd => by
  obtain ⟨p, _, rfl⟩ := List.mem_map.mp hd
  exact shp_pd p
theorem shp_board (b : List (List Pd)) : Shp 3 (boardD b) := Shp.tup fun d hd => by
  obtain ⟨p, _, rfl⟩ := List.mem_map.mp hd
  exact shp_row p
theorem shp_nil : SeqAt.shaped (.tuple []) = true := rfl
section
variable {μ : Sto}
@[simp] theorem is_number_i (i : Int) : g_is_number [.d (.int i)] μ = .ok (.d (.bool true)) μ := by
  unfold g_is_number
  refine run_0 ?_
  unfold B_is_number
  simp [startE, isTy, tyD]
@[simp] theorem isTy_tup (ds : List D) : isTy "tuple" (.tuple ds) = true := rfl
@[simp] theorem isTy_str (s : Str) : isTy "str" (.str s) = true := rfl
theorem same_eqv {d e : D} (h : scalD d e = true) : sameD d e = PyData.eqv d e := by
  cases d <;> cases e <;> first | exact absurd h Bool.false_ne_true | (simp [sameD, PyData.eqv]; done) | (simp only [sameD, PyData.eqv]; rename_i a b; by_cases hh : a = b <;> simp [hh])
theorem eq_dd (n : Bool) {d e : D} (h1 : SeqAt.shaped d = true) (h2 : SeqAt.shaped e = true) : eqW n (.d d) (.d e) μ = .ok (.d (.bool (if n then !(PyData.eqv d e) else PyData.eqv d e))) μ := by
  show (match eqD d e with | some b => Rs.ok (Wv.d (.bool (if n then !b else b))) μ | none => Rs.no) = _
  unfold eqD
  by_cases hs : scalD d e = true
  · rw [if_pos hs, same_eqv hs]
  · rw [if_neg hs, if_pos ⟨h1, h2⟩]
@[simp] theorem look_louder : v_BOUNDS.lookup ("louder" : Str) = some (2, 4) := by with_unfolding_all rfl
@[simp] theorem look_cut : v_BOUNDS.lookup ("cut" : Str) = some (1, 50) := by with_unfolding_all rfl
@[simp] theorem look_gate : v_BOUNDS.lookup ("gate" : Str) = some (1, 50) := by with_unfolding_all rfl
@[simp] theorem look_lift : v_BOUNDS.lookup ("lift" : Str) = some (-20, 20) := by with_unfolding_all rfl
@[simp] theorem look_steps : v_BOUNDS.lookup ("steps" : Str) = some (2, 5) := by with_unfolding_all rfl
@[simp] theorem look_late : v_BOUNDS.lookup ("late" : Str) = some (1, 5) := by with_unfolding_all rfl
@[simp] theorem look_turn : v_BOUNDS.lookup ("turn" : Str) = none := by with_unfolding_all rfl
@[simp] theorem look_fold : v_BOUNDS.lookup ("fold" : Str) = none := by with_unfolding_all rfl
@[simp] theorem inTab_s (n : Bool) (z : Str) : inTabW n v_BOUNDS (.d (.str z)) μ = .ok (.d (.bool (if n then !(v_BOUNDS.lookup z).isSome else (v_BOUNDS.lookup z).isSome))) μ := rfl
@[simp] theorem inPlain (z : Str) : inKW false v_PLAIN (.d (.str z)) μ = .ok (.d (.bool (decide (z = "turn" ∨ z = "fold")))) μ := by
  show (if flatD (.str z) = true ∧ v_PLAIN.all flatD = true then Rs.ok (Wv.d (.bool (if false = true then !(v_PLAIN.any fun y => PyData.eqv y (.str z)) else v_PLAIN.any fun y => PyData.eqv y (.str z)))) μ else Rs.no) = _
  rw [if_pos ⟨rfl, rfl⟩, if_neg Bool.false_ne_true]
  congr 3
  unfold v_PLAIN
  simp only [List.map_cons, List.map_nil, List.any_cons, List.any_nil, eqv_str, Bool.or_false]
  by_cases h1 : z = "turn" <;> by_cases h2 : z = "fold" <;> simp [h1, h2, eq_comm]
theorem is_pedal_ok {p : Pd} (h : p.ok) : g_is_pedal [.d p.toD] μ = .ok (.d (.bool true)) μ := by
  unfold g_is_pedal
  refine run_0 ?_
  unfold B_is_pedal
  have hs := eq_dd (μ := μ) false ((shp_pd p).shaped (by decide)) shp_nil
  cases p <;> simp [Pd.ok] at h <;> simp [Pd.toD] at hs <;> simp [startE, Pd.toD, eq_int, hs, sTab, h, PyData.eqv, PyData.eqvAll] <;> omega
theorem toD_tuple (p : Pd) : ∃ ds, p.toD = .tuple ds := by cases p <;> exact ⟨_, rfl⟩
theorem all_true {α : Type} (xs : List α) : (xs.map fun _ => PyData.bool true) = (List.replicate xs.length true).map PyData.bool := by
  induction xs with
  | nil => rfl
  | cons a r ih => simp [List.replicate_succ, ih]
theorem kAll_true {α : Type} (xs : List α) : kAll [.d (.list (xs.map fun _ => PyData.bool true))] μ = .ok (.d (.bool true)) μ := by
  rw [all_true, k_all_b]
  simp
theorem is_row_ok {r : List Pd} (h : rowOk r) (hl : r.length ≤ 6) : g_is_row [.d (rowD r)] μ = .ok (.d (.bool true)) μ := by
  unfold g_is_row
  refine run_0 ?_
  unfold B_is_row
  have e := comp_map (g := gVar 1) (e := fCall (callD 1 g_is_pedal) (fCons (fVar 1) (fNil))) (env := [some (.d (rowD r)), none]) (toD := Pd.toD) (φ := fun _ => .bool true) r μ [] (fun p hp => ⟨_, rfl, by simp [is_pedal_ok (h p hp)]⟩) (by simp [LIM]; omega)
  simp [startE, rowD] at e ⊢
  have hl' : (r.length : Int) ≤ 6 := by omega
  simp [hl', e, kAll_true]
theorem is_board_ok {b : List (List Pd)} (h : boardOk b) (hl : ∀ r ∈ b, r.length ≤ 6) (h1 : 1 ≤ b.length) (h3 : b.length ≤ 3) : g_is_board [.d (boardD b)] μ = .ok (.d (.bool true)) μ := by
  unfold g_is_board
  refine run_0 ?_
  unfold B_is_board
  have e := comp_map (g := gVar 1) (e := fCall (callD 1 g_is_row) (fCons (fVar 1) (fNil))) (env := [some (.d (boardD b)), none]) (toD := rowD) (φ := fun _ => .bool true) b μ [] (fun p hp => ⟨_, rfl, by simp [is_row_ok (h p hp) (hl p hp)]⟩) (by simp [LIM]; omega)
  simp [startE, boardD] at e ⊢
  have hl' : (b.length : Int) ≤ 3 := by omega
  have hl2 : 1 ≤ (b.length : Int) := by omega
  simp [hl', hl2, e, kAll_true]
theorem are_numbers_ok (ns : List Int) (hl : ns.length ≤ 1000000) : g_are_numbers [.d (numsD ns)] μ = .ok (.d (.bool true)) μ := by
  unfold g_are_numbers
  refine run_0 ?_
  unfold B_are_numbers
  have e := comp_map (g := gVar 1) (e := fCall (callD 1 g_is_number) (fCons (fVar 1) (fNil))) (env := [some (.d (numsD ns)), none]) (toD := PyData.int) (φ := fun _ => .bool true) ns μ [] (fun p hp => ⟨_, rfl, by simp⟩) (by simp [LIM]; omega)
  simp [startE, numsD] at e ⊢
  simp [e, kAll_true]
theorem is_sound_ok (ns : List Int) (hl : ns.length ≤ 40) : g_is_sound [.d (numsD ns)] μ = .ok (.d (.bool true)) μ := by
  unfold g_is_sound
  refine run_0 ?_
  unfold B_is_sound
  have hl' : (ns.length : Int) ≤ 40 := by omega
  have e := are_numbers_ok (μ := μ) ns (by omega)
  simp [numsD] at e
  simp [startE, e, numsD, hl']
theorem need_row_ok {r : List Pd} (h : rowOk r) (hl : r.length ≤ 6) : g_need_row [.d (rowD r)] μ = .ok (.d .none) μ := by
  unfold g_need_row
  refine run_n (env := [some (.d (rowD r))]) ?_
  unfold B_need_row
  simp [startE, is_row_ok h hl]
theorem need_board_ok {b : List (List Pd)} (h : boardOk b) (hl : ∀ r ∈ b, r.length ≤ 6) (h1 : 1 ≤ b.length) (h3 : b.length ≤ 3) : g_need_board [.d (boardD b)] μ = .ok (.d .none) μ := by
  unfold g_need_board
  refine run_n (env := [some (.d (boardD b))]) ?_
  unfold B_need_board
  simp [startE, is_board_ok h hl h1 h3]
theorem need_sound_ok (ns : List Int) (hl : ns.length ≤ 40) : g_need_sound [.d (numsD ns)] μ = .ok (.d .none) μ := by
  unfold g_need_sound
  refine run_n (env := [some (.d (numsD ns))]) ?_
  unfold B_need_sound
  simp [startE, is_sound_ok ns hl]
theorem need_number_ok (n : Int) : g_need_number [.d (.int n)] μ = .ok (.d .none) μ := by
  unfold g_need_number
  refine run_n (env := [some (.d (.int n))]) ?_
  unfold B_need_number
  simp [startE]
theorem pedal_shape_ok {p : Pd} (h : p.ok) (n : Int) : g_pedal_shape [.d p.toD, .d (.int n)] μ = .ok (.d (.int (shape p n))) μ := by
  unfold g_pedal_shape
  refine run_0 ?_
  unfold B_pedal_shape
  cases p with
  | louder k =>
    have c : CMul n k := cmul2 (by simp [Pd.ok] at h; omega)
    simp [startE, Pd.toD, eq_str, c, shape]
  | steps k =>
    have c : 0 < k := by simp [Pd.ok] at h; omega
    by_cases hn : 0 ≤ n <;> simp [startE, Pd.toD, eq_str, shape, o_mod c, hn]
  | gate k =>
    by_cases h1 : k ≤ n
    · simp [startE, Pd.toD, eq_str, shape, h1]
    · by_cases h2 : n ≤ -k <;> simp [startE, Pd.toD, eq_str, shape, h1, h2]
  | _ => simp [startE, Pd.toD, eq_str, shape]
theorem row_shape_ok {r : List Pd} (h : rowOk r) (n : Int) : g_row_shape [.d (rowD r), .d (.int n)] μ = .ok (.d (.int (rowShape r n))) μ := by
  unfold g_row_shape
  refine run_0 ?_
  unfold B_row_shape
  obtain ⟨env', e, t, rfl⟩ := for_fold (g := gVar 2) (b := sAsg (fCall (callD 2 g_pedal_shape) (fCons (fVar 2) (fCons (fVar 1) (fNil)))) (gVar 1)) (toD := Pd.toD) (E := fun n env => ∃ t, env = [some (.d (rowD r)), some (.d (.int n)), t]) (step := fun n p => shape p n) r n [some (.d (rowD r)), some (.d (.int n)), none] μ ⟨_, rfl⟩ (by
    rintro p hp n env ⟨t, rfl⟩
    exact ⟨_, _, rfl, by simp [pedal_shape_ok (h p hp)]; rfl, _, rfl⟩)
  simp [startE, rowD] at e ⊢
  rw [e]
  simp [rowShape]
@[simp] theorem k_sum_g {α : Type} (f : α → Int) (xs : List α) : kSum [.d (.list (xs.map fun x => .int (f x)))] μ = .ok (.d (.int (xs.map f).sum)) μ := by
  have := k_sum_i (μ := μ) (xs.map f)
  rw [List.map_map] at this
  exact this
theorem late_sum : ∀ r : List Pd, ((r.filter Pd.isLate).map lateK).sum = lateOf r
  | [] => rfl
  | p :: r => by
    have := late_sum r
    cases p <;> simp_all [List.filter_cons, Pd.isLate, lateK, lateOf]
theorem late_of_ok {r : List Pd} (hl : r.length ≤ 1000000) : g_late_of [.d (rowD r)] μ = .ok (.d (.int (lateOf r))) μ := by
  unfold g_late_of
  refine run_0 ?_
  unfold B_late_of
  have e := comp_filter (g := gVar 1) (t := fB (fOp (eqW false) (fOp ixW (fVar 1) (fC (.int 0))) (fC (.str "late")))) (e := fOp ixW (fVar 1) (fC (.int 1))) (env := [some (.d (rowD r)), none]) (toD := Pd.toD) (q := Pd.isLate) (φ := fun p => .int (lateK p)) r μ [] (by
    intro p hp
    refine ⟨_, rfl, ?_, ?_⟩
    · cases p <;> simp [Pd.toD, eq_str, Pd.isLate]
    · cases p <;> simp [Pd.toD, Pd.isLate, lateK]) (by simp [LIM]; omega)
  simp only [List.nil_append, rowD] at e
  simp [startE, rowD, e, late_sum]
end
end Ped

/-! PedS: what is heard; the law's own shaping and hearing -/
namespace Ped
open PySem L2 PyProof.Rows PySem.Spec
/-! ### data that is the same -/
mutual
theorem eqv_refl : ∀ d : D, d.canLay0 = true → PyData.eqv d d = true
  | .none, _ => rfl
  | .bool b, _ => by simp [PyData.eqv]
  | .int b, _ => by simp [PyData.eqv]
  | .str b, _ => by simp [PyData.eqv]
  | .list xs, h => eqvAll_refl xs h
  | .tuple xs, h => eqvAll_refl xs h
  | .dict _, h => by cases h
theorem eqvAll_refl : ∀ ds : List D, PyData.canLayAll0 ds = true → PyData.eqvAll ds ds = true
  | [], _ => rfl
  | d :: r, h => by
    have h : (d.canLay0 && PyData.canLayAll0 r) = true := h
    rw [Bool.and_eq_true] at h
    show (PyData.eqv d d && PyData.eqvAll r r) = true
    rw [eqv_refl d h.1, eqvAll_refl r h.2]
    rfl
end
section
variable {μ : Sto}
theorem ne_same {d : D} {n : Nat} (h : Shp n d) (hn : n ≤ 64) : eqW true (.d d) (.d d) μ = .ok (.d (.bool false)) μ := by
  rw [eq_dd true (h.shaped hn) (h.shaped hn), eqv_refl d h.1]
  rfl
theorem shp_ints (ns : List Int) : Shp 1 (.list (ns.map PyData.int)) := Shp.lst fun d hd => by
  obtain ⟨i, _, rfl⟩ := List.mem_map.mp hd
  exact .int i 0
theorem shp_nums (ns : List Int) : Shp 1 (numsD ns) := Shp.tup fun d hd => by
  obtain ⟨i, _, rfl⟩ := List.mem_map.mp hd
  exact .int i 0
end
/-! ### loops over names and store -/
theorem for_step {α σ : Type} {g : FG} {b : FS} {toD : α → D} {E : σ → Env → Sto → Prop} {step : σ → α → σ} : ∀ (xs : List α) (s : σ) (env : Env) (μ : Sto), E s env μ → (∀ x ∈ xs, ∀ s env μ, E s env μ → ∃ env1 μ1 env2 μ2, g (.d (toD x)) env μ = .ok env1 μ1 ∧ b env1 μ1 = .ok (.nx env2) μ2 ∧ E (step s x) env2 μ2) → ∃ env' μ', forF g b (xs.map toD) env μ = .ok (.nx env') μ' ∧ E (xs.foldl step s) env' μ'
  | [], s, env, μ, h, _ => ⟨env, μ, rfl, h⟩
  | x :: r, s, env, μ, h, hs => by
    obtain ⟨env1, μ1, env2, μ2, h1, h2, h3⟩ := hs x List.mem_cons_self s env μ h
    obtain ⟨env', μ', h4, h5⟩ := for_step r (step s x) env2 μ2 h3 fun y hy => hs y (List.mem_cons_of_mem _ hy)
    refine ⟨env', μ', ?_, h5⟩
    rw [List.map_cons]
    unfold forF
    rw [h1]
    simp only [noex_ok, Rs.bind_ok, h2, h4]
theorem rangeD_eq (n : Nat) : rangeD 0 n = (List.range n).map fun i => PyData.int (i : Nat) := by
  unfold rangeD
  simp
/-! ### the program's hearing -/
def numAt (ns : List Int) (t : Int) : Int := if 0 ≤ t ∧ t < ns.length then ns.getD t.toNat 0 else 0
def heardAt (B : List (List Pd)) (ns : List Int) (t : Int) : Int := (B.map fun r => rowShape r (numAt ns (t - lateOf r))).sum
def boardLate (B : List (List Pd)) : Int := (maxL (B.map lateOf)).getD 0
def allHeard (B : List (List Pd)) (ns : List Int) : List Int := (List.range (ns.length + (boardLate B).toNat)).map fun t => heardAt B ns (t : Nat)
theorem late_bound : ∀ {r : List Pd}, rowOk r → 0 ≤ lateOf r ∧ lateOf r ≤ 5 * r.length
  | [], _ => ⟨Int.le_refl _, Int.le_refl _⟩
  | p :: r, h => by
    have ih := late_bound (r := r) fun q hq => h q (List.mem_cons_of_mem _ hq)
    have hp := h p List.mem_cons_self
    have e : lateOf (p :: r) = lateK p + lateOf r := by simp [lateOf]
    have hk : 0 ≤ lateK p ∧ lateK p ≤ 5 := by
      cases p <;> simp [Pd.ok] at hp <;> simp [lateK] <;> omega
    rw [e, List.length_cons]
    omega
theorem maxL_bound : ∀ {xs : List Int} {a b : Int}, xs ≠ [] → (∀ x ∈ xs, a ≤ x ∧ x ≤ b) → ∃ m, maxL xs = some m ∧ a ≤ m ∧ m ≤ b
  | [], _, _, h, _ => absurd rfl h
  | x :: r, a, b, _, h => by
    obtain ⟨h1, h2, h3⟩ := foldl_max r x
    refine ⟨_, rfl, ?_, ?_⟩
    · have := h x List.mem_cons_self
      omega
    · rcases h1 with h1 | h1
      · rw [h1]; exact (h x List.mem_cons_self).2
      · exact (h _ (List.mem_cons_of_mem _ h1)).2
theorem boardLate_ok {B : List (List Pd)} (h : boardOk B) (hl : ∀ r ∈ B, r.length ≤ 6) (h1 : 1 ≤ B.length) : maxL (B.map lateOf) = some (boardLate B) ∧ 0 ≤ boardLate B ∧ boardLate B ≤ 30 := by
  obtain ⟨m, e, a, b⟩ := maxL_bound (xs := B.map lateOf) (a := 0) (b := 30) (by intro z; have := congrArg List.length z; simp at this; subst this; simp at h1) (by
    intro x hx
    obtain ⟨r, hr, rfl⟩ := List.mem_map.mp hx
    have := late_bound (h r hr)
    have := hl r hr
    omega)
  unfold boardLate
  rw [e]
  exact ⟨rfl, a, b⟩
section
variable {μ : Sto}
theorem k_max_g {α : Type} (f : α → Int) (xs : List α) {m : Int} (h : maxL (xs.map f) = some m) : kMax [.d (.list (xs.map fun x => .int (f x)))] μ = .ok (.d (.int m)) μ := by
  have := k_max_i (μ := μ) h
  rw [List.map_map] at this
  exact this
theorem number_at_ok (ns : List Int) (t : Int) : g_number_at [.d (numsD ns), .d (.int t)] μ = .ok (.d (.int (numAt ns t))) μ := by
  unfold g_number_at
  refine run_0 ?_
  unfold B_number_at numAt
  by_cases h1 : 0 ≤ t
  · by_cases h2 : t < ns.length
    · obtain ⟨k, rfl⟩ := Int.eq_ofNat_of_zero_le h1
      have hk : k < ns.length := by omega
      have e : ixW (.d (.tuple (ns.map PyData.int))) (.d (.int (k : Int))) μ = .ok (.d (.int ns[k])) μ := by
        show (match atI (ns.map PyData.int) (k : Int) with | some d => Rs.ok (Wv.d d) μ | none => Rs.no) = _
        rw [atI_nat, List.getElem?_map, List.getElem?_eq_getElem hk]
        rfl
      simp [startE, numsD, h2, hk, e]
    · simp [startE, numsD, h1, h2]
  · simp [startE, numsD, h1]
theorem heard_at_ok {B : List (List Pd)} (h : boardOk B) (hl : ∀ r ∈ B, r.length ≤ 1000000) (hB : B.length ≤ 1000000) (ns : List Int) (t : Int) : g_heard_at [.d (boardD B), .d (numsD ns), .d (.int t)] μ = .ok (.d (.int (heardAt B ns t))) μ := by
  unfold g_heard_at
  refine run_0 ?_
  unfold B_heard_at
  have e := comp_map (g := gVar 3) (e := fCall (callD 2 g_row_shape) (fCons (fVar 3) (fCons (fCall (callD 2 g_number_at) (fCons (fVar 1) (fCons (fOp (opI fun i j => some (.int (i - j))) (fVar 2) (fCall (callD 1 g_late_of) (fCons (fVar 3) (fNil)))) (fNil)))) (fNil)))) (env := [some (.d (boardD B)), some (.d (numsD ns)), some (.d (.int t)), none]) (toD := rowD) (φ := fun r => .int (rowShape r (numAt ns (t - lateOf r)))) B μ [] (fun r hr => ⟨_, rfl, by simp [late_of_ok (hl r hr), number_at_ok, row_shape_ok (h r hr)]⟩) (by simp [LIM]; omega)
  simp only [List.nil_append, boardD] at e
  simp [startE, boardD, e, heardAt]
theorem board_late_ok {B : List (List Pd)} (h : boardOk B) (hl : ∀ r ∈ B, r.length ≤ 6) (h1 : 1 ≤ B.length) (h3 : B.length ≤ 1000000) : g_board_late [.d (boardD B)] μ = .ok (.d (.int (boardLate B))) μ := by
  unfold g_board_late
  refine run_0 ?_
  unfold B_board_late
  have e := comp_map (g := gVar 1) (e := fCall (callD 1 g_late_of) (fCons (fVar 1) (fNil))) (env := [some (.d (boardD B)), none]) (toD := rowD) (φ := fun r => .int (lateOf r)) B μ [] (fun r hr => ⟨_, rfl, by have := hl r hr; simp [late_of_ok (show r.length ≤ 1000000 by omega)]⟩) (by simp [LIM]; omega)
  simp only [List.nil_append, boardD] at e
  simp [startE, boardD, e, k_max_g lateOf B (boardLate_ok h hl h1).1]
theorem all_heard_ok {B : List (List Pd)} (h : boardOk B) (hl : ∀ r ∈ B, r.length ≤ 6) (h1 : 1 ≤ B.length) (h3 : B.length ≤ 1000000) (ns : List Int) (hn : ns.length ≤ 100000) : g_all_heard [.d (boardD B), .d (numsD ns)] μ = .ok (.d (.list ((allHeard B ns).map PyData.int))) μ := by
  unfold g_all_heard
  refine run_0 ?_
  unfold B_all_heard
  obtain ⟨_, b0, b30⟩ := boardLate_ok h hl h1
  obtain ⟨k, hk⟩ := Int.eq_ofNat_of_zero_le b0
  have e := comp_map (g := gVar 2) (e := fCall (callD 3 g_heard_at) (fCons (fVar 0) (fCons (fVar 1) (fCons (fVar 2) (fNil))))) (env := [some (.d (boardD B)), some (.d (numsD ns)), none]) (toD := fun i : Nat => .int (i : Int)) (φ := fun t => .int (heardAt B ns (t : Nat))) (List.range (ns.length + k)) μ [] (fun t ht => ⟨_, rfl, by simp [heard_at_ok h (fun r hr => by have := hl r hr; omega) h3]⟩) (by simp [LIM]; omega)
  rw [← rangeD_eq] at e
  have e2 := rg_l (μ := μ) (show ns.length + k ≤ 1000000 by omega)
  have e3 := board_late_ok (μ := μ) h hl h1 h3
  simp only [List.nil_append, boardD, numsD] at e e3
  rw [Int.natCast_add] at e2
  simp [startE, boardD, numsD, hk, e3, e2, e, allHeard]
theorem shaped_ok {r : List Pd} (h : rowOk r) (hl : r.length ≤ 6) (n : Int) : g_shaped [.d (rowD r), .d (.int n)] μ = .ok (.d (.int (rowShape r n))) μ := by
  unfold g_shaped
  refine run_0 ?_
  unfold B_shaped
  simp [startE, need_row_ok h hl, need_number_ok, row_shape_ok h]
theorem heard_ok {B : List (List Pd)} (h : boardOk B) (hl : ∀ r ∈ B, r.length ≤ 6) (h1 : 1 ≤ B.length) (h3 : B.length ≤ 3) (ns : List Int) (hn : ns.length ≤ 40) : g_heard [.d (boardD B), .d (numsD ns)] μ = .ok (.d (.list ((allHeard B ns).map PyData.int))) μ := by
  unfold g_heard
  refine run_0 ?_
  unfold B_heard
  simp [startE, need_board_ok h hl h1 h3, need_sound_ok ns hn, all_heard_ok h hl h1 (by omega) ns (by omega)]
theorem silence_ok {B : List (List Pd)} (h : boardOk B) (hl : ∀ r ∈ B, r.length ≤ 6) (h1 : 1 ≤ B.length) (h3 : B.length ≤ 3) : g_silence [.d (boardD B)] μ = .ok (.d (.int (heardAt B [] 0))) μ := by
  unfold g_silence
  refine run_0 ?_
  unfold B_silence
  have e := heard_at_ok (μ := μ) h (fun r hr => by have := hl r hr; omega) (show B.length ≤ 1000000 by omega) [] 0
  simp [numsD] at e
  simp [startE, need_board_ok h hl h1 h3, e]
end
end Ped

/-! PedT: the law's own shaping and hearing -/
namespace Ped
open PySem L2 PyProof.Rows PySem.Spec
def sgn (n : Int) : Int := if n < 0 then -1 else 1
def lshape : Pd → Int → Int
  | .louder k, n => k * n
  | .cut k, n => if sgn n * n > k then sgn n * k else n
  | .gate k, n => if sgn n * n < k then 0 else n
  | .turn, n => -n
  | .fold, n => sgn n * n
  | .lift k, n => n + k
  | .steps k, n => sgn n * (sgn n * n / k) * k
  | .late _, n => n
theorem lshape_eq {p : Pd} (h : p.ok) (n : Int) : lshape p n = shape p n := by
  unfold lshape shape sgn
  cases p with
  | louder k => exact Int.mul_comm _ _
  | cut k =>
    simp [Pd.ok] at h
    by_cases hn : n < 0 <;> simp only [hn, if_true, if_false] <;> repeat (first | omega | split)
  | gate k =>
    simp [Pd.ok] at h
    by_cases hn : n < 0 <;> simp only [hn, if_true, if_false] <;> repeat (first | omega | split)
  | turn => simp
  | fold => by_cases hn : n < 0 <;> simp only [hn, if_true, if_false] <;> repeat (first | omega | split)
  | lift k => rfl
  | late k => rfl
  | steps k =>
    simp [Pd.ok] at h
    by_cases hn : n < 0
    · have h1 : ¬ 0 ≤ n := by omega
      simp only [hn, h1, if_true, if_false]
      have e1 : -1 * n = 0 - n := by omega
      rw [e1]
      have e := Int.emod_add_mul_ediv (0 - n) k
      have e2 : -1 * ((0 - n) / k) * k = -(k * ((0 - n) / k)) := by
        rw [Int.neg_mul, Int.neg_mul, Int.one_mul, Int.mul_comm]
      rw [e2]
      omega
    · have h1 : 0 ≤ n := by omega
      simp only [hn, h1, if_true, if_false]
      have e := Int.emod_add_mul_ediv n k
      rw [Int.one_mul, Int.one_mul, Int.mul_comm]
      omega
section
variable {μ : Sto}
theorem law_shape_ok {r : List Pd} (h : rowOk r) (n : Int) : g__law_shape [.d (rowD r), .d (.int n)] μ = .ok (.d (.int (rowShape r n))) μ := by
  unfold g__law_shape
  refine run_0 ?_
  unfold B__law_shape
  obtain ⟨env', e, a, b, c, d, rfl⟩ := for_fold (g := gVar 2) (b := (sCons (sPar 4 5 (fCons (fOp ixW (fVar 2) (fC (.int 0))) (fCons (fIf (fB (fOp (cmpW fun i j => decide (i < j)) (fVar 1) (fC (.int 0)))) (fNeg (fC (.int 1))) (fC (.int 1))) (fNil)))) (sCons (sAsg (fOp mulW (fVar 5) (fVar 1)) (gVar 3)) (sIf (fB (fOp (eqW false) (fVar 4) (fC (.str "louder")))) (sAsg (fOp mulW (fOp ixW (fVar 2) (fC (.int 1))) (fVar 1)) (gVar 1)) (sIf (fB (fOp (eqW false) (fVar 4) (fC (.str "lift")))) (sAsg (fOp addW (fVar 1) (fOp ixW (fVar 2) (fC (.int 1)))) (gVar 1)) (sIf (fB (fOp (eqW false) (fVar 4) (fC (.str "turn")))) (sAsg (fNeg (fVar 1)) (gVar 1)) (sIf (fB (fOp (eqW false) (fVar 4) (fC (.str "fold")))) (sAsg (fVar 3) (gVar 1)) (sIf (fAnd (fB (fOp (eqW false) (fVar 4) (fC (.str "cut")))) (fB (fOp (cmpW fun i j => decide (j < i)) (fVar 3) (fOp ixW (fVar 2) (fC (.int 1)))))) (sAsg (fOp mulW (fVar 5) (fOp ixW (fVar 2) (fC (.int 1)))) (gVar 1)) (sIf (fAnd (fB (fOp (eqW false) (fVar 4) (fC (.str "gate")))) (fB (fOp (cmpW fun i j => decide (i < j)) (fVar 3) (fOp ixW (fVar 2) (fC (.int 1)))))) (sAsg (fC (.int 0)) (gVar 1)) (sIf (fB (fOp (eqW false) (fVar 4) (fC (.str "steps")))) (sAsg (fOp mulW (fOp mulW (fVar 5) (fOp (opI divI) (fVar 3) (fOp ixW (fVar 2) (fC (.int 1))))) (fOp ixW (fVar 2) (fC (.int 1)))) (gVar 1)) (sNil)))))))))))
    (toD := Pd.toD) (E := fun n env => ∃ a b c d, env = [some (.d (rowD r)), some (.d (.int n)), a, b, c, d]) (step := fun n p => shape p n) r n [some (.d (rowD r)), some (.d (.int n)), none, none, none, none] μ ⟨_, _, _, _, rfl⟩ (by
    rintro p hp n env ⟨a, b, c, d, rfl⟩
    have hok := h p hp
    refine ⟨_, [some (.d (rowD r)), some (.d (.int (shape p n))), some (.d p.toD), some (.d (.int (sgn n * n))), some (.d (.str (match p with | .louder _ => "louder" | .cut _ => "cut" | .gate _ => "gate" | .turn => "turn" | .fold => "fold" | .lift _ => "lift" | .steps _ => "steps" | .late _ => "late"))), some (.d (.int (sgn n)))], rfl, ?_, _, _, _, _, rfl⟩
    rw [← lshape_eq hok]
    have c1 : CMul (-1) n := cmul1 (by omega)
    have c2 : CMul 1 n := cmul1 (by omega)
    cases p with
    | louder k =>
      have c : CMul k n := cmul1 (by simp [Pd.ok] at hok; omega)
      by_cases hn : n < 0 <;> simp [hn, Pd.toD, eq_str, lshape, sgn, c, c1, c2]
    | cut k =>
      have c3 : CMul (-1) k := cmul1 (by omega)
      have c4 : CMul 1 k := cmul1 (by omega)
      by_cases hn : n < 0
      · by_cases hc : k < -n <;> simp [hn, hc, Pd.toD, eq_str, lshape, sgn, c1, c2, c3, c4]
      · by_cases hc : k < n <;> simp [hn, hc, Pd.toD, eq_str, lshape, sgn, c1, c2, c3, c4]
    | gate k =>
      by_cases hn : n < 0
      · by_cases hc : -n < k <;> simp [hn, hc, Pd.toD, eq_str, lshape, sgn, c1, c2]
      · by_cases hc : n < k <;> simp [hn, hc, Pd.toD, eq_str, lshape, sgn, c1, c2]
    | steps k =>
      have hk : 0 < k := by simp [Pd.ok] at hok; omega
      have hk2 : k < 2 ^ 100 := by simp [Pd.ok] at hok; omega
      have c5 : ∀ z, CMul (-1) z := fun z => cmul1 (by omega)
      have c6 : ∀ z, CMul 1 z := fun z => cmul1 (by omega)
      have c7 : ∀ z, CMul z k := fun z => cmul2 (by simp [Pd.ok] at hok; omega)
      by_cases hn : n < 0 <;> simp [hn, Pd.toD, eq_str, lshape, sgn, c5, c6, c7, o_div hk hk2]
    | _ => by_cases hn : n < 0 <;> simp [hn, Pd.toD, eq_str, lshape, sgn, c1, c2])
  simp [startE, rowD] at e ⊢
  rw [e]
  simp [rowShape]
theorem law_late_ok {r : List Pd} (hl : r.length ≤ 1000000) : g__law_lateness [.d (rowD r)] μ = .ok (.d (.int (lateOf r))) μ := by
  unfold g__law_lateness
  refine run_0 ?_
  unfold B__law_lateness
  have e := comp_filter (g := gVar 1) (t := fB (fOp (eqW false) (fOp ixW (fVar 1) (fC (.int 0))) (fC (.str "late")))) (e := fOp ixW (fVar 1) (fC (.int 1))) (env := [some (.d (rowD r)), none]) (toD := Pd.toD) (q := Pd.isLate) (φ := fun p => .int (lateK p)) r μ [] (by
    intro p hp
    refine ⟨_, rfl, ?_, ?_⟩
    · cases p <;> simp [Pd.toD, eq_str, Pd.isLate]
    · cases p <;> simp [Pd.toD, Pd.isLate, lateK]) (by simp [LIM]; omega)
  simp only [List.nil_append, rowD] at e
  simp [startE, rowD, e, late_sum]
/-! ### a list that is filled -/
def cells (m : Nat) (f : Nat → Int) : List Wv := (List.range m).map fun t => Wv.d (.int (f t))
theorem cells_len (m : Nat) (f : Nat → Int) : (cells m f).length = m := by simp [cells]
theorem cells_get {m : Nat} {f : Nat → Int} {i : Nat} (h : i < m) : (cells m f)[i]? = some (.d (.int (f i))) := by simp [cells, h]
theorem cells_set (m : Nat) (f : Nat → Int) (i : Nat) (z : Int) : (cells m f).set i (.d (.int z)) = cells m fun t => if t = i then z else f t := by
  refine List.ext_getElem? fun j => ?_
  unfold cells
  by_cases hj : j < m
  · by_cases e : i = j
    · subst e
      rw [List.getElem?_set_self (by simp [hj])]
      simp [hj]
    · rw [List.getElem?_set_ne e]
      have : ¬ j = i := fun z => e z.symm
      simp [hj, this]
  · rw [List.getElem?_eq_none (by simp; omega), List.getElem?_eq_none (by simp; omega)]
theorem ixN_nat {m i : Nat} (h : i < m) : ixN m (i : Int) = some i := by
  unfold ixN
  simp [h]
theorem ix_cells {μ : Sto} {n m i : Nat} {f : Nat → Int} (h : μ[n]? = some (.lst (cells m f))) (hi : i < m) : ixW (.l n) (.d (.int (i : Int))) μ = .ok (.d (.int (f i))) μ := by
  show (match μ[n]? with | some (.lst ws) => (match atI ws (i : Int) with | some w => Rs.ok w μ | none => Rs.no) | _ => Rs.no) = _
  rw [h]
  simp only
  rw [atI_nat, cells_get hi]
theorem lst_cells {μ : Sto} {n m : Nat} {f : Nat → Int} (h : μ[n]? = some (.lst (cells m f))) : lstAt μ n = some (cells m f) := by
  unfold lstAt
  rw [h]
theorem dats_cells (m : Nat) (f : Nat → Int) : dats (cells m f) = some ((List.range m).map fun t => PyData.int (f t)) := by
  have := dats_map ((List.range m).map fun t => PyData.int (f t))
  rw [List.map_map] at this
  exact this
theorem fill {m : Nat} (v : Nat → Int) (f : Nat → Int) : ∀ k, (List.range k).foldl (fun (f : Nat → Int) i => fun t => if t = i then f i + v i else f t) f = fun t => if t < k then f t + v t else f t
  | 0 => by simp
  | k + 1 => by
    rw [List.range_succ, List.foldl_append, fill (m := m) v f k]
    simp only [List.foldl_cons, List.foldl_nil]
    funext t
    by_cases h1 : t = k
    · subst h1
      simp
    · by_cases h2 : t < k
      · simp [h1, h2, show t < k + 1 by omega]
      · simp [h1, h2, show ¬ t < k + 1 by omega]
end
end Ped

/-! PedU: law 02 -/
namespace Ped
open PySem L2 PyProof.Rows PySem.Spec
def addRow (m : Nat) (ns : List Int) (f : Nat → Int) (r : List Pd) : Nat → Int := fun t => if t < m then f t + rowShape r (numAt ns ((t : Int) - lateOf r)) else f t
theorem fold_rows (m : Nat) (ns : List Int) : ∀ (B : List (List Pd)) (f : Nat → Int) (t : Nat), t < m → (B.foldl (addRow m ns) f) t = f t + heardAt B ns t
  | [], f, t, _ => by simp [heardAt]
  | r :: B, f, t, h => by
    rw [List.foldl_cons, fold_rows m ns B _ t h]
    unfold addRow heardAt
    simp [h]
    omega
theorem rep_cells (m : Nat) : (List.replicate m [PyData.int 0]).flatten.map Wv.d = cells m fun _ => 0 := by
  unfold cells
  refine List.ext_getElem (by simp) fun i h1 h2 => ?_
  simp
section
variable {μ : Sto}
theorem law_heard_ok {B : List (List Pd)} (h : boardOk B) (hl : ∀ r ∈ B, r.length ≤ 6) (h1 : 1 ≤ B.length) (h3 : B.length ≤ 1000) (ns : List Int) (hn : ns.length ≤ 100000) : g__law_heard [.d (boardD B), .d (numsD ns)] μ = .ok (.d (.list ((allHeard B ns).map PyData.int))) μ := by
  obtain ⟨mx, b0, b30⟩ := boardLate_ok h hl h1
  obtain ⟨k, hk⟩ := Int.eq_ofNat_of_zero_le b0
  have hlate : ∀ r ∈ B, 0 ≤ lateOf r ∧ lateOf r ≤ 30 := fun r hr => by
    have := late_bound (h r hr)
    have := hl r hr
    omega
  have e := comp_map (g := gVar 4) (e := fCall (callD 1 g__law_lateness) (fCons (fVar 4) (fNil))) (env := [some (.d (boardD B)), some (.d (numsD ns)), none, none, none, none, none, none, none]) (toD := rowD) (φ := fun r => .int (lateOf r)) B μ [] (fun r hr => ⟨_, rfl, by have := hl r hr; simp [law_late_ok (show r.length ≤ 1000000 by omega)]⟩) (by simp [LIM]; omega)
  obtain ⟨m, hm0⟩ : ∃ m, m = ns.length + k := ⟨_, rfl⟩
  have hm : m ≤ 1000000 := by omega
  obtain ⟨env', μ', e2, ⟨a, b, c, d, e', rfl⟩, rfl⟩ := for_step (g := gVar 4) (b := L__law_heard_2) (toD := rowD) (step := addRow m ns) (E := fun f env μ' => (∃ a b c d e, env = [some (.d (boardD B)), some (.d (numsD ns)), some (.d (.int (m : Nat))), some (.l μ.length), a, b, c, d, e]) ∧ μ' = μ ++ [Ob.lst (cells m f)]) B (fun _ => 0)
    [some (.d (boardD B)), some (.d (numsD ns)), some (.d (.int (m : Nat))), some (.l μ.length), none, none, none, none, none] (μ ++ [Ob.lst (cells m fun _ => 0)]) ⟨⟨_, _, _, _, _, rfl⟩, rfl⟩ (by
    rintro r hr f env μ' ⟨⟨a, b, c, d, e, rfl⟩, rfl⟩
    obtain ⟨l0, l30⟩ := hlate r hr
    obtain ⟨env3, μ3, e3, ⟨b', e', rfl⟩, rfl⟩ := for_step (g := gVar 5) (b := L__law_heard_1) (toD := fun i : Nat => PyData.int (i : Nat)) (step := fun (f : Nat → Int) i => fun t => if t = i then f i + rowShape r (numAt ns ((i : Int) - lateOf r)) else f t)
      (E := fun f env μ' => (∃ b e, env = [some (.d (boardD B)), some (.d (numsD ns)), some (.d (.int (m : Nat))), some (.l μ.length), some (.d (rowD r)), b, some (.d (.int (rowShape r 0))), some (.d (.int (lateOf r))), e]) ∧ μ' = μ ++ [Ob.lst (cells m f)]) (List.range m) f
      [some (.d (boardD B)), some (.d (numsD ns)), some (.d (.int (m : Nat))), some (.l μ.length), some (.d (rowD r)), b, some (.d (.int (rowShape r 0))), some (.d (.int (lateOf r))), e] (μ ++ [Ob.lst (cells m f)]) ⟨⟨_, _, rfl⟩, rfl⟩ (by
      rintro i hi f env μ' ⟨⟨b, e, rfl⟩, rfl⟩
      have hi : i < m := List.mem_range.mp hi
      have hc : (μ ++ [Ob.lst (cells m f)])[μ.length]? = some (.lst (cells m f)) := by simp
      have e4 := ix_cells hc hi
      have e5 := lst_cells hc
      have e6 : ixN (cells m f).length (i : Int) = some i := by rw [cells_len]; exact ixN_nat hi
      refine ⟨_, _, [some (.d (boardD B)), some (.d (numsD ns)), some (.d (.int (m : Nat))), some (.l μ.length), some (.d (rowD r)), some (.d (.int (i : Nat))), some (.d (.int (rowShape r 0))), some (.d (.int (lateOf r))), some (.d (.bool (decide (lateOf r ≤ (i : Int) ∧ (i : Int) < lateOf r + ns.length))))], μ ++ [Ob.lst (cells m fun t => if t = i then f i + rowShape r (numAt ns ((i : Int) - lateOf r)) else f t)], rfl, ?_, ⟨_, _, rfl⟩, rfl⟩
      have e7 : (μ ++ [Ob.lst (cells m f)]).set μ.length (.lst ((cells m f).set i (.d (.int (f i + rowShape r (numAt ns ((i : Int) - lateOf r))))))) = μ ++ [Ob.lst (cells m fun t => if t = i then f i + rowShape r (numAt ns ((i : Int) - lateOf r)) else f t)] := by
        rw [cells_set]
        simp
      rw [← e7]
      by_cases g1 : lateOf r ≤ (i : Int)
      · by_cases g2 : (i : Int) < lateOf r + ns.length
        · obtain ⟨j, hj⟩ := Int.eq_ofNat_of_zero_le (show 0 ≤ (i : Int) - lateOf r by omega)
          have hj2 : j < ns.length := by omega
          have e8 : ∀ μ, ixW (.d (.tuple (ns.map PyData.int))) (.d (.int ((i : Int) - lateOf r))) μ = .ok (.d (.int (numAt ns ((i : Int) - lateOf r)))) μ := fun μ => by
            rw [hj]
            show (match atI (ns.map PyData.int) (j : Int) with | some d => Rs.ok (Wv.d d) μ | none => Rs.no) = _
            rw [atI_nat, List.getElem?_map, List.getElem?_eq_getElem hj2]
            unfold numAt
            simp [hj2]
          simp [numsD, g1, g2, e8, law_shape_ok (h r hr), e4, e5, e6]
        · have e8 : numAt ns ((i : Int) - lateOf r) = 0 := by unfold numAt; rw [if_neg (by omega)]
          simp [numsD, g1, g2, e8, e4, e5, e6]
      · have e8 : numAt ns ((i : Int) - lateOf r) = 0 := by unfold numAt; rw [if_neg (by omega)]
        simp [numsD, g1, e8, e4, e5, e6])
    rw [← rangeD_eq] at e3
    have hle := hl r hr
    refine ⟨_, _, _, _, rfl, ?_, ⟨some (.d (rowD r)), b', some (.d (.int (rowShape r 0))), some (.d (.int (lateOf r))), e', rfl⟩, rfl⟩
    have ef : addRow m ns f r = (List.range m).foldl (fun (f : Nat → Int) i => fun t => if t = i then f i + rowShape r (numAt ns ((i : Int) - lateOf r)) else f t) f := (fill (m := m) (fun i => rowShape r (numAt ns ((i : Int) - lateOf r))) f m).symm
    rw [ef]
    simp [law_shape_ok (h r hr), law_late_ok (show r.length ≤ 1000000 by omega), rg_k hm]
    exact e3)
  have hfin : dats (cells m (B.foldl (addRow m ns) fun _ => 0)) = some ((allHeard B ns).map PyData.int) := by
    rw [dats_cells]
    unfold allHeard
    rw [hk, List.map_map, Int.toNat_natCast, ← hm0]
    congr 1
    refine List.map_congr_left fun t ht => ?_
    rw [fold_rows m ns B _ t (List.mem_range.mp ht)]
    simp
  have hlst : lstAt (μ ++ [Ob.lst (cells m (B.foldl (addRow m ns) fun _ => 0))]) μ.length = some (cells m (B.foldl (addRow m ns) fun _ => 0)) := lst_cells (by simp)
  unfold g__law_heard
  refine run_app (ν := [.dead]) ?_
  unfold B__law_heard
  simp only [List.nil_append, boardD, numsD] at e
  have em : mulN (.d (.list [.int 0])) (.d (.int (m : Nat))) μ = .ok (.l μ.length) (μ ++ [Ob.lst (cells m fun _ => 0)]) := by
    show (if -1000000 ≤ (m : Int) ∧ (m : Int) ≤ 1000000 ∧ [PyData.int 0].length * (m : Int).toNat ≤ LIM then Rs.ok (Wv.l μ.length) (μ ++ [.lst ((List.replicate (m : Int).toNat [PyData.int 0]).flatten.map Wv.d)]) else Rs.no) = _
    rw [if_pos ⟨by omega, by omega, by simp [LIM]; omega⟩, Int.toNat_natCast, rep_cells]
  have hmm : (ns.length : Int) + (k : Int) = (m : Nat) := by omega
  have mx2 := k_max_g (μ := μ) lateOf B mx
  rw [hk] at mx2
  simp only [boardD] at e2
  simp [startE, boardD, numsD, e, mx2, hmm, em]
  simp only [numsD] at e2
  simp [e2, frz, hlst, hfin]
end
/-! ### the law's own loop -/
theorem len1 {α : Type} {q : List α} (hq : q.length = 1) : ∃ a, q = [a] := by
  match q, hq with
  | [a], _ => exact ⟨a, rfl⟩
theorem len2 {α : Type} {q : List α} (hq : q.length = 2) : ∃ a b, q = [a, b] := by
  match q, hq with
  | [a, b], _ => exact ⟨a, b, rfl⟩
theorem len3 {α : Type} {q : List α} (hq : q.length = 3) : ∃ a b c, q = [a, b, c] := by
  match q, hq with
  | [a, b, c], _ => exact ⟨a, b, c, rfl⟩
theorem len4 {α : Type} {q : List α} (hq : q.length = 4) : ∃ a b c d, q = [a, b, c, d] := by
  match q, hq with
  | [a, b, c, d], _ => exact ⟨a, b, c, d, rfl⟩
theorem len5 {α : Type} {q : List α} (hq : q.length = 5) : ∃ a b c d e, q = [a, b, c, d, e] := by
  match q, hq with
  | [a, b, c, d, e], _ => exact ⟨a, b, c, d, e, rfl⟩
theorem len6 {α : Type} {q : List α} (hq : q.length = 6) : ∃ a b c d e f, q = [a, b, c, d, e, f] := by
  match q, hq with
  | [a, b, c, d, e, f], _ => exact ⟨a, b, c, d, e, f, rfl⟩
theorem len7 {α : Type} {q : List α} (hq : q.length = 7) : ∃ a b c d e f g, q = [a, b, c, d, e, f, g] := by
  match q, hq with
  | [a, b, c, d, e, f, g], _ => exact ⟨a, b, c, d, e, f, g, rfl⟩
theorem len8 {α : Type} {q : List α} (hq : q.length = 8) : ∃ a b c d e f g h, q = [a, b, c, d, e, f, g, h] := by
  match q, hq with
  | [a, b, c, d, e, f, g, h], _ => exact ⟨a, b, c, d, e, f, g, h, rfl⟩
theorem len9 {α : Type} {q : List α} (hq : q.length = 9) : ∃ a b c d e f g h i, q = [a, b, c, d, e, f, g, h, i] := by
  match q, hq with
  | [a, b, c, d, e, f, g, h, i], _ => exact ⟨a, b, c, d, e, f, g, h, i, rfl⟩
theorem len10 {α : Type} {q : List α} (hq : q.length = 10) : ∃ a b c d e f g h i j, q = [a, b, c, d, e, f, g, h, i, j] := by
  match q, hq with
  | [a, b, c, d, e, f, g, h, i, j], _ => exact ⟨a, b, c, d, e, f, g, h, i, j, rfl⟩
theorem len11 {α : Type} {q : List α} (hq : q.length = 11) : ∃ a b c d e f g h i j k, q = [a, b, c, d, e, f, g, h, i, j, k] := by
  match q, hq with
  | [a, b, c, d, e, f, g, h, i, j, k], _ => exact ⟨a, b, c, d, e, f, g, h, i, j, k, rfl⟩
theorem len12 {α : Type} {q : List α} (hq : q.length = 12) : ∃ a b c d e f g h i j k x, q = [a, b, c, d, e, f, g, h, i, j, k, x] := by
  match q, hq with
  | [a, b, c, d, e, f, g, h, i, j, k, x], _ => exact ⟨a, b, c, d, e, f, g, h, i, j, k, x, rfl⟩
theorem len13 {α : Type} {q : List α} (hq : q.length = 13) : ∃ a b c d e f g h i j k x m, q = [a, b, c, d, e, f, g, h, i, j, k, x, m] := by
  match q, hq with
  | [a, b, c, d, e, f, g, h, i, j, k, x, m], _ => exact ⟨a, b, c, d, e, f, g, h, i, j, k, x, m, rfl⟩
theorem len14 {α : Type} {q : List α} (hq : q.length = 14) : ∃ a b c d e f g h i j k x m y, q = [a, b, c, d, e, f, g, h, i, j, k, x, m, y] := by
  match q, hq with
  | [a, b, c, d, e, f, g, h, i, j, k, x, m, y], _ => exact ⟨a, b, c, d, e, f, g, h, i, j, k, x, m, y, rfl⟩
theorem cnt (a b z : Int) (h0 : 0 ≤ a) (h1 : a ≤ 20) (h2 : b ≤ 20) : ∃ c : Nat, (if (if z < b then z else b) > a then (if z < b then z else b) else a) = (c : Int) ∧ c ≤ 20 := by
  refine ⟨(if (if z < b then z else b) > a then (if z < b then z else b) else a).toNat, ?_, ?_⟩
  · rw [Int.toNat_of_nonneg]; repeat (first | omega | split)
  · repeat (first | omega | split)
theorem law_loop {m : Nat} {a b d : Int} {L : FS} (F : FS) (ns : List Int) (h0 : 0 ≤ a ∧ a ≤ 20 ∧ b ≤ 20) (hL : ∀ (k : Nat) (rest : Env) (μ : Sto), k < 100 → rest.length = m → ∃ rest' μ', L (some (.s ns) :: some (.d (.int (k : Nat))) :: rest) μ = .ok (.nx (some (.s ns) :: some (.d (.int (k : Nat))) :: rest')) μ' ∧ rest'.length = m) :
    ∃ (env' : Env) (μ' : Sto), env'.length = m + 1 ∧ (sCons (sFor (itR1 (fCall kMax2 (fCons (fC (.int a)) (fCons (fCall kMin2 (fCons (fC (.int b)) (fCons (fOp addW (fCall kLen (fCons (fVar 0) (fNil))) (fC (.int d))) (fNil)))) (fNil))))) (gVar 1) L) F) (some (.s ns) :: List.replicate (m + 1) none) [] = F (some (.s ns) :: env') μ' := by
  obtain ⟨c, hc1, hc2⟩ := cnt a b ((ns.length : Int) + d) h0.1 h0.2.1 h0.2.2
  obtain ⟨env', μ', e, r, rfl, hr⟩ := for_step (g := gVar 1) (b := L) (toD := fun i : Nat => PyData.int (i : Nat)) (σ := Unit) (step := fun _ _ => ()) (E := fun _ env μ' => ∃ r, env = some (.s ns) :: r ∧ r.length = m + 1) (List.range c) () (some (.s ns) :: List.replicate (m + 1) none) [] ⟨_, rfl, by simp⟩ (by
    rintro k hk _ env μ ⟨r, rfl, hr⟩
    have hk : k < c := List.mem_range.mp hk
    match r, hr with
    | x :: rest, hr =>
      obtain ⟨rest', μ', e, hr'⟩ := hL k rest μ (by omega) (by simpa using hr)
      exact ⟨_, _, _, _, rfl, e, _, rfl, by simp [hr']⟩)
  refine ⟨r, μ', hr, ?_⟩
  rw [← rangeD_eq] at e
  simp [hc1, rg_k (show c ≤ 1000000 by omega), e]
/-- .. that ends with True -/
theorem law_true {m : Nat} {a b d : Int} {L : FS} (ns : List Int) (h0 : 0 ≤ a ∧ a ≤ 20 ∧ b ≤ 20) (hL : ∀ (k : Nat) (rest : Env) (μ : Sto), k < 100 → rest.length = m → ∃ rest' μ', L (some (.s ns) :: some (.d (.int (k : Nat))) :: rest) μ = .ok (.nx (some (.s ns) :: some (.d (.int (k : Nat))) :: rest')) μ' ∧ rest'.length = m) :
    ∃ μ', runF (m + 2) (sCons (sFor (itR1 (fCall kMax2 (fCons (fC (.int a)) (fCons (fCall kMin2 (fCons (fC (.int b)) (fCons (fOp addW (fCall kLen (fCons (fVar 0) (fNil))) (fC (.int d))) (fNil)))) (fNil))))) (gVar 1) L) (sRet (fC (.bool true)))) [.s ns] [] = .ok (.d (.bool true)) μ' := by
  obtain ⟨env', μ', _, e⟩ := law_loop (sRet (fC (.bool true))) ns h0 hL
  refine ⟨_, run_app (ν := μ') ?_⟩
  show (sCons _ _) (some (.s ns) :: List.replicate (m + 2 - 1) none) [] = _
  rw [show m + 2 - 1 = m + 1 from rfl, e]
  rfl
/-- the start of a turn: the bag -/
theorem turn_bag (ns : List Int) (k : Nat) (hk : k < 100) (μ : Sto) : ∃ ν, g__law_bag [.s ns, .d (.int k)] μ = .ok (.l μ.length) ν ∧ Bg μ.length ν := by
  obtain ⟨x, y, e, ok⟩ := bag_ok ns k (by omega) μ
  exact ⟨_, e, bag_new ok⟩
/-! ### the law -/
theorem body02 (ns : List Int) (k : Nat) (hk : k < 100) (rest : Env) (μ : Sto) (hr : rest.length = 5) : ∃ rest' μ', L_law_2_4 (some (.s ns) :: some (.d (.int (k : Nat))) :: rest) μ = .ok (.nx (some (.s ns) :: some (.d (.int (k : Nat))) :: rest')) μ' ∧ rest'.length = 5 := by
  obtain ⟨b, c, d, e, f, rfl⟩ := len5 hr
  obtain ⟨ν, eb, B0⟩ := turn_bag ns k hk μ
  generalize μ.length = n at eb B0
  obtain ⟨B, μ1, e1, hB, hr, b1, b3, s1⟩ := board_ok B0 6 (by decide)
  -- the rows
  obtain ⟨env2, μ2, e2, ⟨r2, n2, rfl⟩, s2⟩ := for_step (g := gVar 4) (b := L_law_2_2) (toD := rowD) (σ := Unit) (step := fun _ _ => ()) (E := fun _ env μ' => (∃ r z, env = [some (.s ns), some (.d (.int (k : Nat))), some (.l n), some (.d (boardD B)), r, e, z]) ∧ Stp n ν μ') B () [some (.s ns), some (.d (.int (k : Nat))), some (.l n), some (.d (boardD B)), d, e, f] μ1 ⟨⟨_, _, rfl⟩, s1⟩ (by
    rintro r hrB _ env μ2 ⟨⟨r', n', rfl⟩, s2⟩
    obtain ⟨zs, μ3, e3, l3, b3', s3⟩ := numbers_ok (s2.bg B0) 20 (by decide)
    obtain ⟨env4, μ4, e4, ⟨⟨n4, rfl⟩, hm4⟩⟩ := for_step (g := gVar 6) (b := L_law_2_1) (toD := PyData.int) (σ := Unit) (step := fun _ _ => ()) (E := fun _ env μ' => (∃ z, env = [some (.s ns), some (.d (.int (k : Nat))), some (.l n), some (.d (boardD B)), some (.d (rowD r)), e, z]) ∧ μ' = μ3) (zs ++ [0, 1, -1]) () [some (.s ns), some (.d (.int (k : Nat))), some (.l n), some (.d (boardD B)), some (.d (rowD r)), e, n'] μ3 ⟨⟨_, rfl⟩, rfl⟩ (by
      rintro z hz _ env μ4 ⟨⟨n', rfl⟩, rfl⟩
      refine ⟨_, _, _, _, rfl, ?_, ⟨some (.d (.int z)), rfl⟩, rfl⟩
      simp [shaped_ok (hB r hrB) (hr r hrB), law_shape_ok (hB r hrB), eq_int])
    rw [hm4] at e4
    refine ⟨_, _, [some (.s ns), some (.d (.int (k : Nat))), some (.l n), some (.d (boardD B)), some (.d (rowD r)), e, n4], μ3, rfl, ?_, ⟨_, _, rfl⟩, s2.trans s3⟩
    simp [numsD] at e3
    have hl' : zs.length + 3 ≤ 16000000 := by omega
    simp at e4
    simp [e3, o_addT, LIM, hl', e4])
  -- the silence
  have e3 : ∀ μ r6, compF (gVar 4) fYes (fCall (callD 2 g__law_shape) (fCons (fVar 4) (fCons (fC (.int 0)) (fNil)))) [some (.s ns), some (.d (.int (k : Nat))), some (.l n), some (.d (boardD B)), none, e, r6] (B.map rowD) μ [] = .ok ([] ++ B.map fun r => PyData.int (rowShape r 0)) μ := fun μ r6 => comp_map B μ [] (fun r hr' => ⟨_, rfl, by simp [law_shape_ok (hB r hr')]⟩) (by simp [LIM]; omega)
  have e4 : heardAt B [] 0 = (B.map fun r => rowShape r 0).sum := by
    unfold heardAt numAt
    congr 1
    refine List.map_congr_left fun r hr => ?_
    rw [if_neg (by simp)]
  -- the sounds
  obtain ⟨zs, μ3, e5, l5, _, s3⟩ := numbers_ok (s2.bg B0) 5 (by decide)
  have s3' := s2.trans s3
  obtain ⟨ys, μ4, e6, l6, _, s4⟩ := numbers_ok (s3'.bg B0) 40 (by decide)
  obtain ⟨env7, μ7, e7, ⟨⟨d7, rfl⟩, hm7⟩⟩ := for_step (g := gVar 5) (b := L_law_2_3) (toD := numsD) (σ := Unit) (step := fun _ _ => ()) (E := fun _ env μ' => (∃ z, env = [some (.s ns), some (.d (.int (k : Nat))), some (.l n), some (.d (boardD B)), r2, z, n2]) ∧ μ' = μ4) [[], zs, ys] () [some (.s ns), some (.d (.int (k : Nat))), some (.l n), some (.d (boardD B)), r2, e, n2] μ4 ⟨⟨_, rfl⟩, rfl⟩ (by
    rintro z hz _ env μ4 ⟨⟨n', rfl⟩, rfl⟩
    have hz : z.length ≤ 40 := by
      simp at hz
      rcases hz with rfl | rfl | rfl <;> first | omega | simp
    refine ⟨_, _, _, _, rfl, ?_, ⟨some (.d (numsD z)), rfl⟩, rfl⟩
    simp [heard_ok hB hr b1 b3 z hz, law_heard_ok hB hr b1 (show B.length ≤ 1000 by omega) z (by omega), ne_same (shp_ints _) (by decide)])
  rw [hm7] at e7
  refine ⟨[some (.l n), some (.d (boardD B)), r2, d7, n2], μ4, ?_, rfl⟩
  simp [numsD] at e5 e6
  simp [boardD] at e1 e2 e3 e7
  have e8 := fun μ => silence_ok (μ := μ) hB hr b1 b3
  simp only [boardD] at e8
  simp [numsD] at e7
  simp [eb, e1, boardD, e2, e3, e4, e5, e6, e7, e8, eq_int]
theorem law02 (ns : List Int) : ∃ μ, g_law_2 [.s ns] [] = .ok (.d (.bool true)) μ :=
  law_true (m := 5) ns (by decide) fun k rest μ hk hr => body02 ns k hk rest μ hr
end Ped

/-! PedV: far away from nought -/
namespace Ped
open PySem L2 PyProof.Rows PySem.Spec
/-! ### what a row does far away -/
def kn : Pd → Int
  | .louder k | .cut k | .gate k | .lift k | .steps k => if 0 - k > k then 0 - k else k
  | _ => 0
def knobSum (r : List Pd) : Int := (r.map kn).sum
theorem kn_nonneg (p : Pd) : 0 ≤ kn p := by cases p <;> simp only [kn] <;> first | omega | (split <;> omega)
theorem knobSum_nonneg : ∀ r : List Pd, 0 ≤ knobSum r
  | [] => Int.le_refl _
  | p :: r => by
    have := kn_nonneg p
    have := knobSum_nonneg r
    have e : knobSum (p :: r) = kn p + knobSum r := by simp [knobSum]
    omega
def stepsDiv (P : Int) (r : List Pd) : Prop := ∀ k, Pd.steps k ∈ r → k ∣ P
/-- the same for all, or a steady slope and one sign, farther from nought than R -/
def FarI (N P R : Int) (f : Int → Int) : Prop := (∃ c, ∀ n, N ≤ n → f n = c) ∨ ∃ q, (∀ n, N ≤ n → f (n + P) = f n + P * q) ∧ ((∀ n, N ≤ n → R < f n) ∨ ∀ n, N ≤ n → f n < -R)
theorem far_step {N P R : Int} {f : Int → Int} {p : Pd} (hP : 0 < P) (hp : p.ok) (hd : ∀ k, p = .steps k → k ∣ P) (hR : 0 ≤ R) (h : FarI N P (kn p + R) f) : FarI N P R fun n => shape p (f n) := by
  rcases h with ⟨c, hc⟩ | ⟨q, hq, hs⟩
  · exact .inl ⟨shape p c, fun n hn => by simp only [hc n hn]⟩
  · have up : ∀ n, N ≤ n → N ≤ n + P := fun n hn => by omega
    cases p with
    | louder k =>
      simp only [Pd.ok] at hp
      refine .inr ⟨q * k, fun n hn => by show f (n + P) * k = f n * k + P * (q * k); rw [hq n hn, Int.add_mul, Int.mul_assoc], ?_⟩
      have hk : k = 2 ∨ k = 3 ∨ k = 4 := by omega
      simp only [kn] at hs
      rcases hs with hs | hs
      · refine .inl fun n hn => ?_
        have := hs n hn
        show R < f n * k
        rcases hk with rfl | rfl | rfl <;> omega
      · refine .inr fun n hn => ?_
        have := hs n hn
        show f n * k < -R
        rcases hk with rfl | rfl | rfl <;> omega
    | cut k =>
      simp only [Pd.ok] at hp
      simp only [kn] at hs
      rcases hs with hs | hs
      · refine .inl ⟨k, fun n hn => ?_⟩
        have := hs n hn
        simp only [shape]
        repeat (first | omega | split)
      · refine .inl ⟨-k, fun n hn => ?_⟩
        have := hs n hn
        simp only [shape]
        repeat (first | omega | split)
    | gate k =>
      simp only [Pd.ok] at hp
      simp only [kn] at hs
      have e : ∀ n, N ≤ n → shape (.gate k) (f n) = f n := fun n hn => by
        simp only [shape]
        rw [if_pos]
        rcases hs with hs | hs
        · have := hs n hn; omega
        · have := hs n hn; omega
      refine .inr ⟨q, fun n hn => by show shape (.gate k) (f (n + P)) = shape (.gate k) (f n) + P * q; rw [e n hn, e _ (up n hn), hq n hn], ?_⟩
      rcases hs with hs | hs
      · exact .inl fun n hn => by have := hs n hn; simp only [e n hn]; omega
      · exact .inr fun n hn => by have := hs n hn; simp only [e n hn]; omega
    | turn =>
      refine .inr ⟨-q, fun n hn => by simp only [shape, hq n hn, Int.mul_neg]; omega, ?_⟩
      simp only [kn] at hs
      rcases hs with hs | hs
      · exact .inr fun n hn => by have := hs n hn; simp only [shape]; omega
      · exact .inl fun n hn => by have := hs n hn; simp only [shape]; omega
    | fold =>
      simp only [kn] at hs
      rcases hs with hs | hs
      · have e : ∀ n, N ≤ n → shape .fold (f n) = f n := fun n hn => by
          have := hs n hn
          simp only [shape]
          rw [if_neg (by omega)]
        exact .inr ⟨q, fun n hn => by show shape .fold (f (n + P)) = shape .fold (f n) + P * q; rw [e n hn, e _ (up n hn), hq n hn], .inl fun n hn => by have := hs n hn; simp only [e n hn]; omega⟩
      · have e : ∀ n, N ≤ n → shape .fold (f n) = - f n := fun n hn => by
          have := hs n hn
          simp only [shape]
          rw [if_pos (by omega)]
          omega
        exact .inr ⟨-q, fun n hn => by show shape .fold (f (n + P)) = shape .fold (f n) + P * -q; rw [e n hn, e _ (up n hn), hq n hn, Int.mul_neg]; omega, .inl fun n hn => by have := hs n hn; simp only [e n hn]; omega⟩
    | lift k =>
      simp only [Pd.ok] at hp
      simp only [kn] at hs
      refine .inr ⟨q, fun n hn => by simp only [shape, hq n hn]; omega, ?_⟩
      rcases hs with hs | hs
      · exact .inl fun n hn => by have := hs n hn; simp only [shape]; omega
      · exact .inr fun n hn => by have := hs n hn; simp only [shape]; omega
    | late k =>
      simp only [kn] at hs
      refine .inr ⟨q, fun n hn => by simp only [shape, hq n hn], ?_⟩
      rcases hs with hs | hs
      · exact .inl fun n hn => by have := hs n hn; simp only [shape]; omega
      · exact .inr fun n hn => by have := hs n hn; simp only [shape]; omega
    | steps k =>
      simp only [Pd.ok] at hp
      simp only [kn] at hs
      obtain ⟨j, hj⟩ := hd k rfl
      have hdv : P * q = k * (j * q) := by rw [hj, Int.mul_assoc]
      rcases hs with hs | hs
      · have pos : ∀ n, N ≤ n → 0 ≤ f n := fun n hn => by have := hs n hn; omega
        have e : ∀ n, N ≤ n → shape (.steps k) (f n) = f n - f n % k := fun n hn => by simp only [shape]; rw [if_pos (pos n hn)]
        refine .inr ⟨q, fun n hn => ?_, .inl fun n hn => ?_⟩
        · show shape (.steps k) (f (n + P)) = shape (.steps k) (f n) + P * q
          rw [e n hn, e _ (up n hn), hq n hn, hdv, Int.add_mul_emod_self_left]
          omega
        · have := hs n hn
          have h1 := Int.emod_lt_of_pos (f n) (show 0 < k by omega)
          show R < shape (.steps k) (f n)
          rw [e n hn]
          omega
      · have neg : ∀ n, N ≤ n → ¬ 0 ≤ f n := fun n hn => by have := hs n hn; omega
        have e : ∀ n, N ≤ n → shape (.steps k) (f n) = (0 - f n) % k + f n := fun n hn => by simp only [shape]; rw [if_neg (neg n hn)]
        refine .inr ⟨q, fun n hn => ?_, .inr fun n hn => ?_⟩
        · show shape (.steps k) (f (n + P)) = shape (.steps k) (f n) + P * q
          have e3 : 0 - (f n + k * (j * q)) = (0 - f n) + k * (-(j * q)) := by rw [Int.mul_neg]; omega
          rw [e n hn, e _ (up n hn), hq n hn, hdv, e3, Int.add_mul_emod_self_left]
          omega
        · have := hs n hn
          have h1 := Int.emod_lt_of_pos (0 - f n) (show 0 < k by omega)
          show shape (.steps k) (f n) < -R
          rw [e n hn]
          omega
theorem far_fold {N P : Int} (hP : 0 < P) : ∀ (r : List Pd) (f : Int → Int), rowOk r → stepsDiv P r → FarI N P (knobSum r) f → FarI N P 0 fun n => rowShape r (f n)
  | [], f, _, _, h => h
  | p :: r, f, ho, hd, h => by
    have e : knobSum (p :: r) = kn p + knobSum r := by simp [knobSum]
    rw [e] at h
    have h2 := far_step hP (ho p List.mem_cons_self) (fun k hk => hd k (by rw [hk]; exact List.mem_cons_self)) (knobSum_nonneg r) h
    exact far_fold hP r (fun n => shape p (f n)) (fun q hq => ho q (List.mem_cons_of_mem _ hq)) (fun k hk => hd k (List.mem_cons_of_mem _ hk)) h2
theorem far_pos {r : List Pd} {P N : Int} (hP : 0 < P) (ho : rowOk r) (hd : stepsDiv P r) (hN : knobSum r < N) : ∃ t, ∀ n, N ≤ n → rowShape r (n + P) = rowShape r n + t := by
  have h : FarI N P (knobSum r) fun n => n := .inr ⟨1, fun n _ => by show n + P = n + P * 1; omega, .inl fun n hn => by show knobSum r < n; omega⟩
  rcases far_fold hP r (fun n => n) ho hd h with ⟨c, hc⟩ | ⟨q, hq, _⟩
  · exact ⟨0, fun n hn => by have h1 := hc n hn; have h2 := hc (n + P) (by omega); simp only at h1 h2; omega⟩
  · exact ⟨P * q, hq⟩
theorem far_neg {r : List Pd} {P N : Int} (hP : 0 < P) (ho : rowOk r) (hd : stepsDiv P r) (hN : knobSum r < N) : ∃ t, ∀ n, N ≤ n → rowShape r (-(n + P)) = rowShape r (-n) + t := by
  have e : ∀ n, rowShape (.turn :: r) n = rowShape r (-n) := fun n => by
    show rowShape r (0 - n) = _
    rw [Int.zero_sub]
  obtain ⟨t, ht⟩ := far_pos (r := .turn :: r) hP (fun p hp => by
    rcases List.mem_cons.mp hp with rfl | hp
    · trivial
    · exact ho p hp) (fun k hk => by
    rcases List.mem_cons.mp hk with hk | hk
    · cases hk
    · exact hd k hk) (show knobSum (.turn :: r) < N by
    have : knobSum (.turn :: r) = knobSum r := by simp [knobSum, kn]
    omega)
  exact ⟨t, fun n hn => by rw [← e, ← e]; exact ht n hn⟩
end Ped

/-! PedL: near, period, span, what parts two boards -/
namespace Ped
open PySem L2 PyProof.Rows PySem.Spec
/-! ### loops once more -/
@[simp] theorem e_sAsg2 {env : Env} {μ : Sto} (f : FE) (i j : Nat) : sAsg2 f i j env μ = (f env μ).bind fun w μ1 => .ok (.nx ((env.set i (some w)).set j (some w))) μ1 := rfl
@[simp] theorem e_sPar3 {env : Env} {μ : Sto} (i j l : Nat) (g : FA) : sPar3 i j l g env μ = (g env μ).bind fun ws μ1 => match ws with | [w, z, y] => .ok (.nx (((env.set i (some w)).set j (some z)).set l (some y))) μ1 | _ => .no := rfl
def rgK2 (w z : Wv) (μ2 : Sto) : Rs (List D) := match w, z with
  | .d (.int i), .d (.int j) => if (-RB ≤ i ∧ i ≤ RB) ∧ -RB ≤ j ∧ j ≤ RB then .ok (rangeD i (j - i).toNat) μ2 else .no
  | _, _ => .no
@[simp] theorem e_itR2 {env : Env} {μ : Sto} (f g : FE) : itR2 f g env μ = (f env μ).bind fun w μ1 => (g env μ1).bind fun z μ2 => rgK2 w z μ2 := rfl
theorem rg_k2 {i j : Int} {μ : Sto} (h1 : -1000000 ≤ i ∧ i ≤ 1000000) (h2 : -1000000 ≤ j ∧ j ≤ 1000000) : rgK2 (.d (.int i)) (.d (.int j)) μ = .ok (rangeD i (j - i).toNat) μ := by
  show (if (-RB ≤ i ∧ i ≤ RB) ∧ -RB ≤ j ∧ j ≤ RB then Rs.ok (rangeD i (j - i).toNat) μ else Rs.no) = _
  have : RB = 1000000000000 := rfl
  rw [if_pos (by omega)]
/-- a loop by the number of its turns -/
theorem for_nat {g : FG} {b : FS} {E : Nat → Env → Sto → Prop} : ∀ (xs : List D) (i0 : Nat) (env : Env) (μ : Sto), E i0 env μ → (∀ i (h : i < xs.length), ∀ env μ, E (i0 + i) env μ → ∃ env1 μ1 env2 μ2, g (.d xs[i]) env μ = .ok env1 μ1 ∧ b env1 μ1 = .ok (.nx env2) μ2 ∧ E (i0 + i + 1) env2 μ2) → ∃ env' μ', forF g b xs env μ = .ok (.nx env') μ' ∧ E (i0 + xs.length) env' μ'
  | [], i0, env, μ, h, _ => ⟨env, μ, rfl, h⟩
  | x :: r, i0, env, μ, h, hs => by
    obtain ⟨env1, μ1, env2, μ2, h1, h2, h3⟩ := hs 0 (by simp) env μ h
    obtain ⟨env', μ', h4, h5⟩ := for_nat r (i0 + 1) env2 μ2 h3 fun i hi env μ he => by
      have := hs (i + 1) (by simp; omega) env μ (by rw [show i0 + (i + 1) = i0 + 1 + i by omega]; exact he)
      rw [show i0 + 1 + i + 1 = i0 + (i + 1) + 1 by omega]
      simpa using this
    refine ⟨env', μ', ?_, by rw [List.length_cons, show i0 + (r.length + 1) = i0 + 1 + r.length by omega]; exact h5⟩
    unfold forF
    have h1 : g (.d x) env μ = .ok env1 μ1 := h1
    rw [h1]
    simp only [noex_ok, Rs.bind_ok, h2, h4]
/-- a loop that looks for the first -/
theorem for_find {α : Type} {g : FG} {b : FS} {toD : α → D} {E : Env → Prop} {test : α → Bool} {ret : α → Wv} {μ : Sto} : ∀ (xs : List α) (env : Env), E env → (∀ x ∈ xs, ∀ env, E env → ∃ env1, g (.d (toD x)) env μ = .ok env1 μ ∧ (test x = true → b env1 μ = .ok (.rt (ret x)) μ) ∧ (test x = false → ∃ env2, b env1 μ = .ok (.nx env2) μ ∧ E env2)) →
    (∀ x, xs.find? test = some x → forF g b (xs.map toD) env μ = .ok (.rt (ret x)) μ) ∧ (xs.find? test = none → ∃ env', forF g b (xs.map toD) env μ = .ok (.nx env') μ ∧ E env')
  | [], env, h, _ => ⟨fun x hx => (by simp at hx), fun _ => ⟨env, rfl, h⟩⟩
  | x :: r, env, h, hs => by
    obtain ⟨env1, h1, h2, h3⟩ := hs x List.mem_cons_self env h
    rw [List.map_cons, List.find?_cons]
    unfold forF
    rw [h1]
    simp only [noex_ok, Rs.bind_ok]
    cases ht : test x with
    | true =>
      simp only [h2 ht, Rs.bind_ok]
      exact ⟨fun y hy => by cases hy; rfl, fun z => by cases z⟩
    | false =>
      obtain ⟨env2, h4, h5⟩ := h3 ht
      simp only [h4, Rs.bind_ok]
      exact for_find r env2 h5 fun y hy => hs y (List.mem_cons_of_mem _ hy)
/-! ### the greatest common divisor -/
section
variable {μ : Sto}
theorem gcd_loop : ∀ (n a b : Nat), b < n → whileF (fB (fOp (cmpW fun i j => decide (j < i)) (fVar 1) (fC (.int 0)))) L_common_1 n [some (.d (.int (a : Nat))), some (.d (.int (b : Nat)))] μ = .ok (.nx [some (.d (.int (Nat.gcd a b : Nat))), some (.d (.int 0))]) μ
  | 0, a, b, h => absurd h (Nat.not_lt_zero _)
  | n + 1, a, b, h => by
    unfold whileF
    by_cases hb : b = 0
    · subst hb
      simp
    · have h1 : 0 < b := Nat.pos_of_ne_zero hb
      have h2 : (0 : Int) < (b : Int) := by omega
      have e : ((a : Int) % (b : Int)) = ((a % b : Nat) : Int) := rfl
      have ih := gcd_loop n b (a % b) (by have := Nat.mod_lt a h1; omega)
      have g : Nat.gcd b (a % b) = Nat.gcd a b := by rw [Nat.gcd_comm b (a % b), ← Nat.gcd_rec, Nat.gcd_comm]
      rw [g] at ih
      simp [h1, o_mod h2]
      simp at ih
      exact ih
theorem common_ok (a b : Nat) (h : b < 64) : g_common [.d (.int (a : Nat)), .d (.int (b : Nat))] μ = .ok (.d (.int (Nat.gcd a b : Nat))) μ := by
  unfold g_common
  refine run_0 ?_
  unfold B_common
  have e := gcd_loop (μ := μ) w_common a b h
  simp [startE]
  rw [e]
  simp
/-! ### near -/
def nearOf (B : List (List Pd)) : Int := B.foldl (fun f r => if 1 + knobSum r > f then 1 + knobSum r else f) 1
def hasKn : Pd → Bool
  | .turn | .fold | .late _ => false
  | _ => true
theorem kn_sum : ∀ r : List Pd, ((r.filter hasKn).map kn).sum = knobSum r
  | [] => rfl
  | p :: r => by
    have := kn_sum r
    cases p <;> simp_all [List.filter_cons, hasKn, knobSum, kn]
theorem in_plain3 (z : Str) : inW true (.d (.str z)) (.d (.tuple [.str "turn", .str "fold", .str "late"])) μ = .ok (.d (.bool (!decide (z = "turn" ∨ z = "fold" ∨ z = "late")))) μ := by
  show (if flatD (.str z) = true ∧ ([.str "turn", .str "fold", .str "late"] : List D).all flatD = true then Rs.ok (Wv.d (.bool (if true = true then !(([.str "turn", .str "fold", .str "late"] : List D).any fun y => PyData.eqv y (.str z)) else ([.str "turn", .str "fold", .str "late"] : List D).any fun y => PyData.eqv y (.str z)))) μ else Rs.no) = _
  rw [if_pos ⟨rfl, rfl⟩, if_pos rfl]
  congr 4
  simp only [List.any_cons, List.any_nil, eqv_str, Bool.or_false]
  by_cases h1 : z = "turn" <;> by_cases h2 : z = "fold" <;> by_cases h3 : z = "late" <;> simp [h1, h2, h3, eq_comm]
theorem addK_late : addKW v_PLAIN (.d (.tuple [.str "late"])) μ = .ok (.d (.tuple [.str "turn", .str "fold", .str "late"])) μ := rfl
theorem near_ok {B : List (List Pd)} (hl : ∀ r ∈ B, r.length ≤ 1000000) : g_near_of [.d (boardD B)] μ = .ok (.d (.int (nearOf B))) μ := by
  unfold g_near_of
  refine run_0 ?_
  unfold B_near_of
  obtain ⟨env', e, a, b, c, rfl⟩ := for_fold (g := gVar 2) (b := L_near_of_1) (toD := rowD) (E := fun (f : Int) env => ∃ a b c, env = [some (.d (boardD B)), some (.d (.int f)), a, b, c]) (step := fun f r => if 1 + knobSum r > f then 1 + knobSum r else f) B 1 [some (.d (boardD B)), some (.d (.int 1)), none, none, none] μ ⟨_, _, _, rfl⟩ (by
    rintro r hr f env ⟨a, b, c, rfl⟩
    have e := fun z => comp_filter (g := gVar 4) (t := fB (fOp (inW true) (fOp ixW (fVar 4) (fC (.int 0))) (f1 (addKW v_PLAIN) (fTup (fCons (fC (.str "late")) (fNil)))))) (e := fCall kMax2 (fCons (fOp ixW (fVar 4) (fC (.int 1))) (fCons (fOp (opI fun i j => some (.int (i - j))) (fC (.int 0)) (fOp ixW (fVar 4) (fC (.int 1)))) (fNil)))) (env := [some (.d (boardD B)), some (.d (.int f)), some (.d (rowD r)), z, none]) (toD := Pd.toD) (q := hasKn) (φ := fun p => .int (kn p)) r μ [] (by
      intro p hp
      refine ⟨_, rfl, ?_, ?_⟩
      · cases p <;> simp [Pd.toD, addK_late, in_plain3, hasKn]
      · cases p <;> simp [Pd.toD, hasKn, kn]) (by have := hl r hr; simp [LIM]; omega)
    simp only [List.nil_append, rowD] at e
    refine ⟨_, [some (.d (boardD B)), some (.d (.int (if 1 + knobSum r > f then 1 + knobSum r else f))), some (.d (rowD r)), some (.d (.list ((r.filter hasKn).map fun p => .int (kn p)))), c], rfl, ?_, _, _, _, rfl⟩
    simp [rowD, e, kn_sum])
  simp only [boardD] at e
  simp [startE, boardD, e, nearOf]
/-! ### period -/
def perP (m : Nat) : Pd → Nat
  | .steps k => Nat.lcm m k.toNat
  | _ => m
def periodOf (B : List (List Pd)) : Nat := B.foldl (fun m r => r.foldl perP m) 1
theorem perP_60 {m : Nat} {p : Pd} (hp : p.ok) (h : m ∣ 60) : perP m p ∣ 60 := by
  cases p with
  | steps k =>
    simp only [Pd.ok] at hp
    refine Nat.lcm_dvd h ?_
    obtain ⟨n, rfl⟩ := Int.eq_ofNat_of_zero_le (show 0 ≤ k by omega)
    have : n = 2 ∨ n = 3 ∨ n = 4 ∨ n = 5 := by omega
    rcases this with rfl | rfl | rfl | rfl <;> decide
  | _ => exact h
theorem perP_le {m : Nat} (p : Pd) : m ∣ perP m p := by
  cases p with
  | steps k => exact Nat.dvd_lcm_left _ _
  | _ => exact Nat.dvd_refl m
theorem perR_60 : ∀ {r : List Pd} {m : Nat}, rowOk r → m ∣ 60 → r.foldl perP m ∣ 60
  | [], _, _, h => h
  | p :: r, m, ho, h => perR_60 (r := r) (fun q hq => ho q (List.mem_cons_of_mem _ hq)) (perP_60 (ho p List.mem_cons_self) h)
theorem perR_le : ∀ (r : List Pd) (m : Nat), m ∣ r.foldl perP m
  | [], m => Nat.dvd_refl m
  | p :: r, m => Nat.dvd_trans (perP_le p) (perR_le r (perP m p))
theorem perR_steps : ∀ {r : List Pd} (m : Nat), rowOk r → stepsDiv ((r.foldl perP m : Nat) : Int) r
  | [], m, _ => fun k hk => by cases hk
  | p :: r, m, ho => fun k hk => by
    rcases List.mem_cons.mp hk with hk | hk
    · subst hk
      have hp := ho _ List.mem_cons_self
      simp only [Pd.ok] at hp
      have h1 : k.toNat ∣ perP m (.steps k) := Nat.dvd_lcm_right _ _
      have h2 := Nat.dvd_trans h1 (perR_le r (perP m (.steps k)))
      have e : k = (k.toNat : Int) := by omega
      rw [e]
      exact Int.natCast_dvd_natCast.mpr h2
    · have ho' : rowOk r := fun q hq => ho q (List.mem_cons_of_mem _ hq)
      exact perR_steps (perP m p) ho' k hk
theorem perB_60 : ∀ {B : List (List Pd)} {m : Nat}, boardOk B → m ∣ 60 → B.foldl (fun m r => r.foldl perP m) m ∣ 60
  | [], _, _, h => h
  | r :: B, m, ho, h => perB_60 (B := B) (fun q hq => ho q (List.mem_cons_of_mem _ hq)) (perR_60 (ho r List.mem_cons_self) h)
theorem perB_le : ∀ (B : List (List Pd)) (m : Nat), m ∣ B.foldl (fun m r => r.foldl perP m) m
  | [], m => Nat.dvd_refl m
  | r :: B, m => Nat.dvd_trans (perR_le r m) (perB_le B _)
theorem perB_steps : ∀ {B : List (List Pd)} (m : Nat), boardOk B → ∀ r ∈ B, stepsDiv ((B.foldl (fun m r => r.foldl perP m) m : Nat) : Int) r
  | [], m, _, _, h => by cases h
  | s :: B, m, ho, r, h => by
    rcases List.mem_cons.mp h with h | h
    · subst h
      intro k hk
      exact Int.dvd_trans (perR_steps m (ho _ List.mem_cons_self) k hk) (Int.natCast_dvd_natCast.mpr (perB_le B _))
    · have ho' : boardOk B := fun q hq => ho q (List.mem_cons_of_mem _ hq)
      exact perB_steps _ ho' r h
theorem period_60 {B : List (List Pd)} (h : boardOk B) : periodOf B ∣ 60 := perB_60 h (Nat.one_dvd _)
theorem period_pos {B : List (List Pd)} (h : boardOk B) : 0 < periodOf B ∧ periodOf B ≤ 60 := ⟨Nat.pos_of_dvd_of_pos (period_60 h) (by decide), Nat.le_of_dvd (by decide) (period_60 h)⟩
theorem period_steps {B : List (List Pd)} (h : boardOk B) : ∀ r ∈ B, stepsDiv (periodOf B : Int) r := perB_steps 1 h
theorem period_div (m n : Nat) (hm0 : 0 < m) (hm : m ≤ 60) : opI divI (.d (.int ((m : Int) * (n : Int)))) (.d (.int ((Nat.gcd m n : Nat) : Int))) μ = .ok (.d (.int (Nat.lcm m n : Nat))) μ := by
  have hg : 0 < Nat.gcd m n := Nat.gcd_pos_of_pos_left _ hm0
  have hg2 : Nat.gcd m n ≤ m := Nat.gcd_le_left _ hm0
  have d := o_div (i := (m : Int) * (n : Int)) (j := ((Nat.gcd m n : Nat) : Int)) (μ := μ) (by omega) (by omega)
  rw [d]
  have q : (m : Int) * (n : Int) / ((Nat.gcd m n : Nat) : Int) = ((Nat.lcm m n : Nat) : Int) := by
    unfold Nat.lcm
    rw [Int.natCast_ediv, Int.natCast_mul]
  rw [q]
theorem period_turn {b0 r0 : Wv} {p : Pd} (hok : p.ok) {m : Nat} (hm : m ∣ 60) : L_period_of_1 [some b0, some (.d (.int (m : Nat))), some r0, some (.d p.toD)] μ = .ok (.nx [some b0, some (.d (.int (perP m p : Nat))), some r0, some (.d p.toD)]) μ := by
  cases p with
  | steps k =>
    simp only [Pd.ok] at hok
    obtain ⟨n, rfl⟩ := Int.eq_ofNat_of_zero_le (show 0 ≤ k by omega)
    have hm60 : m ≤ 60 := Nat.le_of_dvd (by decide) hm
    have hm0 : 0 < m := Nat.pos_of_dvd_of_pos hm (by decide)
    have c : CMul (m : Int) (n : Int) := cmul1 (by omega)
    have d := period_div (μ := μ) m n hm0 hm60
    have cm := common_ok (μ := μ) m n (by omega)
    have e1 : (fB (fOp (eqW false) (fOp ixW (fVar 3) (fC (.int 0))) (fC (.str "steps")))) [some b0, some (.d (.int (m : Nat))), some r0, some (.d (Pd.steps (n : Int)).toD)] μ = .ok true μ := by simp [Pd.toD, eq_str]
    have e2 : (fOp (opI divI) (fOp mulW (fVar 1) (fOp ixW (fVar 3) (fC (.int 1)))) (fCall (callD 2 g_common) (fCons (fVar 1) (fCons (fOp ixW (fVar 3) (fC (.int 1))) (fNil))))) [some b0, some (.d (.int (m : Nat))), some r0, some (.d (Pd.steps (n : Int)).toD)] μ = .ok (.d (.int (Nat.lcm m n : Nat))) μ := by
      rw [← d]
      simp -implicitDefEqProofs [-opI_int, Pd.toD, c, cm]
    have e3 : perP m (.steps (n : Int)) = Nat.lcm m n := by
      show Nat.lcm m (n : Int).toNat = _
      rw [Int.toNat_natCast]
    rw [e3]
    unfold L_period_of_1
    rw [e_sIf, e1, Rs.bind_ok, if_pos rfl, e_sAsg, e2]
    generalize Nat.lcm m n = z
    rfl
  | _ => simp -implicitDefEqProofs [Pd.toD, eq_str, perP]
theorem period_row {b0 : Wv} : ∀ {r : List Pd} {m : Nat} {b : Option Wv} (r0 : Wv), rowOk r → m ∣ 60 → ∃ b', forF (gVar 3) L_period_of_1 (r.map Pd.toD) [some b0, some (.d (.int (m : Nat))), some r0, b] μ = .ok (.nx [some b0, some (.d (.int (r.foldl perP m : Nat))), some r0, b']) μ
  | [], m, b, r0, _, _ => ⟨b, rfl⟩
  | p :: r, m, b, r0, ho, hm => by
    obtain ⟨b', e⟩ := period_row (b0 := b0) (r := r) (m := perP m p) (b := some (.d p.toD)) r0 (fun q hq => ho q (List.mem_cons_of_mem _ hq)) (perP_60 (ho p List.mem_cons_self) hm)
    refine ⟨b', ?_⟩
    rw [List.map_cons, List.foldl_cons]
    unfold forF
    simp only [e_gVar, noex_ok, Rs.bind_ok, List.set_cons_succ, List.set_cons_zero, period_turn (ho p List.mem_cons_self) hm, e]
theorem period_rows {b0 : Wv} : ∀ {B : List (List Pd)} {m : Nat} {a b : Option Wv}, boardOk B → m ∣ 60 → ∃ a' b', forF (gVar 2) L_period_of_2 (B.map rowD) [some b0, some (.d (.int (m : Nat))), a, b] μ = .ok (.nx [some b0, some (.d (.int (B.foldl (fun m r => r.foldl perP m) m : Nat))), a', b']) μ
  | [], m, a, b, _, _ => ⟨a, b, rfl⟩
  | r :: B, m, a, b, ho, hm => by
    obtain ⟨b1, e1⟩ := period_row (μ := μ) (b0 := b0) (r := r) (m := m) (b := b) (.d (rowD r)) (ho r List.mem_cons_self) hm
    obtain ⟨a', b', e⟩ := period_rows (b0 := b0) (B := B) (m := r.foldl perP m) (a := some (.d (rowD r))) (b := b1) (fun q hq => ho q (List.mem_cons_of_mem _ hq)) (perR_60 (ho r List.mem_cons_self) hm)
    refine ⟨a', b', ?_⟩
    rw [List.map_cons, List.foldl_cons]
    unfold forF
    have e2 : L_period_of_2 [some b0, some (.d (.int (m : Nat))), some (.d (rowD r)), b] μ = .ok (.nx [some b0, some (.d (.int (r.foldl perP m : Nat))), some (.d (rowD r)), b1]) μ := by
      rw [← e1]
      rfl
    simp only [e_gVar, noex_ok, Rs.bind_ok, List.set_cons_succ, List.set_cons_zero, e2, e]
theorem period_ok {B : List (List Pd)} (h : boardOk B) : g_period_of [.d (boardD B)] μ = .ok (.d (.int (periodOf B : Nat))) μ := by
  unfold g_period_of
  refine run_0 ?_
  unfold B_period_of
  obtain ⟨a', b', e⟩ := period_rows (μ := μ) (b0 := .d (boardD B)) (B := B) (m := 1) (a := none) (b := none) h (Nat.one_dvd _)
  have e0 : (itS (fVar 0)) [some (.d (boardD B)), some (.d (.int 1)), none, none] μ = .ok (B.map rowD) μ := rfl
  show (sCons _ _) [some (.d (boardD B)), none, none, none] μ = _
  simp only [e_sCons, e_sAsg, e_fC, Rs.bind_ok, e_gVar, noex_ok, List.set_cons_succ, List.set_cons_zero, e_sFor, e0]
  have e' : forF (gVar 2) L_period_of_2 (B.map rowD) [some (.d (boardD B)), some (.d (.int 1)), none, none] μ = _ := e
  rw [e']
  rfl
end
end Ped

/-! PedK: by loudness, span, what parts two boards -/
namespace Ped
open PySem L2 PyProof.Rows PySem.Spec
/-! ### numbers by loudness -/
def louds (m : Nat) : List Int := 0 :: (List.range m).flatMap fun (i : Nat) => [(i : Int) + 1, -((i : Int) + 1)]
theorem louds_len : ∀ m : Nat, (louds m).length = 2 * m + 1 := fun m => by
  have : ∀ k : Nat, ((List.range k).flatMap fun (i : Nat) => [(i : Int) + 1, -((i : Int) + 1)]).length = 2 * k := fun k => by
    induction k with
    | zero => rfl
    | succ k ih => rw [List.range_succ, List.flatMap_append, List.length_append, ih]; simp; omega
  unfold louds
  rw [List.length_cons, this]
theorem louds_succ (m : Nat) : louds (m + 1) = louds m ++ [(m : Int) + 1, -((m : Int) + 1)] := by
  unfold louds
  rw [List.range_succ, List.flatMap_append]
  simp
theorem mem_louds {m : Nat} {z : Int} : z ∈ louds m ↔ -(m : Int) ≤ z ∧ z ≤ m := by
  induction m with
  | zero => simp [louds]; omega
  | succ m ih =>
    rw [louds_succ, List.mem_append, ih]
    simp
    omega
theorem louds_pre {m n : Nat} (h : m ≤ n) : ∃ r, louds n = louds m ++ r ∧ ∀ z ∈ r, (m : Int) < (if z < 0 then -z else z) := by
  induction n with
  | zero =>
    have : m = 0 := by omega
    subst this
    exact ⟨[], by simp, by simp⟩
  | succ n ih =>
    by_cases hm : m = n + 1
    · subst hm
      exact ⟨[], by simp, by simp⟩
    · obtain ⟨r, e, hr⟩ := ih (by omega)
      refine ⟨r ++ [(n : Int) + 1, -((n : Int) + 1)], by rw [louds_succ, e, List.append_assoc], fun z hz => ?_⟩
      rcases List.mem_append.mp hz with hz | hz
      · exact hr z hz
      · simp at hz
        rcases hz with rfl | rfl
        · split <;> omega
        · split <;> omega
section
variable {μ : Sto}
theorem loud_loop {b : FS} (hb : ∀ (z : Int) (s : List Int) (x : Wv), s.length ≤ 1000000 → ∀ y, b [some x, some (.d (.list (s.map PyData.int))), some (.d (.int z))] μ = .ok (.nx [some x, some (.d (.list ((s ++ [z, -z]).map PyData.int))), some (.d (.int z))]) μ ∨ y = true ∧ False) (m : Nat) (hm : m ≤ 100000) (x : Wv) : ∃ t, forF (gVar 2) b (rangeD 1 m) [some x, some (.d (.list ((louds 0).map PyData.int))), none] μ = .ok (.nx [some x, some (.d (.list ((louds m).map PyData.int))), t]) μ := by
  obtain ⟨env', μ', e, ⟨t, rfl⟩, rfl⟩ := for_nat (g := gVar 2) (b := b) (E := fun i env μ' => (∃ t, env = [some x, some (.d (.list ((louds i).map PyData.int))), t]) ∧ μ' = μ) (rangeD 1 m) 0 [some x, some (.d (.list ((louds 0).map PyData.int))), none] μ ⟨⟨_, rfl⟩, rfl⟩ (by
    rintro i hi env μ' ⟨⟨t, rfl⟩, rfl⟩
    rw [rangeD_length] at hi
    have ei : (rangeD 1 m)[i]'(by rw [rangeD_length]; exact hi) = .int ((i : Int) + 1) := by
      simp [rangeD]
      omega
    refine ⟨_, _, _, _, by rw [ei]; rfl, ?_, ⟨some (.d (.int ((i : Int) + 1))), rfl⟩, rfl⟩
    rcases hb ((i : Int) + 1) (louds i) x (by rw [louds_len]; omega) true with h | h
    · rw [Nat.zero_add, louds_succ]
      exact h
    · exact h.2.elim)
  rw [rangeD_length, Nat.zero_add] at e
  exact ⟨t, e⟩
theorem by_loud_ok (m : Nat) (hm : m ≤ 100000) : g_by_loudness [.d (.int (m : Nat))] μ = .ok (.d (.list ((louds m).map PyData.int))) μ := by
  unfold g_by_loudness
  refine run_0 ?_
  unfold B_by_loudness
  obtain ⟨t, e⟩ := loud_loop (μ := μ) (b := L_by_loudness_1) (fun z s x hs _ => .inl (by
    have hl : s.length + 2 ≤ 16000000 := by omega
    simp [o_addL, LIM, hl])) m hm (.d (.int (m : Nat)))
  have e2 := rg_k2 (i := 1) (j := (m : Int) + 1) (μ := μ) (by omega) (by omega)
  rw [show ((m : Int) + 1 - 1).toNat = m by omega] at e2
  simp only [louds, List.range_zero, List.flatMap_nil, List.map_cons, List.map_nil] at e
  simp -implicitDefEqProofs [startE, e2, e, louds]
theorem around_ok (m : Nat) (hm : m ≤ 100000) : g__law_around [.d (.int (m : Nat))] μ = .ok (.d (.list ((louds m).map PyData.int))) μ := by
  unfold g__law_around
  refine run_0 ?_
  unfold B__law_around
  obtain ⟨t, e⟩ := loud_loop (μ := μ) (b := L__law_around_1) (fun z s x hs _ => .inl (by
    have hl : s.length + 2 ≤ 16000000 := by omega
    simp [o_addL, LIM, hl])) m hm (.d (.int (m : Nat)))
  have e2 := rg_k2 (i := 1) (j := (m : Int) + 1) (μ := μ) (by omega) (by omega)
  rw [show ((m : Int) + 1 - 1).toNat = m by omega] at e2
  simp only [louds, List.range_zero, List.flatMap_nil, List.map_cons, List.map_nil] at e
  simp -implicitDefEqProofs [startE, e2, e, louds]
/-! ### near and span, bounded -/
theorem knobSum_le : ∀ {r : List Pd}, rowOk r → knobSum r ≤ 50 * r.length
  | [], _ => by simp [knobSum]
  | p :: r, h => by
    have ih := knobSum_le (r := r) fun q hq => h q (List.mem_cons_of_mem _ hq)
    have hp := h p List.mem_cons_self
    have e : knobSum (p :: r) = kn p + knobSum r := by simp [knobSum]
    have hk : kn p ≤ 50 := by
      cases p <;> simp only [Pd.ok] at hp <;> simp only [kn] <;> first | omega | (split <;> omega)
    rw [e, List.length_cons]
    omega
theorem near_fold : ∀ (B : List (List Pd)) (f : Int), f ≤ B.foldl (fun f r => if 1 + knobSum r > f then 1 + knobSum r else f) f ∧ (∀ r ∈ B, knobSum r < B.foldl (fun f r => if 1 + knobSum r > f then 1 + knobSum r else f) f) ∧ ∀ b : Int, f ≤ b → (∀ r ∈ B, 1 + knobSum r ≤ b) → B.foldl (fun f r => if 1 + knobSum r > f then 1 + knobSum r else f) f ≤ b
  | [], f => ⟨Int.le_refl f, by simp, fun b h _ => h⟩
  | r :: B, f => by
    obtain ⟨x, hx⟩ : ∃ x, x = (if 1 + knobSum r > f then 1 + knobSum r else f) := ⟨_, rfl⟩
    have hx1 : f ≤ x ∧ 1 + knobSum r ≤ x ∧ (x = f ∨ x = 1 + knobSum r) := by rw [hx]; split <;> omega
    rw [List.foldl_cons, ← hx]
    obtain ⟨h1, h2, h3⟩ := near_fold B x
    refine ⟨?_, fun s hs => ?_, fun b hb hB => h3 b ?_ fun s hs => hB s (List.mem_cons_of_mem _ hs)⟩
    · omega
    · rcases List.mem_cons.mp hs with rfl | hs
      · omega
      · exact h2 s hs
    · have := hB r List.mem_cons_self
      omega
theorem near_lt {B : List (List Pd)} : ∀ r ∈ B, knobSum r < nearOf B := (near_fold B 1).2.1
theorem near_bound {B : List (List Pd)} (h : boardOk B) {k : Nat} (hl : ∀ r ∈ B, r.length ≤ k) : 1 ≤ nearOf B ∧ nearOf B ≤ 1 + 50 * k := by
  refine ⟨(near_fold B 1).1, (near_fold B 1).2.2 _ (by omega) fun r hr => ?_⟩
  have := knobSum_le (h r hr)
  have := hl r hr
  omega
def spanOf (B : List (List Pd)) : Nat := (nearOf B).toNat + 2 * periodOf B
theorem span_ok {B : List (List Pd)} (h : boardOk B) (hl : ∀ r ∈ B, r.length ≤ 1000000) : g_span_of [.d (boardD B)] μ = .ok (.d (.int (spanOf B : Nat))) μ := by
  unfold g_span_of
  refine run_0 ?_
  unfold B_span_of
  have c : CMul 2 (periodOf B : Nat) := cmul1 (by omega)
  have n := (near_bound h hl).1
  have e : nearOf B + 2 * (periodOf B : Nat) = (spanOf B : Nat) := by unfold spanOf; omega
  simp -implicitDefEqProofs [startE, near_ok hl, period_ok h, c, e]
/-! ### the parts of a board -/
def partShape (B : List (List Pd)) (L n : Int) : Int := ((B.filter fun r => decide (lateOf r = L)).map fun r => rowShape r n - rowShape r 0).sum
def lates (B : List (List Pd)) : List Int := sset (B.map lateOf)
theorem toInts_map2 {α : Type} (f : α → Int) (xs : List α) : toInts (xs.map fun x => PyData.int (f x)) = some (xs.map f) := by
  have := toInts_map (xs.map f)
  rw [List.map_map] at this
  exact this
theorem lates_ok {B : List (List Pd)} (hl : ∀ r ∈ B, r.length ≤ 1000000) (hB : B.length < 64) : g_latenesses [.d (boardD B)] μ = .ok (.d (.list ((lates B).map PyData.int))) μ := by
  unfold g_latenesses
  refine run_0 ?_
  unfold B_latenesses
  have e := comp_map (g := gVar 1) (e := fCall (callD 1 g_late_of) (fCons (fVar 1) (fNil))) (env := [some (.d (boardD B)), none]) (toD := rowD) (φ := fun r => .int (lateOf r)) B μ [] (fun r hr => ⟨_, rfl, by simp [late_of_ok (hl r hr)]⟩) (by simp [LIM]; omega)
  simp only [List.nil_append, boardD] at e
  simp [startE, boardD, e, ssW, toInts_map2, hB, lates]
theorem part_ok {B : List (List Pd)} (h : boardOk B) (hl : ∀ r ∈ B, r.length ≤ 1000000) (hB : B.length ≤ 1000000) (L n : Int) : g_part_shape [.d (boardD B), .d (.int L), .d (.int n)] μ = .ok (.d (.int (partShape B L n))) μ := by
  unfold g_part_shape
  refine run_0 ?_
  unfold B_part_shape
  have e := comp_filter (g := gVar 3) (t := fB (fOp (eqW false) (fCall (callD 1 g_late_of) (fCons (fVar 3) (fNil))) (fVar 1))) (e := fOp (opI fun i j => some (.int (i - j))) (fCall (callD 2 g_row_shape) (fCons (fVar 3) (fCons (fVar 2) (fNil)))) (fCall (callD 2 g_row_shape) (fCons (fVar 3) (fCons (fC (.int 0)) (fNil))))) (env := [some (.d (boardD B)), some (.d (.int L)), some (.d (.int n)), none]) (toD := rowD) (q := fun r => decide (lateOf r = L)) (φ := fun r => .int (rowShape r n - rowShape r 0)) B μ [] (fun r hr => ⟨_, rfl, by simp [late_of_ok (hl r hr), eq_int], fun _ => by simp [row_shape_ok (h r hr)]⟩) (by simp [LIM]; omega)
  simp only [List.nil_append, boardD] at e
  simp [startE, boardD, e, partShape]
def differs (one other : List (List Pd)) (n : Int) : Bool := (sset (lates one ++ lates other)).any fun L => !decide (partShape one L n = partShape other L n)
def partingD (one other : List (List Pd)) : D := if heardAt one [] 0 = heardAt other [] 0 then (match (louds (spanOf (one ++ other))).find? (differs one other) with
  | some n => .tuple [.int n]
  | none => .none) else .tuple []
theorem find_any {α : Type} {p : α → Bool} : ∀ {xs : List α}, xs.any p = true → ∃ x, xs.find? p = some x
  | x :: r, h => by
    rw [List.find?_cons]
    cases hp : p x with
    | true => exact ⟨x, rfl⟩
    | false =>
      rw [List.any_cons, hp, Bool.false_or] at h
      exact find_any h
theorem find_none {α : Type} {p : α → Bool} {xs : List α} (h : xs.any p = false) : xs.find? p = none := by
  rw [List.find?_eq_none]
  intro x hx hp
  have := List.any_eq_true.mpr ⟨x, hx, hp⟩
  rw [h] at this
  cases this
structure BOk (B : List (List Pd)) : Prop where
  ok : boardOk B
  rl : ∀ r ∈ B, r.length ≤ 6
  l1 : 1 ≤ B.length
  l3 : B.length ≤ 3
theorem parting_ok {one other : List (List Pd)} (h1 : BOk one) (h2 : BOk other) : g_parting_of [.d (boardD one), .d (boardD other)] μ = .ok (.d (partingD one other)) μ := by
  have r1 : ∀ r ∈ one, r.length ≤ 1000000 := fun r hr => by have := h1.rl r hr; omega
  have r2 : ∀ r ∈ other, r.length ≤ 1000000 := fun r hr => by have := h2.rl r hr; omega
  have b1 := h1.l3
  have b2 := h2.l3
  have ho : boardOk (one ++ other) := fun r hr => by
    rcases List.mem_append.mp hr with hr | hr
    · exact h1.ok r hr
    · exact h2.ok r hr
  have hr6 : ∀ r ∈ one ++ other, r.length ≤ 6 := fun r hr => by
    rcases List.mem_append.mp hr with hr | hr
    · exact h1.rl r hr
    · exact h2.rl r hr
  have hsp : spanOf (one ++ other) ≤ 1000 := by
    have := near_bound ho hr6
    have := period_pos ho
    unfold spanOf
    omega
  have eh1 := heard_at_ok (μ := μ) h1.ok r1 (by omega) [] 0
  have eh2 := heard_at_ok (μ := μ) h2.ok r2 (by omega) [] 0
  have el1 := lates_ok (μ := μ) r1 (by omega)
  have el2 := lates_ok (μ := μ) r2 (by omega)
  have es := span_ok (μ := μ) ho (fun r hr => by have := hr6 r hr; omega)
  have eb := by_loud_ok (μ := μ) (spanOf (one ++ other)) (by omega)
  have hll : (lates one).length + (lates other).length < 64 := by
    have := sset_len (one.map lateOf)
    have := sset_len (other.map lateOf)
    simp only [List.length_map] at *
    unfold lates
    omega
  have ess : ssW (.d (.list ((lates one).map PyData.int ++ (lates other).map PyData.int))) μ = .ok (.d (.list ((sset (lates one ++ lates other)).map PyData.int))) μ := by
    unfold ssW
    rw [← List.map_append]
    simp only [toInts_map]
    rw [if_pos (by rw [List.length_append]; exact hll)]
  have inner : ∀ (n : Int) (t : Option Wv), (∀ L, (sset (lates one ++ lates other)).find? (fun L => !decide (partShape one L n = partShape other L n)) = some L → forF (gVar 4) L_parting_of_1 ((sset (lates one ++ lates other)).map PyData.int) [some (.d (boardD one)), some (.d (boardD other)), some (.d (.list ((sset (lates one ++ lates other)).map PyData.int))), some (.d (.int n)), t] μ = .ok (.rt (.d (.tuple [.int n]))) μ) ∧
      ((sset (lates one ++ lates other)).find? (fun L => !decide (partShape one L n = partShape other L n)) = none → ∃ env', forF (gVar 4) L_parting_of_1 ((sset (lates one ++ lates other)).map PyData.int) [some (.d (boardD one)), some (.d (boardD other)), some (.d (.list ((sset (lates one ++ lates other)).map PyData.int))), some (.d (.int n)), t] μ = .ok (.nx env') μ ∧ ∃ t, env' = [some (.d (boardD one)), some (.d (boardD other)), some (.d (.list ((sset (lates one ++ lates other)).map PyData.int))), some (.d (.int n)), t]) := fun n t => by
    refine for_find (toD := PyData.int) (E := fun env => ∃ t, env = [some (.d (boardD one)), some (.d (boardD other)), some (.d (.list ((sset (lates one ++ lates other)).map PyData.int))), some (.d (.int n)), t]) (test := fun L => !decide (partShape one L n = partShape other L n)) (ret := fun _ => .d (.tuple [.int n])) _ _ ⟨_, rfl⟩ ?_
    rintro L hL env ⟨t, rfl⟩
    have e1 := part_ok (μ := μ) h1.ok r1 (by omega) L n
    have e2 := part_ok (μ := μ) h2.ok r2 (by omega) L n
    refine ⟨_, rfl, fun hT => ?_, fun hF => ⟨_, ?_, some (.d (.int L)), rfl⟩⟩
    · have hT : ¬ partShape one L n = partShape other L n := by simpa using hT
      simp -implicitDefEqProofs [e1, e2, eq_int, hT]
    · have hF : partShape one L n = partShape other L n := by simpa using hF
      simp -implicitDefEqProofs [e1, e2, eq_int, hF]
  have outer := for_find (g := gVar 3) (b := L_parting_of_2) (toD := PyData.int) (μ := μ) (E := fun env => ∃ a t, env = [some (.d (boardD one)), some (.d (boardD other)), some (.d (.list ((sset (lates one ++ lates other)).map PyData.int))), a, t]) (test := differs one other) (ret := fun n => .d (.tuple [.int n])) (louds (spanOf (one ++ other))) [some (.d (boardD one)), some (.d (boardD other)), some (.d (.list ((sset (lates one ++ lates other)).map PyData.int))), none, none] ⟨_, _, rfl⟩ (by
    rintro n hn env ⟨a, t, rfl⟩
    refine ⟨_, rfl, fun hT => ?_, fun hF => ?_⟩
    · obtain ⟨L, hL⟩ := find_any hT
      have := (inner n t).1 L hL
      simp -implicitDefEqProofs [this]
    · obtain ⟨env', e, t', rfl⟩ := (inner n t).2 (find_none hF)
      exact ⟨[some (.d (boardD one)), some (.d (boardD other)), some (.d (.list ((sset (lates one ++ lates other)).map PyData.int))), some (.d (.int n)), t'], by simp -implicitDefEqProofs [e], some (.d (.int n)), t', rfl⟩)
  unfold g_parting_of
  refine run_0 ?_
  unfold B_parting_of
  have hL2 : one.length + other.length ≤ 16000000 := by omega
  have hL3 : (lates one).length + (lates other).length ≤ 16000000 := by omega
  simp only [boardD, List.map_append, numsD, List.map_nil] at eh1 eh2 el1 el2 es eb outer
  unfold partingD
  by_cases hh : heardAt one [] 0 = heardAt other [] 0
  · cases hf : (louds (spanOf (one ++ other))).find? (differs one other) with
    | none =>
      obtain ⟨env', e, a, t, rfl⟩ := outer.2 hf
      simp -implicitDefEqProofs [startE, boardD, eh1, eh2, eq_int, hh, el1, el2, o_addL, o_addT, LIM, hL2, hL3, ess, es, eb, e]
    | some n =>
      have e := outer.1 n hf
      simp -implicitDefEqProofs [startE, boardD, eh1, eh2, eq_int, hh, el1, el2, o_addL, o_addT, LIM, hL2, hL3, ess, es, eb, e]
  · simp -implicitDefEqProofs [startE, boardD, eh1, eh2, eq_int, hh]
theorem alike_ok {one other : List (List Pd)} (h1 : BOk one) (h2 : BOk other) : g_alike [.d (boardD one), .d (boardD other)] μ = .ok (.d (.bool (isNoneD (partingD one other)))) μ := by
  unfold g_alike
  refine run_0 ?_
  unfold B_alike
  have e : isNW false (.d (partingD one other)) (.d .none) μ = .ok (.d (.bool (isNoneD (partingD one other)))) μ := rfl
  simp -implicitDefEqProofs [startE, need_board_ok h1.ok h1.rl h1.l1 h1.l3, need_board_ok h2.ok h2.rl h2.l1 h2.l3, parting_ok h1 h2, e]
end
end Ped

/-! PedJ: what agrees near nought agrees everywhere; the law's own sums -/
namespace Ped
open PySem L2 PyProof.Rows PySem.Spec
/-! ### the far side of two boards -/
def steady (D : Int → Int) (N P : Int) : Prop := ∃ t, ∀ n, N ≤ n → D (n + P) = D n + t
theorem steady_sum {α : Type} {N P : Int} (f : α → Int → Int) : ∀ xs : List α, (∀ x ∈ xs, steady (f x) N P) → steady (fun n => (xs.map fun x => f x n).sum) N P
  | [], _ => ⟨0, fun n _ => by simp⟩
  | x :: r, h => by
    obtain ⟨t, ht⟩ := h x List.mem_cons_self
    obtain ⟨u, hu⟩ := steady_sum f r fun y hy => h y (List.mem_cons_of_mem _ hy)
    refine ⟨t + u, fun n hn => ?_⟩
    have h1 := ht n hn
    have h2 := hu n hn
    simp only [List.map_cons, List.sum_cons] at *
    omega
theorem steady_part {A B : List (List Pd)} {P N : Int} (hP : 0 < P) (h : boardOk A) (hs : ∀ r ∈ A, stepsDiv P r) (hN : ∀ r ∈ A, knobSum r < N) (L : Int) : steady (fun n => partShape A L n) N P ∧ steady (fun n => partShape A L (-n)) N P := by
  refine ⟨steady_sum (fun r n => rowShape r n - rowShape r 0) _ fun r hr => ?_, steady_sum (fun r n => rowShape r (-n) - rowShape r 0) _ fun r hr => ?_⟩
  · have hr := (List.mem_filter.mp hr).1
    obtain ⟨t, ht⟩ := far_pos hP (h r hr) (hs r hr) (hN r hr)
    exact ⟨t, fun n hn => by have := ht n hn; simp only; omega⟩
  · have hr := (List.mem_filter.mp hr).1
    obtain ⟨t, ht⟩ := far_neg hP (h r hr) (hs r hr) (hN r hr)
    exact ⟨t, fun n hn => by have := ht n hn; simp only; omega⟩
theorem steady_zero {D : Int → Int} {N P : Int} (hP : 0 < P) (h : steady D N P) (z : ∀ n, N ≤ n → n ≤ N + 2 * P → D n = 0) : ∀ n, N ≤ n → D n = 0 := by
  obtain ⟨t, ht⟩ := h
  have t0 : t = 0 := by
    have h1 := ht N (Int.le_refl N)
    have h2 := z N (Int.le_refl N) (by omega)
    have h3 := z (N + P) (by omega) (by omega)
    omega
  have key : ∀ (k : Nat) (n : Int), N ≤ n → n < N + P * (k + 1) → D n = 0 := fun k => by
    induction k with
    | zero =>
      intro n h1 h2
      refine z n h1 ?_
      simp at h2
      omega
    | succ k ih =>
      intro n h1 h2
      by_cases hc : n < N + P
      · exact z n h1 (by omega)
      · have e := ht (n - P) (by omega)
        rw [show n - P + P = n by omega, t0] at e
        rw [e, Int.add_zero]
        refine ih (n - P) (by omega) ?_
        have e2 : P * (((k + 1 : Nat) : Int) + 1) = P * ((k : Int) + 1) + P := by
          rw [Int.natCast_succ, Int.mul_add, Int.mul_one]
        rw [e2] at h2
        omega
  intro n hn
  refine key (n - N).toNat n hn ?_
  have e : (((n - N).toNat : Nat) : Int) = n - N := by omega
  rw [e]
  have : 1 * (n - N + 1) ≤ P * (n - N + 1) := Int.mul_le_mul_of_nonneg_right (by omega) (by omega)
  omega
theorem agree_all {one other : List (List Pd)} (ho : boardOk (one ++ other)) {L : Int} (z : ∀ n : Int, -(spanOf (one ++ other) : Int) ≤ n → n ≤ spanOf (one ++ other) → partShape one L n = partShape other L n) : ∀ n, partShape one L n = partShape other L n := by
  have h1 : boardOk one := fun r hr => ho r (List.mem_append_left _ hr)
  have h2 : boardOk other := fun r hr => ho r (List.mem_append_right _ hr)
  obtain ⟨p0, p60⟩ := period_pos ho
  have hP : 0 < (periodOf (one ++ other) : Int) := by omega
  have hs := period_steps ho
  have hN := near_lt (B := one ++ other)
  have n1 : 1 ≤ nearOf (one ++ other) := (near_fold _ 1).1
  have hsp : (spanOf (one ++ other) : Int) = nearOf (one ++ other) + 2 * (periodOf (one ++ other) : Int) := by unfold spanOf; omega
  obtain ⟨a1, a2⟩ := steady_part (B := []) hP h1 (fun r hr => hs r (List.mem_append_left _ hr)) (fun r hr => hN r (List.mem_append_left _ hr)) L
  obtain ⟨b1, b2⟩ := steady_part (B := []) hP h2 (fun r hr => hs r (List.mem_append_right _ hr)) (fun r hr => hN r (List.mem_append_right _ hr)) L
  have sub : ∀ {f g : Int → Int} {N P : Int}, steady f N P → steady g N P → steady (fun n => f n - g n) N P := fun ⟨t, ht⟩ ⟨u, hu⟩ => ⟨t - u, fun n hn => by have := ht n hn; have := hu n hn; simp only; omega⟩
  have c1 := steady_zero hP (sub a1 b1) fun n h1 h2 => by have := z n (by omega) (by omega); omega
  have c2 := steady_zero hP (sub a2 b2) fun n h1 h2 => by have := z (-n) (by omega) (by omega); omega
  intro n
  by_cases g1 : nearOf (one ++ other) ≤ n
  · have q : partShape one L n - partShape other L n = 0 := c1 n g1
    omega
  · by_cases g2 : nearOf (one ++ other) ≤ -n
    · have q : partShape one L (- -n) - partShape other L (- -n) = 0 := c2 (-n) g2
      rw [Int.neg_neg] at q
      omega
    · exact z n (by omega) (by omega)
theorem part_none {B : List (List Pd)} {L n : Int} (h : L ∉ lates B) : partShape B L n = 0 := by
  have e : B.filter (fun r => decide (lateOf r = L)) = [] := by
    rw [List.filter_eq_nil_iff]
    intro r hr hq
    refine h (mem_sset.mpr ?_)
    rw [List.mem_map]
    exact ⟨r, hr, of_decide_eq_true hq⟩
  unfold partShape
  rw [e]
  rfl
theorem not_differs {one other : List (List Pd)} {n : Int} : differs one other n = false ↔ ∀ L, partShape one L n = partShape other L n := by
  unfold differs
  rw [List.any_eq_false]
  constructor
  · intro h L
    by_cases hL : L ∈ sset (lates one ++ lates other)
    · simpa using h L hL
    · rw [mem_sset, List.mem_append, not_or] at hL
      rw [part_none hL.1, part_none hL.2]
  · intro h L _
    simp [h L]
theorem find_same {one other : List (List Pd)} (ho : boardOk (one ++ other)) {m : Nat} (hm : spanOf (one ++ other) ≤ m) : (louds m).find? (differs one other) = (louds (spanOf (one ++ other))).find? (differs one other) := by
  obtain ⟨r, e, _⟩ := louds_pre hm
  rw [e, List.find?_append]
  cases hf : (louds (spanOf (one ++ other))).find? (differs one other) with
  | some x => rfl
  | none =>
    rw [List.find?_eq_none] at hf
    have all : ∀ L n, partShape one L n = partShape other L n := fun L => agree_all ho fun n h1 h2 => by
      have := hf n (mem_louds.mpr ⟨h1, h2⟩)
      exact not_differs.mp (by simpa using this) L
    show none.or (List.find? _ r) = none
    rw [Option.none_or, List.find?_eq_none]
    intro x _ hx
    rw [not_differs.mpr fun L => all L x] at hx
    cases hx
/-! ### the law's own sums -/
def lk : List (Int × Int) → Int → Option Int
  | [], _ => none
  | (a, b) :: r, L => if a = L then some b else lk r L
def pt (kv : List (Int × Int)) (L z : Int) : List (Int × Int) := if kv.any (fun p => decide (p.1 = L)) = true then kv.map (fun p => if p.1 = L then (p.1, z) else p) else kv ++ [(L, z)]
def kvM (kv : List (Int × Int)) : List (Key × Wv) := kv.map fun p => (Sum.inl p.1, .d (.int p.2))
theorem valW_kvM (L : Int) : ∀ kv : List (Int × Int), valW (kvM kv) (Sum.inl L : Key) = (lk kv L).map fun z => .d (.int z)
  | [] => rfl
  | (a, b) :: r => by
    show valW ((Sum.inl a, _) :: kvM r) _ = _
    have e : lk ((a, b) :: r) L = if a = L then some b else lk r L := rfl
    rw [valW_cons, valW_kvM L r, e]
    by_cases h : a = L
    · rw [if_pos h, if_pos (by rw [h])]; rfl
    · rw [if_neg h, if_neg (by intro z; exact h (Sum.inl.inj z))]
theorem any_kvM (L : Int) (kv : List (Int × Int)) : ((kvM kv).any fun p => decide (p.1 = (Sum.inl L : Key))) = kv.any fun p => decide (p.1 = L) := by
  unfold kvM
  rw [List.any_map]
  congr 1
  funext p
  show decide ((Sum.inl p.1 : Key) = Sum.inl L) = decide (p.1 = L)
  by_cases h : p.1 = L
  · rw [decide_eq_true h, decide_eq_true (by rw [h])]
  · rw [decide_eq_false h, decide_eq_false fun z => h (Sum.inl.inj z)]
theorem putW_kvM (L z : Int) (kv : List (Int × Int)) : putW (kvM kv) (Sum.inl L : Key) (.d (.int z)) = kvM (pt kv L z) := by
  unfold putW pt
  rw [any_kvM]
  split
  · unfold kvM
    rw [List.map_map, List.map_map]
    refine List.map_congr_left fun p _ => ?_
    simp only [Function.comp]
    by_cases h : p.1 = L
    · rw [if_pos (by rw [h]), if_pos h]
    · rw [if_neg (fun z => h (Sum.inl.inj z)), if_neg h]
  · simp [kvM]
theorem lk_none {kv : List (Int × Int)} {L : Int} : lk kv L = none ↔ L ∉ kv.map (·.1) := by
  induction kv with
  | nil => simp [lk]
  | cons p r ih =>
    obtain ⟨a, b⟩ := p
    unfold lk
    by_cases h : a = L
    · simp [h]
    · rw [if_neg h, ih]
      simp [Ne.symm h]
theorem any_mem {kv : List (Int × Int)} {L : Int} : kv.any (fun p => decide (p.1 = L)) = true ↔ L ∈ kv.map (·.1) := by
  simp
theorem lk_pt (L z M : Int) (kv : List (Int × Int)) : lk (pt kv L z) M = if M = L then some z else lk kv M := by
  unfold pt
  by_cases h : kv.any (fun p => decide (p.1 = L)) = true
  · rw [if_pos h]
    have key : ∀ kv : List (Int × Int), L ∈ kv.map (·.1) ∨ M ≠ L → lk (kv.map fun p => if p.1 = L then (p.1, z) else p) M = if M = L then some z else lk kv M := fun kv => by
      induction kv with
      | nil =>
        intro q
        rcases q with q | q
        · simp at q
        · rw [if_neg q]; rfl
      | cons p r ih =>
        obtain ⟨a, b⟩ := p
        intro q
        rw [List.map_cons]
        by_cases ha : a = L
        · subst ha
          rw [if_pos rfl]
          by_cases hM : M = a
          · subst hM; simp [lk]
          · rw [if_neg hM]
            have := ih (.inr hM)
            rw [if_neg hM] at this
            unfold lk
            rw [if_neg (Ne.symm hM), if_neg (Ne.symm hM), this]
        · rw [if_neg ha]
          by_cases hM : a = M
          · subst hM
            simp [lk, ha]
          · unfold lk
            rw [if_neg hM]
            refine (ih ?_).trans ?_
            · rcases q with q | q
              · simp at q
                rcases q with q | ⟨y, q⟩
                · exact absurd q.symm ha
                · exact .inl (by simp; exact ⟨y, q⟩)
              · exact .inr q
            · by_cases hML : M = L
              · rw [if_pos hML, if_pos hML]
              · rw [if_neg hML, if_neg hML, if_neg hM]
    exact key kv (.inl (any_mem.mp h))
  · rw [if_neg h]
    have hn : L ∉ kv.map (·.1) := fun q => h (any_mem.mpr q)
    have key : ∀ kv : List (Int × Int), L ∉ kv.map (·.1) → lk (kv ++ [(L, z)]) M = if M = L then some z else lk kv M := fun kv => by
      induction kv with
      | nil =>
        intro _
        by_cases hM : M = L
        · subst hM; simp [lk]
        · rw [if_neg hM]; simp [lk, Ne.symm hM]
      | cons p r ih =>
        obtain ⟨a, b⟩ := p
        intro q
        simp at q
        rw [List.cons_append]
        unfold lk
        by_cases ha : a = M
        · subst ha
          rw [if_pos rfl, if_pos rfl, if_neg (Ne.symm q.1)]
        · rw [if_neg ha, if_neg ha]
          exact ih (by simp; exact q.2)
    exact key kv hn
theorem keys_pt {L z : Int} {kv : List (Int × Int)} (hd : (kv.map (·.1)).Nodup) : ((pt kv L z).map (·.1)).Nodup ∧ ∀ M, M ∈ (pt kv L z).map (·.1) ↔ M = L ∨ M ∈ kv.map (·.1) := by
  unfold pt
  by_cases h : kv.any (fun p => decide (p.1 = L)) = true
  · rw [if_pos h]
    have e : (kv.map fun p => if p.1 = L then (p.1, z) else p).map (·.1) = kv.map (·.1) := by
      rw [List.map_map]
      refine List.map_congr_left fun p _ => ?_
      simp only [Function.comp]
      split <;> rfl
    rw [e]
    refine ⟨hd, fun M => ⟨.inr, fun q => ?_⟩⟩
    rcases q with rfl | q
    · exact any_mem.mp h
    · exact q
  · rw [if_neg h]
    have hn : L ∉ kv.map (·.1) := fun q => h (any_mem.mpr q)
    rw [List.map_append]
    refine ⟨?_, fun M => by simp; constructor <;> (rintro (q | q) <;> simp [q])⟩
    rw [List.nodup_append]
    exact ⟨hd, by simp, fun a ha b hb q => by simp at hb; subst hb; subst q; exact hn ha⟩
theorem pt_len (kv : List (Int × Int)) (L z : Int) : (pt kv L z).length ≤ kv.length + 1 := by
  unfold pt
  split <;> simp

def stepK (n : Int) (kv : List (Int × Int)) (r : List Pd) : List (Int × Int) := pt kv (lateOf r) (((lk kv (lateOf r)).getD 0 + rowShape r n) - rowShape r 0)
theorem fold_sums (n : Int) : ∀ (B : List (List Pd)) (kv : List (Int × Int)), (kv.map (·.1)).Nodup → (((B.foldl (stepK n) kv).map (·.1)).Nodup ∧ (∀ M, M ∈ (B.foldl (stepK n) kv).map (·.1) ↔ M ∈ kv.map (·.1) ∨ M ∈ B.map lateOf) ∧ (∀ M, (lk (B.foldl (stepK n) kv) M).getD 0 = (lk kv M).getD 0 + partShape B M n) ∧ (B.foldl (stepK n) kv).length ≤ kv.length + B.length)
  | [], kv, h => ⟨h, fun M => by simp, fun M => by simp [partShape], by simp⟩
  | r :: B, kv, h => by
    obtain ⟨k1, k2⟩ := keys_pt (L := lateOf r) (z := ((lk kv (lateOf r)).getD 0 + rowShape r n) - rowShape r 0) h
    obtain ⟨h1, h2, h3, h4⟩ := fold_sums n B (stepK n kv r) k1
    rw [List.foldl_cons]
    refine ⟨h1, fun M => ?_, fun M => ?_, ?_⟩
    · rw [h2 M]
      show M ∈ (pt kv _ _).map (·.1) ∨ _ ↔ _
      rw [k2 M, List.map_cons, List.mem_cons]
      constructor
      · rintro ((q | q) | q) <;> simp [q]
      · rintro (q | q | q) <;> simp [q]
    · rw [h3 M]
      unfold stepK
      rw [lk_pt]
      unfold partShape
      by_cases hM : M = lateOf r
      · subst hM
        rw [if_pos rfl, List.filter_cons, if_pos (by simp)]
        simp
        omega
      · rw [if_neg hM, List.filter_cons, if_neg (by simp; exact fun q => hM q.symm)]
    · have := pt_len kv (lateOf r) (((lk kv (lateOf r)).getD 0 + rowShape r n) - rowShape r 0)
      unfold stepK at h4
      unfold stepK
      rw [List.length_cons]
      omega
def pairD (p : Int × Int) : D := .tuple [.int p.1, .int p.2]
def sumsL (B : List (List Pd)) (n : Int) : List (Int × Int) := ((lates B).filter fun L => !decide (partShape B L n = 0)).map fun L => (L, partShape B L n)
section
variable {μ : Sto}
theorem dget_kv {i : Nat} {kv : List (Int × Int)} (h : μ[i]? = some (.dk (kvM kv))) (L : Int) : dGet μ (.l i) (.d (.int L)) = some ((lk kv L).map fun z => .d (.int z)) := by
  unfold dGet
  simp only [h]
  show some (valW (kvM kv) (Sum.inl L : Key)) = _
  rw [valW_kvM]
theorem dput_kv {i : Nat} {kv : List (Int × Int)} (h : μ[i]? = some (.dk (kvM kv))) (hl : kv.length < LIM) (L z : Int) : dPut μ (.l i) (.d (.int L)) (.d (.int z)) = some (μ.set i (.dk (kvM (pt kv L z)))) := by
  unfold dPut
  simp only [h]
  show (if (kvM kv).length < LIM then some (μ.set i (.dk (putW (kvM kv) (Sum.inl L : Key) (.d (.int z))))) else none) = _
  rw [if_pos (by unfold kvM; rw [List.length_map]; exact hl), putW_kvM]
theorem intKeys_kvM : ∀ kv : List (Int × Int), intKeys (kvM kv) = some (kv.map (·.1))
  | [] => rfl
  | (a, b) :: r => by
    show (intKeys (kvM r)).map (a :: ·) = _
    rw [intKeys_kvM r]
    rfl
theorem sums_ok {B : List (List Pd)} (h : boardOk B) (hl : ∀ r ∈ B, r.length ≤ 1000000) (hB : B.length < 60) (n : Int) : g__law_sums [.d (boardD B), .d (.int n)] μ = .ok (.d (.list ((sumsL B n).map pairD))) μ := by
  have fl := fun i => fold_sums n (B.take i) [] List.nodup_nil
  obtain ⟨env', μ', e, ⟨a, b, rfl⟩, rfl⟩ := for_nat (g := gVar 3) (b := L__law_sums_1) (E := fun i env μ' => (∃ a b, env = [some (.d (boardD B)), some (.d (.int n)), some (.l μ.length), a, b]) ∧ μ' = μ ++ [Ob.dk (kvM ((B.take i).foldl (stepK n) []))]) (B.map rowD) 0 [some (.d (boardD B)), some (.d (.int n)), some (.l μ.length), none, none] (μ ++ [Ob.dk (kvM [])]) ⟨⟨_, _, rfl⟩, rfl⟩ (by
    rintro i hi env μ' ⟨⟨a, b, rfl⟩, rfl⟩
    rw [List.length_map] at hi
    rw [Nat.zero_add]
    have hm : B[i] ∈ B := List.getElem_mem hi
    have hlen := (fl i).2.2.2
    have ek : (B.take (i + 1)).foldl (stepK n) [] = stepK n ((B.take i).foldl (stepK n) []) B[i] := by
      rw [List.take_add_one, List.getElem?_eq_getElem hi, List.foldl_append]
      rfl
    generalize (B.take i).foldl (stepK n) [] = kv at hlen ek
    have hkl : kv.length < LIM := by
      have : (B.take i).length ≤ B.length := by rw [List.length_take]; omega
      simp at hlen
      show kv.length < 16000000
      omega
    refine ⟨_, _, [some (.d (boardD B)), some (.d (.int n)), some (.l μ.length), some (.d (rowD B[i])), some (.d (.int (lateOf B[i])))], μ ++ [Ob.dk (kvM (stepK n kv B[i]))], by rw [List.getElem_map]; rfl, ?_, ⟨_, _, rfl⟩, by rw [ek]⟩
    have e1 := law_late_ok (μ := μ ++ [Ob.dk (kvM kv)]) (hl _ hm)
    have e2 := law_shape_ok (μ := μ ++ [Ob.dk (kvM kv)]) (h _ hm) n
    have e3 := law_shape_ok (μ := μ ++ [Ob.dk (kvM kv)]) (h _ hm) 0
    have hat : (μ ++ [Ob.dk (kvM kv)])[μ.length]? = some (.dk (kvM kv)) := by simp
    have e4 := dget_kv hat (lateOf B[i])
    have e5 := dput_kv hat hkl (lateOf B[i]) (((lk kv (lateOf B[i])).getD 0 + rowShape B[i] n) - rowShape B[i] 0)
    have e6 : (μ ++ [Ob.dk (kvM kv)]).set μ.length (.dk (kvM (stepK n kv B[i]))) = μ ++ [Ob.dk (kvM (stepK n kv B[i]))] := by simp
    have e7 : (((lk kv (lateOf B[i])).map fun z => Wv.d (.int z)).getD (.d (.int 0))) = .d (.int ((lk kv (lateOf B[i])).getD 0)) := by cases lk kv (lateOf B[i]) <;> rfl
    simp -implicitDefEqProofs [e1, sDput, fDget2, hat, e4, e7, e2, e3, e5]
    rfl)
  rw [Nat.zero_add, List.length_map, List.take_length] at e
  obtain ⟨f1', f2, f3, f4⟩ := fold_sums n B [] List.nodup_nil
  generalize hkv : B.foldl (stepK n) [] = kv at e f1' f2 f3 f4
  have hat : (μ ++ [Ob.dk (kvM kv)])[μ.length]? = some (.dk (kvM kv)) := by simp
  have f3 : ∀ M, (lk kv M).getD 0 = partShape B M n := fun M => by rw [f3 M]; simp [lk]
  have f2 : ∀ M, M ∈ kv.map (·.1) ↔ M ∈ B.map lateOf := fun M => by rw [f2 M]; simp
  have ks : srtI (kv.map (·.1)) = lates B := by
    have p := perm_srtI (kv.map (·.1))
    have nd : (srtI (kv.map (·.1))).Nodup := p.nodup_iff.mpr f1'
    have st : (srtI (kv.map (·.1))).Pairwise (· < ·) := by
      have a := sorted_srtI (kv.map (·.1))
      exact a.imp₂ (fun x y h1 h2 => by omega) nd
    exact rise_same st rise_sset fun z => by rw [p.mem_iff, f2 z]; unfold lates; rw [mem_sset]
  have hkl : (kv.map (·.1)).length < 64 := by rw [List.length_map]; simp at f4; omega
  have es : sdW (.l μ.length) (μ ++ [Ob.dk (kvM kv)]) = .ok (.d (.list ((lates B).map PyData.int))) (μ ++ [Ob.dk (kvM kv)]) := by
    unfold sdW
    simp only [hat, intKeys_kvM]
    rw [if_pos hkl, ks]
  have ec := comp_filter (g := gVar 4) (t := fB (fOp (eqW true) (fDget (fVar 2) (fVar 4)) (fC (.int 0)))) (e := fTup (fCons (fVar 4) (fCons (fDget (fVar 2) (fVar 4)) (fNil)))) (env := [some (.d (boardD B)), some (.d (.int n)), some (.l μ.length), a, none]) (toD := PyData.int) (q := fun L => !decide (partShape B L n = 0)) (φ := fun L => pairD (L, partShape B L n)) (lates B) (μ ++ [Ob.dk (kvM kv)]) [] (by
    intro L hL
    have hmem : L ∈ kv.map (·.1) := by rw [f2]; exact mem_sset.mp hL
    have e4 := dget_kv hat L
    have ev : lk kv L = some (partShape B L n) := by
      cases q : lk kv L with
      | none => exact absurd hmem (lk_none.mp q)
      | some z => rw [← f3 L, q]; rfl
    rw [ev] at e4
    refine ⟨_, rfl, ?_, ?_⟩
    · simp -implicitDefEqProofs [fDget, dgetW, e4, eq_int]
    · intro _
      simp -implicitDefEqProofs [fDget, dgetW, e4, pairD]) (by
    have := sset_len (B.map lateOf)
    simp only [List.length_map] at this
    simp [LIM, lates]
    omega)
  unfold g__law_sums
  refine run_app (ν := [Ob.dk (kvM kv)]) ?_
  unfold B__law_sums
  simp only [List.nil_append, boardD] at ec e
  have e0 : fDictK [some (.d (boardD B)), some (.d (.int n)), none, none, none] μ = .ok (.l μ.length) (μ ++ [Ob.dk (kvM [])]) := rfl
  simp only [boardD] at e0
  have el : (sumsL B n).map pairD = ((lates B).filter fun L => !decide (partShape B L n = 0)).map fun L => pairD (L, partShape B L n) := by
    unfold sumsL
    rw [List.map_map]
    rfl
  rw [el]
  simp -implicitDefEqProofs [startE, boardD, e0, e, es, ec]
/-! ### the law's silence, reach, softest -/
theorem silence_eq (B : List (List Pd)) : heardAt B [] 0 = (B.map fun r => rowShape r 0).sum := by
  unfold heardAt numAt
  congr 1
  refine List.map_congr_left fun r hr => ?_
  rw [if_neg (by simp)]
theorem law_silence_ok {B : List (List Pd)} (h : boardOk B) (hB : B.length ≤ 1000000) : g__law_silence [.d (boardD B)] μ = .ok (.d (.int (heardAt B [] 0))) μ := by
  unfold g__law_silence
  refine run_0 ?_
  unfold B__law_silence
  have e := comp_map (g := gVar 1) (e := fCall (callD 2 g__law_shape) (fCons (fVar 1) (fCons (fC (.int 0)) (fNil)))) (env := [some (.d (boardD B)), none]) (toD := rowD) (φ := fun r => .int (rowShape r 0)) B μ [] (fun r hr => ⟨_, rfl, by simp [law_shape_ok (h r hr)]⟩) (by simp [LIM]; omega)
  simp only [List.nil_append, boardD] at e
  simp [startE, boardD, e, silence_eq]
theorem kn_abs {p : Pd} (h : hasKn p = true) : ∃ k, kn p = (if k < 0 then -k else k) ∧ p.toD = .tuple [.str (match p with | .louder _ => "louder" | .cut _ => "cut" | .gate _ => "gate" | .turn => "turn" | .fold => "fold" | .lift _ => "lift" | .steps _ => "steps" | .late _ => "late"), .int k] := by
  cases p with
  | turn => cases h
  | fold => cases h
  | late k => cases h
  | louder k => exact ⟨k, by simp only [kn]; repeat (first | omega | split), rfl⟩
  | cut k => exact ⟨k, by simp only [kn]; repeat (first | omega | split), rfl⟩
  | gate k => exact ⟨k, by simp only [kn]; repeat (first | omega | split), rfl⟩
  | lift k => exact ⟨k, by simp only [kn]; repeat (first | omega | split), rfl⟩
  | steps k => exact ⟨k, by simp only [kn]; repeat (first | omega | split), rfl⟩
theorem reach_ok {B : List (List Pd)} (hl : ∀ r ∈ B, r.length ≤ 1000000) : g__law_reach [.d (boardD B)] μ = .ok (.d (.int (nearOf B + 120))) μ := by
  unfold g__law_reach
  refine run_0 ?_
  unfold B__law_reach
  obtain ⟨env', e, a, b, rfl⟩ := for_fold (g := gVar 2) (b := L__law_reach_1) (toD := rowD) (E := fun (f : Int) env => ∃ a b, env = [some (.d (boardD B)), some (.d (.int f)), a, b]) (step := fun f r => if 1 + knobSum r > f then 1 + knobSum r else f) B 1 [some (.d (boardD B)), some (.d (.int 1)), none, none] μ ⟨_, _, rfl⟩ (by
    rintro r hr f env ⟨a, b, rfl⟩
    have e := comp_filter (g := gVar 3) (t := fAnd (fB (fOp (eqW false) (fCall kLen (fCons (fVar 3) (fNil))) (fC (.int 2)))) (fB (fOp (eqW true) (fOp ixW (fVar 3) (fC (.int 0))) (fC (.str "late"))))) (e := fCall kAbs (fCons (fOp ixW (fVar 3) (fC (.int 1))) (fNil))) (env := [some (.d (boardD B)), some (.d (.int f)), some (.d (rowD r)), none]) (toD := Pd.toD) (q := hasKn) (φ := fun p => .int (kn p)) r μ [] (by
      intro p hp
      refine ⟨_, rfl, ?_, fun hk => ?_⟩
      · cases p <;> simp -implicitDefEqProofs [Pd.toD, eq_str, eq_int, hasKn]
      · obtain ⟨k, e1, e2⟩ := kn_abs hk
        simp -implicitDefEqProofs [e2, e1]) (by have := hl r hr; simp [LIM]; omega)
    simp only [List.nil_append, rowD] at e
    refine ⟨_, [some (.d (boardD B)), some (.d (.int (if 1 + knobSum r > f then 1 + knobSum r else f))), some (.d (rowD r)), b], rfl, ?_, _, _, rfl⟩
    simp -implicitDefEqProofs [rowD, e, kn_sum])
  simp only [boardD] at e
  simp -implicitDefEqProofs [startE, boardD, e, nearOf]
theorem eqv_pair (p q : Int × Int) : PyData.eqv (pairD p) (pairD q) = decide (p = q) := by
  obtain ⟨a, b⟩ := p
  obtain ⟨c, d⟩ := q
  show (a == c && (b == d && true)) = _
  by_cases h1 : a = c <;> by_cases h2 : b = d <;> simp [h1, h2]
theorem eqv_pairs : ∀ xs ys : List (Int × Int), PyData.eqvAll (xs.map pairD) (ys.map pairD) = decide (xs = ys)
  | [], [] => rfl
  | [], y :: ys => by simp [PyData.eqvAll]
  | x :: xs, [] => by simp [PyData.eqvAll]
  | x :: xs, y :: ys => by
    show (PyData.eqv (pairD x) (pairD y) && PyData.eqvAll (xs.map pairD) (ys.map pairD)) = _
    rw [eqv_pair, eqv_pairs xs ys]
    by_cases h1 : x = y <;> by_cases h2 : xs = ys <;> simp [h1, h2]
theorem sums_eq {one other : List (List Pd)} {n : Int} : sumsL one n = sumsL other n ↔ ∀ L, partShape one L n = partShape other L n := by
  have mem : ∀ (B : List (List Pd)) (L v : Int), (L, v) ∈ sumsL B n ↔ v = partShape B L n ∧ v ≠ 0 := fun B L v => by
    unfold sumsL
    simp only [List.mem_map, List.mem_filter, Prod.mk.injEq]
    constructor
    · rintro ⟨M, ⟨h1, h2⟩, rfl, rfl⟩
      exact ⟨rfl, by simpa using h2⟩
    · rintro ⟨rfl, h⟩
      refine ⟨L, ⟨?_, by simpa using h⟩, rfl, rfl⟩
      exact Classical.byContradiction fun q => h (part_none q)
  constructor
  · intro h L
    by_cases h1 : partShape one L n = 0
    · by_cases h2 : partShape other L n = 0
      · rw [h1, h2]
      · have := (mem other L _).mpr ⟨rfl, h2⟩
        rw [← h] at this
        exact ((mem one L _).mp this).1.symm
    · have := (mem one L _).mpr ⟨rfl, h1⟩
      rw [h] at this
      exact ((mem other L _).mp this).1
  · intro h
    have hf : (lates one).filter (fun L => !decide (partShape one L n = 0)) = (lates other).filter (fun L => !decide (partShape other L n = 0)) := by
      refine rise_same (rise_sset.filter _) (rise_sset.filter _) fun z => ?_
      simp only [List.mem_filter, h z]
      constructor
      · rintro ⟨_, h2⟩
        refine ⟨Classical.byContradiction fun q => ?_, h2⟩
        have := part_none (n := n) q
        simp [this] at h2
      · rintro ⟨_, h2⟩
        refine ⟨Classical.byContradiction fun q => ?_, h2⟩
        have := part_none (n := n) q
        rw [h z] at this
        simp [this] at h2
    unfold sumsL
    rw [hf]
    refine List.map_congr_left fun L _ => ?_
    rw [h L]
theorem shp_pairs (xs : List (Int × Int)) : Shp 2 (.list (xs.map pairD)) := Shp.lst fun d hd => by
  obtain ⟨p, _, rfl⟩ := List.mem_map.mp hd
  refine Shp.tup fun e he => ?_
  simp at he
  rcases he with rfl | rfl <;> exact .int _ 0
theorem sums_ne {one other : List (List Pd)} {n : Int} : eqW true (.d (.list ((sumsL one n).map pairD))) (.d (.list ((sumsL other n).map pairD))) μ = .ok (.d (.bool (differs one other n))) μ := by
  rw [eq_dd true ((shp_pairs _).shaped (by decide)) ((shp_pairs _).shaped (by decide))]
  have e : PyData.eqv (.list ((sumsL one n).map pairD)) (.list ((sumsL other n).map pairD)) = decide (sumsL one n = sumsL other n) := eqv_pairs _ _
  rw [e, if_pos rfl]
  congr 3
  cases hd : differs one other n with
  | false => rw [decide_eq_true (sums_eq.mpr (not_differs.mp hd))]; rfl
  | true =>
    rw [decide_eq_false]
    · rfl
    · intro q
      rw [not_differs.mpr (sums_eq.mp q)] at hd
      cases hd
def absI (n : Int) : Int := if n < 0 then -n else n
def softD (one other : List (List Pd)) : D := if heardAt one [] 0 = heardAt other [] 0 then (match (louds (spanOf (one ++ other))).find? (differs one other) with
  | some n => .int (absI n)
  | none => .none) else .int (-1)
theorem BOk.app {one other : List (List Pd)} (h1 : BOk one) (h2 : BOk other) : boardOk (one ++ other) ∧ ∀ r ∈ one ++ other, r.length ≤ 6 := ⟨fun r hr => by
    rcases List.mem_append.mp hr with hr | hr
    · exact h1.ok r hr
    · exact h2.ok r hr, fun r hr => by
    rcases List.mem_append.mp hr with hr | hr
    · exact h1.rl r hr
    · exact h2.rl r hr⟩
theorem softest_ok {one other : List (List Pd)} (h1 : BOk one) (h2 : BOk other) : g__law_softest [.d (boardD one), .d (boardD other)] μ = .ok (.d (softD one other)) μ := by
  obtain ⟨ho, hr6⟩ := h1.app h2
  have b1 := h1.l3
  have b2 := h2.l3
  obtain ⟨n1, n2⟩ := near_bound ho hr6
  obtain ⟨p0, p60⟩ := period_pos ho
  obtain ⟨k, hk⟩ := Int.eq_ofNat_of_zero_le (show 0 ≤ nearOf (one ++ other) + 120 by omega)
  have hsp : spanOf (one ++ other) ≤ k := by unfold spanOf; omega
  have er := reach_ok (μ := μ) (fun r hr => by have := hr6 r hr; omega : ∀ r ∈ one ++ other, r.length ≤ 1000000)
  have ea := around_ok (μ := μ) k (by omega)
  rw [hk] at er
  have e1 := law_silence_ok (μ := μ) h1.ok (by omega)
  have e2 := law_silence_ok (μ := μ) h2.ok (by omega)
  have outer := for_find (g := gVar 2) (b := L__law_softest_1) (toD := PyData.int) (μ := μ) (E := fun env => ∃ a, env = [some (.d (boardD one)), some (.d (boardD other)), a]) (test := differs one other) (ret := fun n => .d (.int (absI n))) (louds k) [some (.d (boardD one)), some (.d (boardD other)), none] ⟨_, rfl⟩ (by
    rintro n hn env ⟨a, rfl⟩
    have s1 := sums_ok (μ := μ) h1.ok (fun r hr => by have := h1.rl r hr; omega) (by omega) n
    have s2 := sums_ok (μ := μ) h2.ok (fun r hr => by have := h2.rl r hr; omega) (by omega) n
    have s3 := sums_ne (μ := μ) (one := one) (other := other) (n := n)
    refine ⟨_, rfl, fun hT => ?_, fun hF => ⟨_, ?_, some (.d (.int n)), rfl⟩⟩
    · rw [hT] at s3
      simp -implicitDefEqProofs [s1, s2, s3, absI]
    · rw [hF] at s3
      simp -implicitDefEqProofs [s1, s2, s3])
  rw [find_same ho hsp] at outer
  unfold g__law_softest
  refine run_0 ?_
  unfold B__law_softest
  have hL2 : one.length + other.length ≤ 16000000 := by omega
  simp only [boardD, List.map_append] at e1 e2 er outer
  unfold softD
  by_cases hh : heardAt one [] 0 = heardAt other [] 0
  · cases hf : (louds (spanOf (one ++ other))).find? (differs one other) with
    | none =>
      obtain ⟨env', e, a, rfl⟩ := outer.2 hf
      simp -implicitDefEqProofs [startE, boardD, e1, e2, eq_int, hh, o_addT, LIM, hL2, er, ea, e]
    | some n =>
      have e := outer.1 n hf
      simp -implicitDefEqProofs [startE, boardD, e1, e2, eq_int, hh, o_addT, LIM, hL2, er, ea, e]
  · simp -implicitDefEqProofs [startE, boardD, e1, e2, eq_int, hh]
end
end Ped

/-! PedI: law 03 -/
namespace Ped
open PySem L2 PyProof.Rows PySem.Spec
/-! ### slices -/
theorem cut_map {α β : Type} (f : α → β) (xs : List α) (lo hi : Option Int) : cut (xs.map f) lo hi = (cut xs lo hi).map f := by
  unfold cut
  rw [List.length_map, List.map_take, List.map_drop]
theorem take_min {α : Type} (xs : List α) (a : Nat) : xs.take (min a xs.length) = xs.take a := by
  by_cases h : a ≤ xs.length
  · rw [Nat.min_eq_left h]
  · rw [Nat.min_eq_right (by omega), List.take_length, List.take_of_length_le (by omega)]
theorem drop_min {α : Type} (xs : List α) (a : Nat) : xs.drop (min a xs.length) = xs.drop a := by
  by_cases h : a ≤ xs.length
  · rw [Nat.min_eq_left h]
  · rw [Nat.min_eq_right (by omega), List.drop_length, List.drop_of_length_le (by omega)]
theorem cut_to {α : Type} (xs : List α) (a : Nat) : cut xs none (some (a : Int)) = xs.take a := by
  unfold cut
  rw [HT.sIx_none, HT.sIx_nat, List.drop_zero, Nat.sub_zero, take_min]
theorem cut_from {α : Type} (xs : List α) (a : Nat) : cut xs (some (a : Int)) none = xs.drop a := by
  unfold cut
  rw [HT.sIx_none, HT.sIx_nat, drop_min, List.take_of_length_le]
  rw [List.length_drop]
  omega
theorem cut_mid {α : Type} (xs : List α) (a b : Nat) : cut xs (some (a : Int)) (some (b : Int)) = (xs.drop a).take (b - a) := by
  unfold cut
  rw [HT.sIx_nat, HT.sIx_nat, drop_min]
  by_cases h : b ≤ xs.length
  · rw [Nat.min_eq_left h]
    by_cases g : a ≤ xs.length
    · rw [Nat.min_eq_left g]
    · rw [List.drop_of_length_le (by omega)]
      simp
  · rw [Nat.min_eq_right (by omega), List.take_of_length_le (by rw [List.length_drop]; omega), List.take_of_length_le (by rw [List.length_drop]; omega)]
section
variable {μ : Sto}
@[simp] theorem sl_t (xs : List D) (lo hi : Option Int) : slW (.d (.tuple xs)) lo hi μ = .ok (.d (.tuple (cut xs lo hi))) μ := rfl
@[simp] theorem sl_l (xs : List D) (lo hi : Option Int) : slW (.d (.list xs)) lo hi μ = .ok (.d (.list (cut xs lo hi))) μ := rfl
@[simp] theorem rev_t (xs : List D) : revW (.d (.tuple xs)) μ = .ok (.d (.tuple xs.reverse)) μ := rfl
theorem ix_t {xs : List D} {i : Nat} (h : i < xs.length) : ixW (.d (.tuple xs)) (.d (.int (i : Nat))) μ = .ok (.d xs[i]) μ := by
  show (match atI xs (i : Int) with | some d => Rs.ok (Wv.d d) μ | none => Rs.no) = _
  rw [atI_nat, List.getElem?_eq_getElem h]
@[simp] theorem eq_bool (n a b : Bool) : eqW n (.d (.bool a)) (.d (.bool b)) μ = .ok (.d (.bool (if n then !decide (a = b) else decide (a = b)))) μ := rfl
@[simp] theorem is_none (d : D) : isNW false (.d d) (.d .none) μ = .ok (.d (.bool (isNoneD d))) μ := rfl
@[simp] theorem k_int_b (b : Bool) : kInt [.d (.bool b)] μ = .ok (.d (.int (if b then 1 else 0))) μ := rfl
theorem g_parting_ok {one other : List (List Pd)} (h1 : BOk one) (h2 : BOk other) : g_parting [.d (boardD one), .d (boardD other)] μ = .ok (.d (partingD one other)) μ := by
  unfold g_parting
  refine run_0 ?_
  unfold B_parting
  simp -implicitDefEqProofs [startE, need_board_ok h1.ok h1.rl h1.l1 h1.l3, need_board_ok h2.ok h2.rl h2.l1 h2.l3, parting_ok h1 h2]
theorem right_ok {one other : List (List Pd)} (h1 : BOk one) (h2 : BOk other) : g__law_right [.d (boardD one), .d (boardD other)] μ = .ok (.d (.bool true)) μ := by
  have e1 := softest_ok (μ := μ) h1 h2
  have e2 := g_parting_ok (μ := μ) h1 h2
  have e3 := alike_ok (μ := μ) h1 h2
  have sh : ∀ n : Int, eqW false (.d (.tuple [.int n])) (.d (.tuple [])) μ = .ok (.d (.bool false)) μ := fun n => by
    rw [eq_dd false (d := .tuple [.int n]) ((shp_nums [n]).shaped (by decide)) shp_nil]
    rfl
  have sh0 : eqW false (.d (.tuple [])) (.d (.tuple [])) μ = .ok (.d (.bool true)) μ := by
    rw [eq_dd false shp_nil shp_nil]
    rfl
  unfold g__law_right
  refine run_0 ?_
  unfold B__law_right
  unfold softD at e1
  unfold partingD at e2 e3
  by_cases hh : heardAt one [] 0 = heardAt other [] 0
  · simp only [if_pos hh] at e1 e2 e3
    cases hf : (louds (spanOf (one ++ other))).find? (differs one other) with
    | none =>
      simp only [hf] at e1 e2 e3
      simp -implicitDefEqProofs [startE, e1, e2, e3, isTy, tyD, isNoneD]
    | some n =>
      simp only [hf] at e1 e2 e3
      have hd : differs one other n = true := List.find?_some hf
      have s1 := sums_ok (μ := μ) h1.ok (fun r hr => by have := h1.rl r hr; omega) (by have := h1.l3; omega) n
      have s2 := sums_ok (μ := μ) h2.ok (fun r hr => by have := h2.rl r hr; omega) (by have := h2.l3; omega) n
      have s3 := sums_ne (μ := μ) (one := one) (other := other) (n := n)
      rw [hd] at s3
      have ha : 0 ≤ absI n := by unfold absI; split <;> omega
      have ha2 : (if n < 0 then -n else n) = absI n := rfl
      simp -implicitDefEqProofs [startE, e1, e2, e3, isTy, tyD, isNoneD, sh, ha, ha2, eq_int, s1, s2, s3]
  · simp only [if_neg hh] at e1 e2 e3
    simp -implicitDefEqProofs [startE, e1, e2, e3, isTy, tyD, isNoneD, sh0, eq_int]
theorem rowOk_app {a b : List Pd} (h1 : rowOk a) (h2 : rowOk b) : rowOk (a ++ b) := fun p hp => by
  rcases List.mem_append.mp hp with hp | hp
  · exact h1 p hp
  · exact h2 p hp
theorem rowOk_sub {a b : List Pd} (h : rowOk b) (hs : ∀ p ∈ a, p ∈ b) : rowOk a := fun p hp => h p (hs p hp)
theorem other_ok {b : Nat} {ν : Sto} (hb : Bg b ν) {r : List Pd} (h : rowOk r) (hl : r.length ≤ 6) : ∃ r' ν', g__law_other [.l b, .d (rowD r)] ν = .ok (.d (rowD r')) ν' ∧ rowOk r' ∧ r'.length ≤ 6 ∧ Stp b ν ν' := by
  obtain ⟨w, ν1, e1, w0, w1, s1⟩ := take_ok hb (m := 4) (by decide) (by decide)
  have hm : 0 < (if (r.length : Int) > 1 then (r.length : Int) else 1) ∧ (if (r.length : Int) > 1 then (r.length : Int) else 1) < 2 ^ 64 := by split <;> omega
  obtain ⟨a0, ν2, e2, a0p, a1, s2⟩ := take_ok (s1.bg hb) hm.1 hm.2
  have s12 := s1.trans s2
  obtain ⟨a, rfl⟩ := Int.eq_ofNat_of_zero_le a0p
  have ha : a < r.length ∨ (r.length = 0 ∧ a = 0) := by
    split at a1 <;> omega
  have sh0 : eqW false (.d (.tuple (r.map Pd.toD))) (.d (.tuple [])) ν2 = .ok (.d (.bool (decide (r = [])))) ν2 := by
    rw [eq_dd false (d := .tuple (r.map Pd.toD)) ((shp_row r).shaped (by decide)) shp_nil]
    cases r <;> rfl
  have ca1 : cut r (some ((a : Int) + 1)) none = r.drop (a + 1) := by rw [show (a : Int) + 1 = ((a + 1 : Nat) : Int) by omega]; exact cut_from r (a + 1)
  have ca2 : cut r (some ((a : Int) + 2)) none = r.drop (a + 2) := by rw [show (a : Int) + 2 = ((a + 2 : Nat) : Int) by omega]; exact cut_from r (a + 2)
  have ca3 : cut r (some (a : Int)) (some ((a : Int) + 2)) = (r.drop a).take 2 := by rw [show (a : Int) + 2 = ((a + 2 : Nat) : Int) by omega, cut_mid, show a + 2 - a = 2 by omega]
  have L : ∀ {r' : List Pd} {ν' : Sto}, B__law_other [some (.l b), some (.d (.tuple (r.map Pd.toD))), none, none] ν = .ok (.rt (.d (rowD r'))) ν' → Stp b ν ν' → g__law_other [.l b, .d (rowD r)] ν = .ok (.d (rowD r')) ν' := fun e s => by
    unfold g__law_other
    exact run_d e s.len
  have tk : ∀ k, rowOk (r.take k) := fun k => rowOk_sub h fun p hp => List.mem_of_mem_take hp
  have dr : ∀ k, rowOk (r.drop k) := fun k => rowOk_sub h fun p hp => List.mem_of_mem_drop hp
  have lim : ∀ n : Nat, n ≤ 40 → n ≤ 16000000 := fun n hn => by omega
  have l1 : min a r.length ≤ 6 := by omega
  by_cases hc : w = 0 ∨ r = []
  · obtain ⟨p, ν3, e3, pok, _, s3⟩ := pedal_ok (s12.bg hb) true
    refine ⟨r.take a ++ [p] ++ r.drop (a + 1), ν3, L ?_ (s12.trans s3), rowOk_app (rowOk_app (tk a) (by intro q hq; simp at hq; subst hq; exact pok)) (dr _), ?_, s12.trans s3⟩
    · unfold B__law_other
      have q1 : min a r.length + 1 ≤ 16000000 := by omega
      have q2 : min a r.length + 1 + (r.length - (a + 1)) ≤ 16000000 := by omega
      rcases hc with rfl | rfl
      · simp -implicitDefEqProofs [startE, e1, e2, eq_int, e3, ca1, cut_map, cut_to, o_addT, LIM, q1, q2, rowD]
      · by_cases hw : w = 0
        · simp -implicitDefEqProofs [hw, eq_int, e1, e2, e3, ca1, cut_map, cut_to, o_addT, LIM, rowD, cut] at e1 e2 ⊢
          simp -implicitDefEqProofs [e1, e2, eq_int, e3, o_addT, LIM, cut, rowD]
        · simp at e2
          simp at sh0
          simp -implicitDefEqProofs [e1, e2, eq_int, hw, sh0, e3, o_addT, LIM, cut, rowD]
    · simp; omega
  · simp only [not_or] at hc
    have hne : decide (r = []) = false := decide_eq_false hc.2
    rw [hne] at sh0
    have ha : a < r.length := by
      rcases ha with ha | ha
      · exact ha
      · exact absurd (List.eq_nil_of_length_eq_zero ha.1) hc.2
    by_cases w1' : w = 1
    · subst w1'
      refine ⟨r.take a ++ ((r.drop a).take 2).reverse ++ r.drop (a + 2), ν2, L ?_ s12, rowOk_app (rowOk_app (tk a) (rowOk_sub h fun p hp => List.mem_of_mem_drop (List.mem_of_mem_take (List.mem_reverse.mp hp)))) (dr _), ?_, s12⟩
      · unfold B__law_other
        have q1 : min a r.length + min 2 (r.length - a) ≤ 16000000 := by omega
        have q2 : min a r.length + min 2 (r.length - a) + (r.length - (a + 2)) ≤ 16000000 := by omega
        have q3 : a + 2 - a = 2 := by omega
        simp -implicitDefEqProofs [startE, e1, e2, eq_int, sh0, ca2, ca3, cut_map, cut_to, o_addT, LIM, q1, q2, q3, rowD]
      · simp; omega
    · by_cases w2' : w = 2
      · subst w2'
        refine ⟨r.take a ++ r.drop (a + 1), ν2, L ?_ s12, rowOk_app (tk a) (dr _), ?_, s12⟩
        · unfold B__law_other
          have q1 : min a r.length + (r.length - (a + 1)) ≤ 16000000 := by omega
          simp -implicitDefEqProofs [startE, e1, e2, eq_int, sh0, ca1, cut_map, cut_to, o_addT, LIM, q1, rowD]
        · simp; omega
      · by_cases h6 : r.length < 6
        · obtain ⟨p, ν3, e3, pok, _, s3⟩ := pedal_ok (s12.bg hb) false
          refine ⟨r.take a ++ [r[a], p] ++ r.drop (a + 1), ν3, L ?_ (s12.trans s3), rowOk_app (rowOk_app (tk a) (by
            intro q hq
            simp at hq
            rcases hq with rfl | rfl
            · exact h _ (List.getElem_mem ha)
            · exact pok)) (dr _), ?_, s12.trans s3⟩
          · unfold B__law_other
            have q1 : min a r.length + 2 ≤ 16000000 := by omega
            have q2 : min a r.length + 2 + (r.length - (a + 1)) ≤ 16000000 := by omega
            have q3 : (r.length : Int) < 6 := by omega
            have ei : ∀ μ, ixW (.d (.tuple (r.map Pd.toD))) (.d (.int (a : Nat))) μ = .ok (.d (r[a]).toD) μ := fun μ => by
              rw [ix_t (by rw [List.length_map]; exact ha), List.getElem_map]
            simp -implicitDefEqProofs [startE, e1, e2, eq_int, sh0, hc.1, w1', w2', q3, ei, e3, ca1, cut_map, cut_to, o_addT, LIM, q1, q2, rowD]
          · simp; omega
        · refine ⟨r, ν2, L ?_ s12, h, hl, s12⟩
          unfold B__law_other
          have q3 : ¬ (r.length : Int) < 6 := by omega
          simp -implicitDefEqProofs [startE, e1, e2, eq_int, sh0, hc.1, w1', w2', q3, rowD]
end
end Ped

/-! PedH: law 03, the end -/
namespace Ped
open PySem L2 PyProof.Rows PySem.Spec
section
variable {μ : Sto}
theorem ix_board {B : List (List Pd)} {i : Nat} (h : i < B.length) : ixW (.d (.tuple (B.map rowD))) (.d (.int (i : Nat))) μ = .ok (.d (rowD B[i])) μ := by
  rw [ix_t (by rw [List.length_map]; exact h), List.getElem_map]
theorem len_row (r : List Pd) : kLen [.d (rowD r)] μ = .ok (.d (.int r.length)) μ := by
  show kLen [.d (.tuple (r.map Pd.toD))] μ = _
  rw [k_len_t, List.length_map]
theorem add_row (r s : List Pd) (h : r.length + s.length ≤ 16000000) : addW (.d (rowD r)) (.d (rowD s)) μ = .ok (.d (rowD (r ++ s))) μ := by
  show addW (.d (.tuple (r.map Pd.toD))) (.d (.tuple (s.map Pd.toD))) μ = _
  rw [o_addT, if_pos (by rw [List.length_map, List.length_map]; exact h), ← List.map_append]
  rfl
theorem beside_ok {b : Nat} {ν : Sto} (hb : Bg b ν) {B : List (List Pd)} (h : BOk B) : ∃ B' ν', g__law_beside [.l b, .d (boardD B)] ν = .ok (.d (boardD B')) ν' ∧ BOk B' ∧ Stp b ν ν' := by
  have h1 := h.l1
  have h3 := h.l3
  obtain ⟨a0, ν1, e1, a0p, a1, s1⟩ := take_ok hb (m := (B.length : Int)) (by omega) (by omega)
  obtain ⟨w, ν2, e2, w0, w1, s2⟩ := take_ok (s1.bg hb) (m := 5) (by decide) (by decide)
  have s12 := s1.trans s2
  obtain ⟨a, rfl⟩ := Int.eq_ofNat_of_zero_le a0p
  have ha : a < B.length := by omega
  have L : ∀ {B' : List (List Pd)} {ν' : Sto}, B__law_beside [some (.l b), some (.d (.tuple (B.map rowD))), none, none] ν = .ok (.rt (.d (boardD B'))) ν' → Stp b ν ν' → g__law_beside [.l b, .d (boardD B)] ν = .ok (.d (boardD B')) ν' := fun e s => by
    unfold g__law_beside
    exact run_d e s.len
  -- the last way
  have last : (w ≠ 0) → (w = 1 → ¬ (1 < B.length ∧ (∃ x y r, B = x :: y :: r ∧ x.length < 6 ∧ y.length < 6))) → (w = 2 → ¬ B.length < 3) → ∃ B' ν', g__law_beside [.l b, .d (boardD B)] ν = .ok (.d (boardD B')) ν' ∧ BOk B' ∧ Stp b ν ν' := fun c0 c1 c2 => by
    obtain ⟨r', ν3, e3, rok, rl, s3⟩ := other_ok (s12.bg hb) (h.ok _ (List.getElem_mem ha)) (h.rl _ (List.getElem_mem ha))
    have ca1 : cut B (some ((a : Int) + 1)) none = B.drop (a + 1) := by rw [show (a : Int) + 1 = ((a + 1 : Nat) : Int) by omega]; exact cut_from B (a + 1)
    have q1 : min a B.length + 1 ≤ 16000000 := by omega
    have q2 : min a B.length + 1 + (B.length - (a + 1)) ≤ 16000000 := by omega
    refine ⟨B.take a ++ [r'] ++ B.drop (a + 1), ν3, L ?_ (s12.trans s3), ⟨fun r hr => ?_, fun r hr => ?_, by simp; omega, by simp; omega⟩, s12.trans s3⟩
    · unfold B__law_beside
      by_cases w1' : w = 1
      · subst w1'
        have c1 := c1 rfl
        match B, h1, ha, ca1, e1, e3 with
        | [x], _, ha, ca1, e1, e3 =>
          have : a = 0 := by simpa using ha
          subst this
          simp -implicitDefEqProofs at e1 e3 ca1
          simp -implicitDefEqProofs [startE, e1, e2, eq_int, e3, ca1, cut_map, cut, HT.sIx, o_addT, LIM, boardD]
        | x :: y :: r, _, ha, ca1, e1, e3 =>
          have ei := ix_board (μ := ν2) ha
          have i0 : ixW (.d (.tuple ((x :: y :: r).map rowD))) (.d (.int 0)) ν2 = .ok (.d (rowD x)) ν2 := ix_0 _ _
          have i1 : ixW (.d (.tuple ((x :: y :: r).map rowD))) (.d (.int 1)) ν2 = .ok (.d (rowD y)) ν2 := ix_1 _ _ _
          have cc : ¬ (x.length < 6 ∧ y.length < 6) := fun q => c1 ⟨by simp, x, y, r, rfl, q.1, q.2⟩
          have hlen : (1 : Int) < ((x :: y :: r).length : Int) := by simp; omega
          generalize hB : x :: y :: r = B at *
          by_cases hx : x.length < 6
          · have hy : ¬ (y.length : Int) < 6 := fun q => cc ⟨hx, by omega⟩
            have hx' : (x.length : Int) < 6 := by omega
            simp -implicitDefEqProofs [startE, e1, e2, eq_int, hlen, i0, i1, len_row, hx', hy, ei, e3, ca1, cut_map, cut_to, o_addT, LIM, q1, q2, boardD]
          · have hx' : ¬ (x.length : Int) < 6 := by omega
            simp -implicitDefEqProofs [startE, e1, e2, eq_int, hlen, i0, i1, len_row, hx', ei, e3, ca1, cut_map, cut_to, o_addT, LIM, q1, q2, boardD]
      · have ei := ix_board (μ := ν2) ha
        by_cases w2' : w = 2
        · have hl3 : ¬ (B.length : Int) < 3 := by have := c2 w2'; omega
          simp -implicitDefEqProofs [startE, e1, e2, eq_int, c0, w1', hl3, ei, e3, ca1, cut_map, cut_to, o_addT, LIM, q1, q2, boardD]
        · simp -implicitDefEqProofs [startE, e1, e2, eq_int, c0, w1', w2', ei, e3, ca1, cut_map, cut_to, o_addT, LIM, q1, q2, boardD]
    · simp at hr
      rcases hr with hr | rfl | hr
      · exact h.ok r (List.mem_of_mem_take hr)
      · exact rok
      · exact h.ok r (List.mem_of_mem_drop hr)
    · simp at hr
      rcases hr with hr | rfl | hr
      · exact h.rl r (List.mem_of_mem_take hr)
      · exact rl
      · exact h.rl r (List.mem_of_mem_drop hr)
  by_cases c0 : w = 0
  · subst c0
    refine ⟨B.reverse, ν2, L ?_ s12, ⟨fun r hr => h.ok r (List.mem_reverse.mp hr), fun r hr => h.rl r (List.mem_reverse.mp hr), by simpa using h1, by simpa using h3⟩, s12⟩
    unfold B__law_beside
    simp -implicitDefEqProofs [startE, e1, e2, eq_int, boardD]
  · by_cases c1 : w = 1 ∧ ∃ x y r, B = x :: y :: r ∧ x.length < 6 ∧ y.length < 6
    · obtain ⟨rfl, x, y, r, rfl, hx, hy⟩ := c1
      have hx' : (x.length : Int) < 6 := by omega
      have hy' : (y.length : Int) < 6 := by omega
      have l3 : (PyData.tuple [.str "lift", .int 3]) = Pd.toD (.lift 3) := rfl
      have l4 : (PyData.tuple [.str "lift", .int (-3)]) = Pd.toD (.lift (-3)) := rfl
      have t1 : ∀ p : Pd, (PyData.tuple [p.toD]) = rowD [p] := fun p => rfl
      have ad : ∀ (s : List Pd) (p : Pd), s.length < 6 → addW (.d (rowD s)) (.d (rowD [p])) ν2 = .ok (.d (rowD (s ++ [p]))) ν2 := fun s p hs => add_row s [p] (by simp; omega)
      have ca2 : cut (rowD x :: rowD y :: r.map rowD) (some 2) none = r.map rowD := cut_from (rowD x :: rowD y :: r.map rowD) 2
      simp at h3
      have q : 2 + r.length ≤ 16000000 := by omega
      have q0 : (1 : Int) < (r.length : Int) + 1 + 1 := by omega
      have q5 : r.length + 1 + 1 ≤ 16000000 := by omega
      refine ⟨(x ++ [.lift 3]) :: (y ++ [.lift (-3)]) :: r, ν2, L ?_ s12, ⟨fun s hs => ?_, fun s hs => ?_, by simp, by simp; omega⟩, s12⟩
      · unfold B__law_beside
        simp -implicitDefEqProofs at e1
        simp -implicitDefEqProofs [startE, e1, e2, eq_int, len_row, hx', hy', l3, l4, t1, ad, hx, hy, ca2, o_addT, LIM, q, q0, q5, boardD]
      · rcases List.mem_cons.mp hs with rfl | hs
        · exact rowOk_app (h.ok x List.mem_cons_self) (by intro q hq; simp at hq; subst hq; simp [Pd.ok])
        · rcases List.mem_cons.mp hs with rfl | hs
          · exact rowOk_app (h.ok y (by simp)) (by intro q hq; simp at hq; subst hq; simp [Pd.ok])
          · exact h.ok s (by simp [hs])
      · rcases List.mem_cons.mp hs with rfl | hs
        · simp; omega
        · rcases List.mem_cons.mp hs with rfl | hs
          · simp; omega
          · exact h.rl s (by simp [hs])
    · by_cases c2 : w = 2 ∧ B.length < 3
      · obtain ⟨rfl, hl⟩ := c2
        obtain ⟨d, ν3, e3, hd, s3⟩ := of_ok (s12.bg hb) (xs := [rowD [.cut 1, .gate 2], rowD [.lift 2, .cut 1, .fold]]) (by simp) (by simp)
        have hd : ∃ r, d = rowD r ∧ rowOk r ∧ r.length ≤ 6 := by
          simp at hd
          rcases hd with rfl | rfl
          · exact ⟨_, rfl, by intro p hp; simp at hp; rcases hp with rfl | rfl <;> simp [Pd.ok], by simp⟩
          · exact ⟨_, rfl, by intro p hp; simp at hp; rcases hp with rfl | rfl | rfl <;> simp [Pd.ok], by simp⟩
        obtain ⟨r, rfl, rok, rl⟩ := hd
        have hl' : (B.length : Int) < 3 := by omega
        have q : B.length + 1 ≤ 16000000 := by omega
        refine ⟨B ++ [r], ν3, L ?_ (s12.trans s3), ⟨fun s hs => ?_, fun s hs => ?_, by simp, by simp; omega⟩, s12.trans s3⟩
        · unfold B__law_beside
          have e3' : g__law_of [.l b, .d (.list [.tuple [.tuple [.str "cut", .int 1], .tuple [.str "gate", .int 2]], .tuple [.tuple [.str "lift", .int 2], .tuple [.str "cut", .int 1], .tuple [.str "fold"]]])] ν2 = .ok (.d (rowD r)) ν3 := e3
          simp -implicitDefEqProofs [startE, e1, e2, eq_int, hl', e3', o_addT, LIM, q, boardD]
        · rcases List.mem_append.mp hs with hs | hs
          · exact h.ok s hs
          · rw [List.mem_singleton.mp hs]; exact rok
        · rcases List.mem_append.mp hs with hs | hs
          · exact h.rl s hs
          · rw [List.mem_singleton.mp hs]; exact rl
      · exact last c0 (fun q z => c1 ⟨q, z.2⟩) fun q z => c2 ⟨q, z⟩
end
theorem body03 (ns : List Int) (k : Nat) (hk : k < 100) (rest : Env) (μ : Sto) (hr : rest.length = 3) : ∃ rest' μ', L_law_3_1 (some (.s ns) :: some (.d (.int (k : Nat))) :: rest) μ = .ok (.nx (some (.s ns) :: some (.d (.int (k : Nat))) :: rest')) μ' ∧ rest'.length = 3 := by
  obtain ⟨b, c, d, rfl⟩ := len3 hr
  obtain ⟨ν, eb, B0⟩ := turn_bag ns k hk μ
  generalize μ.length = n at eb B0
  obtain ⟨A, μ1, e1, hA, hr, a1, a3, s1⟩ := board_ok B0 5 (by decide)
  have bA : BOk A := ⟨hA, fun r h => by have := hr r h; omega, a1, a3⟩
  obtain ⟨C, μ2, e2, bC, s2⟩ := beside_ok (s1.bg B0) bA
  have s12 := s1.trans s2
  obtain ⟨E, μ3, e3, bE, s3⟩ := beside_ok (s12.bg B0) bC
  refine ⟨[some (.l n), some (.d (boardD A)), some (.d (boardD C))], μ3, ?_, rfl⟩
  have r1 := right_ok (μ := μ2) bA bC
  have r2 := right_ok (μ := μ2) bC bA
  have r3 := right_ok (μ := μ2) bA bA
  have r4 := right_ok (μ := μ3) bA bE
  simp at e1
  simp -implicitDefEqProofs [eb, e1, e2, r1, r2, r3, e3, r4]
theorem law03 (ns : List Int) : ∃ μ, g_law_3 [.s ns] [] = .ok (.d (.bool true)) μ :=
  law_true (m := 3) ns (by decide) fun k rest μ hk hr => body03 ns k hk rest μ hr
end Ped

/-! PedXv: own errors held as values -/
namespace Ped
open PySem L2 PyProof.Rows PySem.Spec
def InE (H : Hp) (a D : Addr) : Prop := H a = some (ExO (.ref D) a) ∨ ∃ d vs, H a = some (ExD (.ref D) d a) ∧ H d = some (.xd vs)
theorem re_in {K : PySem.W.Frag} {S : Sta} {v : V} {C : Str} {fs : List (Str × D)} (hs : Sb S.F S.H) (h : RE K S.F v C fs) : ∃ a D, v = .ref a ∧ clsV K C = .ref D ∧ InE S.H a D := by
  obtain ⟨a, Ca, h1, h2, h3⟩ := h
  refine ⟨a, Ca, h1, h2, ?_⟩
  rcases h3 with ⟨_, h4⟩ | ⟨d, vs, h3, h4, _⟩
  · exact .inl (hs _ _ h4)
  · exact .inr ⟨d, vs, hs _ _ h3, hs _ _ h4⟩
section
variable {X : Cx} {pins : List (Addr × Obj)} {σ : L2.St} {H : Hp} {s : Shared} {a C : Addr}
theorem inst_d {d : Addr} {vs : List (Str × V)} (I : Inv X pins σ H s) (h : H a = some (ExD (.ref C) d a)) (hd : H d = some (.xd vs)) : ∃ (oe od : Obj) (mA : Str → Option Value), PySem.W.InstAt s.heap a oe C (some od) ∧ (∀ f, PySem.W.lookIn f od = some (mA f)) ∧ ∀ f, RelO (vs.lookup f) (mA f) := by
  obtain ⟨⟨oe, fv, ha, hz, hdat⟩, _, _⟩ := I.hok a _ h
  have hx : ObjOk X.prog X.w H s.heap d (.xd vs) := I.hok d _ hd
  obtain ⟨mA, hns, hr⟩ := hx
  obtain ⟨od, ho, hl⟩ := lookIn_ns hns
  exact ⟨oe, od, mA, ⟨ha, hz.1, by unfold PySem.W.notCls; rw [hdat] <;> rfl, by rw [hz.2]; exact ho⟩, hl, hr⟩
theorem inst_e (I : Inv X pins σ H s) (h : InE H a C) : ∃ oe od, PySem.W.InstAt s.heap a oe C od := by
  rcases h with h | ⟨d, vs, h, hd⟩
  · obtain ⟨⟨oe, fv, ha, hz, hdat, _⟩, _, _⟩ := I.hok a _ h
    refine ⟨oe, none, ?_⟩
    obtain ⟨oc, od, oda, osl⟩ := oe
    obtain ⟨h1, h2⟩ := hz
    dsimp only at h1 h2 hdat
    subst h1 h2 hdat
    exact ⟨ha, rfl, rfl, trivial⟩
  · obtain ⟨oe, od, _, J, _⟩ := inst_d I h hd
    exact ⟨oe, some od, J⟩
end
/-- isinstance(e, c), e an own error held as a value -/
def rIsV (K : PySem.W.Frag) : List V → Hp → VK → Prop := fun xs H Q => ∃ (a D : Addr) (c : V) (cv : Value) (b : Bool), xs = [.ref a, c] ∧ InE H a D ∧ ExcC K D ∧ (∀ u, RelV c u → u = cv) ∧ PySem.W.kitOne K (.ref D) cv = some b ∧ Q (.bl b) H
theorem cls_some {K : PySem.W.Frag} {D : Addr} (h : PySem.W.hasDictIn K D = true) : (PySem.W.clsIn K D).isSome = true := by
  unfold PySem.W.hasDictIn at h
  cases e : PySem.W.clsIn K D with
  | none => rw [e] at h; cases h
  | some cd => rfl
theorem call_isV {X : Cx} : CallR X (.builtin "isinstance") (rIsV X.K) := by
  intro pins s σ H xs us Q I r h
  obtain ⟨a, D, c, cv, b, rfl, hi, C, hcv, e, q⟩ := h
  cases r with
  | cons rx rr =>
    cases rr with
    | cons rt rr =>
      cases rr
      cases rx
      have ec := hcv _ rt
      subst ec
      obtain ⟨oe, od, J⟩ := inst_e I hi
      exact PySem.W.kia_one (PySem.W.kitx_exc (od := od) (cls_some C.hd) C.hg C.hk C.hs C.ha C.hn C.ht C.hm) I.kIn J e (fun z => nomatch z) fun tk => ⟨.bl b, H, I.kept (t' := tk) fun _ _ z => z, rfl, q⟩
/-- the reading of e.n, e an own error held as a value -/
def tXfV (K : PySem.W.Frag) (n : Str) (te : TE) : TE := fun σ H Q => te σ H fun x H1 => ∃ a C d vs v, x = .ref a ∧ H1 a = some (ExD (.ref C) d a) ∧ XfC K C ∧ PySem.W.findIn K (.ref C) n = some none ∧ H1 d = some (.xd vs) ∧ vs.lookup n = some v ∧ Q v H1
theorem pe_xfV {X : Cx} {e : Expr} {te : TE} {pos : Pos} {n : Str} (he : PE X e te) (hb : attributeBase e n X.env (eval e X.env) = eval e X.env := by rfl) :
    PE X (.Attribute e n pos) (tXfV X.K n te) := by
  refine ⟨fun pins s σ H Q I h => ?_⟩
  refine attr_of hb (thn (he.run pins s σ H _ I h) fun u s1 hh => ?_)
  obtain ⟨x, H1, I1, rx, a, C, d, fs, v, ex, ea, T, hno, ed, l, q⟩ := hh
  subst ex
  obtain rfl : u = Value.ref a := rx
  obtain ⟨oe, od, mA, J, hl, hr⟩ := inst_d I1 ea ed
  obtain ⟨u, hu, ru⟩ := RelO.some_of (v := v) (o := mA n) (by rw [← l]; exact hr n)
  exact HandSPX.exc_get I1.kIn J T.ga T.gg T.exC (PySem.W.findObj_own T.hdC hno rfl (by rw [hl, hu])) (handed_of ru) ⟨v, H1, I1.tok _, ru, q⟩
section
variable {X : Cx} {W : WX}
/-- X(e), an own error, as a value -/
def fExcV (x : Str) (f : FE) : FE := fun env μ => (f env μ).bind fun _ μ1 => .ok (.e x []) μ1
theorem c_excV {x : Str} {C : Addr} {e : Expr} {f : FE} {p pos : Pos} {bm : List Value} (F : ExcBaseFacts "ValueError" "ValueError.__new__" "ValueError.__init__" bm) (hb : bm = [.type "ValueError", .type "Exception", .type "BaseException", .type "object"]) (o : OwnE X.K X.mg x C) (hg : Gl X x) (he : CEx X W e f)
    (hdb : (x == ("__debug__" : Str)) = false := by decide) (hs : starEach [e] X.env = (false, eval e X.env) :: starEach [] X.env := by rfl) : CEx X W (.Call (.Name x p) [e] [] pos) (fExcV x f) := by
  subst hb
  obtain ⟨t, pe, q⟩ := he
  refine ⟨_, pe_exc1 F o.q o.g o.k hg pe hs hdb, fun env σ S μ hE hS Q h => ?_⟩
  unfold fExcV at h
  rw [Rs.post_bind] at h
  refine q env σ S μ hE hS _ (h.mono (fun w μ1 h1 v S1 e1 hS1 r1 => fun a ha => ?_) fun _ _ z => z)
  have h1 : POk X.K S Q (.e x []) μ1 := h1
  exact h1 (.ref a) (S1.lay a (ExO (.ref C) a)) (e1.trans (Ext.lay hS1.sub ha)) (hS1.lay _ ha) ⟨a, C, rfl, o.v, .inl ⟨rfl, upd_same⟩⟩
/-- what isinstance says of the own errors of the names cs, asked for the class c -/
structure IsE (K : PySem.W.Frag) (cs : List Str) (c : Str) (cv : Value) : Prop where
  h : ∀ x ∈ cs, ∃ D, clsV K x = .ref D ∧ ExcC K D ∧ PySem.W.kitOne K (.ref D) cv = some (x == c || c == "PedalError" || c == "ValueError")
def fIsV (cs : List Str) (c : Str) (f : FE) : FE := fun env μ => (f env μ).bind fun w μ1 => match w with
  | .e x _ => if x ∈ cs then .ok (.d (.bool (x == c || c == "PedalError" || c == "ValueError"))) μ1 else .no
  | _ => .no
theorem c_isV {cs : List Str} {x T : Str} {v : V} {cv : Value} {a : Expr} {f : FE} {p q pos : Pos} (i : IsE X.K cs T cv) (pc : PE X (.Name T q) (tC v)) (hcv : ∀ u, RelV v u → u = cv) (hg : Gl X x) (hm : X.mg x = none) (hv : bootBuiltins x = some (.builtin "isinstance"))
    (ha : CEx X W a f) (hn : x ≠ "__name__" := by decide) (hdb : (x == ("__debug__" : Str)) = false := by decide)
    (hs2 : starEach [a, .Name T q] X.env = (false, eval a X.env) :: starEach [.Name T q] X.env := by rfl) (hpl : (backTo pos (starEach [.Name T q] X.env)).any (·.1) = false := by rfl) (hs1 : starEach [.Name T q] X.env = (false, eval (.Name T q) X.env) :: starEach [] X.env := by rfl) : CEx X W (.Call (.Name x p) [a, .Name T q] [] pos) (fIsV cs T f) := by
  obtain ⟨ta, pa, qa⟩ := ha
  refine ⟨_, pe_callB call_isV hg hm hv (pa_cons pa (pa_cons pc pa_nil hs1) hs2) hn hdb hs2 hpl, fun env σ S μ he hS Q hp => ?_⟩
  unfold fIsV at hp
  rw [Rs.post_bind] at hp
  refine qa env σ S μ he hS _ (hp.mono (fun w μ1 h1 u S1 e1 hS1 r1 => ?_) fun _ _ z => z)
  cases w with
  | l n => exact h1.elim
  | s n => exact h1.elim
  | d d => exact h1.elim
  | e C fs =>
    by_cases hc : C ∈ cs
    · simp only [if_pos hc] at h1
      obtain ⟨a', D, rfl, hD, hi⟩ := re_in hS1.sub r1
      obtain ⟨D', hD', hE, hk⟩ := i.h C hc
      rw [hD] at hD'
      cases hD'
      exact ⟨a', D, v, cv, _, rfl, hi, hE, hcv, hk, h1 _ S1 e1 hS1 (.bl _)⟩
    · simp only [if_neg hc] at h1
      exact h1.elim
/-- e.n, e an own error of the class c -/
def fFldV (c n : Str) (f : FE) : FE := fun env μ => (f env μ).bind fun w μ1 => match w with
  | .e x fs => if x = c then (match fs.lookup n with | some d => .ok (.d d) μ1 | none => .no) else .no
  | _ => .no
theorem rpf_look {K : PySem.W.Frag} {F : Hp} {f : Str} : ∀ {vs : List (Str × V)} {ws : List (Str × D)} {w : D}, RpF K F vs ws → ws.lookup f = some w → ∃ v, vs.lookup f = some v ∧ Rp K F v w
  | _, _, _, .nil, h => by cases h
  | (k, v) :: _, (k', w') :: _, w, .cons r t, h => by
    obtain ⟨rfl, r2⟩ := r
    rw [List.lookup_cons] at h ⊢
    by_cases e : (f == k) = true
    · rw [e] at h ⊢
      cases h
      exact ⟨v, rfl, r2⟩
    · have e : (f == k) = false := by simpa using e
      rw [e] at h ⊢
      exact rpf_look t h
theorem c_fldV {c n : Str} {C : Addr} {e : Expr} {f : FE} {pos : Pos} (fe : FldE X.K c n C) (he : CEx X W e f) (hb : attributeBase e n X.env (eval e X.env) = eval e X.env := by rfl) : CEx X W (.Attribute e n pos) (fFldV c n f) := by
  obtain ⟨t, pe, q⟩ := he
  refine ⟨_, pe_xfV pe hb, fun env σ S μ hE hS Q hp => ?_⟩
  unfold fFldV at hp
  rw [Rs.post_bind] at hp
  refine q env σ S μ hE hS _ (hp.mono (fun w μ1 h1 u S1 e1 hS1 r1 => ?_) fun _ _ z => z)
  cases w with
  | l n => exact h1.elim
  | s n => exact h1.elim
  | d d => exact h1.elim
  | e x fs =>
    by_cases hc : x = c
    · simp only [if_pos hc] at h1
      subst hc
      cases hl : fs.lookup n with
      | none => rw [hl] at h1; exact h1.elim
      | some d =>
        rw [hl] at h1
        obtain ⟨a, D, rfl, hD, h3⟩ := r1
        have hDC : D = C := by
          have := hD.symm.trans fe.v
          cases this; rfl
        subst hDC
        rcases h3 with ⟨hf, _⟩ | ⟨dd, vs, h3, h4, h5⟩
        · subst hf
          cases hl
        · obtain ⟨v, h6, h7⟩ := rpf_look h5 hl
          exact ⟨a, D, dd, vs, v, rfl, hS1.sub _ _ h3, fe.x, fe.n, hS1.sub _ _ h4, h6, h1 v S1 e1 hS1 h7⟩
    · simp only [if_neg hc] at h1
      exact h1.elim
theorem paired_app {α β : Type} {F : α → β → Prop} : ∀ {a c : List α} {b d : List β}, Paired F a b → Paired F c d → Paired F (a ++ c) (b ++ d)
  | _, _, _, _, .nil, h => h
  | _, _, _, _, .cons r t, h => .cons r (paired_app t h)
/-! ### two lists of the store added: a new one -/
def addNN (x y : Wv) (μ : Sto) : Rs Wv := match x, y with
  | .l n, .l m => (match lstAt μ n, lstAt μ m with
    | some us, some ws => if us.length + ws.length ≤ LIM then .ok (.l μ.length) (μ ++ [.lst (us ++ ws)]) else .no
    | _, _ => .no)
  | _, _ => .no
theorem addNN_nx : NoEx addNN := fun x y μ e ν q => by
  unfold addNN at q
  split at q
  · split at q
    · split at q <;> cases q
    · cases q
  · cases q
theorem c_addNN {a b : Expr} {f g : FE} {pos : Pos} (ha : CEx X W a f) (hb : CEx X W b g) : CEx X W (.BinOp a .Add b pos) (fOp addNN f g) := by
  refine c_op op_cat (fun x y v u S μ hS hx hy Q hp => ?_) addNN_nx ha hb
  unfold addNN at hp
  split at hp
  · rename_i n m
    split at hp
    · rename_i us ws hn hm
      split at hp
      · rename_i hl
        obtain ⟨p, hp1, rfl⟩ := hx
        obtain ⟨q, hq1, rfl⟩ := hy
        obtain ⟨vs, a1, a2⟩ := hS.ob n p _ hp1 (lstAt_some hn)
        obtain ⟨zs, b1, b2⟩ := hS.ob m q _ hq1 (lstAt_some hm)
        exact ⟨p, q, vs, zs, rfl, rfl, a1, b1, by rw [rws_len a2, rws_len b2]; exact lim_line hl, new_lstN hS (paired_app a2 b2) hp⟩
      · exact hp.elim
    · exact hp.elim
  · exact hp.elim
end
end Ped


namespace Ped
open PySem L2 PyProof.Rows PySem.Spec
def cs_19 : List Str := ["InvalidRow", "InvalidBoard", "InvalidSound", "InvalidLot", "InvalidWish", "InvalidNumber", "InvalidFacts", "InvalidIndex", "NothingToUndo", "TooMany", "InvalidText"]
noncomputable def B__law_all_errors : FS := sCons (sAsg (fLstN (fCons (fExcV "InvalidRow" (fVar 0)) (fCons (fExcV "InvalidBoard" (fVar 0)) (fCons (fExcV "InvalidSound" (fVar 0)) (fCons (fExcV "InvalidLot" (fVar 0)) (fCons (fExcV "InvalidWish" (fVar 0)) (fNil))))))) (gVar 2)) (sCons (sAsg (fOp addNN (fVar 2) (fLstN (fCons (fExcV "InvalidNumber" (fVar 0)) (fCons (fExcV "InvalidFacts" (fVar 0)) (fCons (fExcV "InvalidIndex" (fVar 0)) (fCons (fExcV "NothingToUndo" (fVar 0)) (fNil))))))) (gVar 2)) (sRet (fOp addNN (fVar 2) (fLstN (fCons (fSupV_limit "TooMany" "limit" (fVar 1)) (fCons (fSupV_line "InvalidText" "line" (fVar 1)) (fNil)))))))
noncomputable def g__law_all_errors (ws : List Wv) (μ : Sto) : Rs Wv := runF 3 B__law_all_errors ws μ
noncomputable def B__law_classes : FS := sCons (sAsg (fLst (fCons (fIsV cs_19 "InvalidRow" (fVar 0)) (fCons (fIsV cs_19 "InvalidBoard" (fVar 0)) (fCons (fIsV cs_19 "InvalidSound" (fVar 0)) (fNil))))) (gVar 1)) (sCons (sAsg (fOp addW (fVar 1) (fLst (fCons (fIsV cs_19 "InvalidLot" (fVar 0)) (fCons (fIsV cs_19 "InvalidWish" (fVar 0)) (fNil))))) (gVar 1)) (sCons (sAsg (fOp addW (fVar 1) (fLst (fCons (fIsV cs_19 "InvalidNumber" (fVar 0)) (fCons (fIsV cs_19 "InvalidFacts" (fVar 0)) (fNil))))) (gVar 1)) (sCons (sAsg (fOp addW (fVar 1) (fLst (fCons (fIsV cs_19 "InvalidIndex" (fVar 0)) (fCons (fIsV cs_19 "NothingToUndo" (fVar 0)) (fNil))))) (gVar 1)) (sRet (fOp addW (fVar 1) (fLst (fCons (fIsV cs_19 "TooMany" (fVar 0)) (fCons (fIsV cs_19 "InvalidText" (fVar 0)) (fNil)))))))))
noncomputable def g__law_classes (ws : List Wv) (μ : Sto) : Rs Wv := runF 2 B__law_classes ws μ
noncomputable abbrev L_law_19_1 : FS := sCons (sIf (fB (fOp (eqW true) (fCall (callD 1 g__law_classes) (fCons (fOp ixW (fVar 3) (fVar 4)) (fNil))) (fComp (itR1 (fCall kLen (fCons (fVar 3) (fNil)))) (gVar 7) (fYes) (fOp (eqW false) (fVar 7) (fVar 4)) [7]))) (sRet (fC (.bool false))) (sNil)) (sIf (fOr (fNot (fB (fIsV cs_19 "PedalError" (fOp ixW (fVar 3) (fVar 4))))) (fNot (fB (fIsV cs_19 "ValueError" (fOp ixW (fVar 3) (fVar 4)))))) (sRet (fC (.bool false))) (sNil))
noncomputable abbrev L_law_19_2 : FS := sCons (sAsg (fCall (callD 2 g__law_bag) (fCons (fVar 0) (fCons (fVar 1) (fNil)))) (gVar 2)) (sCons (sPar 5 6 (fCons (fCall (callD 2 g__law_of) (fCons (fVar 2) (fCons (fLst (fCons (fC (.str "")) (fCons (fC (.str "a message")) (fCons (fC (.str "x y")) (fNil))))) (fNil)))) (fCons (fCall (callD 2 g__law_take) (fCons (fVar 2) (fCons (fC (.int 1000)) (fNil)))) (fNil)))) (sCons (sAsg (fCall (callD 2 g__law_all_errors) (fCons (fVar 5) (fCons (fVar 6) (fNil)))) (gVar 3)) (sCons (sFor (itR1 (fCall kLen (fCons (fVar 3) (fNil)))) (gVar 4) (L_law_19_1)) (sIf (fOr (fB (fOp (eqW true) (fFldV "TooMany" "limit" (fOp ixW (fVar 3) (fC (.int 9)))) (fVar 6))) (fB (fOp (eqW true) (fFldV "InvalidText" "line" (fOp ixW (fVar 3) (fC (.int 10)))) (fVar 6)))) (sRet (fC (.bool false))) (sNil)))))
noncomputable def B_law_19 : FS := sCons (sFor (itR1 (fCall kMax2 (fCons (fC (.int 3)) (fCons (fCall kMin2 (fCons (fC (.int 6)) (fCons (fOp addW (fCall kLen (fCons (fVar 0) (fNil))) (fC (.int 2))) (fNil)))) (fNil))))) (gVar 1) (L_law_19_2)) (sRet (fC (.bool true)))
noncomputable def g_law_19 (ws : List Wv) (μ : Sto) : Rs Wv := runF 8 B_law_19 ws μ
end Ped

/-! PedTz: law 19 -/
namespace Ped
open PySem L2 PyProof.Rows PySem.Spec
section
variable {μ : Sto}
def errs (r : D) : List Wv := [.e "InvalidRow" [], .e "InvalidBoard" [], .e "InvalidSound" [], .e "InvalidLot" [], .e "InvalidWish" [], .e "InvalidNumber" [], .e "InvalidFacts" [], .e "InvalidIndex" [], .e "NothingToUndo" [], .e "TooMany" [("limit", r)], .e "InvalidText" [("line", r)]]
theorem lstAt_at {μ ν : Sto} {ws : List Wv} : lstAt (μ ++ .lst ws :: ν) μ.length = some ws := by
  unfold lstAt
  simp
theorem lstAt_n {μ ν : Sto} {n : Nat} {ws : List Wv} (h : ν[n]? = some (.lst ws)) : lstAt (μ ++ ν) (μ.length + n) = some ws := by
  unfold lstAt
  rw [List.getElem?_append_right (by omega)]
  simp [h]
theorem addNN_n {μ ν : Sto} {n m : Nat} {us ws : List Wv} (h : ν[n]? = some (.lst us)) (h' : ν[m]? = some (.lst ws)) (hl : us.length + ws.length ≤ LIM) : addNN (.l (μ.length + n)) (.l (μ.length + m)) (μ ++ ν) = .ok (.l (μ.length + ν.length)) (μ ++ (ν ++ [.lst (us ++ ws)])) := by
  unfold addNN
  simp only [lstAt_n h, lstAt_n h']
  rw [if_pos hl, List.length_append, List.append_assoc]
def laid (r : D) : Sto := [.lst ((errs r).take 5), .lst (((errs r).drop 5).take 4), .lst ((errs r).take 9), .lst ((errs r).drop 9), .lst (errs r)]
theorem all_errors_ok (t r : D) : g__law_all_errors [.d t, .d r] μ = .ok (.l (μ.length + 4)) (μ ++ laid r) := by
  unfold g__law_all_errors runF
  have e : B__law_all_errors (startE 3 [.d t, .d r]) μ = .ok (.rt (.l (μ.length + 4))) (μ ++ laid r) := by
    unfold B__law_all_errors
    have a1 := addNN_n (μ := μ) (ν := [.lst ((errs r).take 5), .lst (((errs r).drop 5).take 4)]) (n := 0) (m := 1) rfl rfl (by simp [errs, LIM])
    have a2 := addNN_n (μ := μ) (ν := [.lst ((errs r).take 5), .lst (((errs r).drop 5).take 4), .lst ((errs r).take 9), .lst ((errs r).drop 9)]) (n := 2) (m := 3) rfl rfl (by simp [errs, LIM])
    simp [errs] at a1 a2
    simp [startE, fLstN, fExcV, fSupV_limit, fSupV_line, LIM, a1, a2, laid, errs]
  rw [e]
  show handBack μ (.rt (.l (μ.length + 4))) (μ ++ laid r) = _
  show (if μ.length + 4 < μ.length then (match trim μ (μ ++ laid r) with | some ν => Rs.ok (Wv.l (μ.length + 4)) ν | none => .no) else Rs.ok (Wv.l (μ.length + 4)) (μ ++ laid r)) = _
  rw [if_neg (by omega)]
theorem classes_ok {C : Str} {fs : List (Str × D)} (h : C ∈ cs_19) : g__law_classes [.e C fs] μ = .ok (.d (.list (cs_19.map fun c => .bool (C == c)))) μ := by
  unfold g__law_classes
  refine run_d ?_ rfl
  unfold B__law_classes
  simp only [cs_19, List.mem_cons, List.mem_nil_iff, or_false] at h
  rcases h with rfl | rfl | rfl | rfl | rfl | rfl | rfl | rfl | rfl | rfl | rfl <;> rfl
theorem ix_st {n : Nat} {ws : List Wv} (h : μ[n]? = some (.lst ws)) (i : Nat) (w : Wv) (hw : ws[i]? = some w) : ixW (.l n) (.d (.int (i : Nat))) μ = .ok w μ := by
  show (match μ[n]? with | some (.lst ws) => (match atI ws (i : Int) with | some w => Rs.ok w μ | none => .no) | _ => .no) = _
  rw [h]
  show (match atI ws (i : Int) with | some w => Rs.ok w μ | none => .no) = _
  rw [atI_nat, hw]
end
theorem loop19 {μ : Sto} {n : Nat} {r : D} (h : μ[n]? = some (.lst (errs r))) (s k b d e f : Option Wv) (i : Nat) (hi : i < 11) : L_law_19_1 [s, k, b, some (.l n), some (.d (.int (i : Nat))), d, e, f] μ = .ok (.nx [s, k, b, some (.l n), some (.d (.int (i : Nat))), d, e, f]) μ := by
  have hl : kLen [.l n] μ = .ok (.d (.int 11)) μ := by
    show (match μ[n]? with | some (.lst ws) => Rs.ok (Wv.d (.int ws.length)) μ | _ => .no) = _
    rw [h]; rfl
  have rg : rgK (.d (.int 11)) μ = .ok (rangeD 0 11) μ := rg_k (k := 11) (by decide)
  have hcm := comp_map (g := gVar 7) (e := fOp (eqW false) (fVar 7) (fVar 4)) (env := [s, k, b, some (.l n), some (.d (.int (i : Nat))), d, e, none]) (toD := fun j : Nat => PyData.int (j : Nat)) (φ := fun j : Nat => PyData.bool (decide ((j : Int) = (i : Int)))) (List.range 11) μ [] (fun x _ => ⟨[s, k, b, some (.l n), some (.d (.int (i : Nat))), d, e, some (.d (.int (x : Nat)))], rfl, rfl⟩) (by simp [LIM])
  rw [← rangeD_eq] at hcm
  have hi : i = 0 ∨ i = 1 ∨ i = 2 ∨ i = 3 ∨ i = 4 ∨ i = 5 ∨ i = 6 ∨ i = 7 ∨ i = 8 ∨ i = 9 ∨ i = 10 := by omega
  have go : ∀ (C : Str) (fs : List (Str × D)), (errs r)[i]? = some (.e C fs) → C ∈ cs_19 → eqW true (.d (.list (cs_19.map fun c => .bool (C == c)))) (.d (.list ((List.range 11).map fun j : Nat => PyData.bool (decide ((j : Int) = (i : Int)))))) μ = .ok (.d (.bool false)) μ → L_law_19_1 [s, k, b, some (.l n), some (.d (.int (i : Nat))), d, e, f] μ = .ok (.nx [s, k, b, some (.l n), some (.d (.int (i : Nat))), d, e, f]) μ := by
    intro C fs hC hc he
    have h1 := ix_st h i _ hC
    have h2 := classes_ok (μ := μ) (fs := fs) hc
    simp only [List.nil_append] at hcm
    simp [h1, h2, hl, rg, hcm, he, fIsV, hc]
  rcases hi with rfl | rfl | rfl | rfl | rfl | rfl | rfl | rfl | rfl | rfl | rfl
  · exact go _ _ rfl (by simp [cs_19]) rfl
  · exact go _ _ rfl (by simp [cs_19]) rfl
  · exact go _ _ rfl (by simp [cs_19]) rfl
  · exact go _ _ rfl (by simp [cs_19]) rfl
  · exact go _ _ rfl (by simp [cs_19]) rfl
  · exact go _ _ rfl (by simp [cs_19]) rfl
  · exact go _ _ rfl (by simp [cs_19]) rfl
  · exact go _ _ rfl (by simp [cs_19]) rfl
  · exact go _ _ rfl (by simp [cs_19]) rfl
  · exact go _ _ rfl (by simp [cs_19]) rfl
  · exact go _ _ rfl (by simp [cs_19]) rfl
theorem body19 (ns : List Int) (k : Nat) (hk : k < 100) (rest : Env) (μ : Sto) (hr : rest.length = 6) : ∃ rest' μ', L_law_19_2 (some (.s ns) :: some (.d (.int (k : Nat))) :: rest) μ = .ok (.nx (some (.s ns) :: some (.d (.int (k : Nat))) :: rest')) μ' ∧ rest'.length = 6 := by
  obtain ⟨a, b, c, d, e, f, rfl⟩ := len6 hr
  obtain ⟨ν, eb, B0⟩ := turn_bag ns k hk μ
  generalize μ.length = n at eb B0
  obtain ⟨t, μ1, e1, ht, s1⟩ := of_ok B0 (xs := [.str "", .str "a message", .str "x y"]) (by decide) (by decide)
  obtain ⟨r, μ2, e2, r0, r1, s2⟩ := take_ok (s1.bg B0) (m := 1000) (by decide) (by decide)
  have e3 := all_errors_ok (μ := μ2) t (.int r)
  have hg : (μ2 ++ laid (.int r))[μ2.length + 4]? = some (.lst (errs (.int r))) := by
    rw [List.getElem?_append_right (by omega)]
    simp [laid]
  have hl : kLen [.l (μ2.length + 4)] (μ2 ++ laid (.int r)) = .ok (.d (.int 11)) (μ2 ++ laid (.int r)) := by
    show (match (μ2 ++ laid (.int r))[μ2.length + 4]? with | some (.lst ws) => Rs.ok (Wv.d (.int ws.length)) _ | _ => .no) = _
    rw [hg]; rfl
  have h9 := ix_st hg 9 _ rfl
  have h10 := ix_st hg 10 _ rfl
  generalize hm : μ2.length + 4 = m at *
  generalize hv : μ2 ++ laid (.int r) = μ3 at *
  have rg : rgK (.d (.int 11)) μ3 = .ok (rangeD 0 11) μ3 := rg_k (k := 11) (by decide)
  obtain ⟨env4, μ4, e4, ⟨v, rfl⟩, h4⟩ := for_inv (g := gVar 4) (b := L_law_19_1) (I := fun env μ' => (∃ v, env = [some (.s ns), some (.d (.int (k : Nat))), some (.l n), some (.l m), v, some (.d t), some (.d (.int r)), f]) ∧ μ' = μ3) (rangeD 0 11) [some (.s ns), some (.d (.int (k : Nat))), some (.l n), some (.l m), c, some (.d t), some (.d (.int r)), f] μ3 ⟨⟨_, rfl⟩, rfl⟩ (by
    rintro x hx env _ ⟨⟨v, rfl⟩, rfl⟩
    rw [rangeD_eq] at hx
    obtain ⟨i, hi, rfl⟩ := List.mem_map.mp hx
    exact ⟨[some (.s ns), some (.d (.int (k : Nat))), some (.l n), some (.l m), some (.d (.int (i : Nat))), some (.d t), some (.d (.int r)), f], _, _, _, rfl, loop19 hg _ _ _ _ _ _ i (List.mem_range.mp hi), ⟨_, rfl⟩, rfl⟩)
  rw [h4] at e4
  refine ⟨[some (.l n), some (.l m), v, some (.d t), some (.d (.int r)), f], μ3, ?_, rfl⟩
  simp at e1 h9 h10
  simp [eb, e1, e2, e3, hl, rg, e4, h9, h10, fFldV, eq_int, List.lookup]
theorem law19 (ns : List Int) : ∃ μ, g_law_19 [.s ns] [] = .ok (.d (.bool true)) μ := by
  unfold g_law_19
  obtain ⟨env', μ', hl, e⟩ := law_loop (m := 6) (a := 3) (b := 6) (d := 2) (L := L_law_19_2) (sRet (fC (.bool true))) ns (by decide) fun k rest μ hk hr => body19 ns k hk rest μ hr
  refine ⟨_, run_app (ν := μ') ?_⟩
  show (sCons _ (sRet (fC (.bool true)))) (some (.s ns) :: List.replicate 7 none) [] = _
  rw [e]
  rfl
end Ped


namespace W19
open PySem L2 PyProof.Rows PySem.Spec Ped
def top (i : Nat) : Stmt := PySem.Challenge.pw_pedalrows_k19_errors_and_their_classes.main.body.getD i (.Pass ⟨0, 0, 0, 0⟩)
abbrev s__law_bag : Stmt := top 14
theorem sc__law_bag : FnScope ["script", "k", "cell"] ["script", "k"] (defScope s__law_bag) := ⟨rfl, rfl, rfl, by decide +kernel, rfl, by decide +kernel, by decide +kernel⟩
abbrev s__law_take : Stmt := top 15
theorem sc__law_take : FnScope ["bag", "many", "ground", "found"] ["bag", "many"] (defScope s__law_take) := ⟨rfl, rfl, rfl, by decide +kernel, rfl, by decide +kernel, by decide +kernel⟩
abbrev s__law_of : Stmt := top 16
theorem sc__law_of : FnScope ["bag", "some"] ["bag", "some"] (defScope s__law_of) := ⟨rfl, rfl, rfl, by decide +kernel, rfl, by decide +kernel, by decide +kernel⟩
abbrev s__law_all_errors : Stmt := top 17
theorem sc__law_all_errors : FnScope ["text", "number", "found"] ["text", "number"] (defScope s__law_all_errors) := ⟨rfl, rfl, rfl, by decide +kernel, rfl, by decide +kernel, by decide +kernel⟩
abbrev s__law_classes : Stmt := top 18
theorem sc__law_classes : FnScope ["error", "found"] ["error"] (defScope s__law_classes) := ⟨rfl, rfl, rfl, by decide +kernel, rfl, by decide +kernel, by decide +kernel⟩
abbrev s_law : Stmt := top 19
theorem sc_law : FnScope ["script", "k", "bag", "some", "at", "text", "number", "one"] ["script"] (defScope s_law) := ⟨rfl, rfl, rfl, by decide +kernel, rfl, by decide +kernel, by decide +kernel⟩
structure Txt (P : Program) (K : PySem.W.Frag) (w : World) (mg : Str → Option Value) (a_InvalidRow : Addr) (a_InvalidBoard : Addr) (a_InvalidSound : Addr) (a_InvalidLot : Addr) (a_InvalidWish : Addr) (a_InvalidNumber : Addr) (a_InvalidFacts : Addr) (a_InvalidIndex : Addr) (a_NothingToUndo : Addr) (a_TooMany : Addr) (a_InvalidText : Addr) (a_PedalError : Addr) : Prop where
  n_ValueError : mg "ValueError" = none
  n_abs : mg "abs" = none
  n_int : mg "int" = none
  n_isinstance : mg "isinstance" = none
  n_len : mg "len" = none
  n_max : mg "max" = none
  n_min : mg "min" = none
  n_range : mg "range" = none
  e_InvalidRow : OwnE K mg "InvalidRow" a_InvalidRow
  gv_InvalidRow : mg "InvalidRow" = some (clsV K "InvalidRow")
  e_InvalidBoard : OwnE K mg "InvalidBoard" a_InvalidBoard
  gv_InvalidBoard : mg "InvalidBoard" = some (clsV K "InvalidBoard")
  e_InvalidSound : OwnE K mg "InvalidSound" a_InvalidSound
  gv_InvalidSound : mg "InvalidSound" = some (clsV K "InvalidSound")
  e_InvalidLot : OwnE K mg "InvalidLot" a_InvalidLot
  gv_InvalidLot : mg "InvalidLot" = some (clsV K "InvalidLot")
  e_InvalidWish : OwnE K mg "InvalidWish" a_InvalidWish
  gv_InvalidWish : mg "InvalidWish" = some (clsV K "InvalidWish")
  e_InvalidNumber : OwnE K mg "InvalidNumber" a_InvalidNumber
  gv_InvalidNumber : mg "InvalidNumber" = some (clsV K "InvalidNumber")
  e_InvalidFacts : OwnE K mg "InvalidFacts" a_InvalidFacts
  gv_InvalidFacts : mg "InvalidFacts" = some (clsV K "InvalidFacts")
  e_InvalidIndex : OwnE K mg "InvalidIndex" a_InvalidIndex
  gv_InvalidIndex : mg "InvalidIndex" = some (clsV K "InvalidIndex")
  e_NothingToUndo : OwnE K mg "NothingToUndo" a_NothingToUndo
  gv_NothingToUndo : mg "NothingToUndo" = some (clsV K "NothingToUndo")
  e_TooMany : SupE_limit P K mg "TooMany" a_TooMany
  gv_TooMany : mg "TooMany" = some (clsV K "TooMany")
  f_TooMany : FldE K "TooMany" "limit" a_TooMany
  e_InvalidText : SupE_line P K mg "InvalidText" a_InvalidText
  gv_InvalidText : mg "InvalidText" = some (clsV K "InvalidText")
  f_InvalidText : FldE K "InvalidText" "line" a_InvalidText
  e_PedalError : OwnE K mg "PedalError" a_PedalError
  gv_PedalError : mg "PedalError" = some (clsV K "PedalError")
  r_InvalidRow : RelV (.ref a_InvalidRow) (clsV K "InvalidRow")
  q_InvalidRow : ∀ u, RelV (.ref a_InvalidRow) u → u = clsV K "InvalidRow"
  i_InvalidRow : IsE K cs_19 "InvalidRow" (clsV K "InvalidRow")
  r_InvalidBoard : RelV (.ref a_InvalidBoard) (clsV K "InvalidBoard")
  q_InvalidBoard : ∀ u, RelV (.ref a_InvalidBoard) u → u = clsV K "InvalidBoard"
  i_InvalidBoard : IsE K cs_19 "InvalidBoard" (clsV K "InvalidBoard")
  r_InvalidSound : RelV (.ref a_InvalidSound) (clsV K "InvalidSound")
  q_InvalidSound : ∀ u, RelV (.ref a_InvalidSound) u → u = clsV K "InvalidSound"
  i_InvalidSound : IsE K cs_19 "InvalidSound" (clsV K "InvalidSound")
  r_InvalidLot : RelV (.ref a_InvalidLot) (clsV K "InvalidLot")
  q_InvalidLot : ∀ u, RelV (.ref a_InvalidLot) u → u = clsV K "InvalidLot"
  i_InvalidLot : IsE K cs_19 "InvalidLot" (clsV K "InvalidLot")
  r_InvalidWish : RelV (.ref a_InvalidWish) (clsV K "InvalidWish")
  q_InvalidWish : ∀ u, RelV (.ref a_InvalidWish) u → u = clsV K "InvalidWish"
  i_InvalidWish : IsE K cs_19 "InvalidWish" (clsV K "InvalidWish")
  r_InvalidNumber : RelV (.ref a_InvalidNumber) (clsV K "InvalidNumber")
  q_InvalidNumber : ∀ u, RelV (.ref a_InvalidNumber) u → u = clsV K "InvalidNumber"
  i_InvalidNumber : IsE K cs_19 "InvalidNumber" (clsV K "InvalidNumber")
  r_InvalidFacts : RelV (.ref a_InvalidFacts) (clsV K "InvalidFacts")
  q_InvalidFacts : ∀ u, RelV (.ref a_InvalidFacts) u → u = clsV K "InvalidFacts"
  i_InvalidFacts : IsE K cs_19 "InvalidFacts" (clsV K "InvalidFacts")
  r_InvalidIndex : RelV (.ref a_InvalidIndex) (clsV K "InvalidIndex")
  q_InvalidIndex : ∀ u, RelV (.ref a_InvalidIndex) u → u = clsV K "InvalidIndex"
  i_InvalidIndex : IsE K cs_19 "InvalidIndex" (clsV K "InvalidIndex")
  r_NothingToUndo : RelV (.ref a_NothingToUndo) (clsV K "NothingToUndo")
  q_NothingToUndo : ∀ u, RelV (.ref a_NothingToUndo) u → u = clsV K "NothingToUndo"
  i_NothingToUndo : IsE K cs_19 "NothingToUndo" (clsV K "NothingToUndo")
  r_TooMany : RelV (.ref a_TooMany) (clsV K "TooMany")
  q_TooMany : ∀ u, RelV (.ref a_TooMany) u → u = clsV K "TooMany"
  i_TooMany : IsE K cs_19 "TooMany" (clsV K "TooMany")
  r_InvalidText : RelV (.ref a_InvalidText) (clsV K "InvalidText")
  q_InvalidText : ∀ u, RelV (.ref a_InvalidText) u → u = clsV K "InvalidText"
  i_InvalidText : IsE K cs_19 "InvalidText" (clsV K "InvalidText")
  r_PedalError : RelV (.ref a_PedalError) (clsV K "PedalError")
  q_PedalError : ∀ u, RelV (.ref a_PedalError) u → u = clsV K "PedalError"
  i_PedalError : IsE K cs_19 "PedalError" (clsV K "PedalError")
  i_ValueError : IsE K cs_19 "ValueError" (.type "ValueError")
section
variable {P : Program} {w : World} {K : PySem.W.Frag} {mg : Str → Option Value} {base : Heap} {a_InvalidRow : Addr} {a_InvalidBoard : Addr} {a_InvalidSound : Addr} {a_InvalidLot : Addr} {a_InvalidWish : Addr} {a_InvalidNumber : Addr} {a_InvalidFacts : Addr} {a_InvalidIndex : Addr} {a_NothingToUndo : Addr} {a_TooMany : Addr} {a_InvalidText : Addr} {a_PedalError : Addr}
theorem ok__law_bag (T : Txt P K w mg a_InvalidRow a_InvalidBoard a_InvalidSound a_InvalidLot a_InvalidWish a_InvalidNumber a_InvalidFacts a_InvalidIndex a_NothingToUndo a_TooMany a_InvalidText a_PedalError) (F : DefAt K mg "_law_bag" s__law_bag ["script", "k"]) : OkAt P w K mg base 1 "_law_bag" ["script", "k"] 2 g__law_bag :=
  okAt_mk (B := B__law_bag) F sc__law_bag (fun f cdv A outer s H E hr => cb_cons (cs_set 2 sc__law_bag.nd rfl (by first | exact Or.inl rfl | exact Or.inr rfl) (c_if (ct_lt (c_var 1) (c_callB call_len ok_len kLen_nx (by rfl) T.n_len (by decide +kernel) (ca_cons (c_var 0) (ca_nil)))) (c_callB call_abs ok_abs (k1I_nx _) (by rfl) T.n_abs (by decide +kernel) (ca_cons (c_callTy call_int1 ok_int kInt_nx (by rfl) T.n_int (by decide +kernel) (ca_cons (c_ix (c_var 0) (c_var 1)) (ca_nil))) (ca_nil))) (c_add (c_mul (c_int) (c_var 1)) (c_int)))) (cb_one (cs_ret (c_lstN (ca_cons (c_if (ct_ge (c_var 2) (c_pow (c_int) (c_int))) (c_var 2) (c_int)) (ca_cons (c_mod (c_callTy call_int1 ok_int kInt_nx (by rfl) T.n_int (by decide +kernel) (ca_cons (c_add (c_add (c_mod (c_callTy call_int1 ok_int kInt_nx (by rfl) T.n_int (by decide +kernel) (ca_cons (c_var 2) (ca_nil))) (c_int)) (c_mul (c_int) (c_var 1))) (c_int)) (ca_nil))) (c_int)) (ca_nil))))))) fun _ _ _ => .inr rfl
theorem ok__law_take (T : Txt P K w mg a_InvalidRow a_InvalidBoard a_InvalidSound a_InvalidLot a_InvalidWish a_InvalidNumber a_InvalidFacts a_InvalidIndex a_NothingToUndo a_TooMany a_InvalidText a_PedalError) (F : DefAt K mg "_law_take" s__law_take ["bag", "many"]) : OkAt P w K mg base 1 "_law_take" ["bag", "many"] 2 g__law_take :=
  okAt_mk (B := B__law_take) F sc__law_take (fun f cdv A outer s H E hr => cb_cons (cs_if (ct_gt (c_ix (c_var 0) (c_int)) (c_int)) (cb_cons (cs_set 3 sc__law_take.nd rfl (by first | exact Or.inl rfl | exact Or.inr rfl) (c_mod (c_callTy call_int1 ok_int kInt_nx (by rfl) T.n_int (by decide +kernel) (ca_cons (c_ix (c_var 0) (c_int)) (ca_nil))) (c_var 1))) (cb_cons (cs_setix (c_div (c_callTy call_int1 ok_int kInt_nx (by rfl) T.n_int (by decide +kernel) (ca_cons (c_ix (c_var 0) (c_int)) (ca_nil))) (c_var 1)) (c_var 0) (c_int)) (cb_one (cs_ret (c_var 3))))) (cb_nil)) (cb_cons (cs_setix (c_mod (c_callTy call_int1 ok_int kInt_nx (by rfl) T.n_int (by decide +kernel) (ca_cons (c_add (c_mul (c_ix (c_var 0) (c_int)) (c_int)) (c_int)) (ca_nil))) (c_int)) (c_var 0) (c_int)) (cb_cons (cs_set 2 sc__law_take.nd rfl (by first | exact Or.inl rfl | exact Or.inr rfl) (c_mod (c_mul (c_callTy call_int1 ok_int kInt_nx (by rfl) T.n_int (by decide +kernel) (ca_cons (c_ix (c_var 0) (c_int)) (ca_nil))) (c_add (c_div (c_callTy call_int1 ok_int kInt_nx (by rfl) T.n_int (by decide +kernel) (ca_cons (c_ix (c_var 0) (c_int)) (ca_nil))) (c_int)) (c_int))) (c_int))) (cb_one (cs_ret (c_mod (c_callTy call_int1 ok_int kInt_nx (by rfl) T.n_int (by decide +kernel) (ca_cons (c_div (c_callTy call_int1 ok_int kInt_nx (by rfl) T.n_int (by decide +kernel) (ca_cons (c_var 2) (ca_nil))) (c_int)) (ca_nil))) (c_var 1))))))) fun _ _ _ => .inr rfl
theorem ok__law_of (T : Txt P K w mg a_InvalidRow a_InvalidBoard a_InvalidSound a_InvalidLot a_InvalidWish a_InvalidNumber a_InvalidFacts a_InvalidIndex a_NothingToUndo a_TooMany a_InvalidText a_PedalError) (F : DefAt K mg "_law_of" s__law_of ["bag", "some"]) (O__law_take : OkAt P w K mg base 1 "_law_take" ["bag", "many"] 2 g__law_take) : OkAt P w K mg base 2 "_law_of" ["bag", "some"] 2 g__law_of :=
  okAt_mk (B := B__law_of) F sc__law_of (fun f cdv A outer s H E hr => cb_one (cs_ret (c_ix (c_var 1) (c_fn O__law_take (hr.mono (by decide)) (by rfl) (ca_cons (c_var 0) (ca_cons (c_callB call_len ok_len kLen_nx (by rfl) T.n_len (by decide +kernel) (ca_cons (c_var 1) (ca_nil))) (ca_nil))))))) fun _ _ _ => .inr rfl
theorem ok__law_all_errors (T : Txt P K w mg a_InvalidRow a_InvalidBoard a_InvalidSound a_InvalidLot a_InvalidWish a_InvalidNumber a_InvalidFacts a_InvalidIndex a_NothingToUndo a_TooMany a_InvalidText a_PedalError) (F : DefAt K mg "_law_all_errors" s__law_all_errors ["text", "number"]) : OkAt P w K mg base 1 "_law_all_errors" ["text", "number"] 2 g__law_all_errors :=
  okAt_mk (B := B__law_all_errors) F sc__law_all_errors (fun f cdv A outer s H E hr => cb_cons (cs_set 2 sc__law_all_errors.nd rfl (by first | exact Or.inl rfl | exact Or.inr rfl) (c_lstN (ca_cons (c_excV PySem.F.excBase_ValueError rfl T.e_InvalidRow (by rfl) (c_var 0)) (ca_cons (c_excV PySem.F.excBase_ValueError rfl T.e_InvalidBoard (by rfl) (c_var 0)) (ca_cons (c_excV PySem.F.excBase_ValueError rfl T.e_InvalidSound (by rfl) (c_var 0)) (ca_cons (c_excV PySem.F.excBase_ValueError rfl T.e_InvalidLot (by rfl) (c_var 0)) (ca_cons (c_excV PySem.F.excBase_ValueError rfl T.e_InvalidWish (by rfl) (c_var 0)) (ca_nil)))))))) (cb_cons (cs_set 2 sc__law_all_errors.nd rfl (by first | exact Or.inl rfl | exact Or.inr rfl) (c_addNN (c_var 2) (c_lstN (ca_cons (c_excV PySem.F.excBase_ValueError rfl T.e_InvalidNumber (by rfl) (c_var 0)) (ca_cons (c_excV PySem.F.excBase_ValueError rfl T.e_InvalidFacts (by rfl) (c_var 0)) (ca_cons (c_excV PySem.F.excBase_ValueError rfl T.e_InvalidIndex (by rfl) (c_var 0)) (ca_cons (c_excV PySem.F.excBase_ValueError rfl T.e_NothingToUndo (by rfl) (c_var 0)) (ca_nil)))))))) (cb_one (cs_ret (c_addNN (c_var 2) (c_lstN (ca_cons (c_supV_limit T.e_TooMany hr (c_var 1) (by rfl)) (ca_cons (c_supV_line T.e_InvalidText hr (c_var 1) (by rfl)) (ca_nil))))))))) fun _ _ _ => .inr rfl
theorem ok__law_classes (T : Txt P K w mg a_InvalidRow a_InvalidBoard a_InvalidSound a_InvalidLot a_InvalidWish a_InvalidNumber a_InvalidFacts a_InvalidIndex a_NothingToUndo a_TooMany a_InvalidText a_PedalError) (F : DefAt K mg "_law_classes" s__law_classes ["error"]) : OkAt P w K mg base 1 "_law_classes" ["error"] 1 g__law_classes :=
  okAt_mk (B := B__law_classes) F sc__law_classes (fun f cdv A outer s H E hr => cb_cons (cs_set 1 sc__law_classes.nd rfl (by first | exact Or.inl rfl | exact Or.inr rfl) (c_lst (ca_cons (c_isV T.i_InvalidRow (pe_glob (by rfl) T.gv_InvalidRow (v := .ref a_InvalidRow) T.r_InvalidRow) T.q_InvalidRow (by rfl) T.n_isinstance (by decide +kernel) (c_var 0)) (ca_cons (c_isV T.i_InvalidBoard (pe_glob (by rfl) T.gv_InvalidBoard (v := .ref a_InvalidBoard) T.r_InvalidBoard) T.q_InvalidBoard (by rfl) T.n_isinstance (by decide +kernel) (c_var 0)) (ca_cons (c_isV T.i_InvalidSound (pe_glob (by rfl) T.gv_InvalidSound (v := .ref a_InvalidSound) T.r_InvalidSound) T.q_InvalidSound (by rfl) T.n_isinstance (by decide +kernel) (c_var 0)) (ca_nil)))))) (cb_cons (cs_set 1 sc__law_classes.nd rfl (by first | exact Or.inl rfl | exact Or.inr rfl) (c_add (c_var 1) (c_lst (ca_cons (c_isV T.i_InvalidLot (pe_glob (by rfl) T.gv_InvalidLot (v := .ref a_InvalidLot) T.r_InvalidLot) T.q_InvalidLot (by rfl) T.n_isinstance (by decide +kernel) (c_var 0)) (ca_cons (c_isV T.i_InvalidWish (pe_glob (by rfl) T.gv_InvalidWish (v := .ref a_InvalidWish) T.r_InvalidWish) T.q_InvalidWish (by rfl) T.n_isinstance (by decide +kernel) (c_var 0)) (ca_nil)))))) (cb_cons (cs_set 1 sc__law_classes.nd rfl (by first | exact Or.inl rfl | exact Or.inr rfl) (c_add (c_var 1) (c_lst (ca_cons (c_isV T.i_InvalidNumber (pe_glob (by rfl) T.gv_InvalidNumber (v := .ref a_InvalidNumber) T.r_InvalidNumber) T.q_InvalidNumber (by rfl) T.n_isinstance (by decide +kernel) (c_var 0)) (ca_cons (c_isV T.i_InvalidFacts (pe_glob (by rfl) T.gv_InvalidFacts (v := .ref a_InvalidFacts) T.r_InvalidFacts) T.q_InvalidFacts (by rfl) T.n_isinstance (by decide +kernel) (c_var 0)) (ca_nil)))))) (cb_cons (cs_set 1 sc__law_classes.nd rfl (by first | exact Or.inl rfl | exact Or.inr rfl) (c_add (c_var 1) (c_lst (ca_cons (c_isV T.i_InvalidIndex (pe_glob (by rfl) T.gv_InvalidIndex (v := .ref a_InvalidIndex) T.r_InvalidIndex) T.q_InvalidIndex (by rfl) T.n_isinstance (by decide +kernel) (c_var 0)) (ca_cons (c_isV T.i_NothingToUndo (pe_glob (by rfl) T.gv_NothingToUndo (v := .ref a_NothingToUndo) T.r_NothingToUndo) T.q_NothingToUndo (by rfl) T.n_isinstance (by decide +kernel) (c_var 0)) (ca_nil)))))) (cb_one (cs_ret (c_add (c_var 1) (c_lst (ca_cons (c_isV T.i_TooMany (pe_glob (by rfl) T.gv_TooMany (v := .ref a_TooMany) T.r_TooMany) T.q_TooMany (by rfl) T.n_isinstance (by decide +kernel) (c_var 0)) (ca_cons (c_isV T.i_InvalidText (pe_glob (by rfl) T.gv_InvalidText (v := .ref a_InvalidText) T.r_InvalidText) T.q_InvalidText (by rfl) T.n_isinstance (by decide +kernel) (c_var 0)) (ca_nil))))))))))) fun _ _ _ => .inr rfl
theorem ok_law (T : Txt P K w mg a_InvalidRow a_InvalidBoard a_InvalidSound a_InvalidLot a_InvalidWish a_InvalidNumber a_InvalidFacts a_InvalidIndex a_NothingToUndo a_TooMany a_InvalidText a_PedalError) (O__law_all_errors : OkAt P w K mg base 1 "_law_all_errors" ["text", "number"] 2 g__law_all_errors) (O__law_bag : OkAt P w K mg base 1 "_law_bag" ["script", "k"] 2 g__law_bag) (O__law_classes : OkAt P w K mg base 1 "_law_classes" ["error"] 1 g__law_classes) (O__law_of : OkAt P w K mg base 2 "_law_of" ["bag", "some"] 2 g__law_of) (O__law_take : OkAt P w K mg base 1 "_law_take" ["bag", "many"] 2 g__law_take) {f : Addr} {fd : FuncData} (F : Fun K "law" "law" s_law f fd) : FnOk P w K mg base CX0 3 f fd ["script"] (spD K 1 fun ws μ => noex (g_law_19 ws μ)) :=
  ok_def (B := B_law_19) F sc_law (fun cdv A outer s H E hr => cb_cons (cs_for PassesOwn.never rfl (ci_range1 (by rfl) T.n_range (c_callB (call_max2 rfl) ok_max2 (k2I_nx _) (by rfl) T.n_max (by decide +kernel) (ca_cons (c_int) (ca_cons (c_callB (call_min2 rfl) ok_min2 (k2I_nx _) (by rfl) T.n_min (by decide +kernel) (ca_cons (c_int) (ca_cons (c_add (c_callB call_len ok_len kLen_nx (by rfl) T.n_len (by decide +kernel) (ca_cons (c_var 0) (ca_nil))) (c_int)) (ca_nil)))) (ca_nil))))) (cg_name (i := 1) sc_law.nd rfl (by first | exact Or.inl rfl | exact Or.inr rfl)) (cb_cons (cs_set 2 sc_law.nd rfl (by first | exact Or.inl rfl | exact Or.inr rfl) (c_fn O__law_bag (hr.mono (by decide)) (by rfl) (ca_cons (c_var 0) (ca_cons (c_var 1) (ca_nil))))) (cb_cons (cs_par 5 6 rfl sc_law.nd rfl rfl (by decide) rfl rfl (ca_cons (c_fn O__law_of (hr.mono (by decide)) (by rfl) (ca_cons (c_var 2) (ca_cons (c_lst (ca_cons (c_str) (ca_cons (c_str) (ca_cons (c_str) (ca_nil))))) (ca_nil)))) (ca_cons (c_fn O__law_take (hr.mono (by decide)) (by rfl) (ca_cons (c_var 2) (ca_cons (c_int) (ca_nil)))) (ca_nil)))) (cb_cons (cs_set 3 sc_law.nd rfl (by first | exact Or.inl rfl | exact Or.inr rfl) (c_fn O__law_all_errors (hr.mono (by decide)) (by rfl) (ca_cons (c_var 5) (ca_cons (c_var 6) (ca_nil))))) (cb_cons (cs_for PassesOwn.never rfl (ci_range1 (by rfl) T.n_range (c_callB call_len ok_len kLen_nx (by rfl) T.n_len (by decide +kernel) (ca_cons (c_var 3) (ca_nil)))) (cg_name (i := 4) sc_law.nd rfl (by first | exact Or.inl rfl | exact Or.inr rfl)) (cb_cons (cs_if (ct_ne (ru64 hr) (c_fn O__law_classes (hr.mono (by decide)) (by rfl) (ca_cons (c_ix (c_var 3) (c_var 4)) (ca_nil))) (c_comp rfl sc_law.nd (ci_range1 (by rfl) T.n_range (c_callB call_len ok_len kLen_nx (by rfl) T.n_len (by decide +kernel) (ca_cons (c_var 3) (ca_nil)))) (blkOk_by (own := [("one", 7)]) (N := ["script", "k", "bag", "some", "at", "text", "number", "one"]) (sc := defScope s_law) (by decide +kernel)) (by decide) (fun _ _ _ _ _ => cg_name (i := 7) sc_law.nd rfl (by first | exact Or.inl rfl | exact Or.inr rfl)) (fun _ _ _ _ _ => cts_nil) (fun _ _ _ _ _ => c_eq (ru64 hr) (c_var 7) (c_var 4)))) (cb_one (cs_ret (c_bl))) (cb_nil)) (cb_one (cs_if ((cw_or (ct_not (ct_val (c_isV T.i_PedalError (pe_glob (by rfl) T.gv_PedalError (v := .ref a_PedalError) T.r_PedalError) T.q_PedalError (by rfl) T.n_isinstance (by decide +kernel) (c_ix (c_var 3) (c_var 4))))) (cw_or1 (ct_not (ct_val (c_isV T.i_ValueError (pe_bltn (v := .ty "ValueError") (by rfl) T.n_ValueError (by decide +kernel) rfl) (fun _ z => z) (by rfl) T.n_isinstance (by decide +kernel) (c_ix (c_var 3) (c_var 4))))))).ct) (cb_one (cs_ret (c_bl))) (cb_nil))))) (cb_one (cs_if ((cw_or (ct_ne (ru64 hr) (c_fldV T.f_TooMany (c_ix (c_var 3) (c_int))) (c_var 6)) (cw_or1 (ct_ne (ru64 hr) (c_fldV T.f_InvalidText (c_ix (c_var 3) (c_int))) (c_var 6)))).ct) (cb_one (cs_ret (c_bl))) (cb_nil)))))))) (cb_one (cs_ret (c_bl)))) fun _ _ _ => .inr rfl
end
theorem all_mk {P : Program} {w : World} {K : PySem.W.Frag} {h : Heap} {mg : Str → Option Value} {fa f0 f1 f2 f3 f4 f5 a_InvalidRow a_InvalidBoard a_InvalidSound a_InvalidLot a_InvalidWish a_InvalidNumber a_InvalidFacts a_InvalidIndex a_NothingToUndo a_TooMany a_InvalidText a_PedalError : Addr} (X : K.In h) (G : h.Ns mainGlobals mg) (hfa : mg "law" = some (.ref fa)) {od0 an0 od1 an1 od2 an2 od3 an3 od4 an4 od5 an5 : Option Addr} {sl0 sl1 sl2 sl3 sl4 sl5 : Array (Option Value)} {oc0 kV0 dc0 pm0 cd0 ct0 oc1 kV1 dc1 pm1 cd1 ct1 oc2 kV2 dc2 pm2 cd2 ct2 oc3 kV3 dc3 pm3 cd3 ct3 oc4 kV4 dc4 pm4 cd4 ct4 oc5 kV5 dc5 pm5 cd5 ct5 : Value} {nm_TooMany qn_TooMany : Str} {N_TooMany aB_TooMany fI_TooMany cda_TooMany cc_TooMany : Addr} {bs_TooMany : List Value} {sn_TooMany : List Str} {sub_TooMany : List Value} {ab_TooMany : Bool} {col_TooMany : Option Bool} {dd_TooMany : Option Addr} {m0_TooMany m1_TooMany m2_TooMany m3_TooMany m5_TooMany : Option Value} {oc_TooMany : Value} {od_TooMany : Option Addr} {qual_TooMany : Str} {doc_TooMany pm_TooMany : Value} {an_TooMany : Option Addr} {ct_TooMany : Value} {osl_TooMany : Array (Option Value)} {p1_TooMany p2_TooMany : Pos} {msg_TooMany : Str} {j_TooMany n1_TooMany n2_TooMany n3_TooMany n4_TooMany n5_TooMany : Nat} {r0_TooMany r1_TooMany r3_TooMany r5_TooMany q1_TooMany q2_TooMany q3_TooMany q4_TooMany : Pos} {ccl_TooMany : Value} {cdd_TooMany : Option Addr} {vs_TooMany : Array Value} {ccs_TooMany : Array (Option Value)} {file_TooMany : Str} {tf_TooMany : Tok} {cl_TooMany : Value} {cld_TooMany : Option Addr} {csl_TooMany : Array (Option Value)} {nm_InvalidText qn_InvalidText : Str} {N_InvalidText aB_InvalidText fI_InvalidText cda_InvalidText cc_InvalidText : Addr} {bs_InvalidText : List Value} {sn_InvalidText : List Str} {sub_InvalidText : List Value} {ab_InvalidText : Bool} {col_InvalidText : Option Bool} {dd_InvalidText : Option Addr} {m0_InvalidText m1_InvalidText m2_InvalidText m3_InvalidText m5_InvalidText : Option Value} {oc_InvalidText : Value} {od_InvalidText : Option Addr} {qual_InvalidText : Str} {doc_InvalidText pm_InvalidText : Value} {an_InvalidText : Option Addr} {ct_InvalidText : Value} {osl_InvalidText : Array (Option Value)} {p1_InvalidText p2_InvalidText : Pos} {msg_InvalidText : Str} {j_InvalidText n1_InvalidText n2_InvalidText n3_InvalidText n4_InvalidText n5_InvalidText : Nat} {r0_InvalidText r1_InvalidText r3_InvalidText r5_InvalidText q1_InvalidText q2_InvalidText q3_InvalidText q4_InvalidText : Pos} {ccl_InvalidText : Value} {cdd_InvalidText : Option Addr} {vs_InvalidText : Array Value} {ccs_InvalidText : Array (Option Value)} {file_InvalidText : Str} {tf_InvalidText : Tok} {cl_InvalidText : Value} {cld_InvalidText : Option Addr} {csl_InvalidText : Array (Option Value)}
    (a0 : PySem.W.nsIn K mainGlobals "_law_bag" = some (some (.ref f0)))
    (l0 : K.lookup f0 = some ⟨oc0, od0, .func (PySem.W.fnOf "_law_bag" "_law_bag" (defArgs s__law_bag) (defBody s__law_bag) (defScope s__law_bag) .none kV0 dc0 pm0 an0 cd0 ct0), sl0⟩)
    (c0 : PySem.W.codeIn K cd0 "_law_bag" = true)
    (k0 : PySem.W.keepIn K (.ref f0) = true)
    (a1 : PySem.W.nsIn K mainGlobals "_law_take" = some (some (.ref f1)))
    (l1 : K.lookup f1 = some ⟨oc1, od1, .func (PySem.W.fnOf "_law_take" "_law_take" (defArgs s__law_take) (defBody s__law_take) (defScope s__law_take) .none kV1 dc1 pm1 an1 cd1 ct1), sl1⟩)
    (c1 : PySem.W.codeIn K cd1 "_law_take" = true)
    (k1 : PySem.W.keepIn K (.ref f1) = true)
    (a2 : PySem.W.nsIn K mainGlobals "_law_of" = some (some (.ref f2)))
    (l2 : K.lookup f2 = some ⟨oc2, od2, .func (PySem.W.fnOf "_law_of" "_law_of" (defArgs s__law_of) (defBody s__law_of) (defScope s__law_of) .none kV2 dc2 pm2 an2 cd2 ct2), sl2⟩)
    (c2 : PySem.W.codeIn K cd2 "_law_of" = true)
    (k2 : PySem.W.keepIn K (.ref f2) = true)
    (a3 : PySem.W.nsIn K mainGlobals "_law_all_errors" = some (some (.ref f3)))
    (l3 : K.lookup f3 = some ⟨oc3, od3, .func (PySem.W.fnOf "_law_all_errors" "_law_all_errors" (defArgs s__law_all_errors) (defBody s__law_all_errors) (defScope s__law_all_errors) .none kV3 dc3 pm3 an3 cd3 ct3), sl3⟩)
    (c3 : PySem.W.codeIn K cd3 "_law_all_errors" = true)
    (k3 : PySem.W.keepIn K (.ref f3) = true)
    (a4 : PySem.W.nsIn K mainGlobals "_law_classes" = some (some (.ref f4)))
    (l4 : K.lookup f4 = some ⟨oc4, od4, .func (PySem.W.fnOf "_law_classes" "_law_classes" (defArgs s__law_classes) (defBody s__law_classes) (defScope s__law_classes) .none kV4 dc4 pm4 an4 cd4 ct4), sl4⟩)
    (c4 : PySem.W.codeIn K cd4 "_law_classes" = true)
    (k4 : PySem.W.keepIn K (.ref f4) = true)
    (a5 : PySem.W.nsIn K mainGlobals "law" = some (some (.ref f5)))
    (l5 : K.lookup f5 = some ⟨oc5, od5, .func (PySem.W.fnOf "law" "law" (defArgs s_law) (defBody s_law) (defScope s_law) .none kV5 dc5 pm5 an5 cd5 ct5), sl5⟩)
    (c5 : PySem.W.codeIn K cd5 "law" = true)
    (k5 : PySem.W.keepIn K (.ref f5) = true)
    (z_ValueError : PySem.W.nsIn K mainGlobals "ValueError" = some none)
    (z_abs : PySem.W.nsIn K mainGlobals "abs" = some none)
    (z_int : PySem.W.nsIn K mainGlobals "int" = some none)
    (z_isinstance : PySem.W.nsIn K mainGlobals "isinstance" = some none)
    (z_len : PySem.W.nsIn K mainGlobals "len" = some none)
    (z_max : PySem.W.nsIn K mainGlobals "max" = some none)
    (z_min : PySem.W.nsIn K mainGlobals "min" = some none)
    (z_range : PySem.W.nsIn K mainGlobals "range" = some none)
    (y_InvalidRow : PySem.W.nsIn K mainGlobals "InvalidRow" = some (some (.ref a_InvalidRow)))
    (ek_InvalidRow : PySem.W.keepIn K (.ref a_InvalidRow) = true)
    (es_InvalidRow : PySem.W.subIn K (.ref a_InvalidRow) (.type "BaseException") = some true)
    (et_InvalidRow : PySem.W.typeIn K (.ref a_InvalidRow) = some (.type "type"))
    (eh_InvalidRow : PySem.W.hasDictIn K a_InvalidRow = true)
    (eq_InvalidRow : PySem.W.excIn K a_InvalidRow [.type "ValueError", .type "Exception", .type "BaseException", .type "object"] "ValueError.__new__" = true)
    (y_InvalidBoard : PySem.W.nsIn K mainGlobals "InvalidBoard" = some (some (.ref a_InvalidBoard)))
    (ek_InvalidBoard : PySem.W.keepIn K (.ref a_InvalidBoard) = true)
    (es_InvalidBoard : PySem.W.subIn K (.ref a_InvalidBoard) (.type "BaseException") = some true)
    (et_InvalidBoard : PySem.W.typeIn K (.ref a_InvalidBoard) = some (.type "type"))
    (eh_InvalidBoard : PySem.W.hasDictIn K a_InvalidBoard = true)
    (eq_InvalidBoard : PySem.W.excIn K a_InvalidBoard [.type "ValueError", .type "Exception", .type "BaseException", .type "object"] "ValueError.__new__" = true)
    (y_InvalidSound : PySem.W.nsIn K mainGlobals "InvalidSound" = some (some (.ref a_InvalidSound)))
    (ek_InvalidSound : PySem.W.keepIn K (.ref a_InvalidSound) = true)
    (es_InvalidSound : PySem.W.subIn K (.ref a_InvalidSound) (.type "BaseException") = some true)
    (et_InvalidSound : PySem.W.typeIn K (.ref a_InvalidSound) = some (.type "type"))
    (eh_InvalidSound : PySem.W.hasDictIn K a_InvalidSound = true)
    (eq_InvalidSound : PySem.W.excIn K a_InvalidSound [.type "ValueError", .type "Exception", .type "BaseException", .type "object"] "ValueError.__new__" = true)
    (y_InvalidLot : PySem.W.nsIn K mainGlobals "InvalidLot" = some (some (.ref a_InvalidLot)))
    (ek_InvalidLot : PySem.W.keepIn K (.ref a_InvalidLot) = true)
    (es_InvalidLot : PySem.W.subIn K (.ref a_InvalidLot) (.type "BaseException") = some true)
    (et_InvalidLot : PySem.W.typeIn K (.ref a_InvalidLot) = some (.type "type"))
    (eh_InvalidLot : PySem.W.hasDictIn K a_InvalidLot = true)
    (eq_InvalidLot : PySem.W.excIn K a_InvalidLot [.type "ValueError", .type "Exception", .type "BaseException", .type "object"] "ValueError.__new__" = true)
    (y_InvalidWish : PySem.W.nsIn K mainGlobals "InvalidWish" = some (some (.ref a_InvalidWish)))
    (ek_InvalidWish : PySem.W.keepIn K (.ref a_InvalidWish) = true)
    (es_InvalidWish : PySem.W.subIn K (.ref a_InvalidWish) (.type "BaseException") = some true)
    (et_InvalidWish : PySem.W.typeIn K (.ref a_InvalidWish) = some (.type "type"))
    (eh_InvalidWish : PySem.W.hasDictIn K a_InvalidWish = true)
    (eq_InvalidWish : PySem.W.excIn K a_InvalidWish [.type "ValueError", .type "Exception", .type "BaseException", .type "object"] "ValueError.__new__" = true)
    (y_InvalidNumber : PySem.W.nsIn K mainGlobals "InvalidNumber" = some (some (.ref a_InvalidNumber)))
    (ek_InvalidNumber : PySem.W.keepIn K (.ref a_InvalidNumber) = true)
    (es_InvalidNumber : PySem.W.subIn K (.ref a_InvalidNumber) (.type "BaseException") = some true)
    (et_InvalidNumber : PySem.W.typeIn K (.ref a_InvalidNumber) = some (.type "type"))
    (eh_InvalidNumber : PySem.W.hasDictIn K a_InvalidNumber = true)
    (eq_InvalidNumber : PySem.W.excIn K a_InvalidNumber [.type "ValueError", .type "Exception", .type "BaseException", .type "object"] "ValueError.__new__" = true)
    (y_InvalidFacts : PySem.W.nsIn K mainGlobals "InvalidFacts" = some (some (.ref a_InvalidFacts)))
    (ek_InvalidFacts : PySem.W.keepIn K (.ref a_InvalidFacts) = true)
    (es_InvalidFacts : PySem.W.subIn K (.ref a_InvalidFacts) (.type "BaseException") = some true)
    (et_InvalidFacts : PySem.W.typeIn K (.ref a_InvalidFacts) = some (.type "type"))
    (eh_InvalidFacts : PySem.W.hasDictIn K a_InvalidFacts = true)
    (eq_InvalidFacts : PySem.W.excIn K a_InvalidFacts [.type "ValueError", .type "Exception", .type "BaseException", .type "object"] "ValueError.__new__" = true)
    (y_InvalidIndex : PySem.W.nsIn K mainGlobals "InvalidIndex" = some (some (.ref a_InvalidIndex)))
    (ek_InvalidIndex : PySem.W.keepIn K (.ref a_InvalidIndex) = true)
    (es_InvalidIndex : PySem.W.subIn K (.ref a_InvalidIndex) (.type "BaseException") = some true)
    (et_InvalidIndex : PySem.W.typeIn K (.ref a_InvalidIndex) = some (.type "type"))
    (eh_InvalidIndex : PySem.W.hasDictIn K a_InvalidIndex = true)
    (eq_InvalidIndex : PySem.W.excIn K a_InvalidIndex [.type "ValueError", .type "Exception", .type "BaseException", .type "object"] "ValueError.__new__" = true)
    (y_NothingToUndo : PySem.W.nsIn K mainGlobals "NothingToUndo" = some (some (.ref a_NothingToUndo)))
    (ek_NothingToUndo : PySem.W.keepIn K (.ref a_NothingToUndo) = true)
    (es_NothingToUndo : PySem.W.subIn K (.ref a_NothingToUndo) (.type "BaseException") = some true)
    (et_NothingToUndo : PySem.W.typeIn K (.ref a_NothingToUndo) = some (.type "type"))
    (eh_NothingToUndo : PySem.W.hasDictIn K a_NothingToUndo = true)
    (eq_NothingToUndo : PySem.W.excIn K a_NothingToUndo [.type "ValueError", .type "Exception", .type "BaseException", .type "object"] "ValueError.__new__" = true)
    (y_TooMany : PySem.W.nsIn K mainGlobals "TooMany" = some (some (.ref a_TooMany)))
    (ek_TooMany : PySem.W.keepIn K (.ref a_TooMany) = true)
    (es_TooMany : PySem.W.subIn K (.ref a_TooMany) (.type "BaseException") = some true)
    (et_TooMany : PySem.W.typeIn K (.ref a_TooMany) = some (.type "type"))
    (eh_TooMany : PySem.W.hasDictIn K a_TooMany = true)
    (xl_TooMany : K.lookup a_TooMany = some (excClassObj nm_TooMany qn_TooMany a_TooMany N_TooMany bs_TooMany [.ref aB_TooMany, .type "ValueError", .type "Exception", .type "BaseException", .type "object"] true sn_TooMany sub_TooMany ab_TooMany col_TooMany dd_TooMany m0_TooMany m1_TooMany m2_TooMany m3_TooMany m5_TooMany "ValueError.__new__"))
    (sa_TooMany : PySem.W.findIn K (.ref a_TooMany) "__setattr__" = some (some (.builtin "object.__setattr__")))
    (ga_TooMany : PySem.W.findIn K (.ref a_TooMany) "__getattribute__" = some (some (.builtin "BaseException.__getattribute__")))
    (gg_TooMany : PySem.W.findIn K (.ref a_TooMany) "__getattr__" = some none)
    (nf_TooMany : PySem.W.findIn K (.ref a_TooMany) "limit" = some none)
    (fi_TooMany : PySem.W.findIn K (.ref a_TooMany) "__init__" = some (some (.ref fI_TooMany)))
    (ft_TooMany : PySem.W.typeIn K (.ref fI_TooMany) = some (.type "function"))
    (fl_TooMany : K.lookup fI_TooMany = some ⟨oc_TooMany, od_TooMany, .func (PySem.W.ksFn "__init__" qual_TooMany (supA_limit p1_TooMany p2_TooMany) (supB_limit msg_TooMany j_TooMany n1_TooMany n2_TooMany n3_TooMany n4_TooMany n5_TooMany r0_TooMany r1_TooMany r3_TooMany r5_TooMany q1_TooMany q2_TooMany q3_TooMany q4_TooMany) supS_limit .none .none doc_TooMany pm_TooMany an_TooMany (.ref cda_TooMany) ct_TooMany cc_TooMany), osl_TooMany⟩)
    (fc_TooMany : PySem.W.codeIn K (.ref cda_TooMany) qual_TooMany = true)
    (cd_TooMany : K.lookup cda_TooMany = some ⟨ccl_TooMany, cdd_TooMany, .fields vs_TooMany, ccs_TooMany⟩)
    (cv_TooMany : vs_TooMany[2]? = some (.str file_TooMany tf_TooMany))
    (cf_TooMany : ((P.main.file : Str) == file_TooMany) = true)
    (cl_TooMany : K.lookup cc_TooMany = some ⟨cl_TooMany, cld_TooMany, .cell (some (.ref a_TooMany)), csl_TooMany⟩)
    (ms_TooMany : PySem.W.mroIn K a_TooMany (.ref a_TooMany) = some true)
    (sv_TooMany : PySem.W.subIn K (.ref a_TooMany) (.type "ValueError") = some true)
    (su_TooMany : PySem.W.ks_superIn K a_TooMany a_TooMany "__init__" = some (some (.builtin "ValueError.__init__")))
    (z_super : PySem.W.nsIn K mainGlobals "super" = some none)
    (z_top : (P.main.scope.names.lookup ("super" : Str)).isSome = false)
    (z_tp : PySem.W.nsIn K PySem.cStatics "thirdparty.any" = some none)
    (y_InvalidText : PySem.W.nsIn K mainGlobals "InvalidText" = some (some (.ref a_InvalidText)))
    (ek_InvalidText : PySem.W.keepIn K (.ref a_InvalidText) = true)
    (es_InvalidText : PySem.W.subIn K (.ref a_InvalidText) (.type "BaseException") = some true)
    (et_InvalidText : PySem.W.typeIn K (.ref a_InvalidText) = some (.type "type"))
    (eh_InvalidText : PySem.W.hasDictIn K a_InvalidText = true)
    (xl_InvalidText : K.lookup a_InvalidText = some (excClassObj nm_InvalidText qn_InvalidText a_InvalidText N_InvalidText bs_InvalidText [.ref aB_InvalidText, .type "ValueError", .type "Exception", .type "BaseException", .type "object"] true sn_InvalidText sub_InvalidText ab_InvalidText col_InvalidText dd_InvalidText m0_InvalidText m1_InvalidText m2_InvalidText m3_InvalidText m5_InvalidText "ValueError.__new__"))
    (sa_InvalidText : PySem.W.findIn K (.ref a_InvalidText) "__setattr__" = some (some (.builtin "object.__setattr__")))
    (ga_InvalidText : PySem.W.findIn K (.ref a_InvalidText) "__getattribute__" = some (some (.builtin "BaseException.__getattribute__")))
    (gg_InvalidText : PySem.W.findIn K (.ref a_InvalidText) "__getattr__" = some none)
    (nf_InvalidText : PySem.W.findIn K (.ref a_InvalidText) "line" = some none)
    (fi_InvalidText : PySem.W.findIn K (.ref a_InvalidText) "__init__" = some (some (.ref fI_InvalidText)))
    (ft_InvalidText : PySem.W.typeIn K (.ref fI_InvalidText) = some (.type "function"))
    (fl_InvalidText : K.lookup fI_InvalidText = some ⟨oc_InvalidText, od_InvalidText, .func (PySem.W.ksFn "__init__" qual_InvalidText (supA_line p1_InvalidText p2_InvalidText) (supB_line msg_InvalidText j_InvalidText n1_InvalidText n2_InvalidText n3_InvalidText n4_InvalidText n5_InvalidText r0_InvalidText r1_InvalidText r3_InvalidText r5_InvalidText q1_InvalidText q2_InvalidText q3_InvalidText q4_InvalidText) supS_line .none .none doc_InvalidText pm_InvalidText an_InvalidText (.ref cda_InvalidText) ct_InvalidText cc_InvalidText), osl_InvalidText⟩)
    (fc_InvalidText : PySem.W.codeIn K (.ref cda_InvalidText) qual_InvalidText = true)
    (cd_InvalidText : K.lookup cda_InvalidText = some ⟨ccl_InvalidText, cdd_InvalidText, .fields vs_InvalidText, ccs_InvalidText⟩)
    (cv_InvalidText : vs_InvalidText[2]? = some (.str file_InvalidText tf_InvalidText))
    (cf_InvalidText : ((P.main.file : Str) == file_InvalidText) = true)
    (cl_InvalidText : K.lookup cc_InvalidText = some ⟨cl_InvalidText, cld_InvalidText, .cell (some (.ref a_InvalidText)), csl_InvalidText⟩)
    (ms_InvalidText : PySem.W.mroIn K a_InvalidText (.ref a_InvalidText) = some true)
    (sv_InvalidText : PySem.W.subIn K (.ref a_InvalidText) (.type "ValueError") = some true)
    (su_InvalidText : PySem.W.ks_superIn K a_InvalidText a_InvalidText "__init__" = some (some (.builtin "ValueError.__init__")))
    (y_PedalError : PySem.W.nsIn K mainGlobals "PedalError" = some (some (.ref a_PedalError)))
    (ek_PedalError : PySem.W.keepIn K (.ref a_PedalError) = true)
    (es_PedalError : PySem.W.subIn K (.ref a_PedalError) (.type "BaseException") = some true)
    (et_PedalError : PySem.W.typeIn K (.ref a_PedalError) = some (.type "type"))
    (eh_PedalError : PySem.W.hasDictIn K a_PedalError = true)
    (eq_PedalError : PySem.W.excIn K a_PedalError [.type "ValueError", .type "Exception", .type "BaseException", .type "object"] "ValueError.__new__" = true)
    (zc_n : PySem.W.specialIn K (.builtin "object.__class__") "__get__" = some (some (.builtin "getset_descriptor.__get__")))
    (zc_t : PySem.W.takesIn K (.builtin "object.__class__") = some true)
    (ga_InvalidRow : PySem.W.findIn K (.ref a_InvalidRow) "__getattribute__" = some (some (.builtin "BaseException.__getattribute__")))
    (gg_InvalidRow : PySem.W.findIn K (.ref a_InvalidRow) "__getattr__" = some none)
    (gc_InvalidRow : PySem.W.findIn K (.ref a_InvalidRow) "__class__" = some (some (.builtin "object.__class__")))
    (mo_InvalidRow : PySem.W.mroIn K a_InvalidRow (.type "object") = some true)
    (ga_InvalidBoard : PySem.W.findIn K (.ref a_InvalidBoard) "__getattribute__" = some (some (.builtin "BaseException.__getattribute__")))
    (gg_InvalidBoard : PySem.W.findIn K (.ref a_InvalidBoard) "__getattr__" = some none)
    (gc_InvalidBoard : PySem.W.findIn K (.ref a_InvalidBoard) "__class__" = some (some (.builtin "object.__class__")))
    (mo_InvalidBoard : PySem.W.mroIn K a_InvalidBoard (.type "object") = some true)
    (ga_InvalidSound : PySem.W.findIn K (.ref a_InvalidSound) "__getattribute__" = some (some (.builtin "BaseException.__getattribute__")))
    (gg_InvalidSound : PySem.W.findIn K (.ref a_InvalidSound) "__getattr__" = some none)
    (gc_InvalidSound : PySem.W.findIn K (.ref a_InvalidSound) "__class__" = some (some (.builtin "object.__class__")))
    (mo_InvalidSound : PySem.W.mroIn K a_InvalidSound (.type "object") = some true)
    (ga_InvalidLot : PySem.W.findIn K (.ref a_InvalidLot) "__getattribute__" = some (some (.builtin "BaseException.__getattribute__")))
    (gg_InvalidLot : PySem.W.findIn K (.ref a_InvalidLot) "__getattr__" = some none)
    (gc_InvalidLot : PySem.W.findIn K (.ref a_InvalidLot) "__class__" = some (some (.builtin "object.__class__")))
    (mo_InvalidLot : PySem.W.mroIn K a_InvalidLot (.type "object") = some true)
    (ga_InvalidWish : PySem.W.findIn K (.ref a_InvalidWish) "__getattribute__" = some (some (.builtin "BaseException.__getattribute__")))
    (gg_InvalidWish : PySem.W.findIn K (.ref a_InvalidWish) "__getattr__" = some none)
    (gc_InvalidWish : PySem.W.findIn K (.ref a_InvalidWish) "__class__" = some (some (.builtin "object.__class__")))
    (mo_InvalidWish : PySem.W.mroIn K a_InvalidWish (.type "object") = some true)
    (ga_InvalidNumber : PySem.W.findIn K (.ref a_InvalidNumber) "__getattribute__" = some (some (.builtin "BaseException.__getattribute__")))
    (gg_InvalidNumber : PySem.W.findIn K (.ref a_InvalidNumber) "__getattr__" = some none)
    (gc_InvalidNumber : PySem.W.findIn K (.ref a_InvalidNumber) "__class__" = some (some (.builtin "object.__class__")))
    (mo_InvalidNumber : PySem.W.mroIn K a_InvalidNumber (.type "object") = some true)
    (ga_InvalidFacts : PySem.W.findIn K (.ref a_InvalidFacts) "__getattribute__" = some (some (.builtin "BaseException.__getattribute__")))
    (gg_InvalidFacts : PySem.W.findIn K (.ref a_InvalidFacts) "__getattr__" = some none)
    (gc_InvalidFacts : PySem.W.findIn K (.ref a_InvalidFacts) "__class__" = some (some (.builtin "object.__class__")))
    (mo_InvalidFacts : PySem.W.mroIn K a_InvalidFacts (.type "object") = some true)
    (ga_InvalidIndex : PySem.W.findIn K (.ref a_InvalidIndex) "__getattribute__" = some (some (.builtin "BaseException.__getattribute__")))
    (gg_InvalidIndex : PySem.W.findIn K (.ref a_InvalidIndex) "__getattr__" = some none)
    (gc_InvalidIndex : PySem.W.findIn K (.ref a_InvalidIndex) "__class__" = some (some (.builtin "object.__class__")))
    (mo_InvalidIndex : PySem.W.mroIn K a_InvalidIndex (.type "object") = some true)
    (ga_NothingToUndo : PySem.W.findIn K (.ref a_NothingToUndo) "__getattribute__" = some (some (.builtin "BaseException.__getattribute__")))
    (gg_NothingToUndo : PySem.W.findIn K (.ref a_NothingToUndo) "__getattr__" = some none)
    (gc_NothingToUndo : PySem.W.findIn K (.ref a_NothingToUndo) "__class__" = some (some (.builtin "object.__class__")))
    (mo_NothingToUndo : PySem.W.mroIn K a_NothingToUndo (.type "object") = some true)
    (gc_TooMany : PySem.W.findIn K (.ref a_TooMany) "__class__" = some (some (.builtin "object.__class__")))
    (mo_TooMany : PySem.W.mroIn K a_TooMany (.type "object") = some true)
    (gc_InvalidText : PySem.W.findIn K (.ref a_InvalidText) "__class__" = some (some (.builtin "object.__class__")))
    (mo_InvalidText : PySem.W.mroIn K a_InvalidText (.type "object") = some true)
    (ki_InvalidRow_InvalidRow : PySem.W.kitOne K (.ref a_InvalidRow) (.ref a_InvalidRow) = some true)
    (ki_InvalidBoard_InvalidRow : PySem.W.kitOne K (.ref a_InvalidBoard) (.ref a_InvalidRow) = some false)
    (ki_InvalidSound_InvalidRow : PySem.W.kitOne K (.ref a_InvalidSound) (.ref a_InvalidRow) = some false)
    (ki_InvalidLot_InvalidRow : PySem.W.kitOne K (.ref a_InvalidLot) (.ref a_InvalidRow) = some false)
    (ki_InvalidWish_InvalidRow : PySem.W.kitOne K (.ref a_InvalidWish) (.ref a_InvalidRow) = some false)
    (ki_InvalidNumber_InvalidRow : PySem.W.kitOne K (.ref a_InvalidNumber) (.ref a_InvalidRow) = some false)
    (ki_InvalidFacts_InvalidRow : PySem.W.kitOne K (.ref a_InvalidFacts) (.ref a_InvalidRow) = some false)
    (ki_InvalidIndex_InvalidRow : PySem.W.kitOne K (.ref a_InvalidIndex) (.ref a_InvalidRow) = some false)
    (ki_NothingToUndo_InvalidRow : PySem.W.kitOne K (.ref a_NothingToUndo) (.ref a_InvalidRow) = some false)
    (ki_TooMany_InvalidRow : PySem.W.kitOne K (.ref a_TooMany) (.ref a_InvalidRow) = some false)
    (ki_InvalidText_InvalidRow : PySem.W.kitOne K (.ref a_InvalidText) (.ref a_InvalidRow) = some false)
    (ki_InvalidRow_InvalidBoard : PySem.W.kitOne K (.ref a_InvalidRow) (.ref a_InvalidBoard) = some false)
    (ki_InvalidBoard_InvalidBoard : PySem.W.kitOne K (.ref a_InvalidBoard) (.ref a_InvalidBoard) = some true)
    (ki_InvalidSound_InvalidBoard : PySem.W.kitOne K (.ref a_InvalidSound) (.ref a_InvalidBoard) = some false)
    (ki_InvalidLot_InvalidBoard : PySem.W.kitOne K (.ref a_InvalidLot) (.ref a_InvalidBoard) = some false)
    (ki_InvalidWish_InvalidBoard : PySem.W.kitOne K (.ref a_InvalidWish) (.ref a_InvalidBoard) = some false)
    (ki_InvalidNumber_InvalidBoard : PySem.W.kitOne K (.ref a_InvalidNumber) (.ref a_InvalidBoard) = some false)
    (ki_InvalidFacts_InvalidBoard : PySem.W.kitOne K (.ref a_InvalidFacts) (.ref a_InvalidBoard) = some false)
    (ki_InvalidIndex_InvalidBoard : PySem.W.kitOne K (.ref a_InvalidIndex) (.ref a_InvalidBoard) = some false)
    (ki_NothingToUndo_InvalidBoard : PySem.W.kitOne K (.ref a_NothingToUndo) (.ref a_InvalidBoard) = some false)
    (ki_TooMany_InvalidBoard : PySem.W.kitOne K (.ref a_TooMany) (.ref a_InvalidBoard) = some false)
    (ki_InvalidText_InvalidBoard : PySem.W.kitOne K (.ref a_InvalidText) (.ref a_InvalidBoard) = some false)
    (ki_InvalidRow_InvalidSound : PySem.W.kitOne K (.ref a_InvalidRow) (.ref a_InvalidSound) = some false)
    (ki_InvalidBoard_InvalidSound : PySem.W.kitOne K (.ref a_InvalidBoard) (.ref a_InvalidSound) = some false)
    (ki_InvalidSound_InvalidSound : PySem.W.kitOne K (.ref a_InvalidSound) (.ref a_InvalidSound) = some true)
    (ki_InvalidLot_InvalidSound : PySem.W.kitOne K (.ref a_InvalidLot) (.ref a_InvalidSound) = some false)
    (ki_InvalidWish_InvalidSound : PySem.W.kitOne K (.ref a_InvalidWish) (.ref a_InvalidSound) = some false)
    (ki_InvalidNumber_InvalidSound : PySem.W.kitOne K (.ref a_InvalidNumber) (.ref a_InvalidSound) = some false)
    (ki_InvalidFacts_InvalidSound : PySem.W.kitOne K (.ref a_InvalidFacts) (.ref a_InvalidSound) = some false)
    (ki_InvalidIndex_InvalidSound : PySem.W.kitOne K (.ref a_InvalidIndex) (.ref a_InvalidSound) = some false)
    (ki_NothingToUndo_InvalidSound : PySem.W.kitOne K (.ref a_NothingToUndo) (.ref a_InvalidSound) = some false)
    (ki_TooMany_InvalidSound : PySem.W.kitOne K (.ref a_TooMany) (.ref a_InvalidSound) = some false)
    (ki_InvalidText_InvalidSound : PySem.W.kitOne K (.ref a_InvalidText) (.ref a_InvalidSound) = some false)
    (ki_InvalidRow_InvalidLot : PySem.W.kitOne K (.ref a_InvalidRow) (.ref a_InvalidLot) = some false)
    (ki_InvalidBoard_InvalidLot : PySem.W.kitOne K (.ref a_InvalidBoard) (.ref a_InvalidLot) = some false)
    (ki_InvalidSound_InvalidLot : PySem.W.kitOne K (.ref a_InvalidSound) (.ref a_InvalidLot) = some false)
    (ki_InvalidLot_InvalidLot : PySem.W.kitOne K (.ref a_InvalidLot) (.ref a_InvalidLot) = some true)
    (ki_InvalidWish_InvalidLot : PySem.W.kitOne K (.ref a_InvalidWish) (.ref a_InvalidLot) = some false)
    (ki_InvalidNumber_InvalidLot : PySem.W.kitOne K (.ref a_InvalidNumber) (.ref a_InvalidLot) = some false)
    (ki_InvalidFacts_InvalidLot : PySem.W.kitOne K (.ref a_InvalidFacts) (.ref a_InvalidLot) = some false)
    (ki_InvalidIndex_InvalidLot : PySem.W.kitOne K (.ref a_InvalidIndex) (.ref a_InvalidLot) = some false)
    (ki_NothingToUndo_InvalidLot : PySem.W.kitOne K (.ref a_NothingToUndo) (.ref a_InvalidLot) = some false)
    (ki_TooMany_InvalidLot : PySem.W.kitOne K (.ref a_TooMany) (.ref a_InvalidLot) = some false)
    (ki_InvalidText_InvalidLot : PySem.W.kitOne K (.ref a_InvalidText) (.ref a_InvalidLot) = some false)
    (ki_InvalidRow_InvalidWish : PySem.W.kitOne K (.ref a_InvalidRow) (.ref a_InvalidWish) = some false)
    (ki_InvalidBoard_InvalidWish : PySem.W.kitOne K (.ref a_InvalidBoard) (.ref a_InvalidWish) = some false)
    (ki_InvalidSound_InvalidWish : PySem.W.kitOne K (.ref a_InvalidSound) (.ref a_InvalidWish) = some false)
    (ki_InvalidLot_InvalidWish : PySem.W.kitOne K (.ref a_InvalidLot) (.ref a_InvalidWish) = some false)
    (ki_InvalidWish_InvalidWish : PySem.W.kitOne K (.ref a_InvalidWish) (.ref a_InvalidWish) = some true)
    (ki_InvalidNumber_InvalidWish : PySem.W.kitOne K (.ref a_InvalidNumber) (.ref a_InvalidWish) = some false)
    (ki_InvalidFacts_InvalidWish : PySem.W.kitOne K (.ref a_InvalidFacts) (.ref a_InvalidWish) = some false)
    (ki_InvalidIndex_InvalidWish : PySem.W.kitOne K (.ref a_InvalidIndex) (.ref a_InvalidWish) = some false)
    (ki_NothingToUndo_InvalidWish : PySem.W.kitOne K (.ref a_NothingToUndo) (.ref a_InvalidWish) = some false)
    (ki_TooMany_InvalidWish : PySem.W.kitOne K (.ref a_TooMany) (.ref a_InvalidWish) = some false)
    (ki_InvalidText_InvalidWish : PySem.W.kitOne K (.ref a_InvalidText) (.ref a_InvalidWish) = some false)
    (ki_InvalidRow_InvalidNumber : PySem.W.kitOne K (.ref a_InvalidRow) (.ref a_InvalidNumber) = some false)
    (ki_InvalidBoard_InvalidNumber : PySem.W.kitOne K (.ref a_InvalidBoard) (.ref a_InvalidNumber) = some false)
    (ki_InvalidSound_InvalidNumber : PySem.W.kitOne K (.ref a_InvalidSound) (.ref a_InvalidNumber) = some false)
    (ki_InvalidLot_InvalidNumber : PySem.W.kitOne K (.ref a_InvalidLot) (.ref a_InvalidNumber) = some false)
    (ki_InvalidWish_InvalidNumber : PySem.W.kitOne K (.ref a_InvalidWish) (.ref a_InvalidNumber) = some false)
    (ki_InvalidNumber_InvalidNumber : PySem.W.kitOne K (.ref a_InvalidNumber) (.ref a_InvalidNumber) = some true)
    (ki_InvalidFacts_InvalidNumber : PySem.W.kitOne K (.ref a_InvalidFacts) (.ref a_InvalidNumber) = some false)
    (ki_InvalidIndex_InvalidNumber : PySem.W.kitOne K (.ref a_InvalidIndex) (.ref a_InvalidNumber) = some false)
    (ki_NothingToUndo_InvalidNumber : PySem.W.kitOne K (.ref a_NothingToUndo) (.ref a_InvalidNumber) = some false)
    (ki_TooMany_InvalidNumber : PySem.W.kitOne K (.ref a_TooMany) (.ref a_InvalidNumber) = some false)
    (ki_InvalidText_InvalidNumber : PySem.W.kitOne K (.ref a_InvalidText) (.ref a_InvalidNumber) = some false)
    (ki_InvalidRow_InvalidFacts : PySem.W.kitOne K (.ref a_InvalidRow) (.ref a_InvalidFacts) = some false)
    (ki_InvalidBoard_InvalidFacts : PySem.W.kitOne K (.ref a_InvalidBoard) (.ref a_InvalidFacts) = some false)
    (ki_InvalidSound_InvalidFacts : PySem.W.kitOne K (.ref a_InvalidSound) (.ref a_InvalidFacts) = some false)
    (ki_InvalidLot_InvalidFacts : PySem.W.kitOne K (.ref a_InvalidLot) (.ref a_InvalidFacts) = some false)
    (ki_InvalidWish_InvalidFacts : PySem.W.kitOne K (.ref a_InvalidWish) (.ref a_InvalidFacts) = some false)
    (ki_InvalidNumber_InvalidFacts : PySem.W.kitOne K (.ref a_InvalidNumber) (.ref a_InvalidFacts) = some false)
    (ki_InvalidFacts_InvalidFacts : PySem.W.kitOne K (.ref a_InvalidFacts) (.ref a_InvalidFacts) = some true)
    (ki_InvalidIndex_InvalidFacts : PySem.W.kitOne K (.ref a_InvalidIndex) (.ref a_InvalidFacts) = some false)
    (ki_NothingToUndo_InvalidFacts : PySem.W.kitOne K (.ref a_NothingToUndo) (.ref a_InvalidFacts) = some false)
    (ki_TooMany_InvalidFacts : PySem.W.kitOne K (.ref a_TooMany) (.ref a_InvalidFacts) = some false)
    (ki_InvalidText_InvalidFacts : PySem.W.kitOne K (.ref a_InvalidText) (.ref a_InvalidFacts) = some false)
    (ki_InvalidRow_InvalidIndex : PySem.W.kitOne K (.ref a_InvalidRow) (.ref a_InvalidIndex) = some false)
    (ki_InvalidBoard_InvalidIndex : PySem.W.kitOne K (.ref a_InvalidBoard) (.ref a_InvalidIndex) = some false)
    (ki_InvalidSound_InvalidIndex : PySem.W.kitOne K (.ref a_InvalidSound) (.ref a_InvalidIndex) = some false)
    (ki_InvalidLot_InvalidIndex : PySem.W.kitOne K (.ref a_InvalidLot) (.ref a_InvalidIndex) = some false)
    (ki_InvalidWish_InvalidIndex : PySem.W.kitOne K (.ref a_InvalidWish) (.ref a_InvalidIndex) = some false)
    (ki_InvalidNumber_InvalidIndex : PySem.W.kitOne K (.ref a_InvalidNumber) (.ref a_InvalidIndex) = some false)
    (ki_InvalidFacts_InvalidIndex : PySem.W.kitOne K (.ref a_InvalidFacts) (.ref a_InvalidIndex) = some false)
    (ki_InvalidIndex_InvalidIndex : PySem.W.kitOne K (.ref a_InvalidIndex) (.ref a_InvalidIndex) = some true)
    (ki_NothingToUndo_InvalidIndex : PySem.W.kitOne K (.ref a_NothingToUndo) (.ref a_InvalidIndex) = some false)
    (ki_TooMany_InvalidIndex : PySem.W.kitOne K (.ref a_TooMany) (.ref a_InvalidIndex) = some false)
    (ki_InvalidText_InvalidIndex : PySem.W.kitOne K (.ref a_InvalidText) (.ref a_InvalidIndex) = some false)
    (ki_InvalidRow_NothingToUndo : PySem.W.kitOne K (.ref a_InvalidRow) (.ref a_NothingToUndo) = some false)
    (ki_InvalidBoard_NothingToUndo : PySem.W.kitOne K (.ref a_InvalidBoard) (.ref a_NothingToUndo) = some false)
    (ki_InvalidSound_NothingToUndo : PySem.W.kitOne K (.ref a_InvalidSound) (.ref a_NothingToUndo) = some false)
    (ki_InvalidLot_NothingToUndo : PySem.W.kitOne K (.ref a_InvalidLot) (.ref a_NothingToUndo) = some false)
    (ki_InvalidWish_NothingToUndo : PySem.W.kitOne K (.ref a_InvalidWish) (.ref a_NothingToUndo) = some false)
    (ki_InvalidNumber_NothingToUndo : PySem.W.kitOne K (.ref a_InvalidNumber) (.ref a_NothingToUndo) = some false)
    (ki_InvalidFacts_NothingToUndo : PySem.W.kitOne K (.ref a_InvalidFacts) (.ref a_NothingToUndo) = some false)
    (ki_InvalidIndex_NothingToUndo : PySem.W.kitOne K (.ref a_InvalidIndex) (.ref a_NothingToUndo) = some false)
    (ki_NothingToUndo_NothingToUndo : PySem.W.kitOne K (.ref a_NothingToUndo) (.ref a_NothingToUndo) = some true)
    (ki_TooMany_NothingToUndo : PySem.W.kitOne K (.ref a_TooMany) (.ref a_NothingToUndo) = some false)
    (ki_InvalidText_NothingToUndo : PySem.W.kitOne K (.ref a_InvalidText) (.ref a_NothingToUndo) = some false)
    (ki_InvalidRow_TooMany : PySem.W.kitOne K (.ref a_InvalidRow) (.ref a_TooMany) = some false)
    (ki_InvalidBoard_TooMany : PySem.W.kitOne K (.ref a_InvalidBoard) (.ref a_TooMany) = some false)
    (ki_InvalidSound_TooMany : PySem.W.kitOne K (.ref a_InvalidSound) (.ref a_TooMany) = some false)
    (ki_InvalidLot_TooMany : PySem.W.kitOne K (.ref a_InvalidLot) (.ref a_TooMany) = some false)
    (ki_InvalidWish_TooMany : PySem.W.kitOne K (.ref a_InvalidWish) (.ref a_TooMany) = some false)
    (ki_InvalidNumber_TooMany : PySem.W.kitOne K (.ref a_InvalidNumber) (.ref a_TooMany) = some false)
    (ki_InvalidFacts_TooMany : PySem.W.kitOne K (.ref a_InvalidFacts) (.ref a_TooMany) = some false)
    (ki_InvalidIndex_TooMany : PySem.W.kitOne K (.ref a_InvalidIndex) (.ref a_TooMany) = some false)
    (ki_NothingToUndo_TooMany : PySem.W.kitOne K (.ref a_NothingToUndo) (.ref a_TooMany) = some false)
    (ki_TooMany_TooMany : PySem.W.kitOne K (.ref a_TooMany) (.ref a_TooMany) = some true)
    (ki_InvalidText_TooMany : PySem.W.kitOne K (.ref a_InvalidText) (.ref a_TooMany) = some false)
    (ki_InvalidRow_InvalidText : PySem.W.kitOne K (.ref a_InvalidRow) (.ref a_InvalidText) = some false)
    (ki_InvalidBoard_InvalidText : PySem.W.kitOne K (.ref a_InvalidBoard) (.ref a_InvalidText) = some false)
    (ki_InvalidSound_InvalidText : PySem.W.kitOne K (.ref a_InvalidSound) (.ref a_InvalidText) = some false)
    (ki_InvalidLot_InvalidText : PySem.W.kitOne K (.ref a_InvalidLot) (.ref a_InvalidText) = some false)
    (ki_InvalidWish_InvalidText : PySem.W.kitOne K (.ref a_InvalidWish) (.ref a_InvalidText) = some false)
    (ki_InvalidNumber_InvalidText : PySem.W.kitOne K (.ref a_InvalidNumber) (.ref a_InvalidText) = some false)
    (ki_InvalidFacts_InvalidText : PySem.W.kitOne K (.ref a_InvalidFacts) (.ref a_InvalidText) = some false)
    (ki_InvalidIndex_InvalidText : PySem.W.kitOne K (.ref a_InvalidIndex) (.ref a_InvalidText) = some false)
    (ki_NothingToUndo_InvalidText : PySem.W.kitOne K (.ref a_NothingToUndo) (.ref a_InvalidText) = some false)
    (ki_TooMany_InvalidText : PySem.W.kitOne K (.ref a_TooMany) (.ref a_InvalidText) = some false)
    (ki_InvalidText_InvalidText : PySem.W.kitOne K (.ref a_InvalidText) (.ref a_InvalidText) = some true)
    (ki_InvalidRow_PedalError : PySem.W.kitOne K (.ref a_InvalidRow) (.ref a_PedalError) = some true)
    (ki_InvalidBoard_PedalError : PySem.W.kitOne K (.ref a_InvalidBoard) (.ref a_PedalError) = some true)
    (ki_InvalidSound_PedalError : PySem.W.kitOne K (.ref a_InvalidSound) (.ref a_PedalError) = some true)
    (ki_InvalidLot_PedalError : PySem.W.kitOne K (.ref a_InvalidLot) (.ref a_PedalError) = some true)
    (ki_InvalidWish_PedalError : PySem.W.kitOne K (.ref a_InvalidWish) (.ref a_PedalError) = some true)
    (ki_InvalidNumber_PedalError : PySem.W.kitOne K (.ref a_InvalidNumber) (.ref a_PedalError) = some true)
    (ki_InvalidFacts_PedalError : PySem.W.kitOne K (.ref a_InvalidFacts) (.ref a_PedalError) = some true)
    (ki_InvalidIndex_PedalError : PySem.W.kitOne K (.ref a_InvalidIndex) (.ref a_PedalError) = some true)
    (ki_NothingToUndo_PedalError : PySem.W.kitOne K (.ref a_NothingToUndo) (.ref a_PedalError) = some true)
    (ki_TooMany_PedalError : PySem.W.kitOne K (.ref a_TooMany) (.ref a_PedalError) = some true)
    (ki_InvalidText_PedalError : PySem.W.kitOne K (.ref a_InvalidText) (.ref a_PedalError) = some true)
    (ki_InvalidRow_ValueError : PySem.W.kitOne K (.ref a_InvalidRow) (.type "ValueError") = some true)
    (ki_InvalidBoard_ValueError : PySem.W.kitOne K (.ref a_InvalidBoard) (.type "ValueError") = some true)
    (ki_InvalidSound_ValueError : PySem.W.kitOne K (.ref a_InvalidSound) (.type "ValueError") = some true)
    (ki_InvalidLot_ValueError : PySem.W.kitOne K (.ref a_InvalidLot) (.type "ValueError") = some true)
    (ki_InvalidWish_ValueError : PySem.W.kitOne K (.ref a_InvalidWish) (.type "ValueError") = some true)
    (ki_InvalidNumber_ValueError : PySem.W.kitOne K (.ref a_InvalidNumber) (.type "ValueError") = some true)
    (ki_InvalidFacts_ValueError : PySem.W.kitOne K (.ref a_InvalidFacts) (.type "ValueError") = some true)
    (ki_InvalidIndex_ValueError : PySem.W.kitOne K (.ref a_InvalidIndex) (.type "ValueError") = some true)
    (ki_NothingToUndo_ValueError : PySem.W.kitOne K (.ref a_NothingToUndo) (.type "ValueError") = some true)
    (ki_TooMany_ValueError : PySem.W.kitOne K (.ref a_TooMany) (.type "ValueError") = some true)
    (ki_InvalidText_ValueError : PySem.W.kitOne K (.ref a_InvalidText) (.type "ValueError") = some true)
    : ∃ fd : FuncData, (∀ (s : Shared) (u : Value), BindsTo s fd ⟨[u], []⟩ [("script", u)]) ∧ ∀ base : Heap, K.In base → base.Ns mainGlobals mg → FnOk P w K mg base CX0 3 fa fd ["script"] (spD K 1 fun ws μ => noex (g_law_19 ws μ)) := by
  have T : Txt P K w mg a_InvalidRow a_InvalidBoard a_InvalidSound a_InvalidLot a_InvalidWish a_InvalidNumber a_InvalidFacts a_InvalidIndex a_NothingToUndo a_TooMany a_InvalidText a_PedalError := ⟨PySem.W.mg_none_of X G z_ValueError, PySem.W.mg_none_of X G z_abs, PySem.W.mg_none_of X G z_int, PySem.W.mg_none_of X G z_isinstance, PySem.W.mg_none_of X G z_len, PySem.W.mg_none_of X G z_max, PySem.W.mg_none_of X G z_min, PySem.W.mg_none_of X G z_range, ⟨PySem.W.mg_of X G y_InvalidRow, clsV_mk y_InvalidRow, eq_InvalidRow, ek_InvalidRow, es_InvalidRow, et_InvalidRow⟩, clsV_mg X G y_InvalidRow, ⟨PySem.W.mg_of X G y_InvalidBoard, clsV_mk y_InvalidBoard, eq_InvalidBoard, ek_InvalidBoard, es_InvalidBoard, et_InvalidBoard⟩, clsV_mg X G y_InvalidBoard, ⟨PySem.W.mg_of X G y_InvalidSound, clsV_mk y_InvalidSound, eq_InvalidSound, ek_InvalidSound, es_InvalidSound, et_InvalidSound⟩, clsV_mg X G y_InvalidSound, ⟨PySem.W.mg_of X G y_InvalidLot, clsV_mk y_InvalidLot, eq_InvalidLot, ek_InvalidLot, es_InvalidLot, et_InvalidLot⟩, clsV_mg X G y_InvalidLot, ⟨PySem.W.mg_of X G y_InvalidWish, clsV_mk y_InvalidWish, eq_InvalidWish, ek_InvalidWish, es_InvalidWish, et_InvalidWish⟩, clsV_mg X G y_InvalidWish, ⟨PySem.W.mg_of X G y_InvalidNumber, clsV_mk y_InvalidNumber, eq_InvalidNumber, ek_InvalidNumber, es_InvalidNumber, et_InvalidNumber⟩, clsV_mg X G y_InvalidNumber, ⟨PySem.W.mg_of X G y_InvalidFacts, clsV_mk y_InvalidFacts, eq_InvalidFacts, ek_InvalidFacts, es_InvalidFacts, et_InvalidFacts⟩, clsV_mg X G y_InvalidFacts, ⟨PySem.W.mg_of X G y_InvalidIndex, clsV_mk y_InvalidIndex, eq_InvalidIndex, ek_InvalidIndex, es_InvalidIndex, et_InvalidIndex⟩, clsV_mg X G y_InvalidIndex, ⟨PySem.W.mg_of X G y_NothingToUndo, clsV_mk y_NothingToUndo, eq_NothingToUndo, ek_NothingToUndo, es_NothingToUndo, et_NothingToUndo⟩, clsV_mg X G y_NothingToUndo, ⟨PySem.W.mg_of X G y_TooMany, clsV_mk y_TooMany, ⟨⟨nm_TooMany, qn_TooMany, N_TooMany, bs_TooMany, _, sn_TooMany, sub_TooMany, ab_TooMany, col_TooMany, dd_TooMany, m0_TooMany, m1_TooMany, m2_TooMany, m3_TooMany, m5_TooMany, xl_TooMany, rfl⟩, sa_TooMany, es_TooMany, et_TooMany, ek_TooMany⟩, ⟨ga_TooMany, gg_TooMany, es_TooMany, eh_TooMany⟩, nf_TooMany, ⟨fI_TooMany, fi_TooMany, ft_TooMany, _, _, _, _, _, _, _, _, _, _, _, _, _, _, _, _, _, _, _, _, _, _, _, _, _, _, _, fl_TooMany, fc_TooMany, ⟨_, _, _, _, _, _, cd_TooMany, cv_TooMany, cf_TooMany⟩, _, _, _, cl_TooMany⟩, ms_TooMany, z_super, z_top, z_tp, su_TooMany, sv_TooMany⟩, clsV_mg X G y_TooMany, ⟨clsV_mk y_TooMany, ⟨ga_TooMany, gg_TooMany, es_TooMany, eh_TooMany⟩, nf_TooMany⟩, ⟨PySem.W.mg_of X G y_InvalidText, clsV_mk y_InvalidText, ⟨⟨nm_InvalidText, qn_InvalidText, N_InvalidText, bs_InvalidText, _, sn_InvalidText, sub_InvalidText, ab_InvalidText, col_InvalidText, dd_InvalidText, m0_InvalidText, m1_InvalidText, m2_InvalidText, m3_InvalidText, m5_InvalidText, xl_InvalidText, rfl⟩, sa_InvalidText, es_InvalidText, et_InvalidText, ek_InvalidText⟩, ⟨ga_InvalidText, gg_InvalidText, es_InvalidText, eh_InvalidText⟩, nf_InvalidText, ⟨fI_InvalidText, fi_InvalidText, ft_InvalidText, _, _, _, _, _, _, _, _, _, _, _, _, _, _, _, _, _, _, _, _, _, _, _, _, _, _, _, fl_InvalidText, fc_InvalidText, ⟨_, _, _, _, _, _, cd_InvalidText, cv_InvalidText, cf_InvalidText⟩, _, _, _, cl_InvalidText⟩, ms_InvalidText, z_super, z_top, z_tp, su_InvalidText, sv_InvalidText⟩, clsV_mg X G y_InvalidText, ⟨clsV_mk y_InvalidText, ⟨ga_InvalidText, gg_InvalidText, es_InvalidText, eh_InvalidText⟩, nf_InvalidText⟩, ⟨PySem.W.mg_of X G y_PedalError, clsV_mk y_PedalError, eq_PedalError, ek_PedalError, es_PedalError, et_PedalError⟩, clsV_mg X G y_PedalError, clsV_mk y_InvalidRow, (fun u h => h.trans (clsV_mk y_InvalidRow).symm), ⟨fun x hx => by
    simp only [cs_19, List.mem_cons, List.mem_nil_iff, or_false] at hx
    rcases hx with rfl | rfl | rfl | rfl | rfl | rfl | rfl | rfl | rfl | rfl | rfl
    · exact ⟨_, clsV_mk y_InvalidRow, ⟨ga_InvalidRow, gg_InvalidRow, es_InvalidRow, eh_InvalidRow, gc_InvalidRow, zc_n, zc_t, mo_InvalidRow⟩, by rw [clsV_mk y_InvalidRow]; exact ki_InvalidRow_InvalidRow⟩
    · exact ⟨_, clsV_mk y_InvalidBoard, ⟨ga_InvalidBoard, gg_InvalidBoard, es_InvalidBoard, eh_InvalidBoard, gc_InvalidBoard, zc_n, zc_t, mo_InvalidBoard⟩, by rw [clsV_mk y_InvalidRow]; exact ki_InvalidBoard_InvalidRow⟩
    · exact ⟨_, clsV_mk y_InvalidSound, ⟨ga_InvalidSound, gg_InvalidSound, es_InvalidSound, eh_InvalidSound, gc_InvalidSound, zc_n, zc_t, mo_InvalidSound⟩, by rw [clsV_mk y_InvalidRow]; exact ki_InvalidSound_InvalidRow⟩
    · exact ⟨_, clsV_mk y_InvalidLot, ⟨ga_InvalidLot, gg_InvalidLot, es_InvalidLot, eh_InvalidLot, gc_InvalidLot, zc_n, zc_t, mo_InvalidLot⟩, by rw [clsV_mk y_InvalidRow]; exact ki_InvalidLot_InvalidRow⟩
    · exact ⟨_, clsV_mk y_InvalidWish, ⟨ga_InvalidWish, gg_InvalidWish, es_InvalidWish, eh_InvalidWish, gc_InvalidWish, zc_n, zc_t, mo_InvalidWish⟩, by rw [clsV_mk y_InvalidRow]; exact ki_InvalidWish_InvalidRow⟩
    · exact ⟨_, clsV_mk y_InvalidNumber, ⟨ga_InvalidNumber, gg_InvalidNumber, es_InvalidNumber, eh_InvalidNumber, gc_InvalidNumber, zc_n, zc_t, mo_InvalidNumber⟩, by rw [clsV_mk y_InvalidRow]; exact ki_InvalidNumber_InvalidRow⟩
    · exact ⟨_, clsV_mk y_InvalidFacts, ⟨ga_InvalidFacts, gg_InvalidFacts, es_InvalidFacts, eh_InvalidFacts, gc_InvalidFacts, zc_n, zc_t, mo_InvalidFacts⟩, by rw [clsV_mk y_InvalidRow]; exact ki_InvalidFacts_InvalidRow⟩
    · exact ⟨_, clsV_mk y_InvalidIndex, ⟨ga_InvalidIndex, gg_InvalidIndex, es_InvalidIndex, eh_InvalidIndex, gc_InvalidIndex, zc_n, zc_t, mo_InvalidIndex⟩, by rw [clsV_mk y_InvalidRow]; exact ki_InvalidIndex_InvalidRow⟩
    · exact ⟨_, clsV_mk y_NothingToUndo, ⟨ga_NothingToUndo, gg_NothingToUndo, es_NothingToUndo, eh_NothingToUndo, gc_NothingToUndo, zc_n, zc_t, mo_NothingToUndo⟩, by rw [clsV_mk y_InvalidRow]; exact ki_NothingToUndo_InvalidRow⟩
    · exact ⟨_, clsV_mk y_TooMany, ⟨ga_TooMany, gg_TooMany, es_TooMany, eh_TooMany, gc_TooMany, zc_n, zc_t, mo_TooMany⟩, by rw [clsV_mk y_InvalidRow]; exact ki_TooMany_InvalidRow⟩
    · exact ⟨_, clsV_mk y_InvalidText, ⟨ga_InvalidText, gg_InvalidText, es_InvalidText, eh_InvalidText, gc_InvalidText, zc_n, zc_t, mo_InvalidText⟩, by rw [clsV_mk y_InvalidRow]; exact ki_InvalidText_InvalidRow⟩⟩, clsV_mk y_InvalidBoard, (fun u h => h.trans (clsV_mk y_InvalidBoard).symm), ⟨fun x hx => by
    simp only [cs_19, List.mem_cons, List.mem_nil_iff, or_false] at hx
    rcases hx with rfl | rfl | rfl | rfl | rfl | rfl | rfl | rfl | rfl | rfl | rfl
    · exact ⟨_, clsV_mk y_InvalidRow, ⟨ga_InvalidRow, gg_InvalidRow, es_InvalidRow, eh_InvalidRow, gc_InvalidRow, zc_n, zc_t, mo_InvalidRow⟩, by rw [clsV_mk y_InvalidBoard]; exact ki_InvalidRow_InvalidBoard⟩
    · exact ⟨_, clsV_mk y_InvalidBoard, ⟨ga_InvalidBoard, gg_InvalidBoard, es_InvalidBoard, eh_InvalidBoard, gc_InvalidBoard, zc_n, zc_t, mo_InvalidBoard⟩, by rw [clsV_mk y_InvalidBoard]; exact ki_InvalidBoard_InvalidBoard⟩
    · exact ⟨_, clsV_mk y_InvalidSound, ⟨ga_InvalidSound, gg_InvalidSound, es_InvalidSound, eh_InvalidSound, gc_InvalidSound, zc_n, zc_t, mo_InvalidSound⟩, by rw [clsV_mk y_InvalidBoard]; exact ki_InvalidSound_InvalidBoard⟩
    · exact ⟨_, clsV_mk y_InvalidLot, ⟨ga_InvalidLot, gg_InvalidLot, es_InvalidLot, eh_InvalidLot, gc_InvalidLot, zc_n, zc_t, mo_InvalidLot⟩, by rw [clsV_mk y_InvalidBoard]; exact ki_InvalidLot_InvalidBoard⟩
    · exact ⟨_, clsV_mk y_InvalidWish, ⟨ga_InvalidWish, gg_InvalidWish, es_InvalidWish, eh_InvalidWish, gc_InvalidWish, zc_n, zc_t, mo_InvalidWish⟩, by rw [clsV_mk y_InvalidBoard]; exact ki_InvalidWish_InvalidBoard⟩
    · exact ⟨_, clsV_mk y_InvalidNumber, ⟨ga_InvalidNumber, gg_InvalidNumber, es_InvalidNumber, eh_InvalidNumber, gc_InvalidNumber, zc_n, zc_t, mo_InvalidNumber⟩, by rw [clsV_mk y_InvalidBoard]; exact ki_InvalidNumber_InvalidBoard⟩
    · exact ⟨_, clsV_mk y_InvalidFacts, ⟨ga_InvalidFacts, gg_InvalidFacts, es_InvalidFacts, eh_InvalidFacts, gc_InvalidFacts, zc_n, zc_t, mo_InvalidFacts⟩, by rw [clsV_mk y_InvalidBoard]; exact ki_InvalidFacts_InvalidBoard⟩
    · exact ⟨_, clsV_mk y_InvalidIndex, ⟨ga_InvalidIndex, gg_InvalidIndex, es_InvalidIndex, eh_InvalidIndex, gc_InvalidIndex, zc_n, zc_t, mo_InvalidIndex⟩, by rw [clsV_mk y_InvalidBoard]; exact ki_InvalidIndex_InvalidBoard⟩
    · exact ⟨_, clsV_mk y_NothingToUndo, ⟨ga_NothingToUndo, gg_NothingToUndo, es_NothingToUndo, eh_NothingToUndo, gc_NothingToUndo, zc_n, zc_t, mo_NothingToUndo⟩, by rw [clsV_mk y_InvalidBoard]; exact ki_NothingToUndo_InvalidBoard⟩
    · exact ⟨_, clsV_mk y_TooMany, ⟨ga_TooMany, gg_TooMany, es_TooMany, eh_TooMany, gc_TooMany, zc_n, zc_t, mo_TooMany⟩, by rw [clsV_mk y_InvalidBoard]; exact ki_TooMany_InvalidBoard⟩
    · exact ⟨_, clsV_mk y_InvalidText, ⟨ga_InvalidText, gg_InvalidText, es_InvalidText, eh_InvalidText, gc_InvalidText, zc_n, zc_t, mo_InvalidText⟩, by rw [clsV_mk y_InvalidBoard]; exact ki_InvalidText_InvalidBoard⟩⟩, clsV_mk y_InvalidSound, (fun u h => h.trans (clsV_mk y_InvalidSound).symm), ⟨fun x hx => by
    simp only [cs_19, List.mem_cons, List.mem_nil_iff, or_false] at hx
    rcases hx with rfl | rfl | rfl | rfl | rfl | rfl | rfl | rfl | rfl | rfl | rfl
    · exact ⟨_, clsV_mk y_InvalidRow, ⟨ga_InvalidRow, gg_InvalidRow, es_InvalidRow, eh_InvalidRow, gc_InvalidRow, zc_n, zc_t, mo_InvalidRow⟩, by rw [clsV_mk y_InvalidSound]; exact ki_InvalidRow_InvalidSound⟩
    · exact ⟨_, clsV_mk y_InvalidBoard, ⟨ga_InvalidBoard, gg_InvalidBoard, es_InvalidBoard, eh_InvalidBoard, gc_InvalidBoard, zc_n, zc_t, mo_InvalidBoard⟩, by rw [clsV_mk y_InvalidSound]; exact ki_InvalidBoard_InvalidSound⟩
    · exact ⟨_, clsV_mk y_InvalidSound, ⟨ga_InvalidSound, gg_InvalidSound, es_InvalidSound, eh_InvalidSound, gc_InvalidSound, zc_n, zc_t, mo_InvalidSound⟩, by rw [clsV_mk y_InvalidSound]; exact ki_InvalidSound_InvalidSound⟩
    · exact ⟨_, clsV_mk y_InvalidLot, ⟨ga_InvalidLot, gg_InvalidLot, es_InvalidLot, eh_InvalidLot, gc_InvalidLot, zc_n, zc_t, mo_InvalidLot⟩, by rw [clsV_mk y_InvalidSound]; exact ki_InvalidLot_InvalidSound⟩
    · exact ⟨_, clsV_mk y_InvalidWish, ⟨ga_InvalidWish, gg_InvalidWish, es_InvalidWish, eh_InvalidWish, gc_InvalidWish, zc_n, zc_t, mo_InvalidWish⟩, by rw [clsV_mk y_InvalidSound]; exact ki_InvalidWish_InvalidSound⟩
    · exact ⟨_, clsV_mk y_InvalidNumber, ⟨ga_InvalidNumber, gg_InvalidNumber, es_InvalidNumber, eh_InvalidNumber, gc_InvalidNumber, zc_n, zc_t, mo_InvalidNumber⟩, by rw [clsV_mk y_InvalidSound]; exact ki_InvalidNumber_InvalidSound⟩
    · exact ⟨_, clsV_mk y_InvalidFacts, ⟨ga_InvalidFacts, gg_InvalidFacts, es_InvalidFacts, eh_InvalidFacts, gc_InvalidFacts, zc_n, zc_t, mo_InvalidFacts⟩, by rw [clsV_mk y_InvalidSound]; exact ki_InvalidFacts_InvalidSound⟩
    · exact ⟨_, clsV_mk y_InvalidIndex, ⟨ga_InvalidIndex, gg_InvalidIndex, es_InvalidIndex, eh_InvalidIndex, gc_InvalidIndex, zc_n, zc_t, mo_InvalidIndex⟩, by rw [clsV_mk y_InvalidSound]; exact ki_InvalidIndex_InvalidSound⟩
    · exact ⟨_, clsV_mk y_NothingToUndo, ⟨ga_NothingToUndo, gg_NothingToUndo, es_NothingToUndo, eh_NothingToUndo, gc_NothingToUndo, zc_n, zc_t, mo_NothingToUndo⟩, by rw [clsV_mk y_InvalidSound]; exact ki_NothingToUndo_InvalidSound⟩
    · exact ⟨_, clsV_mk y_TooMany, ⟨ga_TooMany, gg_TooMany, es_TooMany, eh_TooMany, gc_TooMany, zc_n, zc_t, mo_TooMany⟩, by rw [clsV_mk y_InvalidSound]; exact ki_TooMany_InvalidSound⟩
    · exact ⟨_, clsV_mk y_InvalidText, ⟨ga_InvalidText, gg_InvalidText, es_InvalidText, eh_InvalidText, gc_InvalidText, zc_n, zc_t, mo_InvalidText⟩, by rw [clsV_mk y_InvalidSound]; exact ki_InvalidText_InvalidSound⟩⟩, clsV_mk y_InvalidLot, (fun u h => h.trans (clsV_mk y_InvalidLot).symm), ⟨fun x hx => by
    simp only [cs_19, List.mem_cons, List.mem_nil_iff, or_false] at hx
    rcases hx with rfl | rfl | rfl | rfl | rfl | rfl | rfl | rfl | rfl | rfl | rfl
    · exact ⟨_, clsV_mk y_InvalidRow, ⟨ga_InvalidRow, gg_InvalidRow, es_InvalidRow, eh_InvalidRow, gc_InvalidRow, zc_n, zc_t, mo_InvalidRow⟩, by rw [clsV_mk y_InvalidLot]; exact ki_InvalidRow_InvalidLot⟩
    · exact ⟨_, clsV_mk y_InvalidBoard, ⟨ga_InvalidBoard, gg_InvalidBoard, es_InvalidBoard, eh_InvalidBoard, gc_InvalidBoard, zc_n, zc_t, mo_InvalidBoard⟩, by rw [clsV_mk y_InvalidLot]; exact ki_InvalidBoard_InvalidLot⟩
    · exact ⟨_, clsV_mk y_InvalidSound, ⟨ga_InvalidSound, gg_InvalidSound, es_InvalidSound, eh_InvalidSound, gc_InvalidSound, zc_n, zc_t, mo_InvalidSound⟩, by rw [clsV_mk y_InvalidLot]; exact ki_InvalidSound_InvalidLot⟩
    · exact ⟨_, clsV_mk y_InvalidLot, ⟨ga_InvalidLot, gg_InvalidLot, es_InvalidLot, eh_InvalidLot, gc_InvalidLot, zc_n, zc_t, mo_InvalidLot⟩, by rw [clsV_mk y_InvalidLot]; exact ki_InvalidLot_InvalidLot⟩
    · exact ⟨_, clsV_mk y_InvalidWish, ⟨ga_InvalidWish, gg_InvalidWish, es_InvalidWish, eh_InvalidWish, gc_InvalidWish, zc_n, zc_t, mo_InvalidWish⟩, by rw [clsV_mk y_InvalidLot]; exact ki_InvalidWish_InvalidLot⟩
    · exact ⟨_, clsV_mk y_InvalidNumber, ⟨ga_InvalidNumber, gg_InvalidNumber, es_InvalidNumber, eh_InvalidNumber, gc_InvalidNumber, zc_n, zc_t, mo_InvalidNumber⟩, by rw [clsV_mk y_InvalidLot]; exact ki_InvalidNumber_InvalidLot⟩
    · exact ⟨_, clsV_mk y_InvalidFacts, ⟨ga_InvalidFacts, gg_InvalidFacts, es_InvalidFacts, eh_InvalidFacts, gc_InvalidFacts, zc_n, zc_t, mo_InvalidFacts⟩, by rw [clsV_mk y_InvalidLot]; exact ki_InvalidFacts_InvalidLot⟩
    · exact ⟨_, clsV_mk y_InvalidIndex, ⟨ga_InvalidIndex, gg_InvalidIndex, es_InvalidIndex, eh_InvalidIndex, gc_InvalidIndex, zc_n, zc_t, mo_InvalidIndex⟩, by rw [clsV_mk y_InvalidLot]; exact ki_InvalidIndex_InvalidLot⟩
    · exact ⟨_, clsV_mk y_NothingToUndo, ⟨ga_NothingToUndo, gg_NothingToUndo, es_NothingToUndo, eh_NothingToUndo, gc_NothingToUndo, zc_n, zc_t, mo_NothingToUndo⟩, by rw [clsV_mk y_InvalidLot]; exact ki_NothingToUndo_InvalidLot⟩
    · exact ⟨_, clsV_mk y_TooMany, ⟨ga_TooMany, gg_TooMany, es_TooMany, eh_TooMany, gc_TooMany, zc_n, zc_t, mo_TooMany⟩, by rw [clsV_mk y_InvalidLot]; exact ki_TooMany_InvalidLot⟩
    · exact ⟨_, clsV_mk y_InvalidText, ⟨ga_InvalidText, gg_InvalidText, es_InvalidText, eh_InvalidText, gc_InvalidText, zc_n, zc_t, mo_InvalidText⟩, by rw [clsV_mk y_InvalidLot]; exact ki_InvalidText_InvalidLot⟩⟩, clsV_mk y_InvalidWish, (fun u h => h.trans (clsV_mk y_InvalidWish).symm), ⟨fun x hx => by
    simp only [cs_19, List.mem_cons, List.mem_nil_iff, or_false] at hx
    rcases hx with rfl | rfl | rfl | rfl | rfl | rfl | rfl | rfl | rfl | rfl | rfl
    · exact ⟨_, clsV_mk y_InvalidRow, ⟨ga_InvalidRow, gg_InvalidRow, es_InvalidRow, eh_InvalidRow, gc_InvalidRow, zc_n, zc_t, mo_InvalidRow⟩, by rw [clsV_mk y_InvalidWish]; exact ki_InvalidRow_InvalidWish⟩
    · exact ⟨_, clsV_mk y_InvalidBoard, ⟨ga_InvalidBoard, gg_InvalidBoard, es_InvalidBoard, eh_InvalidBoard, gc_InvalidBoard, zc_n, zc_t, mo_InvalidBoard⟩, by rw [clsV_mk y_InvalidWish]; exact ki_InvalidBoard_InvalidWish⟩
    · exact ⟨_, clsV_mk y_InvalidSound, ⟨ga_InvalidSound, gg_InvalidSound, es_InvalidSound, eh_InvalidSound, gc_InvalidSound, zc_n, zc_t, mo_InvalidSound⟩, by rw [clsV_mk y_InvalidWish]; exact ki_InvalidSound_InvalidWish⟩
    · exact ⟨_, clsV_mk y_InvalidLot, ⟨ga_InvalidLot, gg_InvalidLot, es_InvalidLot, eh_InvalidLot, gc_InvalidLot, zc_n, zc_t, mo_InvalidLot⟩, by rw [clsV_mk y_InvalidWish]; exact ki_InvalidLot_InvalidWish⟩
    · exact ⟨_, clsV_mk y_InvalidWish, ⟨ga_InvalidWish, gg_InvalidWish, es_InvalidWish, eh_InvalidWish, gc_InvalidWish, zc_n, zc_t, mo_InvalidWish⟩, by rw [clsV_mk y_InvalidWish]; exact ki_InvalidWish_InvalidWish⟩
    · exact ⟨_, clsV_mk y_InvalidNumber, ⟨ga_InvalidNumber, gg_InvalidNumber, es_InvalidNumber, eh_InvalidNumber, gc_InvalidNumber, zc_n, zc_t, mo_InvalidNumber⟩, by rw [clsV_mk y_InvalidWish]; exact ki_InvalidNumber_InvalidWish⟩
    · exact ⟨_, clsV_mk y_InvalidFacts, ⟨ga_InvalidFacts, gg_InvalidFacts, es_InvalidFacts, eh_InvalidFacts, gc_InvalidFacts, zc_n, zc_t, mo_InvalidFacts⟩, by rw [clsV_mk y_InvalidWish]; exact ki_InvalidFacts_InvalidWish⟩
    · exact ⟨_, clsV_mk y_InvalidIndex, ⟨ga_InvalidIndex, gg_InvalidIndex, es_InvalidIndex, eh_InvalidIndex, gc_InvalidIndex, zc_n, zc_t, mo_InvalidIndex⟩, by rw [clsV_mk y_InvalidWish]; exact ki_InvalidIndex_InvalidWish⟩
    · exact ⟨_, clsV_mk y_NothingToUndo, ⟨ga_NothingToUndo, gg_NothingToUndo, es_NothingToUndo, eh_NothingToUndo, gc_NothingToUndo, zc_n, zc_t, mo_NothingToUndo⟩, by rw [clsV_mk y_InvalidWish]; exact ki_NothingToUndo_InvalidWish⟩
    · exact ⟨_, clsV_mk y_TooMany, ⟨ga_TooMany, gg_TooMany, es_TooMany, eh_TooMany, gc_TooMany, zc_n, zc_t, mo_TooMany⟩, by rw [clsV_mk y_InvalidWish]; exact ki_TooMany_InvalidWish⟩
    · exact ⟨_, clsV_mk y_InvalidText, ⟨ga_InvalidText, gg_InvalidText, es_InvalidText, eh_InvalidText, gc_InvalidText, zc_n, zc_t, mo_InvalidText⟩, by rw [clsV_mk y_InvalidWish]; exact ki_InvalidText_InvalidWish⟩⟩, clsV_mk y_InvalidNumber, (fun u h => h.trans (clsV_mk y_InvalidNumber).symm), ⟨fun x hx => by
    simp only [cs_19, List.mem_cons, List.mem_nil_iff, or_false] at hx
    rcases hx with rfl | rfl | rfl | rfl | rfl | rfl | rfl | rfl | rfl | rfl | rfl
    · exact ⟨_, clsV_mk y_InvalidRow, ⟨ga_InvalidRow, gg_InvalidRow, es_InvalidRow, eh_InvalidRow, gc_InvalidRow, zc_n, zc_t, mo_InvalidRow⟩, by rw [clsV_mk y_InvalidNumber]; exact ki_InvalidRow_InvalidNumber⟩
    · exact ⟨_, clsV_mk y_InvalidBoard, ⟨ga_InvalidBoard, gg_InvalidBoard, es_InvalidBoard, eh_InvalidBoard, gc_InvalidBoard, zc_n, zc_t, mo_InvalidBoard⟩, by rw [clsV_mk y_InvalidNumber]; exact ki_InvalidBoard_InvalidNumber⟩
    · exact ⟨_, clsV_mk y_InvalidSound, ⟨ga_InvalidSound, gg_InvalidSound, es_InvalidSound, eh_InvalidSound, gc_InvalidSound, zc_n, zc_t, mo_InvalidSound⟩, by rw [clsV_mk y_InvalidNumber]; exact ki_InvalidSound_InvalidNumber⟩
    · exact ⟨_, clsV_mk y_InvalidLot, ⟨ga_InvalidLot, gg_InvalidLot, es_InvalidLot, eh_InvalidLot, gc_InvalidLot, zc_n, zc_t, mo_InvalidLot⟩, by rw [clsV_mk y_InvalidNumber]; exact ki_InvalidLot_InvalidNumber⟩
    · exact ⟨_, clsV_mk y_InvalidWish, ⟨ga_InvalidWish, gg_InvalidWish, es_InvalidWish, eh_InvalidWish, gc_InvalidWish, zc_n, zc_t, mo_InvalidWish⟩, by rw [clsV_mk y_InvalidNumber]; exact ki_InvalidWish_InvalidNumber⟩
    · exact ⟨_, clsV_mk y_InvalidNumber, ⟨ga_InvalidNumber, gg_InvalidNumber, es_InvalidNumber, eh_InvalidNumber, gc_InvalidNumber, zc_n, zc_t, mo_InvalidNumber⟩, by rw [clsV_mk y_InvalidNumber]; exact ki_InvalidNumber_InvalidNumber⟩
    · exact ⟨_, clsV_mk y_InvalidFacts, ⟨ga_InvalidFacts, gg_InvalidFacts, es_InvalidFacts, eh_InvalidFacts, gc_InvalidFacts, zc_n, zc_t, mo_InvalidFacts⟩, by rw [clsV_mk y_InvalidNumber]; exact ki_InvalidFacts_InvalidNumber⟩
    · exact ⟨_, clsV_mk y_InvalidIndex, ⟨ga_InvalidIndex, gg_InvalidIndex, es_InvalidIndex, eh_InvalidIndex, gc_InvalidIndex, zc_n, zc_t, mo_InvalidIndex⟩, by rw [clsV_mk y_InvalidNumber]; exact ki_InvalidIndex_InvalidNumber⟩
    · exact ⟨_, clsV_mk y_NothingToUndo, ⟨ga_NothingToUndo, gg_NothingToUndo, es_NothingToUndo, eh_NothingToUndo, gc_NothingToUndo, zc_n, zc_t, mo_NothingToUndo⟩, by rw [clsV_mk y_InvalidNumber]; exact ki_NothingToUndo_InvalidNumber⟩
    · exact ⟨_, clsV_mk y_TooMany, ⟨ga_TooMany, gg_TooMany, es_TooMany, eh_TooMany, gc_TooMany, zc_n, zc_t, mo_TooMany⟩, by rw [clsV_mk y_InvalidNumber]; exact ki_TooMany_InvalidNumber⟩
    · exact ⟨_, clsV_mk y_InvalidText, ⟨ga_InvalidText, gg_InvalidText, es_InvalidText, eh_InvalidText, gc_InvalidText, zc_n, zc_t, mo_InvalidText⟩, by rw [clsV_mk y_InvalidNumber]; exact ki_InvalidText_InvalidNumber⟩⟩, clsV_mk y_InvalidFacts, (fun u h => h.trans (clsV_mk y_InvalidFacts).symm), ⟨fun x hx => by
    simp only [cs_19, List.mem_cons, List.mem_nil_iff, or_false] at hx
    rcases hx with rfl | rfl | rfl | rfl | rfl | rfl | rfl | rfl | rfl | rfl | rfl
    · exact ⟨_, clsV_mk y_InvalidRow, ⟨ga_InvalidRow, gg_InvalidRow, es_InvalidRow, eh_InvalidRow, gc_InvalidRow, zc_n, zc_t, mo_InvalidRow⟩, by rw [clsV_mk y_InvalidFacts]; exact ki_InvalidRow_InvalidFacts⟩
    · exact ⟨_, clsV_mk y_InvalidBoard, ⟨ga_InvalidBoard, gg_InvalidBoard, es_InvalidBoard, eh_InvalidBoard, gc_InvalidBoard, zc_n, zc_t, mo_InvalidBoard⟩, by rw [clsV_mk y_InvalidFacts]; exact ki_InvalidBoard_InvalidFacts⟩
    · exact ⟨_, clsV_mk y_InvalidSound, ⟨ga_InvalidSound, gg_InvalidSound, es_InvalidSound, eh_InvalidSound, gc_InvalidSound, zc_n, zc_t, mo_InvalidSound⟩, by rw [clsV_mk y_InvalidFacts]; exact ki_InvalidSound_InvalidFacts⟩
    · exact ⟨_, clsV_mk y_InvalidLot, ⟨ga_InvalidLot, gg_InvalidLot, es_InvalidLot, eh_InvalidLot, gc_InvalidLot, zc_n, zc_t, mo_InvalidLot⟩, by rw [clsV_mk y_InvalidFacts]; exact ki_InvalidLot_InvalidFacts⟩
    · exact ⟨_, clsV_mk y_InvalidWish, ⟨ga_InvalidWish, gg_InvalidWish, es_InvalidWish, eh_InvalidWish, gc_InvalidWish, zc_n, zc_t, mo_InvalidWish⟩, by rw [clsV_mk y_InvalidFacts]; exact ki_InvalidWish_InvalidFacts⟩
    · exact ⟨_, clsV_mk y_InvalidNumber, ⟨ga_InvalidNumber, gg_InvalidNumber, es_InvalidNumber, eh_InvalidNumber, gc_InvalidNumber, zc_n, zc_t, mo_InvalidNumber⟩, by rw [clsV_mk y_InvalidFacts]; exact ki_InvalidNumber_InvalidFacts⟩
    · exact ⟨_, clsV_mk y_InvalidFacts, ⟨ga_InvalidFacts, gg_InvalidFacts, es_InvalidFacts, eh_InvalidFacts, gc_InvalidFacts, zc_n, zc_t, mo_InvalidFacts⟩, by rw [clsV_mk y_InvalidFacts]; exact ki_InvalidFacts_InvalidFacts⟩
    · exact ⟨_, clsV_mk y_InvalidIndex, ⟨ga_InvalidIndex, gg_InvalidIndex, es_InvalidIndex, eh_InvalidIndex, gc_InvalidIndex, zc_n, zc_t, mo_InvalidIndex⟩, by rw [clsV_mk y_InvalidFacts]; exact ki_InvalidIndex_InvalidFacts⟩
    · exact ⟨_, clsV_mk y_NothingToUndo, ⟨ga_NothingToUndo, gg_NothingToUndo, es_NothingToUndo, eh_NothingToUndo, gc_NothingToUndo, zc_n, zc_t, mo_NothingToUndo⟩, by rw [clsV_mk y_InvalidFacts]; exact ki_NothingToUndo_InvalidFacts⟩
    · exact ⟨_, clsV_mk y_TooMany, ⟨ga_TooMany, gg_TooMany, es_TooMany, eh_TooMany, gc_TooMany, zc_n, zc_t, mo_TooMany⟩, by rw [clsV_mk y_InvalidFacts]; exact ki_TooMany_InvalidFacts⟩
    · exact ⟨_, clsV_mk y_InvalidText, ⟨ga_InvalidText, gg_InvalidText, es_InvalidText, eh_InvalidText, gc_InvalidText, zc_n, zc_t, mo_InvalidText⟩, by rw [clsV_mk y_InvalidFacts]; exact ki_InvalidText_InvalidFacts⟩⟩, clsV_mk y_InvalidIndex, (fun u h => h.trans (clsV_mk y_InvalidIndex).symm), ⟨fun x hx => by
    simp only [cs_19, List.mem_cons, List.mem_nil_iff, or_false] at hx
    rcases hx with rfl | rfl | rfl | rfl | rfl | rfl | rfl | rfl | rfl | rfl | rfl
    · exact ⟨_, clsV_mk y_InvalidRow, ⟨ga_InvalidRow, gg_InvalidRow, es_InvalidRow, eh_InvalidRow, gc_InvalidRow, zc_n, zc_t, mo_InvalidRow⟩, by rw [clsV_mk y_InvalidIndex]; exact ki_InvalidRow_InvalidIndex⟩
    · exact ⟨_, clsV_mk y_InvalidBoard, ⟨ga_InvalidBoard, gg_InvalidBoard, es_InvalidBoard, eh_InvalidBoard, gc_InvalidBoard, zc_n, zc_t, mo_InvalidBoard⟩, by rw [clsV_mk y_InvalidIndex]; exact ki_InvalidBoard_InvalidIndex⟩
    · exact ⟨_, clsV_mk y_InvalidSound, ⟨ga_InvalidSound, gg_InvalidSound, es_InvalidSound, eh_InvalidSound, gc_InvalidSound, zc_n, zc_t, mo_InvalidSound⟩, by rw [clsV_mk y_InvalidIndex]; exact ki_InvalidSound_InvalidIndex⟩
    · exact ⟨_, clsV_mk y_InvalidLot, ⟨ga_InvalidLot, gg_InvalidLot, es_InvalidLot, eh_InvalidLot, gc_InvalidLot, zc_n, zc_t, mo_InvalidLot⟩, by rw [clsV_mk y_InvalidIndex]; exact ki_InvalidLot_InvalidIndex⟩
    · exact ⟨_, clsV_mk y_InvalidWish, ⟨ga_InvalidWish, gg_InvalidWish, es_InvalidWish, eh_InvalidWish, gc_InvalidWish, zc_n, zc_t, mo_InvalidWish⟩, by rw [clsV_mk y_InvalidIndex]; exact ki_InvalidWish_InvalidIndex⟩
    · exact ⟨_, clsV_mk y_InvalidNumber, ⟨ga_InvalidNumber, gg_InvalidNumber, es_InvalidNumber, eh_InvalidNumber, gc_InvalidNumber, zc_n, zc_t, mo_InvalidNumber⟩, by rw [clsV_mk y_InvalidIndex]; exact ki_InvalidNumber_InvalidIndex⟩
    · exact ⟨_, clsV_mk y_InvalidFacts, ⟨ga_InvalidFacts, gg_InvalidFacts, es_InvalidFacts, eh_InvalidFacts, gc_InvalidFacts, zc_n, zc_t, mo_InvalidFacts⟩, by rw [clsV_mk y_InvalidIndex]; exact ki_InvalidFacts_InvalidIndex⟩
    · exact ⟨_, clsV_mk y_InvalidIndex, ⟨ga_InvalidIndex, gg_InvalidIndex, es_InvalidIndex, eh_InvalidIndex, gc_InvalidIndex, zc_n, zc_t, mo_InvalidIndex⟩, by rw [clsV_mk y_InvalidIndex]; exact ki_InvalidIndex_InvalidIndex⟩
    · exact ⟨_, clsV_mk y_NothingToUndo, ⟨ga_NothingToUndo, gg_NothingToUndo, es_NothingToUndo, eh_NothingToUndo, gc_NothingToUndo, zc_n, zc_t, mo_NothingToUndo⟩, by rw [clsV_mk y_InvalidIndex]; exact ki_NothingToUndo_InvalidIndex⟩
    · exact ⟨_, clsV_mk y_TooMany, ⟨ga_TooMany, gg_TooMany, es_TooMany, eh_TooMany, gc_TooMany, zc_n, zc_t, mo_TooMany⟩, by rw [clsV_mk y_InvalidIndex]; exact ki_TooMany_InvalidIndex⟩
    · exact ⟨_, clsV_mk y_InvalidText, ⟨ga_InvalidText, gg_InvalidText, es_InvalidText, eh_InvalidText, gc_InvalidText, zc_n, zc_t, mo_InvalidText⟩, by rw [clsV_mk y_InvalidIndex]; exact ki_InvalidText_InvalidIndex⟩⟩, clsV_mk y_NothingToUndo, (fun u h => h.trans (clsV_mk y_NothingToUndo).symm), ⟨fun x hx => by
    simp only [cs_19, List.mem_cons, List.mem_nil_iff, or_false] at hx
    rcases hx with rfl | rfl | rfl | rfl | rfl | rfl | rfl | rfl | rfl | rfl | rfl
    · exact ⟨_, clsV_mk y_InvalidRow, ⟨ga_InvalidRow, gg_InvalidRow, es_InvalidRow, eh_InvalidRow, gc_InvalidRow, zc_n, zc_t, mo_InvalidRow⟩, by rw [clsV_mk y_NothingToUndo]; exact ki_InvalidRow_NothingToUndo⟩
    · exact ⟨_, clsV_mk y_InvalidBoard, ⟨ga_InvalidBoard, gg_InvalidBoard, es_InvalidBoard, eh_InvalidBoard, gc_InvalidBoard, zc_n, zc_t, mo_InvalidBoard⟩, by rw [clsV_mk y_NothingToUndo]; exact ki_InvalidBoard_NothingToUndo⟩
    · exact ⟨_, clsV_mk y_InvalidSound, ⟨ga_InvalidSound, gg_InvalidSound, es_InvalidSound, eh_InvalidSound, gc_InvalidSound, zc_n, zc_t, mo_InvalidSound⟩, by rw [clsV_mk y_NothingToUndo]; exact ki_InvalidSound_NothingToUndo⟩
    · exact ⟨_, clsV_mk y_InvalidLot, ⟨ga_InvalidLot, gg_InvalidLot, es_InvalidLot, eh_InvalidLot, gc_InvalidLot, zc_n, zc_t, mo_InvalidLot⟩, by rw [clsV_mk y_NothingToUndo]; exact ki_InvalidLot_NothingToUndo⟩
    · exact ⟨_, clsV_mk y_InvalidWish, ⟨ga_InvalidWish, gg_InvalidWish, es_InvalidWish, eh_InvalidWish, gc_InvalidWish, zc_n, zc_t, mo_InvalidWish⟩, by rw [clsV_mk y_NothingToUndo]; exact ki_InvalidWish_NothingToUndo⟩
    · exact ⟨_, clsV_mk y_InvalidNumber, ⟨ga_InvalidNumber, gg_InvalidNumber, es_InvalidNumber, eh_InvalidNumber, gc_InvalidNumber, zc_n, zc_t, mo_InvalidNumber⟩, by rw [clsV_mk y_NothingToUndo]; exact ki_InvalidNumber_NothingToUndo⟩
    · exact ⟨_, clsV_mk y_InvalidFacts, ⟨ga_InvalidFacts, gg_InvalidFacts, es_InvalidFacts, eh_InvalidFacts, gc_InvalidFacts, zc_n, zc_t, mo_InvalidFacts⟩, by rw [clsV_mk y_NothingToUndo]; exact ki_InvalidFacts_NothingToUndo⟩
    · exact ⟨_, clsV_mk y_InvalidIndex, ⟨ga_InvalidIndex, gg_InvalidIndex, es_InvalidIndex, eh_InvalidIndex, gc_InvalidIndex, zc_n, zc_t, mo_InvalidIndex⟩, by rw [clsV_mk y_NothingToUndo]; exact ki_InvalidIndex_NothingToUndo⟩
    · exact ⟨_, clsV_mk y_NothingToUndo, ⟨ga_NothingToUndo, gg_NothingToUndo, es_NothingToUndo, eh_NothingToUndo, gc_NothingToUndo, zc_n, zc_t, mo_NothingToUndo⟩, by rw [clsV_mk y_NothingToUndo]; exact ki_NothingToUndo_NothingToUndo⟩
    · exact ⟨_, clsV_mk y_TooMany, ⟨ga_TooMany, gg_TooMany, es_TooMany, eh_TooMany, gc_TooMany, zc_n, zc_t, mo_TooMany⟩, by rw [clsV_mk y_NothingToUndo]; exact ki_TooMany_NothingToUndo⟩
    · exact ⟨_, clsV_mk y_InvalidText, ⟨ga_InvalidText, gg_InvalidText, es_InvalidText, eh_InvalidText, gc_InvalidText, zc_n, zc_t, mo_InvalidText⟩, by rw [clsV_mk y_NothingToUndo]; exact ki_InvalidText_NothingToUndo⟩⟩, clsV_mk y_TooMany, (fun u h => h.trans (clsV_mk y_TooMany).symm), ⟨fun x hx => by
    simp only [cs_19, List.mem_cons, List.mem_nil_iff, or_false] at hx
    rcases hx with rfl | rfl | rfl | rfl | rfl | rfl | rfl | rfl | rfl | rfl | rfl
    · exact ⟨_, clsV_mk y_InvalidRow, ⟨ga_InvalidRow, gg_InvalidRow, es_InvalidRow, eh_InvalidRow, gc_InvalidRow, zc_n, zc_t, mo_InvalidRow⟩, by rw [clsV_mk y_TooMany]; exact ki_InvalidRow_TooMany⟩
    · exact ⟨_, clsV_mk y_InvalidBoard, ⟨ga_InvalidBoard, gg_InvalidBoard, es_InvalidBoard, eh_InvalidBoard, gc_InvalidBoard, zc_n, zc_t, mo_InvalidBoard⟩, by rw [clsV_mk y_TooMany]; exact ki_InvalidBoard_TooMany⟩
    · exact ⟨_, clsV_mk y_InvalidSound, ⟨ga_InvalidSound, gg_InvalidSound, es_InvalidSound, eh_InvalidSound, gc_InvalidSound, zc_n, zc_t, mo_InvalidSound⟩, by rw [clsV_mk y_TooMany]; exact ki_InvalidSound_TooMany⟩
    · exact ⟨_, clsV_mk y_InvalidLot, ⟨ga_InvalidLot, gg_InvalidLot, es_InvalidLot, eh_InvalidLot, gc_InvalidLot, zc_n, zc_t, mo_InvalidLot⟩, by rw [clsV_mk y_TooMany]; exact ki_InvalidLot_TooMany⟩
    · exact ⟨_, clsV_mk y_InvalidWish, ⟨ga_InvalidWish, gg_InvalidWish, es_InvalidWish, eh_InvalidWish, gc_InvalidWish, zc_n, zc_t, mo_InvalidWish⟩, by rw [clsV_mk y_TooMany]; exact ki_InvalidWish_TooMany⟩
    · exact ⟨_, clsV_mk y_InvalidNumber, ⟨ga_InvalidNumber, gg_InvalidNumber, es_InvalidNumber, eh_InvalidNumber, gc_InvalidNumber, zc_n, zc_t, mo_InvalidNumber⟩, by rw [clsV_mk y_TooMany]; exact ki_InvalidNumber_TooMany⟩
    · exact ⟨_, clsV_mk y_InvalidFacts, ⟨ga_InvalidFacts, gg_InvalidFacts, es_InvalidFacts, eh_InvalidFacts, gc_InvalidFacts, zc_n, zc_t, mo_InvalidFacts⟩, by rw [clsV_mk y_TooMany]; exact ki_InvalidFacts_TooMany⟩
    · exact ⟨_, clsV_mk y_InvalidIndex, ⟨ga_InvalidIndex, gg_InvalidIndex, es_InvalidIndex, eh_InvalidIndex, gc_InvalidIndex, zc_n, zc_t, mo_InvalidIndex⟩, by rw [clsV_mk y_TooMany]; exact ki_InvalidIndex_TooMany⟩
    · exact ⟨_, clsV_mk y_NothingToUndo, ⟨ga_NothingToUndo, gg_NothingToUndo, es_NothingToUndo, eh_NothingToUndo, gc_NothingToUndo, zc_n, zc_t, mo_NothingToUndo⟩, by rw [clsV_mk y_TooMany]; exact ki_NothingToUndo_TooMany⟩
    · exact ⟨_, clsV_mk y_TooMany, ⟨ga_TooMany, gg_TooMany, es_TooMany, eh_TooMany, gc_TooMany, zc_n, zc_t, mo_TooMany⟩, by rw [clsV_mk y_TooMany]; exact ki_TooMany_TooMany⟩
    · exact ⟨_, clsV_mk y_InvalidText, ⟨ga_InvalidText, gg_InvalidText, es_InvalidText, eh_InvalidText, gc_InvalidText, zc_n, zc_t, mo_InvalidText⟩, by rw [clsV_mk y_TooMany]; exact ki_InvalidText_TooMany⟩⟩, clsV_mk y_InvalidText, (fun u h => h.trans (clsV_mk y_InvalidText).symm), ⟨fun x hx => by
    simp only [cs_19, List.mem_cons, List.mem_nil_iff, or_false] at hx
    rcases hx with rfl | rfl | rfl | rfl | rfl | rfl | rfl | rfl | rfl | rfl | rfl
    · exact ⟨_, clsV_mk y_InvalidRow, ⟨ga_InvalidRow, gg_InvalidRow, es_InvalidRow, eh_InvalidRow, gc_InvalidRow, zc_n, zc_t, mo_InvalidRow⟩, by rw [clsV_mk y_InvalidText]; exact ki_InvalidRow_InvalidText⟩
    · exact ⟨_, clsV_mk y_InvalidBoard, ⟨ga_InvalidBoard, gg_InvalidBoard, es_InvalidBoard, eh_InvalidBoard, gc_InvalidBoard, zc_n, zc_t, mo_InvalidBoard⟩, by rw [clsV_mk y_InvalidText]; exact ki_InvalidBoard_InvalidText⟩
    · exact ⟨_, clsV_mk y_InvalidSound, ⟨ga_InvalidSound, gg_InvalidSound, es_InvalidSound, eh_InvalidSound, gc_InvalidSound, zc_n, zc_t, mo_InvalidSound⟩, by rw [clsV_mk y_InvalidText]; exact ki_InvalidSound_InvalidText⟩
    · exact ⟨_, clsV_mk y_InvalidLot, ⟨ga_InvalidLot, gg_InvalidLot, es_InvalidLot, eh_InvalidLot, gc_InvalidLot, zc_n, zc_t, mo_InvalidLot⟩, by rw [clsV_mk y_InvalidText]; exact ki_InvalidLot_InvalidText⟩
    · exact ⟨_, clsV_mk y_InvalidWish, ⟨ga_InvalidWish, gg_InvalidWish, es_InvalidWish, eh_InvalidWish, gc_InvalidWish, zc_n, zc_t, mo_InvalidWish⟩, by rw [clsV_mk y_InvalidText]; exact ki_InvalidWish_InvalidText⟩
    · exact ⟨_, clsV_mk y_InvalidNumber, ⟨ga_InvalidNumber, gg_InvalidNumber, es_InvalidNumber, eh_InvalidNumber, gc_InvalidNumber, zc_n, zc_t, mo_InvalidNumber⟩, by rw [clsV_mk y_InvalidText]; exact ki_InvalidNumber_InvalidText⟩
    · exact ⟨_, clsV_mk y_InvalidFacts, ⟨ga_InvalidFacts, gg_InvalidFacts, es_InvalidFacts, eh_InvalidFacts, gc_InvalidFacts, zc_n, zc_t, mo_InvalidFacts⟩, by rw [clsV_mk y_InvalidText]; exact ki_InvalidFacts_InvalidText⟩
    · exact ⟨_, clsV_mk y_InvalidIndex, ⟨ga_InvalidIndex, gg_InvalidIndex, es_InvalidIndex, eh_InvalidIndex, gc_InvalidIndex, zc_n, zc_t, mo_InvalidIndex⟩, by rw [clsV_mk y_InvalidText]; exact ki_InvalidIndex_InvalidText⟩
    · exact ⟨_, clsV_mk y_NothingToUndo, ⟨ga_NothingToUndo, gg_NothingToUndo, es_NothingToUndo, eh_NothingToUndo, gc_NothingToUndo, zc_n, zc_t, mo_NothingToUndo⟩, by rw [clsV_mk y_InvalidText]; exact ki_NothingToUndo_InvalidText⟩
    · exact ⟨_, clsV_mk y_TooMany, ⟨ga_TooMany, gg_TooMany, es_TooMany, eh_TooMany, gc_TooMany, zc_n, zc_t, mo_TooMany⟩, by rw [clsV_mk y_InvalidText]; exact ki_TooMany_InvalidText⟩
    · exact ⟨_, clsV_mk y_InvalidText, ⟨ga_InvalidText, gg_InvalidText, es_InvalidText, eh_InvalidText, gc_InvalidText, zc_n, zc_t, mo_InvalidText⟩, by rw [clsV_mk y_InvalidText]; exact ki_InvalidText_InvalidText⟩⟩, clsV_mk y_PedalError, (fun u h => h.trans (clsV_mk y_PedalError).symm), ⟨fun x hx => by
    simp only [cs_19, List.mem_cons, List.mem_nil_iff, or_false] at hx
    rcases hx with rfl | rfl | rfl | rfl | rfl | rfl | rfl | rfl | rfl | rfl | rfl
    · exact ⟨_, clsV_mk y_InvalidRow, ⟨ga_InvalidRow, gg_InvalidRow, es_InvalidRow, eh_InvalidRow, gc_InvalidRow, zc_n, zc_t, mo_InvalidRow⟩, by rw [clsV_mk y_PedalError]; exact ki_InvalidRow_PedalError⟩
    · exact ⟨_, clsV_mk y_InvalidBoard, ⟨ga_InvalidBoard, gg_InvalidBoard, es_InvalidBoard, eh_InvalidBoard, gc_InvalidBoard, zc_n, zc_t, mo_InvalidBoard⟩, by rw [clsV_mk y_PedalError]; exact ki_InvalidBoard_PedalError⟩
    · exact ⟨_, clsV_mk y_InvalidSound, ⟨ga_InvalidSound, gg_InvalidSound, es_InvalidSound, eh_InvalidSound, gc_InvalidSound, zc_n, zc_t, mo_InvalidSound⟩, by rw [clsV_mk y_PedalError]; exact ki_InvalidSound_PedalError⟩
    · exact ⟨_, clsV_mk y_InvalidLot, ⟨ga_InvalidLot, gg_InvalidLot, es_InvalidLot, eh_InvalidLot, gc_InvalidLot, zc_n, zc_t, mo_InvalidLot⟩, by rw [clsV_mk y_PedalError]; exact ki_InvalidLot_PedalError⟩
    · exact ⟨_, clsV_mk y_InvalidWish, ⟨ga_InvalidWish, gg_InvalidWish, es_InvalidWish, eh_InvalidWish, gc_InvalidWish, zc_n, zc_t, mo_InvalidWish⟩, by rw [clsV_mk y_PedalError]; exact ki_InvalidWish_PedalError⟩
    · exact ⟨_, clsV_mk y_InvalidNumber, ⟨ga_InvalidNumber, gg_InvalidNumber, es_InvalidNumber, eh_InvalidNumber, gc_InvalidNumber, zc_n, zc_t, mo_InvalidNumber⟩, by rw [clsV_mk y_PedalError]; exact ki_InvalidNumber_PedalError⟩
    · exact ⟨_, clsV_mk y_InvalidFacts, ⟨ga_InvalidFacts, gg_InvalidFacts, es_InvalidFacts, eh_InvalidFacts, gc_InvalidFacts, zc_n, zc_t, mo_InvalidFacts⟩, by rw [clsV_mk y_PedalError]; exact ki_InvalidFacts_PedalError⟩
    · exact ⟨_, clsV_mk y_InvalidIndex, ⟨ga_InvalidIndex, gg_InvalidIndex, es_InvalidIndex, eh_InvalidIndex, gc_InvalidIndex, zc_n, zc_t, mo_InvalidIndex⟩, by rw [clsV_mk y_PedalError]; exact ki_InvalidIndex_PedalError⟩
    · exact ⟨_, clsV_mk y_NothingToUndo, ⟨ga_NothingToUndo, gg_NothingToUndo, es_NothingToUndo, eh_NothingToUndo, gc_NothingToUndo, zc_n, zc_t, mo_NothingToUndo⟩, by rw [clsV_mk y_PedalError]; exact ki_NothingToUndo_PedalError⟩
    · exact ⟨_, clsV_mk y_TooMany, ⟨ga_TooMany, gg_TooMany, es_TooMany, eh_TooMany, gc_TooMany, zc_n, zc_t, mo_TooMany⟩, by rw [clsV_mk y_PedalError]; exact ki_TooMany_PedalError⟩
    · exact ⟨_, clsV_mk y_InvalidText, ⟨ga_InvalidText, gg_InvalidText, es_InvalidText, eh_InvalidText, gc_InvalidText, zc_n, zc_t, mo_InvalidText⟩, by rw [clsV_mk y_PedalError]; exact ki_InvalidText_PedalError⟩⟩, ⟨fun x hx => by
    simp only [cs_19, List.mem_cons, List.mem_nil_iff, or_false] at hx
    rcases hx with rfl | rfl | rfl | rfl | rfl | rfl | rfl | rfl | rfl | rfl | rfl
    · exact ⟨_, clsV_mk y_InvalidRow, ⟨ga_InvalidRow, gg_InvalidRow, es_InvalidRow, eh_InvalidRow, gc_InvalidRow, zc_n, zc_t, mo_InvalidRow⟩, ki_InvalidRow_ValueError⟩
    · exact ⟨_, clsV_mk y_InvalidBoard, ⟨ga_InvalidBoard, gg_InvalidBoard, es_InvalidBoard, eh_InvalidBoard, gc_InvalidBoard, zc_n, zc_t, mo_InvalidBoard⟩, ki_InvalidBoard_ValueError⟩
    · exact ⟨_, clsV_mk y_InvalidSound, ⟨ga_InvalidSound, gg_InvalidSound, es_InvalidSound, eh_InvalidSound, gc_InvalidSound, zc_n, zc_t, mo_InvalidSound⟩, ki_InvalidSound_ValueError⟩
    · exact ⟨_, clsV_mk y_InvalidLot, ⟨ga_InvalidLot, gg_InvalidLot, es_InvalidLot, eh_InvalidLot, gc_InvalidLot, zc_n, zc_t, mo_InvalidLot⟩, ki_InvalidLot_ValueError⟩
    · exact ⟨_, clsV_mk y_InvalidWish, ⟨ga_InvalidWish, gg_InvalidWish, es_InvalidWish, eh_InvalidWish, gc_InvalidWish, zc_n, zc_t, mo_InvalidWish⟩, ki_InvalidWish_ValueError⟩
    · exact ⟨_, clsV_mk y_InvalidNumber, ⟨ga_InvalidNumber, gg_InvalidNumber, es_InvalidNumber, eh_InvalidNumber, gc_InvalidNumber, zc_n, zc_t, mo_InvalidNumber⟩, ki_InvalidNumber_ValueError⟩
    · exact ⟨_, clsV_mk y_InvalidFacts, ⟨ga_InvalidFacts, gg_InvalidFacts, es_InvalidFacts, eh_InvalidFacts, gc_InvalidFacts, zc_n, zc_t, mo_InvalidFacts⟩, ki_InvalidFacts_ValueError⟩
    · exact ⟨_, clsV_mk y_InvalidIndex, ⟨ga_InvalidIndex, gg_InvalidIndex, es_InvalidIndex, eh_InvalidIndex, gc_InvalidIndex, zc_n, zc_t, mo_InvalidIndex⟩, ki_InvalidIndex_ValueError⟩
    · exact ⟨_, clsV_mk y_NothingToUndo, ⟨ga_NothingToUndo, gg_NothingToUndo, es_NothingToUndo, eh_NothingToUndo, gc_NothingToUndo, zc_n, zc_t, mo_NothingToUndo⟩, ki_NothingToUndo_ValueError⟩
    · exact ⟨_, clsV_mk y_TooMany, ⟨ga_TooMany, gg_TooMany, es_TooMany, eh_TooMany, gc_TooMany, zc_n, zc_t, mo_TooMany⟩, ki_TooMany_ValueError⟩
    · exact ⟨_, clsV_mk y_InvalidText, ⟨ga_InvalidText, gg_InvalidText, es_InvalidText, eh_InvalidText, gc_InvalidText, zc_n, zc_t, mo_InvalidText⟩, ki_InvalidText_ValueError⟩⟩⟩
  have D__law_bag : DefAt K mg "_law_bag" s__law_bag ["script", "k"] := defAt_mk X G a0 l0 c0 k0 fun _ _ _ _ _ _ us hl => match us, hl with | [_, _], _ => rfl
  have D__law_take : DefAt K mg "_law_take" s__law_take ["bag", "many"] := defAt_mk X G a1 l1 c1 k1 fun _ _ _ _ _ _ us hl => match us, hl with | [_, _], _ => rfl
  have D__law_of : DefAt K mg "_law_of" s__law_of ["bag", "some"] := defAt_mk X G a2 l2 c2 k2 fun _ _ _ _ _ _ us hl => match us, hl with | [_, _], _ => rfl
  have D__law_all_errors : DefAt K mg "_law_all_errors" s__law_all_errors ["text", "number"] := defAt_mk X G a3 l3 c3 k3 fun _ _ _ _ _ _ us hl => match us, hl with | [_, _], _ => rfl
  have D__law_classes : DefAt K mg "_law_classes" s__law_classes ["error"] := defAt_mk X G a4 l4 c4 k4 fun _ _ _ _ _ _ us hl => match us, hl with | [_], _ => rfl
  refine law_fd hfa X G a5 l5 c5 k5 (fun _ _ _ _ _ _ _ => rfl) fun base hX hG f fd FL => ?_
  have O__law_bag : OkAt P w K mg base 1 "_law_bag" ["script", "k"] 2 g__law_bag := ok__law_bag T D__law_bag 
  have O__law_take : OkAt P w K mg base 1 "_law_take" ["bag", "many"] 2 g__law_take := ok__law_take T D__law_take 
  have O__law_of : OkAt P w K mg base 2 "_law_of" ["bag", "some"] 2 g__law_of := ok__law_of T D__law_of O__law_take
  have O__law_all_errors : OkAt P w K mg base 1 "_law_all_errors" ["text", "number"] 2 g__law_all_errors := ok__law_all_errors T D__law_all_errors 
  have O__law_classes : OkAt P w K mg base 1 "_law_classes" ["error"] 1 g__law_classes := ok__law_classes T D__law_classes 
  exact ok_law T O__law_all_errors O__law_bag O__law_classes O__law_of O__law_take FL
end W19


open PySem PySem.W PyProof.Rows
set_option maxRecDepth 100000 in
set_option maxHeartbeats 0 in
theorem PySem.Challenge.cw_pedalrows_k19_errors_and_their_classes_holds : PySem.Challenge.rw_pedalrows_k19_errors_and_their_classes.Holds := by
  w_on; o_law; k_head; (case hw => w_witness2)
  k_fill
  refine Ped.walk (l := PySem.Challenge.rw_pedalrows_k19_errors_and_their_classes) (k := 3) (g := Ped.g_law_19) rfl rfl ⟨rfl, by decide, by decide⟩ (fun w h Y => PySem.W.kIn_of Y) (fun ns _ _ => Ped.law19 ns) ?F
  case F =>
    intro w mg fa h KX G hmg
    refine' W19.all_mk KX G hmg ?a0 ?l0 ?c0 ?k0 ?a1 ?l1 ?c1 ?k1 ?a2 ?l2 ?c2 ?k2 ?a3 ?l3 ?c3 ?k3 ?a4 ?l4 ?c4 ?k4 ?a5 ?l5 ?c5 ?k5 ?z_ValueError ?z_abs ?z_int ?z_isinstance ?z_len ?z_max ?z_min ?z_range ?y_InvalidRow ?ek_InvalidRow ?es_InvalidRow ?et_InvalidRow ?eh_InvalidRow ?eq_InvalidRow ?y_InvalidBoard ?ek_InvalidBoard ?es_InvalidBoard ?et_InvalidBoard ?eh_InvalidBoard ?eq_InvalidBoard ?y_InvalidSound ?ek_InvalidSound ?es_InvalidSound ?et_InvalidSound ?eh_InvalidSound ?eq_InvalidSound ?y_InvalidLot ?ek_InvalidLot ?es_InvalidLot ?et_InvalidLot ?eh_InvalidLot ?eq_InvalidLot ?y_InvalidWish ?ek_InvalidWish ?es_InvalidWish ?et_InvalidWish ?eh_InvalidWish ?eq_InvalidWish ?y_InvalidNumber ?ek_InvalidNumber ?es_InvalidNumber ?et_InvalidNumber ?eh_InvalidNumber ?eq_InvalidNumber ?y_InvalidFacts ?ek_InvalidFacts ?es_InvalidFacts ?et_InvalidFacts ?eh_InvalidFacts ?eq_InvalidFacts ?y_InvalidIndex ?ek_InvalidIndex ?es_InvalidIndex ?et_InvalidIndex ?eh_InvalidIndex ?eq_InvalidIndex ?y_NothingToUndo ?ek_NothingToUndo ?es_NothingToUndo ?et_NothingToUndo ?eh_NothingToUndo ?eq_NothingToUndo ?y_TooMany ?ek_TooMany ?es_TooMany ?et_TooMany ?eh_TooMany ?xl_TooMany ?sa_TooMany ?ga_TooMany ?gg_TooMany ?nf_TooMany ?fi_TooMany ?ft_TooMany ?fl_TooMany ?fc_TooMany ?cd_TooMany ?cv_TooMany ?cf_TooMany ?cl_TooMany ?ms_TooMany ?sv_TooMany ?su_TooMany ?z_super ?z_top ?z_tp ?y_InvalidText ?ek_InvalidText ?es_InvalidText ?et_InvalidText ?eh_InvalidText ?xl_InvalidText ?sa_InvalidText ?ga_InvalidText ?gg_InvalidText ?nf_InvalidText ?fi_InvalidText ?ft_InvalidText ?fl_InvalidText ?fc_InvalidText ?cd_InvalidText ?cv_InvalidText ?cf_InvalidText ?cl_InvalidText ?ms_InvalidText ?sv_InvalidText ?su_InvalidText ?y_PedalError ?ek_PedalError ?es_PedalError ?et_PedalError ?eh_PedalError ?eq_PedalError ?zc_n ?zc_t ?ga_InvalidRow ?gg_InvalidRow ?gc_InvalidRow ?mo_InvalidRow ?ga_InvalidBoard ?gg_InvalidBoard ?gc_InvalidBoard ?mo_InvalidBoard ?ga_InvalidSound ?gg_InvalidSound ?gc_InvalidSound ?mo_InvalidSound ?ga_InvalidLot ?gg_InvalidLot ?gc_InvalidLot ?mo_InvalidLot ?ga_InvalidWish ?gg_InvalidWish ?gc_InvalidWish ?mo_InvalidWish ?ga_InvalidNumber ?gg_InvalidNumber ?gc_InvalidNumber ?mo_InvalidNumber ?ga_InvalidFacts ?gg_InvalidFacts ?gc_InvalidFacts ?mo_InvalidFacts ?ga_InvalidIndex ?gg_InvalidIndex ?gc_InvalidIndex ?mo_InvalidIndex ?ga_NothingToUndo ?gg_NothingToUndo ?gc_NothingToUndo ?mo_NothingToUndo ?gc_TooMany ?mo_TooMany ?gc_InvalidText ?mo_InvalidText ?ki_InvalidRow_InvalidRow ?ki_InvalidBoard_InvalidRow ?ki_InvalidSound_InvalidRow ?ki_InvalidLot_InvalidRow ?ki_InvalidWish_InvalidRow ?ki_InvalidNumber_InvalidRow ?ki_InvalidFacts_InvalidRow ?ki_InvalidIndex_InvalidRow ?ki_NothingToUndo_InvalidRow ?ki_TooMany_InvalidRow ?ki_InvalidText_InvalidRow ?ki_InvalidRow_InvalidBoard ?ki_InvalidBoard_InvalidBoard ?ki_InvalidSound_InvalidBoard ?ki_InvalidLot_InvalidBoard ?ki_InvalidWish_InvalidBoard ?ki_InvalidNumber_InvalidBoard ?ki_InvalidFacts_InvalidBoard ?ki_InvalidIndex_InvalidBoard ?ki_NothingToUndo_InvalidBoard ?ki_TooMany_InvalidBoard ?ki_InvalidText_InvalidBoard ?ki_InvalidRow_InvalidSound ?ki_InvalidBoard_InvalidSound ?ki_InvalidSound_InvalidSound ?ki_InvalidLot_InvalidSound ?ki_InvalidWish_InvalidSound ?ki_InvalidNumber_InvalidSound ?ki_InvalidFacts_InvalidSound ?ki_InvalidIndex_InvalidSound ?ki_NothingToUndo_InvalidSound ?ki_TooMany_InvalidSound ?ki_InvalidText_InvalidSound ?ki_InvalidRow_InvalidLot ?ki_InvalidBoard_InvalidLot ?ki_InvalidSound_InvalidLot ?ki_InvalidLot_InvalidLot ?ki_InvalidWish_InvalidLot ?ki_InvalidNumber_InvalidLot ?ki_InvalidFacts_InvalidLot ?ki_InvalidIndex_InvalidLot ?ki_NothingToUndo_InvalidLot ?ki_TooMany_InvalidLot ?ki_InvalidText_InvalidLot ?ki_InvalidRow_InvalidWish ?ki_InvalidBoard_InvalidWish ?ki_InvalidSound_InvalidWish ?ki_InvalidLot_InvalidWish ?ki_InvalidWish_InvalidWish ?ki_InvalidNumber_InvalidWish ?ki_InvalidFacts_InvalidWish ?ki_InvalidIndex_InvalidWish ?ki_NothingToUndo_InvalidWish ?ki_TooMany_InvalidWish ?ki_InvalidText_InvalidWish ?ki_InvalidRow_InvalidNumber ?ki_InvalidBoard_InvalidNumber ?ki_InvalidSound_InvalidNumber ?ki_InvalidLot_InvalidNumber ?ki_InvalidWish_InvalidNumber ?ki_InvalidNumber_InvalidNumber ?ki_InvalidFacts_InvalidNumber ?ki_InvalidIndex_InvalidNumber ?ki_NothingToUndo_InvalidNumber ?ki_TooMany_InvalidNumber ?ki_InvalidText_InvalidNumber ?ki_InvalidRow_InvalidFacts ?ki_InvalidBoard_InvalidFacts ?ki_InvalidSound_InvalidFacts ?ki_InvalidLot_InvalidFacts ?ki_InvalidWish_InvalidFacts ?ki_InvalidNumber_InvalidFacts ?ki_InvalidFacts_InvalidFacts ?ki_InvalidIndex_InvalidFacts ?ki_NothingToUndo_InvalidFacts ?ki_TooMany_InvalidFacts ?ki_InvalidText_InvalidFacts ?ki_InvalidRow_InvalidIndex ?ki_InvalidBoard_InvalidIndex ?ki_InvalidSound_InvalidIndex ?ki_InvalidLot_InvalidIndex ?ki_InvalidWish_InvalidIndex ?ki_InvalidNumber_InvalidIndex ?ki_InvalidFacts_InvalidIndex ?ki_InvalidIndex_InvalidIndex ?ki_NothingToUndo_InvalidIndex ?ki_TooMany_InvalidIndex ?ki_InvalidText_InvalidIndex ?ki_InvalidRow_NothingToUndo ?ki_InvalidBoard_NothingToUndo ?ki_InvalidSound_NothingToUndo ?ki_InvalidLot_NothingToUndo ?ki_InvalidWish_NothingToUndo ?ki_InvalidNumber_NothingToUndo ?ki_InvalidFacts_NothingToUndo ?ki_InvalidIndex_NothingToUndo ?ki_NothingToUndo_NothingToUndo ?ki_TooMany_NothingToUndo ?ki_InvalidText_NothingToUndo ?ki_InvalidRow_TooMany ?ki_InvalidBoard_TooMany ?ki_InvalidSound_TooMany ?ki_InvalidLot_TooMany ?ki_InvalidWish_TooMany ?ki_InvalidNumber_TooMany ?ki_InvalidFacts_TooMany ?ki_InvalidIndex_TooMany ?ki_NothingToUndo_TooMany ?ki_TooMany_TooMany ?ki_InvalidText_TooMany ?ki_InvalidRow_InvalidText ?ki_InvalidBoard_InvalidText ?ki_InvalidSound_InvalidText ?ki_InvalidLot_InvalidText ?ki_InvalidWish_InvalidText ?ki_InvalidNumber_InvalidText ?ki_InvalidFacts_InvalidText ?ki_InvalidIndex_InvalidText ?ki_NothingToUndo_InvalidText ?ki_TooMany_InvalidText ?ki_InvalidText_InvalidText ?ki_InvalidRow_PedalError ?ki_InvalidBoard_PedalError ?ki_InvalidSound_PedalError ?ki_InvalidLot_PedalError ?ki_InvalidWish_PedalError ?ki_InvalidNumber_PedalError ?ki_InvalidFacts_PedalError ?ki_InvalidIndex_PedalError ?ki_NothingToUndo_PedalError ?ki_TooMany_PedalError ?ki_InvalidText_PedalError ?ki_InvalidRow_ValueError ?ki_InvalidBoard_ValueError ?ki_InvalidSound_ValueError ?ki_InvalidLot_ValueError ?ki_InvalidWish_ValueError ?ki_InvalidNumber_ValueError ?ki_InvalidFacts_ValueError ?ki_InvalidIndex_ValueError ?ki_NothingToUndo_ValueError ?ki_TooMany_ValueError ?ki_InvalidText_ValueError
    (case a0 => k_is)
    (case l0 => k_is)
    (case c0 => k_is)
    (case k0 => k_is)
    (case a1 => k_is)
    (case l1 => k_is)
    (case c1 => k_is)
    (case k1 => k_is)
    (case a2 => k_is)
    (case l2 => k_is)
    (case c2 => k_is)
    (case k2 => k_is)
    (case a3 => k_is)
    (case l3 => k_is)
    (case c3 => k_is)
    (case k3 => k_is)
    (case a4 => k_is)
    (case l4 => k_is)
    (case c4 => k_is)
    (case k4 => k_is)
    (case a5 => k_is)
    (case l5 => k_is)
    (case c5 => k_is)
    (case k5 => k_is)
    (case z_ValueError => k_is)
    (case z_abs => k_is)
    (case z_int => k_is)
    (case z_isinstance => k_is)
    (case z_len => k_is)
    (case z_max => k_is)
    (case z_min => k_is)
    (case z_range => k_is)
    (case y_InvalidRow => k_is)
    (case ek_InvalidRow => k_is)
    (case es_InvalidRow => k_is)
    (case et_InvalidRow => k_is)
    (case eh_InvalidRow => k_is)
    (case eq_InvalidRow => k_exc)
    (case y_InvalidBoard => k_is)
    (case ek_InvalidBoard => k_is)
    (case es_InvalidBoard => k_is)
    (case et_InvalidBoard => k_is)
    (case eh_InvalidBoard => k_is)
    (case eq_InvalidBoard => k_exc)
    (case y_InvalidSound => k_is)
    (case ek_InvalidSound => k_is)
    (case es_InvalidSound => k_is)
    (case et_InvalidSound => k_is)
    (case eh_InvalidSound => k_is)
    (case eq_InvalidSound => k_exc)
    (case y_InvalidLot => k_is)
    (case ek_InvalidLot => k_is)
    (case es_InvalidLot => k_is)
    (case et_InvalidLot => k_is)
    (case eh_InvalidLot => k_is)
    (case eq_InvalidLot => k_exc)
    (case y_InvalidWish => k_is)
    (case ek_InvalidWish => k_is)
    (case es_InvalidWish => k_is)
    (case et_InvalidWish => k_is)
    (case eh_InvalidWish => k_is)
    (case eq_InvalidWish => k_exc)
    (case y_InvalidNumber => k_is)
    (case ek_InvalidNumber => k_is)
    (case es_InvalidNumber => k_is)
    (case et_InvalidNumber => k_is)
    (case eh_InvalidNumber => k_is)
    (case eq_InvalidNumber => k_exc)
    (case y_InvalidFacts => k_is)
    (case ek_InvalidFacts => k_is)
    (case es_InvalidFacts => k_is)
    (case et_InvalidFacts => k_is)
    (case eh_InvalidFacts => k_is)
    (case eq_InvalidFacts => k_exc)
    (case y_InvalidIndex => k_is)
    (case ek_InvalidIndex => k_is)
    (case es_InvalidIndex => k_is)
    (case et_InvalidIndex => k_is)
    (case eh_InvalidIndex => k_is)
    (case eq_InvalidIndex => k_exc)
    (case y_NothingToUndo => k_is)
    (case ek_NothingToUndo => k_is)
    (case es_NothingToUndo => k_is)
    (case et_NothingToUndo => k_is)
    (case eh_NothingToUndo => k_is)
    (case eq_NothingToUndo => k_exc)
    (case y_TooMany => k_is)
    (case ek_TooMany => k_is)
    (case es_TooMany => k_is)
    (case et_TooMany => k_is)
    (case eh_TooMany => k_is)
    (case xl_TooMany => k_is)
    (case sa_TooMany => k_is)
    (case ga_TooMany => k_is)
    (case gg_TooMany => k_is)
    (case nf_TooMany => k_is)
    (case fi_TooMany => k_is)
    (case ft_TooMany => k_is)
    (case fl_TooMany => k_is)
    (case fc_TooMany => k_is)
    (case cd_TooMany => k_is)
    (case cv_TooMany => exact rfl)
    (case cf_TooMany => decide +kernel)
    (case cl_TooMany => k_is)
    (case ms_TooMany => k_is)
    (case sv_TooMany => k_is)
    (case su_TooMany => first | k_is | ks_is | kernel_rfl)
    (case z_super => k_is)
    (case z_top => decide +kernel)
    (case z_tp => k_is)
    (case y_InvalidText => k_is)
    (case ek_InvalidText => k_is)
    (case es_InvalidText => k_is)
    (case et_InvalidText => k_is)
    (case eh_InvalidText => k_is)
    (case xl_InvalidText => k_is)
    (case sa_InvalidText => k_is)
    (case ga_InvalidText => k_is)
    (case gg_InvalidText => k_is)
    (case nf_InvalidText => k_is)
    (case fi_InvalidText => k_is)
    (case ft_InvalidText => k_is)
    (case fl_InvalidText => k_is)
    (case fc_InvalidText => k_is)
    (case cd_InvalidText => k_is)
    (case cv_InvalidText => exact rfl)
    (case cf_InvalidText => decide +kernel)
    (case cl_InvalidText => k_is)
    (case ms_InvalidText => k_is)
    (case sv_InvalidText => k_is)
    (case su_InvalidText => first | k_is | ks_is | kernel_rfl)
    (case y_PedalError => k_is)
    (case ek_PedalError => k_is)
    (case es_PedalError => k_is)
    (case et_PedalError => k_is)
    (case eh_PedalError => k_is)
    (case eq_PedalError => k_exc)
    (case zc_n => k_is)
    (case zc_t => k_is)
    (case ga_InvalidRow => k_is)
    (case gg_InvalidRow => k_is)
    (case gc_InvalidRow => k_is)
    (case mo_InvalidRow => k_is)
    (case ga_InvalidBoard => k_is)
    (case gg_InvalidBoard => k_is)
    (case gc_InvalidBoard => k_is)
    (case mo_InvalidBoard => k_is)
    (case ga_InvalidSound => k_is)
    (case gg_InvalidSound => k_is)
    (case gc_InvalidSound => k_is)
    (case mo_InvalidSound => k_is)
    (case ga_InvalidLot => k_is)
    (case gg_InvalidLot => k_is)
    (case gc_InvalidLot => k_is)
    (case mo_InvalidLot => k_is)
    (case ga_InvalidWish => k_is)
    (case gg_InvalidWish => k_is)
    (case gc_InvalidWish => k_is)
    (case mo_InvalidWish => k_is)
    (case ga_InvalidNumber => k_is)
    (case gg_InvalidNumber => k_is)
    (case gc_InvalidNumber => k_is)
    (case mo_InvalidNumber => k_is)
    (case ga_InvalidFacts => k_is)
    (case gg_InvalidFacts => k_is)
    (case gc_InvalidFacts => k_is)
    (case mo_InvalidFacts => k_is)
    (case ga_InvalidIndex => k_is)
    (case gg_InvalidIndex => k_is)
    (case gc_InvalidIndex => k_is)
    (case mo_InvalidIndex => k_is)
    (case ga_NothingToUndo => k_is)
    (case gg_NothingToUndo => k_is)
    (case gc_NothingToUndo => k_is)
    (case mo_NothingToUndo => k_is)
    (case gc_TooMany => k_is)
    (case mo_TooMany => k_is)
    (case gc_InvalidText => k_is)
    (case mo_InvalidText => k_is)
    (case ki_InvalidRow_InvalidRow => first | rfl | k_is | (simp; k_is) | kernel_rfl)
    (case ki_InvalidBoard_InvalidRow => first | rfl | k_is | (simp; k_is) | kernel_rfl)
    (case ki_InvalidSound_InvalidRow => first | rfl | k_is | (simp; k_is) | kernel_rfl)
    (case ki_InvalidLot_InvalidRow => first | rfl | k_is | (simp; k_is) | kernel_rfl)
    (case ki_InvalidWish_InvalidRow => first | rfl | k_is | (simp; k_is) | kernel_rfl)
    (case ki_InvalidNumber_InvalidRow => first | rfl | k_is | (simp; k_is) | kernel_rfl)
    (case ki_InvalidFacts_InvalidRow => first | rfl | k_is | (simp; k_is) | kernel_rfl)
    (case ki_InvalidIndex_InvalidRow => first | rfl | k_is | (simp; k_is) | kernel_rfl)
    (case ki_NothingToUndo_InvalidRow => first | rfl | k_is | (simp; k_is) | kernel_rfl)
    (case ki_TooMany_InvalidRow => first | rfl | k_is | (simp; k_is) | kernel_rfl)
    (case ki_InvalidText_InvalidRow => first | rfl | k_is | (simp; k_is) | kernel_rfl)
    (case ki_InvalidRow_InvalidBoard => first | rfl | k_is | (simp; k_is) | kernel_rfl)
    (case ki_InvalidBoard_InvalidBoard => first | rfl | k_is | (simp; k_is) | kernel_rfl)
    (case ki_InvalidSound_InvalidBoard => first | rfl | k_is | (simp; k_is) | kernel_rfl)
    (case ki_InvalidLot_InvalidBoard => first | rfl | k_is | (simp; k_is) | kernel_rfl)
    (case ki_InvalidWish_InvalidBoard => first | rfl | k_is | (simp; k_is) | kernel_rfl)
    (case ki_InvalidNumber_InvalidBoard => first | rfl | k_is | (simp; k_is) | kernel_rfl)
    (case ki_InvalidFacts_InvalidBoard => first | rfl | k_is | (simp; k_is) | kernel_rfl)
    (case ki_InvalidIndex_InvalidBoard => first | rfl | k_is | (simp; k_is) | kernel_rfl)
    (case ki_NothingToUndo_InvalidBoard => first | rfl | k_is | (simp; k_is) | kernel_rfl)
    (case ki_TooMany_InvalidBoard => first | rfl | k_is | (simp; k_is) | kernel_rfl)
    (case ki_InvalidText_InvalidBoard => first | rfl | k_is | (simp; k_is) | kernel_rfl)
    (case ki_InvalidRow_InvalidSound => first | rfl | k_is | (simp; k_is) | kernel_rfl)
    (case ki_InvalidBoard_InvalidSound => first | rfl | k_is | (simp; k_is) | kernel_rfl)
    (case ki_InvalidSound_InvalidSound => first | rfl | k_is | (simp; k_is) | kernel_rfl)
    (case ki_InvalidLot_InvalidSound => first | rfl | k_is | (simp; k_is) | kernel_rfl)
    (case ki_InvalidWish_InvalidSound => first | rfl | k_is | (simp; k_is) | kernel_rfl)
    (case ki_InvalidNumber_InvalidSound => first | rfl | k_is | (simp; k_is) | kernel_rfl)
    (case ki_InvalidFacts_InvalidSound => first | rfl | k_is | (simp; k_is) | kernel_rfl)
    (case ki_InvalidIndex_InvalidSound => first | rfl | k_is | (simp; k_is) | kernel_rfl)
    (case ki_NothingToUndo_InvalidSound => first | rfl | k_is | (simp; k_is) | kernel_rfl)
    (case ki_TooMany_InvalidSound => first | rfl | k_is | (simp; k_is) | kernel_rfl)
    (case ki_InvalidText_InvalidSound => first | rfl | k_is | (simp; k_is) | kernel_rfl)
    (case ki_InvalidRow_InvalidLot => first | rfl | k_is | (simp; k_is) | kernel_rfl)
    (case ki_InvalidBoard_InvalidLot => first | rfl | k_is | (simp; k_is) | kernel_rfl)
    (case ki_InvalidSound_InvalidLot => first | rfl | k_is | (simp; k_is) | kernel_rfl)
    (case ki_InvalidLot_InvalidLot => first | rfl | k_is | (simp; k_is) | kernel_rfl)
    (case ki_InvalidWish_InvalidLot => first | rfl | k_is | (simp; k_is) | kernel_rfl)
    (case ki_InvalidNumber_InvalidLot => first | rfl | k_is | (simp; k_is) | kernel_rfl)
    (case ki_InvalidFacts_InvalidLot => first | rfl | k_is | (simp; k_is) | kernel_rfl)
    (case ki_InvalidIndex_InvalidLot => first | rfl | k_is | (simp; k_is) | kernel_rfl)
    (case ki_NothingToUndo_InvalidLot => first | rfl | k_is | (simp; k_is) | kernel_rfl)
    (case ki_TooMany_InvalidLot => first | rfl | k_is | (simp; k_is) | kernel_rfl)
    (case ki_InvalidText_InvalidLot => first | rfl | k_is | (simp; k_is) | kernel_rfl)
    (case ki_InvalidRow_InvalidWish => first | rfl | k_is | (simp; k_is) | kernel_rfl)
    (case ki_InvalidBoard_InvalidWish => first | rfl | k_is | (simp; k_is) | kernel_rfl)
    (case ki_InvalidSound_InvalidWish => first | rfl | k_is | (simp; k_is) | kernel_rfl)
    (case ki_InvalidLot_InvalidWish => first | rfl | k_is | (simp; k_is) | kernel_rfl)
    (case ki_InvalidWish_InvalidWish => first | rfl | k_is | (simp; k_is) | kernel_rfl)
    (case ki_InvalidNumber_InvalidWish => first | rfl | k_is | (simp; k_is) | kernel_rfl)
    (case ki_InvalidFacts_InvalidWish => first | rfl | k_is | (simp; k_is) | kernel_rfl)
    (case ki_InvalidIndex_InvalidWish => first | rfl | k_is | (simp; k_is) | kernel_rfl)
    (case ki_NothingToUndo_InvalidWish => first | rfl | k_is | (simp; k_is) | kernel_rfl)
    (case ki_TooMany_InvalidWish => first | rfl | k_is | (simp; k_is) | kernel_rfl)
    (case ki_InvalidText_InvalidWish => first | rfl | k_is | (simp; k_is) | kernel_rfl)
    (case ki_InvalidRow_InvalidNumber => first | rfl | k_is | (simp; k_is) | kernel_rfl)
    (case ki_InvalidBoard_InvalidNumber => first | rfl | k_is | (simp; k_is) | kernel_rfl)
    (case ki_InvalidSound_InvalidNumber => first | rfl | k_is | (simp; k_is) | kernel_rfl)
    (case ki_InvalidLot_InvalidNumber => first | rfl | k_is | (simp; k_is) | kernel_rfl)
    (case ki_InvalidWish_InvalidNumber => first | rfl | k_is | (simp; k_is) | kernel_rfl)
    (case ki_InvalidNumber_InvalidNumber => first | rfl | k_is | (simp; k_is) | kernel_rfl)
    (case ki_InvalidFacts_InvalidNumber => first | rfl | k_is | (simp; k_is) | kernel_rfl)
    (case ki_InvalidIndex_InvalidNumber => first | rfl | k_is | (simp; k_is) | kernel_rfl)
    (case ki_NothingToUndo_InvalidNumber => first | rfl | k_is | (simp; k_is) | kernel_rfl)
    (case ki_TooMany_InvalidNumber => first | rfl | k_is | (simp; k_is) | kernel_rfl)
    (case ki_InvalidText_InvalidNumber => first | rfl | k_is | (simp; k_is) | kernel_rfl)
    (case ki_InvalidRow_InvalidFacts => first | rfl | k_is | (simp; k_is) | kernel_rfl)
    (case ki_InvalidBoard_InvalidFacts => first | rfl | k_is | (simp; k_is) | kernel_rfl)
    (case ki_InvalidSound_InvalidFacts => first | rfl | k_is | (simp; k_is) | kernel_rfl)
    (case ki_InvalidLot_InvalidFacts => first | rfl | k_is | (simp; k_is) | kernel_rfl)
    (case ki_InvalidWish_InvalidFacts => first | rfl | k_is | (simp; k_is) | kernel_rfl)
    (case ki_InvalidNumber_InvalidFacts => first | rfl | k_is | (simp; k_is) | kernel_rfl)
    (case ki_InvalidFacts_InvalidFacts => first | rfl | k_is | (simp; k_is) | kernel_rfl)
    (case ki_InvalidIndex_InvalidFacts => first | rfl | k_is | (simp; k_is) | kernel_rfl)
    (case ki_NothingToUndo_InvalidFacts => first | rfl | k_is | (simp; k_is) | kernel_rfl)
    (case ki_TooMany_InvalidFacts => first | rfl | k_is | (simp; k_is) | kernel_rfl)
    (case ki_InvalidText_InvalidFacts => first | rfl | k_is | (simp; k_is) | kernel_rfl)
    (case ki_InvalidRow_InvalidIndex => first | rfl | k_is | (simp; k_is) | kernel_rfl)
    (case ki_InvalidBoard_InvalidIndex => first | rfl | k_is | (simp; k_is) | kernel_rfl)
    (case ki_InvalidSound_InvalidIndex => first | rfl | k_is | (simp; k_is) | kernel_rfl)
    (case ki_InvalidLot_InvalidIndex => first | rfl | k_is | (simp; k_is) | kernel_rfl)
    (case ki_InvalidWish_InvalidIndex => first | rfl | k_is | (simp; k_is) | kernel_rfl)
    (case ki_InvalidNumber_InvalidIndex => first | rfl | k_is | (simp; k_is) | kernel_rfl)
    (case ki_InvalidFacts_InvalidIndex => first | rfl | k_is | (simp; k_is) | kernel_rfl)
    (case ki_InvalidIndex_InvalidIndex => first | rfl | k_is | (simp; k_is) | kernel_rfl)
    (case ki_NothingToUndo_InvalidIndex => first | rfl | k_is | (simp; k_is) | kernel_rfl)
    (case ki_TooMany_InvalidIndex => first | rfl | k_is | (simp; k_is) | kernel_rfl)
    (case ki_InvalidText_InvalidIndex => first | rfl | k_is | (simp; k_is) | kernel_rfl)
    (case ki_InvalidRow_NothingToUndo => first | rfl | k_is | (simp; k_is) | kernel_rfl)
    (case ki_InvalidBoard_NothingToUndo => first | rfl | k_is | (simp; k_is) | kernel_rfl)
    (case ki_InvalidSound_NothingToUndo => first | rfl | k_is | (simp; k_is) | kernel_rfl)
    (case ki_InvalidLot_NothingToUndo => first | rfl | k_is | (simp; k_is) | kernel_rfl)
    (case ki_InvalidWish_NothingToUndo => first | rfl | k_is | (simp; k_is) | kernel_rfl)
    (case ki_InvalidNumber_NothingToUndo => first | rfl | k_is | (simp; k_is) | kernel_rfl)
    (case ki_InvalidFacts_NothingToUndo => first | rfl | k_is | (simp; k_is) | kernel_rfl)
    (case ki_InvalidIndex_NothingToUndo => first | rfl | k_is | (simp; k_is) | kernel_rfl)
    (case ki_NothingToUndo_NothingToUndo => first | rfl | k_is | (simp; k_is) | kernel_rfl)
    (case ki_TooMany_NothingToUndo => first | rfl | k_is | (simp; k_is) | kernel_rfl)
    (case ki_InvalidText_NothingToUndo => first | rfl | k_is | (simp; k_is) | kernel_rfl)
    (case ki_InvalidRow_TooMany => first | rfl | k_is | (simp; k_is) | kernel_rfl)
    (case ki_InvalidBoard_TooMany => first | rfl | k_is | (simp; k_is) | kernel_rfl)
    (case ki_InvalidSound_TooMany => first | rfl | k_is | (simp; k_is) | kernel_rfl)
    (case ki_InvalidLot_TooMany => first | rfl | k_is | (simp; k_is) | kernel_rfl)
    (case ki_InvalidWish_TooMany => first | rfl | k_is | (simp; k_is) | kernel_rfl)
    (case ki_InvalidNumber_TooMany => first | rfl | k_is | (simp; k_is) | kernel_rfl)
    (case ki_InvalidFacts_TooMany => first | rfl | k_is | (simp; k_is) | kernel_rfl)
    (case ki_InvalidIndex_TooMany => first | rfl | k_is | (simp; k_is) | kernel_rfl)
    (case ki_NothingToUndo_TooMany => first | rfl | k_is | (simp; k_is) | kernel_rfl)
    (case ki_TooMany_TooMany => first | rfl | k_is | (simp; k_is) | kernel_rfl)
    (case ki_InvalidText_TooMany => first | rfl | k_is | (simp; k_is) | kernel_rfl)
    (case ki_InvalidRow_InvalidText => first | rfl | k_is | (simp; k_is) | kernel_rfl)
    (case ki_InvalidBoard_InvalidText => first | rfl | k_is | (simp; k_is) | kernel_rfl)
    (case ki_InvalidSound_InvalidText => first | rfl | k_is | (simp; k_is) | kernel_rfl)
    (case ki_InvalidLot_InvalidText => first | rfl | k_is | (simp; k_is) | kernel_rfl)
    (case ki_InvalidWish_InvalidText => first | rfl | k_is | (simp; k_is) | kernel_rfl)
    (case ki_InvalidNumber_InvalidText => first | rfl | k_is | (simp; k_is) | kernel_rfl)
    (case ki_InvalidFacts_InvalidText => first | rfl | k_is | (simp; k_is) | kernel_rfl)
    (case ki_InvalidIndex_InvalidText => first | rfl | k_is | (simp; k_is) | kernel_rfl)
    (case ki_NothingToUndo_InvalidText => first | rfl | k_is | (simp; k_is) | kernel_rfl)
    (case ki_TooMany_InvalidText => first | rfl | k_is | (simp; k_is) | kernel_rfl)
    (case ki_InvalidText_InvalidText => first | rfl | k_is | (simp; k_is) | kernel_rfl)
    (case ki_InvalidRow_PedalError => first | rfl | k_is | (simp; k_is) | kernel_rfl)
    (case ki_InvalidBoard_PedalError => first | rfl | k_is | (simp; k_is) | kernel_rfl)
    (case ki_InvalidSound_PedalError => first | rfl | k_is | (simp; k_is) | kernel_rfl)
    (case ki_InvalidLot_PedalError => first | rfl | k_is | (simp; k_is) | kernel_rfl)
    (case ki_InvalidWish_PedalError => first | rfl | k_is | (simp; k_is) | kernel_rfl)
    (case ki_InvalidNumber_PedalError => first | rfl | k_is | (simp; k_is) | kernel_rfl)
    (case ki_InvalidFacts_PedalError => first | rfl | k_is | (simp; k_is) | kernel_rfl)
    (case ki_InvalidIndex_PedalError => first | rfl | k_is | (simp; k_is) | kernel_rfl)
    (case ki_NothingToUndo_PedalError => first | rfl | k_is | (simp; k_is) | kernel_rfl)
    (case ki_TooMany_PedalError => first | rfl | k_is | (simp; k_is) | kernel_rfl)
    (case ki_InvalidText_PedalError => first | rfl | k_is | (simp; k_is) | kernel_rfl)
    (case ki_InvalidRow_ValueError => first | rfl | k_is | (simp; k_is) | kernel_rfl)
    (case ki_InvalidBoard_ValueError => first | rfl | k_is | (simp; k_is) | kernel_rfl)
    (case ki_InvalidSound_ValueError => first | rfl | k_is | (simp; k_is) | kernel_rfl)
    (case ki_InvalidLot_ValueError => first | rfl | k_is | (simp; k_is) | kernel_rfl)
    (case ki_InvalidWish_ValueError => first | rfl | k_is | (simp; k_is) | kernel_rfl)
    (case ki_InvalidNumber_ValueError => first | rfl | k_is | (simp; k_is) | kernel_rfl)
    (case ki_InvalidFacts_ValueError => first | rfl | k_is | (simp; k_is) | kernel_rfl)
    (case ki_InvalidIndex_ValueError => first | rfl | k_is | (simp; k_is) | kernel_rfl)
    (case ki_NothingToUndo_ValueError => first | rfl | k_is | (simp; k_is) | kernel_rfl)
    (case ki_TooMany_ValueError => first | rfl | k_is | (simp; k_is) | kernel_rfl)
    (case ki_InvalidText_ValueError => first | rfl | k_is | (simp; k_is) | kernel_rfl)
