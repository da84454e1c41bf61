import PyProof.Rows.All
import Wide.All
import OpenK.AllK
import Wide.FinOn
import HandS.ForMost
import HandS.Wide
import HandS.TupAny
import HandS.Conv
import HandS.Deep
import HandS.Exc
import HandS.TryOnly
import HandS.ExcOwn
import HandS.WordsExc
import HandS.Style
import HandS.Flow
import HandS.IsInst
import HandS.More
import HandS.EndBits
import HandS.SetFor
import HandS.Strs
import HandS.TupSets
import HandS.TupMul
import KE.GoesEnum
import KE.GoesMore
import HandS.Iter
import KE.SortData
import KE.DataMinMax
import HandS.WordsDict
import HandS.Flt
import PySem.Challenge.RW_pedalrows_k01_pedals_boards_and_sounds_r
set_option Elab.async false
set_option linter.all false
set_option maxRecDepth 100000
set_option maxHeartbeats 2000000
set_option autoImplicit false
/-! Ped1: data over the abstract heap; the results; the judgements of denotational combinators -/
namespace Ped
open PySem L2

abbrev D := PyData

mutual
/-- v is the data d, of things that nobody changes any more (F: the frozen part of the heap) -/
inductive Rp (K : PySem.W.Frag) (F : Hp) : V → D → Prop
  | non : Rp K F .non .none
  | bl (b : Bool) : Rp K F (.bl b) (.bool b)
  | int (i : Int) : Rp K F (.int i) (.int i)
  | str (x : Str) : Rp K F (.str x) (.str x)
  | lst {a : Addr} {xs : List V} {ds : List D} : F a = some (.lst xs) → RpA K F xs ds → Rp K F (.ref a) (.list ds)
  | tup {a : Addr} {xs : List V} {ds : List D} : F a = some (.tup xs) → RpA K F xs ds → Rp K F (.ref a) (.tuple ds)
inductive RpA (K : PySem.W.Frag) (F : Hp) : List V → List D → Prop
  | nil : RpA K F [] []
  | cons {v : V} {vs : List V} {d : D} {ds : List D} : Rp K F v d → RpA K F vs ds → RpA K F (v :: vs) (d :: ds)
end

def Sb (F F' : Hp) : Prop := ∀ a o, F a = some o → F' a = some o
theorem Sb.refl (F : Hp) : Sb F F := fun _ _ h => h
theorem Sb.trans {F G H : Hp} (a : Sb F G) (b : Sb G H) : Sb F H := fun x o h => b x o (a x o h)
theorem sb_rd {F F' : Hp} (e : Sb F F') {a : Addr} {u : HO} (h : Rd F a u) : Rd F' a u := by
  rcases h with h | ⟨o, h⟩
  · exact .inl (e a _ h)
  · exact .inr ⟨o, e a _ h⟩
theorem sb_t {K : PySem.W.Frag} {F F' : Hp} (e : Sb F F') {a : Addr} {xs : List V} (h : SqT K F a xs) : SqT K F' a xs := by
  rcases h with h | h
  · exact .inl (sb_rd e h)
  · exact .inr h
theorem sb_l {K : PySem.W.Frag} {F F' : Hp} (e : Sb F F') {a : Addr} {xs : List V} (h : SqL K F a xs) : SqL K F' a xs := by
  rcases h with h | h
  · exact .inl (sb_rd e h)
  · exact .inr h
section
variable {K : PySem.W.Frag} {F F' : Hp}
mutual
theorem Rp.mono (e : Sb F F') : ∀ (d : D) (v : V), Rp K F v d → Rp K F' v d
  | .none, _, h => by cases h; exact .non
  | .bool b, _, h => by cases h; exact .bl b
  | .int i, _, h => by cases h; exact .int i
  | .str x, _, h => by cases h; exact .str x
  | .list ds, _, h => by
    cases h with
    | lst hs ha => exact .lst (e _ _ hs) (RpA.mono e ds _ ha)
  | .tuple ds, _, h => by
    cases h with
    | tup hs ha => exact .tup (e _ _ hs) (RpA.mono e ds _ ha)
  | .dict _, _, h => by cases h
theorem RpA.mono (e : Sb F F') : ∀ (ds : List D) (vs : List V), RpA K F vs ds → RpA K F' vs ds
  | [], _, h => by cases h; exact .nil
  | d :: ds, _, h => by
    cases h with
    | cons h1 h2 => exact .cons (Rp.mono e d _ h1) (RpA.mono e ds _ h2)
end
mutual
theorem Rp.dp (e : Sb F F') : ∀ (d : D) (v : V), Rp K F v d → Dp K F' v d
  | .none, _, h => by cases h; exact .non
  | .bool b, _, h => by cases h; exact .bl b
  | .int i, _, h => by cases h; exact .int i
  | .str x, _, h => by cases h; exact .str x
  | .list ds, _, h => by
    cases h with
    | lst hs ha => exact .lst (.inl (.inl (e _ _ hs))) (RpA.dp e ds _ ha)
  | .tuple ds, _, h => by
    cases h with
    | tup hs ha => exact .tup (.inl (.inl (e _ _ hs))) (RpA.dp e ds _ ha)
  | .dict _, _, h => by cases h
theorem RpA.dp (e : Sb F F') : ∀ (ds : List D) (vs : List V), RpA K F vs ds → DpAll K F' vs ds
  | [], _, h => by cases h; exact .nil
  | d :: ds, _, h => by
    cases h with
    | cons h1 h2 => exact .cons (Rp.dp e d _ h1) (RpA.dp e ds _ h2)
end
theorem RpA.len : ∀ {vs : List V} {ds : List D}, RpA K F vs ds → vs.length = ds.length
  | _, _, .nil => rfl
  | _, _, .cons _ t => by simp [RpA.len t]
theorem RpA.get : ∀ {vs : List V} {ds : List D} {i : Nat} {d : D}, RpA K F vs ds → ds[i]? = some d → ∃ v, vs[i]? = some v ∧ Rp K F v d
  | _, _, _, _, .nil, e => by simp at e
  | _, _, 0, _, .cons r _, e => by simp at e; subst e; exact ⟨_, rfl, r⟩
  | _, _, i + 1, d, .cons _ t, e => by
    obtain ⟨v, h1, h2⟩ := RpA.get (i := i) (d := d) t (by simpa using e)
    exact ⟨v, by simpa using h1, h2⟩
theorem RpA.append : ∀ {xs ys : List V} {us ws : List D}, RpA K F xs us → RpA K F ys ws → RpA K F (xs ++ ys) (us ++ ws)
  | _, _, _, _, .nil, s => s
  | _, _, _, _, .cons r t, s => .cons r (RpA.append t s)
theorem RpA.take : ∀ {xs : List V} {us : List D} (n : Nat), RpA K F xs us → RpA K F (xs.take n) (us.take n)
  | _, _, 0, _ => by simpa using RpA.nil
  | _, _, n + 1, .nil => .nil
  | _, _, n + 1, .cons r t => .cons r (RpA.take n t)
theorem RpA.drop : ∀ {xs : List V} {us : List D} (n : Nat), RpA K F xs us → RpA K F (xs.drop n) (us.drop n)
  | _, _, 0, r => r
  | _, _, n + 1, .nil => .nil
  | _, _, n + 1, .cons _ t => RpA.drop n t
theorem RpA.reverse {xs : List V} {us : List D} (h : RpA K F xs us) : RpA K F xs.reverse us.reverse := by
  induction us generalizing xs with
  | nil => cases h; exact .nil
  | cons d ds ih =>
    cases h with
    | cons r t =>
      rw [List.reverse_cons, List.reverse_cons]
      exact (ih t).append (.cons r .nil)
theorem RpA.rep {xs : List V} {us : List D} (h : RpA K F xs us) : ∀ k : Nat, RpA K F (List.replicate k xs).flatten (List.replicate k us).flatten
  | 0 => .nil
  | k + 1 => by
    rw [List.replicate_succ, List.replicate_succ, List.flatten_cons, List.flatten_cons]
    exact h.append (RpA.rep h k)
theorem RpA.ints : ∀ (ns : List Int), RpA K F (ns.map V.int) (ns.map PyData.int)
  | [] => .nil
  | n :: r => .cons (.int n) (RpA.ints r)
theorem RpA.strs : ∀ (ns : List Str), RpA K F (ns.map V.str) (ns.map PyData.str)
  | [] => .nil
  | n :: r => .cons (.str n) (RpA.strs r)
theorem RpA.nil_iff {xs : List V} {ds : List D} (r : RpA K F xs ds) : ds = [] ↔ xs = [] := by
  cases r <;> simp
end

/-- the ints that a list of data is -/
def toInts : List D → Option (List Int)
  | [] => some []
  | .int i :: r => (toInts r).map (i :: ·)
  | _ => none
theorem toInts_map : ∀ (ns : List Int), toInts (ns.map PyData.int) = some ns
  | [] => rfl
  | n :: r => by simp [toInts, toInts_map r]
theorem toInts_eq : ∀ {ds : List D} {ns : List Int}, toInts ds = some ns → ds = ns.map PyData.int
  | [], ns, h => by simp [toInts] at h; subst h; rfl
  | d :: r, ns, h => by
    cases d <;> simp [toInts] at h
    case int i =>
      obtain ⟨ms, h1, h2⟩ := h
      subst h2
      rw [toInts_eq h1]
      rfl
def toBools : List D → Option (List Bool)
  | [] => some []
  | .bool i :: r => (toBools r).map (i :: ·)
  | _ => none
theorem toBools_map : ∀ (ns : List Bool), toBools (ns.map PyData.bool) = some ns
  | [] => rfl
  | n :: r => by simp [toBools, toBools_map r]
theorem toBools_eq : ∀ {ds : List D} {ns : List Bool}, toBools ds = some ns → ds = ns.map PyData.bool
  | [], ns, h => by simp [toBools] at h; subst h; rfl
  | d :: r, ns, h => by
    cases d <;> simp [toBools] at h
    case bool i =>
      obtain ⟨ms, h1, h2⟩ := h
      subst h2
      rw [toBools_eq h1]
      rfl
theorem rpA_ints {K : PySem.W.Frag} {F : Hp} : ∀ {ns : List Int} {vs : List V}, RpA K F vs (ns.map PyData.int) → vs = ns.map V.int
  | [], _, h => by cases h; rfl
  | n :: r, _, h => by
    cases h with
    | cons h1 h2 =>
      cases h1
      rw [rpA_ints h2]
      rfl
theorem rpA_bools {K : PySem.W.Frag} {F : Hp} : ∀ {ns : List Bool} {vs : List V}, RpA K F vs (ns.map PyData.bool) → vs = ns.map V.bl
  | [], _, h => by cases h; rfl
  | n :: r, _, h => by
    cases h with
    | cons h1 h2 =>
      cases h1
      rw [rpA_bools h2]
      rfl

/-- what a name or an argument holds: data, or a thing of the store (by number) -/
inductive Wv where
  | d (x : D)
  | l (n : Nat)
  /-- the script: a list of ints that is only read -/
  | s (ns : List Int)
/-- a thing of the store -/
inductive Ob where
  | dead
  | lst (ws : List Wv)
  | dk (kvs : List (Key × Wv))
  /-- a dict that is walked just now -/
  | lk (kvs : List (Key × Wv))
  | dt (kvs : List (List Key × Wv))
  | ins (C : Addr) (fs : List (Str × Wv))

abbrev Sto := List Ob
structure Exn where
  cls : Value
  fs : List (Str × Wv) := []

/-- a result: a value and the store behind it; an exception; stuck -/
inductive Rs (α : Type) where
  | ok (a : α) (μ : Sto)
  | ex (x : Exn) (μ : Sto)
  | no
def Rs.bind {α β : Type} (r : Rs α) (k : α → Sto → Rs β) : Rs β := match r with
  | .ok a μ => k a μ
  | .ex x μ => .ex x μ
  | .no => .no
def Rs.Post {α : Type} (r : Rs α) (P : α → Sto → Prop) (E : Exn → Sto → Prop) : Prop := match r with
  | .ok a μ => P a μ
  | .ex x μ => E x μ
  | .no => False
@[simp] theorem Rs.bind_ok {α β : Type} (a : α) (μ : Sto) (k : α → Sto → Rs β) : (Rs.ok a μ).bind k = k a μ := rfl
@[simp] theorem Rs.bind_ex {α β : Type} (x : Exn) (μ : Sto) (k : α → Sto → Rs β) : (Rs.ex x μ : Rs α).bind k = .ex x μ := rfl
@[simp] theorem Rs.bind_no {α β : Type} (k : α → Sto → Rs β) : (Rs.no : Rs α).bind k = .no := rfl
theorem Rs.post_bind {α β : Type} {r : Rs α} {k : α → Sto → Rs β} {P : β → Sto → Prop} {E : Exn → Sto → Prop} : (r.bind k).Post P E ↔ r.Post (fun a μ => (k a μ).Post P E) E := by
  cases r <;> exact Iff.rfl
theorem Rs.Post.mono {α : Type} {r : Rs α} {P P' : α → Sto → Prop} {E E' : Exn → Sto → Prop} (h : r.Post P E) (hp : ∀ a μ, P a μ → P' a μ) (he : ∀ x μ, E x μ → E' x μ) : r.Post P' E' := by
  cases r with
  | ok a μ => exact hp a μ h
  | ex x μ => exact he x μ h
  | no => exact h.elim
def Rs.ofOpt {α : Type} (o : Option α) (μ : Sto) : Rs α := match o with
  | some a => .ok a μ
  | none => .no
@[simp] theorem Rs.ofOpt_some {α : Type} (a : α) (μ : Sto) : Rs.ofOpt (some a) μ = .ok a μ := rfl
@[simp] theorem Rs.ofOpt_none {α : Type} (μ : Sto) : Rs.ofOpt (none : Option α) μ = .no := rfl

/-- an exception is not wanted here -/
def noex {α : Type} (r : Rs α) : Rs α := match r with
  | .ex _ _ => .no
  | r => r
@[simp] theorem noex_ok {α : Type} (a : α) (μ : Sto) : noex (.ok a μ) = .ok a μ := rfl
@[simp] theorem noex_no {α : Type} : noex (.no : Rs α) = .no := rfl
theorem noex_post {α : Type} {r : Rs α} {P : α → Sto → Prop} {E E' : Exn → Sto → Prop} (h : (noex r).Post P E) : r.Post P E' := by
  cases r with
  | ok a μ => exact h
  | ex x μ => exact h.elim
  | no => exact h

/-- the state of a proof: the heap, its frozen part, where the things of the store lie -/
structure Sta where
  H : Hp
  F : Hp
  L : List Addr
structure Ext (S S' : Sta) : Prop where
  sb : Sb S.F S'.F
  pf : ∀ (n : Nat) (a : Addr), S.L[n]? = some a → S'.L[n]? = some a
  /-- what is tracked and no thing of the store stays as it is -/
  fr : ∀ a o, S.H a = some o → a ∉ S.L → S'.H a = some o
  th : ∀ a o, S.H a = some o → ∃ o', S'.H a = some o'
  nl : ∀ a, a ∈ S'.L → a ∈ S.L ∨ S.H a = none
  nf : ∀ a, S'.F a ≠ none → S.F a ≠ none ∨ S.H a = none ∨ a ∈ S.L
  /-- what is locked stays as it is -/
  fz : ∀ a o u, S.H a = some (.frz o u) → S'.H a = some (.frz o u)
theorem Ext.refl (S : Sta) : Ext S S := ⟨Sb.refl _, fun _ _ h => h, fun _ _ h _ => h, fun _ o h => ⟨o, h⟩, fun _ h => .inl h, fun _ h => .inl h, fun _ _ _ h => h⟩
theorem Ext.out {S S' : Sta} (e : Ext S S') {a : Addr} {o : HO} (h : S.H a = some o) (hn : a ∉ S.L) : a ∉ S'.L := fun z => by
  rcases e.nl a z with q | q
  · exact hn q
  · rw [h] at q; cases q
theorem Ext.un {S S' : Sta} (e : Ext S S') {a : Addr} (h : S'.H a = none) : S.H a = none := by
  cases q : S.H a with
  | none => rfl
  | some o =>
    obtain ⟨o', z⟩ := e.th a o q
    rw [h] at z; cases z
theorem Ext.trans {S T U : Sta} (a : Ext S T) (b : Ext T U) : Ext S U := by
  refine ⟨a.sb.trans b.sb, fun n x h => b.pf n x (a.pf n x h), fun x o h hn => b.fr x o (a.fr x o h hn) (a.out h hn), fun x o h => ?_, fun x h => ?_, fun x h => ?_, fun x o u h => b.fz x o u (a.fz x o u h)⟩
  · obtain ⟨o', z⟩ := a.th x o h
    exact b.th x o' z
  · rcases b.nl x h with q | q
    · exact a.nl x q
    · exact .inr (a.un q)
  · rcases b.nf x h with q | q | q
    · exact a.nf x q
    · exact .inr (.inl (a.un q))
    · rcases a.nl x q with q | q
      · exact .inr (.inr q)
      · exact .inr (.inl q)

def RW (K : PySem.W.Frag) (S : Sta) (v : V) : Wv → Prop
  | .d x => Rp K S.F v x
  | .l n => ∃ a, S.L[n]? = some a ∧ v = .ref a
  | .s ns => ∃ a, SqL K S.F a (ns.map V.int) ∧ v = .ref a
structure Grow (S S' : Sta) : Prop where
  sb : Sb S.F S'.F
  pf : ∀ (n : Nat) (a : Addr), S.L[n]? = some a → S'.L[n]? = some a
theorem Ext.gr {S S' : Sta} (e : Ext S S') : Grow S S' := ⟨e.sb, e.pf⟩
theorem RW.gr {K : PySem.W.Frag} {S S' : Sta} (e : Grow S S') {v : V} : ∀ {w : Wv}, RW K S v w → RW K S' v w
  | .d x, h => Rp.mono e.sb x v h
  | .l n, ⟨a, h, hv⟩ => ⟨a, e.pf n a h, hv⟩
  | .s n, ⟨a, h, hv⟩ => ⟨a, sb_l e.sb h, hv⟩
theorem RW.mono {K : PySem.W.Frag} {S S' : Sta} (e : Ext S S') {v : V} {w : Wv} (h : RW K S v w) : RW K S' v w := h.gr e.gr
abbrev RWs (K : PySem.W.Frag) (S : Sta) : List V → List Wv → Prop := Paired (RW K S)
theorem RWs.gr {K : PySem.W.Frag} {S S' : Sta} (e : Grow S S') : ∀ {vs : List V} {ws : List Wv}, RWs K S vs ws → RWs K S' vs ws
  | _, _, .nil => .nil
  | _, _, .cons r t => .cons (r.gr e) (RWs.gr e t)
theorem RWs.mono {K : PySem.W.Frag} {S S' : Sta} (e : Ext S S') {vs : List V} {ws : List Wv} (h : RWs K S vs ws) : RWs K S' vs ws := h.gr e.gr
def RKv {κ : Type} (K : PySem.W.Frag) (S : Sta) : List (κ × V) → List (κ × Wv) → Prop := Paired fun p q => p.1 = q.1 ∧ RW K S p.2 q.2
theorem RKv.gr {κ : Type} {K : PySem.W.Frag} {S S' : Sta} (e : Grow S S') : ∀ {vs : List (κ × V)} {ws : List (κ × Wv)}, RKv K S vs ws → RKv K S' vs ws
  | _, _, .nil => .nil
  | _, _, .cons r t => .cons ⟨r.1, r.2.gr e⟩ (RKv.gr e t)
theorem RKv.mono {κ : Type} {K : PySem.W.Frag} {S S' : Sta} (e : Ext S S') {vs : List (κ × V)} {ws : List (κ × Wv)} (h : RKv K S vs ws) : RKv K S' vs ws := h.gr e.gr

/-- the thing at a is what the store says -/
def ObR (K : PySem.W.Frag) (S : Sta) (a : Addr) : Ob → Prop
  | .dead => True
  | .lst ws => ∃ vs, S.H a = some (.lst vs) ∧ RWs K S vs ws
  | .dk kvs => ∃ vs, S.H a = some (.dK vs) ∧ RKv K S vs kvs
  | .lk kvs => ∃ od vs, S.H a = some (.frz od (.dK vs)) ∧ RKv K S vs kvs
  | .dt kvs => ∃ vs, S.H a = some (.dT vs) ∧ RKv K S vs kvs
  | .ins C fs => ∃ dx vs, S.H a = some (.ins C dx vs) ∧ RKv K S vs fs
structure HS (K : PySem.W.Frag) (S : Sta) (μ : Sto) : Prop where
  sub : Sb S.F S.H
  len : S.L.length = μ.length
  nd : S.L.Nodup
  tr : ∀ (n : Nat) (a : Addr), S.L[n]? = some a → ∃ o, S.H a = some o
  lv : ∀ (n : Nat) (a : Addr) (ob : Ob), S.L[n]? = some a → μ[n]? = some ob → ob ≠ .dead → S.F a = none
  ob : ∀ (n : Nat) (a : Addr) (ob : Ob), S.L[n]? = some a → μ[n]? = some ob → ObR K S a ob

/-- the names' values (none: not told) -/
abbrev Env := List (Option Wv)
structure EnvR (K : PySem.W.Frag) (n : Nat) (S : Sta) (env : Env) (σ : L2.St) : Prop where
  len : env.length = n
  lenS : σ.length = n
  val : ∀ (i : Nat) (w : Wv), env[i]? = some (some w) → ∃ v, σ[i]? = some (some v) ∧ RW K S v w
theorem EnvR.mono {K : PySem.W.Frag} {n : Nat} {S S' : Sta} (e : Ext S S') {env : Env} {σ : L2.St} (h : EnvR K n S env σ) : EnvR K n S' env σ := ⟨h.len, h.lenS, fun i w hw => by
  obtain ⟨v, h1, h2⟩ := h.val i w hw
  exact ⟨v, h1, h2.mono e⟩⟩

/-- an exception's own dict -/
def ExR (K : PySem.W.Frag) (S : Sta) (x : Exn) (d : Option Addr) : Prop := match d with
  | none => x.fs = []
  | some a => ∃ vs, S.H a = some (.xd vs) ∧ RKv K S vs x.fs

/-- what is wished of a value, of an exception -/
abbrev POk (K : PySem.W.Frag) (S : Sta) (Q : VK) : Wv → Sto → Prop := fun w μ => ∀ v S', Ext S S' → HS K S' μ → RW K S' v w → Q v S'.H
abbrev PEx (K : PySem.W.Frag) (W : WX) (σ : L2.St) (S : Sta) : Exn → Sto → Prop := fun x μ => ∀ d S', Ext S S' → HS K S' μ → ExR K S' x d → W x.cls d σ S'.H
theorem PEx.mono {K : PySem.W.Frag} {W : WX} {σ : L2.St} {S S' : Sta} (e : Ext S S') {x : Exn} {μ : Sto} (h : PEx K W σ S x μ) : PEx K W σ S' x μ := fun d T e' hs r => h d T (e.trans e') hs r

abbrev FE := Env → Sto → Rs Wv
abbrev FB := Env → Sto → Rs Bool
abbrev FA := Env → Sto → Rs (List Wv)

/-- e evaluates as f says -/
def CEx (X : Cx) (W : WX) (e : Expr) (f : FE) : Prop := ∃ t : TE, PE X e t ∧ ∀ env σ S μ, EnvR X.K X.N.length S env σ → HS X.K S μ → ∀ Q : VK, (f env μ).Post (POk X.K S Q) (PEx X.K W σ S) → t σ S.H Q
def CT (X : Cx) (W : WX) (e : Expr) (f : FB) : Prop := ∃ t : TT, PT X e t ∧ ∀ env σ S μ, EnvR X.K X.N.length S env σ → HS X.K S μ → ∀ Q : Bool → Hp → Prop, (f env μ).Post (fun b μ' => ∀ S', Ext S S' → HS X.K S' μ' → Q b S'.H) (PEx X.K W σ S) → t σ S.H Q
def CW (X : Cx) (W : WX) (e : Expr) (f : FB) : Prop := ∃ t : TT, PW X e t ∧ ∀ env σ S μ, EnvR X.K X.N.length S env σ → HS X.K S μ → ∀ Q : Bool → Hp → Prop, (f env μ).Post (fun b μ' => ∀ S', Ext S S' → HS X.K S' μ' → Q b S'.H) (PEx X.K W σ S) → t σ S.H Q
def CA (X : Cx) (W : WX) (es : List Expr) (f : FA) : Prop := ∃ t : TA, PA X es t ∧ ∀ env σ S μ, EnvR X.K X.N.length S env σ → HS X.K S μ → ∀ Q : List V → Hp → Prop, (f env μ).Post (fun ws μ' => ∀ vs S', Ext S S' → HS X.K S' μ' → RWs X.K S' vs ws → Q vs S'.H) (PEx X.K W σ S) → t σ S.H Q

section
variable {X : Cx} {W : WX}

/-! ### laying frozen things -/
def Sta.lay (S : Sta) (p : Addr) (o : HO) : Sta := ⟨upd S.H p o, upd S.F p o, S.L⟩
theorem HS.free {K : PySem.W.Frag} {S : Sta} {μ : Sto} (h : HS K S μ) {p : Addr} (hp : S.H p = none) : S.F p = none := by
  cases e : S.F p with
  | none => rfl
  | some o => have := h.sub p o e; rw [hp] at this; cases this
theorem Ext.lay {S : Sta} (hs : Sb S.F S.H) {p : Addr} {o : HO} (hp : S.H p = none) : Ext S (S.lay p o) := by
  have hf : S.F p = none := by
    cases e : S.F p with
    | none => rfl
    | some o => have := hs p o e; rw [hp] at this; cases this
  refine ⟨fun a u e => ?_, fun _ _ h => h, fun a u e _ => ?_, fun a u e => ⟨u, ?_⟩, fun _ h => .inl h, fun a h => ?_, fun a u x e => (upd_ne (ne_of_none e hp)).trans e⟩
  · show upd S.F p o a = some u
    rw [upd_ne (ne_of_none e hf)]
    exact e
  · show upd S.H p o a = some u
    rw [upd_ne (ne_of_none e hp)]
    exact e
  · show upd S.H p o a = some u
    rw [upd_ne (ne_of_none e hp)]
    exact e
  · by_cases hb : a = p
    · exact .inr (.inl (by rw [hb]; exact hp))
    · have h : upd S.F p o a ≠ none := h
      rw [upd_ne hb] at h
      exact .inl h
theorem ObR.there {K : PySem.W.Frag} {S : Sta} {a : Addr} {ob : Ob} (h : ObR K S a ob) (hd : ob ≠ .dead) : ∃ o, S.H a = some o := by
  cases ob with
  | dead => exact absurd rfl hd
  | lst ws => obtain ⟨vs, e, _⟩ := h; exact ⟨_, e⟩
  | dk ws => obtain ⟨vs, e, _⟩ := h; exact ⟨_, e⟩
  | lk ws => obtain ⟨_, vs, e, _⟩ := h; exact ⟨_, e⟩
  | dt ws => obtain ⟨vs, e, _⟩ := h; exact ⟨_, e⟩
  | ins C fs => obtain ⟨_, vs, e, _⟩ := h; exact ⟨_, e⟩
/-- a thing whose place is left alone stays what it is -/
theorem ObR.stayG {K : PySem.W.Frag} {S S' : Sta} (e : Grow S S') {a : Addr} {ob : Ob} (h : ObR K S a ob) (hk : ∀ o, S.H a = some o → S'.H a = some o) : ObR K S' a ob := by
  cases ob with
  | dead => trivial
  | lst ws => obtain ⟨vs, h1, h2⟩ := h; exact ⟨vs, hk _ h1, h2.gr e⟩
  | dk ws => obtain ⟨vs, h1, h2⟩ := h; exact ⟨vs, hk _ h1, h2.gr e⟩
  | lk ws => obtain ⟨od, vs, h1, h2⟩ := h; exact ⟨od, vs, hk _ h1, h2.gr e⟩
  | dt ws => obtain ⟨vs, h1, h2⟩ := h; exact ⟨vs, hk _ h1, h2.gr e⟩
  | ins C fs => obtain ⟨dx, vs, h1, h2⟩ := h; exact ⟨dx, vs, hk _ h1, h2.gr e⟩
theorem ObR.stay {K : PySem.W.Frag} {S S' : Sta} (e : Ext S S') {a : Addr} {ob : Ob} (h : ObR K S a ob) (hk : ∀ o, S.H a = some o → S'.H a = some o) : ObR K S' a ob := h.stayG e.gr hk
theorem HS.fresh {K : PySem.W.Frag} {S : Sta} {μ : Sto} (h : HS K S μ) {p : Addr} (hp : S.H p = none) : p ∉ S.L := fun z => by
  obtain ⟨n, hn⟩ := List.mem_iff_getElem?.mp z
  obtain ⟨o, e⟩ := h.tr n p hn
  rw [hp] at e; cases e
theorem HS.lay {K : PySem.W.Frag} {S : Sta} {μ : Sto} (h : HS K S μ) {p : Addr} (o : HO) (hp : S.H p = none) : HS K (S.lay p o) μ := by
  have hf := h.free hp
  refine ⟨fun a u e => ?_, h.len, h.nd, fun n a h1 => ?_, fun n a ob h1 h2 h3 => ?_, fun n a ob h1 h2 => ?_⟩
  · by_cases hb : a = p
    · subst hb
      have e : upd S.F a o a = some u := e
      rw [upd_same] at e
      show upd S.H a o a = some u
      rw [upd_same]
      exact e
    · have e : upd S.F p o a = some u := e
      rw [upd_ne hb] at e
      show upd S.H p o a = some u
      rw [upd_ne hb]
      exact h.sub a u e
  · obtain ⟨u, e⟩ := h.tr n a h1
    refine ⟨u, ?_⟩
    show upd S.H p o a = some u
    rw [upd_ne (ne_of_none e hp)]
    exact e
  · obtain ⟨u, e⟩ := (h.ob n a ob h1 h2).there h3
    show upd S.F p o a = none
    rw [upd_ne (ne_of_none e hp)]
    exact h.lv n a ob h1 h2 h3
  · refine (h.ob n a ob h1 h2).stay (Ext.lay h.sub hp) fun u e => ?_
    show upd S.H p o a = some u
    rw [upd_ne (ne_of_none e hp)]
    exact e

/-! ### the simple expressions -/
def fVar (i : Nat) : FE := fun env μ => match env[i]? with
  | some (some w) => .ok w μ
  | _ => .no
theorem c_var (i : Nat) {x : Str} {pos : Pos} (hN : X.N[i]? = some x := by rfl) (hv : Vis X.env.scope x := by first | exact Or.inl rfl | exact Or.inr (Or.inl rfl) | exact Or.inr (Or.inr rfl)) (hd : (x == ("__debug__" : Str)) = false := by decide)
    (hcd : (x == ("__classdict__" : Str)) = false := by decide) : CEx X W (.Name x pos) (fVar i) := by
  refine ⟨_, pe_var (i := i) hN hv hd hcd, fun env σ S μ he hs Q h => ?_⟩
  unfold fVar at h
  cases hw : env[i]? with
  | none => rw [hw] at h; exact h.elim
  | some o =>
    cases o with
    | none => rw [hw] at h; exact h.elim
    | some w =>
      rw [hw] at h
      obtain ⟨v, h1, h2⟩ := he.val i w hw
      exact ⟨v, h1, h v S (Ext.refl S) hs h2⟩
def fC (d : D) : FE := fun _ μ => .ok (.d d) μ
theorem c_of {e : Expr} {v : V} {d : D} (h : PE X e (tC v)) (r : ∀ F, Rp X.K F v d) : CEx X W e (fC d) := ⟨_, h, fun _ _ S _ _ hs _ h => h v S (Ext.refl S) hs (r S.F)⟩
theorem c_int {i j pos} : CEx X W (.Constant (.int i) j pos) (fC (.int i)) := c_of pe_int fun _ => .int i
theorem c_bl {i j pos} : CEx X W (.Constant (.bool i) j pos) (fC (.bool i)) := c_of pe_bl fun _ => .bl i
theorem c_non {j pos} : CEx X W (.Constant .none j pos) (fC .none) := c_of pe_non fun _ => .non
theorem c_str {i j pos} : CEx X W (.Constant (.str i) j pos) (fC (.str i)) := c_of pe_str fun _ => .str i
theorem c_glob {x : Str} {u : Value} {v : V} {d : D} {pos : Pos} (hg : Gl X x) (hm : X.mg x = some u) (r : RelV v u) (rd : ∀ F, Rp X.K F v d) (hd : (x == ("__debug__" : Str)) = false := by decide) : CEx X W (.Name x pos) (fC d) :=
  c_of (pe_glob hg hm r hd) rd

/-! ### arguments -/
def fNil : FA := fun _ μ => .ok [] μ
def fCons (f : FE) (g : FA) : FA := fun env μ => (f env μ).bind fun w μ1 => (g env μ1).bind fun ws μ2 => .ok (w :: ws) μ2
theorem ca_nil : CA X W [] fNil := ⟨_, pa_nil, fun _ _ S _ _ hs _ h => h [] S (Ext.refl S) hs .nil⟩
theorem ca_cons {e : Expr} {es : List Expr} {f : FE} {g : FA} (ha : CEx X W e f) (hb : CA X W es g) (hs : starEach (e :: es) X.env = (false, eval e X.env) :: starEach es X.env := by rfl) : CA X W (e :: es) (fCons f g) := by
  obtain ⟨ta, pa, qa⟩ := ha
  obtain ⟨tb, pb, qb⟩ := hb
  refine ⟨_, pa_cons pa pb hs, fun env σ S μ he hS Q h => ?_⟩
  unfold fCons at h
  rw [Rs.post_bind] at h
  refine qa env σ S μ he hS _ (h.mono (fun w μ1 h1 v S1 e1 hS1 r1 => ?_) fun _ _ z => z)
  rw [Rs.post_bind] at h1
  refine qb env σ S1 μ1 (he.mono e1) hS1 _ (h1.mono (fun ws μ2 h2 vs S2 e2 hS2 r2 => ?_) fun _ _ z => z.mono e1)
  exact h2 (v :: vs) S2 (e1.trans e2) hS2 (.cons (r1.mono e2) r2)

/-! ### displays -/
/-- the plain data among the values -/
def Wv.dat : Wv → Option D
  | .d x => some x
  | _ => none
def dats : List Wv → Option (List D)
  | [] => some []
  | .d x :: r => (dats r).map (x :: ·)
  | _ :: _ => none
theorem rws_dats {K : PySem.W.Frag} {S : Sta} : ∀ {vs : List V} {ws : List Wv} {ds : List D}, RWs K S vs ws → dats ws = some ds → RpA K S.F vs ds
  | _, _, _, .nil, e => by simp [dats] at e; subst e; exact .nil
  | _, w :: ws, ds, .cons r t, e => by
    cases w with
    | l n => simp [dats] at e
    | s n => simp [dats] at e
    | d x =>
      simp [dats] at e
      obtain ⟨r', e1, e2⟩ := e
      subst e2
      exact .cons r (rws_dats t e1)
theorem rws_len {K : PySem.W.Frag} {S : Sta} {vs : List V} {ws : List Wv} (h : RWs K S vs ws) : vs.length = ws.length := Paired.length h
theorem dats_len : ∀ {ws : List Wv} {ds : List D}, dats ws = some ds → ds.length = ws.length
  | [], ds, e => by simp [dats] at e; subst e; rfl
  | .l _ :: _, ds, e => by simp [dats] at e
  | .s _ :: _, ds, e => by simp [dats] at e
  | .d x :: r, ds, e => by
    simp [dats] at e
    obtain ⟨r', e1, e2⟩ := e
    subst e2
    simp [dats_len e1]
@[simp] theorem dats_map : ∀ (ds : List D), dats (ds.map Wv.d) = some ds
  | [] => rfl
  | d :: r => by simp [dats, dats_map r]
/-- the most items that a list or a tuple may have here -/
abbrev LIM : Nat := 16000000
theorem lim_line {n : Nat} (h : n ≤ LIM) : n ≤ sizeLine := by rw [sizeLine_eq]; exact Nat.le_trans h (by decide)
theorem lim_lt {n : Nat} (h : n ≤ LIM) : n < sizeLine := by rw [sizeLine_eq]; exact Nat.lt_of_le_of_lt h (by decide)
def mkSeq (c : List D → D) (ws : List Wv) (μ : Sto) : Rs Wv := match dats ws with
  | some ds => if ds.length ≤ LIM then .ok (.d (c ds)) μ else .no
  | none => .no
def fTup (g : FA) : FE := fun env μ => (g env μ).bind (mkSeq .tuple)
def fLst (g : FA) : FE := fun env μ => (g env μ).bind (mkSeq .list)
theorem rp_tup {K : PySem.W.Frag} {F : Hp} {p : Addr} {vs : List V} {ds : List D} (hn : F p = none) (r : RpA K F vs ds) : Rp K (upd F p (.tup vs)) (.ref p) (.tuple ds) :=
  .tup upd_same (RpA.mono (fun a u e => by rw [upd_ne (ne_of_none e hn)]; exact e) _ _ r)
theorem rp_lst {K : PySem.W.Frag} {F : Hp} {p : Addr} {vs : List V} {ds : List D} (hn : F p = none) (r : RpA K F vs ds) : Rp K (upd F p (.lst vs)) (.ref p) (.list ds) :=
  .lst upd_same (RpA.mono (fun a u e => by rw [upd_ne (ne_of_none e hn)]; exact e) _ _ r)
/-- a new tuple, a new list, for the one who asks -/
theorem new_tup {K : PySem.W.Frag} {S : Sta} {μ : Sto} {Q : VK} {vs : List V} {ds : List D} (hS : HS K S μ) (r : RpA K S.F vs ds) (h : POk K S Q (.d (.tuple ds)) μ) : ∀ p, S.H p = none → Q (.ref p) (upd S.H p (.tup vs)) := fun p hp =>
  h (.ref p) (S.lay p (.tup vs)) (Ext.lay hS.sub hp) (hS.lay _ hp) (rp_tup (hS.free hp) r)
theorem new_lst {K : PySem.W.Frag} {S : Sta} {μ : Sto} {Q : VK} {vs : List V} {ds : List D} (hS : HS K S μ) (r : RpA K S.F vs ds) (h : POk K S Q (.d (.list ds)) μ) : ∀ p, S.H p = none → Q (.ref p) (upd S.H p (.lst vs)) := fun p hp =>
  h (.ref p) (S.lay p (.lst vs)) (Ext.lay hS.sub hp) (hS.lay _ hp) (rp_lst (hS.free hp) r)
theorem POk.mono {K : PySem.W.Frag} {S S' : Sta} (e : Ext S S') {Q : VK} {w : Wv} {μ : Sto} (h : POk K S Q w μ) : POk K S' Q w μ := fun v T e' hs r => h v T (e.trans e') hs r
theorem c_tup {es : List Expr} {k pos} {g : FA} (h : CA X W es g) : CEx X W (.Tuple es k pos) (fTup g) := by
  obtain ⟨t, p, q⟩ := h
  refine ⟨_, pe_tup p, fun env σ S μ he hS Q h => ?_⟩
  unfold fTup at h
  rw [Rs.post_bind] at h
  refine q env σ S μ he hS _ (h.mono (fun ws μ1 h1 vs S1 e1 hS1 r1 => ?_) fun _ _ z => z)
  unfold mkSeq at h1
  cases hd : dats ws with
  | none => rw [hd] at h1; exact h1.elim
  | some ds =>
    rw [hd] at h1
    have r := rws_dats r1 hd
    by_cases hl : ds.length ≤ LIM
    · simp only [if_pos hl] at h1
      exact ⟨by rw [r.len]; exact lim_line hl, new_tup hS1 r (POk.mono e1 h1)⟩
    · simp only [if_neg hl] at h1
      exact h1.elim
theorem c_lst {es : List Expr} {pos} {g : FA} (h : CA X W es g) : CEx X W (.List es pos) (fLst g) := by
  obtain ⟨t, p, q⟩ := h
  refine ⟨_, pe_lst p, fun env σ S μ he hS Q h => ?_⟩
  unfold fLst at h
  rw [Rs.post_bind] at h
  refine q env σ S μ he hS _ (h.mono (fun ws μ1 h1 vs S1 e1 hS1 r1 => ?_) fun _ _ z => z)
  unfold mkSeq at h1
  cases hd : dats ws with
  | none => rw [hd] at h1; exact h1.elim
  | some ds =>
    rw [hd] at h1
    have r := rws_dats r1 hd
    by_cases hl : ds.length ≤ LIM
    · simp only [if_pos hl] at h1
      exact ⟨by rw [r.len]; exact lim_line hl, new_lst hS1 r (POk.mono e1 h1)⟩
    · simp only [if_neg hl] at h1
      exact h1.elim
end
end Ped

/-! Ped2: operators, comparisons, tests, places, built-in calls -/
namespace Ped
open PySem L2
section
variable {X : Cx} {W : WX}

/-! ### two operands -/
def fOp (h : Wv → Wv → Sto → Rs Wv) (f g : FE) : FE := fun env μ => (f env μ).bind fun x μ1 => (g env μ1).bind fun y μ2 => h x y μ2
def OkR (X : Cx) (r : R2) (h : Wv → Wv → Sto → Rs Wv) : Prop := ∀ x y v u S μ, HS X.K S μ → RW X.K S v x → RW X.K S u y → ∀ Q : VK, (h x y μ).Post (POk X.K S Q) (fun _ _ => False) → r v u S.H Q
theorem okr_or {r r' : R2} {h h' : Wv → Wv → Sto → Rs Wv} (a : OkR X r h) (b : OkR X r' h') {g : Wv → Wv → Sto → Rs Wv} (hg : ∀ x y μ, g x y μ = h x y μ ∨ g x y μ = h' x y μ) : OkR X (fun x y H Q => r x y H Q ∨ r' x y H Q) g :=
  fun x y v u S μ hS hx hy Q hp => by
    rcases hg x y μ with e | e
    · rw [e] at hp; exact .inl (a x y v u S μ hS hx hy Q hp)
    · rw [e] at hp; exact .inr (b x y v u S μ hS hx hy Q hp)
theorem rs_noex {α : Type} {r : Rs α} {P : α → Sto → Prop} {E : Exn → Sto → Prop} (h : r.Post P E) (hn : ∀ x μ, r ≠ .ex x μ) : r.Post P (fun _ _ => False) := by
  cases r with
  | ok a μ => exact h
  | ex x μ => exact absurd rfl (hn x μ)
  | no => exact h
/-- an operation that never raises -/
def NoEx (h : Wv → Wv → Sto → Rs Wv) : Prop := ∀ x y μ e ν, h x y μ ≠ .ex e ν
theorem op_core {ta tb : TE} {r : R2} {f g : FE} {h : Wv → Wv → Sto → Rs Wv} (ok : OkR X r h) (nx : NoEx h)
    (qa : ∀ env σ S μ, EnvR X.K X.N.length S env σ → HS X.K S μ → ∀ Q : VK, (f env μ).Post (POk X.K S Q) (PEx X.K W σ S) → ta σ S.H Q)
    (qb : ∀ env σ S μ, EnvR X.K X.N.length S env σ → HS X.K S μ → ∀ Q : VK, (g env μ).Post (POk X.K S Q) (PEx X.K W σ S) → tb σ S.H Q) :
    ∀ env σ S μ, EnvR X.K X.N.length S env σ → HS X.K S μ → ∀ Q : VK, (fOp h f g env μ).Post (POk X.K S Q) (PEx X.K W σ S) → tOp r ta tb σ S.H Q := fun env σ S μ he hS Q hp => by
  unfold fOp at hp
  rw [Rs.post_bind] at hp
  refine qa env σ S μ he hS _ (hp.mono (fun x μ1 h1 v S1 e1 hS1 r1 => ?_) fun _ _ z => z)
  rw [Rs.post_bind] at h1
  refine qb env σ S1 μ1 (he.mono e1) hS1 _ (h1.mono (fun y μ2 h2 u S2 e2 hS2 r2 => ?_) fun _ _ z => z.mono e1)
  exact ok x y v u S2 μ2 hS2 (r1.mono e2) r2 Q (rs_noex (h2.mono (fun a ν p => POk.mono (e1.trans e2) p) fun _ _ z => z) (nx x y μ2))
theorem c_op {op : Operator} {r : R2} {a b : Expr} {f g : FE} {h : Wv → Wv → Sto → Rs Wv} {pos : Pos} (ho : OpR X (binaryOp op) r) (ok : OkR X r h) (nx : NoEx h) (ha : CEx X W a f) (hb : CEx X W b g) : CEx X W (.BinOp a op b pos) (fOp h f g) := by
  obtain ⟨ta, pa, qa⟩ := ha
  obtain ⟨tb, pb, qb⟩ := hb
  exact ⟨_, pe_op ho pa pb, op_core ok nx qa qb⟩
theorem c_cmp {op : CmpOp} {r : R2} {a b : Expr} {f g : FE} {h : Wv → Wv → Sto → Rs Wv} {pos : Pos} (ho : OpR X (compareOp op) r) (ok : OkR X r h) (nx : NoEx h) (ha : CEx X W a f) (hb : CEx X W b g) (hm : behindInMarks op b = false) : CEx X W (.Compare a [op] [b] pos) (fOp h f g) := by
  obtain ⟨ta, pa, qa⟩ := ha
  obtain ⟨tb, pb, qb⟩ := hb
  exact ⟨_, pe_cmpR ho pa pb hm, op_core ok nx qa qb⟩
/-- a value that is a bool, as a test -/
def asB (w : Wv) (μ : Sto) : Rs Bool := match w with
  | .d (.bool b) => .ok b μ
  | _ => .no
def fB (f : FE) : FB := fun env μ => (f env μ).bind asB
theorem asB_post {w : Wv} {μ : Sto} {P : Bool → Sto → Prop} {E : Exn → Sto → Prop} (h : (asB w μ).Post P E) : ∃ b, w = .d (.bool b) ∧ P b μ := by
  cases w with
  | l n => exact h.elim
  | s n => exact h.elim
  | d x => cases x <;> first | exact ⟨_, rfl, h⟩ | exact h.elim
theorem b_core {t : TE} {f : FE} (q : ∀ env σ S μ, EnvR X.K X.N.length S env σ → HS X.K S μ → ∀ Q : VK, (f env μ).Post (POk X.K S Q) (PEx X.K W σ S) → t σ S.H Q) :
    ∀ env σ S μ, EnvR X.K X.N.length S env σ → HS X.K S μ → ∀ Q : Bool → Hp → Prop, (fB f env μ).Post (fun b μ' => ∀ S', Ext S S' → HS X.K S' μ' → Q b S'.H) (PEx X.K W σ S) → t σ S.H (fun x H1 => ∃ c, x = .bl c ∧ Q c H1) := fun env σ S μ he hS Q hp => by
  unfold fB at hp
  rw [Rs.post_bind] at hp
  refine q env σ S μ he hS _ (hp.mono (fun w μ1 h1 v S1 e1 hS1 r1 => ?_) fun _ _ z => z)
  obtain ⟨b, rfl, h2⟩ := asB_post h1
  cases r1
  exact ⟨b, rfl, h2 S1 e1 hS1⟩
theorem ct_cmp {op : CmpOp} {r : R2} {a b : Expr} {f g : FE} {h : Wv → Wv → Sto → Rs Wv} {pos : Pos} (ho : OpR X (compareOp op) r) (ok : OkR X r h) (nx : NoEx h) (ha : CEx X W a f) (hb : CEx X W b g) (hm : behindInMarks op b = false) : CT X W (.Compare a [op] [b] pos) (fB (fOp h f g)) := by
  obtain ⟨ta, pa, qa⟩ := ha
  obtain ⟨tb, pb, qb⟩ := hb
  exact ⟨_, pt_cmpR ho pa pb hm, b_core (op_core ok nx qa qb)⟩
/-- a name, a call, a bool: the test of its value -/
theorem ct_val {e : Expr} {f : FE} (h : CEx X W e f) (he : ∀ whole, isTrue e X.env whole = (do let v ← whole; standAt e.pos; holding [v] (truthy v)) := by intro _; rfl) : CT X W e (fB f) := by
  obtain ⟨t, p, q⟩ := h
  exact ⟨_, pt_val p he, b_core q⟩
def fNot (f : FB) : FB := fun env μ => (f env μ).bind fun b μ1 => .ok (!b) μ1
theorem ct_not {a : Expr} {f : FB} {pos : Pos} (h : CT X W a f) : CT X W (.UnaryOp .Not a pos) (fNot f) := by
  obtain ⟨t, p, q⟩ := h
  refine ⟨_, pt_not p, fun env σ S μ he hS Q hp => ?_⟩
  unfold fNot at hp
  rw [Rs.post_bind] at hp
  exact q env σ S μ he hS _ (hp.mono (fun b μ1 h1 S1 e1 hS1 => h1 S1 e1 hS1) fun _ _ z => z)
def fAnd (f g : FB) : FB := fun env μ => (f env μ).bind fun b μ1 => if b = true then g env μ1 else .ok false μ1
def fOr (f g : FB) : FB := fun env μ => (f env μ).bind fun b μ1 => if b = true then .ok true μ1 else g env μ1
theorem CW.ct {e : Expr} {f : FB} (h : CW X W e f) : CT X W e f := by
  obtain ⟨t, p, q⟩ := h
  exact ⟨t, p.pt, q⟩
theorem cw_and1 {a : Expr} {f : FB} {pos : Pos} (h : CT X W a f) : CW X W (.BoolOp .And [a] pos) f := by
  obtain ⟨t, p, q⟩ := h
  exact ⟨t, pw_and1 p, q⟩
theorem cw_or1 {a : Expr} {f : FB} {pos : Pos} (h : CT X W a f) : CW X W (.BoolOp .Or [a] pos) f := by
  obtain ⟨t, p, q⟩ := h
  exact ⟨t, pw_or1 p, q⟩
theorem cw_and {a b : Expr} {rest : List Expr} {f g : FB} {pos : Pos} (ha : CT X W a f) (hb : CW X W (.BoolOp .And (b :: rest) pos) g) : CW X W (.BoolOp .And (a :: b :: rest) pos) (fAnd f g) := by
  obtain ⟨ta, pa, qa⟩ := ha
  obtain ⟨tb, pb, qb⟩ := hb
  refine ⟨_, pw_and pa pb, fun env σ S μ he hS Q hp => ?_⟩
  unfold fAnd at hp
  rw [Rs.post_bind] at hp
  refine qa env σ S μ he hS _ (hp.mono (fun c μ1 h1 S1 e1 hS1 => ?_) fun _ _ z => z)
  cases c with
  | true =>
    rw [if_pos rfl] at h1 ⊢
    exact qb env σ S1 μ1 (he.mono e1) hS1 Q (h1.mono (fun c μ2 h2 S2 e2 hS2 => h2 S2 (e1.trans e2) hS2) fun _ _ z => z.mono e1)
  | false =>
    rw [if_neg Bool.false_ne_true] at h1 ⊢
    exact h1 S1 e1 hS1
theorem cw_or {a b : Expr} {rest : List Expr} {f g : FB} {pos : Pos} (ha : CT X W a f) (hb : CW X W (.BoolOp .Or (b :: rest) pos) g) : CW X W (.BoolOp .Or (a :: b :: rest) pos) (fOr f g) := by
  obtain ⟨ta, pa, qa⟩ := ha
  obtain ⟨tb, pb, qb⟩ := hb
  refine ⟨_, pw_or pa pb, fun env σ S μ he hS Q hp => ?_⟩
  unfold fOr at hp
  rw [Rs.post_bind] at hp
  refine qa env σ S μ he hS _ (hp.mono (fun c μ1 h1 S1 e1 hS1 => ?_) fun _ _ z => z)
  cases c with
  | true =>
    rw [if_pos rfl] at h1 ⊢
    exact h1 S1 e1 hS1
  | false =>
    rw [if_neg Bool.false_ne_true] at h1 ⊢
    exact qb env σ S1 μ1 (he.mono e1) hS1 Q (h1.mono (fun c μ2 h2 S2 e2 hS2 => h2 S2 (e1.trans e2) hS2) fun _ _ z => z.mono e1)
/-- and, or, not as values, of bools -/
def fV (f : FB) : FE := fun env μ => (f env μ).bind fun b μ1 => .ok (.d (.bool b)) μ1
def fAndV (f g : FE) : FE := fun env μ => (fB f env μ).bind fun b μ1 => if b = true then g env μ1 else .ok (.d (.bool false)) μ1
def fOrV (f g : FE) : FE := fun env μ => (fB f env μ).bind fun b μ1 => if b = true then .ok (.d (.bool true)) μ1 else g env μ1
def fNotV (f : FE) : FE := fun env μ => (fB f env μ).bind fun b μ1 => .ok (.d (.bool (!b))) μ1
theorem c_one {op} {a : Expr} {f : FE} {pos : Pos} (h : CEx X W a f) : CEx X W (.BoolOp op [a] pos) f := by
  obtain ⟨t, p, q⟩ := h
  exact ⟨t, pe_one p, q⟩
theorem c_and {a b : Expr} {rest : List Expr} {f g : FE} {pos : Pos} (ha : CEx X W a f) (hb : CEx X W (.BoolOp .And (b :: rest) pos) g) : CEx X W (.BoolOp .And (a :: b :: rest) pos) (fAndV f g) := by
  obtain ⟨ta, pa, qa⟩ := ha
  obtain ⟨tb, pb, qb⟩ := hb
  refine ⟨_, pe_and pa pb, fun env σ S μ he hS Q hp => ?_⟩
  unfold fAndV at hp
  rw [Rs.post_bind] at hp
  refine b_core qa env σ S μ he hS (fun c H1 => if c = true then tb σ H1 Q else Q (.bl false) H1) (hp.mono (fun c μ1 h1 S1 e1 hS1 => ?_) fun _ _ z => z)
  cases c with
  | true =>
    rw [if_pos rfl] at h1 ⊢
    exact qb env σ S1 μ1 (he.mono e1) hS1 Q (h1.mono (fun c μ2 h2 => POk.mono e1 h2) fun _ _ z => z.mono e1)
  | false =>
    rw [if_neg Bool.false_ne_true] at h1 ⊢
    exact h1 _ S1 e1 hS1 (.bl false)
theorem c_or {a b : Expr} {rest : List Expr} {f g : FE} {pos : Pos} (ha : CEx X W a f) (hb : CEx X W (.BoolOp .Or (b :: rest) pos) g) : CEx X W (.BoolOp .Or (a :: b :: rest) pos) (fOrV f g) := by
  obtain ⟨ta, pa, qa⟩ := ha
  obtain ⟨tb, pb, qb⟩ := hb
  refine ⟨_, pe_or pa pb, fun env σ S μ he hS Q hp => ?_⟩
  unfold fOrV at hp
  rw [Rs.post_bind] at hp
  refine b_core qa env σ S μ he hS (fun c H1 => if c = true then Q (.bl true) H1 else tb σ H1 Q) (hp.mono (fun c μ1 h1 S1 e1 hS1 => ?_) fun _ _ z => z)
  cases c with
  | true =>
    rw [if_pos rfl] at h1 ⊢
    exact h1 _ S1 e1 hS1 (.bl true)
  | false =>
    rw [if_neg Bool.false_ne_true] at h1 ⊢
    exact qb env σ S1 μ1 (he.mono e1) hS1 Q (h1.mono (fun c μ2 h2 => POk.mono e1 h2) fun _ _ z => z.mono e1)
theorem c_not {a : Expr} {f : FE} {pos : Pos} (h : CEx X W a f) : CEx X W (.UnaryOp .Not a pos) (fNotV f) := by
  obtain ⟨t, p, q⟩ := h
  refine ⟨_, pe_not p, fun env σ S μ he hS Q hp => ?_⟩
  unfold fNotV at hp
  rw [Rs.post_bind] at hp
  exact b_core q env σ S μ he hS (fun c H1 => Q (.bl (!c)) H1) (hp.mono (fun c μ1 h1 S1 e1 hS1 => h1 _ S1 e1 hS1 (.bl _)) fun _ _ z => z)
def fIf (c : FB) (f g : FE) : FE := fun env μ => (c env μ).bind fun b μ1 => if b = true then f env μ1 else g env μ1
theorem c_if {c a b : Expr} {h : FB} {f g : FE} {pos : Pos} (hc : CT X W c h) (ha : CEx X W a f) (hb : CEx X W b g) : CEx X W (.IfExp c a b pos) (fIf h f g) := by
  obtain ⟨tc, pc, qc⟩ := hc
  obtain ⟨ta, pa, qa⟩ := ha
  obtain ⟨tb, pb, qb⟩ := hb
  refine ⟨_, pe_ifExp pc pa pb, fun env σ S μ he hS Q hp => ?_⟩
  unfold fIf at hp
  rw [Rs.post_bind] at hp
  refine qc env σ S μ he hS _ (hp.mono (fun c μ1 h1 S1 e1 hS1 => ?_) fun _ _ z => z)
  cases c with
  | true =>
    rw [if_pos rfl] at h1 ⊢
    exact qa env σ S1 μ1 (he.mono e1) hS1 Q (h1.mono (fun c μ2 h2 => POk.mono e1 h2) fun _ _ z => z.mono e1)
  | false =>
    rw [if_neg Bool.false_ne_true] at h1 ⊢
    exact qb env σ S1 μ1 (he.mono e1) hS1 Q (h1.mono (fun c μ2 h2 => POk.mono e1 h2) fun _ _ z => z.mono e1)

/-! ### numbers -/
/-- an operation on two ints -/
def opI (h : Int → Int → Option D) (x y : Wv) (μ : Sto) : Rs Wv := match x, y with
  | .d (.int i), .d (.int j) => (match h i j with | some d => .ok (.d d) μ | none => .no)
  | _, _ => .no
@[simp] theorem opI_int (h : Int → Int → Option D) (i j : Int) (μ : Sto) : opI h (.d (.int i)) (.d (.int j)) μ = (match h i j with | some d => .ok (.d d) μ | none => .no) := rfl
theorem opI_nx (h : Int → Int → Option D) : NoEx (opI h) := fun x y μ e ν q => by
  unfold opI at q
  split at q
  · split at q <;> cases q
  · cases q
theorem opI_post {h : Int → Int → Option D} {x y : Wv} {μ : Sto} {P : Wv → Sto → Prop} {E : Exn → Sto → Prop} (p : (opI h x y μ).Post P E) : ∃ i j d, x = .d (.int i) ∧ y = .d (.int j) ∧ h i j = some d ∧ P (.d d) μ := by
  unfold opI at p
  split at p
  · split at p
    · exact ⟨_, _, _, rfl, rfl, by assumption, p⟩
    · exact p.elim
  · exact p.elim
theorem ok_I {C : Int → Int → Prop} [∀ i j, Decidable (C i j)] {g : Int → Int → Int} : OkR X (rI C fun i j => .int (g i j)) (opI fun i j => if C i j then some (.int (g i j)) else none) := fun x y v u S μ hS hx hy Q hp => by
  obtain ⟨i, j, d, rfl, rfl, e, p⟩ := opI_post hp
  cases hx
  cases hy
  by_cases hc : C i j
  · rw [if_pos hc] at e
    cases e
    exact ⟨i, j, rfl, rfl, hc, p _ S (Ext.refl S) hS (.int _)⟩
  · rw [if_neg hc] at e
    cases e
theorem ok_I0 {g : Int → Int → Int} : OkR X (rI0 fun i j => .int (g i j)) (opI fun i j => some (.int (g i j))) := fun x y v u S μ hS hx hy Q hp => by
  obtain ⟨i, j, d, rfl, rfl, e, p⟩ := opI_post hp
  cases hx
  cases hy
  cases e
  exact ⟨i, j, rfl, rfl, p _ S (Ext.refl S) hS (.int _)⟩
theorem ok_B0 {g : Int → Int → Bool} : OkR X (rI0 fun i j => .bl (g i j)) (opI fun i j => some (.bool (g i j))) := fun x y v u S μ hS hx hy Q hp => by
  obtain ⟨i, j, d, rfl, rfl, e, p⟩ := opI_post hp
  cases hx
  cases hy
  cases e
  exact ⟨i, j, rfl, rfl, p _ S (Ext.refl S) hS (.bl _)⟩
abbrev cmpW (g : Int → Int → Bool) : Wv → Wv → Sto → Rs Wv := opI fun i j => some (.bool (g i j))
section
variable {a b : Expr} {f g : FE} {pos : Pos}
theorem c_sub (ha : CEx X W a f) (hb : CEx X W b g) : CEx X W (.BinOp a .Sub b pos) (fOp (opI fun i j => some (.int (i - j))) f g) := c_op op_sub ok_I0 (opI_nx _) ha hb
instance (i j : Int) : Decidable (CMul i j) := by unfold CMul; infer_instance
instance (i j : Int) : Decidable (CPow i j) := by unfold CPow; infer_instance
theorem c_mulI (ha : CEx X W a f) (hb : CEx X W b g) : CEx X W (.BinOp a .Mult b pos) (fOp (opI fun i j => if CMul i j then some (.int (i * j)) else none) f g) := c_op op_mul ok_I (opI_nx _) ha hb
theorem c_pow (ha : CEx X W a f) (hb : CEx X W b g) : CEx X W (.BinOp a .Pow b pos) (fOp (opI fun i j => if CPow i j then some (.int (i ^ j.toNat)) else none) f g) := c_op op_pow ok_I (opI_nx _) ha hb
/-- i % j: of a positive j by Lean's % -/
def modI (i j : Int) : Option D := if 0 < j then some (.int (i % j)) else if j ≠ 0 then some (.int (i.fmod j)) else none
theorem c_mod (ha : CEx X W a f) (hb : CEx X W b g) : CEx X W (.BinOp a .Mod b pos) (fOp (opI modI) f g) := by
  refine c_op op_modN (fun x y v u S μ hS hx hy Q hp => ?_) (opI_nx _) ha hb
  obtain ⟨i, j, d, rfl, rfl, e, p⟩ := opI_post hp
  cases hx
  cases hy
  unfold modI at e
  by_cases hc : 0 < j
  · rw [if_pos hc] at e
    cases e
    refine ⟨i, j, rfl, rfl, by omega, ?_⟩
    show Q (.int (i.fmod j)) S.H
    rw [Int.fmod_eq_emod_of_nonneg i (show 0 ≤ j by omega)]
    exact p _ S (Ext.refl S) hS (.int _)
  · rw [if_neg hc] at e
    by_cases hz : j ≠ 0
    · rw [if_pos hz] at e
      cases e
      exact ⟨i, j, rfl, rfl, hz, p _ S (Ext.refl S) hS (.int _)⟩
    · rw [if_neg hz] at e
      cases e
/-- i // j: of a positive j by Lean's / -/
def divI (i j : Int) : Option D := if 0 < j ∧ j < 2 ^ 100 then some (.int (i / j)) else if j ≠ 0 ∧ j.natAbs < 1073741824 then some (.int (i.fdiv j)) else none
theorem c_div (ha : CEx X W a f) (hb : CEx X W b g) : CEx X W (.BinOp a .FloorDiv b pos) (fOp (opI divI) f g) := by
  refine c_op (OpR.or op_fdivW op_fdivN) (fun x y v u S μ hS hx hy Q hp => ?_) (opI_nx _) ha hb
  obtain ⟨i, j, d, rfl, rfl, e, p⟩ := opI_post hp
  cases hx
  cases hy
  unfold divI at e
  by_cases hc : 0 < j ∧ j < 2 ^ 100
  · rw [if_pos hc] at e
    cases e
    exact .inl ⟨i, j, rfl, rfl, wide_div (b := 101) hc.1 (by omega) (by decide) (by decide), p _ S (Ext.refl S) hS (.int _)⟩
  · rw [if_neg hc] at e
    by_cases hz : j ≠ 0 ∧ j.natAbs < 1073741824
    · rw [if_pos hz] at e
      cases e
      exact .inr ⟨i, j, rfl, rfl, hz, p _ S (Ext.refl S) hS (.int _)⟩
    · rw [if_neg hz] at e
      cases e
theorem c_lt (ha : CEx X W a f) (hb : CEx X W b g) : CEx X W (.Compare a [.Lt] [b] pos) (fOp (cmpW fun i j => decide (i < j)) f g) := c_cmp op_lt ok_B0 (opI_nx _) ha hb (nomark _)
theorem c_le (ha : CEx X W a f) (hb : CEx X W b g) : CEx X W (.Compare a [.LtE] [b] pos) (fOp (cmpW fun i j => decide (i ≤ j)) f g) := c_cmp op_le ok_B0 (opI_nx _) ha hb (nomark _)
theorem c_gt (ha : CEx X W a f) (hb : CEx X W b g) : CEx X W (.Compare a [.Gt] [b] pos) (fOp (cmpW fun i j => decide (j < i)) f g) := c_cmp op_gt ok_B0 (opI_nx _) ha hb (nomark _)
theorem c_ge (ha : CEx X W a f) (hb : CEx X W b g) : CEx X W (.Compare a [.GtE] [b] pos) (fOp (cmpW fun i j => decide (j ≤ i)) f g) := c_cmp op_ge ok_B0 (opI_nx _) ha hb (nomark _)
theorem ct_lt (ha : CEx X W a f) (hb : CEx X W b g) : CT X W (.Compare a [.Lt] [b] pos) (fB (fOp (cmpW fun i j => decide (i < j)) f g)) := ct_cmp op_lt ok_B0 (opI_nx _) ha hb (nomark _)
theorem ct_le (ha : CEx X W a f) (hb : CEx X W b g) : CT X W (.Compare a [.LtE] [b] pos) (fB (fOp (cmpW fun i j => decide (i ≤ j)) f g)) := ct_cmp op_le ok_B0 (opI_nx _) ha hb (nomark _)
theorem ct_gt (ha : CEx X W a f) (hb : CEx X W b g) : CT X W (.Compare a [.Gt] [b] pos) (fB (fOp (cmpW fun i j => decide (j < i)) f g)) := ct_cmp op_gt ok_B0 (opI_nx _) ha hb (nomark _)
theorem ct_ge (ha : CEx X W a f) (hb : CEx X W b g) : CT X W (.Compare a [.GtE] [b] pos) (fB (fOp (cmpW fun i j => decide (j ≤ i)) f g)) := ct_cmp op_ge ok_B0 (opI_nx _) ha hb (nomark _)

/-! ### sums of anything, products -/
def addW (x y : Wv) (μ : Sto) : Rs Wv := match x, y with
  | .d (.int i), .d (.int j) => .ok (.d (.int (i + j))) μ
  | .d (.str i), .d (.str j) => if i.length + j.length ≤ LIM then .ok (.d (.str (i ++ j))) μ else .no
  | .d (.tuple i), .d (.tuple j) => if i.length + j.length ≤ LIM then .ok (.d (.tuple (i ++ j))) μ else .no
  | .d (.list i), .d (.list j) => if i.length + j.length ≤ LIM then .ok (.d (.list (i ++ j))) μ else .no
  | _, _ => .no
theorem addW_nx : NoEx addW := fun x y μ e ν q => by
  unfold addW at q
  split at q <;> first | cases q | (split at q <;> cases q)
theorem rp_lst_inv {K : PySem.W.Frag} {F : Hp} {v : V} {ds : List D} (h : Rp K F v (.list ds)) : ∃ a xs, v = .ref a ∧ F a = some (.lst xs) ∧ RpA K F xs ds := by
  cases h with
  | lst h1 h2 => exact ⟨_, _, rfl, h1, h2⟩
theorem rp_tup_inv {K : PySem.W.Frag} {F : Hp} {v : V} {ds : List D} (h : Rp K F v (.tuple ds)) : ∃ a xs, v = .ref a ∧ F a = some (.tup xs) ∧ RpA K F xs ds := by
  cases h with
  | tup h1 h2 => exact ⟨_, _, rfl, h1, h2⟩
theorem ok_add : OkR X (fun x y H Q => (rI0 fun i j => .int (i + j)) x y H Q ∨ (∃ i j, x = .str i ∧ y = .str j ∧ i.length + j.length ≤ sizeLine ∧ Q (.str (i ++ j)) H) ∨ rCatA X.K x y H Q ∨ rCat x y H Q) addW := fun x y v u S μ hS hx hy Q hp => by
  unfold addW at hp
  split at hp
  · cases hx; cases hy
    exact .inl ⟨_, _, rfl, rfl, hp _ S (Ext.refl S) hS (.int _)⟩
  · split at hp
    · cases hx; cases hy
      exact .inr (.inl ⟨_, _, rfl, rfl, lim_line (by assumption), hp _ S (Ext.refl S) hS (.str _)⟩)
    · exact hp.elim
  · split at hp
    · obtain ⟨a, xs, rfl, ha, ra⟩ := rp_tup_inv hx
      obtain ⟨b, ys, rfl, hb, rb⟩ := rp_tup_inv hy
      refine .inr (.inr (.inl ⟨a, b, xs, ys, rfl, rfl, .inl (.inl (hS.sub _ _ ha)), .inl (.inl (hS.sub _ _ hb)), by rw [ra.len, rb.len]; exact lim_line (by assumption), fun e => ?_, fun _ e => ?_, fun _ _ => new_tup hS (ra.append rb) hp⟩))
      · subst e
        cases ra
        exact hp _ S (Ext.refl S) hS (.tup hb rb)
      · subst e
        cases rb
        exact hp _ S (Ext.refl S) hS (by rw [List.append_nil]; exact Rp.tup ha ra)
    · exact hp.elim
  · split at hp
    · obtain ⟨a, xs, rfl, ha, ra⟩ := rp_lst_inv hx
      obtain ⟨b, ys, rfl, hb, rb⟩ := rp_lst_inv hy
      exact .inr (.inr (.inr ⟨a, b, xs, ys, rfl, rfl, hS.sub _ _ ha, hS.sub _ _ hb, by rw [ra.len, rb.len]; exact lim_line (by assumption), new_lst hS (ra.append rb) hp⟩))
    · exact hp.elim
  · exact hp.elim
theorem c_add (ha : CEx X W a f) (hb : CEx X W b g) : CEx X W (.BinOp a .Add b pos) (fOp addW f g) := c_op (OpR.or op_add (OpR.or op_add_str (OpR.or op_catA op_cat))) ok_add addW_nx ha hb
def mulL (x y : Wv) (μ : Sto) : Rs Wv := match x, y with
  | .d (.list i), .d (.int k) => if -1000000 ≤ k ∧ k ≤ 1000000 ∧ i.length * k.toNat ≤ LIM then .ok (.d (.list (List.replicate k.toNat i).flatten)) μ else .no
  | _, _ => .no
theorem mulL_nx : NoEx mulL := fun x y μ e ν q => by
  unfold mulL at q
  split at q <;> first | cases q | (split at q <;> cases q)
theorem c_mulL (ha : CEx X W a f) (hb : CEx X W b g) : CEx X W (.BinOp a .Mult b pos) (fOp mulL f g) := by
  refine c_op op_rep (fun x y v u S μ hS hx hy Q hp => ?_) mulL_nx ha hb
  unfold mulL at hp
  split at hp
  · split at hp
    · rename_i hk
      obtain ⟨p, xs, rfl, ha, ra⟩ := rp_lst_inv hx
      cases hy
      exact ⟨p, _, xs, rfl, rfl, hS.sub _ _ ha, by omega, by omega, by rw [ra.len]; exact lim_line hk.2.2, new_lst hS (ra.rep _) hp⟩
    · exact hp.elim
  · exact hp.elim
def fNeg (f : FE) : FE := fun env μ => (f env μ).bind fun x μ1 => match x with
  | .d (.int i) => .ok (.d (.int (-i))) μ1
  | _ => .no
theorem c_neg (ha : CEx X W a f) : CEx X W (.UnaryOp .USub a pos) (fNeg f) := by
  obtain ⟨ta, pa, qa⟩ := ha
  refine ⟨_, pe_un un_neg pa, fun env σ S μ he hS Q hp => ?_⟩
  unfold fNeg at hp
  rw [Rs.post_bind] at hp
  refine qa env σ S μ he hS _ (hp.mono (fun x μ1 h1 v S1 e1 hS1 r1 => ?_) fun _ _ z => z)
  split at h1
  · cases r1
    exact ⟨_, rfl, h1 _ S1 e1 hS1 (.int _)⟩
  · exact h1.elim
end

/-! ### equal or not -/
def scalD : D → D → Bool
  | .none, .none => true | .none, .int _ => true | .int _, .none => true | .none, .bool _ => true | .bool _, .none => true | .none, .str _ => true | .str _, .none => true
  | .int _, .int _ => true | .bool _, .bool _ => true | .str _, .str _ => true
  | .int _, .str _ => true | .str _, .int _ => true | .bool _, .str _ => true | .str _, .bool _ => true
  | _, _ => false
def sameD : D → D → Bool
  | .none, .none => true
  | .int i, .int j => decide (i = j)
  | .bool i, .bool j => decide (i = j)
  | .str i, .str j => decide (i = j)
  | _, _ => false
def eqD (d e : D) : Option Bool := if scalD d e = true then some (sameD d e) else if SeqAt.shaped d = true ∧ SeqAt.shaped e = true then some (PyData.eqv d e) else none
def eqW (neg : Bool) (x y : Wv) (μ : Sto) : Rs Wv := match x, y with
  | .d d, .d e => (match eqD d e with | some b => .ok (.d (.bool (if neg then !b else b))) μ | none => .no)
  | _, _ => .no
theorem eqW_nx (neg : Bool) : NoEx (eqW neg) := fun x y μ e ν q => by
  unfold eqW at q
  split at q
  · split at q <;> cases q
  · cases q
theorem scal_of {K : PySem.W.Frag} {F : Hp} {v u : V} {d e : D} (h : scalD d e = true) (rv : Rp K F v d) (ru : Rp K F u e) : scal v u = true ∧ decide (v = u) = sameD d e := by
  cases rv <;> cases ru <;> first | (exact ⟨rfl, by simp [sameD]⟩) | exact absurd h Bool.false_ne_true
theorem ok_eq : OkR X (fun x y H Q => rEq x y H Q ∨ rEqD X.K x y H Q) (eqW false) := fun x y v u S μ hS hx hy Q hp => by
  unfold eqW at hp
  split at hp
  · rename_i d e
    unfold eqD at hp
    by_cases hs : scalD d e = true
    · rw [if_pos hs] at hp
      obtain ⟨h1, h2⟩ := scal_of hs hx hy
      exact .inl ⟨h1, by rw [h2]; exact hp _ S (Ext.refl S) hS (.bl _)⟩
    · rw [if_neg hs] at hp
      by_cases hh : SeqAt.shaped d = true ∧ SeqAt.shaped e = true
      · rw [if_pos hh] at hp
        exact .inr ⟨d, e, Rp.dp hS.sub _ _ hx, Rp.dp hS.sub _ _ hy, hh.1, hh.2, hp _ S (Ext.refl S) hS (.bl _)⟩
      · rw [if_neg hh] at hp
        exact hp.elim
  · exact hp.elim
theorem ok_ne : OkR X (fun x y H Q => rNe x y H Q ∨ rNeD X.K x y H Q) (eqW true) := fun x y v u S μ hS hx hy Q hp => by
  unfold eqW at hp
  split at hp
  · rename_i d e
    unfold eqD at hp
    by_cases hs : scalD d e = true
    · rw [if_pos hs] at hp
      obtain ⟨h1, h2⟩ := scal_of hs hx hy
      exact .inl ⟨h1, by rw [h2]; exact hp _ S (Ext.refl S) hS (.bl _)⟩
    · rw [if_neg hs] at hp
      by_cases hh : SeqAt.shaped d = true ∧ SeqAt.shaped e = true
      · rw [if_pos hh] at hp
        exact .inr ⟨d, e, Rp.dp hS.sub _ _ hx, Rp.dp hS.sub _ _ hy, hh.1, hh.2, hp _ S (Ext.refl S) hS (.bl _)⟩
      · rw [if_neg hh] at hp
        exact hp.elim
  · exact hp.elim
section
variable {a b : Expr} {f g : FE} {pos : Pos}
theorem c_eq (hu : X.A.units + 64 < cLine) (ha : CEx X W a f) (hb : CEx X W b g) : CEx X W (.Compare a [.Eq] [b] pos) (fOp (eqW false) f g) := c_cmp (OpR.or op_eq (op_eqD hu)) ok_eq (eqW_nx _) ha hb (nomark _)
theorem c_ne (hu : X.A.units + 64 < cLine) (ha : CEx X W a f) (hb : CEx X W b g) : CEx X W (.Compare a [.NotEq] [b] pos) (fOp (eqW true) f g) := c_cmp (OpR.or op_ne (op_neD hu)) ok_ne (eqW_nx _) ha hb (nomark _)
theorem ct_eq (hu : X.A.units + 64 < cLine) (ha : CEx X W a f) (hb : CEx X W b g) : CT X W (.Compare a [.Eq] [b] pos) (fB (fOp (eqW false) f g)) := ct_cmp (OpR.or op_eq (op_eqD hu)) ok_eq (eqW_nx _) ha hb (nomark _)
theorem ct_ne (hu : X.A.units + 64 < cLine) (ha : CEx X W a f) (hb : CEx X W b g) : CT X W (.Compare a [.NotEq] [b] pos) (fB (fOp (eqW true) f g)) := ct_cmp (OpR.or op_ne (op_neD hu)) ok_ne (eqW_nx _) ha hb (nomark _)
def isNoneD : D → Bool
  | .none => true
  | _ => false
/-- x is None -/
def isNW (neg : Bool) (x y : Wv) (μ : Sto) : Rs Wv := match x, y with
  | .d d, .d .none => .ok (.d (.bool (if neg then !isNoneD d else isNoneD d))) μ
  | _, _ => .no
theorem isNW_nx (neg : Bool) : NoEx (isNW neg) := fun x y μ e ν q => by
  unfold isNW at q
  split at q <;> cases q
theorem rp_non {K : PySem.W.Frag} {F : Hp} {v : V} {d : D} (h : Rp K F v d) : decide (v = .non) = isNoneD d := by
  cases h <;> rfl
theorem ok_isN : OkR X (fun x y H Q => y = .non ∧ Q (.bl (decide (x = .non))) H) (isNW false) := fun x y v u S μ hS hx hy Q hp => by
  unfold isNW at hp
  split at hp
  · rename_i d
    cases hy
    exact ⟨rfl, by rw [rp_non hx]; exact hp _ S (Ext.refl S) hS (.bl _)⟩
  · exact hp.elim
theorem ok_notN : OkR X (fun x y H Q => y = .non ∧ Q (.bl (!decide (x = .non))) H) (isNW true) := fun x y v u S μ hS hx hy Q hp => by
  unfold isNW at hp
  split at hp
  · rename_i d
    cases hy
    exact ⟨rfl, by rw [rp_non hx]; exact hp _ S (Ext.refl S) hS (.bl _)⟩
  · exact hp.elim
theorem c_is (ha : CEx X W a f) (hb : CEx X W b g) : CEx X W (.Compare a [.Is] [b] pos) (fOp (isNW false) f g) := c_cmp op_isN ok_isN (isNW_nx _) ha hb (nomark _)
theorem ct_is (ha : CEx X W a f) (hb : CEx X W b g) : CT X W (.Compare a [.Is] [b] pos) (fB (fOp (isNW false) f g)) := ct_cmp op_isN ok_isN (isNW_nx _) ha hb (nomark _)
theorem c_isnot (ha : CEx X W a f) (hb : CEx X W b g) : CEx X W (.Compare a [.IsNot] [b] pos) (fOp (isNW true) f g) := c_cmp op_notN ok_notN (isNW_nx _) ha hb (nomark _)
theorem ct_isnot (ha : CEx X W a f) (hb : CEx X W b g) : CT X W (.Compare a [.IsNot] [b] pos) (fB (fOp (isNW true) f g)) := ct_cmp op_notN ok_notN (isNW_nx _) ha hb (nomark _)

/-! ### in: flat items, data in a list -/
def flatD : D → Bool
  | .none => true | .bool _ => true | .int _ => true | .str _ => true
  | _ => false
theorem flat_of {K : PySem.W.Frag} {F : Hp} {v : V} {d : D} (h : Rp K F v d) : flatV v = flatD d := by cases h <;> rfl
theorem eqv_of {K : PySem.W.Frag} {F : Hp} {v u : V} {d e : D} (h : flatD d = true) (h' : flatD e = true) (rv : Rp K F v d) (ru : Rp K F u e) : eqV v u = PyData.eqv d e := by
  cases rv <;> cases ru <;> first | rfl | (simp [eqV, PyData.eqv]; done) | exact absurd h Bool.false_ne_true | exact absurd h' Bool.false_ne_true
theorem flats_of {K : PySem.W.Frag} {F : Hp} : ∀ {vs : List V} {ds : List D}, RpA K F vs ds → vs.all flatV = ds.all flatD
  | _, _, .nil => rfl
  | _, _, .cons r t => by rw [List.all_cons, List.all_cons, flat_of r, flats_of t]
theorem inV_of {K : PySem.W.Frag} {F : Hp} {v : V} {d : D} (h : flatD d = true) (rv : Rp K F v d) : ∀ {vs : List V} {ds : List D}, RpA K F vs ds → ds.all flatD = true → inV v vs = ds.any fun z => PyData.eqv z d
  | _, _, .nil, _ => rfl
  | _, _, .cons r t, ha => by
    rw [List.all_cons, Bool.and_eq_true] at ha
    show (eqV _ v || inV v _) = _
    rw [List.any_cons, inV_of h rv t ha.2, eqv_of ha.1 h r rv]
def inW (neg : Bool) (x y : Wv) (μ : Sto) : Rs Wv := match x, y with
  | .d d, .d (.tuple ds) => if flatD d = true ∧ ds.all flatD = true then .ok (.d (.bool (if neg then !(ds.any fun z => PyData.eqv z d) else ds.any fun z => PyData.eqv z d))) μ else .no
  | .d d, .d (.list ds) => if (flatD d = true ∧ ds.all flatD = true) ∨ (SeqAt.shaped d = true ∧ SeqAt.shaped (.list ds) = true) then .ok (.d (.bool (if neg then !(ds.any fun z => PyData.eqv z d) else ds.any fun z => PyData.eqv z d))) μ else .no
  | _, _ => .no
theorem inW_nx (neg : Bool) : NoEx (inW neg) := fun x y μ e ν q => by
  unfold inW at q
  split at q <;> first | cases q | (split at q <;> cases q)
theorem ok_in : OkR X (fun x y H Q => rIn X.K false x y H Q ∨ rInD X.K x y H Q) (inW false) := fun x y v u S μ hS hx hy Q hp => by
  unfold inW at hp
  split at hp
  · rename_i d ds
    split at hp
    · rename_i hf
      obtain ⟨p, xs, rfl, ha, ra⟩ := rp_tup_inv hy
      exact .inl ⟨p, xs, rfl, .inr (.inl (.inl (hS.sub _ _ ha))), by rw [flat_of hx]; exact hf.1, by rw [flats_of ra]; exact hf.2, hp _ S (Ext.refl S) hS (by rw [inV_of hf.1 hx ra hf.2]; exact .bl _)⟩
    · exact hp.elim
  · rename_i d ds
    split at hp
    · rename_i hf
      rcases hf with hf | hf
      · obtain ⟨p, xs, rfl, ha, ra⟩ := rp_lst_inv hy
        exact .inl ⟨p, xs, rfl, .inl (.inl (.inl (hS.sub _ _ ha))), by rw [flat_of hx]; exact hf.1, by rw [flats_of ra]; exact hf.2, hp _ S (Ext.refl S) hS (by rw [inV_of hf.1 hx ra hf.2]; exact .bl _)⟩
      · exact .inr ⟨d, ds, Rp.dp hS.sub _ _ hx, Rp.dp hS.sub _ _ hy, hf.1, hf.2, hp _ S (Ext.refl S) hS (.bl _)⟩
    · exact hp.elim
  · exact hp.elim
theorem ok_notin : OkR X (fun x y H Q => rIn X.K true x y H Q ∨ rNotInD X.K x y H Q) (inW true) := fun x y v u S μ hS hx hy Q hp => by
  unfold inW at hp
  split at hp
  · rename_i d ds
    split at hp
    · rename_i hf
      obtain ⟨p, xs, rfl, ha, ra⟩ := rp_tup_inv hy
      exact .inl ⟨p, xs, rfl, .inr (.inl (.inl (hS.sub _ _ ha))), by rw [flat_of hx]; exact hf.1, by rw [flats_of ra]; exact hf.2, hp _ S (Ext.refl S) hS (by rw [inV_of hf.1 hx ra hf.2]; exact .bl _)⟩
    · exact hp.elim
  · rename_i d ds
    split at hp
    · rename_i hf
      rcases hf with hf | hf
      · obtain ⟨p, xs, rfl, ha, ra⟩ := rp_lst_inv hy
        exact .inl ⟨p, xs, rfl, .inl (.inl (.inl (hS.sub _ _ ha))), by rw [flat_of hx]; exact hf.1, by rw [flats_of ra]; exact hf.2, hp _ S (Ext.refl S) hS (by rw [inV_of hf.1 hx ra hf.2]; exact .bl _)⟩
      · exact .inr ⟨d, ds, Rp.dp hS.sub _ _ hx, Rp.dp hS.sub _ _ hy, hf.1, hf.2, hp _ S (Ext.refl S) hS (.bl _)⟩
    · exact hp.elim
  · exact hp.elim
theorem c_in (hu : X.A.units + 65 < cLine) (ha : CEx X W a f) (hb : CEx X W b g) (hm : behindInMarks .In b = false := by rfl) : CEx X W (.Compare a [.In] [b] pos) (fOp (inW false) f g) := c_cmp (OpR.or op_in_seq (op_inD hu)) ok_in (inW_nx _) ha hb hm
theorem ct_in (hu : X.A.units + 65 < cLine) (ha : CEx X W a f) (hb : CEx X W b g) (hm : behindInMarks .In b = false := by rfl) : CT X W (.Compare a [.In] [b] pos) (fB (fOp (inW false) f g)) := ct_cmp (OpR.or op_in_seq (op_inD hu)) ok_in (inW_nx _) ha hb hm
theorem c_notin (hu : X.A.units + 65 < cLine) (ha : CEx X W a f) (hb : CEx X W b g) (hm : behindInMarks .NotIn b = false := by rfl) : CEx X W (.Compare a [.NotIn] [b] pos) (fOp (inW true) f g) := c_cmp (OpR.or op_notIn_seq (op_notInD hu)) ok_notin (inW_nx _) ha hb hm
theorem ct_notin (hu : X.A.units + 65 < cLine) (ha : CEx X W a f) (hb : CEx X W b g) (hm : behindInMarks .NotIn b = false := by rfl) : CT X W (.Compare a [.NotIn] [b] pos) (fB (fOp (inW true) f g)) := ct_cmp (OpR.or op_notIn_seq (op_notInD hu)) ok_notin (inW_nx _) ha hb hm
end
end
end Ped

/-! Ped3: places, slices, chains, built-in calls, calls of defs -/
namespace Ped
open PySem L2
section
variable {X : Cx} {W : WX}

/-! ### places -/
def ixW (x y : Wv) (μ : Sto) : Rs Wv := match x, y with
  | .d (.list xs), .d (.int i) => (match atI xs i with | some d => .ok (.d d) μ | none => .no)
  | .d (.tuple xs), .d (.int i) => (match atI xs i with | some d => .ok (.d d) μ | none => .no)
  | .l n, .d (.int i) => (match μ[n]? with
    | some (.lst ws) => (match atI ws i with | some w => .ok w μ | none => .no)
    | _ => .no)
  | .s ns, .d (.int i) => (match atI ns i with | some k => .ok (.d (.int k)) μ | none => .no)
  | _, _ => .no
theorem ixW_nx : NoEx ixW := fun x y μ e ν q => by
  unfold ixW at q
  split at q
  · split at q <;> cases q
  · split at q <;> cases q
  · split at q
    · split at q <;> cases q
    · cases q
  · split at q <;> cases q
  · cases q
theorem atI_len {α β : Type} {xs : List α} {ys : List β} (h : xs.length = ys.length) (i : Int) : ixN xs.length i = ixN ys.length i := by rw [h]
theorem atI_some {α : Type} {xs : List α} {i : Int} {v : α} (h : atI xs i = some v) : ∃ j, ixN xs.length i = some j ∧ xs[j]? = some v := by
  unfold atI at h
  cases e : ixN xs.length i with
  | none => rw [e] at h; cases h
  | some j => rw [e] at h; exact ⟨j, rfl, h⟩
theorem atI_of {α : Type} {xs : List α} {i : Int} {j : Nat} {v : α} (h : ixN xs.length i = some j) (hv : xs[j]? = some v) : atI xs i = some v := by
  unfold atI
  rw [h]
  exact hv
theorem rpA_at {K : PySem.W.Frag} {F : Hp} {vs : List V} {ds : List D} {i : Int} {d : D} (r : RpA K F vs ds) (h : atI ds i = some d) : ∃ v, atI vs i = some v ∧ Rp K F v d := by
  obtain ⟨j, h1, h2⟩ := atI_some h
  obtain ⟨v, h3, h4⟩ := r.get h2
  exact ⟨v, atI_of (by rw [r.len]; exact h1) h3, h4⟩
theorem rws_get {K : PySem.W.Frag} {S : Sta} : ∀ {vs : List V} {ws : List Wv} {i : Nat} {d : Wv}, RWs K S vs ws → ws[i]? = some d → ∃ v, vs[i]? = some v ∧ RW K S v d
  | _, _, _, _, .nil, e => by simp at e
  | _, _, 0, _, .cons r _, e => by simp at e; subst e; exact ⟨_, rfl, r⟩
  | _, _, i + 1, d, .cons _ t, e => by
    obtain ⟨v, h1, h2⟩ := rws_get (i := i) (d := d) t (by simpa using e)
    exact ⟨v, by simpa using h1, h2⟩
theorem rws_at {K : PySem.W.Frag} {S : Sta} {vs : List V} {ws : List Wv} {i : Int} {d : Wv} (r : RWs K S vs ws) (h : atI ws i = some d) : ∃ v, atI vs i = some v ∧ RW K S v d := by
  obtain ⟨j, h1, h2⟩ := atI_some h
  obtain ⟨v, h3, h4⟩ := rws_get r h2
  exact ⟨v, atI_of (by rw [rws_len r]; exact h1) h3, h4⟩
theorem ok_ix : OkR X (rIx X.K) ixW := fun x y v u S μ hS hx hy Q hp => by
  unfold ixW at hp
  split at hp
  · rename_i xs i
    split at hp
    · obtain ⟨p, vs, rfl, ha, ra⟩ := rp_lst_inv hx
      cases hy
      obtain ⟨w, h1, h2⟩ := rpA_at ra (by assumption)
      exact .inl ⟨p, vs, i, w, rfl, rfl, .inl (.inl (hS.sub _ _ ha)), h1, hp _ S (Ext.refl S) hS h2⟩
    · exact hp.elim
  · rename_i xs i
    split at hp
    · obtain ⟨p, vs, rfl, ha, ra⟩ := rp_tup_inv hx
      cases hy
      obtain ⟨w, h1, h2⟩ := rpA_at ra (by assumption)
      exact .inr (.inl ⟨p, vs, i, w, rfl, rfl, .inl (.inl (hS.sub _ _ ha)), h1, hp _ S (Ext.refl S) hS h2⟩)
    · exact hp.elim
  · rename_i n i
    obtain ⟨a, hL, rfl⟩ := hx
    cases hy
    split at hp
    · rename_i ws hm
      split at hp
      · obtain ⟨vs, h1, h2⟩ := hS.ob n a _ hL hm
        obtain ⟨w, h3, h4⟩ := rws_at h2 (by assumption)
        exact .inl ⟨a, vs, i, w, rfl, rfl, .inl (.inl h1), h3, hp _ S (Ext.refl S) hS h4⟩
      · exact hp.elim
    · exact hp.elim
  · rename_i ns i
    obtain ⟨a, hL, rfl⟩ := hx
    cases hy
    split at hp
    · rename_i k hk
      obtain ⟨j, h3, h4⟩ := atI_some hk
      exact .inl ⟨a, ns.map V.int, i, .int k, rfl, rfl, sb_l hS.sub hL, atI_of (by rw [List.length_map]; exact h3) (by rw [List.getElem?_map, h4]; rfl), hp _ S (Ext.refl S) hS (.int k)⟩
    · exact hp.elim
  · exact hp.elim
theorem c_ix {a b : Expr} {f g : FE} {pos : Pos} (ha : CEx X W a f) (hb : CEx X W b g) (hs : PlainIx b := by intro _ _; rfl) : CEx X W (.Subscript a b pos) (fOp ixW f g) := by
  obtain ⟨ta, pa, qa⟩ := ha
  obtain ⟨tb, pb, qb⟩ := hb
  exact ⟨_, pe_ix ix_seq pa pb hs, op_core ok_ix ixW_nx qa qb⟩

/-! ### slices -/
def FO := Env → Sto → Rs (Option Int)
def CO (X : Cx) (W : WX) (e : Option Expr) (f : FO) : Prop := ∃ t : TO, PO X e t ∧ ∀ env σ S μ, EnvR X.K X.N.length S env σ → HS X.K S μ → ∀ Q : Option Int → Hp → Prop, (f env μ).Post (fun o μ' => ∀ S', Ext S S' → HS X.K S' μ' → Q o S'.H) (PEx X.K W σ S) → t σ S.H Q
def fO0 : FO := fun _ μ => .ok none μ
def fO1 (f : FE) : FO := fun env μ => (f env μ).bind fun w μ1 => match w with
  | .d (.int i) => .ok (some i) μ1
  | _ => .no
theorem co_none : CO X W none fO0 := ⟨_, po_none, fun _ _ S _ _ hs _ h => h S (Ext.refl S) hs⟩
theorem co_some {e : Expr} {f : FE} (h : CEx X W e f) : CO X W (some e) (fO1 f) := by
  obtain ⟨t, p, q⟩ := h
  refine ⟨_, po_some p, fun env σ S μ he hS Q hp => ?_⟩
  unfold fO1 at hp
  rw [Rs.post_bind] at hp
  refine q env σ S μ he hS _ (hp.mono (fun w μ1 h1 v S1 e1 hS1 r1 => ?_) fun _ _ z => z)
  split at h1
  · cases r1
    exact ⟨_, rfl, h1 S1 e1 hS1⟩
  · exact h1.elim
/-- the items of xs[lo:hi] -/
def cut {α : Type} (xs : List α) (lo hi : Option Int) : List α := (xs.drop (HT.sIx xs.length 0 lo)).take (HT.sIx xs.length xs.length hi - HT.sIx xs.length 0 lo)
theorem cut_V (xs : List V) (lo hi : Option Int) : cutV xs lo hi = cut xs lo hi := rfl
theorem rpA_cut {K : PySem.W.Frag} {F : Hp} {vs : List V} {ds : List D} (r : RpA K F vs ds) (lo hi : Option Int) : RpA K F (cutV vs lo hi) (cut ds lo hi) := by
  unfold cutV cut
  rw [r.len]
  exact (r.drop _).take _
theorem cut_all {α : Type} {xs : List α} {lo hi : Option Int} (h : HT.sIx xs.length 0 lo = 0 ∧ HT.sIx xs.length xs.length hi = xs.length) : cut xs lo hi = xs := by
  unfold cut
  rw [h.1, h.2]
  simp
def slW (x : Wv) (lo hi : Option Int) (μ : Sto) : Rs Wv := match x with
  | .d (.list xs) => .ok (.d (.list (cut xs lo hi))) μ
  | .d (.tuple xs) => .ok (.d (.tuple (cut xs lo hi))) μ
  | .d (.str z) => if z.length ≤ LIM then .ok (.d (.str (cutS z lo hi))) μ else .no
  | _ => .no
def fSl (f : FE) (g h : FO) : FE := fun env μ => (f env μ).bind fun x μ1 => (g env μ1).bind fun lo μ2 => (h env μ2).bind fun hi μ3 => slW x lo hi μ3
theorem c_slice {e : Expr} {lo hi : Option Expr} {f : FE} {g h : FO} {p2 pos : Pos} (he : CEx X W e f) (hl : CO X W lo g) (hh : CO X W hi h) : CEx X W (.Subscript e (.Slice lo hi none p2) pos) (fSl f g h) := by
  obtain ⟨te, pe, qe⟩ := he
  obtain ⟨tl, pl, ql⟩ := hl
  obtain ⟨th, ph, qh⟩ := hh
  refine ⟨_, pe_slice (SlR.or sl_list (SlR.or sl_tupA sl_str)) pe pl ph, fun env σ S μ he hS Q hp => ?_⟩
  unfold fSl at hp
  rw [Rs.post_bind] at hp
  refine qe env σ S μ he hS _ (hp.mono (fun x μ1 h1 v S1 e1 hS1 r1 => ?_) fun _ _ z => z)
  rw [Rs.post_bind] at h1
  refine ql env σ S1 μ1 (he.mono e1) hS1 _ (h1.mono (fun o μ2 h2 S2 e2 hS2 => ?_) fun _ _ z => z.mono e1)
  rw [Rs.post_bind] at h2
  refine qh env σ S2 μ2 (he.mono (e1.trans e2)) hS2 _ (h2.mono (fun o' μ3 h3 S3 e3 hS3 => ?_) fun _ _ z => z.mono (e1.trans e2))
  have r3 := r1.mono (e2.trans e3)
  have k := e1.trans (e2.trans e3)
  unfold slW at h3
  split at h3
  · obtain ⟨a, xs, rfl, ha, ra⟩ := rp_lst_inv r3
    exact .inl ⟨a, xs, rfl, .inl (.inl (hS3.sub _ _ ha)), new_lst hS3 (rpA_cut ra o o') (POk.mono k h3)⟩
  · obtain ⟨a, xs, rfl, ha, ra⟩ := rp_tup_inv r3
    refine .inr (.inl ⟨a, xs, rfl, .inl (.inl (hS3.sub _ _ ha)), fun hw => ?_, fun _ => new_tup hS3 (rpA_cut ra o o') (POk.mono k h3)⟩)
    rw [ra.len] at hw
    rw [cut_all hw] at h3
    exact h3 _ S3 k hS3 (.tup ha ra)
  · split at h3
    · cases r3
      exact .inr (.inr ⟨_, rfl, lim_line (by assumption), h3 _ S3 k hS3 (.str _)⟩)
    · exact h3.elim
  · exact h3.elim

/-! ### a op b op c -/
def fChain (h h' : Wv → Wv → Sto → Rs Wv) (f g k : FE) : FE := fun env μ => (f env μ).bind fun x μ1 => (g env μ1).bind fun y μ2 => ((h x y μ2).bind asB).bind fun b μ3 => if b = true then (k env μ3).bind fun z μ4 => h' y z μ4 else .ok (.d (.bool false)) μ3
theorem chain_core {ta tb tc : TE} {r r' : R2} {f g k : FE} {h h' : Wv → Wv → Sto → Rs Wv} (ok : OkR X r h) (nx : NoEx h) (ok' : OkR X r' h') (nx' : NoEx h')
    (qa : ∀ env σ S μ, EnvR X.K X.N.length S env σ → HS X.K S μ → ∀ Q : VK, (f env μ).Post (POk X.K S Q) (PEx X.K W σ S) → ta σ S.H Q)
    (qb : ∀ env σ S μ, EnvR X.K X.N.length S env σ → HS X.K S μ → ∀ Q : VK, (g env μ).Post (POk X.K S Q) (PEx X.K W σ S) → tb σ S.H Q)
    (qc : ∀ env σ S μ, EnvR X.K X.N.length S env σ → HS X.K S μ → ∀ Q : VK, (k env μ).Post (POk X.K S Q) (PEx X.K W σ S) → tc σ S.H Q) :
    ∀ env σ S μ, EnvR X.K X.N.length S env σ → HS X.K S μ → ∀ Q : VK, (fChain h h' f g k env μ).Post (POk X.K S Q) (PEx X.K W σ S) → tChain r r' ta tb tc σ S.H Q := fun env σ S μ he hS Q hp => by
  unfold fChain at hp
  rw [Rs.post_bind] at hp
  refine qa env σ S μ he hS _ (hp.mono (fun x μ1 h1 v S1 e1 hS1 r1 => ?_) fun _ _ z => z)
  rw [Rs.post_bind] at h1
  refine qb env σ S1 μ1 (he.mono e1) hS1 _ (h1.mono (fun y μ2 h2 u S2 e2 hS2 r2 => ?_) fun _ _ z => z.mono e1)
  rw [Rs.post_bind, Rs.post_bind] at h2
  refine ok x y v u S2 μ2 hS2 (r1.mono e2) r2 _ (rs_noex (h2.mono (fun w μ3 h3 z S3 e3 hS3 r3 => ?_) fun _ _ z => z) (nx x y μ2))
  obtain ⟨b, rfl, h4⟩ := asB_post h3
  cases r3
  refine ⟨b, rfl, ?_⟩
  cases b with
  | true =>
    rw [if_pos rfl] at h4 ⊢
    rw [Rs.post_bind] at h4
    refine qc env σ S3 μ3 (he.mono (e1.trans (e2.trans e3))) hS3 _ (h4.mono (fun z μ4 h5 w S4 e4 hS4 r4 => ?_) fun _ _ z => z.mono (e1.trans (e2.trans e3)))
    exact ok' y z u w S4 μ4 hS4 (r2.mono (e3.trans e4)) r4 Q (rs_noex (h5.mono (fun a ν p => POk.mono (e1.trans (e2.trans (e3.trans e4))) p) fun _ _ z => z) (nx' y z μ4))
  | false =>
    rw [if_neg Bool.false_ne_true] at h4 ⊢
    exact h4 _ S3 (e1.trans (e2.trans e3)) hS3 (.bl false)
section
variable {op op' : CmpOp} {a b c : Expr} {f g k : FE} {pos : Pos} {r r' : R2} {h h' : Wv → Wv → Sto → Rs Wv}
theorem c_chain (ho : OpR X (compareOp op) r) (ok : OkR X r h) (nx : NoEx h) (ho' : OpR X (compareOp op') r') (ok' : OkR X r' h') (nx' : NoEx h') (ha : CEx X W a f) (hb : CEx X W b g) (hc : CEx X W c k) (hm : lastMarks [op, op'] [b, c] = false := by with_unfolding_all rfl) :
    CEx X W (.Compare a [op, op'] [b, c] pos) (fChain h h' f g k) := by
  obtain ⟨ta, pa, qa⟩ := ha
  obtain ⟨tb, pb, qb⟩ := hb
  obtain ⟨tc, pc, qc⟩ := hc
  exact ⟨_, pe_chain ho ho' pa pb pc hm, chain_core ok nx ok' nx' qa qb qc⟩
theorem ct_chain (ho : OpR X (compareOp op) r) (ok : OkR X r h) (nx : NoEx h) (ho' : OpR X (compareOp op') r') (ok' : OkR X r' h') (nx' : NoEx h') (ha : CEx X W a f) (hb : CEx X W b g) (hc : CEx X W c k) (hm : lastMarks [op, op'] [b, c] = false := by with_unfolding_all rfl) :
    CT X W (.Compare a [op, op'] [b, c] pos) (fB (fChain h h' f g k)) := by
  obtain ⟨ta, pa, qa⟩ := ha
  obtain ⟨tb, pb, qb⟩ := hb
  obtain ⟨tc, pc, qc⟩ := hc
  exact ⟨_, pt_chain ho ho' pa pb pc hm, b_core (chain_core ok nx ok' nx' qa qb qc)⟩
abbrev leW := cmpW fun i j => decide (i ≤ j)
abbrev ltW := cmpW fun i j => decide (i < j)
theorem c_lele (ha : CEx X W a f) (hb : CEx X W b g) (hc : CEx X W c k) (hm : lastMarks [.LtE, .LtE] [b, c] = false := by with_unfolding_all rfl) : CEx X W (.Compare a [.LtE, .LtE] [b, c] pos) (fChain leW leW f g k) := c_chain op_le ok_B0 (opI_nx _) op_le ok_B0 (opI_nx _) ha hb hc hm
theorem c_lelt (ha : CEx X W a f) (hb : CEx X W b g) (hc : CEx X W c k) (hm : lastMarks [.LtE, .Lt] [b, c] = false := by with_unfolding_all rfl) : CEx X W (.Compare a [.LtE, .Lt] [b, c] pos) (fChain leW ltW f g k) := c_chain op_le ok_B0 (opI_nx _) op_lt ok_B0 (opI_nx _) ha hb hc hm
theorem ct_lele (ha : CEx X W a f) (hb : CEx X W b g) (hc : CEx X W c k) (hm : lastMarks [.LtE, .LtE] [b, c] = false := by with_unfolding_all rfl) : CT X W (.Compare a [.LtE, .LtE] [b, c] pos) (fB (fChain leW leW f g k)) := ct_chain op_le ok_B0 (opI_nx _) op_le ok_B0 (opI_nx _) ha hb hc hm
theorem ct_lelt (ha : CEx X W a f) (hb : CEx X W b g) (hc : CEx X W c k) (hm : lastMarks [.LtE, .Lt] [b, c] = false := by with_unfolding_all rfl) : CT X W (.Compare a [.LtE, .Lt] [b, c] pos) (fB (fChain leW ltW f g k)) := ct_chain op_le ok_B0 (opI_nx _) op_lt ok_B0 (opI_nx _) ha hb hc hm
end

/-! ### built-in calls -/
abbrev TCall := List V → Hp → VK → Prop
def OkC (X : Cx) (r : TCall) (h : List Wv → Sto → Rs Wv) : Prop := ∀ ws vs S μ, HS X.K S μ → RWs X.K S vs ws → ∀ Q : VK, (h ws μ).Post (POk X.K S Q) (fun _ _ => False) → r vs S.H Q
def NoExC (h : List Wv → Sto → Rs Wv) : Prop := ∀ ws μ e ν, h ws μ ≠ .ex e ν
def fCall (h : List Wv → Sto → Rs Wv) (g : FA) : FE := fun env μ => (g env μ).bind h
theorem call_core {r : TCall} {t : TA} {h : List Wv → Sto → Rs Wv} {g : FA} (ok : OkC X r h) (nx : NoExC h)
    (q : ∀ env σ S μ, EnvR X.K X.N.length S env σ → HS X.K S μ → ∀ Q : List V → Hp → Prop, (g env μ).Post (fun ws μ' => ∀ vs S', Ext S S' → HS X.K S' μ' → RWs X.K S' vs ws → Q vs S'.H) (PEx X.K W σ S) → t σ S.H Q) :
    ∀ env σ S μ, EnvR X.K X.N.length S env σ → HS X.K S μ → ∀ Q : VK, (fCall h g env μ).Post (POk X.K S Q) (PEx X.K W σ S) → tCB r t σ S.H Q := fun env σ S μ he hS Q hp => by
  unfold fCall at hp
  rw [Rs.post_bind] at hp
  refine q env σ S μ he hS _ (hp.mono (fun ws μ1 h1 vs S1 e1 hS1 r1 => ?_) fun _ _ z => z)
  exact ok ws vs S1 μ1 hS1 r1 Q (rs_noex (h1.mono (fun a ν p => POk.mono e1 p) fun _ _ z => z) (nx ws μ1))
section
variable {x : Str} {p pos : Pos} {e : Expr} {es : List Expr} {id : String} {T : String} {g : FA} {r : TCall} {h : List Wv → Sto → Rs Wv}
theorem c_callB (hc : CallR X (.builtin id) r) (ok : OkC X r h) (nx : NoExC h) (hg : Gl X x) (hm : X.mg x = none) (hv : bootBuiltins x = some (.builtin id)) (ha : CA X W (e :: es) g) (hn : x ≠ "__name__" := by decide) (hdb : (x == ("__debug__" : Str)) = false := by decide)
    (he : starEach (e :: es) X.env = (false, eval e X.env) :: starEach es X.env := by rfl) (hpl : (backTo pos (starEach es X.env)).any (·.1) = false := by rfl) : CEx X W (.Call (.Name x p) (e :: es) [] pos) (fCall h g) := by
  obtain ⟨t, pa, q⟩ := ha
  exact ⟨_, pe_callB hc hg hm hv pa hn hdb he hpl, call_core ok nx q⟩
theorem c_callTy (hc : CallR X (.type T) r) (ok : OkC X r h) (nx : NoExC h) (hg : Gl X x) (hm : X.mg x = none) (hv : bootBuiltins x = some (.type T)) (ha : CA X W (e :: es) g) (hn : x ≠ "__name__" := by decide) (hdb : (x == ("__debug__" : Str)) = false := by decide)
    (he : starEach (e :: es) X.env = (false, eval e X.env) :: starEach es X.env := by rfl) (hpl : (backTo pos (starEach es X.env)).any (·.1) = false := by rfl) : CEx X W (.Call (.Name x p) (e :: es) [] pos) (fCall h g) := by
  obtain ⟨t, pa, q⟩ := ha
  exact ⟨_, pe_callTy hc hg hm hv pa hn hdb he hpl, call_core ok nx q⟩
end
/-- a built-in of ints alone -/
def k1I (h : Int → D) (ws : List Wv) (μ : Sto) : Rs Wv := match ws with
  | [.d (.int i)] => .ok (.d (h i)) μ
  | _ => .no
def k2I (h : Int → Int → D) (ws : List Wv) (μ : Sto) : Rs Wv := match ws with
  | [.d (.int i), .d (.int j)] => .ok (.d (h i j)) μ
  | _ => .no
theorem k1I_nx (h : Int → D) : NoExC (k1I h) := fun ws μ e ν q => by
  unfold k1I at q
  split at q <;> cases q
theorem k2I_nx (h : Int → Int → D) : NoExC (k2I h) := fun ws μ e ν q => by
  unfold k2I at q
  split at q <;> cases q
theorem rws1 {K : PySem.W.Frag} {S : Sta} {vs : List V} {w : Wv} (h : RWs K S vs [w]) : ∃ v, vs = [v] ∧ RW K S v w := by
  cases h with
  | cons r t => cases t; exact ⟨_, rfl, r⟩
theorem rws2 {K : PySem.W.Frag} {S : Sta} {vs : List V} {w z : Wv} (h : RWs K S vs [w, z]) : ∃ v u, vs = [v, u] ∧ RW K S v w ∧ RW K S u z := by
  cases h with
  | cons r t =>
    obtain ⟨u, rfl, q⟩ := rws1 t
    exact ⟨_, _, rfl, r, q⟩
def kAbs := k1I fun i => .int (if i < 0 then -i else i)
def kMax2 := k2I fun i j => .int (if j > i then j else i)
def kMin2 := k2I fun i j => .int (if j < i then j else i)
theorem ok_abs : OkC X (fun xs H Q => ∃ i, xs = [.int i] ∧ Q (.int (if i < 0 then -i else i)) H) kAbs := fun ws vs S μ hS r Q hp => by
  unfold kAbs k1I at hp
  split at hp
  · obtain ⟨v, rfl, h⟩ := rws1 r
    cases h
    exact ⟨_, rfl, hp _ S (Ext.refl S) hS (.int _)⟩
  · exact hp.elim
theorem ok_max2 : OkC X (fun xs H Q => ∃ i j, xs = [.int i, .int j] ∧ Q (.int (if j > i then j else i)) H) kMax2 := fun ws vs S μ hS r Q hp => by
  unfold kMax2 k2I at hp
  split at hp
  · obtain ⟨v, u, rfl, h1, h2⟩ := rws2 r
    cases h1
    cases h2
    exact ⟨_, _, rfl, hp _ S (Ext.refl S) hS (.int _)⟩
  · exact hp.elim
theorem ok_min2 : OkC X (fun xs H Q => ∃ i j, xs = [.int i, .int j] ∧ Q (.int (if j < i then j else i)) H) kMin2 := fun ws vs S μ hS r Q hp => by
  unfold kMin2 k2I at hp
  split at hp
  · obtain ⟨v, u, rfl, h1, h2⟩ := rws2 r
    cases h1
    cases h2
    exact ⟨_, _, rfl, hp _ S (Ext.refl S) hS (.int _)⟩
  · exact hp.elim
/-- int(x) of an int or a bool -/
def kInt (ws : List Wv) (μ : Sto) : Rs Wv := match ws with
  | [.d (.int i)] => .ok (.d (.int i)) μ
  | [.d (.bool b)] => .ok (.d (.int (if b then 1 else 0))) μ
  | _ => .no
theorem kInt_nx : NoExC kInt := fun ws μ e ν q => by
  unfold kInt at q
  split at q <;> cases q
theorem ok_int : OkC X (fun xs H Q => (∃ i, xs = [.int i] ∧ Q (.int i) H) ∨ ∃ k, xs = [.bl k] ∧ Q (.int (if k then 1 else 0)) H) kInt := fun ws vs S μ hS r Q hp => by
  unfold kInt at hp
  split at hp
  · obtain ⟨v, rfl, h⟩ := rws1 r
    cases h
    exact .inl ⟨_, rfl, hp _ S (Ext.refl S) hS (.int _)⟩
  · obtain ⟨v, rfl, h⟩ := rws1 r
    cases h
    exact .inr ⟨_, rfl, hp _ S (Ext.refl S) hS (.int _)⟩
  · exact hp.elim
/-- len(x) -/
def kLen (ws : List Wv) (μ : Sto) : Rs Wv := match ws with
  | [.d (.list xs)] => .ok (.d (.int xs.length)) μ
  | [.d (.tuple xs)] => .ok (.d (.int xs.length)) μ
  | [.d (.str z)] => if z.length ≤ LIM then .ok (.d (.int z.length)) μ else .no
  | [.l n] => (match μ[n]? with
    | some (.lst ws) => .ok (.d (.int ws.length)) μ
    | _ => .no)
  | [.s ns] => .ok (.d (.int ns.length)) μ
  | _ => .no
theorem kLen_nx : NoExC kLen := fun ws μ e ν q => by
  unfold kLen at q
  split at q <;> first | cases q | (split at q <;> cases q)
theorem ok_len : OkC X (fun xs H Q => ∃ x n, xs = [x] ∧ LenV X.K x H n ∧ Q (.int n) H) kLen := fun ws vs S μ hS r Q hp => by
  unfold kLen at hp
  split at hp
  · obtain ⟨v, rfl, h⟩ := rws1 r
    obtain ⟨a, xs, rfl, ha, ra⟩ := rp_lst_inv h
    exact ⟨_, _, rfl, .inl ⟨xs, .inl (.inl (hS.sub _ _ ha)), rfl⟩, by rw [ra.len]; exact hp _ S (Ext.refl S) hS (.int _)⟩
  · obtain ⟨v, rfl, h⟩ := rws1 r
    obtain ⟨a, xs, rfl, ha, ra⟩ := rp_tup_inv h
    exact ⟨_, _, rfl, .inr ⟨xs, .inl (.inl (hS.sub _ _ ha)), rfl⟩, by rw [ra.len]; exact hp _ S (Ext.refl S) hS (.int _)⟩
  · split at hp
    · obtain ⟨v, rfl, h⟩ := rws1 r
      cases h
      exact ⟨_, _, rfl, ⟨lim_line (by assumption), rfl⟩, hp _ S (Ext.refl S) hS (.int _)⟩
    · exact hp.elim
  · rename_i n
    obtain ⟨v, rfl, a, hL, rfl⟩ := rws1 r
    split at hp
    · rename_i ws hm
      obtain ⟨xs, h1, h2⟩ := hS.ob n a _ hL hm
      exact ⟨_, _, rfl, .inl ⟨xs, .inl (.inl h1), rfl⟩, by rw [rws_len h2]; exact hp _ S (Ext.refl S) hS (.int _)⟩
    · exact hp.elim
  · obtain ⟨v, rfl, a, hL, rfl⟩ := rws1 r
    exact ⟨_, _, rfl, .inl ⟨_, sb_l hS.sub hL, rfl⟩, by rw [List.length_map]; exact hp _ S (Ext.refl S) hS (.int _)⟩
  · exact hp.elim
/-- sum, max, min, all, any of a list -/
def kInts (h : List Int → Option Int) (ws : List Wv) (μ : Sto) : Rs Wv := match ws with
  | [.d (.list xs)] => (match toInts xs with
    | some ns => (match h ns with | some z => .ok (.d (.int z)) μ | none => .no)
    | none => .no)
  | _ => .no
theorem kInts_nx (h : List Int → Option Int) : NoExC (kInts h) := fun ws μ e ν q => by
  unfold kInts at q
  split at q
  · split at q
    · split at q <;> cases q
    · cases q
  · cases q
theorem kInts_post {h : List Int → Option Int} {ws : List Wv} {μ : Sto} {P : Wv → Sto → Prop} {E : Exn → Sto → Prop} (p : (kInts h ws μ).Post P E) : ∃ ns z, ws = [.d (.list (ns.map PyData.int))] ∧ h ns = some z ∧ P (.d (.int z)) μ := by
  unfold kInts at p
  split at p
  · split at p
    · rename_i hx
      split at p
      · exact ⟨_, _, by rw [toInts_eq hx], by assumption, p⟩
      · exact p.elim
    · exact p.elim
  · exact p.elim
def kSum := kInts fun ns => some ns.sum
theorem ok_sum : OkC X (rSum X.K) kSum := fun ws vs S μ hS r Q hp => by
  obtain ⟨ns, z, rfl, e, p⟩ := kInts_post hp
  obtain ⟨v, rfl, h⟩ := rws1 r
  obtain ⟨a, xs, rfl, ha, ra⟩ := rp_lst_inv h
  obtain rfl := rpA_ints ra
  cases e
  exact ⟨a, ns, rfl, .inl (.inl (hS.sub _ _ ha)), p _ S (Ext.refl S) hS (.int _)⟩
def maxL (ns : List Int) : Option Int := match ns with
  | [] => none
  | x :: r => some (r.foldl max x)
def minL (ns : List Int) : Option Int := match ns with
  | [] => none
  | x :: r => some (r.foldl min x)
theorem foldl_max : ∀ (r : List Int) (x : Int), (r.foldl max x = x ∨ r.foldl max x ∈ r) ∧ x ≤ r.foldl max x ∧ ∀ y ∈ r, y ≤ r.foldl max x
  | [], x => ⟨.inl rfl, Int.le_refl x, fun y h => by cases h⟩
  | a :: r, x => by
    obtain ⟨h1, h2, h3⟩ := foldl_max r (max x a)
    rw [List.foldl_cons]
    refine ⟨?_, by omega, fun y hy => ?_⟩
    · rcases h1 with h1 | h1
      · rcases Int.le_total x a with hxa | hxa
        · rw [Int.max_eq_right hxa] at h1 ⊢
          exact .inr (by rw [h1]; exact List.mem_cons_self)
        · rw [Int.max_eq_left hxa] at h1 ⊢
          exact .inl h1
      · exact .inr (List.mem_cons_of_mem _ h1)
    · rcases List.mem_cons.mp hy with rfl | hy
      · omega
      · exact h3 y hy
theorem foldl_min : ∀ (r : List Int) (x : Int), (r.foldl min x = x ∨ r.foldl min x ∈ r) ∧ r.foldl min x ≤ x ∧ ∀ y ∈ r, r.foldl min x ≤ y
  | [], x => ⟨.inl rfl, Int.le_refl x, fun y h => by cases h⟩
  | a :: r, x => by
    obtain ⟨h1, h2, h3⟩ := foldl_min r (min x a)
    rw [List.foldl_cons]
    refine ⟨?_, by omega, fun y hy => ?_⟩
    · rcases h1 with h1 | h1
      · rcases Int.le_total x a with hxa | hxa
        · rw [Int.min_eq_left hxa] at h1 ⊢
          exact .inl h1
        · rw [Int.min_eq_right hxa] at h1 ⊢
          exact .inr (by rw [h1]; exact List.mem_cons_self)
      · exact .inr (List.mem_cons_of_mem _ h1)
    · rcases List.mem_cons.mp hy with rfl | hy
      · omega
      · exact h3 y hy
theorem maxL_is {ns : List Int} {m z : Int} (hm : m ∈ ns) (hle : ∀ y, y ∈ ns → y ≤ m) (h : maxL ns = some z) : m = z := by
  cases ns with
  | nil => cases h
  | cons x r =>
    obtain rfl : r.foldl max x = z := Option.some.inj h
    obtain ⟨h1, h2, h3⟩ := foldl_max r x
    have a1 : r.foldl max x ≤ m := by
      rcases h1 with h1 | h1
      · rw [h1]; exact hle x List.mem_cons_self
      · exact hle _ (List.mem_cons_of_mem _ h1)
    have a2 : m ≤ r.foldl max x := by
      rcases List.mem_cons.mp hm with rfl | hm
      · exact h2
      · exact h3 m hm
    omega
theorem minL_is {ns : List Int} {m z : Int} (hm : m ∈ ns) (hle : ∀ y, y ∈ ns → m ≤ y) (h : minL ns = some z) : m = z := by
  cases ns with
  | nil => cases h
  | cons x r =>
    obtain rfl : r.foldl min x = z := Option.some.inj h
    obtain ⟨h1, h2, h3⟩ := foldl_min r x
    have a1 : m ≤ r.foldl min x := by
      rcases h1 with h1 | h1
      · rw [h1]; exact hle x List.mem_cons_self
      · exact hle _ (List.mem_cons_of_mem _ h1)
    have a2 : r.foldl min x ≤ m := by
      rcases List.mem_cons.mp hm with rfl | hm
      · exact h2
      · exact h3 m hm
    omega
def kMax := kInts maxL
def kMin := kInts minL
theorem ok_max : OkC X (rMax X.K) kMax := fun ws vs S μ hS r Q hp => by
  obtain ⟨ns, z, rfl, e, p⟩ := kInts_post hp
  obtain ⟨v, rfl, h⟩ := rws1 r
  obtain ⟨a, xs, rfl, ha, ra⟩ := rp_lst_inv h
  obtain rfl := rpA_ints ra
  refine ⟨a, ns, rfl, .inl (.inl (hS.sub _ _ ha)), ?_, fun m hm hle => ?_⟩
  · cases ns with
    | nil => cases e
    | cons x r => exact Nat.succ_pos _
  · rw [maxL_is hm hle e]
    exact p _ S (Ext.refl S) hS (.int _)
theorem ok_min : OkC X (rMin X.K) kMin := fun ws vs S μ hS r Q hp => by
  obtain ⟨ns, z, rfl, e, p⟩ := kInts_post hp
  obtain ⟨v, rfl, h⟩ := rws1 r
  obtain ⟨a, xs, rfl, ha, ra⟩ := rp_lst_inv h
  obtain rfl := rpA_ints ra
  refine ⟨a, ns, rfl, .inl (.inl (hS.sub _ _ ha)), ?_, fun m hm hle => ?_⟩
  · cases ns with
    | nil => cases e
    | cons x r => exact Nat.succ_pos _
  · rw [minL_is hm hle e]
    exact p _ S (Ext.refl S) hS (.int _)
def kBools (h : List Bool → Bool) (ws : List Wv) (μ : Sto) : Rs Wv := match ws with
  | [.d (.list xs)] => (match toBools xs with
    | some ns => .ok (.d (.bool (h ns))) μ
    | none => .no)
  | _ => .no
theorem kBools_nx (h : List Bool → Bool) : NoExC (kBools h) := fun ws μ e ν q => by
  unfold kBools at q
  split at q
  · split at q <;> cases q
  · cases q
theorem kBools_post {h : List Bool → Bool} {ws : List Wv} {μ : Sto} {P : Wv → Sto → Prop} {E : Exn → Sto → Prop} (p : (kBools h ws μ).Post P E) : ∃ ns, ws = [.d (.list (ns.map PyData.bool))] ∧ P (.d (.bool (h ns))) μ := by
  unfold kBools at p
  split at p
  · split at p
    · rename_i hx
      exact ⟨_, by rw [toBools_eq hx], p⟩
    · exact p.elim
  · exact p.elim
def kAll := kBools fun bs => bs.all id
def kAny := kBools fun bs => bs.any id
theorem ok_all : OkC X (rAll X.K) kAll := fun ws vs S μ hS r Q hp => by
  obtain ⟨ns, rfl, p⟩ := kBools_post hp
  obtain ⟨v, rfl, h⟩ := rws1 r
  obtain ⟨a, xs, rfl, ha, ra⟩ := rp_lst_inv h
  obtain rfl := rpA_bools ra
  exact ⟨a, ns, rfl, .inl (.inl (hS.sub _ _ ha)), p _ S (Ext.refl S) hS (.bl _)⟩
theorem ok_any : OkC X (rAny X.K) kAny := fun ws vs S μ hS r Q hp => by
  obtain ⟨ns, rfl, p⟩ := kBools_post hp
  obtain ⟨v, rfl, h⟩ := rws1 r
  obtain ⟨a, xs, rfl, ha, ra⟩ := rp_lst_inv h
  obtain rfl := rpA_bools ra
  exact ⟨a, ns, rfl, .inl (.inl (hS.sub _ _ ha)), p _ S (Ext.refl S) hS (.bl _)⟩
/-- tuple(x), list(x) -/
def kTuple (ws : List Wv) (μ : Sto) : Rs Wv := match ws with
  | [.d (.list xs)] => .ok (.d (.tuple xs)) μ
  | [.d (.tuple xs)] => .ok (.d (.tuple xs)) μ
  | _ => .no
def kList (ws : List Wv) (μ : Sto) : Rs Wv := match ws with
  | [.d (.list xs)] => .ok (.d (.list xs)) μ
  | [.d (.tuple xs)] => .ok (.d (.list xs)) μ
  | _ => .no
theorem kTuple_nx : NoExC kTuple := fun ws μ e ν q => by
  unfold kTuple at q
  split at q <;> cases q
theorem kList_nx : NoExC kList := fun ws μ e ν q => by
  unfold kList at q
  split at q <;> cases q
theorem ok_tuple : OkC X (fun xs H Q => ∃ p ys, xs = [.ref p] ∧ ((SqL X.K H p ys ∧ ∀ l, H l = none → Q (.ref l) (upd H l (.tup ys))) ∨ (SqT X.K H p ys ∧ Q (.ref p) H))) kTuple := fun ws vs S μ hS r Q hp => by
  unfold kTuple at hp
  split at hp
  · obtain ⟨v, rfl, h⟩ := rws1 r
    obtain ⟨a, xs, rfl, ha, ra⟩ := rp_lst_inv h
    exact ⟨a, xs, rfl, .inl ⟨.inl (.inl (hS.sub _ _ ha)), new_tup hS ra hp⟩⟩
  · obtain ⟨v, rfl, h⟩ := rws1 r
    obtain ⟨a, xs, rfl, ha, ra⟩ := rp_tup_inv h
    exact ⟨a, xs, rfl, .inr ⟨.inl (.inl (hS.sub _ _ ha)), hp _ S (Ext.refl S) hS (.tup ha ra)⟩⟩
  · exact hp.elim
theorem ok_list : OkC X (fun xs H Q => ∃ p ys, xs = [.ref p] ∧ (SqL X.K H p ys ∨ SqT X.K H p ys) ∧ ∀ l, H l = none → Q (.ref l) (upd H l (.lst ys))) kList := fun ws vs S μ hS r Q hp => by
  unfold kList at hp
  split at hp
  · obtain ⟨v, rfl, h⟩ := rws1 r
    obtain ⟨a, xs, rfl, ha, ra⟩ := rp_lst_inv h
    exact ⟨a, xs, rfl, .inl (.inl (.inl (hS.sub _ _ ha))), new_lst hS ra hp⟩
  · obtain ⟨v, rfl, h⟩ := rws1 r
    obtain ⟨a, xs, rfl, ha, ra⟩ := rp_tup_inv h
    exact ⟨a, xs, rfl, .inr (.inl (.inl (hS.sub _ _ ha))), new_lst hS ra hp⟩
  · exact hp.elim
/-- isinstance(x, T), T a built-in class -/
def tyD : D → String
  | .none => "NoneType"
  | .bool _ => "bool"
  | .int _ => "int"
  | .str _ => "str"
  | .list _ => "list"
  | .tuple _ => "tuple"
  | .dict _ => "dict"
def isTy (T : String) (d : D) : Bool := tyD d == T || (T == "int" && tyD d == "bool")
def fIsi (T : String) (f : FE) : FE := fun env μ => (f env μ).bind fun w μ1 => match w with
  | .d x => .ok (.d (.bool (isTy T x))) μ1
  | _ => .no
theorem tyX_of {K : PySem.W.Frag} {F H : Hp} (hs : Sb F H) {v : V} {d : D} (h : Rp K F v d) : TyX K H v (.type (tyD d)) := by
  cases h with
  | non => exact .base .non
  | bl b => exact .base (.bl b)
  | int i => exact .base (.int i)
  | str x => exact .base (.str x)
  | lst h1 h2 => exact .base (.lst (hs _ _ h1))
  | tup h1 h2 =>
    exact .base (.tup (hs _ _ h1))
theorem c_isi {x T : Str} {Tn : String} {a : Expr} {f : FE} {p q pos : Pos} (hT : bootBuiltins T = some (.type Tn)) (hk : ∀ d : D, kitB (tyD d) Tn = some (isTy Tn d)) (hg : Gl X x) (hm : X.mg x = none) (hv : bootBuiltins x = some (.builtin "isinstance")) (hgT : Gl X T) (hmT : X.mg T = none)
    (ha : CEx X W a f) (hn : x ≠ "__name__" := by decide) (hdb : (x == ("__debug__" : Str)) = false := by decide) (hnT : T ≠ "__name__" := by decide) (hdT : (T == ("__debug__" : Str)) = false := by decide)
    (hs2 : starEach [a, .Name T q] X.env = (false, eval a X.env) :: starEach [.Name T q] X.env := by rfl) (hpl : (backTo pos (starEach [.Name T q] X.env)).any (·.1) = false := by rfl) (hs1 : starEach [.Name T q] X.env = (false, eval (.Name T q) X.env) :: starEach [] X.env := by rfl) : CEx X W (.Call (.Name x p) [a, .Name T q] [] pos) (fIsi Tn f) := by
  obtain ⟨ta, pa, qa⟩ := ha
  refine ⟨_, pe_callB call_isi hg hm hv (pa_cons pa (pa_cons (pe_bltn (v := .ty Tn) hgT hmT hT rfl hnT hdT) pa_nil hs1) hs2) hn hdb hs2 hpl, fun env σ S μ he hS Q hp => ?_⟩
  unfold fIsi at hp
  rw [Rs.post_bind] at hp
  refine qa env σ S μ he hS _ (hp.mono (fun w μ1 h1 v S1 e1 hS1 r1 => ?_) fun _ _ z => z)
  cases w with
  | l n => exact h1.elim
  | s n => exact h1.elim
  | d d => exact ⟨v, .ty Tn, _, _, isTy Tn d, rfl, .ty Tn, tyX_of hS1.sub r1, kit_ty (hk d), h1 _ S1 e1 hS1 (.bl _)⟩
end
end Ped

/-! Ped4: targets, statements, loops, comprehensions, defs -/
namespace Ped
open PySem L2

/-! ### statements -/
/-- how a statement ends: the names behind it, or what is returned -/
inductive Fl where
  | nx (env : Env)
  | rt (w : Wv)
  | bk (env : Env)
  | ct (env : Env)
abbrev FS := Env → Sto → Rs Fl
abbrev FG := Wv → Env → Sto → Rs Env
def EndOk (K : PySem.W.Frag) (n : Nat) (D : Ends) (S : Sta) (fl : Fl) (μ : Sto) : Prop := match fl with
  | .nx env => ∀ σ S', Ext S S' → HS K S' μ → EnvR K n S' env σ → D.nx σ S'.H
  | .rt w => ∀ v S', Ext S S' → HS K S' μ → RW K S' v w → D.rt v S'.H
  | .bk env => ∀ σ S', Ext S S' → HS K S' μ → EnvR K n S' env σ → D.bk σ S'.H
  | .ct env => ∀ σ S', Ext S S' → HS K S' μ → EnvR K n S' env σ → D.ct σ S'.H
theorem EndOk.mono {K : PySem.W.Frag} {n : Nat} {D : Ends} {S S' : Sta} (e : Ext S S') {fl : Fl} {μ : Sto} (h : EndOk K n D S fl μ) : EndOk K n D S' fl μ := by
  cases fl with
  | nx env => exact fun σ T e' => h σ T (e.trans e')
  | rt w => exact fun σ T e' => h σ T (e.trans e')
  | bk env => exact fun σ T e' => h σ T (e.trans e')
  | ct env => exact fun σ T e' => h σ T (e.trans e')
/-- an exception that leaves a statement: whatever the names hold -/
abbrev PExS (K : PySem.W.Frag) (W : WX) (n : Nat) (S : Sta) : Exn → Sto → Prop := fun x μ => ∀ d (σ : L2.St) S', σ.length = n → Ext S S' → HS K S' μ → ExR K S' x d → W x.cls d σ S'.H
theorem PExS.mono {K : PySem.W.Frag} {W : WX} {n : Nat} {S S' : Sta} (e : Ext S S') {x : Exn} {μ : Sto} (h : PExS K W n S x μ) : PExS K W n S' x μ := fun d σ T l e' hs r => h d σ T l (e.trans e') hs r
theorem PExS.at {K : PySem.W.Frag} {W : WX} {S : Sta} {σ : L2.St} {n : Nat} (hl : σ.length = n) {x : Exn} {μ : Sto} (h : PExS K W n S x μ) : PEx K W σ S x μ := fun d T e' hs r => h d σ T hl e' hs r
def CS (X : Cx) (W : WX) (st : Stmt) (f : FS) : Prop := ∃ t : TS, PS X st t ∧ ∀ env σ S μ, EnvR X.K X.N.length S env σ → HS X.K S μ → ∀ D : Ends, (f env μ).Post (EndOk X.K X.N.length D S) (PExS X.K W X.N.length S) → t D σ S.H
def CB (X : Cx) (W : WX) (st : List Stmt) (f : FS) : Prop := ∃ t : TS, PSs X st t ∧ ∀ env σ S μ, EnvR X.K X.N.length S env σ → HS X.K S μ → ∀ D : Ends, (f env μ).Post (EndOk X.K X.N.length D S) (PExS X.K W X.N.length S) → t D σ S.H
/-- a target; is: the slots that it may change -/
def CG (X : Cx) (tg : Expr) (is : List Nat) (g : FG) : Prop := ∃ t : TG, PG X tg t ∧ ∀ w v env σ S μ, RW X.K S v w → EnvR X.K X.N.length S env σ → HS X.K S μ → ∀ Q : L2.St → Hp → Prop, (g w env μ).Post (fun env' μ' => ∀ σ' S', Ext S S' → HS X.K S' μ' → EnvR X.K X.N.length S' env' σ' → (∀ j, j ∉ is → σ'[j]? = σ[j]?) → Q σ' S'.H) (fun _ _ => False) → t v σ S.H Q
def CGs (X : Cx) (tg : List Expr) (is : List Nat) (g : List D → Env → Sto → Rs Env) : Prop := ∃ t : TGs, PGs X tg t ∧ ∀ ds vs env σ S μ, RpA X.K S.F vs ds → EnvR X.K X.N.length S env σ → HS X.K S μ → ∀ Q : L2.St → Hp → Prop, (g ds env μ).Post (fun env' μ' => ∀ σ' S', Ext S S' → HS X.K S' μ' → EnvR X.K X.N.length S' env' σ' → (∀ j, j ∉ is → σ'[j]? = σ[j]?) → Q σ' S'.H) (fun _ _ => False) → t vs σ S.H Q

theorem EnvR.set {K : PySem.W.Frag} {n : Nat} {S : Sta} {env : Env} {σ : L2.St} (h : EnvR K n S env σ) {i : Nat} {w : Wv} {v : V} (r : RW K S v w) : EnvR K n S (env.set i (some w)) (σ.set i (some v)) := by
  refine ⟨by rw [List.length_set]; exact h.len, by rw [List.length_set]; exact h.lenS, fun j z hj => ?_⟩
  by_cases e : i = j
  · subst e
    by_cases hi : i < env.length
    · rw [List.getElem?_set_self hi] at hj
      cases hj
      exact ⟨v, List.getElem?_set_self (by rw [h.lenS, ← h.len]; exact hi), r⟩
    · rw [List.getElem?_eq_none (by rw [List.length_set]; omega)] at hj
      cases hj
  · rw [List.getElem?_set_ne e] at hj
    obtain ⟨u, h1, h2⟩ := h.val j z hj
    exact ⟨u, by rw [List.getElem?_set_ne e]; exact h1, h2⟩
/-- names are forgotten -/
theorem EnvR.less {K : PySem.W.Frag} {n : Nat} {S : Sta} {env env' : Env} {σ : L2.St} (h : EnvR K n S env σ) (hl : env'.length = env.length) (hs : ∀ (i : Nat) (w : Wv), env'[i]? = some (some w) → env[i]? = some (some w)) : EnvR K n S env' σ :=
  ⟨hl.trans h.len, h.lenS, fun i w e => h.val i w (hs i w e)⟩

section
variable {X : Cx} {W : WX}

/-! ### targets -/
def gVar (i : Nat) : FG := fun w env μ => .ok (env.set i (some w)) μ
theorem cg_name {i : Nat} {x : Str} {pos : Pos} (hN : X.N.Nodup) (hi : X.N[i]? = some x) (hx : Loc X.env.scope x) (hf : X.fn x = true ∨ X.env.scope.names.lookup x = some .local := by first | exact .inl rfl | exact .inr rfl | assumption) : CG X (.Name x pos) [i] (gVar i) :=
  ⟨_, pg_name hN hi hx hf, fun w v env σ S μ r he hS Q h => h (σ.set i (some v)) S (Ext.refl S) hS (he.set r) fun j hj => List.getElem?_set_ne fun e => hj (by simp [e])⟩
def gsNil : List D → Env → Sto → Rs Env := fun ds env μ => match ds with
  | [] => .ok env μ
  | _ => .no
def gsCons (g : FG) (k : List D → Env → Sto → Rs Env) : List D → Env → Sto → Rs Env := fun ds env μ => match ds with
  | [] => .no
  | d :: r => (g (.d d) env μ).bind fun env1 μ1 => k r env1 μ1
theorem cgs_nil : CGs X [] [] gsNil := by
  refine ⟨_, pgs_nil, fun ds vs env σ S μ r he hS Q h => ?_⟩
  cases r with
  | nil => exact ⟨rfl, h σ S (Ext.refl S) hS he fun _ _ => rfl⟩
  | cons _ _ => exact h.elim
theorem cgs_cons {e : Expr} {es : List Expr} {is js : List Nat} {g : FG} {k : List D → Env → Sto → Rs Env} (h1 : CG X e is g) (h2 : CGs X es js k) (hs : (assignEach (e :: es) X.env).map (·.2) = assign e X.env :: (assignEach es X.env).map (·.2) := by rfl) : CGs X (e :: es) (is ++ js) (gsCons g k) := by
  obtain ⟨t, p, q⟩ := h1
  obtain ⟨u, p', q'⟩ := h2
  refine ⟨_, pgs_cons p p' hs, fun ds vs env σ S μ r he hS Q h => ?_⟩
  cases r with
  | nil => exact h.elim
  | cons r t =>
    rename_i v vs d ds
    have h : ((g (.d d) env μ).bind fun env1 μ1 => k ds env1 μ1).Post _ _ := h
    rw [Rs.post_bind] at h
    refine ⟨v, vs, rfl, q (.d d) v env σ S μ r he hS _ (h.mono (fun env1 μ1 h1 σ1 S1 e1 hS1 he1 k1 => ?_) fun _ _ z => z)⟩
    exact q' ds vs env1 σ1 S1 μ1 (RpA.mono e1.sb _ _ t) he1 hS1 Q (h1.mono (fun env2 μ2 h2 σ2 S2 e2 hS2 he2 k2 => h2 σ2 S2 (e1.trans e2) hS2 he2 fun j hj => by
      rw [List.mem_append, not_or] at hj
      rw [k2 j hj.2, k1 j hj.1]) fun _ _ z => z)
def gTupF (n : Nat) (k : List D → Env → Sto → Rs Env) : FG := fun w env μ => match w with
  | .d (.tuple ds) => if ds.length = n then k ds env μ else .no
  | _ => .no
theorem cg_tup {es : List Expr} {kk : Nat} {pos : Pos} {n : Nat} {is : List Nat} {k : List D → Env → Sto → Rs Env} (hc : X.calm = true) (h : CGs X es is k) (hn : (assignEach es X.env).length = n := by rfl) (hst : (assignEach es X.env).findIdx? (·.1) = none := by rfl) : CG X (.Tuple es kk pos) is (gTupF n k) := by
  obtain ⟨t, p, q⟩ := h
  refine ⟨_, pg_tup hc p hn hst, fun w v env σ S μ r he hS Q h => ?_⟩
  unfold gTupF at h
  split at h
  · rename_i ds
    split at h
    · rename_i hl
      obtain ⟨a, xs, rfl, ha, ra⟩ := rp_tup_inv r
      exact ⟨a, xs, rfl, .inl (.inl (hS.sub _ _ ha)), by rw [ra.len]; exact hl, q ds xs env σ S μ ra he hS Q h⟩
    · exact h.elim
  · exact h.elim

/-! ### blocks -/
def sNil : FS := fun env μ => .ok (.nx env) μ
def sCons (f g : FS) : FS := fun env μ => (f env μ).bind fun fl μ1 => match fl with
  | .nx env1 => g env1 μ1
  | fl => .ok fl μ1
theorem cb_nil : CB X W [] sNil := ⟨_, pss_nil, fun env σ S μ he hS D h => h σ S (Ext.refl S) hS he⟩
theorem cb_cons {st : Stmt} {rest : List Stmt} {f g : FS} (h1 : CS X W st f) (h2 : CB X W rest g) : CB X W (st :: rest) (sCons f g) := by
  obtain ⟨t, p, q⟩ := h1
  obtain ⟨u, p', q'⟩ := h2
  refine ⟨_, pss_cons p p', fun env σ S μ he hS D h => ?_⟩
  unfold sCons at h
  rw [Rs.post_bind] at h
  refine q env σ S μ he hS { D with nx := u D } (h.mono (fun fl μ1 h1 => ?_) fun _ _ z => z)
  cases fl with
  | nx env1 =>
    intro σ1 S1 e1 hS1 he1
    exact q' env1 σ1 S1 μ1 he1 hS1 D (h1.mono (fun fl μ2 h2 => EndOk.mono e1 h2) fun _ _ z => z.mono e1)
  | rt w => exact h1
  | bk env1 => exact h1
  | ct env1 => exact h1
theorem cb_one {st : Stmt} {f : FS} (h1 : CS X W st f) : CB X W [st] f := by
  obtain ⟨t, p, q⟩ := h1
  exact ⟨_, pss_one p, q⟩
theorem cs_pass {pos : Pos} : CS X W (.Pass pos) sNil := ⟨_, ps_pass, fun env σ S μ he hS D h => h σ S (Ext.refl S) hS he⟩
/-- a statement that is not reached -/
theorem cs_never {st : Stmt} : CS X W st (fun _ _ => .no) := ⟨_, ps_never, fun _ _ _ _ _ _ _ h => h.elim⟩
theorem cb_never {st : List Stmt} : CB X W st (fun _ _ => .no) := ⟨_, pss_never, fun _ _ _ _ _ _ _ h => h.elim⟩
def sAsg (f : FE) (g : FG) : FS := fun env μ => (f env μ).bind fun w μ1 => (noex (g w env μ1)).bind fun env1 μ2 => .ok (.nx env1) μ2
theorem asg_core {te : TE} {tg : TG} {f : FE} {is : List Nat} {g : FG}
    (qe : ∀ env σ S μ, EnvR X.K X.N.length S env σ → HS X.K S μ → ∀ Q : VK, (f env μ).Post (POk X.K S Q) (PEx X.K W σ S) → te σ S.H Q)
    (qg : ∀ w v env σ S μ, RW X.K S v w → EnvR X.K X.N.length S env σ → HS X.K S μ → ∀ Q : L2.St → Hp → Prop, (g w env μ).Post (fun env' μ' => ∀ σ' S', Ext S S' → HS X.K S' μ' → EnvR X.K X.N.length S' env' σ' → (∀ j, j ∉ is → σ'[j]? = σ[j]?) → Q σ' S'.H) (fun _ _ => False) → tg v σ S.H Q) :
    ∀ env σ S μ, EnvR X.K X.N.length S env σ → HS X.K S μ → ∀ D : Ends, (sAsg f g env μ).Post (EndOk X.K X.N.length D S) (PExS X.K W X.N.length S) → tAsg te tg D σ S.H := fun env σ S μ he hS D h => by
  unfold sAsg at h
  rw [Rs.post_bind] at h
  refine qe env σ S μ he hS _ (h.mono (fun w μ1 h1 v S1 e1 hS1 r1 => ?_) fun _ _ z => z.at he.lenS)
  rw [Rs.post_bind] at h1
  exact qg w v env σ S1 μ1 r1 (he.mono e1) hS1 _ (noex_post (h1.mono (fun env1 μ2 h2 σ' S' e' hS' he' _ => h2 σ' S' (e1.trans e') hS' he') fun _ _ z => z))
theorem cs_asg {tg e : Expr} {pos : Pos} {f : FE} {is : List Nat} {g : FG} (he : CEx X W e f) (hg : CG X tg is g) (hs : swapsWithSole [tg] e pos.line X.env = pure false := by rfl) (hw : swappedStores [tg] e X.env = pure none := by rfl)
    (h1 : (assignEach [tg] X.env).map (·.2) = [assign tg X.env] := by rfl) : CS X W (.Assign [tg] e pos) (sAsg f g) := by
  obtain ⟨t, p, q⟩ := he
  obtain ⟨u, p', q'⟩ := hg
  exact ⟨_, ps_asg p p' hs hw h1, asg_core q q'⟩
theorem cs_set (i : Nat) {x : Str} {e : Expr} {pos pos' : Pos} {f : FE} (hN : X.N.Nodup) (hi : X.N[i]? = some x) (hx : Loc X.env.scope x) (he : CEx X W e f) (hs : swapsWith e (some (.Name x pos')) pos.line X.env = pure false := by rfl) (hf : X.fn x = true ∨ X.env.scope.names.lookup x = some .local := by first | exact .inl rfl | exact .inr rfl | assumption) :
    CS X W (.Assign [.Name x pos'] e pos) (sAsg f (gVar i)) := by
  obtain ⟨t, p, q⟩ := he
  obtain ⟨u, p', q'⟩ := cg_name (pos := pos') hN hi hx hf
  refine ⟨_, ps_set hN hi hx p hs hf, asg_core (is := [i]) q ?_⟩
  exact fun w v env σ S μ r he hS Q h => h (σ.set i (some v)) S (Ext.refl S) hS (he.set r) fun j hj => List.getElem?_set_ne fun e => hj (by simp [e])
def sPar (i j : Nat) (g : FA) : FS := fun env μ => (g env μ).bind fun ws μ1 => match ws with
  | [w, z] => .ok (.nx ((env.set i (some w)).set j (some z))) μ1
  | _ => .no
theorem cs_par (i j : Nat) {x y : Str} {a b : Expr} {g : FA} {px py pt pos : Pos} {kt k2 pt2} (hc : X.calm = true) (hN : X.N.Nodup) (hi : X.N[i]? = some x) (hj : X.N[j]? = some y) (hij : i ≠ j)
    (hx : X.env.scope.names.lookup x = some .local) (hy : X.env.scope.names.lookup y = some .local) (ha : CA X W [a, b] g)
    (hw : swappedStores [.Tuple [.Name x px, .Name y py] kt pt] (.Tuple [a, b] k2 pt2) X.env = pure (some [x, y]) := by rfl)
    (hs : swapsWithSole [.Tuple [.Name x px, .Name y py] kt pt] (.Tuple [a, b] k2 pt2) pos.line X.env = pure false := by rfl) :
    CS X W (.Assign [.Tuple [.Name x px, .Name y py] kt pt] (.Tuple [a, b] k2 pt2) pos) (sPar i j g) := by
  obtain ⟨t, p, q⟩ := ha
  refine ⟨_, ps_par hc hN hi hj hij hx hy p hw hs, fun env σ S μ he hS D h => ?_⟩
  unfold sPar at h
  rw [Rs.post_bind] at h
  refine q env σ S μ he hS _ (h.mono (fun ws μ1 h1 vs S1 e1 hS1 r1 => ?_) fun _ _ z => z.at he.lenS)
  split at h1
  · obtain ⟨v, u, rfl, r2, r3⟩ := rws2 r1
    exact ⟨v, u, rfl, h1 _ S1 e1 hS1 (((he.mono e1).set r2).set r3)⟩
  · exact h1.elim
theorem rws3 {K : PySem.W.Frag} {S : Sta} {vs : List V} {w z y : Wv} (h : RWs K S vs [w, z, y]) : ∃ v u t, vs = [v, u, t] ∧ RW K S v w ∧ RW K S u z ∧ RW K S t y := by
  cases h with
  | cons r t =>
    obtain ⟨u, v, rfl, q⟩ := rws2 t
    exact ⟨_, _, _, rfl, r, q⟩
def sPar3 (i j l : Nat) (g : FA) : FS := fun env μ => (g env μ).bind fun ws μ1 => match ws with
  | [w, z, y] => .ok (.nx (((env.set i (some w)).set j (some z)).set l (some y))) μ1
  | _ => .no
theorem cs_par3 (i j l : Nat) {x y z : Str} {a b c : Expr} {g : FA} {px py pz pt pos : Pos} {kt k2 pt2} (hc : X.calm = true) (hN : X.N.Nodup) (hi : X.N[i]? = some x) (hj : X.N[j]? = some y) (hl : X.N[l]? = some z) (hij : i ≠ j) (hil : i ≠ l) (hjl : j ≠ l)
    (hx : X.env.scope.names.lookup x = some .local) (hy : X.env.scope.names.lookup y = some .local) (hz : X.env.scope.names.lookup z = some .local) (ha : CA X W [a, b, c] g)
    (hw : swappedStores [.Tuple [.Name x px, .Name y py, .Name z pz] kt pt] (.Tuple [a, b, c] k2 pt2) X.env = pure (some [x, y, z]) := by rfl)
    (hs : swapsWithSole [.Tuple [.Name x px, .Name y py, .Name z pz] kt pt] (.Tuple [a, b, c] k2 pt2) pos.line X.env = pure false := by rfl) :
    CS X W (.Assign [.Tuple [.Name x px, .Name y py, .Name z pz] kt pt] (.Tuple [a, b, c] k2 pt2) pos) (sPar3 i j l g) := by
  obtain ⟨t, p, q⟩ := ha
  refine ⟨_, ps_par3 hc hN hi hj hl hij hil hjl hx hy hz p hw hs, fun env σ S μ he hS D h => ?_⟩
  unfold sPar3 at h
  rw [Rs.post_bind] at h
  refine q env σ S μ he hS _ (h.mono (fun ws μ1 h1 vs S1 e1 hS1 r1 => ?_) fun _ _ z => z.at he.lenS)
  split at h1
  · obtain ⟨v, u, t, rfl, r2, r3, r4⟩ := rws3 r1
    exact ⟨v, u, t, rfl, h1 _ S1 e1 hS1 ((((he.mono e1).set r2).set r3).set r4)⟩
  · exact h1.elim
def sAsg2 (f : FE) (i j : Nat) : FS := fun env μ => (f env μ).bind fun w μ1 => .ok (.nx ((env.set i (some w)).set j (some w))) μ1
theorem cs_asg2 (i j : Nat) {x y : Str} {e : Expr} {f : FE} {px py pos : Pos} (hN : X.N.Nodup) (hi : X.N[i]? = some x) (hx : Loc X.env.scope x) (hj : X.N[j]? = some y) (hy : Loc X.env.scope y) (he : CEx X W e f)
    (hf : X.fn x = true ∨ X.env.scope.names.lookup x = some .local := by first | exact .inl rfl | exact .inr rfl | assumption) (hf' : X.fn y = true ∨ X.env.scope.names.lookup y = some .local := by first | exact .inl rfl | exact .inr rfl | assumption)
    (ha : (assignEach [.Name x px, .Name y py] X.env).map (·.2) = [assign (.Name x px) X.env, assign (.Name y py) X.env] := by rfl) (hw : swappedStores [.Name x px, .Name y py] e X.env = pure none := by rfl) : CS X W (.Assign [.Name x px, .Name y py] e pos) (sAsg2 f i j) := by
  obtain ⟨t, p, q⟩ := he
  refine ⟨_, ps_asg2 p (pg_name hN hi hx hf) (pg_name hN hj hy hf') ha hw, fun env σ S μ he hS D h => ?_⟩
  unfold sAsg2 at h
  rw [Rs.post_bind] at h
  refine q env σ S μ he hS _ (h.mono (fun w μ1 h1 v S1 e1 hS1 r1 => ?_) fun _ _ z => z.at he.lenS)
  exact h1 _ S1 e1 hS1 (((he.mono e1).set r1).set r1)
def sRet (f : FE) : FS := fun env μ => (f env μ).bind fun w μ1 => .ok (.rt w) μ1
theorem cs_ret {e : Expr} {f : FE} {pos : Pos} (h : CEx X W e f) : CS X W (.Return (some e) pos) (sRet f) := by
  obtain ⟨t, p, q⟩ := h
  refine ⟨_, ps_ret p, fun env σ S μ he hS D h => ?_⟩
  unfold sRet at h
  rw [Rs.post_bind] at h
  exact q env σ S μ he hS _ (h.mono (fun w μ1 h1 => h1) fun _ _ z => z.at he.lenS)
def sExpr (f : FE) : FS := fun env μ => (f env μ).bind fun _ μ1 => .ok (.nx env) μ1
theorem cs_expr {e : Expr} {f : FE} {pos : Pos} (h : CEx X W e f) (hs : swapsWith e none pos.line X.env = pure false := by rfl) : CS X W (.Expr e pos) (sExpr f) := by
  obtain ⟨t, p, q⟩ := h
  refine ⟨_, ps_expr p hs, fun env σ S μ he hS D h => ?_⟩
  unfold sExpr at h
  rw [Rs.post_bind] at h
  exact q env σ S μ he hS _ (h.mono (fun w μ1 h1 v S1 e1 hS1 r1 => h1 σ S1 e1 hS1 (he.mono e1)) fun _ _ z => z.at he.lenS)
def sIf (c : FB) (f g : FS) : FS := fun env μ => (c env μ).bind fun b μ1 => if b = true then f env μ1 else g env μ1
theorem cs_if {c : Expr} {a b : List Stmt} {k : FB} {f g : FS} {pos : Pos} (hc : CT X W c k) (ha : CB X W a f) (hb : CB X W b g) : CS X W (.If c a b pos) (sIf k f g) := by
  obtain ⟨tc, pc, qc⟩ := hc
  obtain ⟨ta, pa, qa⟩ := ha
  obtain ⟨tb, pb, qb⟩ := hb
  refine ⟨_, ps_if pc pa pb, fun env σ S μ he hS D h => ?_⟩
  unfold sIf at h
  rw [Rs.post_bind] at h
  refine qc env σ S μ he hS _ (h.mono (fun c μ1 h1 S1 e1 hS1 => ?_) fun _ _ z => z.at he.lenS)
  cases c with
  | true =>
    rw [if_pos rfl] at h1 ⊢
    exact qa env σ S1 μ1 (he.mono e1) hS1 D (h1.mono (fun c μ2 h2 => EndOk.mono e1 h2) fun _ _ z => z.mono e1)
  | false =>
    rw [if_neg Bool.false_ne_true] at h1 ⊢
    exact qb env σ S1 μ1 (he.mono e1) hS1 D (h1.mono (fun c μ2 h2 => EndOk.mono e1 h2) fun _ _ z => z.mono e1)

/-! ### loops -/
abbrev FIt := Env → Sto → Rs (List D)
/-- J walks the items, from the state S0 on -/
def Walks (K : PySem.W.Frag) (J : It) (items : List D) (S0 : Sta) : Prop := ∀ S, Ext S0 S → ∀ μ, HS K S μ →
  (∀ (i : Nat) item, items[i]? = some item → J.go i S.H ∧ ∀ x H', J.yld i S.H x H' → ∃ S', S'.H = H' ∧ Ext S S' ∧ HS K S' μ ∧ Rp K S'.F x item) ∧ J.stop items.length S.H
def CI (X : Cx) (W : WX) (tg iter : Expr) (f : FIt) : Prop := ∃ wi : TI, PI X tg iter wi ∧ ∀ env σ S μ, EnvR X.K X.N.length S env σ → HS X.K S μ → ∀ R : It → Hp → Prop,
  (f env μ).Post (fun items μ' => ∀ J S', Ext S S' → HS X.K S' μ' → Walks X.K J items S' → R J S'.H) (PEx X.K W σ S) → wi σ S.H R
def forF (g : FG) (b : FS) : List D → Env → Sto → Rs Fl
  | [], env, μ => .ok (.nx env) μ
  | d :: r, env, μ => (noex (g (.d d) env μ)).bind fun env1 μ1 => (b env1 μ1).bind fun fl μ2 => match fl with
    | .nx env2 => forF g b r env2 μ2
    | .ct env2 => forF g b r env2 μ2
    | .bk env2 => .ok (.nx env2) μ2
    | .rt w => .ok (.rt w) μ2
def sFor (it : FIt) (g : FG) (b : FS) : FS := fun env μ => (it env μ).bind fun items μ1 => forF g b items env μ1
theorem cs_for {tg iter : Expr} {body : List Stmt} {it : FIt} {is : List Nat} {g : FG} {b : FS} {pos : Pos} (hp : PassesOwn (model X.prog X.w) X.A X.env X.xe) (hc : X.calm = true) (hi : CI X W tg iter it) (hg : CG X tg is g) (hb : CB X W body b)
    (hs : ∀ x, foldedSetIterable iter X.env x = pure x := by intro _; rfl) : CS X W (.For tg iter body [] pos) (sFor it g b) := by
  obtain ⟨wi, pi, qi⟩ := hi
  obtain ⟨tg', pg, qg⟩ := hg
  obtain ⟨tb, pb, qb⟩ := hb
  refine ⟨_, ps_for hp hc pi pg pb hs, fun env σ S μ he hS D h => ?_⟩
  unfold sFor at h
  rw [Rs.post_bind] at h
  refine qi env σ S μ he hS _ (h.mono (fun items μ1 h1 J S1 e1 hS1 wk => ?_) fun _ _ z => z.at he.lenS)
  refine ⟨fun i m σ H => m = items.length - i ∧ i ≤ items.length ∧ ∃ env_ μ_ S_, S_.H = H ∧ Ext S1 S_ ∧ HS X.K S_ μ_ ∧ EnvR X.K X.N.length S_ env_ σ ∧ (forF g b (items.drop i) env_ μ_).Post (EndOk X.K X.N.length D S) (PExS X.K W X.N.length S),
    ⟨items.length, rfl, Nat.zero_le _, env, μ1, S1, rfl, Ext.refl _, hS1, he.mono e1, h1⟩, ?_⟩
  rintro i m σ2 H2 ⟨rfl, hi, env2, μ2, S2, rfl, e2, hS2, he2, h2⟩
  obtain ⟨w1, w2⟩ := wk S2 e2 μ2 hS2
  by_cases hlt : i < items.length
  · obtain ⟨go, yl⟩ := w1 i items[i] (List.getElem?_eq_getElem hlt)
    refine .inr ⟨go, fun σ' H' => ∃ env_ μ_ S_, S_.H = H' ∧ Ext S1 S_ ∧ HS X.K S_ μ_ ∧ EnvR X.K X.N.length S_ env_ σ' ∧ (forF g b (items.drop (i + 1)) env_ μ_).Post (EndOk X.K X.N.length D S) (PExS X.K W X.N.length S),
      fun σ' H' n => ⟨items.length - (i + 1), by omega, rfl, hlt, n⟩, fun x H' y => ?_⟩
    obtain ⟨S3, rfl, e3, hS3, r3⟩ := yl x H' y
    rw [List.drop_eq_getElem_cons hlt] at h2
    have h2 : ((noex (g (.d items[i]) env2 μ2)).bind fun env1 μ1 => (b env1 μ1).bind fun fl μ2 => match fl with
      | .nx env2 => forF g b (items.drop (i + 1)) env2 μ2
      | .ct env2 => forF g b (items.drop (i + 1)) env2 μ2
      | .bk env2 => .ok (.nx env2) μ2
      | .rt w => .ok (.rt w) μ2).Post _ _ := h2
    rw [Rs.post_bind] at h2
    refine qg (.d items[i]) x env2 σ2 S3 μ2 r3 (he2.mono e3) hS3 _ (noex_post (h2.mono (fun env3 μ3 h2 σ4 S4 e4 hS4 he4 _ => ?_) fun _ _ z => z))
    rw [Rs.post_bind] at h2
    refine qb env3 σ4 S4 μ3 he4 hS4 _ (h2.mono (fun fl μ5 h5 => ?_) fun _ _ z => z.mono (e1.trans (e2.trans (e3.trans e4))))
    cases fl with
    | nx env5 => exact fun σ5 S5 e5 hS5 he5 => ⟨env5, μ5, S5, rfl, e2.trans (e3.trans (e4.trans e5)), hS5, he5, h5⟩
    | ct env5 => exact fun σ5 S5 e5 hS5 he5 => ⟨env5, μ5, S5, rfl, e2.trans (e3.trans (e4.trans e5)), hS5, he5, h5⟩
    | bk env5 => exact fun σ5 S5 e5 hS5 he5 => h5 σ5 S5 (e1.trans (e2.trans (e3.trans (e4.trans e5)))) hS5 he5
    | rt w => exact fun v S5 e5 hS5 r5 => h5 v S5 (e1.trans (e2.trans (e3.trans (e4.trans e5)))) hS5 r5
  · have e : i = items.length := by omega
    subst e
    rw [List.drop_length] at h2
    exact .inl ⟨w2, h2 σ2 S2 (e1.trans e2) hS2 he2⟩
end
end Ped

/-! Ped5: while, what is walked, comprehensions, defs and their calls -/
namespace Ped
open PySem L2 PyProof.Rows PySem.Spec
section
variable {X : Cx} {W : WX}

def whileF (c : FB) (b : FS) : Nat → Env → Sto → Rs Fl
  | 0, _, _ => .no
  | n + 1, env, μ => (c env μ).bind fun k μ1 => if k = true then (b env μ1).bind fun fl μ2 => match fl with
      | .nx env2 => whileF c b n env2 μ2
      | .ct env2 => whileF c b n env2 μ2
      | .bk env2 => .ok (.nx env2) μ2
      | .rt w => .ok (.rt w) μ2
    else .ok (.nx env) μ1
/-- a while of at most n turns -/
theorem cs_while (n : Nat) {c : Expr} {body : List Stmt} {k : FB} {b : FS} {pos : Pos} (hp : PassesOwn (model X.prog X.w) X.A X.env X.xe) (hc : CT X W c k) (hb : CB X W body b) : CS X W (.While c body [] pos) (whileF k b n) := by
  obtain ⟨tc, pc, qc⟩ := hc
  obtain ⟨tb, pb, qb⟩ := hb
  refine ⟨_, ps_while hp pc pb, fun env σ S μ he hS D h => ?_⟩
  refine ⟨fun m σ H => ∃ env_ μ_ S_, S_.H = H ∧ Ext S S_ ∧ HS X.K S_ μ_ ∧ EnvR X.K X.N.length S_ env_ σ ∧ (whileF k b m env_ μ_).Post (EndOk X.K X.N.length D S) (PExS X.K W X.N.length S), ⟨n, env, μ, S, rfl, Ext.refl S, hS, he, h⟩, ?_⟩
  rintro m σ1 H1 ⟨env1, μ1, S1, rfl, e1, hS1, he1, h1⟩
  cases m with
  | zero => exact h1.elim
  | succ m =>
    unfold whileF at h1
    rw [Rs.post_bind] at h1
    refine qc env1 σ1 S1 μ1 he1 hS1 _ (h1.mono (fun c μ2 h2 S2 e2 hS2 => ?_) fun _ _ z => (z.mono e1).at he1.lenS)
    cases c with
    | true =>
      rw [if_pos rfl] at h2 ⊢
      rw [Rs.post_bind] at h2
      refine ⟨fun σ' H' => ∃ env_ μ_ S_, S_.H = H' ∧ Ext S S_ ∧ HS X.K S_ μ_ ∧ EnvR X.K X.N.length S_ env_ σ' ∧ (whileF k b m env_ μ_).Post (EndOk X.K X.N.length D S) (PExS X.K W X.N.length S), fun σ' H' z => ⟨m, Nat.lt_succ_self m, z⟩, ?_⟩
      refine qb env1 σ1 S2 μ2 (he1.mono e2) hS2 _ (h2.mono (fun fl μ3 h3 => ?_) fun _ _ z => z.mono (e1.trans e2))
      cases fl with
      | nx env5 => exact fun σ5 S5 e5 hS5 he5 => ⟨env5, μ3, S5, rfl, e1.trans (e2.trans e5), hS5, he5, h3⟩
      | ct env5 => exact fun σ5 S5 e5 hS5 he5 => ⟨env5, μ3, S5, rfl, e1.trans (e2.trans e5), hS5, he5, h3⟩
      | bk env5 => exact fun σ5 S5 e5 hS5 he5 => h3 σ5 S5 (e1.trans (e2.trans e5)) hS5 he5
      | rt w => exact fun v S5 e5 hS5 r5 => h3 v S5 (e1.trans (e2.trans e5)) hS5 r5
    | false =>
      rw [if_neg Bool.false_ne_true] at h2 ⊢
      exact h2 σ1 S2 (e1.trans e2) hS2 (he1.mono e2)

/-! ### what is walked -/
/-- the items of a value -/
def itV (f : FE) : FIt := fun env μ => (f env μ).bind fun w μ1 => match w with
  | .d (.list xs) => .ok xs μ1
  | _ => .no
def itT (f : FE) : FIt := fun env μ => (f env μ).bind fun w μ1 => match w with
  | .d (.tuple xs) => .ok xs μ1
  | _ => .no
theorem ci_list {tg l : Expr} {f : FE} (h : CEx X W l f) : CI X W tg l (itV f) := by
  obtain ⟨t, p, q⟩ := h
  refine ⟨_, pi_list p, fun env σ S μ he hS R h => ?_⟩
  unfold itV at h
  rw [Rs.post_bind] at h
  refine q env σ S μ he hS _ (h.mono (fun w μ1 h1 v S1 e1 hS1 r1 => ?_) fun _ _ z => z)
  split at h1
  · obtain ⟨a, xs, rfl, ha, ra⟩ := rp_lst_inv r1
    refine ⟨a, rfl, ⟨xs, .inl (.inl (hS1.sub _ _ ha))⟩, h1 _ S1 e1 hS1 fun S2 e2 μ2 hS2 => ?_⟩
    have hq : SqL X.K S2.H a xs := .inl (.inl (hS2.sub _ _ (e2.sb _ _ ha)))
    refine ⟨fun i item hi => ?_, ⟨xs, hq, by rw [ra.len]; exact Nat.le_refl _⟩⟩
    obtain ⟨x, hx, rx⟩ := ra.get hi
    refine ⟨⟨xs, x, hq, hx⟩, fun y H' hy => ?_⟩
    obtain ⟨rfl, hy⟩ := hy
    have e := hy xs hq
    rw [hx] at e
    cases e
    exact ⟨S2, rfl, Ext.refl S2, hS2, Rp.mono e2.sb _ _ rx⟩
  · exact h1.elim
theorem ci_tup {tg l : Expr} {f : FE} (h : CEx X W l f) : CI X W tg l (itT f) := by
  obtain ⟨t, p, q⟩ := h
  refine ⟨_, pi_tup p, fun env σ S μ he hS R h => ?_⟩
  unfold itT at h
  rw [Rs.post_bind] at h
  refine q env σ S μ he hS _ (h.mono (fun w μ1 h1 v S1 e1 hS1 r1 => ?_) fun _ _ z => z)
  split at h1
  · obtain ⟨a, xs, rfl, ha, ra⟩ := rp_tup_inv r1
    refine ⟨a, rfl, ⟨xs, .inl (.inl (hS1.sub _ _ ha))⟩, h1 _ S1 e1 hS1 fun S2 e2 μ2 hS2 => ?_⟩
    have hq : SqT X.K S2.H a xs := .inl (.inl (hS2.sub _ _ (e2.sb _ _ ha)))
    refine ⟨fun i item hi => ?_, ⟨xs, hq, by rw [ra.len]; exact Nat.le_refl _⟩⟩
    obtain ⟨x, hx, rx⟩ := ra.get hi
    refine ⟨⟨xs, x, hq, hx⟩, fun y H' hy => ?_⟩
    obtain ⟨rfl, hy⟩ := hy
    have e := hy xs hq
    rw [hx] at e
    cases e
    exact ⟨S2, rfl, Ext.refl S2, hS2, Rp.mono e2.sb _ _ rx⟩
  · exact h1.elim
/-- lo, lo + 1, .., n of them -/
def rangeD (lo : Int) (n : Nat) : List D := (List.range n).map fun (i : Nat) => PyData.int (lo + (i : Int))
theorem rangeD_get {lo : Int} {n i : Nat} {d : D} (h : (rangeD lo n)[i]? = some d) : i < n ∧ d = .int (lo + (i : Int)) := by
  unfold rangeD at h
  rw [List.getElem?_map] at h
  by_cases hi : i < n
  · rw [List.getElem?_range hi] at h
    cases h
    exact ⟨hi, rfl⟩
  · rw [List.getElem?_eq_none (by rw [List.length_range]; omega)] at h
    cases h
theorem rangeD_length (lo : Int) (n : Nat) : (rangeD lo n).length = n := by unfold rangeD; rw [List.length_map, List.length_range]
theorem walks_range {K : PySem.W.Frag} {lo : Int} {n : Nat} {S : Sta} : Walks K (Itr lo n) (rangeD lo n) S := fun S2 e2 μ2 hS2 => by
  refine ⟨fun i item hi => ?_, by rw [rangeD_length]; exact Nat.le_refl _⟩
  obtain ⟨h1, rfl⟩ := rangeD_get hi
  refine ⟨h1, fun y H' hy => ?_⟩
  obtain ⟨rfl, rfl⟩ := hy
  exact ⟨S2, rfl, Ext.refl S2, hS2, .int _⟩
abbrev RB : Int := 1000000000000
def itR1 (f : FE) : FIt := fun env μ => (f env μ).bind fun w μ1 => match w with
  | .d (.int j) => if -RB ≤ j ∧ j ≤ RB then .ok (rangeD 0 j.toNat) μ1 else .no
  | _ => .no
def itR2 (f g : FE) : FIt := fun env μ => (f env μ).bind fun w μ1 => (g env μ1).bind fun z μ2 => match w, z with
  | .d (.int i), .d (.int j) => if (-RB ≤ i ∧ i ≤ RB) ∧ -RB ≤ j ∧ j ≤ RB then .ok (rangeD i (j - i).toNat) μ2 else .no
  | _, _ => .no
theorem ci_range1 {tg a : Expr} {f : FE} {p pos : Pos} (hg : Gl X "range") (hm : X.mg "range" = none) (h : CEx X W a f) (hs : starEach [a] X.env = [(false, eval a X.env)] := by rfl) : CI X W tg (.Call (.Name "range" p) [a] [] pos) (itR1 f) := by
  obtain ⟨t, p, q⟩ := h
  refine ⟨_, pi_range1 hg hm (pa_cons p pa_nil (by rw [hs]; rfl)) hs, fun env σ S μ he hS R h => ?_⟩
  unfold itR1 at h
  rw [Rs.post_bind] at h
  refine q env σ S μ he hS _ (h.mono (fun w μ1 h1 v S1 e1 hS1 r1 => ?_) fun _ _ z => z)
  split at h1
  · split at h1
    · rename_i hj
      cases r1
      exact ⟨_, rfl, by have := hj.1; simp only [RB] at this; omega, by have := hj.2; simp only [RB] at this; omega, h1 _ S1 e1 hS1 walks_range⟩
    · exact h1.elim
  · exact h1.elim
theorem ci_range2 {tg a b : Expr} {f g : FE} {p pos : Pos} (hg : Gl X "range") (hm : X.mg "range" = none) (h : CEx X W a f) (h' : CEx X W b g) (hs : starEach [a, b] X.env = [(false, eval a X.env), (false, eval b X.env)] := by rfl) (hs2 : starEach [b] X.env = [(false, eval b X.env)] := by rfl) : CI X W tg (.Call (.Name "range" p) [a, b] [] pos) (itR2 f g) := by
  obtain ⟨t, p, q⟩ := h
  obtain ⟨t', p', q'⟩ := h'
  refine ⟨_, pi_range2 hg hm (pa_cons p (pa_cons p' pa_nil (by rw [hs2]; rfl)) (by rw [hs, hs2])) hs hs2, fun env σ S μ he hS R h => ?_⟩
  unfold itR2 at h
  rw [Rs.post_bind] at h
  refine q env σ S μ he hS _ (h.mono (fun w μ1 h1 v S1 e1 hS1 r1 => ?_) fun _ _ z => z)
  rw [Rs.post_bind] at h1
  refine q' env σ S1 μ1 (he.mono e1) hS1 _ (h1.mono (fun w' μ2 h2 u S2 e2 hS2 r2 => ?_) fun _ _ z => z.mono e1)
  have r1' := r1.mono e2
  split at h2
  · split at h2
    · rename_i hj
      cases r1'
      cases r2
      refine ⟨_, _, rfl, ?_, h2 _ S2 (e1.trans e2) hS2 walks_range⟩
      have a1 := hj.1.1; have a2 := hj.1.2; have a3 := hj.2.1; have a4 := hj.2.2
      simp only [RB] at a1 a2 a3 a4
      exact ⟨by omega, by omega, by omega, by omega⟩
    · exact h2.elim
  · exact h2.elim

/-! ### comprehensions -/
theorem Ext.side {S T : Sta} (e : Ext S T) {D : Addr} {o : HO} (hD : S.H D = none) : Ext S ⟨upd T.H D o, T.F, T.L⟩ := by
  refine ⟨e.sb, e.pf, fun a u h hn => ?_, fun a u h => ?_, e.nl, e.nf, fun a u x h => (upd_ne (ne_of_none h hD)).trans (e.fz a u x h)⟩
  · show upd T.H D o a = some u
    rw [upd_ne (ne_of_none h hD)]
    exact e.fr a u h hn
  · obtain ⟨o', z⟩ := e.th a u h
    refine ⟨o', ?_⟩
    show upd T.H D o a = some o'
    rw [upd_ne (ne_of_none h hD)]
    exact z
theorem HS.side {K : PySem.W.Frag} {S : Sta} {μ : Sto} (h : HS K S μ) {D : Addr} {o : HO} (hL : D ∉ S.L) (hF : S.F D = none) : HS K ⟨upd S.H D o, S.F, S.L⟩ μ := by
  refine ⟨fun a u e => ?_, h.len, h.nd, fun n a h1 => ?_, h.lv, fun n a ob h1 h2 => ?_⟩
  · show upd S.H D o a = some u
    rw [upd_ne (ne_of_none e hF)]
    exact h.sub a u e
  · obtain ⟨u, e⟩ := h.tr n a h1
    have ha : a ≠ D := fun z => hL (z ▸ List.mem_of_getElem? h1)
    exact ⟨u, (upd_ne ha).trans e⟩
  · have ha : a ≠ D := fun z => hL (z ▸ List.mem_of_getElem? h1)
    have e : Ext S ⟨S.H, S.F, S.L⟩ := Ext.refl S
    have q := h.ob n a ob h1 h2
    cases ob with
    | dead => trivial
    | lst ws => obtain ⟨vs, q1, q2⟩ := q; exact ⟨vs, (upd_ne ha).trans q1, q2⟩
    | dk ws => obtain ⟨vs, q1, q2⟩ := q; exact ⟨vs, (upd_ne ha).trans q1, q2⟩
    | lk ws => obtain ⟨od, vs, q1, q2⟩ := q; exact ⟨od, vs, (upd_ne ha).trans q1, q2⟩
    | dt ws => obtain ⟨vs, q1, q2⟩ := q; exact ⟨vs, (upd_ne ha).trans q1, q2⟩
    | ins C fs => obtain ⟨dx, vs, q1, q2⟩ := q; exact ⟨dx, vs, (upd_ne ha).trans q1, q2⟩
/-- a thing of ours beside the store stays -/
theorem Ext.keepSide {S T : Sta} (e : Ext S T) {D : Addr} {o : HO} (hD : S.H D = some o) (hL : D ∉ S.L) (hF : S.F D = none) : T.H D = some o ∧ D ∉ T.L ∧ T.F D = none := by
  refine ⟨e.fr D o hD hL, e.out hD hL, ?_⟩
  cases q : T.F D with
  | none => rfl
  | some u =>
    rcases e.nf D (by rw [q]; simp) with z | z | z
    · exact absurd hF z
    · rw [hD] at z; cases z
    · exact absurd z hL
def wipeE (env : Env) : List Nat → Env
  | [] => env
  | v :: vs => (wipeE env vs).set v none
theorem wipe_get {σ : L2.St} : ∀ {vs : List Nat} {i : Nat}, i ∉ vs → (wipe σ vs)[i]? = σ[i]?
  | [], _, _ => rfl
  | v :: vs, i, h => by
    simp only [List.mem_cons, not_or] at h
    unfold wipe
    rw [List.getElem?_set_ne (Ne.symm h.1), wipe_get h.2]
theorem wipe_in {σ : L2.St} : ∀ {vs : List Nat} {i : Nat}, i ∈ vs → i < σ.length → (wipe σ vs)[i]? = some none
  | v :: vs, i, h, hi => by
    unfold wipe
    by_cases e : v = i
    · subst e
      rw [List.getElem?_set_self (by rw [wipe_length]; exact hi)]
    · rw [List.getElem?_set_ne e]
      rcases List.mem_cons.mp h with z | z
      · exact absurd z.symm e
      · exact wipe_in z hi
theorem wipe_same {σ τ : L2.St} {vs is : List Nat} (hl : τ.length = σ.length) (his : ∀ i ∈ is, i ∈ vs) (h : ∀ j, j ∉ is → τ[j]? = (wipe σ vs)[j]?) : wipe τ vs = wipe σ vs := by
  refine List.ext_getElem? fun i => ?_
  by_cases hv : i ∈ vs
  · by_cases hi : i < σ.length
    · rw [wipe_in hv hi, wipe_in hv (by rw [hl]; exact hi)]
    · rw [List.getElem?_eq_none (by rw [wipe_length, hl]; omega), List.getElem?_eq_none (by rw [wipe_length]; omega)]
  · rw [wipe_get hv, wipe_get hv, h i fun z => hv (his i z), wipe_get hv]
theorem EnvR.wipe {K : PySem.W.Frag} {n : Nat} {S : Sta} {env : Env} {σ : L2.St} (h : EnvR K n S env σ) : ∀ vs : List Nat, EnvR K n S (wipeE env vs) (L2.wipe σ vs)
  | [] => h
  | v :: vs => by
    have q := EnvR.wipe h vs
    refine ⟨by unfold wipeE; rw [List.length_set]; exact q.len, by unfold L2.wipe; rw [List.length_set]; exact q.lenS, fun i w e => ?_⟩
    unfold wipeE at e
    by_cases hv : v = i
    · subst hv
      by_cases hi : v < (wipeE env vs).length
      · rw [List.getElem?_set_self hi] at e; cases e
      · rw [List.getElem?_eq_none (by rw [List.length_set]; omega)] at e; cases e
    · rw [List.getElem?_set_ne hv] at e
      obtain ⟨u, h1, h2⟩ := q.val i w e
      exact ⟨u, by unfold L2.wipe; rw [List.getElem?_set_ne hv]; exact h1, h2⟩
/-- the readings that a judgement gives, one for all contexts of the same names -/
def canE (K : PySem.W.Frag) (n : Nat) (W : WX) (f : FE) : TE := fun σ H Q => ∃ env S μ, S.H = H ∧ EnvR K n S env σ ∧ HS K S μ ∧ (f env μ).Post (POk K S Q) (PEx K W σ S)
def canT (K : PySem.W.Frag) (n : Nat) (W : WX) (f : FB) : TT := fun σ H Q => ∃ env S μ, S.H = H ∧ EnvR K n S env σ ∧ HS K S μ ∧ (f env μ).Post (fun b μ' => ∀ S', Ext S S' → HS K S' μ' → Q b S'.H) (PEx K W σ S)
def canG (K : PySem.W.Frag) (n : Nat) (is : List Nat) (g : FG) : TG := fun v σ H Q => ∃ w env S μ, S.H = H ∧ RW K S v w ∧ EnvR K n S env σ ∧ HS K S μ ∧ (g w env μ).Post (fun env' μ' => ∀ σ' S', Ext S S' → HS K S' μ' → EnvR K n S' env' σ' → (∀ j, j ∉ is → σ'[j]? = σ[j]?) → Q σ' S'.H) (fun _ _ => False)
theorem CEx.can {e : Expr} {f : FE} (h : CEx X W e f) : PE X e (canE X.K X.N.length W f) := by
  obtain ⟨t, p, q⟩ := h
  exact ⟨fun pins s σ H Q I hw => by
    obtain ⟨env, S, μ, rfl, he, hS, hp⟩ := hw
    exact p.run pins s σ S.H Q I (q env σ S μ he hS Q hp)⟩
theorem CT.can {e : Expr} {f : FB} (h : CT X W e f) : PT X e (canT X.K X.N.length W f) := by
  obtain ⟨t, p, q⟩ := h
  exact ⟨fun pins s σ H Q I hw => by
    obtain ⟨env, S, μ, rfl, he, hS, hp⟩ := hw
    exact p.run pins s σ S.H Q I (q env σ S μ he hS Q hp)⟩
theorem CG.can {e : Expr} {is : List Nat} {g : FG} (h : CG X e is g) : PG X e (canG X.K X.N.length is g) := by
  obtain ⟨t, p, q⟩ := h
  exact ⟨fun pins s σ H v u Q I r hw => by
    obtain ⟨w, env, S, μ, rfl, rw_, he, hS, hp⟩ := hw
    exact p.run pins s σ S.H v u Q I r (q w v env σ S μ rw_ he hS Q hp)⟩
/-- no exception is wished for -/
abbrev W0 : WX := fun _ _ _ _ => False
def CTs (X : Cx) (es : List Expr) (f : FB) : Prop := PTs X es (canT X.K X.N.length W0 f)
def fYes : FB := fun _ μ => .ok true μ
theorem cts_nil : CTs X [] fYes := ⟨fun pins s σ H Q I hw => by
  obtain ⟨env, S, μ, rfl, he, hS, hp⟩ := hw
  exact pts_nil.run pins s σ S.H Q I (hp S (Ext.refl S) hS)⟩
theorem cts_one {c : Expr} {f : FB} (h : CT X W0 c f) : CTs X [c] f := pts_one h.can
def compF (g : FG) (t : FB) (e : FE) (env : Env) : List D → Sto → List D → Rs (List D)
  | [], μ, acc => .ok acc μ
  | d :: r, μ, acc => (noex (g (.d d) env μ)).bind fun env1 μ1 => (noex (t env1 μ1)).bind fun b μ2 => if b = true then (noex (e env1 μ2)).bind fun w μ3 => match w with
      | .d x => if acc.length < LIM then compF g t e env r μ3 (acc ++ [x]) else .no
      | _ => .no
    else compF g t e env r μ2 acc
def fComp (it : FIt) (g : FG) (t : FB) (e : FE) (vs : List Nat) : FE := fun env μ => (it env μ).bind fun items μ1 => (compF g t e (wipeE env vs) items μ1 []).bind fun acc μ2 => .ok (.d (.list acc)) μ2
theorem he_free {K : PySem.W.Frag} {S : Sta} {μ : Sto} (h : HS K S μ) {p : Addr} (hp : S.H p = none) : S.F p = none := h.free hp
theorem comp_core {wi : TI} {it : FIt} {is vs : List Nat} {g : FG} {tt : FB} {ee : FE} (his : ∀ i ∈ is, i ∈ vs)
    (qi : ∀ env σ S μ, EnvR X.K X.N.length S env σ → HS X.K S μ → ∀ R : It → Hp → Prop, (it env μ).Post (fun items μ' => ∀ J S', Ext S S' → HS X.K S' μ' → Walks X.K J items S' → R J S'.H) (PEx X.K W σ S) → wi σ S.H R) :
    ∀ env σ S μ, EnvR X.K X.N.length S env σ → HS X.K S μ → ∀ Q : VK, (fComp it g tt ee vs env μ).Post (POk X.K S Q) (PEx X.K W σ S) →
      tLc wi (canG X.K X.N.length is g) (canT X.K X.N.length W0 tt) (canE X.K X.N.length W0 ee) vs σ S.H Q := fun env σ S μ he hS Q h => by
  unfold fComp at h
  rw [Rs.post_bind] at h
  refine qi env σ S μ he hS _ (h.mono (fun items μ1 h1 J S1 e1 hS1 wk => ?_) fun _ _ z => z)
  intro Dl hDl
  have lift : ∀ {acc : List PyData} {μ2 : Sto}, Rs.Post (.ok (Wv.d (.list acc)) μ2) (POk X.K S Q) (PEx X.K W σ S) → POk X.K S Q (.d (.list acc)) μ2 := fun z => z
  let fin : List PyData → Sto → Rs Wv := fun acc μ2 => .ok (.d (.list acc)) μ2
  have h1 : ((compF g tt ee (wipeE env vs) items μ1 []).bind fin).Post (POk X.K S Q) (PEx X.K W σ S) := h1
  refine ⟨fun i m H => m = items.length - i ∧ i ≤ items.length ∧ ∃ μ_ S_ acc vs_, S_.H = H ∧ Ext S1 S_ ∧ HS X.K S_ μ_ ∧ S_.H Dl = some (.lst vs_) ∧ Dl ∉ S_.L ∧ S_.F Dl = none ∧ RpA X.K S_.F vs_ acc ∧ ((compF g tt ee (wipeE env vs) (items.drop i) μ_ acc).bind fin).Post (POk X.K S Q) (PEx X.K W σ S),
    ⟨items.length, rfl, Nat.zero_le _, μ1, ⟨upd S1.H Dl (.lst []), S1.F, S1.L⟩, [], [], rfl, (Ext.refl S1).side hDl, hS1.side (hS1.fresh hDl) (hS1.free hDl), upd_same, hS1.fresh hDl, hS1.free hDl, .nil, h1⟩, ?_⟩
  rintro i m H2 ⟨rfl, hi, μ2, S2, acc, xs, rfl, e2, hS2, hD2, hL2, hF2, ra, h2⟩
  obtain ⟨w1, w2⟩ := wk S2 e2 μ2 hS2
  by_cases hlt : i < items.length
  · obtain ⟨go, yl⟩ := w1 i items[i] (List.getElem?_eq_getElem hlt)
    refine .inr ⟨go, fun H' => ∃ μ_ S_ acc vs_, S_.H = H' ∧ Ext S1 S_ ∧ HS X.K S_ μ_ ∧ S_.H Dl = some (.lst vs_) ∧ Dl ∉ S_.L ∧ S_.F Dl = none ∧ RpA X.K S_.F vs_ acc ∧ ((compF g tt ee (wipeE env vs) (items.drop (i + 1)) μ_ acc).bind fin).Post (POk X.K S Q) (PEx X.K W σ S),
      fun H' n => ⟨items.length - (i + 1), by omega, rfl, hlt, n⟩, fun x H' y => ?_⟩
    obtain ⟨S3, rfl, e3, hS3, r3⟩ := yl x H' y
    rw [List.drop_eq_getElem_cons hlt] at h2
    have h2 : (((noex (g (.d items[i]) (wipeE env vs) μ2)).bind fun env1 μ1 => (noex (tt env1 μ1)).bind fun b μ2 => if b = true then (noex (ee env1 μ2)).bind fun w μ3 => match w with
        | .d x => if acc.length < LIM then compF g tt ee (wipeE env vs) (items.drop (i + 1)) μ3 (acc ++ [x]) else .no
        | _ => .no
      else compF g tt ee (wipeE env vs) (items.drop (i + 1)) μ2 acc).bind fin).Post _ _ := h2
    rw [Rs.post_bind, Rs.post_bind] at h2
    have hw : EnvR X.K X.N.length S3 (wipeE env vs) (L2.wipe σ vs) := ((he.mono e1).mono (e2.trans e3)).wipe vs
    refine ⟨.d items[i], wipeE env vs, S3, μ2, rfl, r3, hw, hS3, noex_post (h2.mono (fun env1 μ3 h3 σ4 S4 e4 hS4 he4 k4 => ?_) fun _ _ z => z)⟩
    have h3 : ((noex (tt env1 μ3)).bind _).Post _ _ := h3
    rw [Rs.post_bind] at h3
    refine ⟨wipe_same (by rw [he4.lenS, he.lenS]) his k4, env1, S4, μ3, rfl, he4, hS4, noex_post (h3.mono (fun b μ5 h5 S5 e5 hS5 => ?_) fun _ _ z => z)⟩
    obtain ⟨hD5, hL5, hF5⟩ := (e3.trans (e4.trans e5)).keepSide hD2 hL2 hF2
    cases b with
    | true =>
      rw [if_pos rfl] at h5 ⊢
      rw [Rs.post_bind] at h5
      refine ⟨env1, S5, μ5, rfl, he4.mono e5, hS5, noex_post (h5.mono (fun w μ6 h6 y S6 e6 hS6 r6 => ?_) fun _ _ z => z)⟩
      obtain ⟨hD6, hL6, hF6⟩ := e6.keepSide hD5 hL5 hF5
      cases w with
      | l n => exact h6.elim
      | s n => exact h6.elim
      | d z =>
        have h6 : ((if acc.length < LIM then compF g tt ee (wipeE env vs) (items.drop (i + 1)) μ6 (acc ++ [z]) else .no : Rs (List PyData))).Post (fun a μ => (fin a μ).Post (POk X.K S Q) (PEx X.K W σ S)) (PEx X.K W σ S) := h6
        by_cases hl : acc.length < LIM
        · rw [if_pos hl, ← Rs.post_bind] at h6
          have k16 : Ext S1 S6 := e2.trans (e3.trans (e4.trans (e5.trans e6)))
          have ra6 : RpA X.K S6.F xs acc := RpA.mono (e3.trans (e4.trans (e5.trans e6))).sb _ _ ra
          refine ⟨xs, hD6, by rw [ra.len]; exact lim_lt (Nat.le_of_lt hl), μ6, ⟨upd S6.H Dl (.lst (xs ++ [y])), S6.F, S6.L⟩, acc ++ [z], xs ++ [y], rfl, k16.side hDl, hS6.side hL6 hF6, upd_same, hL6, hF6, ra6.append (.cons r6 .nil), h6⟩
        · rw [if_neg hl] at h6
          exact h6.elim
    | false =>
      rw [if_neg Bool.false_ne_true] at h5 ⊢
      rw [← Rs.post_bind] at h5
      exact ⟨μ5, S5, acc, xs, rfl, e2.trans (e3.trans (e4.trans e5)), hS5, hD5, hL5, hF5, RpA.mono (e3.trans (e4.trans e5)).sb _ _ ra, h5⟩
  · have e : i = items.length := by omega
    subst e
    rw [List.drop_length] at h2
    refine .inl ⟨w2, ?_⟩
    have h2 : POk X.K S Q (.d (.list acc)) μ2 := h2
    -- the new list is frozen
    have k2 := e1.trans e2
    refine h2 (.ref Dl) ⟨S2.H, upd S2.F Dl (.lst xs), S2.L⟩ ⟨fun a u z => ?_, k2.pf, k2.fr, k2.th, k2.nl, fun a z => ?_, k2.fz⟩ ⟨fun a u z => ?_, hS2.len, hS2.nd, hS2.tr, fun n a ob z1 z2 z3 => ?_, fun n a ob z1 z2 => ?_⟩ (rp_lst hF2 ra)
    · have hSD : S.F Dl = none := he_free hS (e1.un hDl)
      show upd S2.F Dl (.lst xs) a = some u
      rw [upd_ne (ne_of_none z hSD)]
      exact k2.sb a u z
    · by_cases hb : a = Dl
      · exact .inr (.inl (by rw [hb]; exact e1.un hDl))
      · have z : upd S2.F Dl (.lst xs) a ≠ none := z
        rw [upd_ne hb] at z
        exact k2.nf a z
    · by_cases hb : a = Dl
      · subst hb
        have z : upd S2.F a (.lst xs) a = some u := z
        rw [upd_same] at z
        cases z
        exact hD2
      · have z : upd S2.F Dl (.lst xs) a = some u := z
        rw [upd_ne hb] at z
        exact hS2.sub a u z
    · have hb : a ≠ Dl := fun q => hL2 (q ▸ List.mem_of_getElem? z1)
      show upd S2.F Dl (.lst xs) a = none
      rw [upd_ne hb]
      exact hS2.lv n a ob z1 z2 z3
    · refine ObR.stayG (S := S2) (S' := ⟨S2.H, upd S2.F Dl (.lst xs), S2.L⟩) ⟨fun a u z => ?_, fun _ _ z => z⟩ (hS2.ob n a ob z1 z2) fun o z => z
      show upd S2.F Dl (.lst xs) a = some u
      rw [upd_ne (ne_of_none z hF2)]
      exact z
theorem c_comp {elt tg iter : Expr} {ifs : List Expr} {scope : Scope} {own : List (Str × Nat)} {vs : List Nat} {pos : Pos} {it : FIt} {is : List Nat} {g : FG} {tt : FB} {ee : FE} (hc : X.calm = true) (hN : X.N.Nodup) (hi : CI X W tg iter it) (ok : BlkOk X.N X.env.scope scope own) (his : ∀ i ∈ is, i ∈ vs)
    (hg : ∀ (s : Shared) (H : Hp) (C : Addr) (cl : List (Str × Addr)) (fp : List Addr), CG (X.blk s H scope (compEnvC scope cl C X.env) fp) tg is g)
    (ht : ∀ (s : Shared) (H : Hp) (C : Addr) (cl : List (Str × Addr)) (fp : List Addr), CTs (X.blk s H scope (compEnvC scope cl C X.env) fp) ifs tt)
    (he : ∀ (s : Shared) (H : Hp) (C : Addr) (cl : List (Str × Addr)) (fp : List Addr), CEx (X.blk s H scope (compEnvC scope cl C X.env) fp) W0 elt ee) (hs : ∀ x, foldedSetIterable iter X.env x = pure x := by intro _; rfl) (hvs : own.map (·.2) = vs := by rfl) :
    CEx X W (.ListComp elt [⟨tg, iter, ifs, 0⟩] scope pos) (fComp it g tt ee vs) := by
  subst hvs
  obtain ⟨wi, pi, qi⟩ := hi
  exact ⟨_, pe_lc hc hN pi ok (fun s H C cl fp => (hg s H C cl fp).can) (tt := canT X.K X.N.length W0 tt) (fun s H C cl fp => ht s H C cl fp) (fun s H C cl fp => (he s H C cl fp).can) hs, comp_core his qi⟩
/-- name = [..] on one line -/
theorem cs_setLc (i : Nat) {y : Str} {py : Pos} {elt tg iter : Expr} {ifs : List Expr} {scope : Scope} {own : List (Str × Nat)} {vs : List Nat} {pos spos : Pos} {it : FIt} {is : List Nat} {g : FG} {tt : FB} {ee : FE} (hc : X.calm = true) (hN : X.N.Nodup) (hy : X.N[i]? = some y) (hyl : X.env.scope.names.lookup y = some .local)
    (hsw : swapsWith (.ListComp elt [⟨tg, iter, ifs, 0⟩] scope pos) (some (.Name y py)) spos.line X.env = pure true) (hi : CI X W tg iter it) (ok : BlkOk X.N X.env.scope scope own) (his : ∀ i ∈ is, i ∈ vs)
    (hg : ∀ (s : Shared) (H : Hp) (C : Addr) (cl : List (Str × Addr)) (fp : List Addr), CG (X.blk s H scope (compEnvC scope cl C X.env) fp) tg is g)
    (ht : ∀ (s : Shared) (H : Hp) (C : Addr) (cl : List (Str × Addr)) (fp : List Addr), CTs (X.blk s H scope (compEnvC scope cl C X.env) fp) ifs tt)
    (he : ∀ (s : Shared) (H : Hp) (C : Addr) (cl : List (Str × Addr)) (fp : List Addr), CEx (X.blk s H scope (compEnvC scope cl C X.env) fp) W0 elt ee) (hs : ∀ x, foldedSetIterable iter X.env x = pure x := by intro _; rfl) (hvs : own.map (·.2) = vs := by rfl) :
    CS X W (.Assign [.Name y py] (.ListComp elt [⟨tg, iter, ifs, 0⟩] scope pos) spos) (sAsg (fComp it g tt ee vs) (gVar i)) := by
  subst hvs
  obtain ⟨wi, pi, qi⟩ := hi
  refine ⟨_, ps_setLc hc hN hy hyl hsw pi ok (fun s H C cl fp => (hg s H C cl fp).can) (tt := canT X.K X.N.length W0 tt) (fun s H C cl fp => ht s H C cl fp) (fun s H C cl fp => (he s H C cl fp).can) hs, asg_core (is := [i]) (comp_core his qi) ?_⟩
  exact fun w v env σ S μ r he hS Q h => h (σ.set i (some v)) S (Ext.refl S) hS (he.set r) fun j hj => List.getElem?_set_ne fun e => hj (by simp [e])
end

/-! ### defs -/
/-- a def promises what g says -/
def spD (K : PySem.W.Frag) (n : Nat) (g : List Wv → Sto → Rs Wv) : Sp := fun vs H Q E => vs.length = n ∧ ∃ ws S μ, S.H = H ∧ HS K S μ ∧ RWs K S vs ws ∧ (g ws μ).Post (POk K S Q) (fun x μ' => ∀ d S', Ext S S' → HS K S' μ' → ExR K S' x d → E x.cls d S'.H)
def startE (m : Nat) (ws : List Wv) : Env := ws.map some ++ List.replicate (m - ws.length) none
/-- no thing of the store holds a number beyond n -/
def closedW (n : Nat) : Wv → Bool
  | .l k => decide (k < n)
  | _ => true
def closedO (n : Nat) : Ob → Bool
  | .dead => true
  | .lst ws => ws.all (closedW n)
  | .dk kvs => kvs.all fun p => closedW n p.2
  | .lk kvs => kvs.all fun p => closedW n p.2
  | .dt kvs => kvs.all fun p => closedW n p.2
  | .ins _ fs => fs.all fun p => closedW n p.2
theorem closed_ws {K : PySem.W.Frag} {S : Sta} : ∀ {vs : List V} {ws : List Wv}, RWs K S vs ws → ws.all (closedW S.L.length) = true
  | _, _, .nil => rfl
  | _, w :: _, .cons r t => by
    rw [List.all_cons, closed_ws t, Bool.and_true]
    cases w with
    | d x => rfl
    | s x => rfl
    | l n =>
      obtain ⟨a, h, _⟩ := r
      exact decide_eq_true (List.getElem?_eq_some_iff.mp h).1
theorem closed_kv {κ : Type} {K : PySem.W.Frag} {S : Sta} : ∀ {vs : List (κ × V)} {ws : List (κ × Wv)}, RKv K S vs ws → (ws.all fun p => closedW S.L.length p.2) = true
  | _, _, .nil => rfl
  | _, (k, w) :: _, .cons r t => by
    rw [List.all_cons, closed_kv t, Bool.and_true]
    cases w with
    | d x => rfl
    | s x => rfl
    | l n =>
      obtain ⟨_, a, h, _⟩ := r
      exact decide_eq_true (List.getElem?_eq_some_iff.mp h).1
theorem closed_ob {K : PySem.W.Frag} {S : Sta} {a : Addr} {ob : Ob} (h : ObR K S a ob) : closedO S.L.length ob = true := by
  cases ob with
  | dead => rfl
  | lst ws => obtain ⟨vs, _, q⟩ := h; exact closed_ws q
  | dk ws => obtain ⟨vs, _, q⟩ := h; exact closed_kv q
  | lk ws => obtain ⟨_, vs, _, q⟩ := h; exact closed_kv q
  | dt ws => obtain ⟨vs, _, q⟩ := h; exact closed_kv q
  | ins C ws => obtain ⟨_, vs, _, q⟩ := h; exact closed_kv q
theorem cut_w {K : PySem.W.Frag} {S : Sta} {n : Nat} {v : V} {w : Wv} (h : RW K S v w) (hc : closedW n w = true) : RW K ⟨S.H, S.F, S.L.take n⟩ v w := by
  cases w with
  | d x => exact h
  | s x => exact h
  | l k =>
    obtain ⟨a, h1, h2⟩ := h
    exact ⟨a, by rw [← h1]; exact List.getElem?_take_of_lt (of_decide_eq_true hc), h2⟩
theorem cut_ws {K : PySem.W.Frag} {S : Sta} {n : Nat} : ∀ {vs : List V} {ws : List Wv}, RWs K S vs ws → ws.all (closedW n) = true → RWs K ⟨S.H, S.F, S.L.take n⟩ vs ws
  | _, _, .nil, _ => .nil
  | _, _, .cons r t, h => by
    rw [List.all_cons, Bool.and_eq_true] at h
    exact .cons (cut_w r h.1) (cut_ws t h.2)
theorem cut_kv {κ : Type} {K : PySem.W.Frag} {S : Sta} {n : Nat} : ∀ {vs : List (κ × V)} {ws : List (κ × Wv)}, RKv K S vs ws → (ws.all fun p => closedW n p.2) = true → RKv K ⟨S.H, S.F, S.L.take n⟩ vs ws
  | _, _, .nil, _ => .nil
  | _, _, .cons r t, h => by
    rw [List.all_cons, Bool.and_eq_true] at h
    exact .cons ⟨r.1, cut_w r.2 h.1⟩ (cut_kv t h.2)
theorem cut_ob {K : PySem.W.Frag} {S : Sta} {n : Nat} {a : Addr} {ob : Ob} (h : ObR K S a ob) (hc : closedO n ob = true) : ObR K ⟨S.H, S.F, S.L.take n⟩ a ob := by
  cases ob with
  | dead => trivial
  | lst ws => obtain ⟨vs, q1, q⟩ := h; exact ⟨vs, q1, cut_ws q hc⟩
  | dk ws => obtain ⟨vs, q1, q⟩ := h; exact ⟨vs, q1, cut_kv q hc⟩
  | lk ws => obtain ⟨od, vs, q1, q⟩ := h; exact ⟨od, vs, q1, cut_kv q hc⟩
  | dt ws => obtain ⟨vs, q1, q⟩ := h; exact ⟨vs, q1, cut_kv q hc⟩
  | ins C ws => obtain ⟨dx, vs, q1, q⟩ := h; exact ⟨dx, vs, q1, cut_kv q hc⟩
/-- what was there refers to what was there -/
def KeepRef (μ μ' : Sto) : Prop := ∀ (j : Nat) (ob : Ob), j < μ.length → μ'[j]? = some ob → μ[j]? = some ob ∨ closedO μ.length ob = true
open Classical in
/-- the things beyond are forgotten -/
noncomputable def trim (μ μ' : Sto) : Option Sto := if μ'.length ≤ μ.length then some μ' else if KeepRef μ μ' then some (μ'.take μ.length) else none
theorem trim_same {μ μ' : Sto} (h : μ'.length = μ.length) : trim μ μ' = some μ' := if_pos (Nat.le_of_eq h)
theorem trim_app (μ ν : Sto) : trim μ (μ ++ ν) = some μ := by
  unfold trim
  by_cases h : (μ ++ ν).length ≤ μ.length
  · rw [if_pos h]
    rw [List.length_append] at h
    have : ν = [] := List.eq_nil_of_length_eq_zero (by omega)
    rw [this, List.append_nil]
  · have hk : KeepRef μ (μ ++ ν) := fun j ob hj e => .inl (by rw [List.getElem?_append_left hj] at e; exact e)
    rw [if_neg h, if_pos hk, List.take_left]
theorem trim_set (μ ν : Sto) (i : Nat) (ob : Ob) (hc : closedO μ.length ob = true) : trim μ (μ.set i ob ++ ν) = some (μ.set i ob) := by
  unfold trim
  have hl : (μ.set i ob).length = μ.length := List.length_set
  by_cases h : (μ.set i ob ++ ν).length ≤ μ.length
  · rw [if_pos h]
    rw [List.length_append, hl] at h
    have : ν = [] := List.eq_nil_of_length_eq_zero (by omega)
    rw [this, List.append_nil]
  · have hk : KeepRef μ (μ.set i ob ++ ν) := fun j ob' hj e => by
      rw [List.getElem?_append_left (by rw [hl]; exact hj)] at e
      by_cases hi : i = j
      · subst hi
        rw [List.getElem?_set_self hj] at e
        cases e
        exact .inr hc
      · rw [List.getElem?_set_ne hi] at e
        exact .inl e
    rw [if_neg h, if_pos hk, ← hl, List.take_left]
theorem trim_ok {K : PySem.W.Frag} {S S' : Sta} {μ μ' ν : Sto} (hS : HS K S μ) (e : Ext S S') (hS' : HS K S' μ') (h : trim μ μ' = some ν) : ∃ S'', Ext S S'' ∧ HS K S'' ν ∧ S''.H = S'.H ∧ S''.F = S'.F ∧ ∀ k a, k < μ.length → S'.L[k]? = some a → S''.L[k]? = some a := by
  unfold trim at h
  split at h
  · cases h
    exact ⟨S', e, hS', rfl, rfl, fun _ _ _ z => z⟩
  · split at h
    · rename_i hk
      cases h
      refine ⟨⟨S'.H, S'.F, S'.L.take μ.length⟩, ⟨e.sb, fun n a z => ?_, e.fr, e.th, fun a z => e.nl a (List.mem_of_mem_take z), e.nf, e.fz⟩, ⟨hS'.sub, ?_, hS'.nd.sublist (List.take_sublist _ _), fun n a z => hS'.tr n a ?_, fun n a ob z1 z2 z3 => ?_, fun n a ob z1 z2 => ?_⟩, rfl, rfl, fun k a hk z => ?_⟩
      · have hn : n < μ.length := by rw [← hS.len]; exact (List.getElem?_eq_some_iff.mp z).1
        show (S'.L.take μ.length)[n]? = some a
        rw [List.getElem?_take_of_lt hn]
        exact e.pf n a z
      · show (S'.L.take μ.length).length = (μ'.take μ.length).length
        rw [List.length_take, List.length_take, hS'.len]
      · have z : (S'.L.take μ.length)[n]? = some a := z
        rw [List.getElem?_take] at z
        split at z
        · exact z
        · cases z
      · have z1 : (S'.L.take μ.length)[n]? = some a := z1
        rw [List.getElem?_take] at z1 z2
        split at z1
        · rename_i hn
          rw [if_pos hn] at z2
          exact hS'.lv n a ob z1 z2 z3
        · cases z1
      · have z1 : (S'.L.take μ.length)[n]? = some a := z1
        rw [List.getElem?_take] at z1 z2
        split at z1
        · rename_i hn
          rw [if_pos hn] at z2
          refine cut_ob (hS'.ob n a ob z1 z2) ?_
          rcases hk n ob hn z2 with q | q
          · have hnl : n < S.L.length := by rw [hS.len]; exact hn
            have := closed_ob (hS.ob n S.L[n] ob (List.getElem?_eq_getElem hnl) q)
            rw [hS.len] at this
            exact this
          · exact q
        · cases z1
      · show (S'.L.take μ.length)[k]? = some a
        rw [List.getElem?_take_of_lt hk]
        exact z
    · cases h
/-- what a body hands back; the things that it made are forgotten, but where one is handed back -/
noncomputable def handBack (μ : Sto) (fl : Fl) (μ' : Sto) : Rs Wv := match fl with
  | .rt (.d x) => (match trim μ μ' with | some ν => .ok (.d x) ν | none => .no)
  | .rt (.l n) => if n < μ.length then (match trim μ μ' with | some ν => .ok (.l n) ν | none => .no) else .ok (.l n) μ'
  | .nx _ => (match trim μ μ' with | some ν => .ok (.d .none) ν | none => .no)
  | _ => .no
noncomputable def runF (m : Nat) (F : FS) (ws : List Wv) (μ : Sto) : Rs Wv := (F (startE m ws) μ).bind (handBack μ)
theorem start_env {K : PySem.W.Frag} {S : Sta} {N : List Str} {vs : List V} {ws : List Wv} (r : RWs K S vs ws) (hl : vs.length ≤ N.length) : EnvR K N.length S (startE N.length ws) (L2.start N vs) := by
  have hw := rws_len r
  refine ⟨?_, ?_, fun i w e => ?_⟩
  · unfold startE
    rw [List.length_append, List.length_map, List.length_replicate]
    omega
  · unfold L2.start
    rw [List.length_append, List.length_map, List.length_replicate]
    omega
  · unfold startE at e
    by_cases hi : i < ws.length
    · rw [List.getElem?_append_left (by rw [List.length_map]; exact hi), List.getElem?_map] at e
      cases q : ws[i]? with
      | none => rw [q] at e; cases e
      | some w' =>
        rw [q] at e
        cases e
        obtain ⟨v, h1, h2⟩ := rws_get r q
        refine ⟨v, ?_, h2⟩
        unfold L2.start
        rw [List.getElem?_append_left (by rw [List.length_map]; omega), List.getElem?_map, h1]
        rfl
    · rw [List.getElem?_append_right (by rw [List.length_map]; omega), List.getElem?_replicate] at e
      split at e <;> cases e
section
variable {P : Program} {w : World} {K : PySem.W.Frag} {mg : Str → Option Value} {base : Heap}
/-- what a body's end is for the def's caller -/
theorem hand_ok {S : Sta} {μ : Sto} {n : Nat} {Q : VK} {E : Exn → Sto → Prop} (hS : HS K S μ) {fl : Fl} {μ' : Sto} (h : (handBack μ fl μ').Post (POk K S Q) E) : EndOk K n { nx := fun _ H' => Q .non H', rt := Q } S fl μ' := by
  unfold handBack at h
  cases fl with
  | nx env =>
    simp only at h
    intro σ S' e hS' _
    cases ht : trim μ μ' with
    | none => rw [ht] at h; exact h.elim
    | some ν =>
      rw [ht] at h
      obtain ⟨S'', e'', hS'', hH, hF, _⟩ := trim_ok hS e hS' ht
      show Q .non S'.H
      rw [← hH]
      exact h .non S'' e'' hS'' .non
  | bk env => exact h.elim
  | ct env => exact h.elim
  | rt w =>
    intro v S' e hS' r
    cases w with
    | s x => exact h.elim
    | d x =>
      simp only at h
      cases ht : trim μ μ' with
      | none => rw [ht] at h; exact h.elim
      | some ν =>
        rw [ht] at h
        obtain ⟨S'', e'', hS'', hH, hF, _⟩ := trim_ok hS e hS' ht
        show Q v S'.H
        rw [← hH]
        exact h v S'' e'' hS'' (by show Rp K S''.F v x; rw [hF]; exact r)
    | l k =>
      simp only at h
      by_cases hk : k < μ.length
      · rw [if_pos hk] at h
        cases ht : trim μ μ' with
        | none => rw [ht] at h; exact h.elim
        | some ν =>
          rw [ht] at h
          obtain ⟨S'', e'', hS'', hH, hF, hL⟩ := trim_ok hS e hS' ht
          obtain ⟨a, h1, h2⟩ := r
          show Q v S'.H
          rw [← hH]
          exact h v S'' e'' hS'' ⟨a, hL k a hk h1, h2⟩
      · rw [if_neg hk] at h
        exact h v S' e hS' r
/-- a def that never raises, by its body's combinators -/
theorem ok_def {x qual : Str} {st : Stmt} {f : Addr} {fd : FuncData} {N ps : List Str} {k : Nat} {g : List Wv → Sto → Rs Wv} {B : FS} (F : Fun K x qual st f fd) (S : FnScope N ps (defScope st))
    (hb : ∀ (cdv : Value) (A : Around) (outer : List PySem.Env) (s : Shared) (H : Hp) (E : XK), Room k (A.deeper (envOfC qual (defScope st) s.heap.objs.size f cdv)) → CB (cxOf CX0 P w K mg base N qual (defScope st) f cdv A outer s H E).nox W0 (defBody st) B)
    (hg : ∀ ws μ, ws.length = ps.length → g ws μ = .no ∨ g ws μ = runF N.length B ws μ) : FnOk P w K mg base CX0 (k + 1) f fd ps (spD K ps.length fun ws μ => noex (g ws μ)) := by
  refine F.ok S (fun vs H Q E h => h.1) (fun cdv A outer s H vs Q E hr h => ?_)
  obtain ⟨hl, ws, T, μ, rfl, hS, r, hp⟩ := h
  obtain ⟨t, p, q⟩ := hb cdv A outer s T.H E hr
  have hpl : ps.length ≤ N.length := by have := congrArg List.length S.pre; rw [List.length_take] at this; omega
  refine ⟨t, p, q (startE N.length ws) (L2.start N vs) T μ (start_env (N := N) r (by rw [hl]; exact hpl)) hS _ ?_⟩
  have hp : (noex (g ws μ)).Post (POk K T Q) _ := hp
  rcases hg ws μ (by rw [← rws_len r]; exact hl) with e | e
  · rw [e] at hp
    exact hp.elim
  · rw [e] at hp
    have hp : (runF N.length B ws μ).Post (POk K T Q) (fun _ _ => False) := noex_post hp
    unfold runF at hp
    rw [Rs.post_bind] at hp
    exact hp.mono (fun fl μ' h => hand_ok hS h) fun _ _ z => z.elim
end
section
variable {X : Cx} {W : WX}
/-- f(e, ..): a def that never raises -/
theorem c_call {k n : Nat} {f : Addr} {fd : FuncData} {ps : List Str} {g : List Wv → Sto → Rs Wv} {x : Str} {p pos : Pos} {e : Expr} {es : List Expr} {a : FA} (G : FnOk X.prog X.w X.K X.mg X.base CX0 k f fd ps (spD X.K n fun ws μ => noex (g ws μ))) (hr : Room k X.A) (hg : Gl X x) (hm : X.mg x = some (.ref f)) (hk : PySem.W.keepIn X.K (.ref f) = true) (hb : Binds X.K fd ps [])
    (ha : CA X W (e :: es) a) (hdb : (x == ("__debug__" : Str)) = false := by decide) (he : starEach (e :: es) X.env = (false, eval e X.env) :: starEach es X.env := by rfl) (hpl : (backTo pos (starEach es X.env)).any (·.1) = false := by rfl) :
    CEx X W (.Call (.Name x p) (e :: es) [] pos) (fCall (fun ws μ => if ws.length = n then noex (g ws μ) else .no) a) := by
  obtain ⟨t, pa, q⟩ := ha
  refine ⟨_, pe_call G hr hg hm hk hb .nil pass0 pa hdb he hpl, fun env σ S μ hE hS Q h => ?_⟩
  unfold fCall at h
  rw [Rs.post_bind] at h
  refine q env σ S μ hE hS _ (h.mono (fun ws μ1 h1 vs S1 e1 hS1 r1 => ?_) fun _ _ z => z)
  by_cases hl : ws.length = n
  · rw [if_pos hl] at h1
    rw [List.append_nil]
    exact ⟨by rw [rws_len r1]; exact hl, ws, S1, μ1, rfl, hS1, r1, by
      have q := noex_post (E' := fun _ _ => False) (h1.mono (fun a ν z => POk.mono (Q := Q) e1 z) fun _ _ z => z)
      show (noex (g ws μ1)).Post _ _
      cases eg : g ws μ1 with
      | ok a ν => rw [eg] at q; exact q
      | ex x ν => rw [eg] at q; exact q
      | no => rw [eg] at q; exact q⟩
  · rw [if_neg hl] at h1
    exact h1.elim
end
end Ped

/-! Ped6: things that change: lists and dicts of the store; the written part -/
namespace Ped
open PySem L2 PyProof.Rows PySem.Spec

/-! ### a new thing, a thing changed, a thing frozen -/
theorem HS.push {K : PySem.W.Frag} {S : Sta} {μ : Sto} (h : HS K S μ) {p : Addr} {o : HO} {ob : Ob} (hp : S.H p = none) (hob : ObR K ⟨upd S.H p o, S.F, S.L ++ [p]⟩ p ob) : HS K ⟨upd S.H p o, S.F, S.L ++ [p]⟩ (μ ++ [ob]) := by
  have hpL := h.fresh hp
  have gr : Grow S ⟨upd S.H p o, S.F, S.L ++ [p]⟩ := ⟨fun _ _ z => z, fun n a z => by
    show (S.L ++ [p])[n]? = some a
    rw [List.getElem?_append_left (List.getElem?_eq_some_iff.mp z).1]
    exact z⟩
  refine ⟨fun a u e => ?_, ?_, ?_, fun n a h1 => ?_, fun n a ob' h1 h2 h3 => ?_, fun n a ob' h1 h2 => ?_⟩
  · show upd S.H p o a = some u
    have := h.sub a u e
    rw [upd_ne (ne_of_none this hp)]
    exact this
  · show (S.L ++ [p]).length = (μ ++ [ob]).length
    rw [List.length_append, List.length_append, h.len]
    rfl
  · show (S.L ++ [p]).Nodup
    rw [List.nodup_append]
    exact ⟨h.nd, (by simp), fun a ha b hb => by
      rw [List.mem_singleton] at hb
      subst hb
      exact fun z => hpL (z ▸ ha)⟩
  · have h1 : (S.L ++ [p])[n]? = some a := h1
    show ∃ u, upd S.H p o a = some u
    by_cases ha : a = p
    · subst ha
      exact ⟨o, upd_same⟩
    · rw [upd_ne ha]
      by_cases hn : n < S.L.length
      · rw [List.getElem?_append_left hn] at h1
        exact h.tr n a h1
      · rw [List.getElem?_append_right (by omega)] at h1
        have : a ∈ [p] := List.mem_of_getElem? h1
        exact absurd (List.mem_singleton.mp this) ha
  · have h1 : (S.L ++ [p])[n]? = some a := h1
    show S.F a = none
    by_cases hn : n < S.L.length
    · rw [List.getElem?_append_left hn] at h1
      rw [List.getElem?_append_left (by rw [← h.len]; exact hn)] at h2
      exact h.lv n a ob' h1 h2 h3
    · rw [List.getElem?_append_right (by omega)] at h1
      have : a ∈ [p] := List.mem_of_getElem? h1
      rw [List.mem_singleton.mp this]
      exact h.free hp
  · have h1 : (S.L ++ [p])[n]? = some a := h1
    by_cases hn : n < S.L.length
    · rw [List.getElem?_append_left hn] at h1
      rw [List.getElem?_append_left (by rw [← h.len]; exact hn)] at h2
      refine (h.ob n a ob' h1 h2).stayG gr fun u z => ?_
      show upd S.H p o a = some u
      rw [upd_ne (ne_of_none z hp)]
      exact z
    · rw [List.getElem?_append_right (by omega)] at h1
      rw [List.getElem?_append_right (by rw [← h.len]; omega)] at h2
      have hlt := (List.getElem?_eq_some_iff.mp h1).1
      simp only [List.length_singleton] at hlt
      have e0 : n - S.L.length = 0 := by omega
      have e1 : n - μ.length = 0 := by rw [← h.len]; exact e0
      rw [e0] at h1
      rw [e1] at h2
      cases h1
      cases h2
      exact hob
theorem Ext.push {S : Sta} {p : Addr} {o : HO} (hp : S.H p = none) : Ext S ⟨upd S.H p o, S.F, S.L ++ [p]⟩ := by
  refine ⟨fun _ _ z => z, fun n a z => ?_, fun a u z _ => ?_, fun a u z => ⟨u, ?_⟩, fun a z => ?_, fun _ z => .inl z, fun a u x z => (upd_ne (ne_of_none z hp)).trans z⟩
  · show (S.L ++ [p])[n]? = some a
    rw [List.getElem?_append_left (List.getElem?_eq_some_iff.mp z).1]
    exact z
  · show upd S.H p o a = some u
    rw [upd_ne (ne_of_none z hp)]
    exact z
  · show upd S.H p o a = some u
    rw [upd_ne (ne_of_none z hp)]
    exact z
  · have z : a ∈ S.L ++ [p] := z
    rcases List.mem_append.mp z with z | z
    · exact .inl z
    · rw [List.mem_singleton.mp z]
      exact .inr hp
theorem at_push {S : Sta} {p : Addr} {o : HO} {μ : Sto} (h : S.L.length = μ.length) : (⟨upd S.H p o, S.F, S.L ++ [p]⟩ : Sta).L[μ.length]? = some p := by
  show (S.L ++ [p])[μ.length]? = some p
  rw [← h, List.getElem?_append_right (Nat.le_refl _), Nat.sub_self]
  rfl
/-- the thing of number n becomes another one -/
theorem HS.put {K : PySem.W.Frag} {S : Sta} {μ : Sto} (h : HS K S μ) {n : Nat} {a : Addr} {o : HO} {ob0 ob : Ob} (hn : S.L[n]? = some a) (h0 : μ[n]? = some ob0) (hd : ob0 ≠ .dead) (hob : ObR K ⟨upd S.H a o, S.F, S.L⟩ a ob) : HS K ⟨upd S.H a o, S.F, S.L⟩ (μ.set n ob) := by
  have hF := h.lv n a ob0 hn h0 hd
  have gr : Grow S ⟨upd S.H a o, S.F, S.L⟩ := ⟨fun _ _ z => z, fun _ _ z => z⟩
  have hlt : n < μ.length := (List.getElem?_eq_some_iff.mp h0).1
  refine ⟨fun b u e => ?_, ?_, h.nd, fun m b h1 => ?_, fun m b ob' h1 h2 h3 => ?_, fun m b ob' h1 h2 => ?_⟩
  · show upd S.H a o b = some u
    rw [upd_ne (ne_of_none e hF)]
    exact h.sub b u e
  · rw [List.length_set]
    exact h.len
  · show ∃ u, upd S.H a o b = some u
    by_cases hb : b = a
    · subst hb
      exact ⟨o, upd_same⟩
    · rw [upd_ne hb]
      exact h.tr m b h1
  · by_cases hm : n = m
    · subst hm
      have h1 : S.L[n]? = some b := h1
      rw [hn] at h1
      cases h1
      exact hF
    · rw [List.getElem?_set_ne hm] at h2
      exact h.lv m b ob' h1 h2 h3
  · by_cases hm : n = m
    · subst hm
      have h1 : S.L[n]? = some b := h1
      rw [hn] at h1
      cases h1
      rw [List.getElem?_set_self hlt] at h2
      cases h2
      exact hob
    · rw [List.getElem?_set_ne hm] at h2
      have hb : b ≠ a := fun z => by
        subst z
        have h1 : S.L[m]? = some b := h1
        obtain ⟨l1, e1⟩ := List.getElem?_eq_some_iff.mp h1
        obtain ⟨l2, e2⟩ := List.getElem?_eq_some_iff.mp hn
        exact hm ((List.getElem_inj h.nd).mp (e2.trans e1.symm))
      refine (h.ob m b ob' h1 h2).stayG gr fun u z => ?_
      show upd S.H a o b = some u
      rw [upd_ne hb]
      exact z
theorem Ext.put {S : Sta} {n : Nat} {a : Addr} {o v : HO} (hn : S.L[n]? = some a) (hv : S.H a = some v) (hz : ∀ o u, v ≠ .frz o u := by intro _ _ z; cases z) : Ext S ⟨upd S.H a o, S.F, S.L⟩ := by
  refine ⟨fun _ _ z => z, fun _ _ z => z, fun b u z hb => ?_, fun b u z => ?_, fun _ z => .inl z, fun _ z => .inl z, fun b u x z => (upd_ne fun q => by subst q; rw [hv] at z; exact hz _ _ (Option.some.inj z)).trans z⟩
  · show upd S.H a o b = some u
    rw [upd_ne fun q => hb (by rw [q]; exact List.mem_of_getElem? hn)]
    exact z
  · show ∃ u', upd S.H a o b = some u'
    by_cases hb : b = a
    · subst hb
      exact ⟨o, upd_same⟩
    · rw [upd_ne hb]
      exact ⟨u, z⟩
/-- the list of number n is changed no more -/
theorem HS.freeze {K : PySem.W.Frag} {S : Sta} {μ : Sto} (h : HS K S μ) {n : Nat} {a : Addr} {vs : List V} {ws : List Wv} {ds : List PyData} (hn : S.L[n]? = some a) (h0 : μ[n]? = some (.lst ws)) (hH : S.H a = some (.lst vs)) (r : RWs K S vs ws) (hd : dats ws = some ds) :
    Ext S ⟨S.H, upd S.F a (.lst vs), S.L⟩ ∧ HS K ⟨S.H, upd S.F a (.lst vs), S.L⟩ (μ.set n .dead) ∧ Rp K (upd S.F a (.lst vs)) (.ref a) (.list ds) := by
  have hF := h.lv n a _ hn h0 (by intro z; cases z)
  have hlt : n < μ.length := (List.getElem?_eq_some_iff.mp h0).1
  have sb : Sb S.F (upd S.F a (.lst vs)) := fun b u z => by
    rw [upd_ne (ne_of_none z hF)]
    exact z
  refine ⟨⟨sb, fun _ _ z => z, fun _ _ z _ => z, fun _ u z => ⟨u, z⟩, fun _ z => .inl z, fun b z => ?_, fun _ _ _ z => z⟩, ⟨fun b u e => ?_, ?_, h.nd, h.tr, fun m b ob' h1 h2 h3 => ?_, fun m b ob' h1 h2 => ?_⟩, rp_lst hF (rws_dats r hd)⟩
  · by_cases hb : b = a
    · subst hb
      exact .inr (.inr (List.mem_of_getElem? hn))
    · have z : upd S.F a (.lst vs) b ≠ none := z
      rw [upd_ne hb] at z
      exact .inl z
  · have e : upd S.F a (.lst vs) b = some u := e
    by_cases hb : b = a
    · subst hb
      rw [upd_same] at e
      cases e
      exact hH
    · rw [upd_ne hb] at e
      exact h.sub b u e
  · rw [List.length_set]
    exact h.len
  · by_cases hm : n = m
    · subst hm
      rw [List.getElem?_set_self hlt] at h2
      cases h2
      exact absurd rfl h3
    · rw [List.getElem?_set_ne hm] at h2
      have hb : b ≠ a := fun z => by
        subst z
        have h1 : S.L[m]? = some b := h1
        obtain ⟨l1, e1⟩ := List.getElem?_eq_some_iff.mp h1
        obtain ⟨l2, e2⟩ := List.getElem?_eq_some_iff.mp hn
        exact hm ((List.getElem_inj h.nd).mp (e2.trans e1.symm))
      show upd S.F a (.lst vs) b = none
      rw [upd_ne hb]
      exact h.lv m b ob' h1 h2 h3
  · by_cases hm : n = m
    · subst hm
      rw [List.getElem?_set_self hlt] at h2
      cases h2
      trivial
    · rw [List.getElem?_set_ne hm] at h2
      exact ObR.stayG (S := S) (S' := ⟨S.H, upd S.F a (.lst vs), S.L⟩) ⟨sb, fun _ _ z => z⟩ (h.ob m b ob' h1 h2) fun _ z => z

section
variable {X : Cx} {W : WX}
/-! ### lists of the store -/
def fLstN (g : FA) : FE := fun env μ => (g env μ).bind fun ws μ1 => if ws.length ≤ LIM then .ok (.l μ1.length) (μ1 ++ [.lst ws]) else .no
theorem new_lstN {K : PySem.W.Frag} {S : Sta} {μ : Sto} {Q : VK} {vs : List V} {ws : List Wv} (hS : HS K S μ) (r : RWs K S vs ws) (h : POk K S Q (.l μ.length) (μ ++ [.lst ws])) : ∀ p, S.H p = none → Q (.ref p) (upd S.H p (.lst vs)) := fun p hp =>
  h (.ref p) ⟨upd S.H p (.lst vs), S.F, S.L ++ [p]⟩ (Ext.push hp) (hS.push hp ⟨vs, upd_same, r.mono (Ext.push hp)⟩) ⟨p, at_push hS.len, rfl⟩
theorem c_lstN {es : List Expr} {pos} {g : FA} (h : CA X W es g) : CEx X W (.List es pos) (fLstN g) := by
  obtain ⟨t, p, q⟩ := h
  refine ⟨_, pe_lst p, fun env σ S μ he hS Q h => ?_⟩
  unfold fLstN at h
  rw [Rs.post_bind] at h
  refine q env σ S μ he hS _ (h.mono (fun ws μ1 h1 vs S1 e1 hS1 r1 => ?_) fun _ _ z => z)
  by_cases hl : ws.length ≤ LIM
  · rw [if_pos hl] at h1
    exact ⟨by rw [rws_len r1]; exact lim_line hl, new_lstN hS1 r1 (POk.mono e1 h1)⟩
  · rw [if_neg hl] at h1
    exact h1.elim
/-- [..] * n, to be changed -/
def mulN (x y : Wv) (μ : Sto) : Rs Wv := match x, y with
  | .d (.list i), .d (.int k) => if -1000000 ≤ k ∧ k ≤ 1000000 ∧ i.length * k.toNat ≤ LIM then .ok (.l μ.length) (μ ++ [.lst ((List.replicate k.toNat i).flatten.map Wv.d)]) else .no
  | _, _ => .no
theorem mulN_nx : NoEx mulN := fun x y μ e ν q => by
  unfold mulN at q
  split at q <;> first | cases q | (split at q <;> cases q)
theorem rws_of {K : PySem.W.Frag} {S : Sta} : ∀ {vs : List V} {ds : List PyData}, RpA K S.F vs ds → RWs K S vs (ds.map Wv.d)
  | _, _, .nil => .nil
  | _, _, .cons r t => .cons r (rws_of t)
theorem c_mulN {a b : Expr} {f g : FE} {pos : Pos} (ha : CEx X W a f) (hb : CEx X W b g) : CEx X W (.BinOp a .Mult b pos) (fOp mulN f g) := by
  refine c_op op_rep (fun x y v u S μ hS hx hy Q hp => ?_) mulN_nx ha hb
  unfold mulN at hp
  split at hp
  · split at hp
    · rename_i hk
      obtain ⟨p, xs, rfl, ha, ra⟩ := rp_lst_inv hx
      cases hy
      exact ⟨p, _, xs, rfl, rfl, hS.sub _ _ ha, by omega, by omega, by rw [ra.len]; exact lim_line hk.2.2, new_lstN hS (rws_of (ra.rep _)) hp⟩
    · exact hp.elim
  · exact hp.elim
/-- the list of number n in the store -/
def lstAt (μ : Sto) (n : Nat) : Option (List Wv) := match μ[n]? with
  | some (.lst ws) => some ws
  | _ => none
theorem lstAt_some {μ : Sto} {n : Nat} {ws : List Wv} (h : lstAt μ n = some ws) : μ[n]? = some (.lst ws) := by
  unfold lstAt at h
  split at h
  · cases h; assumption
  · cases h
/-- x.append(e) -/
def fApp (f g : FE) : FE := fun env μ => (f env μ).bind fun x μ1 => match x with
  | .l n => (match lstAt μ1 n with
    | some _ => (g env μ1).bind fun y μ2 => (match lstAt μ2 n with
      | some ws => if ws.length < LIM then .ok (.d .none) (μ2.set n (.lst (ws ++ [y]))) else .no
      | none => .no)
    | none => .no)
  | _ => .no
theorem rws_append {K : PySem.W.Frag} {S : Sta} : ∀ {vs us : List V} {ws zs : List Wv}, RWs K S vs ws → RWs K S us zs → RWs K S (vs ++ us) (ws ++ zs)
  | _, _, _, _, .nil, s => s
  | _, _, _, _, .cons r t, s => .cons r (rws_append t s)
theorem c_append {o e : Expr} {f g : FE} {apos cpos : Pos} (ho : CEx X W o f) (he : CEx X W e g)
    (hbase : attributeBase o "append" X.env (eval o X.env) = eval o X.env := by rfl)
    (hfew : ((backTo cpos (starEach [e] X.env)).all (fun x => !x.1) && (backToKw cpos (keywordEach [] X.env)).all (fun x => x.1.isSome)
      && decide (([e] : List Expr).length + ([] : List Keyword).length + (if ([] : List Keyword).isEmpty then 0 else 1) < 30)) = true := by rfl)
    (hline : (apos.endLine == cpos.line) = true := by rfl) (hs : starEach [e] X.env = (false, eval e X.env) :: starEach [] X.env := by rfl) (hplain : (backTo cpos (starEach [] X.env)).any (·.1) = false := by rfl) :
    CEx X W (.Call (.Attribute o "append" apos) [e] [] cpos) (fApp f g) := by
  obtain ⟨to, po, qo⟩ := ho
  obtain ⟨te, pe, qe⟩ := he
  refine ⟨_, pe_bm PySem.F.plainAttrs_list PySem.F.slot_list_append PySem.F.type_list_append mt_append po (pa_cons pe pa_nil hs) hbase hfew hline hs hplain, fun env σ S μ hE hS Q hp => ?_⟩
  unfold fApp at hp
  rw [Rs.post_bind] at hp
  refine qo env σ S μ hE hS _ (hp.mono (fun x μ1 h1 v S1 e1 hS1 r1 => ?_) fun _ _ z => z)
  cases x with
  | d z => exact h1.elim
  | s z => exact h1.elim
  | l n =>
    obtain ⟨a, hL, rfl⟩ := r1
    simp only at h1
    cases hm : lstAt μ1 n with
    | none => rw [hm] at h1; exact h1.elim
    | some ws1 =>
      rw [hm] at h1
      obtain ⟨vs1, q1, _⟩ := hS1.ob n a _ hL (lstAt_some hm)
      refine ⟨.inl ⟨rfl, _, .inl (.inl q1)⟩, ?_⟩
      have h1 : ((g env μ1).bind _).Post _ _ := h1
      rw [Rs.post_bind] at h1
      refine qe env σ S1 μ1 (hE.mono e1) hS1 _ (h1.mono (fun y μ2 h2 u S2 e2 hS2 r2 => ?_) fun _ _ z => z.mono e1)
      cases hm2 : lstAt μ2 n with
      | none => rw [hm2] at h2; exact h2.elim
      | some ws =>
        rw [hm2] at h2
        have hL2 := e2.pf n a hL
        obtain ⟨vs, q2, q3⟩ := hS2.ob n a _ hL2 (lstAt_some hm2)
        simp only at h2
        by_cases hl : ws.length < LIM
        · rw [if_pos hl] at h2
          have h2 : POk X.K S Q (.d .none) (μ2.set n (.lst (ws ++ [y]))) := h2
          refine ⟨a, vs, u, rfl, rfl, q2, by rw [rws_len q3]; exact lim_lt (Nat.le_of_lt hl), ?_⟩
          have ex := Ext.put (o := .lst (vs ++ [u])) hL2 q2
          exact h2 .non _ (e1.trans (e2.trans ex)) (hS2.put hL2 (lstAt_some hm2) (by intro z; cases z) ⟨_, upd_same, rws_append (q3.mono ex) (.cons (r2.mono ex) .nil)⟩) .non
        · rw [if_neg hl] at h2
          exact h2.elim
/-- o[i] = e, o a list of the store -/
def sSetIx (f g h : FE) : FS := fun env μ => (f env μ).bind fun y μ1 => (g env μ1).bind fun x μ2 => (h env μ2).bind fun i μ3 => match x, i with
  | .l n, .d (.int k) => (match lstAt μ3 n with
    | some ws => (match ixN ws.length k with
      | some j => .ok (.nx env) (μ3.set n (.lst (ws.set j y)))
      | none => .no)
    | none => .no)
  | _, _ => .no
theorem rws_set {K : PySem.W.Frag} {S : Sta} {v : V} {w : Wv} (r : RW K S v w) : ∀ {vs : List V} {ws : List Wv} (j : Nat), RWs K S vs ws → RWs K S (vs.set j v) (ws.set j w)
  | _, _, _, .nil => .nil
  | _, _, 0, .cons _ t => .cons r t
  | _, _, j + 1, .cons q t => .cons q (rws_set r j t)
theorem cs_setix {o i e : Expr} {f g h : FE} {p pos : Pos} (he : CEx X W e f) (ho : CEx X W o g) (hi : CEx X W i h)
    (ha : ∀ v, assign (.Subscript o i p) X.env v = (do
      let ov ← holding [v] (eval o X.env)
      let iv ← holding [v, ov] (eval i X.env)
      standAt p
      holding [v, ov, iv] (setItem ov iv v)
      release [v, ov, iv] []) := by intro _; rfl) (hs : swapsWithSole [.Subscript o i p] e pos.line X.env = pure false := by rfl) (hw : swappedStores [.Subscript o i p] e X.env = pure none := by rfl)
    (h1 : (assignEach [.Subscript o i p] X.env).map (·.2) = [assign (.Subscript o i p) X.env] := by rfl) : CS X W (.Assign [.Subscript o i p] e pos) (sSetIx f g h) := by
  obtain ⟨te, pe, qe⟩ := he
  obtain ⟨to, po, qo⟩ := ho
  obtain ⟨ti, pi, qi⟩ := hi
  refine ⟨_, ps_asg pe (pg_sub po pi set_list ha) hs hw h1, fun env σ S μ hE hS D hp => ?_⟩
  unfold sSetIx at hp
  rw [Rs.post_bind] at hp
  refine qe env σ S μ hE hS _ (hp.mono (fun y μ1 h1 v S1 e1 hS1 r1 => ?_) fun _ _ z => z.at hE.lenS)
  rw [Rs.post_bind] at h1
  refine qo env σ S1 μ1 (hE.mono e1) hS1 _ (h1.mono (fun x μ2 h2 u S2 e2 hS2 r2 => ?_) fun _ _ z => (z.mono e1).at hE.lenS)
  rw [Rs.post_bind] at h2
  refine qi env σ S2 μ2 (hE.mono (e1.trans e2)) hS2 _ (h2.mono (fun i μ3 h3 t S3 e3 hS3 r3 => ?_) fun _ _ z => (z.mono (e1.trans e2)).at hE.lenS)
  split at h3
  · rename_i n k
    obtain ⟨a, hL, rfl⟩ := r2
    cases r3
    cases hm : lstAt μ3 n with
    | none => rw [hm] at h3; exact h3.elim
    | some ws =>
      rw [hm] at h3
      simp only at h3
      have hL3 := e3.pf n a hL
      obtain ⟨vs, q2, q3⟩ := hS3.ob n a _ hL3 (lstAt_some hm)
      cases hj : ixN ws.length k with
      | none => rw [hj] at h3; exact h3.elim
      | some j =>
        rw [hj] at h3
        have ex := Ext.put (o := .lst (vs.set j v)) hL3 q2
        refine ⟨a, vs, k, j, rfl, rfl, q2, by rw [rws_len q3]; exact hj, ?_⟩
        exact h3 σ _ (e1.trans (e2.trans (e3.trans ex))) (hS3.put hL3 (lstAt_some hm) (by intro z; cases z) ⟨_, upd_same, rws_set (r1.mono (e2.trans (e3.trans ex))) j (q3.mono ex)⟩) (hE.mono (e1.trans (e2.trans (e3.trans ex))))
  · exact h3.elim
/-- from here on the list at the i-th name is changed no more -/
def frz (i : Nat) (f : FS) : FS := fun env μ => match env[i]? with
  | some (some (.l n)) => (match lstAt μ n with
    | some ws => (match dats ws with
      | some ds => f (env.set i (some (.d (.list ds)))) (μ.set n .dead)
      | none => .no)
    | none => .no)
  | _ => .no
theorem cb_frz (i : Nat) {sts : List Stmt} {f : FS} (h : CB X W sts f) : CB X W sts (frz i f) := by
  obtain ⟨t, p, q⟩ := h
  refine ⟨t, p, fun env σ S μ hE hS D hp => ?_⟩
  unfold frz at hp
  split at hp
  · rename_i n hi
    cases hm : lstAt μ n with
    | none => rw [hm] at hp; exact hp.elim
    | some ws =>
      rw [hm] at hp
      simp only at hp
      cases hd : dats ws with
      | none => rw [hd] at hp; exact hp.elim
      | some ds =>
        rw [hd] at hp
        obtain ⟨v, hv, a, hL, rfl⟩ := hE.val i _ hi
        obtain ⟨vs, q1, q2⟩ := hS.ob n a _ hL (lstAt_some hm)
        obtain ⟨ex, hS', r⟩ := hS.freeze hL (lstAt_some hm) q1 q2 hd
        have hE' := (hE.mono ex).set (i := i) (w := .d (.list ds)) (v := .ref a) r
        have es : σ.set i (some (.ref a)) = σ := by
          refine List.ext_getElem? fun j => ?_
          by_cases hj : i = j
          · subst hj
            rw [List.getElem?_set_self (List.getElem?_eq_some_iff.mp hv).1, hv]
          · rw [List.getElem?_set_ne hj]
        rw [es] at hE'
        exact q _ σ _ _ hE' hS' D (hp.mono (fun fl ν z => EndOk.mono ex z) fun _ _ z => z.mono ex)
  · exact hp.elim

/-! ### dicts of the store -/
def keyD : PyData → Option Key
  | .int i => some (.inl i)
  | .str s => some (.inr s)
  | _ => none
def keysD : List PyData → Option (List Key)
  | [] => some []
  | d :: r => match keyD d, keysD r with
    | some k, some ks => some (k :: ks)
    | _, _ => none
theorem keyD_rp {K : PySem.W.Frag} {F : Hp} {v : V} {d : PyData} {k : Key} (h : keyD d = some k) (r : Rp K F v d) : v = kV k := by
  cases r <;> simp [keyD] at h
  · subst h; rfl
  · subst h; rfl
theorem keysD_rp {K : PySem.W.Frag} {F : Hp} : ∀ {vs : List V} {ds : List PyData} {ks : List Key}, keysD ds = some ks → RpA K F vs ds → vs = ks.map kV
  | _, _, ks, h, .nil => by simp [keysD] at h; subst h; rfl
  | _, _, ks, h, .cons r t => by
    unfold keysD at h
    split at h
    · rename_i k ks' h1 h2
      cases h
      rw [keyD_rp h1 r, keysD_rp h2 t]
      rfl
    · cases h
section
variable {κ : Type} [DecidableEq κ]
def valW (kvs : List (κ × Wv)) (k : κ) : Option Wv := (kvs.find? fun kv => decide (kv.1 = k)).map (·.2)
def putW (kvs : List (κ × Wv)) (k : κ) (v : Wv) : List (κ × Wv) :=
  if (kvs.any fun kv => decide (kv.1 = k)) = true then kvs.map (fun kv => if kv.1 = k then (kv.1, v) else kv) else kvs ++ [(k, v)]
theorem valW_cons (k1 k : κ) (w : Wv) (r : List (κ × Wv)) : valW ((k1, w) :: r) k = if k1 = k then some w else valW r k := by
  by_cases h : k1 = k <;> simp [valW, List.find?_cons, h]
theorem rkv_val {K : PySem.W.Frag} {S : Sta} {k : κ} : ∀ {vs : List (κ × V)} {ws : List (κ × Wv)}, RKv K S vs ws → (∀ w, valW ws k = some w → ∃ v, valV vs k = some v ∧ RW K S v w) ∧ (valW ws k = none → valV vs k = none)
  | _, _, .nil => ⟨fun w h => (by simp [valW] at h), fun _ => rfl⟩
  | (k1, v) :: vs, (k2, w) :: ws, .cons r t => by
    obtain ⟨e, r⟩ := r
    have e : k1 = k2 := e
    subst e
    obtain ⟨i1, i2⟩ := rkv_val (k := k) t
    rw [valW_cons]
    by_cases hk : k1 = k
    · rw [if_pos hk, valV_pos (p := (k1, v)) hk]
      exact ⟨fun w' h => by cases h; exact ⟨v, rfl, r⟩, fun h => by cases h⟩
    · rw [if_neg hk, valV_neg (p := (k1, v)) hk]
      exact ⟨i1, i2⟩
theorem rkv_any {K : PySem.W.Frag} {S : Sta} {k : κ} : ∀ {vs : List (κ × V)} {ws : List (κ × Wv)}, RKv K S vs ws → (vs.any fun kv => decide (kv.1 = k)) = ws.any fun kv => decide (kv.1 = k)
  | _, _, .nil => rfl
  | _, _, .cons r t => by rw [List.any_cons, List.any_cons, rkv_any t, r.1]
theorem rkv_len {K : PySem.W.Frag} {S : Sta} {vs : List (κ × V)} {ws : List (κ × Wv)} (h : RKv K S vs ws) : vs.length = ws.length := Paired.length h
theorem rkv_map {K : PySem.W.Frag} {S : Sta} {k : κ} {v : V} {w : Wv} (r : RW K S v w) : ∀ {vs : List (κ × V)} {ws : List (κ × Wv)}, RKv K S vs ws → RKv K S (vs.map fun kv => if kv.1 = k then (kv.1, v) else kv) (ws.map fun kv => if kv.1 = k then (kv.1, w) else kv)
  | _, _, .nil => .nil
  | (k1, x) :: _, (k2, y) :: _, .cons s t => by
    obtain ⟨e, s⟩ := s
    have e : k1 = k2 := e
    subst e
    refine .cons ?_ (rkv_map r t)
    show (if k1 = k then (k1, v) else (k1, x)).1 = (if k1 = k then (k1, w) else (k1, y)).1 ∧ RW K S (if k1 = k then (k1, v) else (k1, x)).2 (if k1 = k then (k1, w) else (k1, y)).2
    by_cases hk : k1 = k
    · rw [if_pos hk, if_pos hk]
      exact ⟨rfl, r⟩
    · rw [if_neg hk, if_neg hk]
      exact ⟨rfl, s⟩
theorem rkv_app {K : PySem.W.Frag} {S : Sta} : ∀ {vs us : List (κ × V)} {ws zs : List (κ × Wv)}, RKv K S vs ws → RKv K S us zs → RKv K S (vs ++ us) (ws ++ zs)
  | _, _, _, _, .nil, s => s
  | _, _, _, _, .cons r t, s => .cons r (rkv_app t s)
theorem rkv_put {K : PySem.W.Frag} {S : Sta} {k : κ} {v : V} {w : Wv} (r : RW K S v w) {vs : List (κ × V)} {ws : List (κ × Wv)} (h : RKv K S vs ws) : RKv K S (putK vs k v) (putW ws k w) := by
  unfold putK putW
  rw [rkv_any h]
  split
  · exact rkv_map r h
  · exact rkv_app h (.cons ⟨rfl, r⟩ .nil)
end
/-- a new dict, of keys that are ints and texts; of tuples of them -/
def fDictK : FE := fun _ μ => .ok (.l μ.length) (μ ++ [.dk []])
def fDictT : FE := fun _ μ => .ok (.l μ.length) (μ ++ [.dt []])
theorem c_dictK {pos : Pos} : CEx X W (.Dict [] [] pos) fDictK := ⟨_, pe_dnewK, fun env σ S μ hE hS Q h p hp =>
  h (.ref p) ⟨upd S.H p (.dK []), S.F, S.L ++ [p]⟩ (Ext.push hp) (hS.push hp ⟨[], upd_same, .nil⟩) ⟨p, at_push hS.len, rfl⟩⟩
theorem c_dictT {pos : Pos} : CEx X W (.Dict [] [] pos) fDictT := ⟨_, pe_dnewT, fun env σ S μ hE hS Q h p hp =>
  h (.ref p) ⟨upd S.H p (.dT []), S.F, S.L ++ [p]⟩ (Ext.push hp) (hS.push hp ⟨[], upd_same, .nil⟩) ⟨p, at_push hS.len, rfl⟩⟩
/-- what the dict of number n holds at a key (none: stuck) -/
def dGet (μ : Sto) (x y : Wv) : Option (Option Wv) := match x, y with
  | .l n, .d d => (match μ[n]? with
    | some (.dk kvs) => (keyD d).map fun k => valW kvs k
    | some (.lk kvs) => (keyD d).map fun k => valW kvs k
    | some (.dt kvs) => (match d with
      | .tuple ds => (keysD ds).map fun k => valW kvs k
      | _ => none)
    | _ => none)
  | _, _ => none
theorem dGet_ok {K : PySem.W.Frag} {S : Sta} {μ : Sto} (hS : HS K S μ) {x y : Wv} {v u : V} {r : Option Wv} (h : dGet μ x y = some r) (rx : RW K S v x) (ry : RW K S u y) : ∃ a o, v = .ref a ∧ DGet S.H a u o ∧ (∀ w, r = some w → ∃ z, o = some z ∧ RW K S z w) ∧ (r = none → o = none) := by
  unfold dGet at h
  split at h
  · rename_i n d
    obtain ⟨a, hL, rfl⟩ := rx
    split at h
    · rename_i kvs hm
      cases hk : keyD d with
      | none => rw [hk] at h; cases h
      | some k =>
        rw [hk] at h
        cases h
        obtain ⟨vs, h1, h2⟩ := hS.ob n a _ hL hm
        obtain ⟨i1, i2⟩ := rkv_val (k := k) h2
        refine ⟨a, _, rfl, by rw [keyD_rp hk ry]; exact DGet.k h1, i1, i2⟩
    · rename_i kvs hm
      cases hk : keyD d with
      | none => rw [hk] at h; cases h
      | some k =>
        rw [hk] at h
        cases h
        obtain ⟨od, vs, h1, h2⟩ := hS.ob n a _ hL hm
        obtain ⟨i1, i2⟩ := rkv_val (k := k) h2
        refine ⟨a, _, rfl, by rw [keyD_rp hk ry]; exact .inl ⟨_, _, .inr ⟨_, h1⟩, rfl, rfl⟩, i1, i2⟩
    · rename_i kvs hm
      split at h
      · rename_i ds
        cases hk : keysD ds with
        | none => rw [hk] at h; cases h
        | some k =>
          rw [hk] at h
          cases h
          obtain ⟨vs, h1, h2⟩ := hS.ob n a _ hL hm
          obtain ⟨i1, i2⟩ := rkv_val (k := k) h2
          obtain ⟨b, xs, rfl, hb, rb⟩ := rp_tup_inv ry
          exact ⟨a, _, rfl, DGet.t h1 (by rw [← keysD_rp hk rb]; exact hS.sub _ _ hb), i1, i2⟩
      · cases h
    · cases h
  · cases h
/-- the store behind d[y] = v -/
def dPut (μ : Sto) (x y z : Wv) : Option Sto := match x, y with
  | .l n, .d d => (match μ[n]? with
    | some (.dk kvs) => if kvs.length < LIM then (keyD d).map fun k => μ.set n (.dk (putW kvs k z)) else none
    | some (.dt kvs) => (match d with
      | .tuple ds => if kvs.length < LIM then (keysD ds).map fun k => μ.set n (.dt (putW kvs k z)) else none
      | _ => none)
    | _ => none)
  | _, _ => none
theorem dPut_ok {K : PySem.W.Frag} {S : Sta} {μ ν : Sto} (hS : HS K S μ) {x y z : Wv} {v u t : V} (h : dPut μ x y z = some ν) (rx : RW K S v x) (ry : RW K S u y) (rz : RW K S t z) : ∃ a H' S', v = .ref a ∧ DPut S.H a u t H' ∧ S'.H = H' ∧ Ext S S' ∧ HS K S' ν := by
  unfold dPut at h
  split at h
  · rename_i n d
    obtain ⟨a, hL, rfl⟩ := rx
    split at h
    · rename_i kvs hm
      split at h
      · rename_i hlen
        cases hk : keyD d with
        | none => rw [hk] at h; cases h
        | some k =>
          rw [hk] at h
          cases h
          obtain ⟨vs, h1, h2⟩ := hS.ob n a _ hL hm
          have ex := Ext.put (o := .dK (putK vs k t)) hL h1
          exact ⟨a, _, _, rfl, by rw [keyD_rp hk ry]; exact DPut.k h1 (by rw [rkv_len h2]; exact lim_lt (Nat.le_of_lt hlen)), rfl, ex, hS.put hL hm (by intro z; cases z) ⟨_, upd_same, rkv_put (rz.mono ex) (h2.mono ex)⟩⟩
      · cases h
    · rename_i kvs hm
      split at h
      · rename_i ds
        split at h
        · rename_i hlen
          cases hk : keysD ds with
          | none => rw [hk] at h; cases h
          | some k =>
            rw [hk] at h
            cases h
            obtain ⟨vs, h1, h2⟩ := hS.ob n a _ hL hm
            obtain ⟨b, xs, rfl, hb, rb⟩ := rp_tup_inv ry
            have ex := Ext.put (o := .dT (putK vs k t)) hL h1
            exact ⟨a, _, _, rfl, DPut.t h1 (by rw [← keysD_rp hk rb]; exact hS.sub _ _ hb) (by rw [rkv_len h2]; exact lim_lt (Nat.le_of_lt hlen)), rfl, ex, hS.put hL hm (by intro z; cases z) ⟨_, upd_same, rkv_put (rz.mono ex) (h2.mono ex)⟩⟩
        · cases h
      · cases h
    · cases h
  · cases h
section
variable {a b : Expr} {f g : FE} {pos : Pos}
def dgetW (x y : Wv) (μ : Sto) : Rs Wv := match dGet μ x y with
  | some (some w) => .ok w μ
  | _ => .no
def fDget (f g : FE) : FE := fOp dgetW f g
def dinW (neg : Bool) (y x : Wv) (μ : Sto) : Rs Wv := match dGet μ x y with
  | some o => .ok (.d (.bool (if neg then !o.isSome else o.isSome))) μ
  | none => .no
def fDin (neg : Bool) (f g : FE) : FE := fOp (dinW neg) f g
theorem c_dget (hu : X.A.units + 1 < cLine) (ha : CEx X W a f) (hb : CEx X W b g) (hs : NoSl b := by intro _ _; rfl) : CEx X W (.Subscript a b pos) (fDget f g) := by
  obtain ⟨ta, pa, qa⟩ := ha
  obtain ⟨tb, pb, qb⟩ := hb
  refine ⟨_, pe_dget hu pa pb hs, fun env σ S μ he hS Q hp => ?_⟩
  unfold fDget fOp at hp
  rw [Rs.post_bind] at hp
  refine qa env σ S μ he hS _ (hp.mono (fun x μ1 h1 v S1 e1 hS1 r1 => ?_) fun _ _ z => z)
  rw [Rs.post_bind] at h1
  refine qb env σ S1 μ1 (he.mono e1) hS1 _ (h1.mono (fun y μ2 h2 u S2 e2 hS2 r2 => ?_) fun _ _ z => z.mono e1)
  unfold dgetW at h2
  cases hg : dGet μ2 x y with
  | none => rw [hg] at h2; exact h2.elim
  | some r =>
    rw [hg] at h2
    cases r with
    | none => exact h2.elim
    | some w =>
      obtain ⟨a, o, rfl, hD, i1, _⟩ := dGet_ok hS2 hg (r1.mono e2) r2
      obtain ⟨z, rfl, rz⟩ := i1 w rfl
      exact ⟨a, z, rfl, hD, h2 z S2 (e1.trans e2) hS2 rz⟩
theorem din_core {neg : Bool} {ta tb : TE} (qa : ∀ env σ S μ, EnvR X.K X.N.length S env σ → HS X.K S μ → ∀ Q : VK, (f env μ).Post (POk X.K S Q) (PEx X.K W σ S) → ta σ S.H Q)
    (qb : ∀ env σ S μ, EnvR X.K X.N.length S env σ → HS X.K S μ → ∀ Q : VK, (g env μ).Post (POk X.K S Q) (PEx X.K W σ S) → tb σ S.H Q) :
    ∀ env σ S μ, EnvR X.K X.N.length S env σ → HS X.K S μ → ∀ Q : VK, (fDin neg f g env μ).Post (POk X.K S Q) (PEx X.K W σ S) →
      ta σ S.H fun y H1 => tb σ H1 fun x H2 => ∃ a o, x = .ref a ∧ DGet H2 a y o ∧ Q (.bl (if neg then !o.isSome else o.isSome)) H2 := fun env σ S μ he hS Q hp => by
  unfold fDin fOp at hp
  rw [Rs.post_bind] at hp
  refine qa env σ S μ he hS _ (hp.mono (fun y μ1 h1 v S1 e1 hS1 r1 => ?_) fun _ _ z => z)
  rw [Rs.post_bind] at h1
  refine qb env σ S1 μ1 (he.mono e1) hS1 _ (h1.mono (fun x μ2 h2 u S2 e2 hS2 r2 => ?_) fun _ _ z => z.mono e1)
  unfold dinW at h2
  cases hg : dGet μ2 x y with
  | none => rw [hg] at h2; exact h2.elim
  | some r =>
    rw [hg] at h2
    obtain ⟨a, o, rfl, hD, i1, i2⟩ := dGet_ok hS2 hg r2 (r1.mono e2)
    have e : o.isSome = r.isSome := by
      cases r with
      | none => rw [i2 rfl]; rfl
      | some w => obtain ⟨z, rfl, _⟩ := i1 w rfl; rfl
    refine ⟨a, o, rfl, hD, ?_⟩
    rw [e]
    exact h2 _ S2 (e1.trans e2) hS2 (.bl _)
theorem c_din (hu : X.A.units + 1 < cLine) (ha : CEx X W a f) (hb : CEx X W b g) (hm : behindInMarks .In b = false := by rfl) : CEx X W (.Compare a [.In] [b] pos) (fDin false f g) := by
  obtain ⟨ta, pa, qa⟩ := ha
  obtain ⟨tb, pb, qb⟩ := hb
  exact ⟨_, pe_cmp (pc_din hu pa pb) hm, din_core (neg := false) qa qb⟩
theorem c_dnotin (hu : X.A.units + 1 < cLine) (ha : CEx X W a f) (hb : CEx X W b g) (hm : behindInMarks .NotIn b = false := by rfl) : CEx X W (.Compare a [.NotIn] [b] pos) (fDin true f g) := by
  obtain ⟨ta, pa, qa⟩ := ha
  obtain ⟨tb, pb, qb⟩ := hb
  exact ⟨_, pe_cmp (pc_dnotin hu pa pb) hm, din_core (neg := true) qa qb⟩
theorem ct_din (hu : X.A.units + 1 < cLine) (ha : CEx X W a f) (hb : CEx X W b g) (hm : behindInMarks .In b = false := by rfl) : CT X W (.Compare a [.In] [b] pos) (fB (fDin false f g)) := by
  obtain ⟨ta, pa, qa⟩ := ha
  obtain ⟨tb, pb, qb⟩ := hb
  exact ⟨_, pt_cmp (pc_din hu pa pb) hm, b_core (din_core (neg := false) qa qb)⟩
theorem ct_dnotin (hu : X.A.units + 1 < cLine) (ha : CEx X W a f) (hb : CEx X W b g) (hm : behindInMarks .NotIn b = false := by rfl) : CT X W (.Compare a [.NotIn] [b] pos) (fB (fDin true f g)) := by
  obtain ⟨ta, pa, qa⟩ := ha
  obtain ⟨tb, pb, qb⟩ := hb
  exact ⟨_, pt_cmp (pc_dnotin hu pa pb) hm, b_core (din_core (neg := true) qa qb)⟩
/-- d[k] = v -/
def sDput (f g h : FE) : FS := fun env μ => (f env μ).bind fun z μ1 => (g env μ1).bind fun x μ2 => (h env μ2).bind fun y μ3 => match dPut μ3 x y z with
  | some ν => .ok (.nx env) ν
  | none => .no
theorem cs_dput {o i e : Expr} {f g h : FE} {p pos : Pos} (hu : X.A.units + 1 < cLine) (he : CEx X W e f) (ho : CEx X W o g) (hi : CEx X W i h) (hs : swapsWith e (some (.Subscript o i p)) pos.line X.env = pure false := by rfl) : CS X W (.Assign [.Subscript o i p] e pos) (sDput f g h) := by
  obtain ⟨te, pe, qe⟩ := he
  obtain ⟨to, po, qo⟩ := ho
  obtain ⟨ti, pi, qi⟩ := hi
  refine ⟨_, ps_dput hu po pi pe hs, fun env σ S μ hE hS D hp => ?_⟩
  unfold sDput at hp
  rw [Rs.post_bind] at hp
  refine qe env σ S μ hE hS _ (hp.mono (fun z μ1 h1 t S1 e1 hS1 r1 => ?_) fun _ _ z => z.at hE.lenS)
  rw [Rs.post_bind] at h1
  refine qo env σ S1 μ1 (hE.mono e1) hS1 _ (h1.mono (fun x μ2 h2 v S2 e2 hS2 r2 => ?_) fun _ _ z => (z.mono e1).at hE.lenS)
  rw [Rs.post_bind] at h2
  refine qi env σ S2 μ2 (hE.mono (e1.trans e2)) hS2 _ (h2.mono (fun y μ3 h3 u S3 e3 hS3 r3 => ?_) fun _ _ z => (z.mono (e1.trans e2)).at hE.lenS)
  split at h3
  · rename_i ν hν
    obtain ⟨a, H', S', rfl, hD, rfl, ex, hS'⟩ := dPut_ok hS3 hν (r2.mono e3) r3 (r1.mono (e2.trans e3))
    exact ⟨a, S'.H, rfl, hD, h3 σ S' (e1.trans (e2.trans (e3.trans ex))) hS' (hE.mono (e1.trans (e2.trans (e3.trans ex))))⟩
  · exact h3.elim
/-- d.get(k, x) -/
def fDget2 (f g h : FE) : FE := fun env μ => (f env μ).bind fun x μ1 => match x with
  | .l n => (match μ1[n]? with
    | some (.dk kv0) => (g env μ1).bind fun y μ2 => (h env μ2).bind fun z μ3 => (match dGet μ3 (.l n) y with
      | some o => .ok (o.getD z) μ3
      | none => .no)
    | _ => .no)
  | _ => .no
theorem c_dget2 {o e c : Expr} {f g h : FE} {apos cpos : Pos} (hu : X.A.units + 1 < cLine) (ho : CEx X W o f) (he : CEx X W e g) (hc : CEx X W c h) (m : M2 X o "get" apos e c cpos) : CEx X W (.Call (.Attribute o "get" apos) [e, c] [] cpos) (fDget2 f g h) := by
  obtain ⟨to, po, qo⟩ := ho
  obtain ⟨te, pe, qe⟩ := he
  obtain ⟨tc, pc, qc⟩ := hc
  refine ⟨_, pe_dget2 hu po pe pc m, fun env σ S μ hE hS Q hp => ?_⟩
  unfold fDget2 at hp
  rw [Rs.post_bind] at hp
  refine qo env σ S μ hE hS _ (hp.mono (fun x μ1 h1 v S1 e1 hS1 r1 => ?_) fun _ _ z => z)
  cases x with
  | d x => exact h1.elim
  | s x => exact h1.elim
  | l n =>
    obtain ⟨a, hL, rfl⟩ := r1
    simp only at h1
    split at h1
    · rename_i kv0 hm
      obtain ⟨vs0, q1, _⟩ := hS1.ob n a _ hL hm
      refine ⟨a, rfl, .inl ⟨_, .inl q1⟩, ?_⟩
      rw [Rs.post_bind] at h1
      refine qe env σ S1 μ1 (hE.mono e1) hS1 _ (h1.mono (fun y μ2 h2 u S2 e2 hS2 r2 => ?_) fun _ _ z => z.mono e1)
      rw [Rs.post_bind] at h2
      refine qc env σ S2 μ2 (hE.mono (e1.trans e2)) hS2 _ (h2.mono (fun z μ3 h3 t S3 e3 hS3 r3 => ?_) fun _ _ z => z.mono (e1.trans e2))
      split at h3
      · rename_i r hg
        obtain ⟨a', o, e', hD, i1, i2⟩ := dGet_ok hS3 hg (v := .ref a) ⟨a, e3.pf n a (e2.pf n a hL), rfl⟩ (r2.mono e3)
        cases e'
        refine ⟨o, hD, ?_⟩
        cases r with
        | none =>
          rw [i2 rfl]
          exact h3 t S3 (e1.trans (e2.trans e3)) hS3 r3
        | some w =>
          obtain ⟨q, rfl, rq⟩ := i1 w rfl
          exact h3 q S3 (e1.trans (e2.trans e3)) hS3 rq
      · exact h3.elim
    · exact h1.elim
end
end
end Ped

/-! Ped7: the written part: tuples and dicts that stand at the top; a law's end -/
namespace Ped
open PySem L2 PyProof.Rows PySem.Spec

/-- at a stands a tuple of the top, of these data -/
structure KTup (K : PySem.W.Frag) (a : Addr) (ds : List PyData) : Prop where
  ex : ∃ vs, (∀ H, SqT K H a vs) ∧ ∀ F, RpA K F vs ds
theorem ktup_mk {K : PySem.W.Frag} {a : Addr} {vs : List V} {ds : List PyData} {c : Value} {dd : Option Addr} {its : Array Value} {n : Nat} {sl : Array (Option Value)} (h : K.lookup a = some ⟨c, dd, .seq its n, sl⟩) (hc : c = .type "tuple") (hz : its.size ≤ sizeLine) (hv : Vals vs its.toList) (hr : ∀ F, RpA K F vs ds) : KTup K a ds :=
  ⟨vs, fun H => .inr ⟨_, its, n, h, hc, rfl, hz, hv⟩, hr⟩
section
variable {X : Cx} {W : WX}
/-- x in T, T a tuple of the top -/
def inKW (neg : Bool) (ds : List PyData) (x : Wv) (μ : Sto) : Rs Wv := match x with
  | .d d => if flatD d = true ∧ ds.all flatD = true then .ok (.d (.bool (if neg then !(ds.any fun z => PyData.eqv z d) else ds.any fun z => PyData.eqv z d))) μ else .no
  | _ => .no
def f1 (h : Wv → Sto → Rs Wv) (f : FE) : FE := fun env μ => (f env μ).bind h
section
variable {e : Expr} {f : FE} {x : Str} {p pos : Pos} {a : Addr} {ds : List PyData}
theorem inK_core {neg : Bool} {te : TE} (kt : KTup X.K a ds)
    (q : ∀ env σ S μ, EnvR X.K X.N.length S env σ → HS X.K S μ → ∀ Q : VK, (f env μ).Post (POk X.K S Q) (PEx X.K W σ S) → te σ S.H Q) :
    ∀ env σ S μ, EnvR X.K X.N.length S env σ → HS X.K S μ → ∀ Q : VK, (f1 (inKW neg ds) f env μ).Post (POk X.K S Q) (PEx X.K W σ S) → tOp (rIn X.K neg) te (tC (.ref a)) σ S.H Q := fun env σ S μ he hS Q hp => by
  unfold f1 at hp
  rw [Rs.post_bind] at hp
  refine q env σ S μ he hS _ (hp.mono (fun w μ1 h1 v S1 e1 hS1 r1 => ?_) fun _ _ z => z)
  obtain ⟨vs, k1, k2⟩ := kt.ex
  unfold inKW at h1
  split at h1
  · split at h1
    · rename_i hf
      refine ⟨a, vs, rfl, .inr (k1 _), by rw [flat_of r1]; exact hf.1, by rw [flats_of (k2 S1.F)]; exact hf.2, h1 _ S1 e1 hS1 ?_⟩
      rw [inV_of hf.1 r1 (k2 S1.F) hf.2]
      exact .bl _
    · exact h1.elim
  · exact h1.elim
theorem c_inK (kt : KTup X.K a ds) (hg : Gl X x) (hm : X.mg x = some (.ref a)) (he : CEx X W e f) (hd : (x == ("__debug__" : Str)) = false := by decide) (hb : behindInMarks .In (.Name x p) = false := by rfl) : CEx X W (.Compare e [.In] [.Name x p] pos) (f1 (inKW false ds) f) := by
  obtain ⟨t, pe, q⟩ := he
  exact ⟨_, pe_cmpR op_in_seq pe (pe_glob (v := .ref a) hg hm rfl hd) hb, inK_core kt q⟩
theorem ct_inK (kt : KTup X.K a ds) (hg : Gl X x) (hm : X.mg x = some (.ref a)) (he : CEx X W e f) (hd : (x == ("__debug__" : Str)) = false := by decide) (hb : behindInMarks .In (.Name x p) = false := by rfl) : CT X W (.Compare e [.In] [.Name x p] pos) (fB (f1 (inKW false ds) f)) := by
  obtain ⟨t, pe, q⟩ := he
  exact ⟨_, pt_cmpR op_in_seq pe (pe_glob (v := .ref a) hg hm rfl hd) hb, b_core (inK_core kt q)⟩
/-- T + e -/
def addKW (ds : List PyData) (y : Wv) (μ : Sto) : Rs Wv := match y with
  | .d (.tuple es) => if ds ≠ [] ∧ es ≠ [] ∧ ds.length + es.length ≤ LIM then .ok (.d (.tuple (ds ++ es))) μ else .no
  | _ => .no
theorem c_addK (kt : KTup X.K a ds) (hg : Gl X x) (hm : X.mg x = some (.ref a)) (he : CEx X W e f) (hd : (x == ("__debug__" : Str)) = false := by decide) : CEx X W (.BinOp (.Name x p) .Add e pos) (f1 (addKW ds) f) := by
  obtain ⟨t, pe, q⟩ := he
  refine ⟨_, pe_op op_catA (pe_glob (v := .ref a) hg hm rfl hd) pe, fun env σ S μ hE hS Q hp => ?_⟩
  unfold f1 at hp
  rw [Rs.post_bind] at hp
  refine q env σ S μ hE hS _ (hp.mono (fun w μ1 h1 v S1 e1 hS1 r1 => ?_) fun _ _ z => z)
  obtain ⟨vs, k1, k2⟩ := kt.ex
  unfold addKW at h1
  split at h1
  · rename_i es
    split at h1
    · rename_i hc
      obtain ⟨b, ys, rfl, hb, rb⟩ := rp_tup_inv r1
      have ra := k2 S1.F
      have n1 : vs ≠ [] := fun z => hc.1 (ra.nil_iff.mpr z)
      have n2 : ys ≠ [] := fun z => hc.2.1 (rb.nil_iff.mpr z)
      exact ⟨a, b, vs, ys, rfl, rfl, k1 _, .inl (.inl (hS1.sub _ _ hb)), by rw [ra.len, rb.len]; exact lim_line hc.2.2, fun z => absurd z n1, fun _ z => absurd z n2, fun _ _ => new_tup hS1 (ra.append rb) (POk.mono e1 h1)⟩
    · exact h1.elim
  · exact h1.elim
end

/-! ### a dict of the top, of texts to pairs of ints -/
structure KTab (K : PySem.W.Frag) (w : World) (d : Addr) (tab : List (Str × Int × Int)) : Prop where
  kd : ∃ es n, KDict K w d es n
  no : ∀ z, tab.lookup z = none → PySem.W.nsIn K d z = some none
  yes : ∀ z lo hi, tab.lookup z = some (lo, hi) → ∃ u, PySem.W.nsIn K d z = some (some (.ref u)) ∧ ∀ H, SqT K H u [V.int lo, V.int hi]
section
variable {e : Expr} {f : FE} {x : Str} {p pos : Pos} {d : Addr} {tab : List (Str × Int × Int)}
def inTabW (neg : Bool) (tab : List (Str × Int × Int)) (x : Wv) (μ : Sto) : Rs Wv := match x with
  | .d (.str z) => .ok (.d (.bool (if neg then !(tab.lookup z).isSome else (tab.lookup z).isSome))) μ
  | _ => .no
theorem KTab.get {K : PySem.W.Frag} {w : World} {d : Addr} {tab : List (Str × Int × Int)} (k : KTab K w d tab) (z : Str) : ∃ r, PySem.W.nsIn K d z = some r ∧ r.isSome = (tab.lookup z).isSome := by
  cases h : tab.lookup z with
  | none => exact ⟨none, k.no z h, rfl⟩
  | some q =>
    obtain ⟨u, h1, _⟩ := k.yes z q.1 q.2 h
    exact ⟨_, h1, rfl⟩
theorem ct_notinTab (kt : KTab X.K X.w d tab) (hg : Gl X x) (hm : X.mg x = some (.ref d)) (he : CEx X W e f) (hd : (x == ("__debug__" : Str)) = false := by decide) (hb : behindInMarks .NotIn (.Name x p) = false := by rfl) : CT X W (.Compare e [.NotIn] [.Name x p] pos) (fB (f1 (inTabW true tab) f)) := by
  obtain ⟨t, pe, q⟩ := he
  obtain ⟨es, n, D⟩ := kt.kd
  refine ⟨_, pt_cmpR (op_notIn_kd D) pe (pe_glob (v := .ref d) hg hm rfl hd) hb, b_core fun env σ S μ hE hS Q hp => ?_⟩
  unfold f1 at hp
  rw [Rs.post_bind] at hp
  refine q env σ S μ hE hS _ (hp.mono (fun w μ1 h1 v S1 e1 hS1 r1 => ?_) fun _ _ z => z)
  unfold inTabW at h1
  split at h1
  · rename_i z
    cases r1
    obtain ⟨r, h2, h3⟩ := kt.get z
    exact ⟨z, r, rfl, rfl, h2, by rw [h3]; exact h1 _ S1 e1 hS1 (.bl _)⟩
  · exact h1.elim
/-- low, high = T[e] -/
def sTab (tab : List (Str × Int × Int)) (i j : Nat) (f : FE) : FS := fun env μ => (f env μ).bind fun x μ1 => match x with
  | .d (.str z) => (match tab.lookup z with
    | some (lo, hi) => .ok (.nx ((env.set i (some (.d (.int lo)))).set j (some (.d (.int hi))))) μ1
    | none => .no)
  | _ => .no
theorem cs_tab (i j : Nat) {xl xh : Str} {kk : Nat} {pl ph pt psub : Pos} (kt : KTab X.K X.w d tab) (hc : X.calm = true) (hN : X.N.Nodup) (hi : X.N[i]? = some xl) (hj : X.N[j]? = some xh) (hl : Loc X.env.scope xl) (hh : Loc X.env.scope xh) (hg : Gl X x) (hm : X.mg x = some (.ref d)) (he : CEx X W e f)
    (hf1 : X.fn xl = true ∨ X.env.scope.names.lookup xl = some .local := by first | exact .inl rfl | exact .inr rfl | assumption) (hf2 : X.fn xh = true ∨ X.env.scope.names.lookup xh = some .local := by first | exact .inl rfl | exact .inr rfl | assumption)
    (hd : (x == ("__debug__" : Str)) = false := by decide) (hs : PlainIx e := by intro _ _; rfl)
    (hs1 : swapsWithSole [.Tuple [.Name xl pl, .Name xh ph] kk pt] (.Subscript (.Name x p) e psub) pos.line X.env = pure false := by rfl) (hw : swappedStores [.Tuple [.Name xl pl, .Name xh ph] kk pt] (.Subscript (.Name x p) e psub) X.env = pure none := by rfl)
    (ha : (assignEach [.Tuple [.Name xl pl, .Name xh ph] kk pt] X.env).map (·.2) = [assign (.Tuple [.Name xl pl, .Name xh ph] kk pt) X.env] := by rfl)
    (hc1 : (assignEach [.Name xl pl, .Name xh ph] X.env).map (·.2) = assign (.Name xl pl) X.env :: (assignEach [.Name xh ph] X.env).map (·.2) := by rfl) (hc2 : (assignEach [.Name xh ph] X.env).map (·.2) = assign (.Name xh ph) X.env :: (assignEach [] X.env).map (·.2) := by rfl)
    (hn : (assignEach [.Name xl pl, .Name xh ph] X.env).length = 2 := by rfl) (hst : (assignEach [.Name xl pl, .Name xh ph] X.env).findIdx? (·.1) = none := by rfl) :
    CS X W (.Assign [.Tuple [.Name xl pl, .Name xh ph] kk pt] (.Subscript (.Name x p) e psub) pos) (sTab tab i j f) := by
  obtain ⟨t, pe, q⟩ := he
  refine ⟨_, ps_asg (pe_ix (ix_kdict (X := X)) (pe_glob (v := .ref d) hg hm rfl hd) pe hs) (pg_tup hc (pgs_cons (pg_name hN hi hl hf1) (pgs_cons (pg_name hN hj hh hf2) pgs_nil hc2) hc1) hn hst) hs1 hw ha, fun env σ S μ hE hS D hp => ?_⟩
  unfold sTab at hp
  rw [Rs.post_bind] at hp
  refine q env σ S μ hE hS _ (hp.mono (fun w μ1 h1 v S1 e1 hS1 r1 => ?_) fun _ _ z => z.at hE.lenS)
  split at h1
  · rename_i z
    split at h1
    · rename_i lo hi' hl'
      cases r1
      obtain ⟨u, h2, h3⟩ := kt.yes z lo hi' hl'
      refine ⟨d, z, .ref u, rfl, rfl, ?_, u, [.int lo, .int hi'], rfl, h3 _, rfl, .int lo, [.int hi'], rfl, .int hi', [], rfl, rfl, ?_⟩
      · obtain ⟨es, n, D⟩ := kt.kd
        exact ⟨es, n, _, D.at_, D.lit, h2, rfl⟩
      · exact h1 _ S1 e1 hS1 (((hE.mono e1).set (w := .d (.int lo)) (.int lo)).set (w := .d (.int hi')) (.int hi'))
    · exact h1.elim
  · exact h1.elim
end
end

/-! ### the end -/
theorem law_end {K : PySem.W.Frag} {g : List Wv → Sto → Rs Wv} {H : Hp} {a : Addr} {ns : List Int} {E : XK} (hO : Only H) (hS : SqL K H a (ns.map V.int)) {μ : Sto} (hg : g [.s ns] [] = .ok (.d (.bool true)) μ) : spD K 1 (fun ws μ => noex (g ws μ)) [.ref a] H (fun v _ => v = .bl true) E := by
  refine ⟨rfl, [.s ns], ⟨H, H, []⟩, [], rfl, ⟨Sb.refl H, rfl, List.nodup_nil, fun n a z => ?_, fun n a ob z => ?_, fun n a ob z => ?_⟩, .cons ⟨a, hS, rfl⟩ .nil, ?_⟩
  · simp at z
  · simp at z
  · simp at z
  · show (noex (g [.s ns] [])).Post _ _
    rw [hg]
    intro v S' _ _ r
    cases r
    rfl
end Ped

namespace Ped
open PySem L2 PyProof.Rows PySem.Spec
/-! ### the defs of the text by their names -/
/-- the def x stands as the top has made it -/
def DefAt (K : PySem.W.Frag) (mg : Str → Option Value) (x : Str) (st : Stmt) (ps : List Str) : Prop := ∃ f fd, mg x = some (.ref f) ∧ Fun K x x st f fd ∧ Binds K fd ps []
/-- .. and promises sp, at level k -/
def OkAt (P : Program) (w : World) (K : PySem.W.Frag) (mg : Str → Option Value) (base : Heap) (k : Nat) (x : Str) (ps : List Str) (n : Nat) (g : List Wv → Sto → Rs Wv) : Prop :=
  ∃ f fd, mg x = some (.ref f) ∧ PySem.W.keepIn K (.ref f) = true ∧ Binds K fd ps [] ∧ FnOk P w K mg base CX0 k f fd ps (spD K n fun ws μ => noex (g ws μ))
theorem defAt_mk {K : PySem.W.Frag} {h : Heap} {mg : Str → Option Value} {x : Str} {st : Stmt} {ps : List Str} {f : Addr} {od an : Option Addr} {sl : Array (Option Value)} {oc kV dc pm cd ct : Value} (X : K.In h) (G : h.Ns mainGlobals mg)
    (a : PySem.W.nsIn K mainGlobals x = some (some (.ref f))) (l : K.lookup f = some ⟨oc, od, .func (PySem.W.fnOf x x (defArgs st) (defBody st) (defScope st) .none kV dc pm an cd ct), sl⟩) (c : PySem.W.codeIn K cd x = true) (k : PySem.W.keepIn K (.ref f) = true)
    (hb : ∀ (kV doc pm : Value) (an : Option Addr) (cdv ct : Value) (us : List Value), us.length = ps.length → bindArgs (PySem.W.fnOf x x (defArgs st) (defBody st) (defScope st) .none kV doc pm an cdv ct) ⟨us, []⟩ = pure (ps.zip us)) : DefAt K mg x st ps := by
  have F := fun_mk (st := st) l c k
  exact ⟨f, _, PySem.W.mg_of X G a, F, F.binds (ps := ps) hb⟩
section
variable {P : Program} {w : World} {K : PySem.W.Frag} {mg : Str → Option Value} {base : Heap}
theorem okAt_mk {x : Str} {st : Stmt} {N ps : List Str} {k : Nat} {g : List Wv → Sto → Rs Wv} {B : FS} (F : DefAt K mg x st ps) (S : FnScope N ps (defScope st))
    (hb : ∀ (f : Addr) (cdv : Value) (A : Around) (outer : List PySem.Env) (s : Shared) (H : Hp) (E : XK), Room k (A.deeper (envOfC x (defScope st) s.heap.objs.size f cdv)) → CB (cxOf CX0 P w K mg base N x (defScope st) f cdv A outer s H E).nox W0 (defBody st) B)
    (hg : ∀ ws μ, ws.length = ps.length → g ws μ = .no ∨ g ws μ = runF N.length B ws μ) : OkAt P w K mg base (k + 1) x ps ps.length g := by
  obtain ⟨f, fd, h1, h2, h3⟩ := F
  exact ⟨f, fd, h1, h2.kp, h3, ok_def h2 S (fun cdv A outer s H E => hb f cdv A outer s H E) hg⟩
end
/-- what a call does -/
def callD (n : Nat) (g : List Wv → Sto → Rs Wv) (ws : List Wv) (μ : Sto) : Rs Wv := if ws.length = n then noex (g ws μ) else .no
section
variable {X : Cx} {W : WX}
theorem c_fn {k n : Nat} {ps : List Str} {g : List Wv → Sto → Rs Wv} {x : Str} {p pos : Pos} {e : Expr} {es : List Expr} {a : FA} (G : OkAt X.prog X.w X.K X.mg X.base k x ps n g) (hr : Room k X.A) (hg : Gl X x)
    (ha : CA X W (e :: es) a) (hdb : (x == ("__debug__" : Str)) = false := by decide) (he : starEach (e :: es) X.env = (false, eval e X.env) :: starEach es X.env := by rfl) (hpl : (backTo pos (starEach es X.env)).any (·.1) = false := by rfl) :
    CEx X W (.Call (.Name x p) (e :: es) [] pos) (fCall (callD n g) a) := by
  obtain ⟨f, fd, h1, h2, h3, h4⟩ := G
  exact c_call h4 hr hg h1 h2 h3 ha hdb he hpl
theorem c_fn0 {k n : Nat} {ps : List Str} {g : List Wv → Sto → Rs Wv} {x : Str} {p pos : Pos} (G : OkAt X.prog X.w X.K X.mg X.base k x ps n g) (hr : Room k X.A) (hg : Gl X x) (hdb : (x == ("__debug__" : Str)) = false := by decide) :
    CEx X W (.Call (.Name x p) [] [] pos) (fCall (callD n g) fNil) := by
  obtain ⟨f, fd, h1, h2, h3, h4⟩ := G
  refine ⟨_, pe_call0 h4 hr hg h1 h2 h3 .nil pass0 hdb, fun env σ S μ hE hS Q h => ?_⟩
  show spD X.K n (fun ws μ => noex (g ws μ)) ([] ++ []) S.H Q E0
  have h : (callD n g [] μ).Post (POk X.K S Q) (PEx X.K W σ S) := h
  unfold callD at h
  by_cases hl : ([] : List Wv).length = n
  · rw [if_pos hl] at h
    refine ⟨hl, [], S, μ, rfl, hS, .nil, ?_⟩
    have q := noex_post (E' := fun _ _ => False) (show (noex (g [] μ)).Post _ _ from h)
    show (noex (g [] μ)).Post _ _
    cases eg : g [] μ with
    | ok a ν => rw [eg] at q; exact q
    | ex x ν => rw [eg] at q; exact q
    | no => rw [eg] at q; exact q
  · rw [if_neg hl] at h
    exact h.elim
/-- the items of a list or a tuple -/
def itS (f : FE) : FIt := fun env μ => (f env μ).bind fun w μ1 => match w with
  | .d (.list xs) => .ok xs μ1
  | .d (.tuple xs) => .ok xs μ1
  | _ => .no
theorem pi_or {tg e : Expr} {w1 w2 : TI} (h1 : PI X tg e w1) (h2 : PI X tg e w2) : PI X tg e (fun σ H R => w1 σ H R ∨ w2 σ H R) := ⟨fun pins s σ H R I h => by
  rcases h with h | h
  · exact h1.run pins s σ H R I h
  · exact h2.run pins s σ H R I h⟩
theorem ci_seq {tg l : Expr} {f : FE} (h : CEx X W l f) : CI X W tg l (itS f) := by
  obtain ⟨w1, p1, q1⟩ := ci_list (tg := tg) h
  obtain ⟨w2, p2, q2⟩ := ci_tup (tg := tg) h
  refine ⟨_, pi_or p1 p2, fun env σ S μ he hS R hp => ?_⟩
  unfold itS at hp
  cases hf : f env μ with
  | no => rw [hf] at hp; exact hp.elim
  | ex x ν => 
    refine .inl (q1 env σ S μ he hS R ?_)
    unfold itV
    rw [hf] at hp ⊢
    exact hp
  | ok w ν =>
    rw [hf] at hp
    have hp : Rs.Post (match w with | .d (.list xs) => .ok xs ν | .d (.tuple xs) => .ok xs ν | _ => .no) _ _ := hp
    split at hp
    · refine .inl (q1 env σ S μ he hS R ?_)
      unfold itV
      rw [hf]
      exact hp
    · refine .inr (q2 env σ S μ he hS R ?_)
      unfold itT
      rw [hf]
      exact hp
    · exact hp.elim
theorem ok_mulL : OkR X rRep mulL := fun x y v u S μ hS hx hy Q hp => by
  unfold mulL at hp
  split at hp
  · split at hp
    · rename_i hk
      obtain ⟨p, xs, rfl, ha, ra⟩ := rp_lst_inv hx
      cases hy
      exact ⟨p, _, xs, rfl, rfl, hS.sub _ _ ha, by omega, by omega, by rw [ra.len]; exact lim_line hk.2.2, new_lst hS (ra.rep _) hp⟩
    · exact hp.elim
  · exact hp.elim
/-- e * e, ints, a list and an int -/
def mulW (x y : Wv) (μ : Sto) : Rs Wv := match x, y with
  | .d (.int i), .d (.int j) => if CMul i j then .ok (.d (.int (i * j))) μ else .no
  | .d (.list _), _ => mulL x y μ
  | _, _ => .no
theorem mulW_nx : NoEx mulW := fun x y μ e ν q => by
  unfold mulW at q
  split at q
  · split at q <;> cases q
  · exact mulL_nx _ _ _ _ _ q
  · cases q
theorem c_mul {a b : Expr} {f g : FE} {pos : Pos} (ha : CEx X W a f) (hb : CEx X W b g) : CEx X W (.BinOp a .Mult b pos) (fOp mulW f g) := by
  refine c_op (OpR.or op_mul op_rep) (fun x y v u S μ hS hx hy Q hp => ?_) mulW_nx ha hb
  unfold mulW at hp
  split at hp
  · split at hp
    · cases hx; cases hy
      exact .inl ⟨_, _, rfl, rfl, by assumption, hp _ S (Ext.refl S) hS (.int _)⟩
    · exact hp.elim
  · exact .inr (ok_mulL _ _ v u S μ hS hx hy Q hp)
  · exact hp.elim
/-- list(range(..)) -/
def fRg1 (f : FE) : FE := fun env μ => (f env μ).bind fun w μ1 => match w with
  | .d (.int j) => if -1000000 ≤ j ∧ j ≤ 1000000 then .ok (.d (.list (rangeD 0 j.toNat))) μ1 else .no
  | _ => .no
def fRg2 (f g : FE) : FE := fun env μ => (f env μ).bind fun w μ1 => (g env μ1).bind fun z μ2 => match w, z with
  | .d (.int i), .d (.int j) => if (-1000000 ≤ i ∧ i ≤ 1000000) ∧ -1000000 ≤ j ∧ j ≤ 1000000 then .ok (.d (.list (rangeD i (j - i).toNat))) μ2 else .no
  | _, _ => .no
theorem rg_rp {K : PySem.W.Frag} {F : Hp} (i : Int) (n : Nat) : RpA K F ((List.range n).map fun k => V.int (i + (k : Nat))) (rangeD i n) := by
  unfold rangeD
  induction List.range n with
  | nil => exact .nil
  | cons a r ih => exact .cons (.int _) ih
theorem c_listRg1 {a : Expr} {f : FE} {p q qos pos : Pos} (hc : X.calm = true) (hgl : Gl X "list") (hml : X.mg "list" = none) (hg : Gl X "range") (hm : X.mg "range" = none) (h : CEx X W a f) (na : starEach [a] X.env = (false, eval a X.env) :: starEach [] X.env := by rfl)
    (na2 : starEach [.Call (.Name "range" q) [a] [] qos] X.env = (false, eval (.Call (.Name "range" q) [a] [] qos) X.env) :: starEach [] X.env := by rfl) : CEx X W (.Call (.Name "list" p) [.Call (.Name "range" q) [a] [] qos] [] pos) (fRg1 f) := by
  obtain ⟨t, pa, qa⟩ := h
  refine ⟨_, pe_listRg hc hgl hml (prg_1 hg hm pa na) na2, fun env σ S μ he hS Q hp => ?_⟩
  unfold fRg1 at hp
  rw [Rs.post_bind] at hp
  refine qa env σ S μ he hS _ (hp.mono (fun w μ1 h1 v S1 e1 hS1 r1 => ?_) fun _ _ z => z)
  split at h1
  · split at h1
    · rename_i j hj
      cases r1
      refine ⟨j, rfl, ⟨by omega, by omega, by omega, by omega, by omega⟩, new_lst hS1 ?_ (POk.mono e1 h1)⟩
      have := rg_rp (K := X.K) (F := S1.F) 0 j.toNat
      unfold rgV
      rw [Int.sub_zero]
      exact this
    · exact h1.elim
  · exact h1.elim
theorem c_listRg2 {a b : Expr} {f g : FE} {p q qos pos : Pos} (hc : X.calm = true) (hgl : Gl X "list") (hml : X.mg "list" = none) (hg : Gl X "range") (hm : X.mg "range" = none) (h : CEx X W a f) (h' : CEx X W b g) (na : starEach [a, b] X.env = (false, eval a X.env) :: starEach [b] X.env := by rfl) (nb : starEach [b] X.env = (false, eval b X.env) :: starEach [] X.env := by rfl) (hpb : (backTo qos (starEach [b] X.env)).any (·.1) = false := by rfl)
    (na2 : starEach [.Call (.Name "range" q) [a, b] [] qos] X.env = (false, eval (.Call (.Name "range" q) [a, b] [] qos) X.env) :: starEach [] X.env := by rfl) : CEx X W (.Call (.Name "list" p) [.Call (.Name "range" q) [a, b] [] qos] [] pos) (fRg2 f g) := by
  obtain ⟨t, pa, qa⟩ := h
  obtain ⟨t', pb, qb⟩ := h'
  refine ⟨_, pe_listRg hc hgl hml (prg_2 hg hm pa pb na nb hpb) na2, fun env σ S μ he hS Q hp => ?_⟩
  unfold fRg2 at hp
  rw [Rs.post_bind] at hp
  refine qa env σ S μ he hS _ (hp.mono (fun w μ1 h1 v S1 e1 hS1 r1 => ?_) fun _ _ z => z)
  rw [Rs.post_bind] at h1
  refine qb env σ S1 μ1 (he.mono e1) hS1 _ (h1.mono (fun w' μ2 h2 u S2 e2 hS2 r2 => ?_) fun _ _ z => z.mono e1)
  have r1' := r1.mono e2
  split at h2
  · split at h2
    · rename_i i j hj
      cases r1'
      cases r2
      exact ⟨i, j, rfl, rfl, ⟨by omega, by omega, by omega, by omega, by omega⟩, new_lst hS2 (rg_rp i (j - i).toNat) (POk.mono (e1.trans e2) h2)⟩
    · exact h2.elim
  · exact h2.elim
end
end Ped

/-! Ped8: the text's facts: rooms, constants, tables, kinds; the end of a law's walk -/
namespace Ped
open PySem L2 PyProof.Rows PySem.Spec
theorem ru1 {k : Nat} {A : Around} (r : Room k A) : A.units + 1 < cLine := by have := r.un; omega
theorem ru64 {k : Nat} {A : Around} (r : Room k A) : A.units + 64 < cLine := by have := r.un; omega
theorem ru65 {k : Nat} {A : Around} (r : Room k A) : A.units + 65 < cLine := by have := r.un; omega
def tyS (T a : String) : Bool := a == T || (T == "int" && a == "bool")
theorem k_int (d : D) : kitB (tyD d) "int" = some (isTy "int" d) := by
  cases d
  · exact (show kitB "NoneType" "int" = some (tyS "int" "NoneType") by decide +kernel)
  · exact (show kitB "bool" "int" = some (tyS "int" "bool") by decide +kernel)
  · exact (show kitB "int" "int" = some (tyS "int" "int") by decide +kernel)
  · exact (show kitB "str" "int" = some (tyS "int" "str") by decide +kernel)
  · exact (show kitB "list" "int" = some (tyS "int" "list") by decide +kernel)
  · exact (show kitB "tuple" "int" = some (tyS "int" "tuple") by decide +kernel)
  · exact (show kitB "dict" "int" = some (tyS "int" "dict") by decide +kernel)
theorem k_str (d : D) : kitB (tyD d) "str" = some (isTy "str" d) := by
  cases d
  · exact (show kitB "NoneType" "str" = some (tyS "str" "NoneType") by decide +kernel)
  · exact (show kitB "bool" "str" = some (tyS "str" "bool") by decide +kernel)
  · exact (show kitB "int" "str" = some (tyS "str" "int") by decide +kernel)
  · exact (show kitB "str" "str" = some (tyS "str" "str") by decide +kernel)
  · exact (show kitB "list" "str" = some (tyS "str" "list") by decide +kernel)
  · exact (show kitB "tuple" "str" = some (tyS "str" "tuple") by decide +kernel)
  · exact (show kitB "dict" "str" = some (tyS "str" "dict") by decide +kernel)
theorem k_bool (d : D) : kitB (tyD d) "bool" = some (isTy "bool" d) := by
  cases d
  · exact (show kitB "NoneType" "bool" = some (tyS "bool" "NoneType") by decide +kernel)
  · exact (show kitB "bool" "bool" = some (tyS "bool" "bool") by decide +kernel)
  · exact (show kitB "int" "bool" = some (tyS "bool" "int") by decide +kernel)
  · exact (show kitB "str" "bool" = some (tyS "bool" "str") by decide +kernel)
  · exact (show kitB "list" "bool" = some (tyS "bool" "list") by decide +kernel)
  · exact (show kitB "tuple" "bool" = some (tyS "bool" "tuple") by decide +kernel)
  · exact (show kitB "dict" "bool" = some (tyS "bool" "dict") by decide +kernel)
theorem k_tuple (d : D) : kitB (tyD d) "tuple" = some (isTy "tuple" d) := by
  cases d
  · exact (show kitB "NoneType" "tuple" = some (tyS "tuple" "NoneType") by decide +kernel)
  · exact (show kitB "bool" "tuple" = some (tyS "tuple" "bool") by decide +kernel)
  · exact (show kitB "int" "tuple" = some (tyS "tuple" "int") by decide +kernel)
  · exact (show kitB "str" "tuple" = some (tyS "tuple" "str") by decide +kernel)
  · exact (show kitB "list" "tuple" = some (tyS "tuple" "list") by decide +kernel)
  · exact (show kitB "tuple" "tuple" = some (tyS "tuple" "tuple") by decide +kernel)
  · exact (show kitB "dict" "tuple" = some (tyS "tuple" "dict") by decide +kernel)
theorem k_list (d : D) : kitB (tyD d) "list" = some (isTy "list" d) := by
  cases d
  · exact (show kitB "NoneType" "list" = some (tyS "list" "NoneType") by decide +kernel)
  · exact (show kitB "bool" "list" = some (tyS "list" "bool") by decide +kernel)
  · exact (show kitB "int" "list" = some (tyS "list" "int") by decide +kernel)
  · exact (show kitB "str" "list" = some (tyS "list" "str") by decide +kernel)
  · exact (show kitB "list" "list" = some (tyS "list" "list") by decide +kernel)
  · exact (show kitB "tuple" "list" = some (tyS "list" "tuple") by decide +kernel)
  · exact (show kitB "dict" "list" = some (tyS "list" "dict") by decide +kernel)
theorem k_dict (d : D) : kitB (tyD d) "dict" = some (isTy "dict" d) := by
  cases d
  · exact (show kitB "NoneType" "dict" = some (tyS "dict" "NoneType") by decide +kernel)
  · exact (show kitB "bool" "dict" = some (tyS "dict" "bool") by decide +kernel)
  · exact (show kitB "int" "dict" = some (tyS "dict" "int") by decide +kernel)
  · exact (show kitB "str" "dict" = some (tyS "dict" "str") by decide +kernel)
  · exact (show kitB "list" "dict" = some (tyS "dict" "list") by decide +kernel)
  · exact (show kitB "tuple" "dict" = some (tyS "dict" "tuple") by decide +kernel)
  · exact (show kitB "dict" "dict" = some (tyS "dict" "dict") by decide +kernel)
section
variable {X : Cx} {W : WX}
/-- a text, an int that the top binds -/
theorem c_globS {x : Str} {z : Str} {pos : Pos} (hg : Gl X x) (hm : ∃ t, X.mg x = some (.str z t)) (hd : (x == ("__debug__" : Str)) = false := by decide) : CEx X W (.Name x pos) (fC (.str z)) := by
  obtain ⟨t, h⟩ := hm
  exact c_glob (v := .str z) hg h ⟨t, rfl⟩ (fun _ => .str z) hd
theorem c_globI {x : Str} {z : Int} {pos : Pos} (hg : Gl X x) (hm : ∃ t, X.mg x = some (.int z t)) (hd : (x == ("__debug__" : Str)) = false := by decide) : CEx X W (.Name x pos) (fC (.int z)) := by
  obtain ⟨t, h⟩ := hm
  exact c_glob (v := .int z) hg h ⟨t, rfl⟩ (fun _ => .int z) hd
end
/-- the entries of a dict of the top, of texts to pairs of ints -/
inductive TabE (K : PySem.W.Frag) (P : Params) : List DictEntry → List (Str × Int × Int) → Prop
  | nil : TabE K P [] []
  | cons {h : Int} {x : Str} {t : Tok} {u : Addr} {r : List DictEntry} {tab : List (Str × Int × Int)} {lo hi : Int} {c : Value} {dd : Option Addr} {its : Array Value} {n : Nat} {sl : Array (Option Value)}
      (hh : h = PyData.keyHash P x) (hl : K.lookup u = some ⟨c, dd, .seq its n, sl⟩) (hc : c = .type "tuple") (hz : its.size ≤ sizeLine) (hv : Vals [V.int lo, V.int hi] its.toList) (hr : TabE K P r tab) : TabE K P (⟨h, .str x t, .ref u⟩ :: r) ((x, lo, hi) :: tab)
theorem TabE.lit {K : PySem.W.Frag} {P : Params} {es : List DictEntry} {tab : List (Str × Int × Int)} (h : TabE K P es tab) : PySem.W.KeysLit P es := by
  induction h with
  | nil => trivial
  | cons hh _ _ _ _ _ ih => exact ⟨⟨_, _, rfl, hh⟩, ih⟩
theorem TabE.ref {K : PySem.W.Frag} {P : Params} {es : List DictEntry} {tab : List (Str × Int × Int)} (h : TabE K P es tab) : es.any (·.refKey) = false := by
  induction h with
  | nil => rfl
  | cons hh _ _ _ _ _ ih => rw [List.any_cons, ih]; rfl
theorem TabE.no {K : PySem.W.Frag} {P : Params} {es : List DictEntry} {tab : List (Str × Int × Int)} (h : TabE K P es tab) (z : Str) (hz : tab.lookup z = none) : es.find? (·.key.isStr z) = none := by
  induction h with
  | nil => rfl
  | @cons h x t u r tab lo hi c dd its n sl hh _ _ _ _ _ ih =>
    rw [List.lookup_cons] at hz
    by_cases e : z = x
    · subst e
      simp at hz
    · have e' : (z == x) = false := by simpa using e
      rw [e'] at hz
      rw [List.find?_cons]
      have q : (Value.str x t).isStr z = false := by
        show (x == z) = false
        have : ¬ x = z := fun w => e w.symm
        simpa using this
      simp only [q]
      exact ih hz
theorem TabE.yes {K : PySem.W.Frag} {P : Params} {es : List DictEntry} {tab : List (Str × Int × Int)} (h : TabE K P es tab) (z : Str) (lo hi : Int) (hz : tab.lookup z = some (lo, hi)) : ∃ e u, es.find? (·.key.isStr z) = some e ∧ e.val = .ref u ∧ ∀ H, SqT K H u [V.int lo, V.int hi] := by
  induction h with
  | nil => cases hz
  | @cons h x t u r tab lo' hi' c dd its n sl hh hl hc hs hv hr ih =>
    rw [List.lookup_cons] at hz
    rw [List.find?_cons]
    by_cases e : z = x
    · subst e
      simp at hz
      obtain ⟨rfl, rfl⟩ := hz
      have q : (Value.str z t).isStr z = true := by
        show (z == z) = true
        simp
      simp only [q]
      exact ⟨_, u, rfl, rfl, fun H => .inr ⟨_, its, n, hl, hc, rfl, hs, hv⟩⟩
    · have e' : (z == x) = false := by simpa using e
      rw [e'] at hz
      have q : (Value.str x t).isStr z = false := by
        show (x == z) = false
        have : ¬ x = z := fun w => e w.symm
        simpa using this
      simp only [q]
      exact ih hz
theorem ktab_mk {K : PySem.W.Frag} {w : World} {d : Addr} {c : Value} {dd : Option Addr} {es : Array DictEntry} {n : Nat} {sl : Array (Option Value)} {tab : List (Str × Int × Int)} (h : K.lookup d = some ⟨c, dd, .dict es n, sl⟩) (hc : c = .type "dict") (hdd : dd = none) (hsl : sl = #[]) (hlow : (d == sysModules) = false) (he : TabE K w.params es.toList tab) : KTab K w d tab := by
  subst hc hdd hsl
  refine ⟨⟨es, n, h, he.lit, hlow⟩, fun z hz => ?_, fun z lo hi hz => ?_⟩
  · unfold PySem.W.nsIn
    rw [h]
    simp only
    rw [he.no z hz, he.ref]
    rfl
  · obtain ⟨e, u, h1, h2, h3⟩ := he.yes z lo hi hz
    refine ⟨u, ?_, h3⟩
    unfold PySem.W.nsIn
    rw [h]
    simp only
    rw [h1]
    simp only
    rw [h2]
/-- a tuple of texts of the top -/
theorem rpA_strV {K : PySem.W.Frag} (ns : List Str) (F : Hp) : RpA K F (ns.map V.str) (ns.map PyData.str) := RpA.strs ns
inductive ValS : List Value → List Str → Prop
  | nil : ValS [] []
  | cons {z : Str} {t : Tok} {r : List Value} {ns : List Str} (h : ValS r ns) : ValS (.str z t :: r) (z :: ns)
theorem ValS.vals {vs : List Value} {ns : List Str} (h : ValS vs ns) : Vals (ns.map V.str) vs := by
  induction h with
  | nil => exact .nil
  | cons _ ih => exact .cons ⟨_, rfl⟩ ih
theorem ktupS_mk {K : PySem.W.Frag} {a : Addr} {ns : List Str} {c : Value} {dd : Option Addr} {its : Array Value} {n : Nat} {sl : Array (Option Value)} (h : K.lookup a = some ⟨c, dd, .seq its n, sl⟩) (hc : c = .type "tuple") (hz : its.size ≤ sizeLine) (hv : ValS its.toList ns) : KTup K a (ns.map PyData.str) :=
  ktup_mk h hc hz hv.vals (rpA_strV ns)
theorem glob_mk {K : PySem.W.Frag} {h : Heap} {mg : Str → Option Value} (X : K.In h) (G : h.Ns mainGlobals mg) {x : Str} {v : Value} (a : PySem.W.nsIn K mainGlobals x = some (some v)) : mg x = some v := PySem.W.mg_of X G a
theorem globS_mk {K : PySem.W.Frag} {h : Heap} {mg : Str → Option Value} (X : K.In h) (G : h.Ns mainGlobals mg) {x z : Str} {v : Value} (a : PySem.W.nsIn K mainGlobals x = some (some v)) (hv : ∃ t, v = .str z t) : ∃ t, mg x = some (.str z t) := by
  obtain ⟨t, rfl⟩ := hv
  exact ⟨t, PySem.W.mg_of X G a⟩
theorem globI_mk {K : PySem.W.Frag} {h : Heap} {mg : Str → Option Value} (X : K.In h) (G : h.Ns mainGlobals mg) {x : Str} {z : Int} {v : Value} (a : PySem.W.nsIn K mainGlobals x = some (some v)) (hv : ∃ t, v = .int z t) : ∃ t, mg x = some (.int z t) := by
  obtain ⟨t, rfl⟩ := hv
  exact ⟨t, PySem.W.mg_of X G a⟩
/-- the end: the law's def promises True -/
theorem walk {l : PySem.W.OpenLaw} {q : Program} {loose : List Str} {XP : (Str → Option Value) → Heap → Prop} {YP : World → Heap → Prop} {d : DefRec} {K : Params → PySem.W.Frag} {k : Nat} {g : List Wv → Sto → Rs Wv} (hn : l.most = some 63) (hdf : d.params.defaults = []) (hr : Room k callerA)
    (hY : ∀ (w : World) (h : Heap), YP w h → (K w.params).In h)
    (hg : ∀ ns : List Int, ns.length ≤ 63 → (∀ z ∈ ns, Builtin.Int.intBits z ≤ 1048576) → ∃ μ, g [.s ns] [] = .ok (.d (.bool true)) μ)
    (F : ∀ (w : World) (mg : Str → Option Value) (fa : Addr) (h : Heap), (K w.params).In h → h.Ns mainGlobals mg → mg d.name = some (.ref fa) →
      ∃ fd : FuncData, (∀ (s : Shared) (u : Value), BindsTo s fd ⟨[u], []⟩ [("script", u)]) ∧ ∀ base : Heap, (K w.params).In base → base.Ns mainGlobals mg → FnOk l.prog w (K w.params) mg base CX0 k fa fd ["script"] (spD (K w.params) 1 fun ws μ => noex (g ws μ))) :
    PySem.W.WalkO q loose XP YP l.row.toRowW d [] (fun f vs => PySem.call f vs) :=
  L2.walk_ofB (n := 63) (k := k) (x := "script") (CX := fun _ => CX0) (sp := fun w => spD (K w.params) 1 fun ws μ => noex (g ws μ)) hn (by decide) hdf hr hY F (fun _ _ a ns hl hb hO hS => by
    obtain ⟨μ, h⟩ := hg ns hl hb
    exact law_end hO hS h) fun _ _ _ _ _ z => z
/-- the law's own def -/
theorem law_fd {P : Program} {w : World} {K : PySem.W.Frag} {h : Heap} {mg : Str → Option Value} {k : Nat} {g : List Wv → Sto → Rs Wv} {fa f : Addr} {st : Stmt} {od an : Option Addr} {sl : Array (Option Value)} {oc kV dc pm cd ct : Value} (hfa : mg "law" = some (.ref fa)) (X : K.In h) (G : h.Ns mainGlobals mg)
    (a : PySem.W.nsIn K mainGlobals "law" = some (some (.ref f))) (l : K.lookup f = some ⟨oc, od, .func (PySem.W.fnOf "law" "law" (defArgs st) (defBody st) (defScope st) .none kV dc pm an cd ct), sl⟩) (c : PySem.W.codeIn K cd "law" = true) (kp : PySem.W.keepIn K (.ref f) = true)
    (hb : ∀ (kV doc pm : Value) (an : Option Addr) (cdv ct : Value) (u : Value), bindArgs (PySem.W.fnOf "law" "law" (defArgs st) (defBody st) (defScope st) .none kV doc pm an cdv ct) ⟨[u], []⟩ = pure [(("script" : Str), u)])
    (hok : ∀ base : Heap, K.In base → base.Ns mainGlobals mg → ∀ f fd, Fun K "law" "law" st f fd → FnOk P w K mg base CX0 k f fd ["script"] (spD K 1 fun ws μ => noex (g ws μ))) :
    ∃ fd : FuncData, (∀ (s : Shared) (u : Value), BindsTo s fd ⟨[u], []⟩ [("script", u)]) ∧ ∀ base : Heap, K.In base → base.Ns mainGlobals mg → FnOk P w K mg base CX0 k fa fd ["script"] (spD K 1 fun ws μ => noex (g ws μ)) := by
  have F := fun_mk (st := st) l c kp
  have e := hfa.symm.trans (PySem.W.mg_of X G a)
  cases e
  exact ⟨_, fun s u => .of_eq (hb _ _ _ _ _ _ u), fun base hX hG => hok base hX hG _ _ F⟩
end Ped

/-! PedZ: sorted(set(xs)), len(set(xs)), xs a list of ints -/
namespace Ped
open PySem PySem.Spec PyProof.Rows L2
section
variable {P : Program} {w : World} {A : Around} {E : Value → Shared → Prop} {s : Shared}
abbrev nuSet (w : World) : Obj := { cls := .type "set", dict := none, data := .set #[] 0 (.fresh 0 0 (!w.params.followText "set-order")) }
abbrev nuH (w : World) (s : Shared) : Heap := s.heap.push (nuSet w)
/-- what set.__init__ leaves behind -/
def Filled (w : World) (s : Shared) (ns : List Int) (s2 : Shared) : Prop := ∃ h' tk c, s2 = { s with heap := h', toks := tk } ∧ SetR w h' s.heap.objs.size (fun j => decide (j ∈ ns)) c ∧ c ≤ ns.length ∧ ∀ b o, s.heap.get? b = some o → h'.get? b = some o
set_option maxRecDepth 100000 in
set_option maxHeartbeats 3200000 in
/-- set(l) of a list of ints, told by its members -/
theorem setL_made {l : Addr} {items : Array Value} (ns : List Int) {Q : Value → Shared → Prop} (hh : A.handled = none) (hl : s.heap.IsList l items) (hit : IntsAre items.toList ns) (hb : ns.length + 1 < scanBound)
    (h : ∀ s2, Filled w s ns s2 → Q (.ref s.heap.objs.size) s2) : wpAny (model P w) A (call (.type "set") [.ref l]) Q E s := by
  have hz : items.size = ns.length := Array.length_toList.symm.trans (IntsAre.length hit)
  obtain ⟨⟨c, tl, hmro⟩, hmade, hsub⟩ := And.intro F.called_set.mro (And.intro F.called_set.made F.called_set.sub)
  refine wpAny_call (codeAny_of_tree ?_)
  show wpAny _ _ (callAny (.type "set") _) _ _ _
  refine wpAny_pure (And.intro (Code.quiet_builtin _ (by decide +kernel)) (codeAny_builtin F.entry_type_call ?_))
  rw [Around.under_plain (weight_type_call_type "set" [.ref l] []) rfl]
  have k1 := F.called_set.notType; have k2 := F.called_set.canCreate; have k3 := F.typeCall_set_1 (.ref l)
  iterate (any_goals first | assumption | wp_step)
  refine codeAny_mono (code_set_led1 (.ref l) (E := E) (Q₁ := fun u s1 => u = .ref s.heap.objs.size ∧ s1 = { s with heap := nuH w s }) ⟨rfl, rfl⟩) fun r s1 hr => ?_
  cases r with
  | error e => exact hr
  | ok fl =>
    cases fl with
    | ret u =>
      obtain ⟨rfl, rfl⟩ := hr
      have kS : (nuH w s).get? s.heap.objs.size = some (nuSet w) := Heap.get?_push_size _ rfl
      have kT : Shared.TypeIs { s with heap := nuH w s } (.ref s.heap.objs.size) "set" := ⟨_, kS, rfl⟩
      have k4 := F.called_set.init.lookup; have k5 := F.called_set.init.bind (.ref s.heap.objs.size)
      iterate (any_goals first | assumption | wp_step)
      refine codeAny_mono (codeAny_call_builtin (R := wants (fun r s2 => r = .none ∧ Filled w s ns s2) E) F.called_set.init.plain F.entry_set_init (check_set_init_1 kT ?_)) fun r2 s2 hr2 => ?_
      · obtain ⟨⟨oc, od, odt, os⟩, ho, hcl, nl, hdl⟩ := hl
        cases (show oc = _ from hcl); cases (show odt = _ from hdl)
        have g1 : (nuH w s).get? l = some { cls := .type "list", dict := od, data := .seq items nl, slots := os } := Heap.get?_push_of_some _ ho
        have g2 := F.sub_list_set; have g3 := F.sub_list_frozenset
        have g4 : (Value.type "list" == Value.type "dict") = false := by decide
        have g5 : (nuH w s).IsList l items := ⟨_, g1, rfl, nl, rfl⟩
        unfold Builtin.«set.__init__» noKeywords Builtin.Frozenset.updateFrom
        generalize hPI : pyIter = PI
        wp_walk
        subst hPI
        refine wpAny_pyIter_list g5 (wpAny_bind (wpAny_runValue ?_))
        have hlt : l < s.heap.objs.size := Heap.lt_size ho
        have sz : (nuH w s).objs.size = s.heap.objs.size + 1 := Heap.size_push ..
        have n1 : l ≠ (nuH w s).objs.size := sz ▸ Nat.ne_of_lt (Nat.lt_succ_of_lt hlt)
        have n2 : s.heap.objs.size ∉ [(nuH w s).objs.size, l] := fun z => by
          rcases List.mem_cons.mp z with z | z
          · exact Nat.ne_of_lt (Nat.lt_succ_self _) (z.trans sz)
          · exact Nat.ne_of_lt hlt (List.mem_singleton.mp z).symm
        have hv : ∀ (i : Nat) (v : Value), items[i]? = some v → ∃ k t, ns[i]? = some k ∧ v = .int k t := fun i v q => by
          have hi : i < ns.length := hz ▸ (Array.getElem?_eq_some_iff.mp q).1
          obtain ⟨t, e⟩ := PyProof.Rows.IntsAre.int_at hit i v (Array.getElem?_toList.trans q)
          exact ⟨ns[i], t, List.getElem?_eq_getElem hi, by simpa [hi] using e⟩
        refine set_update_ints ((Walks.list (by simp [hh]) _ l n1 items).toS) s.heap.objs.size n2 ns hz hb hv items.size 0 _ (Nat.sub_zero _) (Nat.zero_le _) ⟨⟨_, Heap.get?_push_size _ rfl, rfl, rfl⟩, g5.push _⟩ ⟨0, Nat.le_refl 0, setR_new_at (Heap.get?_push_of_some _ kS)⟩ fun s3 c3 hm hc hS => ?_
        obtain ⟨h3, gg, dd, tk, oo⟩ := s3
        obtain rfl : gg = s.gens := hm.gens
        obtain rfl : dd = s.drawn := hm.drawn
        obtain rfl : oo = s.os := hm.os
        show wpAny _ _ _ _ _ _
        refine wpAny_pure ?_
        show wpAny _ _ (ret Value.none) _ _ _
        refine wpAny_pure ⟨rfl, h3, tk, c3, rfl, hS, hz ▸ hc, fun b o e => hm.heap b o ?_ (Heap.get?_push_of_some _ (Heap.get?_push_of_some _ e))⟩
        have q := Heap.lt_size e
        intro z
        rcases List.mem_cons.mp z with z | z
        · exact Nat.ne_of_lt q z
        · exact Nat.ne_of_lt (Nat.lt_succ_of_lt q) ((List.mem_singleton.mp z).trans sz)
      · cases r2 with
        | error e => exact hr2
        | ok f2 =>
          cases f2 with
          | ret r =>
            obtain ⟨rfl, h2⟩ := hr2
            iterate (any_goals first | assumption | wp_step)
            exact h _ h2
          | _ => exact hr2.elim
    | _ => exact hr.elim
end
end Ped

/-! PedY: the rules for sorted(set(xs)), len(set(xs)) -/
namespace Ped
open PySem PySem.Spec PyProof.Rows L2
/-! ### lists of ints that rise -/
def insS (x : Int) : List Int → List Int
  | [] => [x]
  | y :: r => if x < y then x :: y :: r else if x = y then y :: r else y :: insS x r
def sset : List Int → List Int
  | [] => []
  | x :: r => insS x (sset r)
theorem mem_insS {x z : Int} : ∀ {l : List Int}, z ∈ insS x l ↔ z = x ∨ z ∈ l
  | [] => by simp [insS]
  | y :: r => by
    unfold insS
    split
    · simp
    · split
      · rename_i h; subst h; simp
      · simp only [List.mem_cons, mem_insS (l := r)]
        constructor
        · rintro (h | h | h) <;> simp [h]
        · rintro (h | h | h) <;> simp [h]
theorem mem_sset {z : Int} : ∀ {l : List Int}, z ∈ sset l ↔ z ∈ l
  | [] => by simp [sset]
  | x :: r => by rw [sset, mem_insS, mem_sset (l := r), List.mem_cons]
theorem rise_insS {x : Int} : ∀ {l : List Int}, l.Pairwise (· < ·) → (insS x l).Pairwise (· < ·)
  | [], _ => by simp [insS]
  | y :: r, h => by
    rw [List.pairwise_cons] at h
    unfold insS
    split
    · rename_i hx
      rw [List.pairwise_cons]
      refine ⟨fun z hz => ?_, by rw [List.pairwise_cons]; exact h⟩
      rcases List.mem_cons.mp hz with rfl | hz
      · exact hx
      · have := h.1 z hz; omega
    · split
      · rw [List.pairwise_cons]; exact h
      · rw [List.pairwise_cons]
        refine ⟨fun z hz => ?_, rise_insS h.2⟩
        rcases mem_insS.mp hz with rfl | hz
        · omega
        · exact h.1 z hz
theorem rise_sset : ∀ {l : List Int}, (sset l).Pairwise (· < ·)
  | [] => List.Pairwise.nil
  | x :: r => rise_insS rise_sset
theorem rise_same : ∀ {xs ys : List Int}, xs.Pairwise (· < ·) → ys.Pairwise (· < ·) → (∀ z, z ∈ xs ↔ z ∈ ys) → xs = ys
  | [], [], _, _, _ => rfl
  | [], y :: ys, _, _, h => absurd ((h y).mpr List.mem_cons_self) (by simp)
  | x :: xs, [], _, _, h => absurd ((h x).mp List.mem_cons_self) (by simp)
  | x :: xs, y :: ys, h1, h2, h => by
    rw [List.pairwise_cons] at h1 h2
    have e : x = y := by
      rcases List.mem_cons.mp ((h x).mp List.mem_cons_self) with q | q
      · exact q
      · rcases List.mem_cons.mp ((h y).mpr List.mem_cons_self) with p | p
        · exact p.symm
        · have := h2.1 x q
          have := h1.1 y p
          omega
    subst e
    congr 1
    refine rise_same h1.2 h2.2 fun z => ?_
    constructor
    · intro hz
      rcases List.mem_cons.mp ((h z).mp (List.mem_cons_of_mem _ hz)) with q | q
      · have := h1.1 z hz; omega
      · exact q
    · intro hz
      rcases List.mem_cons.mp ((h z).mpr (List.mem_cons_of_mem _ hz)) with q | q
      · have := h2.1 z hz; omega
      · exact q
theorem rise_nodup {xs : List Int} (h : xs.Pairwise (· < ·)) : xs.Nodup := h.imp fun hab => Int.ne_of_lt hab
theorem card_sset {xs ys : List Int} (h : xs.Nodup) (hm : ∀ z, z ∈ xs ↔ z ∈ ys) : xs.length = (sset ys).length := by
  have e : xs.Perm (sset ys) := (List.perm_ext_iff_of_nodup h (rise_nodup rise_sset)).mpr fun z => by rw [hm z, mem_sset]
  exact e.length_eq
theorem insS_len (x : Int) : ∀ l : List Int, (insS x l).length ≤ l.length + 1
  | [] => by simp [insS]
  | y :: r => by
    unfold insS
    split
    · simp
    · split
      · simp
      · have := insS_len x r
        simp; omega
theorem sset_len : ∀ l : List Int, (sset l).length ≤ l.length
  | [] => Nat.le_refl _
  | x :: r => by
    have := insS_len x (sset r)
    have := sset_len r
    rw [sset, List.length_cons]
    omega
section
variable {X : Cx}
/-- set(l) -/
def rSetL (K : PySem.W.Frag) (w : World) : List V → Hp → VK → Prop := fun xs H Q => ∃ (l : Addr) (ns : List Int), xs = [V.ref l] ∧ SqL K H l (ns.map V.int) ∧ ns.length < 4000 ∧ ∀ p, H p = none → Q (.ref p) (upd H p (SetO w p (fun j => decide (j ∈ ns)) (sset ns).length))
theorem setR_card {w : World} {h : Heap} {a : Addr} {ns : List Int} {c : Nat} (R : SetR w h a (fun j => decide (j ∈ ns)) c) : c = (sset ns).length := by
  obtain ⟨o, es, ep, t, ho, hex, hd, g, nd, hm, hb, hf, hn, hr, hl⟩ := R
  have e := card_sset (ys := ns) nd fun z => by rw [← hm z]; simp
  rw [← hn, ← e, List.length_map, Array.length_toList]
theorem cr_setL (hc : X.calm = true) : CallR X (.type "set") (rSetL X.K X.w) := by
  intro pins s σ H vs us Q I r h
  obtain ⟨l, ns, rfl, hq, hlen, q⟩ := h
  rw [Vals.ref1 r]
  obtain ⟨its, rv, pl, hz⟩ := I.list hq
  refine setL_made (s := s) ns (I.ok.hd hc) pl.isList (by simpa using rv.ints) (by unfold scanBound; omega) fun s2 hF => ?_
  obtain ⟨h', tk, c, rfl, R, hc', hk⟩ := hF
  have ec := setR_card R
  subst ec
  have hn : H s.heap.objs.size = none := I.hok.fresh (Nat.le_refl _)
  exact ⟨.ref _, upd H s.heap.objs.size (SetO X.w s.heap.objs.size (fun j => decide (j ∈ ns)) (sset ns).length), I.laid (t' := tk) hk (Nat.le_refl _) (setO_new R), rfl, q _ hn⟩
/-- len(s), a set of ints -/
def rLenSet (w : World) : List V → Hp → VK → Prop := fun xs H Q => ∃ (a : Addr) (S : Int → Bool) (n : Nat), xs = [V.ref a] ∧ H a = some (SetO w a S n) ∧ Q (.int n) H
theorem cr_lenSet : CallR X (.builtin "len") (rLenSet X.w) := by
  intro pins s σ H vs us Q I r h
  obtain ⟨a, S, n, rfl, ha, q⟩ := h
  rw [Vals.ref1 r]
  obtain ⟨o, es, ep, t, ho, hex, hd, g, nd, hm, hb, hf, hn, hr, hl⟩ := setO_get I ha
  refine call_len_set ho hex hd hf (by unfold scanBound at hb; omega) ⟨.int n, H, I.tok _, ⟨_, by rw [hn]⟩, q⟩
end
section
variable {X : Cx} {W : WX}
/-- the heap with a thing of nobody's -/
theorem side_one {K : PySem.W.Frag} {S : Sta} {μ : Sto} (h : HS K S μ) {p : Addr} {o : HO} (hp : S.H p = none) : Ext S ⟨upd S.H p o, S.F, S.L⟩ ∧ HS K ⟨upd S.H p o, S.F, S.L⟩ μ := ⟨(Ext.refl S).side hp, h.side (h.fresh hp) (h.free hp)⟩
def ssW (w : Wv) (μ : Sto) : Rs Wv := match w with
  | .d (.list xs) => (match toInts xs with
    | some ns => if ns.length < 64 then .ok (.d (.list ((sset ns).map PyData.int))) μ else .no
    | none => .no)
  | _ => .no
def lsW (w : Wv) (μ : Sto) : Rs Wv := match w with
  | .d (.list xs) => (match toInts xs with
    | some ns => if ns.length < 4000 then .ok (.d (.int (sset ns).length)) μ else .no
    | none => .no)
  | _ => .no
theorem rp_intl {K : PySem.W.Frag} {F : Hp} {v : V} {xs : List PyData} {ns : List Int} (h : Rp K F v (.list xs)) (e : toInts xs = some ns) : ∃ a, v = .ref a ∧ F a = some (.lst (ns.map V.int)) := by
  obtain ⟨a, vs, rfl, ha, ra⟩ := rp_lst_inv h
  rw [toInts_eq e] at ra
  rw [rpA_ints ra] at ha
  exact ⟨a, rfl, ha⟩
/-- sorted(set(e)) -/
theorem c_sortedSet {p q qos pos : Pos} {a : Expr} {f : FE} (hc : X.calm = true) (hg : Gl X "sorted") (hm : X.mg "sorted" = none) (hg2 : Gl X "set") (hm2 : X.mg "set" = none) (h : CEx X W a f)
    (na : starEach [a] X.env = (false, eval a X.env) :: starEach [] X.env := by rfl) (na2 : starEach [.Call (.Name "set" q) [a] [] qos] X.env = (false, eval (.Call (.Name "set" q) [a] [] qos) X.env) :: starEach [] X.env := by rfl)
    : CEx X W (.Call (.Name "sorted" p) [.Call (.Name "set" q) [a] [] qos] [] pos) (f1 ssW f) := by
  obtain ⟨t, pa, qa⟩ := h
  refine ⟨_, pe_callB (cr_sortedSet hc) hg hm (by decide +kernel) (pa_cons (pe_callTy (cr_setL hc) hg2 hm2 (by decide +kernel) (pa_cons pa pa_nil na) (by decide) (by decide) na (by rfl)) pa_nil na2) (by decide) (by decide) na2 (by rfl), fun env σ S μ he hS Q hp => ?_⟩
  unfold f1 at hp
  rw [Rs.post_bind] at hp
  refine qa env σ S μ he hS _ (hp.mono (fun w μ1 h1 v S1 e1 hS1 r1 => ?_) fun _ _ z => z)
  unfold ssW at h1
  split at h1
  · rename_i xs
    split at h1
    · rename_i ns hx
      split at h1
      · rename_i hl
        obtain ⟨l, rfl, hF⟩ := rp_intl r1 hx
        refine ⟨l, ns, rfl, .inl (.inl (hS1.sub _ _ hF)), by omega, fun b hb => ?_⟩
        obtain ⟨ex, hs⟩ := side_one hS1 (o := SetO X.w b (fun j => decide (j ∈ ns)) (sset ns).length) hb
        refine ⟨b, _, _, rfl, upd_same, by have := sset_len ns; omega, fun ns' p' hr hmem hl' hp' => ?_⟩
        have e : ns' = sset ns := rise_same hr rise_sset fun z => by rw [hmem z, mem_sset]; simp
        subst e
        exact new_lst hs (RpA.ints _) (POk.mono (e1.trans ex) h1) p' hp'
      · exact h1.elim
    · exact h1.elim
  · exact h1.elim
/-- len(set(e)) -/
theorem c_lenSet {p q qos pos : Pos} {a : Expr} {f : FE} (hc : X.calm = true) (hg : Gl X "len") (hm : X.mg "len" = none) (hg2 : Gl X "set") (hm2 : X.mg "set" = none) (h : CEx X W a f)
    (na : starEach [a] X.env = (false, eval a X.env) :: starEach [] X.env := by rfl) (na2 : starEach [.Call (.Name "set" q) [a] [] qos] X.env = (false, eval (.Call (.Name "set" q) [a] [] qos) X.env) :: starEach [] X.env := by rfl)
    : CEx X W (.Call (.Name "len" p) [.Call (.Name "set" q) [a] [] qos] [] pos) (f1 lsW f) := by
  obtain ⟨t, pa, qa⟩ := h
  refine ⟨_, pe_callB cr_lenSet hg hm (by decide +kernel) (pa_cons (pe_callTy (cr_setL hc) hg2 hm2 (by decide +kernel) (pa_cons pa pa_nil na) (by decide) (by decide) na (by rfl)) pa_nil na2) (by decide) (by decide) na2 (by rfl), fun env σ S μ he hS Q hp => ?_⟩
  unfold f1 at hp
  rw [Rs.post_bind] at hp
  refine qa env σ S μ he hS _ (hp.mono (fun w μ1 h1 v S1 e1 hS1 r1 => ?_) fun _ _ z => z)
  unfold lsW at h1
  split at h1
  · rename_i xs
    split at h1
    · rename_i ns hx
      split at h1
      · rename_i hl
        obtain ⟨l, rfl, hF⟩ := rp_intl r1 hx
        refine ⟨l, ns, rfl, .inl (.inl (hS1.sub _ _ hF)), by omega, fun b hb => ?_⟩
        obtain ⟨ex, hs⟩ := side_one hS1 (o := SetO X.w b (fun j => decide (j ∈ ns)) (sset ns).length) hb
        exact ⟨b, _, _, rfl, upd_same, h1 _ _ (e1.trans ex) hs (.int _)⟩
      · exact h1.elim
    · exact h1.elim
  · exact h1.elim
/-- the keys of a dict, if all are ints -/
def intKeys : List (Key × Wv) → Option (List Int)
  | [] => some []
  | (.inl i, _) :: r => (intKeys r).map (i :: ·)
  | _ :: _ => none
theorem intKeys_is {K : PySem.W.Frag} {S : Sta} : ∀ {vs : List (Key × V)} {ws : List (Key × Wv)} {ks : List Int}, RKv K S vs ws → intKeys ws = some ks → vs.map (·.1) = ks.map Sum.inl
  | _, _, ks, .nil, e => by simp [intKeys] at e; subst e; rfl
  | (k1, v) :: _, (.inl i, w) :: _, ks, .cons r t, e => by
    simp [intKeys] at e
    obtain ⟨ms, e1, e2⟩ := e
    subst e2
    have h : k1 = .inl i := r.1
    rw [List.map_cons, List.map_cons, intKeys_is t e1, h]
  | _, (.inr i, w) :: _, ks, .cons r t, e => by simp [intKeys] at e
def insI (x : Int) : List Int → List Int
  | [] => [x]
  | y :: r => if x ≤ y then x :: y :: r else y :: insI x r
def srtI : List Int → List Int
  | [] => []
  | x :: r => insI x (srtI r)
theorem perm_insI (x : Int) : ∀ l : List Int, (insI x l).Perm (x :: l)
  | [] => List.Perm.refl _
  | y :: r => by
    unfold insI
    split
    · exact List.Perm.refl _
    · exact ((perm_insI x r).cons y).trans (List.Perm.swap x y r)
theorem perm_srtI : ∀ l : List Int, (srtI l).Perm l
  | [] => List.Perm.refl _
  | x :: r => (perm_insI x (srtI r)).trans ((perm_srtI r).cons x)
theorem sorted_insI {x : Int} : ∀ {l : List Int}, l.Pairwise (· ≤ ·) → (insI x l).Pairwise (· ≤ ·)
  | [], _ => by simp [insI]
  | y :: r, h => by
    unfold insI
    split
    · rename_i hx
      rw [List.pairwise_cons]
      refine ⟨fun z hz => ?_, h⟩
      rw [List.pairwise_cons] at h
      rcases List.mem_cons.mp hz with rfl | hz
      · exact hx
      · have := h.1 z hz; omega
    · rw [List.pairwise_cons] at h ⊢
      refine ⟨fun z hz => ?_, sorted_insI h.2⟩
      rcases List.mem_cons.mp ((perm_insI x r).mem_iff.mp hz) with rfl | hz
      · omega
      · exact h.1 z hz
theorem sorted_srtI : ∀ l : List Int, (srtI l).Pairwise (· ≤ ·)
  | [] => List.Pairwise.nil
  | x :: r => sorted_insI (sorted_srtI r)
theorem sorted_same : ∀ {xs ys : List Int}, xs.Perm ys → xs.Pairwise (· ≤ ·) → ys.Pairwise (· ≤ ·) → xs = ys := fun h h1 h2 => List.Perm.eq_of_pairwise (fun a b _ _ h1 h2 => Int.le_antisymm h1 h2) h1 h2 h
def sdW (w : Wv) (μ : Sto) : Rs Wv := match w with
  | .l n => (match μ[n]? with
    | some (.dk kvs) => (match intKeys kvs with
      | some ks => if ks.length < 64 then .ok (.d (.list ((srtI ks).map PyData.int))) μ else .no
      | none => .no)
    | _ => .no)
  | _ => .no
/-- sorted(x), x a dict of the store, its keys ints -/
theorem c_sortedD {p pos : Pos} {a : Expr} {f : FE} (hc : X.calm = true) (hg : Gl X "sorted") (hm : X.mg "sorted" = none) (h : CEx X W a f)
    (na : starEach [a] X.env = (false, eval a X.env) :: starEach [] X.env := by rfl) : CEx X W (.Call (.Name "sorted" p) [a] [] pos) (f1 sdW f) := by
  obtain ⟨t, pa, qa⟩ := h
  refine ⟨_, pe_callB (call_sortedDI hc) hg hm (by decide +kernel) (pa_cons pa pa_nil na) (by decide) (by decide) na (by rfl), fun env σ S μ he hS Q hp => ?_⟩
  unfold f1 at hp
  rw [Rs.post_bind] at hp
  refine qa env σ S μ he hS _ (hp.mono (fun w μ1 h1 v S1 e1 hS1 r1 => ?_) fun _ _ z => z)
  unfold sdW at h1
  split at h1
  · rename_i n
    split at h1
    · rename_i kvs hn
      split at h1
      · rename_i ks hk
        split at h1
        · rename_i hl
          obtain ⟨l, hL, rfl⟩ := r1
          obtain ⟨vs, q1, q2⟩ := hS1.ob n l _ hL hn
          refine ⟨l, vs, ks, rfl, .inl q1, intKeys_is q2 hk, hl, fun ys p' hp1 hs => ?_⟩
          have e : ys = srtI ks := sorted_same (hp1.trans (perm_srtI ks).symm) hs (sorted_srtI ks)
          subst e
          exact new_lst hS1 (RpA.ints _) (POk.mono e1 h1) p'
        · exact h1.elim
      · exact h1.elim
    · exact h1.elim
  · exact h1.elim
def soW (w : Wv) (μ : Sto) : Rs Wv := match w with
  | .d (.list xs) => (match toInts xs with
    | some ns => .ok (.d (.list ((srtI ns).map PyData.int))) μ
    | none => .no)
  | _ => .no
end
end Ped

/-! PedX: t[::-1], t a tuple -/
namespace Ped
open PySem PySem.Spec PyProof.Rows L2 HT
section
variable {prog : Program} {w : World} {A : Around} {E : Value → Shared → Prop} {s : Shared}
theorem applied_rev {sl : Addr} {vs : Value} {n : Nat} {Q : Int × Int × Nat → Shared → Prop} (hs : s.heap.IsSliceOf sl .none .none vs) (ps : IsPart vs (some (-1))) (h : Q ((n : Int) - 1, -1, n) s) : wpAny (model prog w) A (Builtin.Slice.sliceApplied (.ref sl) (pure (n : Int))) Q E s := by
  obtain ⟨os, hos, hcs, hds⟩ := id hs
  unfold Builtin.Slice.sliceApplied Builtin.Slice.sliceFields
  refine wpAny_bind (wpAny_bind (wpAny_field hos hds (x := .none) rfl (wpAny_bind (wpAny_field hos hds (x := .none) rfl (wpAny_bind (wpAny_field hos hds (x := vs) rfl (wpAny_pure ?_)))))))
  refine wpAny_bind (slicePart_ ps ?_)
  show wpAny _ _ (if ((-1 : Int) == 0) = true then _ else _) _ _ s
  rw [if_neg (by decide)]
  refine wpAny_bind (slicePart_none (wpAny_bind (slicePart_none (wpAny_bind (wpAny_pure ?_)))))
  have e1 : Builtin.Slice.sliceAdjust none none (-1) (n : Int) = ((n : Int) - 1, -1) := by
    simp [Builtin.Slice.sliceAdjust]
  have e2 : Builtin.Slice.slicePlaces ((n : Int) - 1) (-1) (-1) = n := by
    unfold Builtin.Slice.slicePlaces
    simp
    omega
  show wpAny _ _ (match Builtin.Slice.sliceAdjust none none (-1) (n : Int) with | (lo, hi) => pure (lo, (-1 : Int), Builtin.Slice.slicePlaces lo hi (-1))) _ _ s
  rw [e1]
  show wpAny _ _ (pure ((n : Int) - 1, (-1 : Int), Builtin.Slice.slicePlaces ((n : Int) - 1) (-1) (-1))) _ _ s
  rw [e2]
  exact wpAny_pure h
theorem pick_rev (xs : Array Value) : ((List.range xs.size).filterMap fun (m : Nat) => xs[(((xs.size : Int) - 1) + (m : Int) * (-1)).toNat]?).toArray = xs.toList.reverse.toArray := by
  congr 1
  have e : ∀ m, m < xs.size → xs[(((xs.size : Int) - 1) + (m : Int) * (-1)).toNat]? = xs.toList.reverse[m]? := fun m hm => by
    have : (((xs.size : Int) - 1) + (m : Int) * (-1)).toNat = xs.size - 1 - m := by omega
    rw [this, List.getElem?_reverse (by simpa using hm)]
    simp
  have g : ∀ (ys : List Value) (k : Nat), k ≤ ys.length → (List.range k).filterMap (fun m => ys[m]?) = ys.take k := fun ys k => by
    induction k with
    | zero => intro _; simp
    | succ k ih =>
      intro hk
      rw [List.range_succ, List.filterMap_append, ih (by omega), List.take_add_one]
      simp [List.getElem?_eq_getElem (show k < ys.length by omega)]
  have g2 := g xs.toList.reverse xs.size (by simp)
  rw [List.take_of_length_le (by simp)] at g2
  rw [← g2]
  have c : ∀ (f g : Nat → Option Value) (q : List Nat), (∀ m ∈ q, f m = g m) → q.filterMap f = q.filterMap g := fun f g q => by
    induction q with
    | nil => intro _; rfl
    | cons a r ih =>
      intro hq
      rw [List.filterMap_cons, List.filterMap_cons, hq a List.mem_cons_self, ih fun m hm => hq m (List.mem_cons_of_mem _ hm)]
  exact c _ _ _ fun m hm => e m (List.mem_range.mp hm)
theorem item_rev {t sl : Addr} {items : Array Value} {vs : Value} {Q : Value → Shared → Prop} (ht : IsTup s.heap t items) (hs : s.heap.IsSliceOf sl .none .none vs) (ps : IsPart vs (some (-1)))
    (h : Q (.ref s.heap.objs.size) { s with heap := s.heap.push { cls := .type "tuple", data := .seq items.toList.reverse.toArray } }) (hsz : items.size ≤ sizeLine) : wpAny (model prog w) A (getItem (.ref t) (.ref sl)) Q E s := by
  obtain ⟨os, hos, hcs, hds⟩ := id hs
  have kT : s.TypeIs (.ref sl) "slice" := ⟨os, hos, hcs⟩
  have kz : sizeOk (.seq items.toList.reverse.toArray) := by
    show items.toList.reverse.toArray.size ≤ sizeLine
    simpa using hsz
  unfold getItem
  (try with_reducible refine wpAny_holding ?_); (first | refine wpAny_bind (wpAny_pure ?_) | skip)
  refine wpAny_bind (wpAny_sequenceKey ht.typeIs (by decide) (wpAny_bind (wpAny_callSpecial?_slot (name := Str.ofString "__getitem__") ht.typeIs PyProof.Rows.slot_tuple_getitem (wpAny_call_entry PyProof.Rows.slot_tuple_getitem ht.typeIs entry_tuple_getitem ?_ (args_tuple_getitem _ _)))))
  show wpAny _ _ (Builtin.Tuple.tupleItemsOf (.ref t) >>= _) _ _ s
  refine wpAny_bind (tupleItemsOf_ ht (wpAny_bind (wpAny_typeOf kT ?_)))
  rw [if_pos (by decide)]
  refine wpAny_bind (applied_rev hs ps ?_)
  show wpAny _ _ (if (((items.size : Int) - 1) == 0 && (-1 : Int) == 1 && items.size == items.size) = true then _ else _) _ _ s
  rw [if_neg (by simp), pick_rev]
  first
    | exact wpAny_bind (m := Builtin.Tuple.tupleExact _) (wpAny_newObj_type (wpAny_pure ⟨_, rfl, wpAny_pure h⟩) kz)
    | exact wpAny_bind (wpAny_bind (m := Builtin.Tuple.tupleExact _) (wpAny_newObj_type (wpAny_pure (wpAny_pure ⟨_, rfl, wpAny_pure h⟩)) kz))
    | exact wpAny_bind (wpAny_bind (m := Builtin.Tuple.tupleExact _) (wpAny_newObj_type (wpAny_pure ⟨_, rfl, wpAny_pure h⟩) kz))
end
section
variable {X : Cx}
def tRevT (K : PySem.W.Frag) (te : TE) : TE := fun σ H Q => te σ H fun x H1 => ∃ a xs, x = .ref a ∧ SqT K H1 a xs ∧ ∀ p, H1 p = none → Q (.ref p) (upd H1 p (.tup xs.reverse))
theorem pe_revT {e : Expr} {te : TE} {k : Nat} {p1 p2 p3 pos : Pos} (he : PE X e te) : PE X (.Subscript e (.Slice none none (some (.UnaryOp .USub (.Constant (.int 1) k p1) p2)) p3) pos) (tRevT X.K te) := by
  refine ⟨fun pins s σ H Q I h => Subscript_ (thn (he.run pins s σ H _ I h) fun v s1 ⟨x, H1, I1, r1, a, xs, ex, hx, q⟩ => ?_)⟩
  subst ex
  cases r1
  have kst : PO X (some (.UnaryOp .USub (.Constant (.int 1) k p1) p2)) (tPart (tUn (rU fun i => .int (-i)) (tC (.int 1)))) := po_some (pe_un un_neg pe_int)
  refine wpAny_Slice (thn (po_none.run pins s1 σ H1 (fun o H2 => o = none ∧ H2 = H1) I1 ⟨rfl, rfl⟩) fun vl s2 ⟨l, H2, I2, pl, el, e2⟩ => ?_)
  subst el e2
  refine thn (po_none.run pins s2 σ H2 (fun o H3 => o = none ∧ H3 = H2) I2 ⟨rfl, rfl⟩) fun vu s3 ⟨u, H3, I3, pu, eu, e3⟩ => ?_
  subst eu e3
  refine thn (kst.run pins s3 σ H3 (fun o H4 => o = some (-1) ∧ H4 = H3) I3 ⟨1, rfl, -1, rfl, rfl, rfl⟩) fun vs s4 ⟨o, H4, I4, ps, eo, e4⟩ => ?_
  subst eo e4
  cases pl
  cases pu
  have I5 : Inv X pins σ H4 { s4 with heap := s4.heap.push { cls := .type "slice", data := .fields #[Value.none, Value.none, vs] } } := I4.kept (t' := s4.toks) fun b ob q => Heap.get?_push_of_some _ q
  obtain ⟨its, r, ht, hz⟩ := I5.tuple hx
  have kl := r.length
  show wpAny (model X.prog X.w) X.A (subscriptTail e (.Slice none none (some (.UnaryOp .USub (.Constant (.int 1) k p1) p2)) p3) (.ref a) (.ref s4.heap.objs.size)) (EP X pins σ Q) X.xe { s4 with heap := s4.heap.push { cls := .type "slice", data := .fields #[Value.none, Value.none, vs] } }
  refine tail_any (ops := [.ref a, .ref s4.heap.objs.size]) ht.typeIs (PyProof.Rows.slot_tuple_getitem.lookup) ?_ (by with_unfolding_all rfl)
  refine item_rev ht (Heap.IsSliceOf.new _ .none .none vs) ps ?_ (by rw [List.size_toArray]; omega)
  exact ⟨.ref _, _, I5.laid (t' := s4.toks) (o := .tup xs.reverse) (fun b ob q => Heap.get?_push_of_some _ q) (Nat.le_refl _) ⟨by rw [List.length_reverse]; exact hz, _, r.reverse, IsTup.new _ _⟩, rfl, q _ (I5.hok.fresh (Nat.le_refl _))⟩
end
section
variable {X : Cx} {W : WX}
def revW (w : Wv) (μ : Sto) : Rs Wv := match w with
  | .d (.tuple xs) => .ok (.d (.tuple xs.reverse)) μ
  | _ => .no
/-- e[::-1], a tuple -/
theorem c_revT {e : Expr} {f : FE} {k : Nat} {p1 p2 p3 pos : Pos} (h : CEx X W e f) : CEx X W (.Subscript e (.Slice none none (some (.UnaryOp .USub (.Constant (.int 1) k p1) p2)) p3) pos) (f1 revW f) := by
  obtain ⟨t, pe, qe⟩ := h
  refine ⟨_, pe_revT pe, fun env σ S μ he hS Q hp => ?_⟩
  unfold f1 at hp
  rw [Rs.post_bind] at hp
  refine qe env σ S μ he hS _ (hp.mono (fun w μ1 h1 v S1 e1 hS1 r1 => ?_) fun _ _ z => z)
  unfold revW at h1
  split at h1
  · obtain ⟨a, xs, rfl, ha, ra⟩ := rp_tup_inv r1
    exact ⟨a, xs, rfl, .inl (.inl (hS1.sub _ _ ha)), new_tup hS1 ra.reverse (POk.mono e1 h1)⟩
  · exact h1.elim
end
end Ped

/-! PedW: a tuple so many times -/
namespace Ped
open PySem PySem.Spec PyProof.Rows L2
theorem tup_once (l : Addr) (items : Array Value) (n : Nat) (dd : Option Addr) (sl : Array (Option Value)) (u : Tok) :
    Meets (Builtin.«tuple.__mul__» ⟨[.ref l, .int 1 u], []⟩) (fun _ R s => s.heap.get? l = some { cls := .type "tuple", dict := dd, data := .seq items n, slots := sl } ∧ R (.ok (.ret (Value.ref l))) s) :=
  .of_wp fun prog w A R s h => by
    obtain ⟨hp, g, d, tk, os⟩ := s
    obtain ⟨hl, h⟩ := h
    have f1 := AutoSeq1.idx_int
    wp_walk using wpAny_loadPart' hl
    exact ⟨_, rfl, h⟩
section
variable {X : Cx}
def rOnce (K : PySem.W.Frag) : R2 := fun x y H Q => ∃ l xs, x = .ref l ∧ y = .int 1 ∧ SqT K H l xs ∧ Q (.ref l) H
theorem op_once : OpR X (binaryOp .Mult) (rOnce X.K) := by
  intro pins s σ H x y v u Q I rx ry h
  obtain ⟨l, xs, rfl, rfl, hT, q⟩ := h
  cases rx
  obtain ⟨t, rfl⟩ := ry
  obtain ⟨its, r, ⟨⟨cls, dd, data, sl⟩, ho, hc, n, hd⟩, hs⟩ := I.tuple hT
  cases (show cls = _ from hc); cases (show data = _ from hd)
  exact wpAny_binaryOp_repeat_ref (T := "tuple") (U := "int") (by decide) ⟨_, ho, rfl⟩ (fun s' => typeIs_int s' 1 t) noFill_tuple_mul PySem.F.fills_int_mul PySem.F.slot_int_rmul repeat_tuple PySem.F.slot_int_index.lookup
    (call_meets PySem.F.slot_int_rmul (typeIs_int s 1 t) PySem.F.entry_int_rmul (PySem.F.args_int_rmul_2 _ _) (int_rmul_tuple 1 t l its.toArray n dd sl)
      ⟨ho, rfl, ⟨_, ho, rfl⟩, call_meets PySem.F.slot_tuple_mul ⟨_, ho, rfl⟩ PySem.F.entry_tuple_mul (PySem.F.args_tuple_mul_2 _ _) (tup_once l its.toArray n dd sl t) ⟨ho, .ref l, H, I, rfl, q⟩⟩)
end
section
variable {X : Cx} {W : WX}
/-- t * n -/
def mulTW (x y : Wv) (μ : Sto) : Rs Wv := match x, y with
  | .d (.tuple xs), .d (.int k) => if xs ≠ [] ∧ 1 ≤ k ∧ k ≤ 1000 ∧ xs.length ≤ 1000 then .ok (.d (.tuple (List.replicate k.toNat xs).flatten)) μ else .no
  | _, _ => .no
theorem mulTW_nx : NoEx mulTW := fun x y μ e ν q => by
  unfold mulTW at q
  split at q
  · split at q <;> cases q
  · cases q
theorem c_mulT {a b : Expr} {f g : FE} {pos : Pos} (ha : CEx X W a f) (hb : CEx X W b g) : CEx X W (.BinOp a .Mult b pos) (fOp mulTW f g) := by
  refine c_op (OpR.or op_once op_repT) (fun x y v u S μ hS hx hy Q hp => ?_) mulTW_nx ha hb
  unfold mulTW at hp
  split at hp
  · split at hp
    · rename_i xs k hk
      obtain ⟨p, vs, rfl, ha, ra⟩ := rp_tup_inv hx
      cases hy
      by_cases h1 : k = 1
      · subst h1
        refine .inl ⟨p, vs, rfl, rfl, .inl (.inl (hS.sub _ _ ha)), hp _ S (Ext.refl S) hS ?_⟩
        have e : (List.replicate (1 : Int).toNat xs).flatten = xs := by simp
        rw [e]
        exact Rp.tup ha ra
      · refine .inr ⟨p, k, vs, rfl, rfl, .inl (.inl (hS.sub _ _ ha)), fun z => hk.1 (ra.nil_iff.mpr z), by omega, by omega, by rw [ra.len]; exact hk.2.2.2, new_tup hS (ra.rep _) hp⟩
    · exact hp.elim
  · exact hp.elim
end
end Ped

/-! PedE: enumerate over a tuple, over a list -/
namespace Ped
open PySem PySem.Spec PyProof.Rows L2
theorem enum_one {v : Value} {o : Obj} {H : Heap → Prop} (B : Begins v o H) :
    Meets (Builtin.«enumerate.__new__» ⟨[.type "enumerate", v], []⟩) (fun _ R s => H s.heap ∧ R (.ok (.ret (.ref (s.heap.push o).objs.size))) { s with heap := (s.heap.push o).push { cls := .type "enumerate", data := .fields #[.none, .bool false, .ref s.heap.objs.size, rawInt 0, .none, .none] } }) :=
  .of_wp fun prog w A R s h => by
    obtain ⟨hp, g, d, tk, os⟩ := s
    obtain ⟨h1, h⟩ := h
    have k1 := sub_enumerate
    have k2 : ∀ {A' : Around} {E : Value → Shared → Prop} {Q : Value → Shared → Prop}, Q (.ref hp.objs.size) ⟨hp.push o, g, d, tk, os⟩ → wpAny (model prog w) A' (pyIter v) Q E ⟨hp, g, d, tk, os⟩ := fun q => B.iter prog w _ _ ⟨hp, g, d, tk, os⟩ _ h1 q
    wp_walk using k2
    refine wpAny_stack_any fun st => wpAny_pure ?_
    split
    · rename_i c _ _ _ _ _
      cases (c == Value.type "enumerate") <;> (wp_walk using k2; exact ⟨_, rfl, h⟩)
    · wp_walk using k2
      exact ⟨_, rfl, h⟩
section
variable {prog : Program} {w : World} {A : Around} {E : Value → Shared → Prop} {s : Shared}
theorem call_enum1 {v : Value} {o : Obj} {H : Heap → Prop} {Q : Value → Shared → Prop} (B : Begins v o H) (h1 : H s.heap)
    (h : ∀ h', IsEnum h' (s.heap.objs.size + 1) s.heap.objs.size 0 .none → h'.get? s.heap.objs.size = some o → (∀ b o, s.heap.get? b = some o → h'.get? b = some o) → Q (.ref (s.heap.objs.size + 1)) { s with heap := h' }) :
    wpAny (model prog w) A (call (.type "enumerate") [v]) Q E s := by
  refine callType_new F.called_enumerate (by decide) (F.typeCall_enumerate_1 _) (F.newCall_enumerate_1 _) (fun obj => F.args_object_init_2 obj _) F.entry_enumerate_new (enum_one B) ⟨h1, ?_⟩
  have sz : (s.heap.push o).objs.size = s.heap.objs.size + 1 := Heap.size_push ..
  have he := Heap.get?_push_size (s.heap.push o) (o := { cls := .type "enumerate", data := .fields #[.none, .bool false, .ref s.heap.objs.size, rawInt 0, .none, .none] }) rfl
  show _ ∧ _
  rw [sz] at he ⊢
  exact ⟨⟨_, he, rfl⟩, h _ he (Heap.get?_push_of_some _ (Heap.get?_push_size _ B.free)) fun b o x => Heap.get?_push_of_some _ (Heap.get?_push_of_some _ x)⟩
end
/-- the tuple at a, each item in a new pair -/
def ItT (K : PySem.W.Frag) (a : Addr) : It :=
  ⟨fun i H => ∃ (xs : List V) (x : V), SqT K H a xs ∧ xs[i]? = some x, fun i H v H' => ∃ T x, v = .ref T ∧ H T = none ∧ H' = upd H T (.tup [.int (i : Nat), x]) ∧ ∀ xs, SqT K H a xs → xs[i]? = some x, fun i H => ∃ xs : List V, SqT K H a xs ∧ xs.length = i⟩
theorem turn_enumT {P : Program} {w : World} {K : PySem.W.Frag} {elts : List Expr} {kk : Nat} {tpos : Pos} (a e it : Addr) :
    Turn P w K (.Tuple elts kk tpos) (ItT K a) [e, it] e (fun i h => (∃ old, IsEnum h e it ((i : Nat) : Int) old) ∧ h.IsTupleIter it a i ∧ e ≠ it ∧ a ≠ e ∧ a ≠ it) where
  mem := by simp
  obj := fun i h st b hb => by
    obtain ⟨⟨old, he⟩, ⟨o, ho, hc, hd⟩, _⟩ := st
    rcases List.mem_cons.mp hb with z | z
    · rw [z]; exact ⟨_, he, fun v q => nomatch q⟩
    · rw [List.mem_singleton.mp z]; exact ⟨o, ho, fun v q => by rw [hd] at q; cases q⟩
  keep := fun i h h' st k => let ⟨⟨old, he⟩, hi, hne⟩ := st; ⟨⟨old, k e (by simp) _ he⟩, hi.at fun o q => k it (by simp) o q, hne⟩
  item := by
    intro X hP hw hK hc i pins s σ H E I hf st hg
    subst hP hw hK
    obtain ⟨⟨old, he⟩, hit, hne, ha1, ha2⟩ := st
    obtain ⟨xs, x, hq, hx⟩ := hg
    obtain ⟨its, rv, p, hz⟩ := I.tuple hq
    obtain ⟨u, hu, ru⟩ := rv.get hx
    have hel : e < s.heap.objs.size := Heap.lt_size he
    have hil : it < s.heap.objs.size := by obtain ⟨_, q, _⟩ := hit; exact Heap.lt_size q
    have hil2 : i < its.toArray.size := by
      have := (List.getElem?_eq_some_iff.mp hu).1
      simpa using this
    have D := Draws.tuple (prog := X.prog) (w := X.w) (A := X.A.in1) (by simpa using I.ok.hd hc) it a ha2 its.toArray
    refine wpAny_pyNext_enum_itemD D he ⟨hit, p⟩ hil2 hne (by simp; exact ⟨hne, Ne.symm ha1⟩) fun x1 h' tk hp ho hit' hT hsz hk => ?_
    have hx1 : x1 = u := by
      have q : its[i]? = some x1 := by simpa using hp
      rw [hu] at q
      exact (Option.some.inj q).symm
    subst hx1
    refine ⟨_, rfl, wpAny_letOwnedTupleGo_enum (s := { s with heap := h', toks := tk + 1 }) ho fun h'' he' sb => ?_⟩
    have hT2 : h''.get? s.heap.objs.size = some { cls := .type "tuple", data := .seq #[.int i tk, x1] } := (sb.2 _ (Nat.ne_of_gt hel)).trans hT
    have new : ObjOk X.prog X.w (upd H s.heap.objs.size (.tup [.int (i : Nat), x])) h'' s.heap.objs.size (.tup [.int (i : Nat), x]) := ⟨by show 2 ≤ sizeLine; decide, [.int i tk, x1], .cons ⟨_, rfl⟩ (.cons ru .nil), ⟨_, hT2, rfl, _, rfl⟩⟩
    have I1 : Inv X pins σ (upd H s.heap.objs.size (.tup [.int (i : Nat), x])) { s with heap := h'', toks := tk + 1 } :=
      I.turnedNew (ch := [e, it]) (fun b ob hb q => (sb.2 b (fun z => hb (by simp [z]))).trans (hk b ob (fun z => hb (by simp [z])) (fun z => hb (by simp [z])) q)) hf (Nat.le_refl _) new
    refine ⟨.ref s.heap.objs.size, _, I1, rfl, ⟨_, x, rfl, I.hok.fresh (Nat.le_refl _), rfl, fun ys hy => ?_⟩, ⟨⟨x1, ?_⟩, hit'.1.at fun o q => (sb.2 it (Ne.symm hne)).trans q, hne, ha1, ha2⟩, fun b hb => ?_⟩
    · rw [I.tuple_inj hy hq]; exact hx
    · rw [show ((i + 1 : Nat) : Int) = (i : Int) + 1 by omega]
      exact he'
    · have hb' : b < s.heap.objs.size := by
        rcases List.mem_cons.mp hb with z | z
        · rw [z]; exact hel
        · rw [List.mem_singleton.mp z]; exact hil
      rw [upd_ne (Nat.ne_of_lt hb')]
      exact (hf b hb).1
  done := by
    intro X hP hw hK hc i pins s σ H E I hf st hg
    subst hP hw hK
    obtain ⟨⟨old, he⟩, hit, hne, ha1, ha2⟩ := st
    obtain ⟨xs, hq, hx⟩ := hg
    obtain ⟨its, rv, p, hz⟩ := I.tuple hq
    obtain ⟨f0, f1, f2, f3, f4, f5⟩ := hf it (by simp)
    have D := Draws.tuple (prog := X.prog) (w := X.w) (A := X.A.in1) (by simpa using I.ok.hd hc) it a ha2 its.toArray
    have hn : i = its.toArray.size := by
      have := rv.length
      simp
      omega
    subst hn
    exact wpAny_pyNext_enum_endD D he ⟨hit, p⟩ fun h' eb => ⟨rfl, I.turned (t' := s.toks) (fun b o hb q => eb b o hb q) f0 f1 f3 f4 f5⟩
  self := fun A i s Q E st h => let ⟨⟨_, he⟩, _⟩ := st; wpAny_pyIter_enum he h
def iEnumT (K : PySem.W.Frag) (ta : TA) : TI := fun σ H R => ta σ H fun vs H1 => ∃ a xs, vs = [.ref a] ∧ SqT K H1 a xs ∧ R (ItT K a) H1
theorem pi_enumT {X : Cx} {e : Expr} {ta : TA} {p pos tpos : Pos} {elts : List Expr} {kk : Nat} (hg : Gl X "enumerate") (hm : X.mg "enumerate" = none) (ha : PA X [e] ta) (hs : starEach [e] X.env = [(false, eval e X.env)] := by rfl) :
    PI X (.Tuple elts kk tpos) (.Call (.Name "enumerate" p) [e] [] pos) (iEnumT X.K ta) := by
  refine ⟨fun pins s σ H R I h => Call_ (ld_blt I hg hm boot_enumerate (PyProof.Rows.callWith_type1 (thn (ha.run pos pins s σ H _ I h) fun us s1 ⟨vs, H1, I1, r1, a, xs, ex, hq, q⟩ => ?_) hs rfl))⟩
  subst ex
  cases r1 with
  | cons r rr =>
    cases rr
    cases r
    obtain ⟨its, rv, p', hz⟩ := I1.tuple hq
    refine call_enum1 (begins_tuple a its.toArray) p' fun h' he hit hk => wpAny_pyIter_enum he ?_
    have I2 : Inv X pins σ H1 { s1 with heap := h' } := I1.kept (t' := s1.toks) hk
    have hlt : a < s1.heap.objs.size := by obtain ⟨o, ho, _⟩ := p'; exact Heap.lt_size ho
    refine ⟨s1.heap.objs.size + 1, [s1.heap.objs.size + 1, s1.heap.objs.size], _, _, H1, rfl, I2, turn_enumT a (s1.heap.objs.size + 1) s1.heap.objs.size, ⟨⟨.none, he⟩, ⟨_, hit, rfl, rfl⟩, Nat.succ_ne_self _, Nat.ne_of_lt (Nat.lt_succ_of_lt hlt), Nat.ne_of_lt hlt⟩, fun b hb => ?_, q⟩
    have hle : s1.heap.objs.size ≤ b := by
      rcases List.mem_cons.mp hb with z | z
      · rw [z]; exact Nat.le_add_right _ _
      · rw [List.mem_singleton.mp z]; exact Nat.le_refl _
    exact I1.fpOk hle (I1.hok.fresh hle)
/-- 0, 1, .. beside the items -/
def enumD (xs : List PyData) : List PyData := xs.zipIdx.map fun p => .tuple [.int (p.2 : Nat), p.1]
theorem enumD_get {xs : List PyData} {i : Nat} {d : PyData} (h : (enumD xs)[i]? = some d) : ∃ x, xs[i]? = some x ∧ d = .tuple [.int (i : Nat), x] := by
  unfold enumD at h
  rw [List.getElem?_map, List.getElem?_zipIdx] at h
  cases hx : xs[i]? with
  | none => rw [hx] at h; cases h
  | some x =>
    rw [hx] at h
    simp at h
    exact ⟨x, rfl, h.symm⟩
theorem enumD_length (xs : List PyData) : (enumD xs).length = xs.length := by unfold enumD; simp
def itEnT (f : FE) : FIt := fun env μ => (f env μ).bind fun w μ1 => match w with
  | .d (.tuple xs) => .ok (enumD xs) μ1
  | _ => .no
theorem ci_enumT {X : Cx} {W : WX} {e : Expr} {f : FE} {p pos tpos : Pos} {elts : List Expr} {kk : Nat} (hg : Gl X "enumerate") (hm : X.mg "enumerate" = none) (h : CEx X W e f) (hs : starEach [e] X.env = [(false, eval e X.env)] := by rfl) : CI X W (.Tuple elts kk tpos) (.Call (.Name "enumerate" p) [e] [] pos) (itEnT f) := by
  obtain ⟨t, pe, q⟩ := h
  refine ⟨_, pi_enumT hg hm (pa_cons pe pa_nil (by rw [hs]; rfl)) hs, fun env σ S μ he hS R hp => ?_⟩
  unfold itEnT at hp
  rw [Rs.post_bind] at hp
  refine q env σ S μ he hS _ (hp.mono (fun w μ1 h1 v S1 e1 hS1 r1 => ?_) fun _ _ z => z)
  split at h1
  · obtain ⟨a, vs, rfl, ha, ra⟩ := rp_tup_inv r1
    refine ⟨a, vs, rfl, .inl (.inl (hS1.sub _ _ ha)), h1 _ S1 e1 hS1 fun S2 e2 μ2 hS2 => ?_⟩
    have hq : SqT X.K S2.H a vs := .inl (.inl (hS2.sub _ _ (e2.sb _ _ ha)))
    refine ⟨fun i item hi => ?_, ⟨vs, hq, by rw [enumD_length, ra.len]⟩⟩
    obtain ⟨x, hx, rfl⟩ := enumD_get hi
    obtain ⟨u, hu, ru⟩ := ra.get hx
    refine ⟨⟨vs, u, hq, hu⟩, fun y H' hy => ?_⟩
    obtain ⟨T, z, rfl, hT, rfl, hz⟩ := hy
    have ez := hz vs hq
    rw [hu] at ez
    cases ez
    exact ⟨S2.lay T (.tup [.int (i : Nat), u]), rfl, Ext.lay hS2.sub hT, hS2.lay _ hT, rp_tup (hS2.free hT) (.cons (.int _) (.cons (Rp.mono e2.sb _ _ ru) .nil))⟩
  · exact h1.elim
end Ped

/-! PedF: a list of the store + a list; data against a list of the store -/
namespace Ped
open PySem PySem.Spec PyProof.Rows L2
/-- the data that the list of number n holds -/
def lstD (μ : Sto) (n : Nat) : Option (List PyData) := match lstAt μ n with
  | some ws => dats ws
  | none => none
theorem lstD_ok {K : PySem.W.Frag} {S : Sta} {μ : Sto} {n : Nat} {ds : List PyData} {v : V} (hS : HS K S μ) (h : lstD μ n = some ds) (r : RW K S v (.l n)) : ∃ a vs, v = .ref a ∧ S.H a = some (.lst vs) ∧ RpA K S.F vs ds := by
  unfold lstD at h
  split at h
  · rename_i ws hm
    obtain ⟨a, hL, rfl⟩ := r
    obtain ⟨vs, q1, q2⟩ := hS.ob n a _ hL (lstAt_some hm)
    exact ⟨a, vs, rfl, q1, rws_dats q2 h⟩
  · cases h
section
variable {X : Cx} {W : WX} {a b : Expr} {f g : FE} {pos : Pos}
def addLW (x y : Wv) (μ : Sto) : Rs Wv := match x, y with
  | .l n, .d (.list ys) => (match lstD μ n with
    | some ds => if ds.length + ys.length ≤ LIM then .ok (.d (.list (ds ++ ys))) μ else .no
    | none => .no)
  | x, y => addW x y μ
theorem addLW_nx : NoEx addLW := fun x y μ e ν q => by
  unfold addLW at q
  split at q
  · split at q
    · split at q <;> cases q
    · cases q
  · exact addW_nx _ _ _ _ _ q
theorem c_addL (ha : CEx X W a f) (hb : CEx X W b g) : CEx X W (.BinOp a .Add b pos) (fOp addLW f g) := by
  refine c_op (OpR.or op_add (OpR.or op_add_str (OpR.or op_catA op_cat))) (fun x y v u S μ hS hx hy Q hp => ?_) addLW_nx ha hb
  unfold addLW at hp
  split at hp
  · rename_i n ys
    split at hp
    · rename_i ds hd
      split at hp
      · rename_i hl
        obtain ⟨p, vs, rfl, h1, r1⟩ := lstD_ok hS hd hx
        obtain ⟨q, us, rfl, h2, r2⟩ := rp_lst_inv hy
        exact .inr (.inr (.inr ⟨p, q, vs, us, rfl, rfl, h1, hS.sub _ _ h2, by rw [r1.len, r2.len]; exact lim_line hl, new_lst hS (r1.append r2) hp⟩))
      · exact hp.elim
    · exact hp.elim
  · exact ok_add _ _ v u S μ hS hx hy Q hp
def neLW (x y : Wv) (μ : Sto) : Rs Wv := match x, y with
  | .d d, .l n => (match lstD μ n with
    | some ds => if SeqAt.shaped d = true ∧ SeqAt.shaped (.list ds) = true then .ok (.d (.bool (!PyData.eqv d (.list ds)))) μ else .no
    | none => .no)
  | x, y => eqW true x y μ
theorem neLW_nx : NoEx neLW := fun x y μ e ν q => by
  unfold neLW at q
  split at q
  · split at q
    · split at q <;> cases q
    · cases q
  · exact eqW_nx true _ _ _ _ _ q
theorem ok_neL : OkR X (fun x y H Q => rNe x y H Q ∨ rNeD X.K x y H Q) neLW := fun x y v u S μ hS hx hy Q hp => by
  unfold neLW at hp
  split at hp
  · rename_i d n
    split at hp
    · rename_i ds hd
      split at hp
      · rename_i hh
        obtain ⟨p, vs, rfl, h1, r1⟩ := lstD_ok hS hd hy
        exact .inr ⟨d, .list ds, Rp.dp hS.sub _ _ hx, .lst (.inl (.inl h1)) (RpA.dp hS.sub _ _ r1), hh.1, hh.2, hp _ S (Ext.refl S) hS (.bl _)⟩
      · exact hp.elim
    · exact hp.elim
  · exact ok_ne _ _ v u S μ hS hx hy Q hp
theorem c_neL (hu : X.A.units + 64 < cLine) (ha : CEx X W a f) (hb : CEx X W b g) : CEx X W (.Compare a [.NotEq] [b] pos) (fOp neLW f g) := c_cmp (OpR.or op_ne (op_neD hu)) ok_neL neLW_nx ha hb (nomark _)
theorem ct_neL (hu : X.A.units + 64 < cLine) (ha : CEx X W a f) (hb : CEx X W b g) : CT X W (.Compare a [.NotEq] [b] pos) (fB (fOp neLW f g)) := ct_cmp (OpR.or op_ne (op_neD hu)) ok_neL neLW_nx ha hb (nomark _)
end
end Ped

/-! PedDd: {k: v, ..} -/
namespace Ped
open PySem PySem.Spec PyProof.Rows L2
section
variable {X : Cx} {W : WX}
abbrev RPs (K : PySem.W.Frag) (S : Sta) : List (V × V) → List (Wv × Wv) → Prop := Paired fun p q => RW K S p.1 q.1 ∧ RW K S p.2 q.2
theorem RPs.mono {K : PySem.W.Frag} {S S' : Sta} (e : Ext S S') : ∀ {vs : List (V × V)} {ws : List (Wv × Wv)}, RPs K S vs ws → RPs K S' vs ws
  | _, _, .nil => .nil
  | _, _, .cons r t => .cons ⟨r.1.mono e, r.2.mono e⟩ (RPs.mono e t)
abbrev FPs := Env → Sto → Rs (List (Wv × Wv))
def CPs (X : Cx) (W : WX) (pos : Pos) (keys : List (Option Expr)) (values : List Expr) (f : FPs) : Prop := ∃ trs, PPs X pos keys values trs ∧ ∀ env σ S μ, EnvR X.K X.N.length S env σ → HS X.K S μ → ∀ Q : List (V × V) → Hp → Prop,
  (f env μ).Post (fun ps μ' => ∀ qs S', Ext S S' → HS X.K S' μ' → RPs X.K S' qs ps → Q qs S'.H) (PEx X.K W σ S) → tPairs trs σ S.H Q
def fPs0 : FPs := fun _ μ => .ok [] μ
def fPsC (f g : FE) (k : FPs) : FPs := fun env μ => (f env μ).bind fun x μ1 => (g env μ1).bind fun y μ2 => (k env μ2).bind fun ps μ3 => .ok ((x, y) :: ps) μ3
theorem cps_nil {pos : Pos} : CPs X W pos [] [] fPs0 := ⟨_, pps_nil, fun env σ S μ hE hS Q h => h [] S (Ext.refl S) hS .nil⟩
theorem cps_cons {pos : Pos} {k v : Expr} {ks : List (Option Expr)} {vs : List Expr} {f g : FE} {h : FPs} (hk : CEx X W k f) (hv : CEx X W v g) (hr : CPs X W pos ks vs h) : CPs X W pos (some k :: ks) (v :: vs) (fPsC f g h) := by
  obtain ⟨tk, pk, qk⟩ := hk
  obtain ⟨tv, pv, qv⟩ := hv
  obtain ⟨tr, pr, qr⟩ := hr
  refine ⟨_, pps_cons pk pv pr, fun env σ S μ hE hS Q hp => ?_⟩
  unfold fPsC at hp
  rw [Rs.post_bind] at hp
  refine qk env σ S μ hE hS _ (hp.mono (fun x μ1 h1 v S1 e1 hS1 r1 => ?_) fun _ _ z => z)
  rw [Rs.post_bind] at h1
  refine qv env σ S1 μ1 (hE.mono e1) hS1 _ (h1.mono (fun y μ2 h2 u S2 e2 hS2 r2 => ?_) fun _ _ z => z.mono e1)
  rw [Rs.post_bind] at h2
  refine qr env σ S2 μ2 (hE.mono (e1.trans e2)) hS2 _ (h2.mono (fun ps μ3 h3 qs S3 e3 hS3 r3 => ?_) fun _ _ z => z.mono (e1.trans e2))
  exact h3 ((v, u) :: qs) S3 (e1.trans (e2.trans e3)) hS3 (.cons ⟨r1.mono (e2.trans e3), r2.mono e3⟩ r3)
def keyPs : List (Wv × Wv) → Option (List (Key × Wv))
  | [] => some []
  | (.d d, w) :: r => match keyD d, keyPs r with
    | some k, some kws => some ((k, w) :: kws)
    | _, _ => none
  | _ :: _ => none
def mergeW (kvs more : List (Key × Wv)) : List (Key × Wv) := more.foldl (fun acc kv => putW acc kv.1 kv.2) kvs
theorem rkv_merge {K : PySem.W.Frag} {S : Sta} : ∀ {more : List (Key × V)} {mw : List (Key × Wv)} {kvs : List (Key × V)} {kws : List (Key × Wv)}, RKv K S more mw → RKv K S kvs kws → RKv K S (mergeK kvs more) (mergeW kws mw)
  | _, _, _, _, .nil, h => h
  | (k1, v) :: vs, (k2, w) :: ws, kvs, kws, .cons r t, h => by
    obtain ⟨e, r⟩ := r
    have e : k1 = k2 := e
    subst e
    show RKv K S (mergeK (putK kvs k1 v) vs) (mergeW (putW kws k1 w) ws)
    exact rkv_merge t (rkv_put r h)
theorem keyPs_ok {K : PySem.W.Frag} {S : Sta} : ∀ {qs : List (V × V)} {ps : List (Wv × Wv)} {kws : List (Key × Wv)}, RPs K S qs ps → keyPs ps = some kws → ∃ kvs : List (Key × V), qs = kvs.map (fun kv => (kV kv.1, kv.2)) ∧ RKv K S kvs kws
  | _, _, kws, .nil, h => by
    simp [keyPs] at h
    subst h
    exact ⟨[], rfl, .nil⟩
  | (v, u) :: qs, (.d d, w) :: ps, kws, .cons r t, h => by
    unfold keyPs at h
    split at h
    · rename_i k kws' h1 h2
      cases h
      obtain ⟨kvs, e, rk⟩ := keyPs_ok t h2
      have ev : v = kV k := keyD_rp h1 r.1
      exact ⟨(k, u) :: kvs, by rw [e, ev]; rfl, .cons ⟨rfl, r.2⟩ rk⟩
    · cases h
  | _, (.l n, w) :: ps, kws, .cons r t, h => by simp [keyPs] at h
  | _, (.s n, w) :: ps, kws, .cons r t, h => by simp [keyPs] at h
def fDisp (f : FPs) : FE := fun env μ => (f env (μ ++ [.dk []])).bind fun ps μ1 => match keyPs ps, μ1[μ.length]? with
  | some kws, some (.dk []) => if kws.length ≤ 15 then .ok (.l μ.length) (μ1.set μ.length (.dk (mergeW [] kws))) else .no
  | _, _ => .no
theorem c_disp {pos : Pos} {keys : List (Option Expr)} {values : List Expr} {f : FPs} (h : CPs X W pos keys values f) (hall : keys.all (·.isSome) = true) (hl : keys.length = values.length) (h0 : keys ≠ []) (h15 : keys.length ≤ 15) : CEx X W (.Dict keys values pos) (fDisp f) := by
  obtain ⟨trs, p, q⟩ := h
  refine ⟨_, pe_disp p hall hl h0 h15, fun env σ S μ hE hS Q hp a ha => ?_⟩
  unfold fDisp at hp
  rw [Rs.post_bind] at hp
  have ex := Ext.push (S := S) (o := .dK []) ha
  have hS1 : HS X.K ⟨upd S.H a (.dK []), S.F, S.L ++ [a]⟩ (μ ++ [.dk []]) := hS.push ha ⟨[], upd_same, .nil⟩
  have hat : (⟨upd S.H a (.dK []), S.F, S.L ++ [a]⟩ : Sta).L[μ.length]? = some a := at_push hS.len
  refine q env σ _ _ (hE.mono ex) hS1 _ (hp.mono (fun ps μ1 h1 qs S2 e2 hS2 r2 => ?_) fun _ _ z => z.mono ex)
  split at h1
  · rename_i kws hk hm
    split at h1
    · rename_i hlen
      obtain ⟨kvs, rfl, rk⟩ := keyPs_ok r2 hk
      have hL := e2.pf _ _ hat
      obtain ⟨vs, g1, g2⟩ := hS2.ob _ a _ hL hm
      cases g2
      have ex3 := Ext.put (o := .dK (mergeK [] kvs)) hL g1
      refine ⟨g1, kvs, rfl, by rw [rkv_len rk]; exact hlen, ?_⟩
      exact h1 (.ref a) _ (ex.trans (e2.trans ex3)) (hS2.put hL hm (by intro z; cases z) ⟨_, upd_same, (rkv_merge rk .nil).mono ex3⟩) ⟨a, hL, rfl⟩
    · exact h1.elim
  · exact h1.elim
end
end Ped

/-! PedLk: dicts of the store that are walked -/
namespace Ped
open PySem PySem.Spec PyProof.Rows L2
section
variable {X : Cx} {W : WX}
theorem upd_twice {H : Hp} {a : Addr} {o u : HO} : upd (upd H a o) a u = upd H a u := by
  funext b
  by_cases h : b = a
  · subst h; rw [upd_same, upd_same]
  · rw [upd_ne h, upd_ne h, upd_ne h]
/-- a dict of the store is locked -/
theorem lock_ok {K : PySem.W.Frag} {S : Sta} {μ : Sto} (hS : HS K S μ) {n : Nat} {a : Addr} {kvs : List (Key × Wv)} {vs : List (Key × V)} (hL : S.L[n]? = some a) (hm : μ[n]? = some (.dk kvs)) (h1 : S.H a = some (.dK vs)) (h2 : RKv K S vs kvs) (od : Obj) :
    Ext S ⟨upd S.H a (.frz od (.dK vs)), S.F, S.L⟩ ∧ HS K ⟨upd S.H a (.frz od (.dK vs)), S.F, S.L⟩ (μ.set n (.lk kvs)) := by
  have ex := Ext.put (o := .frz od (.dK vs)) hL h1
  exact ⟨ex, hS.put hL hm (by intro z; cases z) ⟨od, vs, upd_same, h2.mono ex⟩⟩
/-- .. and free again -/
theorem unlock_ok {K : PySem.W.Frag} {S S' : Sta} {μ2 : Sto} {n : Nat} {a : Addr} {od : Obj} {kvs' : List (Key × Wv)} {vs : List (Key × V)} (hL : S.L[n]? = some a) (h1 : S.H a = some (.dK vs))
    (e : Ext ⟨upd S.H a (.frz od (.dK vs)), S.F, S.L⟩ S') (hS' : HS K S' μ2) (hm : μ2[n]? = some (.lk kvs')) :
    S'.H a = some (.frz od (.dK vs)) ∧ Ext S ⟨upd S'.H a (.dK vs), S'.F, S'.L⟩ ∧ HS K ⟨upd S'.H a (.dK vs), S'.F, S'.L⟩ (μ2.set n (.dk kvs')) ∧ Grow S' ⟨upd S'.H a (.dK vs), S'.F, S'.L⟩ := by
  have hf := e.fz a od (.dK vs) upd_same
  have hL' := e.pf n a hL
  obtain ⟨od', vs', q1, q2⟩ := hS'.ob n a _ hL' hm
  rw [hf] at q1
  cases q1
  have gr : Grow S' ⟨upd S'.H a (.dK vs), S'.F, S'.L⟩ := ⟨fun _ _ z => z, fun _ _ z => z⟩
  refine ⟨hf, ⟨e.sb, e.pf, fun b u z hb => ?_, fun b u z => ?_, fun b z => ?_, fun b z => ?_, fun b o u z => ?_⟩, hS'.put hL' hm (by intro z; cases z) ⟨vs, upd_same, q2.gr gr⟩, gr⟩
  · have hba : b ≠ a := fun q => hb (by rw [q]; exact List.mem_of_getElem? hL)
    exact (upd_ne hba).trans (e.fr b u ((upd_ne hba).trans z) hb)
  · by_cases hba : b = a
    · subst hba; exact ⟨_, upd_same⟩
    · obtain ⟨o', q⟩ := e.th b u ((upd_ne hba).trans z)
      exact ⟨o', (upd_ne hba).trans q⟩
  · rcases e.nl b z with q | q
    · exact .inl q
    · by_cases hba : b = a
      · subst hba
        exact .inl (List.mem_of_getElem? hL)
      · exact .inr ((upd_ne hba).symm.trans q)
  · rcases e.nf b z with q | q | q
    · exact .inl q
    · by_cases hba : b = a
      · subst hba
        exact .inr (.inr (List.mem_of_getElem? hL))
      · exact .inr (.inl ((upd_ne hba).symm.trans q))
    · exact .inr (.inr q)
  · have hba : b ≠ a := fun q => by rw [q, h1] at z; cases z
    exact (upd_ne hba).trans (e.fz b o u ((upd_ne hba).trans z))
theorem RW.gr' {K : PySem.W.Frag} {S S' : Sta} (e : Grow S S') {v : V} {w : Wv} (h : RW K S v w) : RW K S' v w := h.gr e
theorem EnvR.gr {K : PySem.W.Frag} {n : Nat} {S S' : Sta} (e : Grow S S') {env : Env} {σ : L2.St} (h : EnvR K n S env σ) : EnvR K n S' env σ := ⟨h.len, h.lenS, fun i w hw => by
  obtain ⟨v, h1, h2⟩ := h.val i w hw
  exact ⟨v, h1, h2.gr e⟩⟩
def unlk {α : Type} (n : Nat) (a : α) (μ2 : Sto) : Rs α := match μ2[n]? with
  | some (.lk kvs) => .ok a (μ2.set n (.dk kvs))
  | _ => .no
/-- the statement runs while the dict at the i-th name is locked -/
def lockS (i : Nat) (f : FS) : FS := fun env μ => match env[i]? with
  | some (some (.l n)) => (match μ[n]? with
    | some (.dk kvs) => (noex (f env (μ.set n (.lk kvs)))).bind (unlk n)
    | _ => .no)
  | _ => .no
def lockE (i : Nat) (f : FE) : FE := fun env μ => match env[i]? with
  | some (some (.l n)) => (match μ[n]? with
    | some (.dk kvs) => (noex (f env (μ.set n (.lk kvs)))).bind (unlk n)
    | _ => .no)
  | _ => .no
theorem unlk_post {α : Type} {n : Nat} {a : α} {μ2 : Sto} {P : α → Sto → Prop} {E : Exn → Sto → Prop} (h : (unlk n a μ2).Post P E) : ∃ kvs, μ2[n]? = some (.lk kvs) ∧ P a (μ2.set n (.dk kvs)) := by
  unfold unlk at h
  split at h
  · exact ⟨_, by assumption, h⟩
  · exact h.elim
theorem cs_lock (i : Nat) {st : Stmt} {f : FS} (h : CS X W st f) : CS X W st (lockS i f) := by
  obtain ⟨t, p, q⟩ := h
  refine ⟨_, ps_lock p, fun env σ S μ hE hS D hp => ?_⟩
  unfold lockS at hp
  split at hp
  · rename_i n hi
    split at hp
    · rename_i kvs hm
      obtain ⟨v, _, a, hL, rfl⟩ := hE.val i _ hi
      obtain ⟨vs, h1, h2⟩ := hS.ob n a _ hL hm
      refine ⟨a, _, h1, trivial, fun od => ?_⟩
      obtain ⟨ex, hS'⟩ := lock_ok hS hL hm h1 h2 od
      rw [Rs.post_bind] at hp
      refine q env σ _ _ (hE.mono ex) hS' _ (noex_post (hp.mono (fun fl μ2 z => ?_) fun _ _ z => z))
      obtain ⟨kvs', hm2, z⟩ := unlk_post z
      cases fl with
      | nx env2 =>
        intro σ2 S2 e2 hS2 he2
        obtain ⟨g1, g2, g3, g4⟩ := unlock_ok hL h1 e2 hS2 hm2
        exact ⟨g1, z σ2 _ g2 g3 (he2.gr g4)⟩
      | rt w =>
        intro v2 S2 e2 hS2 r2
        obtain ⟨g1, g2, g3, g4⟩ := unlock_ok hL h1 e2 hS2 hm2
        exact ⟨g1, z v2 _ g2 g3 (r2.gr g4)⟩
      | bk env2 =>
        intro σ2 S2 e2 hS2 he2
        obtain ⟨g1, g2, g3, g4⟩ := unlock_ok hL h1 e2 hS2 hm2
        exact ⟨g1, z σ2 _ g2 g3 (he2.gr g4)⟩
      | ct env2 =>
        intro σ2 S2 e2 hS2 he2
        obtain ⟨g1, g2, g3, g4⟩ := unlock_ok hL h1 e2 hS2 hm2
        exact ⟨g1, z σ2 _ g2 g3 (he2.gr g4)⟩
    · exact hp.elim
  · exact hp.elim
theorem c_lock (i : Nat) {e : Expr} {f : FE} (h : CEx X W e f) : CEx X W e (lockE i f) := by
  obtain ⟨t, p, q⟩ := h
  refine ⟨_, pe_lock p, fun env σ S μ hE hS Q hp => ?_⟩
  unfold lockE at hp
  split at hp
  · rename_i n hi
    split at hp
    · rename_i kvs hm
      obtain ⟨v, _, a, hL, rfl⟩ := hE.val i _ hi
      obtain ⟨vs, h1, h2⟩ := hS.ob n a _ hL hm
      refine ⟨a, _, h1, trivial, fun od => ?_⟩
      obtain ⟨ex, hS'⟩ := lock_ok hS hL hm h1 h2 od
      rw [Rs.post_bind] at hp
      refine q env σ _ _ (hE.mono ex) hS' _ (noex_post (hp.mono (fun w μ2 z => ?_) fun _ _ z => z))
      obtain ⟨kvs', hm2, z⟩ := unlk_post z
      intro v2 S2 e2 hS2 r2
      obtain ⟨g1, g2, g3, g4⟩ := unlock_ok hL h1 e2 hS2 hm2
      exact ⟨g1, z v2 _ g2 g3 (r2.gr g4)⟩
    · exact hp.elim
  · exact hp.elim
/-- a key as data -/
def keyDat : Key → PyData
  | .inl i => .int i
  | .inr s => .str s
theorem rp_key {K : PySem.W.Frag} {F : Hp} (k : Key) : Rp K F (kV k) (keyDat k) := by
  cases k with
  | inl i => exact .int i
  | inr s => exact .str s
/-- the keys of a locked dict -/
def itK (f : FE) : FIt := fun env μ => (f env μ).bind fun w μ1 => match w with
  | .l n => (match μ1[n]? with
    | some (.lk kvs) => .ok (kvs.map fun p => keyDat p.1) μ1
    | _ => .no)
  | _ => .no
theorem rkv_get {K : PySem.W.Frag} {S : Sta} : ∀ {vs : List (Key × V)} {ws : List (Key × Wv)} {i : Nat} {p : Key × Wv}, RKv K S vs ws → ws[i]? = some p → ∃ v, vs[i]? = some (p.1, v)
  | _, _, _, _, .nil, e => by simp at e
  | (k, v) :: _, _ :: _, 0, _, .cons r _, e => by simp at e; subst e; exact ⟨v, by simp; exact r.1⟩
  | _, _, i + 1, p, .cons _ t, e => by
    obtain ⟨v, h⟩ := rkv_get (i := i) t (by simpa using e)
    exact ⟨v, by simpa using h⟩
theorem ci_keys {tg l : Expr} {f : FE} (h : CEx X W l f) : CI X W tg l (itK f) := by
  obtain ⟨t, p, q⟩ := h
  refine ⟨_, pi_keys p, fun env σ S μ he hS R h => ?_⟩
  unfold itK at h
  rw [Rs.post_bind] at h
  refine q env σ S μ he hS _ (h.mono (fun w μ1 h1 v S1 e1 hS1 r1 => ?_) fun _ _ z => z)
  split at h1
  · rename_i n
    split at h1
    · rename_i kvs hm
      obtain ⟨a, hL, rfl⟩ := r1
      obtain ⟨od, vs, g1, g2⟩ := hS1.ob n a _ hL hm
      refine ⟨a, od, rfl, .inl ⟨vs, g1, h1 _ S1 e1 hS1 fun S2 e2 μ2 hS2 => ?_⟩⟩
      have hf := e2.fz a od _ g1
      refine ⟨fun j item hj => ?_, ⟨hf, by rw [List.length_map, rkv_len g2]; exact Nat.le_refl _⟩⟩
      rw [List.getElem?_map] at hj
      cases hk : kvs[j]? with
      | none => rw [hk] at hj; cases hj
      | some p =>
        rw [hk] at hj
        cases hj
        obtain ⟨v, hv⟩ := rkv_get g2 hk
        have hlt : j < vs.length := (List.getElem?_eq_some_iff.mp hv).1
        refine ⟨⟨hf, hlt⟩, fun y H' hy => ?_⟩
        obtain ⟨rfl, k, u, hk', rfl⟩ := hy
        rw [hv] at hk'
        cases hk'
        exact ⟨S2, rfl, Ext.refl S2, hS2, rp_key _⟩
    · exact h1.elim
  · exact h1.elim
end
end Ped

/-! PedSo: sorted(xs), min(xs), max(xs) of data that can be compared -/
namespace Ped
open PySem PySem.Spec PyProof.Rows L2
theorem each_vals : ∀ {ys : List V} {its : List Value} {ds : List PyData}, Vals ys its → ds.length = ys.length → PySem.W.EachIs (fun v (b : V × PyData) => RelV b.1 v) its (ys.zip ds)
  | _, _, ds, .nil, h => by
    cases ds with
    | nil => exact .nil
    | cons => simp at h
  | _ :: _, _ :: _, ds, .cons r t, h => by
    cases ds with
    | nil => simp at h
    | cons d ds => exact .cons r (each_vals t (by simpa using h))
theorem vals_each : ∀ {out : List Value} {bs : List (V × PyData)}, PySem.W.EachIs (fun v (b : V × PyData) => RelV b.1 v) out bs → Vals (bs.map (·.1)) out
  | _, _, .nil => .nil
  | _, _, .cons r t => .cons r (vals_each t)
theorem zip_snd : ∀ {ys : List V} {ds : List PyData}, ds.length = ys.length → (ys.zip ds).map Prod.snd = ds
  | [], [], _ => rfl
  | _ :: _, _ :: _, h => by
    simp at h
    simp [zip_snd h]
theorem zip_fst : ∀ {ys : List V} {ds : List PyData}, ds.length = ys.length → (ys.zip ds).map Prod.fst = ys
  | [], [], _ => rfl
  | _ :: _, _ :: _, h => by
    simp at h
    simp [zip_fst h]
section
variable {X : Cx}
def rSortedG (K : PySem.W.Frag) : List V → Hp → VK → Prop := fun vs H Q => ∃ (a : Addr) (ys : List V) (ds : List PyData), vs = [V.ref a] ∧ SqL K H a ys ∧ DpAll K H ys ds ∧ ds.length = ys.length ∧ PySem.W.AllAlike ds ∧ PySem.W.Sortable ds ∧ (∀ d ∈ ds, d.depth ≤ 60) ∧
  ∀ p, H p = none → Q (.ref p) (upd H p (.lst (((ys.zip ds).mergeSort (PySem.W.dataLe false Prod.snd)).map (·.1))))
theorem cr_sortedG (hu : X.A.units + 65 < cLine) : CallR X (.builtin "sorted") (rSortedG X.K) := by
  intro pins s σ H vs us Q I r h
  obtain ⟨a, ys, ds, rfl, hs, hd, hl2, ha, hk, hdp, q⟩ := h
  obtain ⟨its, rv, hl, hz⟩ := I.list hs
  rw [Vals.ref1 r]
  obtain ⟨as, h4⟩ := Dp.readsAll I ds ys its hd rv
  have hz' : (ys.zip ds).length ≤ sizeLine := by rw [List.length_zip, hl2, Nat.min_self]; exact hz
  have e2 : (ys.zip ds).map Prod.snd = ds := zip_snd hl2
  refine PySem.W.sorted_data (R := fun v (b : V × PyData) => RelV b.1 v) (enc := Prod.snd) (bs := ys.zip ds) hl.isList (each_vals rv hl2) (PySem.W.readsAll_each Prod.snd (by rw [e2]; exact h4)) (by rw [e2]; exact ha) (by rw [e2]; exact hk) hz' (fun b hb => ?_) fun out ho he => ?_
  · have : b.2 ∈ ds := by rw [← e2]; exact List.mem_map_of_mem hb
    have := hdp _ this
    omega
  · obtain ⟨ep, he'⟩ := PyProof.Rows.sortedAll_at s.heap its out.toArray
    refine ⟨.ref _, upd H (s.heap.objs.size + 1) (.lst (((ys.zip ds).mergeSort (PySem.W.dataLe false Prod.snd)).map (·.1))), I.laid (t' := s.toks) (fun _ _ => PyProof.Rows.sortedAll_old) (Nat.le_succ _) ⟨?_, out, ep, vals_each he, he'⟩, rfl, q _ (I.hok.fresh (Nat.le_succ _))⟩
    rw [List.length_map, List.length_mergeSort]
    exact hz'
def rBestG (K : PySem.W.Frag) (best : PyData → List PyData → PyData) : List V → Hp → VK → Prop := fun vs H Q => ∃ (a : Addr) (ys : List V) (x : PyData) (xs : List PyData), vs = [V.ref a] ∧ SqL K H a ys ∧ DpAll K H ys (x :: xs) ∧ PySem.W.AlikeAll (x :: xs) ∧ SeqAt.shaped (.list (x :: xs)) = true ∧ SeqAt.shaped (best x xs) = true ∧ PyData.depthAll (x :: xs) ≤ 60 ∧
  ∀ (i : Nat) (y : V), ys[i]? = some y → (x :: xs)[i]? = some (best x xs) → Q y H
theorem cr_minG (hc : X.calm = true) (hu : X.A.units + 65 < cLine) : CallR X (.builtin "min") (rBestG X.K PySem.W.minD) := by
  intro pins s σ H vs us Q I r h
  obtain ⟨a, ys, x, xs, rfl, hs, hd, ha, sh, sb, hdp, q⟩ := h
  obtain ⟨its, rv, hl, hz⟩ := I.list hs
  rw [Vals.ref1 r]
  obtain ⟨as, h4⟩ := Dp.readsAll I (x :: xs) ys its hd rv
  refine PySem.W.min_list_data (I.ok.hd hc) hl.isList (show ReadsAll s.heap its.toArray.toList (x :: xs) as from h4) ha (by omega) fun i v h' tk bs hv hr hk => ?_
  have hv : its[i]? = some v := by simpa using hv
  have hi : i < its.length := (List.getElem?_eq_some_iff.mp hv).1
  have hiy : i < ys.length := by rw [rv.length]; exact hi
  obtain ⟨u, hu1, hu2⟩ := rv.get (List.getElem?_eq_getElem hiy)
  rw [hv] at hu1
  cases hu1
  have hmap : its.map (SeqAt.readOf s.heap) = x :: xs := SeqAt.readsAll_map (x :: xs) its as (SeqAt.canLay_of_shaped sh) h4
  obtain ⟨bs2, hr2⟩ : ∃ bs2, Reads s.heap v ((x :: xs).getD i .none) bs2 := by
    obtain ⟨bs2, z, _⟩ := PySem.W.readsAll_at h4 i v hv
    exact ⟨bs2, z⟩
  have hlen : its.length = (x :: xs).length := by rw [← hmap, List.length_map]
  have hix : i < (x :: xs).length := by rw [← hlen]; exact hi
  have e1 : (x :: xs)[i]? = some (SeqAt.readOf s.heap v) := by rw [← hmap, List.getElem?_map, hv]; rfl
  have e2 : (x :: xs).getD i .none = SeqAt.readOf s.heap v := by rw [List.getD_eq_getElem?_getD, e1]; rfl
  have c2 : (SeqAt.readOf s.heap v).canLay0 = true := by
    have hm : SeqAt.readOf s.heap v ∈ x :: xs := List.mem_of_getElem? e1
    have hall : PyData.canLayAll0 (x :: xs) = true := SeqAt.canLay_of_shaped sh
    generalize SeqAt.readOf s.heap v = d at hm ⊢
    generalize x :: xs = l at hm hall
    induction l with
    | nil => cases hm
    | cons y r ih =>
      simp only [PyData.canLayAll0, Bool.and_eq_true] at hall
      rcases List.mem_cons.mp hm with rfl | hm
      · exact hall.1
      · exact ih hm hall.2
  have e3 : SeqAt.readOf h' v = SeqAt.readOf s.heap v := SeqAt.readOf_eq c2 (by rw [← e2]; exact PyProof.Rows.Reads.keeps hk hr2)
  have e4 : SeqAt.readOf h' v = PySem.W.minD x xs := SeqAt.readOf_eq (SeqAt.canLay_of_shaped sb) hr
  exact ⟨ys[i], H, I.kept hk, hu2, q i _ (List.getElem?_eq_getElem hiy) (by rw [e1, ← e3, e4])⟩
theorem cr_maxG (hc : X.calm = true) (hu : X.A.units + 65 < cLine) : CallR X (.builtin "max") (rBestG X.K PySem.W.maxD) := by
  intro pins s σ H vs us Q I r h
  obtain ⟨a, ys, x, xs, rfl, hs, hd, ha, sh, sb, hdp, q⟩ := h
  obtain ⟨its, rv, hl, hz⟩ := I.list hs
  rw [Vals.ref1 r]
  obtain ⟨as, h4⟩ := Dp.readsAll I (x :: xs) ys its hd rv
  refine PySem.W.max_list_data (I.ok.hd hc) hl.isList (show ReadsAll s.heap its.toArray.toList (x :: xs) as from h4) ha (by omega) fun i v h' tk bs hv hr hk => ?_
  have hv : its[i]? = some v := by simpa using hv
  have hi : i < its.length := (List.getElem?_eq_some_iff.mp hv).1
  have hiy : i < ys.length := by rw [rv.length]; exact hi
  obtain ⟨u, hu1, hu2⟩ := rv.get (List.getElem?_eq_getElem hiy)
  rw [hv] at hu1
  cases hu1
  have hmap : its.map (SeqAt.readOf s.heap) = x :: xs := SeqAt.readsAll_map (x :: xs) its as (SeqAt.canLay_of_shaped sh) h4
  obtain ⟨bs2, hr2⟩ : ∃ bs2, Reads s.heap v ((x :: xs).getD i .none) bs2 := by
    obtain ⟨bs2, z, _⟩ := PySem.W.readsAll_at h4 i v hv
    exact ⟨bs2, z⟩
  have hlen : its.length = (x :: xs).length := by rw [← hmap, List.length_map]
  have hix : i < (x :: xs).length := by rw [← hlen]; exact hi
  have e1 : (x :: xs)[i]? = some (SeqAt.readOf s.heap v) := by rw [← hmap, List.getElem?_map, hv]; rfl
  have e2 : (x :: xs).getD i .none = SeqAt.readOf s.heap v := by rw [List.getD_eq_getElem?_getD, e1]; rfl
  have c2 : (SeqAt.readOf s.heap v).canLay0 = true := by
    have hm : SeqAt.readOf s.heap v ∈ x :: xs := List.mem_of_getElem? e1
    have hall : PyData.canLayAll0 (x :: xs) = true := SeqAt.canLay_of_shaped sh
    generalize SeqAt.readOf s.heap v = d at hm ⊢
    generalize x :: xs = l at hm hall
    induction l with
    | nil => cases hm
    | cons y r ih =>
      simp only [PyData.canLayAll0, Bool.and_eq_true] at hall
      rcases List.mem_cons.mp hm with rfl | hm
      · exact hall.1
      · exact ih hm hall.2
  have e3 : SeqAt.readOf h' v = SeqAt.readOf s.heap v := SeqAt.readOf_eq c2 (by rw [← e2]; exact PyProof.Rows.Reads.keeps hk hr2)
  have e4 : SeqAt.readOf h' v = PySem.W.maxD x xs := SeqAt.readOf_eq (SeqAt.canLay_of_shaped sb) hr
  exact ⟨ys[i], H, I.kept hk, hu2, q i _ (List.getElem?_eq_getElem hiy) (by rw [e1, ← e3, e4])⟩
open Classical in
noncomputable def kBest (best : PyData → List PyData → PyData) (ws : List Wv) (μ : Sto) : Rs Wv := match ws with
  | [.d (.list (x :: xs))] => if PySem.W.AlikeAll (x :: xs) ∧ SeqAt.shaped (.list (x :: xs)) = true ∧ SeqAt.shaped (best x xs) = true ∧ PyData.depthAll (x :: xs) ≤ 60 then .ok (.d (best x xs)) μ else .no
  | _ => .no
theorem kBest_nx (best : PyData → List PyData → PyData) : NoExC (kBest best) := fun ws μ e ν q => by
  unfold kBest at q
  split at q
  · split at q <;> cases q
  · cases q
theorem ok_best (best : PyData → List PyData → PyData) : OkC X (rBestG X.K best) (kBest best) := fun ws vs S μ hS r Q hp => by
  unfold kBest at hp
  split at hp
  · rename_i x xs
    split at hp
    · rename_i hh
      obtain ⟨v, rfl, rv⟩ := rws1 r
      obtain ⟨a, ys, rfl, ha, ra⟩ := rp_lst_inv rv
      refine ⟨a, ys, x, xs, rfl, .inl (.inl (hS.sub _ _ ha)), RpA.dp hS.sub _ _ ra, hh.1, hh.2.1, hh.2.2.1, hh.2.2.2, fun i y hy hd => ?_⟩
      obtain ⟨v, h1, h2⟩ := ra.get hd
      rw [hy] at h1
      cases h1
      exact hp _ S (Ext.refl S) hS h2
    · exact hp.elim
  · exact hp.elim
open Classical in
noncomputable def kSorted (ws : List Wv) (μ : Sto) : Rs Wv := match ws with
  | [.d (.list ds)] => if PySem.W.AllAlike ds ∧ PySem.W.Sortable ds ∧ (∀ d ∈ ds, d.depth ≤ 60) then .ok (.d (.list (ds.mergeSort (PySem.W.dataLe false id)))) μ else .no
  | _ => .no
theorem kSorted_nx : NoExC kSorted := fun ws μ e ν q => by
  unfold kSorted at q
  split at q
  · split at q <;> cases q
  · cases q
theorem rpA_fst {K : PySem.W.Frag} {F : Hp} : ∀ {bs : List (V × PyData)}, (∀ b ∈ bs, Rp K F b.1 b.2) → RpA K F (bs.map (·.1)) (bs.map (·.2))
  | [], _ => .nil
  | b :: r, h => .cons (h b List.mem_cons_self) (rpA_fst fun c hc => h c (List.mem_cons_of_mem _ hc))
theorem rpA_zip {K : PySem.W.Frag} {F : Hp} : ∀ {ys : List V} {ds : List PyData}, RpA K F ys ds → ∀ b ∈ ys.zip ds, Rp K F b.1 b.2
  | _, _, .nil, b, h => by simp at h
  | _, _, .cons r t, b, h => by
    rw [List.zip_cons_cons] at h
    rcases List.mem_cons.mp h with rfl | h
    · exact r
    · exact rpA_zip t b h
theorem ok_sortedG : OkC X (rSortedG X.K) kSorted := fun ws vs S μ hS r Q hp => by
  unfold kSorted at hp
  split at hp
  · rename_i ds
    split at hp
    · rename_i hh
      obtain ⟨v, rfl, rv⟩ := rws1 r
      obtain ⟨a, ys, rfl, ha, ra⟩ := rp_lst_inv rv
      refine ⟨a, ys, ds, rfl, .inl (.inl (hS.sub _ _ ha)), RpA.dp hS.sub _ _ ra, ra.len.symm, hh.1, hh.2.1, hh.2.2, fun p hpn => ?_⟩
      have e : ((ys.zip ds).mergeSort (PySem.W.dataLe false Prod.snd)).map (·.2) = ds.mergeSort (PySem.W.dataLe false id) := by
        have q := List.map_mergeSort (r := PySem.W.dataLe false Prod.snd) (s := PySem.W.dataLe false id) (f := Prod.snd) (l := ys.zip ds) (fun a _ b _ => rfl)
        rw [zip_snd ra.len.symm] at q
        exact q
      refine new_lst hS (ds := ds.mergeSort (PySem.W.dataLe false id)) ?_ hp p hpn
      rw [← e]
      refine rpA_fst fun b hb => ?_
      exact rpA_zip ra b ((List.mergeSort_perm _ _).mem_iff.mp hb)
    · exact hp.elim
  · exact hp.elim
end
end Ped

/-! PedDe: len of a dict of the store -/
namespace Ped
open PySem PySem.Spec PyProof.Rows L2
section
variable {X : Cx} {W : WX}
def kLenD (ws : List Wv) (μ : Sto) : Rs Wv := match ws with
  | [.l n] => (match μ[n]? with
    | some (.dk kvs) => .ok (.d (.int kvs.length)) μ
    | _ => .no)
  | _ => .no
theorem kLenD_nx : NoExC kLenD := fun ws μ e ν q => by
  unfold kLenD at q
  split at q
  · split at q <;> cases q
  · cases q
theorem ok_lenD : OkC X (fun xs H Q => ∃ a kvs, xs = [V.ref a] ∧ H a = some (.dK kvs) ∧ Q (.int kvs.length) H) kLenD := fun ws vs S μ hS r Q hp => by
  unfold kLenD at hp
  split at hp
  · rename_i n
    split at hp
    · rename_i kvs hm
      obtain ⟨v, rfl, a, hL, rfl⟩ := rws1 r
      obtain ⟨xs, h1, h2⟩ := hS.ob n a _ hL hm
      exact ⟨a, xs, rfl, h1, by rw [rkv_len h2]; exact hp _ S (Ext.refl S) hS (.int _)⟩
    · exact hp.elim
  · exact hp.elim
end
end Ped

/-! PedMx: the greatest of three ints -/
namespace Ped
open PySem PySem.Spec PyProof.Rows L2
section
variable {X : Cx}
def kMax3 (ws : List Wv) (μ : Sto) : Rs Wv := match ws with
  | [.d (.int i), .d (.int j), .d (.int k)] => .ok (.d (.int (if k > (if j > i then j else i) then k else (if j > i then j else i)))) μ
  | _ => .no
theorem kMax3_nx : NoExC kMax3 := fun ws μ e ν q => by
  unfold kMax3 at q
  split at q <;> cases q
theorem ok_max3 : OkC X (rNuC3 nuMax3) kMax3 := fun ws vs S μ hS r Q hp => by
  unfold kMax3 at hp
  split at hp
  · rename_i i j k
    obtain ⟨v, u, t, rfl, r1, r2, r3⟩ := rws3 r
    cases r1
    cases r2
    cases r3
    refine ⟨.int i, .int j, .int k, .int (if k > (if j > i then j else i) then k else (if j > i then j else i)), rfl, ?_, hp _ S (Ext.refl S) hS (.int _)⟩
    have e1 : nuMax2 (.int i) (.int j) = some (.int (if j > i then j else i)) := by
      unfold nuMax2
      by_cases h : j > i
      · have : nuLt (.int i) (.int j) = some true := congrArg some (decide_eq_true h)
        rw [this, if_pos h]; rfl
      · have : nuLt (.int i) (.int j) = some false := congrArg some (decide_eq_false h)
        rw [this, if_neg h]; rfl
    have e2 : ∀ m, nuMax2 (.int m) (.int k) = some (.int (if k > m then k else m)) := fun m => by
      unfold nuMax2
      by_cases h : k > m
      · have : nuLt (.int m) (.int k) = some true := congrArg some (decide_eq_true h)
        rw [this, if_pos h]; rfl
      · have : nuLt (.int m) (.int k) = some false := congrArg some (decide_eq_false h)
        rw [this, if_neg h]; rfl
    unfold nuMax3
    rw [e1]
    exact e2 _
  · exact hp.elim
end
end Ped


namespace Ped
open PySem L2 PyProof.Rows PySem.Spec
def v_PLAIN : List PyData := (["turn", "fold"] : List Str).map PyData.str
def v_WISHES : List PyData := (["even", "growing", "odd", "rising", "silent", "whole"] : List Str).map PyData.str
def v_BOUNDS : List (Str × Int × Int) := [("louder", 2, 4), ("cut", 1, 50), ("gate", 1, 50), ("lift", -20, 20), ("steps", 2, 5), ("late", 1, 5)]
noncomputable def B_is_number : FS := sRet (fAndV (fIsi "int" (fVar 0)) (fNotV (fIsi "bool" (fVar 0))))
noncomputable def g_is_number (ws : List Wv) (μ : Sto) : Rs Wv := runF 1 B_is_number ws μ
noncomputable def B_is_pedal : FS := sCons (sIf (fOr (fNot (fB (fIsi "tuple" (fVar 0)))) (fOr (fB (fOp (eqW false) (fVar 0) (fTup (fNil)))) (fNot (fB (fIsi "str" (fOp ixW (fVar 0) (fC (.int 0)))))))) (sRet (fC (.bool false))) (sNil)) (sCons (sIf (fB (f1 (inKW false v_PLAIN) (fOp ixW (fVar 0) (fC (.int 0))))) (sRet (fOp (eqW false) (fCall kLen (fCons (fVar 0) (fNil))) (fC (.int 1)))) (sNil)) (sCons (sIf (fOr (fB (f1 (inTabW true v_BOUNDS) (fOp ixW (fVar 0) (fC (.int 0))))) (fOr (fB (fOp (eqW true) (fCall kLen (fCons (fVar 0) (fNil))) (fC (.int 2)))) (fNot (fB (fCall (callD 1 g_is_number) (fCons (fOp ixW (fVar 0) (fC (.int 1))) (fNil))))))) (sRet (fC (.bool false))) (sNil)) (sCons (sTab v_BOUNDS 1 2 (fOp ixW (fVar 0) (fC (.int 0)))) (sRet (fAndV (fChain leW leW (fVar 1) (fOp ixW (fVar 0) (fC (.int 1))) (fVar 2)) (fOp (eqW true) (fOp ixW (fVar 0) (fC (.int 1))) (fC (.int 0))))))))
noncomputable def g_is_pedal (ws : List Wv) (μ : Sto) : Rs Wv := runF 3 B_is_pedal ws μ
noncomputable def B_is_row : FS := sRet (fAndV (fIsi "tuple" (fVar 0)) (fAndV (fOp (cmpW fun i j => decide (i ≤ j)) (fCall kLen (fCons (fVar 0) (fNil))) (fC (.int 6))) (fCall kAll (fCons (fComp (itS (fVar 0)) (gVar 1) (fYes) (fCall (callD 1 g_is_pedal) (fCons (fVar 1) (fNil))) [1]) (fNil)))))
noncomputable def g_is_row (ws : List Wv) (μ : Sto) : Rs Wv := runF 2 B_is_row ws μ
noncomputable def B_is_board : FS := sRet (fAndV (fIsi "tuple" (fVar 0)) (fAndV (fChain leW leW (fC (.int 1)) (fCall kLen (fCons (fVar 0) (fNil))) (fC (.int 3))) (fCall kAll (fCons (fComp (itS (fVar 0)) (gVar 1) (fYes) (fCall (callD 1 g_is_row) (fCons (fVar 1) (fNil))) [1]) (fNil)))))
noncomputable def g_is_board (ws : List Wv) (μ : Sto) : Rs Wv := runF 2 B_is_board ws μ
noncomputable def B_are_numbers : FS := sRet (fAndV (fIsi "tuple" (fVar 0)) (fCall kAll (fCons (fComp (itS (fVar 0)) (gVar 1) (fYes) (fCall (callD 1 g_is_number) (fCons (fVar 1) (fNil))) [1]) (fNil))))
noncomputable def g_are_numbers (ws : List Wv) (μ : Sto) : Rs Wv := runF 2 B_are_numbers ws μ
noncomputable def B_is_sound : FS := sRet (fAndV (fCall (callD 1 g_are_numbers) (fCons (fVar 0) (fNil))) (fOp (cmpW fun i j => decide (i ≤ j)) (fCall kLen (fCons (fVar 0) (fNil))) (fC (.int 40))))
noncomputable def g_is_sound (ws : List Wv) (μ : Sto) : Rs Wv := runF 1 B_is_sound ws μ
noncomputable def B_need_row : FS := sIf (fNot (fB (fCall (callD 1 g_is_row) (fCons (fVar 0) (fNil))))) ((fun _ _ => .no)) (sNil)
noncomputable def g_need_row (ws : List Wv) (μ : Sto) : Rs Wv := runF 1 B_need_row ws μ
noncomputable def B_need_board : FS := sIf (fNot (fB (fCall (callD 1 g_is_board) (fCons (fVar 0) (fNil))))) ((fun _ _ => .no)) (sNil)
noncomputable def g_need_board (ws : List Wv) (μ : Sto) : Rs Wv := runF 1 B_need_board ws μ
noncomputable def B_need_sound : FS := sIf (fNot (fB (fCall (callD 1 g_is_sound) (fCons (fVar 0) (fNil))))) ((fun _ _ => .no)) (sNil)
noncomputable def g_need_sound (ws : List Wv) (μ : Sto) : Rs Wv := runF 1 B_need_sound ws μ
noncomputable def B_need_number : FS := sIf (fNot (fB (fCall (callD 1 g_is_number) (fCons (fVar 0) (fNil))))) ((fun _ _ => .no)) (sNil)
noncomputable def g_need_number (ws : List Wv) (μ : Sto) : Rs Wv := runF 1 B_need_number ws μ
noncomputable def B_late_of : FS := sRet (fCall kSum (fCons (fComp (itS (fVar 0)) (gVar 1) (fB (fOp (eqW false) (fOp ixW (fVar 1) (fC (.int 0))) (fC (.str "late")))) (fOp ixW (fVar 1) (fC (.int 1))) [1]) (fNil)))
noncomputable def g_late_of (ws : List Wv) (μ : Sto) : Rs Wv := runF 2 B_late_of ws μ
noncomputable def B_board_late : FS := sRet (fCall kMax (fCons (fComp (itS (fVar 0)) (gVar 1) (fYes) (fCall (callD 1 g_late_of) (fCons (fVar 1) (fNil))) [1]) (fNil)))
noncomputable def g_board_late (ws : List Wv) (μ : Sto) : Rs Wv := runF 2 B_board_late ws μ
noncomputable def B_pedal_shape : FS := sCons (sAsg (fOp ixW (fVar 0) (fC (.int 0))) (gVar 2)) (sCons (sIf (fB (fOp (eqW false) (fVar 2) (fC (.str "louder")))) (sRet (fOp mulW (fVar 1) (fOp ixW (fVar 0) (fC (.int 1))))) (sNil)) (sCons (sIf (fB (fOp (eqW false) (fVar 2) (fC (.str "cut")))) (sRet (fCall kMax2 (fCons (fOp (opI fun i j => some (.int (i - j))) (fC (.int 0)) (fOp ixW (fVar 0) (fC (.int 1)))) (fCons (fCall kMin2 (fCons (fOp ixW (fVar 0) (fC (.int 1))) (fCons (fVar 1) (fNil)))) (fNil))))) (sNil)) (sCons (sIf (fB (fOp (eqW false) (fVar 2) (fC (.str "gate")))) (sRet (fIf (fOr (fB (fOp (cmpW fun i j => decide (j ≤ i)) (fVar 1) (fOp ixW (fVar 0) (fC (.int 1))))) (fB (fOp (cmpW fun i j => decide (i ≤ j)) (fVar 1) (fOp (opI fun i j => some (.int (i - j))) (fC (.int 0)) (fOp ixW (fVar 0) (fC (.int 1))))))) (fVar 1) (fC (.int 0)))) (sNil)) (sCons (sIf (fB (fOp (eqW false) (fVar 2) (fC (.str "turn")))) (sRet (fOp (opI fun i j => some (.int (i - j))) (fC (.int 0)) (fVar 1))) (sNil)) (sCons (sIf (fB (fOp (eqW false) (fVar 2) (fC (.str "fold")))) (sRet (fCall kMax2 (fCons (fVar 1) (fCons (fOp (opI fun i j => some (.int (i - j))) (fC (.int 0)) (fVar 1)) (fNil))))) (sNil)) (sCons (sIf (fB (fOp (eqW false) (fVar 2) (fC (.str "lift")))) (sRet (fOp addW (fVar 1) (fOp ixW (fVar 0) (fC (.int 1))))) (sNil)) (sCons (sIf (fB (fOp (eqW false) (fVar 2) (fC (.str "steps")))) (sRet (fIf (fB (fOp (cmpW fun i j => decide (j ≤ i)) (fVar 1) (fC (.int 0)))) (fOp (opI fun i j => some (.int (i - j))) (fVar 1) (fOp (opI modI) (fVar 1) (fOp ixW (fVar 0) (fC (.int 1))))) (fOp addW (fOp (opI modI) (fOp (opI fun i j => some (.int (i - j))) (fC (.int 0)) (fVar 1)) (fOp ixW (fVar 0) (fC (.int 1)))) (fVar 1)))) (sNil)) (sRet (fVar 1)))))))))
noncomputable def g_pedal_shape (ws : List Wv) (μ : Sto) : Rs Wv := runF 3 B_pedal_shape ws μ
noncomputable abbrev L_row_shape_1 : FS := sAsg (fCall (callD 2 g_pedal_shape) (fCons (fVar 2) (fCons (fVar 1) (fNil)))) (gVar 1)
noncomputable def B_row_shape : FS := sCons (sFor (itS (fVar 0)) (gVar 2) (L_row_shape_1)) (sRet (fVar 1))
noncomputable def g_row_shape (ws : List Wv) (μ : Sto) : Rs Wv := runF 3 B_row_shape ws μ
noncomputable def B_number_at : FS := sRet (fIf (fB (fChain leW ltW (fC (.int 0)) (fVar 1) (fCall kLen (fCons (fVar 0) (fNil))))) (fOp ixW (fVar 0) (fVar 1)) (fC (.int 0)))
noncomputable def g_number_at (ws : List Wv) (μ : Sto) : Rs Wv := runF 2 B_number_at ws μ
noncomputable def B_heard_at : FS := sRet (fCall kSum (fCons (fComp (itS (fVar 0)) (gVar 3) (fYes) (fCall (callD 2 g_row_shape) (fCons (fVar 3) (fCons (fCall (callD 2 g_number_at) (fCons (fVar 1) (fCons (fOp (opI fun i j => some (.int (i - j))) (fVar 2) (fCall (callD 1 g_late_of) (fCons (fVar 3) (fNil)))) (fNil)))) (fNil)))) [3]) (fNil)))
noncomputable def g_heard_at (ws : List Wv) (μ : Sto) : Rs Wv := runF 4 B_heard_at ws μ
noncomputable def B_all_heard : FS := sRet (fComp (itS (fRg1 (fOp addW (fCall kLen (fCons (fVar 1) (fNil))) (fCall (callD 1 g_board_late) (fCons (fVar 0) (fNil)))))) (gVar 2) (fYes) (fCall (callD 3 g_heard_at) (fCons (fVar 0) (fCons (fVar 1) (fCons (fVar 2) (fNil))))) [2])
noncomputable def g_all_heard (ws : List Wv) (μ : Sto) : Rs Wv := runF 3 B_all_heard ws μ
noncomputable def B_shaped : FS := sCons (sExpr (fCall (callD 1 g_need_row) (fCons (fVar 0) (fNil)))) (sCons (sExpr (fCall (callD 1 g_need_number) (fCons (fVar 1) (fNil)))) (sRet (fCall (callD 2 g_row_shape) (fCons (fVar 0) (fCons (fVar 1) (fNil))))))
noncomputable def g_shaped (ws : List Wv) (μ : Sto) : Rs Wv := runF 2 B_shaped ws μ
noncomputable def B_heard : FS := sCons (sExpr (fCall (callD 1 g_need_board) (fCons (fVar 0) (fNil)))) (sCons (sExpr (fCall (callD 1 g_need_sound) (fCons (fVar 1) (fNil)))) (sRet (fCall (callD 2 g_all_heard) (fCons (fVar 0) (fCons (fVar 1) (fNil))))))
noncomputable def g_heard (ws : List Wv) (μ : Sto) : Rs Wv := runF 2 B_heard ws μ
noncomputable def B_silence : FS := sCons (sExpr (fCall (callD 1 g_need_board) (fCons (fVar 0) (fNil)))) (sRet (fCall (callD 3 g_heard_at) (fCons (fVar 0) (fCons (fTup (fNil)) (fCons (fC (.int 0)) (fNil))))))
noncomputable def g_silence (ws : List Wv) (μ : Sto) : Rs Wv := runF 1 B_silence ws μ
noncomputable def B__law_bag : FS := sCons (sAsg (fIf (fB (fOp (cmpW fun i j => decide (i < j)) (fVar 1) (fCall kLen (fCons (fVar 0) (fNil))))) (fCall kAbs (fCons (fCall kInt (fCons (fOp ixW (fVar 0) (fVar 1)) (fNil))) (fNil))) (fOp addW (fOp mulW (fC (.int 53)) (fVar 1)) (fC (.int 13)))) (gVar 2)) (sRet (fLstN (fCons (fIf (fB (fOp (cmpW fun i j => decide (j ≤ i)) (fVar 2) (fOp (opI fun i j => if CPow i j then some (.int (i ^ j.toNat)) else none) (fC (.int 10)) (fC (.int 18))))) (fVar 2) (fC (.int 0))) (fCons (fOp (opI modI) (fCall kInt (fCons (fOp addW (fOp addW (fOp (opI modI) (fCall kInt (fCons (fVar 2) (fNil))) (fC (.int 2147483423))) (fOp mulW (fC (.int 70001)) (fVar 1))) (fC (.int 31))) (fNil))) (fC (.int 2147483423))) (fNil)))))
noncomputable def g__law_bag (ws : List Wv) (μ : Sto) : Rs Wv := runF 3 B__law_bag ws μ
noncomputable def B__law_take : FS := sCons (sIf (fB (fOp (cmpW fun i j => decide (j < i)) (fOp ixW (fVar 0) (fC (.int 0))) (fC (.int 0)))) (sCons (sAsg (fOp (opI modI) (fCall kInt (fCons (fOp ixW (fVar 0) (fC (.int 0))) (fNil))) (fVar 1)) (gVar 3)) (sCons (sSetIx (fOp (opI divI) (fCall kInt (fCons (fOp ixW (fVar 0) (fC (.int 0))) (fNil))) (fVar 1)) (fVar 0) (fC (.int 0))) (sRet (fVar 3)))) (sNil)) (sCons (sSetIx (fOp (opI modI) (fCall kInt (fCons (fOp addW (fOp mulW (fOp ixW (fVar 0) (fC (.int 1))) (fC (.int 41358))) (fC (.int 211))) (fNil))) (fC (.int 2147483423))) (fVar 0) (fC (.int 1))) (sCons (sAsg (fOp (opI modI) (fOp mulW (fCall kInt (fCons (fOp ixW (fVar 0) (fC (.int 1))) (fNil))) (fOp addW (fOp (opI divI) (fCall kInt (fCons (fOp ixW (fVar 0) (fC (.int 1))) (fNil))) (fC (.int 9))) (fC (.int 23)))) (fC (.int 2147483407))) (gVar 2)) (sRet (fOp (opI modI) (fCall kInt (fCons (fOp (opI divI) (fCall kInt (fCons (fVar 2) (fNil))) (fC (.int 15))) (fNil))) (fVar 1)))))
noncomputable def g__law_take (ws : List Wv) (μ : Sto) : Rs Wv := runF 4 B__law_take ws μ
noncomputable def B__law_of : FS := sRet (fOp ixW (fVar 1) (fCall (callD 2 g__law_take) (fCons (fVar 0) (fCons (fCall kLen (fCons (fVar 1) (fNil))) (fNil)))))
noncomputable def g__law_of (ws : List Wv) (μ : Sto) : Rs Wv := runF 2 B__law_of ws μ
noncomputable def B__law_pedal : FS := sCons (sAsg (fLst (fCons (fC (.str "louder")) (fCons (fC (.str "cut")) (fCons (fC (.str "cut")) (fCons (fC (.str "gate")) (fCons (fC (.str "turn")) (fCons (fC (.str "fold")) (fCons (fC (.str "lift")) (fCons (fC (.str "lift")) (fCons (fC (.str "steps")) (fNil))))))))))) (gVar 2)) (sCons (sAsg (fCall (callD 2 g__law_of) (fCons (fVar 0) (fCons (fOp addW (fVar 2) (fLst (fCons (fIf (fB (fVar 1)) (fC (.str "late")) (fC (.str "gate"))) (fNil)))) (fNil)))) (gVar 3)) (sCons (sIf (fB (fOp (inW false) (fVar 3) (fLst (fCons (fC (.str "turn")) (fCons (fC (.str "fold")) (fNil)))))) (sRet (fTup (fCons (fVar 3) (fNil)))) (sNil)) (sCons (sIf (fB (fOp (eqW false) (fVar 3) (fC (.str "louder")))) (sRet (fTup (fCons (fVar 3) (fCons (fOp addW (fC (.int 2)) (fCall (callD 2 g__law_take) (fCons (fVar 0) (fCons (fC (.int 3)) (fNil))))) (fNil))))) (sNil)) (sCons (sIf (fB (fOp (eqW false) (fVar 3) (fC (.str "lift")))) (sRet (fTup (fCons (fVar 3) (fCons (fOp mulW (fCall (callD 2 g__law_of) (fCons (fVar 0) (fCons (fLst (fCons (fNeg (fC (.int 1))) (fCons (fC (.int 1)) (fNil)))) (fNil)))) (fOp addW (fC (.int 1)) (fCall (callD 2 g__law_take) (fCons (fVar 0) (fCons (fCall (callD 2 g__law_of) (fCons (fVar 0) (fCons (fLst (fCons (fC (.int 3)) (fCons (fC (.int 20)) (fNil)))) (fNil)))) (fNil)))))) (fNil))))) (sNil)) (sCons (sIf (fB (fOp (eqW false) (fVar 3) (fC (.str "steps")))) (sRet (fTup (fCons (fVar 3) (fCons (fOp addW (fC (.int 2)) (fCall (callD 2 g__law_take) (fCons (fVar 0) (fCons (fC (.int 4)) (fNil))))) (fNil))))) (sNil)) (sRet (fTup (fCons (fVar 3) (fCons (fOp addW (fC (.int 1)) (fCall (callD 2 g__law_take) (fCons (fVar 0) (fCons (fIf (fB (fOp (eqW false) (fVar 3) (fC (.str "late")))) (fC (.int 5)) (fCall (callD 2 g__law_of) (fCons (fVar 0) (fCons (fLst (fCons (fC (.int 4)) (fCons (fC (.int 9)) (fCons (fC (.int 50)) (fNil))))) (fNil))))) (fNil))))) (fNil))))))))))
noncomputable def g__law_pedal (ws : List Wv) (μ : Sto) : Rs Wv := runF 4 B__law_pedal ws μ
noncomputable def B__law_pedals : FS := sRet (fCall kTuple (fCons (fComp (itR1 (fCall (callD 2 g__law_take) (fCons (fVar 0) (fCons (fOp addW (fVar 1) (fC (.int 1))) (fNil))))) (gVar 3) (fYes) (fCall (callD 2 g__law_pedal) (fCons (fVar 0) (fCons (fVar 2) (fNil)))) [3]) (fNil)))
noncomputable def g__law_pedals (ws : List Wv) (μ : Sto) : Rs Wv := runF 4 B__law_pedals ws μ
noncomputable def B__law_board : FS := sCons (sAsg (fCall (callD 2 g__law_of) (fCons (fVar 0) (fCons (fLst (fCons (fC (.int 1)) (fCons (fC (.int 1)) (fCons (fC (.int 2)) (fCons (fC (.int 3)) (fNil)))))) (fNil)))) (gVar 2)) (sRet (fCall kTuple (fCons (fComp (itR1 (fVar 2)) (gVar 3) (fYes) (fCall (callD 3 g__law_pedals) (fCons (fVar 0) (fCons (fVar 1) (fCons (fC (.bool true)) (fNil))))) [3]) (fNil))))
noncomputable def g__law_board (ws : List Wv) (μ : Sto) : Rs Wv := runF 4 B__law_board ws μ
noncomputable abbrev L__law_numbers_1 : FS := sCons (sAsg (fCall (callD 2 g__law_of) (fCons (fVar 0) (fCons (fLst (fCons (fC (.int 4)) (fCons (fC (.int 12)) (fCons (fC (.int 60)) (fCons (fC (.int 400)) (fCons (fOp (opI fun i j => if CPow i j then some (.int (i ^ j.toNat)) else none) (fC (.int 10)) (fC (.int 12))) (fNil))))))) (fNil)))) (gVar 4)) (sAsg (fOp addW (fVar 2) (fTup (fCons (fOp (opI fun i j => some (.int (i - j))) (fCall (callD 2 g__law_take) (fCons (fVar 0) (fCons (fOp addW (fOp mulW (fC (.int 2)) (fVar 4)) (fC (.int 1))) (fNil)))) (fVar 4)) (fNil)))) (gVar 2))
noncomputable def B__law_numbers : FS := sCons (sAsg (fTup (fNil)) (gVar 2)) (sCons (sFor (itR1 (fCall (callD 2 g__law_take) (fCons (fVar 0) (fCons (fOp addW (fVar 1) (fC (.int 1))) (fNil))))) (gVar 3) (L__law_numbers_1)) (sRet (fVar 2)))
noncomputable def g__law_numbers (ws : List Wv) (μ : Sto) : Rs Wv := runF 5 B__law_numbers ws μ
noncomputable abbrev L__law_shape_1 : FS := sCons (sPar 4 5 (fCons (fOp ixW (fVar 2) (fC (.int 0))) (fCons (fIf (fB (fOp (cmpW fun i j => decide (i < j)) (fVar 1) (fC (.int 0)))) (fNeg (fC (.int 1))) (fC (.int 1))) (fNil)))) (sCons (sAsg (fOp mulW (fVar 5) (fVar 1)) (gVar 3)) (sIf (fB (fOp (eqW false) (fVar 4) (fC (.str "louder")))) (sAsg (fOp mulW (fOp ixW (fVar 2) (fC (.int 1))) (fVar 1)) (gVar 1)) (sIf (fB (fOp (eqW false) (fVar 4) (fC (.str "lift")))) (sAsg (fOp addW (fVar 1) (fOp ixW (fVar 2) (fC (.int 1)))) (gVar 1)) (sIf (fB (fOp (eqW false) (fVar 4) (fC (.str "turn")))) (sAsg (fNeg (fVar 1)) (gVar 1)) (sIf (fB (fOp (eqW false) (fVar 4) (fC (.str "fold")))) (sAsg (fVar 3) (gVar 1)) (sIf (fAnd (fB (fOp (eqW false) (fVar 4) (fC (.str "cut")))) (fB (fOp (cmpW fun i j => decide (j < i)) (fVar 3) (fOp ixW (fVar 2) (fC (.int 1)))))) (sAsg (fOp mulW (fVar 5) (fOp ixW (fVar 2) (fC (.int 1)))) (gVar 1)) (sIf (fAnd (fB (fOp (eqW false) (fVar 4) (fC (.str "gate")))) (fB (fOp (cmpW fun i j => decide (i < j)) (fVar 3) (fOp ixW (fVar 2) (fC (.int 1)))))) (sAsg (fC (.int 0)) (gVar 1)) (sIf (fB (fOp (eqW false) (fVar 4) (fC (.str "steps")))) (sAsg (fOp mulW (fOp mulW (fVar 5) (fOp (opI divI) (fVar 3) (fOp ixW (fVar 2) (fC (.int 1))))) (fOp ixW (fVar 2) (fC (.int 1)))) (gVar 1)) (sNil)))))))))
noncomputable def B__law_shape : FS := sCons (sFor (itS (fVar 0)) (gVar 2) (L__law_shape_1)) (sRet (fVar 1))
noncomputable def g__law_shape (ws : List Wv) (μ : Sto) : Rs Wv := runF 6 B__law_shape ws μ
noncomputable def B__law_lateness : FS := sRet (fCall kSum (fCons (fComp (itS (fVar 0)) (gVar 1) (fB (fOp (eqW false) (fOp ixW (fVar 1) (fC (.int 0))) (fC (.str "late")))) (fOp ixW (fVar 1) (fC (.int 1))) [1]) (fNil)))
noncomputable def g__law_lateness (ws : List Wv) (μ : Sto) : Rs Wv := runF 2 B__law_lateness ws μ
noncomputable abbrev L__law_heard_1 : FS := sCons (sAsg (fChain leW ltW (fVar 7) (fVar 5) (fOp addW (fVar 7) (fCall kLen (fCons (fVar 1) (fNil))))) (gVar 8)) (sSetIx (fOp addW (fOp ixW (fVar 3) (fVar 5)) (fIf (fB (fVar 8)) (fCall (callD 2 g__law_shape) (fCons (fVar 4) (fCons (fOp ixW (fVar 1) (fOp (opI fun i j => some (.int (i - j))) (fVar 5) (fVar 7))) (fNil)))) (fVar 6))) (fVar 3) (fVar 5))
noncomputable abbrev L__law_heard_2 : FS := sCons (sPar 6 7 (fCons (fCall (callD 2 g__law_shape) (fCons (fVar 4) (fCons (fC (.int 0)) (fNil)))) (fCons (fCall (callD 1 g__law_lateness) (fCons (fVar 4) (fNil))) (fNil)))) (sFor (itR1 (fVar 2)) (gVar 5) (L__law_heard_1))
noncomputable def B__law_heard : FS := sCons (sAsg (fOp addW (fCall kLen (fCons (fVar 1) (fNil))) (fCall kMax (fCons (fComp (itS (fVar 0)) (gVar 4) (fYes) (fCall (callD 1 g__law_lateness) (fCons (fVar 4) (fNil))) [4]) (fNil)))) (gVar 2)) (sCons (sAsg (fOp mulN (fLst (fCons (fC (.int 0)) (fNil))) (fVar 2)) (gVar 3)) (sCons (sFor (itS (fVar 0)) (gVar 4) (L__law_heard_2)) (frz 3 (sRet (fVar 3)))))
noncomputable def g__law_heard (ws : List Wv) (μ : Sto) : Rs Wv := runF 9 B__law_heard ws μ
noncomputable abbrev L_law_2_1 : FS := sIf (fB (fOp (eqW true) (fCall (callD 2 g_shaped) (fCons (fVar 4) (fCons (fVar 6) (fNil)))) (fCall (callD 2 g__law_shape) (fCons (fVar 4) (fCons (fVar 6) (fNil)))))) (sRet (fC (.bool false))) (sNil)
noncomputable abbrev L_law_2_2 : FS := sFor (itS (fOp addW (fCall (callD 2 g__law_numbers) (fCons (fVar 2) (fCons (fC (.int 20)) (fNil)))) (fTup (fCons (fC (.int 0)) (fCons (fC (.int 1)) (fCons (fNeg (fC (.int 1))) (fNil))))))) (gVar 6) (L_law_2_1)
noncomputable abbrev L_law_2_3 : FS := sIf (fB (fOp (eqW true) (fCall (callD 2 g_heard) (fCons (fVar 3) (fCons (fVar 5) (fNil)))) (fCall (callD 2 g__law_heard) (fCons (fVar 3) (fCons (fVar 5) (fNil)))))) (sRet (fC (.bool false))) (sNil)
noncomputable abbrev L_law_2_4 : FS := sCons (sAsg (fCall (callD 2 g__law_bag) (fCons (fVar 0) (fCons (fVar 1) (fNil)))) (gVar 2)) (sCons (sAsg (fCall (callD 2 g__law_board) (fCons (fVar 2) (fCons (fC (.int 6)) (fNil)))) (gVar 3)) (sCons (sFor (itS (fVar 3)) (gVar 4) (L_law_2_2)) (sCons (sIf (fB (fOp (eqW true) (fCall (callD 1 g_silence) (fCons (fVar 3) (fNil))) (fCall kSum (fCons (fComp (itS (fVar 3)) (gVar 4) (fYes) (fCall (callD 2 g__law_shape) (fCons (fVar 4) (fCons (fC (.int 0)) (fNil)))) [4]) (fNil))))) (sRet (fC (.bool false))) (sNil)) (sFor (itS (fLst (fCons (fTup (fNil)) (fCons (fCall (callD 2 g__law_numbers) (fCons (fVar 2) (fCons (fC (.int 5)) (fNil)))) (fCons (fCall (callD 2 g__law_numbers) (fCons (fVar 2) (fCons (fC (.int 40)) (fNil)))) (fNil)))))) (gVar 5) (L_law_2_3)))))
noncomputable def B_law_2 : FS := sCons (sFor (itR1 (fCall kMax2 (fCons (fC (.int 4)) (fCons (fCall kMin2 (fCons (fC (.int 12)) (fCons (fOp addW (fCall kLen (fCons (fVar 0) (fNil))) (fC (.int 3))) (fNil)))) (fNil))))) (gVar 1) (L_law_2_4)) (sRet (fC (.bool true)))
noncomputable def g_law_2 (ws : List Wv) (μ : Sto) : Rs Wv := runF 7 B_law_2 ws μ
noncomputable def B_need_most : FS := sIf (fOr (fNot (fB (fCall (callD 1 g_is_number) (fCons (fVar 0) (fNil))))) (fNot (fB (fChain leW leW (fC (.int 0)) (fVar 0) (fC (.int 1000)))))) ((fun _ _ => .no)) (sNil)
noncomputable def g_need_most (ws : List Wv) (μ : Sto) : Rs Wv := runF 1 B_need_most ws μ
def w_common : Nat := 64
noncomputable abbrev L_common_1 : FS := sPar 0 1 (fCons (fVar 1) (fCons (fOp (opI modI) (fVar 0) (fVar 1)) (fNil)))
noncomputable def B_common : FS := sCons (whileF (fB (fOp (cmpW fun i j => decide (j < i)) (fVar 1) (fC (.int 0)))) (L_common_1) w_common) (sRet (fVar 0))
noncomputable def g_common (ws : List Wv) (μ : Sto) : Rs Wv := runF 2 B_common ws μ
noncomputable abbrev L_near_of_1 : FS := sCons (sAsg (fComp (itS (fVar 2)) (gVar 4) (fB (fOp (inW true) (fOp ixW (fVar 4) (fC (.int 0))) (f1 (addKW v_PLAIN) (fTup (fCons (fC (.str "late")) (fNil)))))) (fCall kMax2 (fCons (fOp ixW (fVar 4) (fC (.int 1))) (fCons (fOp (opI fun i j => some (.int (i - j))) (fC (.int 0)) (fOp ixW (fVar 4) (fC (.int 1)))) (fNil)))) [4]) (gVar 3)) (sAsg (fCall kMax2 (fCons (fVar 1) (fCons (fOp addW (fC (.int 1)) (fCall kSum (fCons (fVar 3) (fNil)))) (fNil)))) (gVar 1))
noncomputable def B_near_of : FS := sCons (sAsg (fC (.int 1)) (gVar 1)) (sCons (sFor (itS (fVar 0)) (gVar 2) (L_near_of_1)) (sRet (fVar 1)))
noncomputable def g_near_of (ws : List Wv) (μ : Sto) : Rs Wv := runF 5 B_near_of ws μ
noncomputable abbrev L_period_of_1 : FS := sIf (fB (fOp (eqW false) (fOp ixW (fVar 3) (fC (.int 0))) (fC (.str "steps")))) (sAsg (fOp (opI divI) (fOp mulW (fVar 1) (fOp ixW (fVar 3) (fC (.int 1)))) (fCall (callD 2 g_common) (fCons (fVar 1) (fCons (fOp ixW (fVar 3) (fC (.int 1))) (fNil))))) (gVar 1)) (sNil)
noncomputable abbrev L_period_of_2 : FS := sFor (itS (fVar 2)) (gVar 3) (L_period_of_1)
noncomputable def B_period_of : FS := sCons (sAsg (fC (.int 1)) (gVar 1)) (sCons (sFor (itS (fVar 0)) (gVar 2) (L_period_of_2)) (sRet (fVar 1)))
noncomputable def g_period_of (ws : List Wv) (μ : Sto) : Rs Wv := runF 4 B_period_of ws μ
noncomputable abbrev L_by_loudness_1 : FS := sAsg (fOp addW (fVar 1) (fLst (fCons (fVar 2) (fCons (fOp (opI fun i j => some (.int (i - j))) (fC (.int 0)) (fVar 2)) (fNil))))) (gVar 1)
noncomputable def B_by_loudness : FS := sCons (sAsg (fLst (fCons (fC (.int 0)) (fNil))) (gVar 1)) (sCons (sFor (itR2 (fC (.int 1)) (fOp addW (fVar 0) (fC (.int 1)))) (gVar 2) (L_by_loudness_1)) (sRet (fVar 1)))
noncomputable def g_by_loudness (ws : List Wv) (μ : Sto) : Rs Wv := runF 3 B_by_loudness ws μ
noncomputable def B_span_of : FS := sRet (fOp addW (fCall (callD 1 g_near_of) (fCons (fVar 0) (fNil))) (fOp mulW (fC (.int 2)) (fCall (callD 1 g_period_of) (fCons (fVar 0) (fNil)))))
noncomputable def g_span_of (ws : List Wv) (μ : Sto) : Rs Wv := runF 1 B_span_of ws μ
noncomputable def B_latenesses : FS := sRet (f1 ssW (fComp (itS (fVar 0)) (gVar 1) (fYes) (fCall (callD 1 g_late_of) (fCons (fVar 1) (fNil))) [1]))
noncomputable def g_latenesses (ws : List Wv) (μ : Sto) : Rs Wv := runF 2 B_latenesses ws μ
noncomputable def B_part_shape : FS := sRet (fCall kSum (fCons (fComp (itS (fVar 0)) (gVar 3) (fB (fOp (eqW false) (fCall (callD 1 g_late_of) (fCons (fVar 3) (fNil))) (fVar 1))) (fOp (opI fun i j => some (.int (i - j))) (fCall (callD 2 g_row_shape) (fCons (fVar 3) (fCons (fVar 2) (fNil)))) (fCall (callD 2 g_row_shape) (fCons (fVar 3) (fCons (fC (.int 0)) (fNil))))) [3]) (fNil)))
noncomputable def g_part_shape (ws : List Wv) (μ : Sto) : Rs Wv := runF 4 B_part_shape ws μ
noncomputable abbrev L_parting_of_1 : FS := sIf (fB (fOp (eqW true) (fCall (callD 3 g_part_shape) (fCons (fVar 0) (fCons (fVar 4) (fCons (fVar 3) (fNil))))) (fCall (callD 3 g_part_shape) (fCons (fVar 1) (fCons (fVar 4) (fCons (fVar 3) (fNil))))))) (sRet (fTup (fCons (fVar 3) (fNil)))) (sNil)
noncomputable abbrev L_parting_of_2 : FS := sFor (itS (fVar 2)) (gVar 4) (L_parting_of_1)
noncomputable def B_parting_of : FS := sCons (sIf (fB (fOp (eqW true) (fCall (callD 3 g_heard_at) (fCons (fVar 0) (fCons (fTup (fNil)) (fCons (fC (.int 0)) (fNil))))) (fCall (callD 3 g_heard_at) (fCons (fVar 1) (fCons (fTup (fNil)) (fCons (fC (.int 0)) (fNil))))))) (sRet (fTup (fNil))) (sNil)) (sCons (sAsg (f1 ssW (fOp addW (fCall (callD 1 g_latenesses) (fCons (fVar 0) (fNil))) (fCall (callD 1 g_latenesses) (fCons (fVar 1) (fNil))))) (gVar 2)) (sCons (sFor (itS (fCall (callD 1 g_by_loudness) (fCons (fCall (callD 1 g_span_of) (fCons (fOp addW (fVar 0) (fVar 1)) (fNil))) (fNil)))) (gVar 3) (L_parting_of_2)) (sRet (fC .none))))
noncomputable def g_parting_of (ws : List Wv) (μ : Sto) : Rs Wv := runF 5 B_parting_of ws μ
noncomputable def B_alike : FS := sCons (sExpr (fCall (callD 1 g_need_board) (fCons (fVar 0) (fNil)))) (sCons (sExpr (fCall (callD 1 g_need_board) (fCons (fVar 1) (fNil)))) (sRet (fOp (isNW false) (fCall (callD 2 g_parting_of) (fCons (fVar 0) (fCons (fVar 1) (fNil)))) (fC .none))))
noncomputable def g_alike (ws : List Wv) (μ : Sto) : Rs Wv := runF 2 B_alike ws μ
noncomputable def B_loudness : FS := sRet (fCall kMax2 (fCons (fVar 0) (fCons (fOp (opI fun i j => some (.int (i - j))) (fC (.int 0)) (fVar 0)) (fNil))))
noncomputable def g_loudness (ws : List Wv) (μ : Sto) : Rs Wv := runF 1 B_loudness ws μ
noncomputable abbrev L_loudest_of_1 : FS := sCons (sAsg (fComp (itS (fRg2 (fOp (opI fun i j => some (.int (i - j))) (fC (.int 0)) (fVar 1)) (fOp addW (fVar 1) (fC (.int 1))))) (gVar 6) (fYes) (fCall (callD 3 g_part_shape) (fCons (fVar 0) (fCons (fVar 4) (fCons (fVar 6) (fNil))))) [6]) (gVar 5)) (sPar 2 3 (fCons (fOp addW (fVar 2) (fCall kMin (fCons (fVar 5) (fNil)))) (fCons (fOp addW (fVar 3) (fCall kMax (fCons (fVar 5) (fNil)))) (fNil))))
noncomputable def B_loudest_of : FS := sCons (sAsg2 (fCall (callD 3 g_heard_at) (fCons (fVar 0) (fCons (fTup (fNil)) (fCons (fC (.int 0)) (fNil))))) 2 3) (sCons (sFor (itS (fCall (callD 1 g_latenesses) (fCons (fVar 0) (fNil)))) (gVar 4) (L_loudest_of_1)) (sRet (fCall kMax2 (fCons (fCall (callD 1 g_loudness) (fCons (fVar 2) (fNil))) (fCons (fCall (callD 1 g_loudness) (fCons (fVar 3) (fNil))) (fNil))))))
noncomputable def g_loudest_of (ws : List Wv) (μ : Sto) : Rs Wv := runF 7 B_loudest_of ws μ
noncomputable def B_loudest : FS := sCons (sExpr (fCall (callD 1 g_need_board) (fCons (fVar 0) (fNil)))) (sCons (sExpr (fCall (callD 1 g_need_most) (fCons (fVar 1) (fNil)))) (sRet (fCall (callD 2 g_loudest_of) (fCons (fVar 0) (fCons (fVar 1) (fNil))))))
noncomputable def g_loudest (ws : List Wv) (μ : Sto) : Rs Wv := runF 2 B_loudest ws μ
noncomputable abbrev L_exchanges_1 : FS := sCons (sAsg (fOp addW (fOp addW (fSl (fVar 0) (fO0) (fO1 (fVar 2))) (fTup (fCons (fOp ixW (fVar 0) (fOp addW (fVar 2) (fC (.int 1)))) (fCons (fOp ixW (fVar 0) (fVar 2)) (fNil))))) (fSl (fVar 0) (fO1 (fOp addW (fVar 2) (fC (.int 2)))) (fO0))) (gVar 3)) (sIf (fB (fOp (isNW false) (fCall (callD 2 g_parting_of) (fCons (fTup (fCons (fVar 0) (fNil))) (fCons (fTup (fCons (fVar 3) (fNil))) (fNil)))) (fC .none))) (sExpr (fApp (fVar 1) (fVar 2))) (sNil))
noncomputable def B_exchanges : FS := sCons (sExpr (fCall (callD 1 g_need_row) (fCons (fVar 0) (fNil)))) (sCons (sAsg (fLstN (fNil)) (gVar 1)) (sCons (sFor (itR1 (fOp (opI fun i j => some (.int (i - j))) (fCall kLen (fCons (fVar 0) (fNil))) (fC (.int 1)))) (gVar 2) (L_exchanges_1)) (frz 1 (sRet (fVar 1)))))
noncomputable def g_exchanges (ws : List Wv) (μ : Sto) : Rs Wv := runF 4 B_exchanges ws μ
noncomputable abbrev L_law_12_1 : FS := sCons (sAsg (fOp addW (fOp addW (fSl (fVar 7) (fO0) (fO1 (fVar 3))) (fTup (fCons (fVar 8) (fNil)))) (fSl (fVar 7) (fO1 (fVar 3)) (fO0))) (gVar 9)) (sCons (sIf (fNot (fB (fCall (callD 2 g_alike) (fCons (fTup (fCons (fVar 9) (fNil))) (fCons (fTup (fCons (fOp addW (fTup (fCons (fVar 8) (fNil))) (fVar 7)) (fNil))) (fNil)))))) (sRet (fC (.bool false))) (sNil)) (sIf (fOr (fAnd (fB (fOp (cmpW fun i j => decide (j < i)) (fVar 3) (fC (.int 0)))) (fB (fOp (inW true) (fOp (opI fun i j => some (.int (i - j))) (fVar 3) (fC (.int 1))) (fCall (callD 1 g_exchanges) (fCons (fVar 9) (fNil)))))) (fAnd (fB (fOp (cmpW fun i j => decide (i < j)) (fVar 3) (fCall kLen (fCons (fVar 7) (fNil))))) (fB (fOp (inW true) (fVar 3) (fCall (callD 1 g_exchanges) (fCons (fVar 9) (fNil))))))) (sRet (fC (.bool false))) (sNil)))
noncomputable abbrev L_law_12_2 : FS := sCons (sAsg (fComp (itR1 (fC (.int 4))) (gVar 16) (fYes) (fCall (callD 2 g_shaped) (fCons (fVar 7) (fCons (fOp mulW (fVar 5) (fOp addW (fVar 4) (fOp mulW (fC (.int 60)) (fVar 16)))) (fNil)))) [16]) (gVar 10)) (sIf (fB (fOp (eqW true) (f1 lsW (fComp (itR1 (fC (.int 3))) (gVar 16) (fYes) (fOp (opI fun i j => some (.int (i - j))) (fOp ixW (fVar 10) (fOp addW (fVar 16) (fC (.int 1)))) (fOp ixW (fVar 10) (fVar 16))) [16])) (fC (.int 1)))) (sRet (fC (.bool false))) (sNil))
noncomputable abbrev L_law_12_3 : FS := sCons (sAsg (fCall (callD 2 g__law_bag) (fCons (fVar 0) (fCons (fVar 1) (fNil)))) (gVar 2)) (sCons (sAsg (fTup (fCons (fCall (callD 3 g__law_pedals) (fCons (fVar 2) (fCons (fC (.int 5)) (fCons (fC (.bool false)) (fNil))))) (fCons (fTup (fCons (fC (.str "late")) (fCons (fOp addW (fC (.int 1)) (fCall (callD 2 g__law_take) (fCons (fVar 2) (fCons (fC (.int 5)) (fNil))))) (fNil)))) (fNil)))) (gTupF 2 (gsCons (gVar 7) (gsCons (gVar 8) (gsNil))))) (sCons (sFor (itR1 (fOp addW (fCall kLen (fCons (fVar 7) (fNil))) (fC (.int 1)))) (gVar 3) (L_law_12_1)) (sCons (sAsg (fOp addW (fC (.int 400)) (fCall (callD 2 g__law_take) (fCons (fVar 2) (fCons (fOp (opI fun i j => if CPow i j then some (.int (i ^ j.toNat)) else none) (fC (.int 10)) (fC (.int 6))) (fNil))))) (gVar 4)) (sCons (sFor (itS (fTup (fCons (fC (.int 1)) (fCons (fNeg (fC (.int 1))) (fNil))))) (gVar 5) (L_law_12_2)) (sCons (sAsg (fTup (fCons (fCall (callD 2 g__law_board) (fCons (fVar 2) (fCons (fC (.int 4)) (fNil)))) (fCons (fCall (callD 2 g__law_numbers) (fCons (fVar 2) (fCons (fC (.int 20)) (fNil)))) (fNil)))) (gTupF 2 (gsCons (gVar 11) (gsCons (gVar 12) (gsNil))))) (sCons (sPar 13 14 (fCons (fCall (callD 1 g_silence) (fCons (fVar 11) (fNil))) (fCons (fOp addW (fC (.int 1)) (fCall (callD 2 g__law_take) (fCons (fVar 2) (fCons (fC (.int 4)) (fNil))))) (fNil)))) (sCons (sIf (fB (fOp (eqW true) (fSl (fCall (callD 2 g_heard) (fCons (fVar 11) (fCons (fOp addW (fOp mulTW (fTup (fCons (fC (.int 0)) (fNil))) (fVar 14)) (fVar 12)) (fNil)))) (fO1 (fVar 14)) (fO0)) (fCall (callD 2 g_heard) (fCons (fVar 11) (fCons (fVar 12) (fNil)))))) (sRet (fC (.bool false))) (sNil)) (sCons (sIf (fOr (fB (fOp (eqW true) (fCall (callD 2 g_heard) (fCons (fVar 11) (fCons (fOp mulTW (fTup (fCons (fC (.int 0)) (fNil))) (fC (.int 6))) (fNil)))) (fOp mulW (fLst (fCons (fVar 13) (fNil))) (fCall kLen (fCons (fCall (callD 2 g_heard) (fCons (fVar 11) (fCons (fOp mulTW (fTup (fCons (fC (.int 0)) (fNil))) (fC (.int 6))) (fNil)))) (fNil)))))) (fB (fOp (eqW true) (fCall (callD 2 g_loudest) (fCons (fVar 11) (fCons (fC (.int 0)) (fNil)))) (fCall kAbs (fCons (fVar 13) (fNil)))))) (sRet (fC (.bool false))) (sNil)) (sCons (sIf (fNot (fB (fCall (callD 2 g_alike) (fCons (fVar 11) (fCons (f1 revW (fVar 11)) (fNil)))))) (sRet (fC (.bool false))) (sNil)) (sCons (sAsg (fComp (itS (fVar 11)) (gVar 15) (fYes) (fSl (fCall (callD 2 g_heard) (fCons (fTup (fCons (fVar 15) (fNil))) (fCons (fOp addW (fVar 12) (fOp mulTW (fTup (fCons (fC (.int 0)) (fNil))) (fC (.int 15)))) (fNil)))) (fO0) (fO1 (fCall kLen (fCons (fVar 12) (fNil))))) [15]) (gVar 6)) (sIf (fB (fOp (eqW true) (fComp (itR1 (fCall kLen (fCons (fVar 12) (fNil)))) (gVar 17) (fYes) (fCall kSum (fCons (fComp (itS (fVar 6)) (gVar 18) (fYes) (fOp ixW (fVar 18) (fVar 17)) [18]) (fNil))) [17]) (fSl (fCall (callD 2 g_heard) (fCons (fVar 11) (fCons (fVar 12) (fNil)))) (fO0) (fO1 (fCall kLen (fCons (fVar 12) (fNil))))))) (sRet (fC (.bool false))) (sNil))))))))))))
noncomputable def B_law_12 : FS := sCons (sFor (itR1 (fCall kMax2 (fCons (fC (.int 3)) (fCons (fCall kMin2 (fCons (fC (.int 8)) (fCons (fOp addW (fCall kLen (fCons (fVar 0) (fNil))) (fC (.int 2))) (fNil)))) (fNil))))) (gVar 1) (L_law_12_3)) (sRet (fC (.bool true)))
noncomputable def g_law_12 (ws : List Wv) (μ : Sto) : Rs Wv := runF 19 B_law_12 ws μ
noncomputable def B_parting : FS := sCons (sExpr (fCall (callD 1 g_need_board) (fCons (fVar 0) (fNil)))) (sCons (sExpr (fCall (callD 1 g_need_board) (fCons (fVar 1) (fNil)))) (sRet (fCall (callD 2 g_parting_of) (fCons (fVar 0) (fCons (fVar 1) (fNil))))))
noncomputable def g_parting (ws : List Wv) (μ : Sto) : Rs Wv := runF 2 B_parting ws μ
noncomputable def B__law_other : FS := sCons (sPar 2 3 (fCons (fCall (callD 2 g__law_take) (fCons (fVar 0) (fCons (fC (.int 4)) (fNil)))) (fCons (fCall (callD 2 g__law_take) (fCons (fVar 0) (fCons (fCall kMax2 (fCons (fC (.int 1)) (fCons (fCall kLen (fCons (fVar 1) (fNil))) (fNil)))) (fNil)))) (fNil)))) (sCons (sIf (fOr (fB (fOp (eqW false) (fVar 2) (fC (.int 0)))) (fB (fOp (eqW false) (fVar 1) (fTup (fNil))))) (sRet (fOp addW (fOp addW (fSl (fVar 1) (fO0) (fO1 (fVar 3))) (fTup (fCons (fCall (callD 2 g__law_pedal) (fCons (fVar 0) (fCons (fC (.bool true)) (fNil)))) (fNil)))) (fSl (fVar 1) (fO1 (fOp addW (fVar 3) (fC (.int 1)))) (fO0)))) (sNil)) (sCons (sIf (fB (fOp (eqW false) (fVar 2) (fC (.int 1)))) (sRet (fOp addW (fOp addW (fSl (fVar 1) (fO0) (fO1 (fVar 3))) (f1 revW (fSl (fVar 1) (fO1 (fVar 3)) (fO1 (fOp addW (fVar 3) (fC (.int 2))))))) (fSl (fVar 1) (fO1 (fOp addW (fVar 3) (fC (.int 2)))) (fO0)))) (sNil)) (sCons (sIf (fB (fOp (eqW false) (fVar 2) (fC (.int 2)))) (sRet (fOp addW (fSl (fVar 1) (fO0) (fO1 (fVar 3))) (fSl (fVar 1) (fO1 (fOp addW (fVar 3) (fC (.int 1)))) (fO0)))) (sNil)) (sRet (fIf (fB (fOp (cmpW fun i j => decide (i < j)) (fCall kLen (fCons (fVar 1) (fNil))) (fC (.int 6)))) (fOp addW (fOp addW (fSl (fVar 1) (fO0) (fO1 (fVar 3))) (fTup (fCons (fOp ixW (fVar 1) (fVar 3)) (fCons (fCall (callD 2 g__law_pedal) (fCons (fVar 0) (fCons (fC (.bool false)) (fNil)))) (fNil))))) (fSl (fVar 1) (fO1 (fOp addW (fVar 3) (fC (.int 1)))) (fO0))) (fVar 1))))))
noncomputable def g__law_other (ws : List Wv) (μ : Sto) : Rs Wv := runF 4 B__law_other ws μ
noncomputable abbrev L__law_reach_1 : FS := sAsg (fCall kMax2 (fCons (fVar 1) (fCons (fOp addW (fC (.int 1)) (fCall kSum (fCons (fComp (itS (fVar 2)) (gVar 3) (fAnd (fB (fOp (eqW false) (fCall kLen (fCons (fVar 3) (fNil))) (fC (.int 2)))) (fB (fOp (eqW true) (fOp ixW (fVar 3) (fC (.int 0))) (fC (.str "late"))))) (fCall kAbs (fCons (fOp ixW (fVar 3) (fC (.int 1))) (fNil))) [3]) (fNil)))) (fNil)))) (gVar 1)
noncomputable def B__law_reach : FS := sCons (sAsg (fC (.int 1)) (gVar 1)) (sCons (sFor (itS (fVar 0)) (gVar 2) (L__law_reach_1)) (sRet (fOp addW (fVar 1) (fC (.int 120)))))
noncomputable def g__law_reach (ws : List Wv) (μ : Sto) : Rs Wv := runF 4 B__law_reach ws μ
noncomputable abbrev L__law_around_1 : FS := sAsg (fOp addW (fVar 1) (fLst (fCons (fVar 2) (fCons (fNeg (fVar 2)) (fNil))))) (gVar 1)
noncomputable def B__law_around : FS := sCons (sAsg (fLst (fCons (fC (.int 0)) (fNil))) (gVar 1)) (sCons (sFor (itR2 (fC (.int 1)) (fOp addW (fVar 0) (fC (.int 1)))) (gVar 2) (L__law_around_1)) (sRet (fVar 1)))
noncomputable def g__law_around (ws : List Wv) (μ : Sto) : Rs Wv := runF 3 B__law_around ws μ
noncomputable abbrev L__law_sums_1 : FS := sCons (sAsg (fCall (callD 1 g__law_lateness) (fCons (fVar 3) (fNil))) (gVar 4)) (sDput (fOp (opI fun i j => some (.int (i - j))) (fOp addW (fDget2 (fVar 2) (fVar 4) (fC (.int 0))) (fCall (callD 2 g__law_shape) (fCons (fVar 3) (fCons (fVar 1) (fNil))))) (fCall (callD 2 g__law_shape) (fCons (fVar 3) (fCons (fC (.int 0)) (fNil))))) (fVar 2) (fVar 4))
noncomputable def B__law_sums : FS := sCons (sAsg (fDictK) (gVar 2)) (sCons (sFor (itS (fVar 0)) (gVar 3) (L__law_sums_1)) (sRet (fComp (itS (f1 sdW (fVar 2))) (gVar 4) (fB (fOp (eqW true) (fDget (fVar 2) (fVar 4)) (fC (.int 0)))) (fTup (fCons (fVar 4) (fCons (fDget (fVar 2) (fVar 4)) (fNil)))) [4])))
noncomputable def g__law_sums (ws : List Wv) (μ : Sto) : Rs Wv := runF 5 B__law_sums ws μ
noncomputable def B__law_silence : FS := sRet (fCall kSum (fCons (fComp (itS (fVar 0)) (gVar 1) (fYes) (fCall (callD 2 g__law_shape) (fCons (fVar 1) (fCons (fC (.int 0)) (fNil)))) [1]) (fNil)))
noncomputable def g__law_silence (ws : List Wv) (μ : Sto) : Rs Wv := runF 2 B__law_silence ws μ
noncomputable abbrev L__law_softest_1 : FS := sIf (fB (fOp (eqW true) (fCall (callD 2 g__law_sums) (fCons (fVar 0) (fCons (fVar 2) (fNil)))) (fCall (callD 2 g__law_sums) (fCons (fVar 1) (fCons (fVar 2) (fNil)))))) (sRet (fCall kAbs (fCons (fVar 2) (fNil)))) (sNil)
noncomputable def B__law_softest : FS := sCons (sIf (fB (fOp (eqW true) (fCall (callD 1 g__law_silence) (fCons (fVar 0) (fNil))) (fCall (callD 1 g__law_silence) (fCons (fVar 1) (fNil))))) (sRet (fNeg (fC (.int 1)))) (sNil)) (sCons (sFor (itS (fCall (callD 1 g__law_around) (fCons (fCall (callD 1 g__law_reach) (fCons (fOp addW (fVar 0) (fVar 1)) (fNil))) (fNil)))) (gVar 2) (L__law_softest_1)) (sRet (fC .none)))
noncomputable def g__law_softest (ws : List Wv) (μ : Sto) : Rs Wv := runF 3 B__law_softest ws μ
noncomputable def B__law_beside : FS := sCons (sPar 2 3 (fCons (fCall (callD 2 g__law_take) (fCons (fVar 0) (fCons (fCall kLen (fCons (fVar 1) (fNil))) (fNil)))) (fCons (fCall (callD 2 g__law_take) (fCons (fVar 0) (fCons (fC (.int 5)) (fNil)))) (fNil)))) (sCons (sIf (fB (fOp (eqW false) (fVar 3) (fC (.int 0)))) (sRet (f1 revW (fVar 1))) (sNil)) (sCons (sIf (fAnd (fB (fOp (eqW false) (fVar 3) (fC (.int 1)))) (fAnd (fB (fOp (cmpW fun i j => decide (j < i)) (fCall kLen (fCons (fVar 1) (fNil))) (fC (.int 1)))) (fAnd (fB (fOp (cmpW fun i j => decide (i < j)) (fCall kLen (fCons (fOp ixW (fVar 1) (fC (.int 0))) (fNil))) (fC (.int 6)))) (fB (fOp (cmpW fun i j => decide (i < j)) (fCall kLen (fCons (fOp ixW (fVar 1) (fC (.int 1))) (fNil))) (fC (.int 6))))))) (sRet (fOp addW (fTup (fCons (fOp addW (fOp ixW (fVar 1) (fC (.int 0))) (fTup (fCons (fTup (fCons (fC (.str "lift")) (fCons (fC (.int 3)) (fNil)))) (fNil)))) (fCons (fOp addW (fOp ixW (fVar 1) (fC (.int 1))) (fTup (fCons (fTup (fCons (fC (.str "lift")) (fCons (fNeg (fC (.int 3))) (fNil)))) (fNil)))) (fNil)))) (fSl (fVar 1) (fO1 (fC (.int 2))) (fO0)))) (sNil)) (sCons (sIf (fAnd (fB (fOp (eqW false) (fVar 3) (fC (.int 2)))) (fB (fOp (cmpW fun i j => decide (i < j)) (fCall kLen (fCons (fVar 1) (fNil))) (fC (.int 3))))) (sRet (fOp addW (fVar 1) (fTup (fCons (fCall (callD 2 g__law_of) (fCons (fVar 0) (fCons (fLst (fCons (fTup (fCons (fTup (fCons (fC (.str "cut")) (fCons (fC (.int 1)) (fNil)))) (fCons (fTup (fCons (fC (.str "gate")) (fCons (fC (.int 2)) (fNil)))) (fNil)))) (fCons (fTup (fCons (fTup (fCons (fC (.str "lift")) (fCons (fC (.int 2)) (fNil)))) (fCons (fTup (fCons (fC (.str "cut")) (fCons (fC (.int 1)) (fNil)))) (fCons (fTup (fCons (fC (.str "fold")) (fNil))) (fNil))))) (fNil)))) (fNil)))) (fNil))))) (sNil)) (sRet (fOp addW (fOp addW (fSl (fVar 1) (fO0) (fO1 (fVar 2))) (fTup (fCons (fCall (callD 2 g__law_other) (fCons (fVar 0) (fCons (fOp ixW (fVar 1) (fVar 2)) (fNil)))) (fNil)))) (fSl (fVar 1) (fO1 (fOp addW (fVar 2) (fC (.int 1)))) (fO0)))))))
noncomputable def g__law_beside (ws : List Wv) (μ : Sto) : Rs Wv := runF 4 B__law_beside ws μ
noncomputable def B__law_right : FS := sCons (sPar3 2 3 4 (fCons (fCall (callD 2 g__law_softest) (fCons (fVar 0) (fCons (fVar 1) (fNil)))) (fCons (fCall (callD 2 g_parting) (fCons (fVar 0) (fCons (fVar 1) (fNil)))) (fCons (fCall (callD 2 g_alike) (fCons (fVar 0) (fCons (fVar 1) (fNil)))) (fNil))))) (sCons (sIf (fOr (fNot (fB (fIsi "bool" (fVar 4)))) (fOr (fB (fOp (eqW true) (fVar 4) (fOp (isNW false) (fVar 2) (fC .none)))) (fB (fOp (eqW true) (fOp (isNW false) (fVar 3) (fC .none)) (fVar 4))))) (sRet (fC (.bool false))) (sNil)) (sCons (sIf (fB (fOp (isNW false) (fVar 3) (fC .none))) (sRet (fC (.bool true))) (sNil)) (sCons (sIf (fOr (fNot (fB (fIsi "tuple" (fVar 3)))) (fB (fOp (eqW true) (fCall kLen (fCons (fVar 3) (fNil))) (fCall kInt (fCons (fOp (cmpW fun i j => decide (j ≤ i)) (fVar 2) (fC (.int 0))) (fNil)))))) (sRet (fC (.bool false))) (sNil)) (sCons (sIf (fB (fOp (eqW false) (fVar 3) (fTup (fNil)))) (sRet (fOp (eqW false) (fVar 2) (fNeg (fC (.int 1))))) (sNil)) (sRet (fAndV (fOp (eqW false) (fCall kAbs (fCons (fOp ixW (fVar 3) (fC (.int 0))) (fNil))) (fVar 2)) (fOp (eqW true) (fCall (callD 2 g__law_sums) (fCons (fVar 0) (fCons (fOp ixW (fVar 3) (fC (.int 0))) (fNil)))) (fCall (callD 2 g__law_sums) (fCons (fVar 1) (fCons (fOp ixW (fVar 3) (fC (.int 0))) (fNil)))))))))))
noncomputable def g__law_right (ws : List Wv) (μ : Sto) : Rs Wv := runF 5 B__law_right ws μ
noncomputable abbrev L_law_3_1 : FS := sCons (sAsg (fCall (callD 2 g__law_bag) (fCons (fVar 0) (fCons (fVar 1) (fNil)))) (gVar 2)) (sCons (sAsg (fCall (callD 2 g__law_board) (fCons (fVar 2) (fCons (fC (.int 5)) (fNil)))) (gVar 3)) (sCons (sAsg (fCall (callD 2 g__law_beside) (fCons (fVar 2) (fCons (fVar 3) (fNil)))) (gVar 4)) (sCons (sIf (fOr (fNot (fB (fCall (callD 2 g__law_right) (fCons (fVar 3) (fCons (fVar 4) (fNil)))))) (fOr (fNot (fB (fCall (callD 2 g__law_right) (fCons (fVar 4) (fCons (fVar 3) (fNil)))))) (fNot (fB (fCall (callD 2 g__law_right) (fCons (fVar 3) (fCons (fVar 3) (fNil)))))))) (sRet (fC (.bool false))) (sNil)) (sIf (fNot (fB (fCall (callD 2 g__law_right) (fCons (fVar 3) (fCons (fCall (callD 2 g__law_beside) (fCons (fVar 2) (fCons (fVar 4) (fNil)))) (fNil)))))) (sRet (fC (.bool false))) (sNil)))))
noncomputable def B_law_3 : FS := sCons (sFor (itR1 (fCall kMax2 (fCons (fC (.int 3)) (fCons (fCall kMin2 (fCons (fC (.int 8)) (fCons (fOp addW (fCall kLen (fCons (fVar 0) (fNil))) (fC (.int 2))) (fNil)))) (fNil))))) (gVar 1) (L_law_3_1)) (sRet (fC (.bool true)))
noncomputable def g_law_3 (ws : List Wv) (μ : Sto) : Rs Wv := runF 5 B_law_3 ws μ
noncomputable def B_less_at : FS := sRet (fOp addW (fSl (fVar 0) (fO0) (fO1 (fVar 1))) (fSl (fVar 0) (fO1 (fOp addW (fVar 1) (fC (.int 1)))) (fO0)))
noncomputable def g_less_at (ws : List Wv) (μ : Sto) : Rs Wv := runF 2 B_less_at ws μ
noncomputable abbrev L_needless_1 : FS := sCons (sAsg (fOp addW (fOp addW (fSl (fVar 0) (fO0) (fO1 (fVar 2))) (fTup (fCons (fCall (callD 2 g_less_at) (fCons (fVar 3) (fCons (fVar 4) (fNil)))) (fNil)))) (fSl (fVar 0) (fO1 (fOp addW (fVar 2) (fC (.int 1)))) (fO0))) (gVar 5)) (sIf (fB (fOp (isNW false) (fCall (callD 2 g_parting_of) (fCons (fVar 0) (fCons (fVar 5) (fNil)))) (fC .none))) (sExpr (fApp (fVar 1) (fTup (fCons (fVar 2) (fCons (fVar 4) (fNil)))))) (sNil))
noncomputable abbrev L_needless_2 : FS := sFor (itR1 (fCall kLen (fCons (fVar 3) (fNil)))) (gVar 4) (L_needless_1)
noncomputable def B_needless : FS := sCons (sExpr (fCall (callD 1 g_need_board) (fCons (fVar 0) (fNil)))) (sCons (sAsg (fLstN (fNil)) (gVar 1)) (sCons (sFor (itEnT (fVar 0)) (gTupF 2 (gsCons (gVar 2) (gsCons (gVar 3) (gsNil)))) (L_needless_2)) (frz 1 (sRet (fVar 1)))))
noncomputable def g_needless (ws : List Wv) (μ : Sto) : Rs Wv := runF 6 B_needless ws μ
noncomputable abbrev L_law_4_1 : FS := sCons (sAsg (fOp addW (fOp addW (fSl (fVar 4) (fO0) (fO1 (fVar 3))) (f1 revW (fSl (fVar 4) (fO1 (fVar 3)) (fO1 (fOp addW (fVar 3) (fC (.int 2))))))) (fSl (fVar 4) (fO1 (fOp addW (fVar 3) (fC (.int 2)))) (fO0))) (gVar 6)) (sAsg (fOp addLW (fVar 5) (fOp mulW (fLst (fCons (fVar 3) (fNil))) (fCall kInt (fCons (fOp (isNW false) (fCall (callD 2 g__law_softest) (fCons (fTup (fCons (fVar 4) (fNil))) (fCons (fTup (fCons (fVar 6) (fNil))) (fNil)))) (fC .none)) (fNil))))) (gVar 5))
noncomputable abbrev L_law_4_2 : FS := sCons (sAsg (fOp addW (fSl (fOp ixW (fVar 7) (fVar 3)) (fO0) (fO1 (fVar 8))) (fSl (fOp ixW (fVar 7) (fVar 3)) (fO1 (fOp addW (fVar 8) (fC (.int 1)))) (fO0))) (gVar 9)) (sIf (fB (fOp (isNW false) (fCall (callD 2 g__law_softest) (fCons (fVar 7) (fCons (fOp addW (fOp addW (fSl (fVar 7) (fO0) (fO1 (fVar 3))) (fTup (fCons (fVar 9) (fNil)))) (fSl (fVar 7) (fO1 (fOp addW (fVar 3) (fC (.int 1)))) (fO0))) (fNil)))) (fC .none))) (sExpr (fApp (fVar 5) (fTup (fCons (fVar 3) (fCons (fVar 8) (fNil)))))) (sNil))
noncomputable abbrev L_law_4_3 : FS := sFor (itR1 (fCall kLen (fCons (fOp ixW (fVar 7) (fVar 3)) (fNil)))) (gVar 8) (L_law_4_2)
noncomputable abbrev L_law_4_4 : FS := sCons (sAsg (fCall (callD 2 g__law_bag) (fCons (fVar 0) (fCons (fVar 1) (fNil)))) (gVar 2)) (sCons (sPar 4 5 (fCons (fCall (callD 3 g__law_pedals) (fCons (fVar 2) (fCons (fC (.int 6)) (fCons (fC (.bool true)) (fNil))))) (fCons (fLstN (fNil)) (fNil)))) (sCons (sFor (itR1 (fOp (opI fun i j => some (.int (i - j))) (fCall kLen (fCons (fVar 4) (fNil))) (fC (.int 1)))) (gVar 3) (L_law_4_1)) (sCons (sIf (fB (fOp neLW (fCall (callD 1 g_exchanges) (fCons (fVar 4) (fNil))) (fVar 5))) (sRet (fC (.bool false))) (sNil)) (sCons (sPar 7 5 (fCons (fSl (fTup (fCons (fCall (callD 3 g__law_pedals) (fCons (fVar 2) (fCons (fC (.int 4)) (fCons (fC (.bool true)) (fNil))))) (fCons (fCall (callD 3 g__law_pedals) (fCons (fVar 2) (fCons (fC (.int 4)) (fCons (fC (.bool true)) (fNil))))) (fNil)))) (fO0) (fO1 (fOp addW (fC (.int 1)) (fCall (callD 2 g__law_take) (fCons (fVar 2) (fCons (fC (.int 2)) (fNil))))))) (fCons (fLstN (fNil)) (fNil)))) (sCons (sFor (itR1 (fCall kLen (fCons (fVar 7) (fNil)))) (gVar 3) (L_law_4_3)) (sIf (fB (fOp neLW (fCall (callD 1 g_needless) (fCons (fVar 7) (fNil))) (fVar 5))) (sRet (fC (.bool false))) (sNil)))))))
noncomputable def B_law_4 : FS := sCons (sFor (itR1 (fCall kMax2 (fCons (fC (.int 3)) (fCons (fCall kMin2 (fCons (fC (.int 7)) (fCons (fOp addW (fCall kLen (fCons (fVar 0) (fNil))) (fC (.int 2))) (fNil)))) (fNil))))) (gVar 1) (L_law_4_4)) (sRet (fC (.bool true)))
noncomputable def g_law_4 (ws : List Wv) (μ : Sto) : Rs Wv := runF 10 B_law_4 ws μ
noncomputable abbrev L_acts_1 : FS := sCons (sAsg (fCall (callD 2 g_row_shape) (fCons (fSl (fVar 0) (fO0) (fO1 (fVar 1))) (fCons (fVar 3) (fNil)))) (gVar 4)) (sIf (fB (fOp (eqW true) (fCall (callD 2 g_pedal_shape) (fCons (fOp ixW (fVar 0) (fVar 1)) (fCons (fVar 4) (fNil)))) (fVar 4))) (sRet (fC (.bool true))) (sNil))
noncomputable def B_acts : FS := sCons (sFor (itR2 (fOp (opI fun i j => some (.int (i - j))) (fC (.int 0)) (fVar 2)) (fOp addW (fVar 2) (fC (.int 1)))) (gVar 3) (L_acts_1)) (sRet (fC (.bool false)))
noncomputable def g_acts (ws : List Wv) (μ : Sto) : Rs Wv := runF 5 B_acts ws μ
noncomputable def B_idle : FS := sCons (sExpr (fCall (callD 1 g_need_row) (fCons (fVar 0) (fNil)))) (sCons (sExpr (fCall (callD 1 g_need_most) (fCons (fVar 1) (fNil)))) (sCons (sAsg (fComp (itEnT (fVar 0)) (gTupF 2 (gsCons (gVar 3) (gsCons (gVar 4) (gsNil)))) (fB (fOp (eqW true) (fOp ixW (fVar 4) (fC (.int 0))) (fC (.str "late")))) (fVar 3) [3, 4]) (gVar 2)) (sRet (fComp (itS (fVar 2)) (gVar 3) (fNot (fB (fCall (callD 3 g_acts) (fCons (fVar 0) (fCons (fVar 3) (fCons (fVar 1) (fNil))))))) (fVar 3) [3]))))
noncomputable def g_idle (ws : List Wv) (μ : Sto) : Rs Wv := runF 5 B_idle ws μ
noncomputable abbrev L__law_extremes_1 : FS := sCons (sAsg (fComp (itS (fVar 0)) (gVar 6) (fB (fOp (eqW false) (fCall (callD 1 g__law_lateness) (fCons (fVar 6) (fNil))) (fVar 3))) (fVar 6) [6]) (gVar 4)) (sCons (sAsg (fComp (itR2 (fNeg (fVar 1)) (fOp addW (fVar 1) (fC (.int 1)))) (gVar 7) (fYes) (fTup (fCons (fCall kSum (fCons (fComp (itS (fVar 4)) (gVar 6) (fYes) (fCall (callD 2 g__law_shape) (fCons (fVar 6) (fCons (fVar 7) (fNil)))) [6]) (fNil))) (fCons (fVar 7) (fNil)))) [7]) (gVar 5)) (sDput (fTup (fCons (fCall (kBest PySem.W.minD) (fCons (fVar 5) (fNil))) (fCons (fCall (kBest PySem.W.maxD) (fCons (fVar 5) (fNil))) (fNil)))) (fVar 2) (fVar 3)))
noncomputable def B__law_extremes : FS := sCons (sAsg (fDictK) (gVar 2)) (sCons (sFor (itS (f1 ssW (fComp (itS (fVar 0)) (gVar 6) (fYes) (fCall (callD 1 g__law_lateness) (fCons (fVar 6) (fNil))) [6]))) (gVar 3) (L__law_extremes_1)) (sRet (fVar 2)))
noncomputable def g__law_extremes (ws : List Wv) (μ : Sto) : Rs Wv := runF 8 B__law_extremes ws μ
noncomputable abbrev L__law_loud_sound_1 : FS := sSetIx (fOp ixW (fOp ixW (fDget (fVar 0) (fVar 4)) (fVar 1)) (fC (.int 1))) (fVar 3) (fOp (opI fun i j => some (.int (i - j))) (fVar 2) (fVar 4))
noncomputable def B__law_loud_sound : FS := sCons (sAsg (fCall kMax (fCons (lockE 0 (fComp (itK (fVar 0)) (gVar 4) (fYes) (fVar 4) [4])) (fNil))) (gVar 2)) (sCons (sAsg (fOp mulN (fLst (fCons (fC (.int 0)) (fNil))) (fOp addW (fVar 2) (fC (.int 1)))) (gVar 3)) (sCons (lockS 0 (sFor (itK (fVar 0)) (gVar 4) (L__law_loud_sound_1))) (frz 3 (sRet (fTup (fCons (fCall kTuple (fCons (fVar 3) (fNil))) (fCons (fVar 2) (fNil))))))))
noncomputable def g__law_loud_sound (ws : List Wv) (μ : Sto) : Rs Wv := runF 5 B__law_loud_sound ws μ
noncomputable abbrev L_law_6_1 : FS := sCons (sAsg (fCall (callD 2 g__law_loud_sound) (fCons (fVar 3) (fCons (fVar 7) (fNil)))) (gTupF 2 (gsCons (gVar 15) (gsCons (gVar 16) (gsNil))))) (sExpr (fApp (fVar 6) (fCall kAbs (fCons (fOp ixW (fCall (callD 2 g_heard) (fCons (fVar 9) (fCons (fVar 15) (fNil)))) (fVar 16)) (fNil)))))
noncomputable abbrev L_law_6_2 : FS := sCons (sAsg (fComp (itR2 (fNeg (fVar 10)) (fOp addW (fVar 10) (fC (.int 1)))) (gVar 17) (fYes) (fCall (callD 2 g__law_shape) (fCons (fSl (fVar 11) (fO0) (fO1 (fVar 8))) (fCons (fVar 17) (fNil)))) [17]) (gVar 13)) (sCons (sAsg (fComp (itS (fVar 13)) (gVar 17) (fB (fOp (eqW true) (fCall (callD 2 g__law_shape) (fCons (fSl (fVar 11) (fO1 (fVar 8)) (fO1 (fOp addW (fVar 8) (fC (.int 1))))) (fCons (fVar 17) (fNil)))) (fVar 17))) (fVar 17) [17]) (gVar 14)) (sAsg (fOp addW (fVar 12) (fOp mulW (fLst (fCons (fVar 8) (fNil))) (fCall kInt (fCons (fAndV (fOp (eqW false) (fVar 14) (fLst (fNil))) (fOp (eqW true) (fOp ixW (fOp ixW (fVar 11) (fVar 8)) (fC (.int 0))) (fC (.str "late")))) (fNil))))) (gVar 12)))
noncomputable abbrev L_law_6_3 : FS := sCons (sAsg (fCall (callD 2 g__law_bag) (fCons (fVar 0) (fCons (fVar 1) (fNil)))) (gVar 2)) (sCons (sPar 9 10 (fCons (fCall (callD 2 g__law_board) (fCons (fVar 2) (fCons (fC (.int 4)) (fNil)))) (fCons (fCall (callD 2 g__law_take) (fCons (fVar 2) (fCons (fCall (callD 2 g__law_of) (fCons (fVar 2) (fCons (fLst (fCons (fC (.int 6)) (fCons (fC (.int 30)) (fCons (fC (.int 90)) (fNil))))) (fNil)))) (fNil)))) (fNil)))) (sCons (sAsg (fCall (callD 2 g__law_extremes) (fCons (fVar 9) (fCons (fVar 10) (fNil)))) (gVar 3)) (sCons (sAsg (fComp (itR1 (fC (.int 2))) (gVar 7) (fYes) (fCall kSum (fCons (lockE 3 (fComp (itK (fVar 3)) (gVar 18) (fYes) (fOp ixW (fOp ixW (fDget (fVar 3) (fVar 18)) (fVar 7)) (fC (.int 0))) [18])) (fNil))) [7]) (gVar 4)) (sCons (sAsg (fCall kMax2 (fCons (fCall kAbs (fCons (fOp ixW (fVar 4) (fC (.int 0))) (fNil))) (fCons (fCall kAbs (fCons (fOp ixW (fVar 4) (fC (.int 1))) (fNil))) (fNil)))) (gVar 5)) (sCons (sIf (fB (fOp (eqW true) (fCall (callD 2 g_loudest) (fCons (fVar 9) (fCons (fVar 10) (fNil)))) (fVar 5))) (sRet (fC (.bool false))) (sNil)) (sCons (sAsg (fLstN (fNil)) (gVar 6)) (sCons (sFor (itR1 (fC (.int 2))) (gVar 7) (L_law_6_1)) (frz 6 (sCons (sIf (fB (fOp (eqW true) (fCall kMax (fCons (fVar 6) (fNil))) (fVar 5))) (sRet (fC (.bool false))) (sNil)) (sCons (sAsg (fTup (fCons (fCall (callD 3 g__law_pedals) (fCons (fVar 2) (fCons (fC (.int 6)) (fCons (fC (.bool true)) (fNil))))) (fCons (fLst (fNil)) (fNil)))) (gTupF 2 (gsCons (gVar 11) (gsCons (gVar 12) (gsNil))))) (sCons (sFor (itR1 (fCall kLen (fCons (fVar 11) (fNil)))) (gVar 8) (L_law_6_2)) (sIf (fB (fOp (eqW true) (fCall (callD 2 g_idle) (fCons (fVar 11) (fCons (fVar 10) (fNil)))) (fVar 12))) (sRet (fC (.bool false))) (sNil)))))))))))))
noncomputable def B_law_6 : FS := sCons (sFor (itR1 (fCall kMax2 (fCons (fC (.int 3)) (fCons (fCall kMin2 (fCons (fC (.int 8)) (fCons (fOp addW (fCall kLen (fCons (fVar 0) (fNil))) (fC (.int 2))) (fNil)))) (fNil))))) (gVar 1) (L_law_6_3)) (sRet (fC (.bool true)))
noncomputable def g_law_6 (ws : List Wv) (μ : Sto) : Rs Wv := runF 19 B_law_6 ws μ
noncomputable abbrev L_turned_rows_1 : FS := sIf (fAnd (fB (fOp (eqW true) (fVar 4) (fOp ixW (fVar 3) (fC (.int 1))))) (fB (fCall (callD 1 g_is_pedal) (fCons (fTup (fCons (fOp ixW (fVar 3) (fC (.int 0))) (fCons (fVar 4) (fNil)))) (fNil))))) (sExpr (fApp (fVar 1) (fOp addW (fOp addW (fSl (fVar 0) (fO0) (fO1 (fVar 2))) (fTup (fCons (fTup (fCons (fOp ixW (fVar 3) (fC (.int 0))) (fCons (fVar 4) (fNil)))) (fNil)))) (fSl (fVar 0) (fO1 (fOp addW (fVar 2) (fC (.int 1)))) (fO0))))) (sNil)
noncomputable abbrev L_turned_rows_2 : FS := sIf (fB (fOp (eqW false) (fCall kLen (fCons (fVar 3) (fNil))) (fC (.int 2)))) (sCons (sTab v_BOUNDS 5 6 (fOp ixW (fVar 3) (fC (.int 0)))) (sFor (itR2 (fVar 5) (fOp addW (fVar 6) (fC (.int 1)))) (gVar 4) (L_turned_rows_1))) (sNil)
noncomputable def B_turned_rows : FS := sCons (sAsg (fLstN (fNil)) (gVar 1)) (sCons (sFor (itEnT (fVar 0)) (gTupF 2 (gsCons (gVar 2) (gsCons (gVar 3) (gsNil)))) (L_turned_rows_2)) (frz 1 (sRet (fVar 1))))
noncomputable def g_turned_rows (ws : List Wv) (μ : Sto) : Rs Wv := runF 7 B_turned_rows ws μ
noncomputable def B_knobs : FS := sCons (sExpr (fCall (callD 1 g_need_row) (fCons (fVar 0) (fNil)))) (sCons (sExpr (fCall (callD 1 g_need_row) (fCons (fVar 1) (fNil)))) (sRet (fCall kSorted (fCons (fComp (itS (fCall (callD 1 g_turned_rows) (fCons (fVar 0) (fNil)))) (gVar 2) (fB (fOp (isNW false) (fCall (callD 2 g_parting_of) (fCons (fTup (fCons (fVar 2) (fNil))) (fCons (fTup (fCons (fVar 1) (fNil))) (fNil)))) (fC .none))) (fVar 2) [2]) (fNil)))))
noncomputable def g_knobs (ws : List Wv) (μ : Sto) : Rs Wv := runF 3 B_knobs ws μ
noncomputable abbrev L__law_turned_1 : FS := sIf (fB (fOp (inW true) (fVar 4) (fLst (fCons (fC (.int 0)) (fCons (fVar 6) (fNil)))))) (sExpr (fApp (fVar 2) (fOp addW (fOp addW (fSl (fVar 0) (fO0) (fO1 (fVar 3))) (fTup (fCons (fTup (fCons (fVar 5) (fCons (fVar 4) (fNil)))) (fNil)))) (fSl (fVar 0) (fO1 (fOp addW (fVar 3) (fC (.int 1)))) (fO0))))) (sNil)
noncomputable abbrev L__law_turned_2 : FS := sIf (fB (fOp (eqW false) (fCall kLen (fCons (fOp ixW (fVar 0) (fVar 3)) (fNil))) (fC (.int 2)))) (sCons (sAsg (fOp ixW (fVar 0) (fVar 3)) (gTupF 2 (gsCons (gVar 5) (gsCons (gVar 6) (gsNil))))) (sCons (sAsg (fDget (fVar 1) (fVar 5)) (gTupF 2 (gsCons (gVar 7) (gsCons (gVar 8) (gsNil))))) (sFor (itR2 (fVar 7) (fOp addW (fVar 8) (fC (.int 1)))) (gVar 4) (L__law_turned_1)))) (sNil)
noncomputable def B__law_turned : FS := sCons (sAsg (fDisp (fPsC (fC (.str "louder")) (fTup (fCons (fC (.int 2)) (fCons (fC (.int 4)) (fNil)))) (fPsC (fC (.str "cut")) (fTup (fCons (fC (.int 1)) (fCons (fC (.int 50)) (fNil)))) (fPsC (fC (.str "gate")) (fTup (fCons (fC (.int 1)) (fCons (fC (.int 50)) (fNil)))) (fPsC (fC (.str "lift")) (fTup (fCons (fNeg (fC (.int 20))) (fCons (fC (.int 20)) (fNil)))) (fPsC (fC (.str "steps")) (fTup (fCons (fC (.int 2)) (fCons (fC (.int 5)) (fNil)))) (fPsC (fC (.str "late")) (fTup (fCons (fC (.int 1)) (fCons (fC (.int 5)) (fNil)))) (fPs0)))))))) (gVar 1)) (sCons (sAsg (fLstN (fNil)) (gVar 2)) (sCons (sFor (itR1 (fCall kLen (fCons (fVar 0) (fNil)))) (gVar 3) (L__law_turned_2)) (frz 2 (sRet (fVar 2)))))
noncomputable def g__law_turned (ws : List Wv) (μ : Sto) : Rs Wv := runF 9 B__law_turned ws μ
noncomputable abbrev L_law_11_1 : FS := sCons (sAsg (fCall (callD 2 g__law_bag) (fCons (fVar 0) (fCons (fVar 1) (fNil)))) (gVar 2)) (sCons (sAsg (fCall (callD 3 g__law_pedals) (fCons (fVar 2) (fCons (fC (.int 3)) (fCons (fC (.bool true)) (fNil))))) (gVar 3)) (sCons (sAsg (fOp addW (fCall (callD 1 g__law_turned) (fCons (fVar 3) (fNil))) (fLst (fCons (fVar 3) (fNil)))) (gVar 4)) (sCons (sAsg (fCall (callD 2 g__law_of) (fCons (fVar 2) (fCons (fVar 4) (fNil)))) (gVar 5)) (sCons (sIf (fB (fOp (eqW false) (fCall (callD 2 g__law_take) (fCons (fVar 2) (fCons (fC (.int 2)) (fNil)))) (fC (.int 0)))) (sAsg (fCall (callD 2 g__law_other) (fCons (fVar 2) (fCons (fVar 5) (fNil)))) (gVar 5)) (sNil)) (sCons (sAsg (fComp (itS (fSl (fVar 4) (fO0) (fO1 (fNeg (fC (.int 1)))))) (gVar 7) (fB (fOp (isNW false) (fCall (callD 2 g__law_softest) (fCons (fTup (fCons (fVar 7) (fNil))) (fCons (fTup (fCons (fVar 5) (fNil))) (fNil)))) (fC .none))) (fVar 7) [7]) (gVar 6)) (sIf (fB (fOp (eqW true) (fCall (callD 2 g_knobs) (fCons (fVar 3) (fCons (fVar 5) (fNil)))) (fCall kSorted (fCons (fVar 6) (fNil))))) (sRet (fC (.bool false))) (sNil)))))))
noncomputable def B_law_11 : FS := sCons (sFor (itR1 (fCall kMax2 (fCons (fC (.int 2)) (fCons (fCall kMin2 (fCons (fC (.int 5)) (fCons (fOp addW (fCall kLen (fCons (fVar 0) (fNil))) (fC (.int 2))) (fNil)))) (fNil))))) (gVar 1) (L_law_11_1)) (sRet (fC (.bool true)))
noncomputable def g_law_11 (ws : List Wv) (μ : Sto) : Rs Wv := runF 8 B_law_11 ws μ
noncomputable def B_window_of : FS := sRet (fOp mulW (fC (.int 3)) (fCall (callD 1 g_span_of) (fCons (fVar 0) (fNil))))
noncomputable def g_window_of (ws : List Wv) (μ : Sto) : Rs Wv := runF 1 B_window_of ws μ
noncomputable abbrev L_far_source_1 : FS := sCons (sAsg (fCall (callD 2 g_row_shape) (fCons (fVar 0) (fCons (fOp mulW (fVar 6) (fVar 2)) (fNil)))) (gVar 7)) (sCons (sAsg (fOp (opI fun i j => some (.int (i - j))) (fCall (callD 2 g_row_shape) (fCons (fVar 0) (fCons (fOp mulW (fVar 6) (fOp addW (fVar 2) (fVar 4))) (fNil)))) (fVar 7)) (gVar 8)) (sIf (fAnd (fB (fOp (eqW true) (fVar 8) (fC (.int 0)))) (fAnd (fB (fOp (eqW false) (fOp (opI modI) (fOp (opI fun i j => some (.int (i - j))) (fVar 1) (fVar 7)) (fVar 8)) (fC (.int 0)))) (fB (fOp (cmpW fun i j => decide (j ≤ i)) (fOp (opI divI) (fOp (opI fun i j => some (.int (i - j))) (fVar 1) (fVar 7)) (fVar 8)) (fC (.int 0)))))) (sExpr (fApp (fVar 5) (fOp mulW (fVar 6) (fOp addW (fVar 2) (fOp mulW (fVar 4) (fOp (opI divI) (fOp (opI fun i j => some (.int (i - j))) (fVar 1) (fVar 7)) (fVar 8))))))) (sNil)))
noncomputable abbrev L_far_source_2 : FS := sFor (itS (fTup (fCons (fC (.int 1)) (fCons (fNeg (fC (.int 1))) (fNil))))) (gVar 6) (L_far_source_1)
noncomputable def B_far_source : FS := sCons (sPar3 3 4 5 (fCons (fCall (callD 1 g_near_of) (fCons (fLst (fCons (fVar 0) (fNil))) (fNil))) (fCons (fCall (callD 1 g_period_of) (fCons (fLst (fCons (fVar 0) (fNil))) (fNil))) (fCons (fLstN (fNil)) (fNil))))) (sCons (sFor (itR2 (fVar 3) (fOp addW (fVar 3) (fVar 4))) (gVar 2) (L_far_source_2)) (frz 5 (sRet (fVar 5))))
noncomputable def g_far_source (ws : List Wv) (μ : Sto) : Rs Wv := runF 9 B_far_source ws μ
noncomputable def B_softest : FS := sRet (fIf (fB (fOp (eqW true) (fVar 0) (fLst (fNil)))) (fOp ixW (fOp ixW (fCall kSorted (fCons (fComp (itS (fVar 0)) (gVar 1) (fYes) (fTup (fCons (fCall (callD 1 g_loudness) (fCons (fVar 1) (fNil))) (fCons (fVar 1) (fNil)))) [1]) (fNil))) (fC (.int 0))) (fC (.int 1))) (fC .none))
noncomputable def g_softest (ws : List Wv) (μ : Sto) : Rs Wv := runF 2 B_softest ws μ
noncomputable abbrev L_source_of_1 : FS := sIf (fB (fOp (eqW false) (fCall (callD 2 g_row_shape) (fCons (fVar 0) (fCons (fVar 2) (fNil)))) (fVar 1))) (sRet (fVar 2)) (sNil)
noncomputable def B_source_of : FS := sCons (sFor (itS (fCall (callD 1 g_by_loudness) (fCons (fCall (callD 1 g_near_of) (fCons (fLst (fCons (fVar 0) (fNil))) (fNil))) (fNil)))) (gVar 2) (L_source_of_1)) (sRet (fCall (callD 1 g_softest) (fCons (fCall (callD 2 g_far_source) (fCons (fVar 0) (fCons (fVar 1) (fNil)))) (fNil))))
noncomputable def g_source_of (ws : List Wv) (μ : Sto) : Rs Wv := runF 3 B_source_of ws μ
noncomputable abbrev L_confused_of_1 : FS := sCons (sAsg (fCall (callD 2 g_row_shape) (fCons (fVar 0) (fCons (fVar 2) (fNil)))) (gVar 3)) (sCons (sIf (fB (fDin false (fVar 3) (fVar 1))) (sRet (fTup (fCons (fDget (fVar 1) (fVar 3)) (fCons (fVar 2) (fNil))))) (sNil)) (sDput (fVar 2) (fVar 1) (fVar 3)))
noncomputable def B_confused_of : FS := sCons (sAsg (fDictK) (gVar 1)) (sCons (sFor (itS (fCall (callD 1 g_by_loudness) (fCons (fCall (callD 1 g_window_of) (fCons (fLst (fCons (fVar 0) (fNil))) (fNil))) (fNil)))) (gVar 2) (L_confused_of_1)) (sRet (fC .none)))
noncomputable def g_confused_of (ws : List Wv) (μ : Sto) : Rs Wv := runF 4 B_confused_of ws μ
noncomputable def B_source : FS := sCons (sExpr (fCall (callD 1 g_need_row) (fCons (fVar 0) (fNil)))) (sCons (sExpr (fCall (callD 1 g_need_number) (fCons (fVar 1) (fNil)))) (sRet (fCall (callD 2 g_source_of) (fCons (fVar 0) (fCons (fVar 1) (fNil))))))
noncomputable def g_source (ws : List Wv) (μ : Sto) : Rs Wv := runF 2 B_source ws μ
noncomputable def B_confused : FS := sCons (sExpr (fCall (callD 1 g_need_row) (fCons (fVar 0) (fNil)))) (sRet (fCall (callD 1 g_confused_of) (fCons (fVar 0) (fNil))))
noncomputable def g_confused (ws : List Wv) (μ : Sto) : Rs Wv := runF 1 B_confused ws μ
noncomputable abbrev L__law_softest_source_1 : FS := sIf (fB (fOp (eqW false) (fCall (callD 2 g__law_shape) (fCons (fVar 0) (fCons (fVar 2) (fNil)))) (fVar 1))) (sRet (fCall kAbs (fCons (fVar 2) (fNil)))) (sNil)
noncomputable abbrev L__law_softest_source_2 : FS := sCons (sAsg (fCall (callD 2 g__law_shape) (fCons (fVar 0) (fCons (fOp mulW (fVar 6) (fVar 3)) (fNil)))) (gVar 7)) (sCons (sAsg (fOp (opI fun i j => some (.int (i - j))) (fCall (callD 2 g__law_shape) (fCons (fVar 0) (fCons (fOp mulW (fVar 6) (fOp addW (fVar 3) (fC (.int 60)))) (fNil)))) (fVar 7)) (gVar 8)) (sIf (fAnd (fB (fOp (eqW true) (fVar 8) (fC (.int 0)))) (fAnd (fB (fOp (cmpW fun i j => decide (j < i)) (fOp mulW (fOp (opI fun i j => some (.int (i - j))) (fVar 1) (fVar 7)) (fVar 8)) (fC (.int 0)))) (fB (fOp (eqW false) (fOp (opI modI) (fOp (opI fun i j => some (.int (i - j))) (fVar 1) (fVar 7)) (fVar 8)) (fC (.int 0)))))) (sExpr (fApp (fVar 5) (fOp addW (fVar 3) (fOp mulW (fC (.int 60)) (fOp (opI divI) (fOp (opI fun i j => some (.int (i - j))) (fVar 1) (fVar 7)) (fVar 8)))))) (sNil)))
noncomputable abbrev L__law_softest_source_3 : FS := sFor (itS (fTup (fCons (fC (.int 1)) (fCons (fNeg (fC (.int 1))) (fNil))))) (gVar 6) (L__law_softest_source_2)
noncomputable def B__law_softest_source : FS := sCons (sPar 4 5 (fCons (fCall (callD 1 g__law_reach) (fCons (fLst (fCons (fVar 0) (fNil))) (fNil))) (fCons (fLstN (fNil)) (fNil)))) (sCons (sFor (itS (fCall (callD 1 g__law_around) (fCons (fVar 4) (fNil)))) (gVar 2) (L__law_softest_source_1)) (sCons (sFor (itR2 (fOp (opI fun i j => some (.int (i - j))) (fVar 4) (fC (.int 59))) (fOp addW (fVar 4) (fC (.int 1)))) (gVar 3) (L__law_softest_source_3)) (frz 5 (sRet (fIf (fB (fOp (eqW true) (fVar 5) (fLst (fNil)))) (fCall kMin (fCons (fVar 5) (fNil))) (fC .none))))))
noncomputable def g__law_softest_source (ws : List Wv) (μ : Sto) : Rs Wv := runF 9 B__law_softest_source ws μ
noncomputable abbrev L__law_first_confused_1 : FS := sCons (sAsg (fCall (callD 2 g__law_shape) (fCons (fVar 0) (fCons (fVar 2) (fNil)))) (gVar 3)) (sCons (sIf (fB (fDin false (fVar 3) (fVar 1))) (sRet (fCall kAbs (fCons (fVar 2) (fNil)))) (sNil)) (sDput (fC (.bool true)) (fVar 1) (fVar 3)))
noncomputable def B__law_first_confused : FS := sCons (sAsg (fDictK) (gVar 1)) (sCons (sFor (itS (fCall (callD 1 g__law_around) (fCons (fOp mulW (fC (.int 3)) (fCall (callD 1 g__law_reach) (fCons (fLst (fCons (fVar 0) (fNil))) (fNil)))) (fNil)))) (gVar 2) (L__law_first_confused_1)) (sRet (fC .none)))
noncomputable def g__law_first_confused (ws : List Wv) (μ : Sto) : Rs Wv := runF 4 B__law_first_confused ws μ
noncomputable abbrev L_law_7_1 : FS := sCons (sPar 6 7 (fCons (fCall (callD 2 g__law_softest_source) (fCons (fVar 3) (fCons (fVar 5) (fNil)))) (fCons (fCall (callD 2 g_source) (fCons (fVar 3) (fCons (fVar 5) (fNil)))) (fNil)))) (sCons (sIf (fB (fOp (eqW true) (fOp (isNW false) (fVar 7) (fC .none)) (fOp (isNW false) (fVar 6) (fC .none)))) (sRet (fC (.bool false))) (sNil)) (sIf (fAnd (fB (fOp (isNW true) (fVar 7) (fC .none))) (fOr (fB (fOp (eqW true) (fCall kAbs (fCons (fVar 7) (fNil))) (fVar 6))) (fB (fOp (eqW true) (fCall (callD 2 g__law_shape) (fCons (fVar 3) (fCons (fVar 7) (fNil)))) (fVar 5))))) (sRet (fC (.bool false))) (sNil)))
noncomputable abbrev L_law_7_2 : FS := sCons (sAsg (fCall (callD 2 g__law_bag) (fCons (fVar 0) (fCons (fVar 1) (fNil)))) (gVar 2)) (sCons (sAsg (fCall (callD 3 g__law_pedals) (fCons (fVar 2) (fCons (fC (.int 6)) (fCons (fC (.bool true)) (fNil))))) (gVar 3)) (sCons (sAsg (fComp (itS (fCall (callD 2 g__law_numbers) (fCons (fVar 2) (fCons (fC (.int 6)) (fNil))))) (gVar 8) (fYes) (fCall (callD 2 g__law_shape) (fCons (fVar 3) (fCons (fVar 8) (fNil)))) [8]) (gVar 4)) (sCons (sFor (itS (fOp addW (fOp addW (fVar 4) (fCall kList (fCons (fCall (callD 2 g__law_numbers) (fCons (fVar 2) (fCons (fC (.int 6)) (fNil)))) (fNil)))) (fLst (fCons (fC (.int 0)) (fNil))))) (gVar 5) (L_law_7_1)) (sCons (sPar 6 7 (fCons (fCall (callD 1 g__law_first_confused) (fCons (fVar 3) (fNil))) (fCons (fCall (callD 1 g_confused) (fCons (fVar 3) (fNil))) (fNil)))) (sCons (sIf (fB (fOp (eqW true) (fOp (isNW false) (fVar 7) (fC .none)) (fOp (isNW false) (fVar 6) (fC .none)))) (sRet (fC (.bool false))) (sNil)) (sIf (fB (fOp (isNW true) (fVar 7) (fC .none))) (sCons (sAsg (fVar 7) (gTupF 2 (gsCons (gVar 9) (gsCons (gVar 10) (gsNil))))) (sIf (fOr (fB (fOp (eqW false) (fVar 9) (fVar 10))) (fOr (fB (fOp (eqW true) (fCall kMax2 (fCons (fCall kAbs (fCons (fVar 9) (fNil))) (fCons (fCall kAbs (fCons (fVar 10) (fNil))) (fNil)))) (fVar 6))) (fB (fOp (eqW true) (fCall (callD 2 g__law_shape) (fCons (fVar 3) (fCons (fVar 9) (fNil)))) (fCall (callD 2 g__law_shape) (fCons (fVar 3) (fCons (fVar 10) (fNil)))))))) (sRet (fC (.bool false))) (sNil))) (sNil)))))))
noncomputable def B_law_7 : FS := sCons (sFor (itR1 (fCall kMax2 (fCons (fC (.int 3)) (fCons (fCall kMin2 (fCons (fC (.int 8)) (fCons (fOp addW (fCall kLen (fCons (fVar 0) (fNil))) (fC (.int 2))) (fNil)))) (fNil))))) (gVar 1) (L_law_7_2)) (sRet (fC (.bool true)))
noncomputable def g_law_7 (ws : List Wv) (μ : Sto) : Rs Wv := runF 11 B_law_7 ws μ
noncomputable def B_is_wish : FS := sRet (fAndV (fIsi "str" (fVar 0)) (f1 (inKW false v_WISHES) (fVar 0)))
noncomputable def g_is_wish (ws : List Wv) (μ : Sto) : Rs Wv := runF 1 B_is_wish ws μ
noncomputable def B_need_wish : FS := sIf (fNot (fB (fCall (callD 1 g_is_wish) (fCons (fVar 0) (fNil))))) ((fun _ _ => .no)) (sNil)
noncomputable def g_need_wish (ws : List Wv) (μ : Sto) : Rs Wv := runF 1 B_need_wish ws μ
noncomputable abbrev L_growing_break_1 : FS := sIf (fB (fOp (cmpW fun i j => decide (j < i)) (fCall (callD 1 g_loudness) (fCons (fCall (callD 2 g_row_shape) (fCons (fVar 0) (fCons (fVar 2) (fNil)))) (fNil))) (fCall (callD 1 g_loudness) (fCons (fCall (callD 2 g_row_shape) (fCons (fVar 0) (fCons (fVar 4) (fNil)))) (fNil))))) (sRet (fTup (fCons (fVar 2) (fCons (fVar 4) (fNil))))) (sNil)
noncomputable abbrev L_growing_break_2 : FS := sIf (fB (fOp (cmpW fun i j => decide (j < i)) (fCall (callD 1 g_loudness) (fCons (fCall (callD 2 g_row_shape) (fCons (fVar 0) (fCons (fVar 4) (fNil)))) (fNil))) (fCall (callD 1 g_loudness) (fCons (fCall (callD 2 g_row_shape) (fCons (fVar 0) (fCons (fVar 2) (fNil)))) (fNil))))) (sAsg (fVar 4) (gVar 2)) (sNil)
noncomputable abbrev L_growing_break_3 : FS := sCons (sFor (itS (fTup (fCons (fVar 3) (fCons (fOp (opI fun i j => some (.int (i - j))) (fC (.int 0)) (fVar 3)) (fNil))))) (gVar 4) (L_growing_break_1)) (sFor (itS (fTup (fCons (fVar 3) (fCons (fOp (opI fun i j => some (.int (i - j))) (fC (.int 0)) (fVar 3)) (fNil))))) (gVar 4) (L_growing_break_2))
noncomputable def B_growing_break : FS := sCons (sAsg (fC (.int 0)) (gVar 2)) (sCons (sFor (itR2 (fC (.int 1)) (fOp addW (fVar 1) (fC (.int 1)))) (gVar 3) (L_growing_break_3)) (sRet (fC .none)))
noncomputable def g_growing_break (ws : List Wv) (μ : Sto) : Rs Wv := runF 5 B_growing_break ws μ
noncomputable abbrev L_break_of_1 : FS := sCons (sPar 4 5 (fCons (fCall (callD 2 g_row_shape) (fCons (fVar 0) (fCons (fVar 3) (fNil)))) (fCons (fCall (callD 2 g_row_shape) (fCons (fVar 0) (fCons (fOp (opI fun i j => some (.int (i - j))) (fC (.int 0)) (fVar 3)) (fNil)))) (fNil)))) (sCons (sIf (fOr (fAnd (fB (fOp (eqW false) (fVar 1) (fC (.str "odd")))) (fB (fOp (eqW true) (fVar 4) (fOp (opI fun i j => some (.int (i - j))) (fC (.int 0)) (fVar 5))))) (fAnd (fB (fOp (eqW false) (fVar 1) (fC (.str "even")))) (fB (fOp (eqW true) (fVar 4) (fVar 5))))) (sRet (fTup (fCons (fVar 3) (fCons (fOp (opI fun i j => some (.int (i - j))) (fC (.int 0)) (fVar 3)) (fNil))))) (sNil)) (sIf (fAnd (fB (fOp (eqW false) (fVar 1) (fC (.str "rising")))) (fB (fOp (cmpW fun i j => decide (j < i)) (fVar 4) (fCall (callD 2 g_row_shape) (fCons (fVar 0) (fCons (fOp addW (fVar 3) (fC (.int 1))) (fNil))))))) (sRet (fTup (fCons (fVar 3) (fCons (fOp addW (fVar 3) (fC (.int 1))) (fNil))))) (sNil)))
noncomputable def B_break_of : FS := sCons (sAsg (fCall (callD 1 g_span_of) (fCons (fLst (fCons (fVar 0) (fNil))) (fNil))) (gVar 2)) (sCons (sIf (fB (fOp (eqW false) (fVar 1) (fC (.str "silent")))) (sRet (fIf (fB (fOp (eqW false) (fCall (callD 2 g_row_shape) (fCons (fVar 0) (fCons (fC (.int 0)) (fNil)))) (fC (.int 0)))) (fC .none) (fTup (fCons (fC (.int 0)) (fCons (fC (.int 0)) (fNil)))))) (sNil)) (sCons (sIf (fB (fOp (eqW false) (fVar 1) (fC (.str "whole")))) (sRet (fCall (callD 1 g_confused_of) (fCons (fVar 0) (fNil)))) (sNil)) (sCons (sIf (fB (fOp (eqW false) (fVar 1) (fC (.str "growing")))) (sRet (fCall (callD 2 g_growing_break) (fCons (fVar 0) (fCons (fVar 2) (fNil))))) (sNil)) (sCons (sFor (itR2 (fOp (opI fun i j => some (.int (i - j))) (fC (.int 0)) (fVar 2)) (fOp addW (fVar 2) (fC (.int 1)))) (gVar 3) (L_break_of_1)) (sRet (fC .none))))))
noncomputable def g_break_of (ws : List Wv) (μ : Sto) : Rs Wv := runF 6 B_break_of ws μ
noncomputable def B_keeps : FS := sCons (sExpr (fCall (callD 1 g_need_row) (fCons (fVar 0) (fNil)))) (sCons (sExpr (fCall (callD 1 g_need_wish) (fCons (fVar 1) (fNil)))) (sRet (fOp (isNW false) (fCall (callD 2 g_break_of) (fCons (fVar 0) (fCons (fVar 1) (fNil)))) (fC .none))))
noncomputable def g_keeps (ws : List Wv) (μ : Sto) : Rs Wv := runF 2 B_keeps ws μ
noncomputable def B_breaking : FS := sCons (sExpr (fCall (callD 1 g_need_row) (fCons (fVar 0) (fNil)))) (sCons (sExpr (fCall (callD 1 g_need_wish) (fCons (fVar 1) (fNil)))) (sRet (fCall (callD 2 g_break_of) (fCons (fVar 0) (fCons (fVar 1) (fNil))))))
noncomputable def g_breaking (ws : List Wv) (μ : Sto) : Rs Wv := runF 2 B_breaking ws μ
noncomputable abbrev L__law_kept_1 : FS := sDput (fCall (callD 2 g__law_shape) (fCons (fVar 0) (fCons (fVar 4) (fNil)))) (fVar 3) (fVar 4)
noncomputable abbrev L__law_kept_2 : FS := sCons (sIf (fB (fOp (cmpW fun i j => decide (i < j)) (fCall kMin2 (fCons (fCall kAbs (fCons (fDget (fVar 3) (fVar 4)) (fNil))) (fCons (fCall kAbs (fCons (fDget (fVar 3) (fNeg (fVar 4))) (fNil))) (fNil)))) (fVar 6))) (sRet (fC (.bool false))) (sNil)) (sAsg (fCall kMax3 (fCons (fVar 6) (fCons (fCall kAbs (fCons (fDget (fVar 3) (fVar 4)) (fNil))) (fCons (fCall kAbs (fCons (fDget (fVar 3) (fNeg (fVar 4))) (fNil))) (fNil))))) (gVar 6))
noncomputable def B__law_kept : FS := sCons (sAsg (fCall (callD 1 g__law_reach) (fCons (fLst (fCons (fVar 0) (fNil))) (fNil))) (gVar 2)) (sCons (sAsg (fDictK) (gVar 3)) (sCons (sFor (itR2 (fOp mulW (fNeg (fC (.int 3))) (fVar 2)) (fOp addW (fOp mulW (fC (.int 3)) (fVar 2)) (fC (.int 1)))) (gVar 4) (L__law_kept_1)) (sCons (sIf (fB (fOp (eqW false) (fVar 1) (fC (.str "silent")))) (sRet (fOp (eqW false) (fDget (fVar 3) (fC (.int 0))) (fC (.int 0)))) (sNil)) (sCons (sIf (fB (fOp (eqW false) (fVar 1) (fC (.str "whole")))) (sRet (fOp (eqW false) (f1 lsW (lockE 3 (fComp (itK (fVar 3)) (gVar 4) (fYes) (fDget (fVar 3) (fVar 4)) [4]))) (fCall kLenD (fCons (fVar 3) (fNil))))) (sNil)) (sCons (sAsg (fRg2 (fNeg (fVar 2)) (fOp addW (fVar 2) (fC (.int 1)))) (gVar 5)) (sCons (sIf (fB (fOp (eqW false) (fVar 1) (fC (.str "odd")))) (sRet (fOp (eqW false) (fComp (itS (fVar 5)) (gVar 4) (fB (fOp (eqW true) (fDget (fVar 3) (fVar 4)) (fNeg (fDget (fVar 3) (fNeg (fVar 4)))))) (fVar 4) [4]) (fLst (fNil)))) (sNil)) (sCons (sIf (fB (fOp (eqW false) (fVar 1) (fC (.str "even")))) (sRet (fOp (eqW false) (fComp (itS (fVar 5)) (gVar 4) (fB (fOp (eqW true) (fDget (fVar 3) (fVar 4)) (fDget (fVar 3) (fNeg (fVar 4))))) (fVar 4) [4]) (fLst (fNil)))) (sNil)) (sCons (sIf (fB (fOp (eqW false) (fVar 1) (fC (.str "rising")))) (sRet (fOp (eqW false) (fComp (itS (fVar 5)) (gVar 4) (fB (fOp (cmpW fun i j => decide (j < i)) (fDget (fVar 3) (fVar 4)) (fDget (fVar 3) (fOp addW (fVar 4) (fC (.int 1)))))) (fVar 4) [4]) (fLst (fNil)))) (sNil)) (sCons (sAsg (fCall kAbs (fCons (fDget (fVar 3) (fC (.int 0))) (fNil))) (gVar 6)) (sCons (sFor (itR2 (fC (.int 1)) (fOp addW (fVar 2) (fC (.int 1)))) (gVar 4) (L__law_kept_2)) (sRet (fC (.bool true)))))))))))))
noncomputable def g__law_kept (ws : List Wv) (μ : Sto) : Rs Wv := runF 7 B__law_kept ws μ
noncomputable def B__law_shows : FS := sCons (sAsg (fVar 2) (gTupF 2 (gsCons (gVar 3) (gsCons (gVar 4) (gsNil))))) (sCons (sPar 5 6 (fCons (fCall (callD 2 g__law_shape) (fCons (fVar 0) (fCons (fVar 3) (fNil)))) (fCons (fCall (callD 2 g__law_shape) (fCons (fVar 0) (fCons (fVar 4) (fNil)))) (fNil)))) (sCons (sIf (fB (fOp (eqW false) (fVar 1) (fC (.str "silent")))) (sRet (fAndV (fOp (eqW false) (fVar 3) (fC (.int 0))) (fAndV (fOp (eqW false) (fVar 4) (fC (.int 0))) (fOp (eqW true) (fVar 5) (fC (.int 0)))))) (sNil)) (sCons (sIf (fB (fOp (eqW false) (fVar 1) (fC (.str "whole")))) (sRet (fAndV (fOp (eqW true) (fVar 3) (fVar 4)) (fOp (eqW false) (fVar 5) (fVar 6)))) (sNil)) (sCons (sIf (fB (fOp (eqW false) (fVar 1) (fC (.str "odd")))) (sRet (fAndV (fOp (eqW false) (fVar 4) (fNeg (fVar 3))) (fOp (eqW true) (fVar 6) (fNeg (fVar 5))))) (sNil)) (sCons (sIf (fB (fOp (eqW false) (fVar 1) (fC (.str "even")))) (sRet (fAndV (fOp (eqW false) (fVar 4) (fNeg (fVar 3))) (fOp (eqW true) (fVar 6) (fVar 5)))) (sNil)) (sCons (sIf (fB (fOp (eqW false) (fVar 1) (fC (.str "rising")))) (sRet (fAndV (fOp (cmpW fun i j => decide (i < j)) (fVar 3) (fVar 4)) (fOp (cmpW fun i j => decide (j < i)) (fVar 5) (fVar 6)))) (sNil)) (sRet (fAndV (fOp (cmpW fun i j => decide (i < j)) (fCall kAbs (fCons (fVar 3) (fNil))) (fCall kAbs (fCons (fVar 4) (fNil)))) (fOp (cmpW fun i j => decide (j < i)) (fCall kAbs (fCons (fVar 5) (fNil))) (fCall kAbs (fCons (fVar 6) (fNil))))))))))))
noncomputable def g__law_shows (ws : List Wv) (μ : Sto) : Rs Wv := runF 7 B__law_shows ws μ
noncomputable abbrev L_law_8_1 : FS := sCons (sPar 5 6 (fCons (fCall (callD 2 g_keeps) (fCons (fVar 3) (fCons (fVar 4) (fNil)))) (fCons (fCall (callD 2 g_breaking) (fCons (fVar 3) (fCons (fVar 4) (fNil)))) (fNil)))) (sCons (sIf (fOr (fNot (fB (fIsi "bool" (fVar 5)))) (fOr (fB (fOp (eqW true) (fVar 5) (fCall (callD 2 g__law_kept) (fCons (fVar 3) (fCons (fVar 4) (fNil)))))) (fB (fOp (eqW true) (fOp (isNW false) (fVar 6) (fC .none)) (fVar 5))))) (sRet (fC (.bool false))) (sNil)) (sIf (fAnd (fB (fOp (isNW true) (fVar 6) (fC .none))) (fNot (fB (fCall (callD 3 g__law_shows) (fCons (fVar 3) (fCons (fVar 4) (fCons (fVar 6) (fNil)))))))) (sRet (fC (.bool false))) (sNil)))
noncomputable abbrev L_law_8_2 : FS := sCons (sAsg (fCall (callD 2 g__law_bag) (fCons (fVar 0) (fCons (fVar 1) (fNil)))) (gVar 2)) (sCons (sAsg (fCall (callD 3 g__law_pedals) (fCons (fVar 2) (fCons (fCall (callD 2 g__law_of) (fCons (fVar 2) (fCons (fLst (fCons (fC (.int 2)) (fCons (fC (.int 3)) (fCons (fC (.int 6)) (fNil))))) (fNil)))) (fCons (fC (.bool true)) (fNil))))) (gVar 3)) (sFor (itS (fLst (fCons (fC (.str "even")) (fCons (fC (.str "growing")) (fCons (fC (.str "odd")) (fCons (fC (.str "rising")) (fCons (fC (.str "silent")) (fCons (fC (.str "whole")) (fNil))))))))) (gVar 4) (L_law_8_1)))
noncomputable def B_law_8 : FS := sCons (sFor (itR1 (fCall kMax2 (fCons (fC (.int 3)) (fCons (fCall kMin2 (fCons (fC (.int 8)) (fCons (fOp addW (fCall kLen (fCons (fVar 0) (fNil))) (fC (.int 2))) (fNil)))) (fNil))))) (gVar 1) (L_law_8_2)) (sRet (fC (.bool true)))
noncomputable def g_law_8 (ws : List Wv) (μ : Sto) : Rs Wv := runF 7 B_law_8 ws μ
end Ped


namespace Ped
open PySem L2 PyProof.Rows PySem.Spec
noncomputable def B_is_lot : FS := sCons (sIf (fOr (fNot (fB (fCall (callD 1 g_is_row) (fCons (fVar 0) (fNil))))) (fNot (fB (fChain leW leW (fC (.int 1)) (fCall kLen (fCons (fVar 0) (fNil))) (fC (.int 5)))))) (sRet (fC (.bool false))) (sNil)) (sRet (fOp (inW true) (fC (.str "late")) (fComp (itS (fVar 0)) (gVar 1) (fYes) (fOp ixW (fVar 1) (fC (.int 0))) [1])))
noncomputable def g_is_lot (ws : List Wv) (μ : Sto) : Rs Wv := runF 2 B_is_lot ws μ
noncomputable def B_lateness : FS := sCons (sExpr (fCall (callD 1 g_need_board) (fCons (fVar 0) (fNil)))) (sRet (fCall (callD 1 g_board_late) (fCons (fVar 0) (fNil))))
noncomputable def g_lateness (ws : List Wv) (μ : Sto) : Rs Wv := runF 1 B_lateness ws μ
noncomputable def B__law_any_value (self : List Wv → Sto → Rs Wv) : FS := sCons (sAsg (fCall (callD 2 g__law_take) (fCons (fVar 0) (fCons (fC (.int 8)) (fNil)))) (gVar 2)) (sCons (sIf (fOr (fB (fOp (cmpW fun i j => decide (i < j)) (fVar 2) (fC (.int 5)))) (fB (fOp (eqW false) (fVar 1) (fC (.int 0))))) (sCons (sAsg (fLst (fCons (fC (.int 0)) (fCons (fNeg (fC (.int 1))) (fCons (fC (.int 1)) (fCons (fC (.int 2)) (fCons (fC (.int 5)) (fCons (fC (.int 51)) (fCons (fC (.bool true)) (fCons (fC (.bool false)) (fCons (fC .none) (fCons (fC (.str "")) (fCons (fC (.str "turn")) (fCons (fC (.str "cut")) (fCons (fC (.str "late")) (fCons (fC (.str "plain")) (fCons (fOp (opI fun i j => if CPow i j then some (.int (i ^ j.toNat)) else none) (fC (.int 10)) (fC (.int 30))) (fNil))))))))))))))))) (gVar 4)) (sRet (fCall (callD 2 g__law_of) (fCons (fVar 0) (fCons (fOp addW (fVar 4) (fLst (fCons (fTup (fNil)) (fCons (fLst (fNil)) (fCons (fTup (fCons (fC (.str "turn")) (fNil))) (fCons (fTup (fCons (fC (.str "cut")) (fCons (fC (.int 3)) (fNil)))) (fCons (fTup (fCons (fC (.str "lift")) (fCons (fC (.int 0)) (fNil)))) (fCons (fTup (fCons (fTup (fCons (fC (.str "fold")) (fNil))) (fNil))) (fNil))))))))) (fNil)))))) (sNil)) (sCons (sAsg (fComp (itR1 (fCall (callD 2 g__law_take) (fCons (fVar 0) (fCons (fC (.int 5)) (fNil))))) (gVar 5) (fYes) (fCall (callD 2 self) (fCons (fVar 0) (fCons (fOp (opI fun i j => some (.int (i - j))) (fVar 1) (fC (.int 1))) (fNil)))) [5]) (gVar 3)) (sRet (fOp ixW (fLst (fCons (fVar 3) (fCons (fCall kTuple (fCons (fVar 3) (fNil))) (fCons (fCall kTuple (fCons (fVar 3) (fNil))) (fNil))))) (fOp (opI fun i j => some (.int (i - j))) (fVar 2) (fC (.int 5)))))))
noncomputable def gr__law_any_value : Nat → List Wv → Sto → Rs Wv
  | 0 => fun _ _ => .no
  | n + 1 => fun ws μ => runF 6 (B__law_any_value (gr__law_any_value n)) ws μ
noncomputable def g__law_any_value (ws : List Wv) (μ : Sto) : Rs Wv := gr__law_any_value 3 ws μ
noncomputable def B__law_spoiled (self : List Wv → Sto → Rs Wv) : FS := sCons (sIf (fOr (fNot (fB (fIsi "tuple" (fVar 1)))) (fOr (fB (fOp (eqW false) (fVar 1) (fTup (fNil)))) (fB (fOp (eqW false) (fCall (callD 2 g__law_take) (fCons (fVar 0) (fCons (fC (.int 6)) (fNil)))) (fC (.int 0)))))) (sCons (sAsg (fLst (fCons (fCall (callD 2 g__law_any_value) (fCons (fVar 0) (fCons (fC (.int 1)) (fNil)))) (fCons (fLst (fCons (fVar 1) (fNil))) (fNil)))) (gVar 2)) (sCons (sIf (fB (fIsi "str" (fVar 1))) (sAsg (fOp addW (fVar 2) (fLst (fCons (fOp addW (fVar 1) (fC (.str "s"))) (fCons (fC (.str "louder")) (fCons (fC (.str "gate")) (fCons (fC (.str "lift")) (fCons (fC (.str "steps")) (fCons (fC (.str "fold")) (fNil))))))))) (gVar 2)) (sNil)) (sCons (sIf (fB (fIsi "int" (fVar 1))) (sAsg (fOp addW (fVar 2) (fLst (fCons (fOp addW (fVar 1) (fC (.int 1))) (fCons (fOp mulW (fVar 1) (fC (.int 3))) (fCons (fC (.int 50)) (fCons (fNeg (fC (.int 20))) (fCons (fC (.int 0)) (fCons (fC (.bool true)) (fNil))))))))) (gVar 2)) (sNil)) (sRet (fCall (callD 2 g__law_of) (fCons (fVar 0) (fCons (fVar 2) (fNil)))))))) (sNil)) (sCons (sPar 3 4 (fCons (fCall (callD 2 g__law_take) (fCons (fVar 0) (fCons (fCall kLen (fCons (fVar 1) (fNil))) (fNil)))) (fCons (fCall (callD 2 g__law_take) (fCons (fVar 0) (fCons (fC (.int 8)) (fNil)))) (fNil)))) (sCons (sIf (fB (fOp (eqW false) (fVar 4) (fC (.int 0)))) (sRet (fOp addW (fSl (fVar 1) (fO0) (fO1 (fVar 3))) (fSl (fVar 1) (fO1 (fOp addW (fVar 3) (fC (.int 1)))) (fO0)))) (sNil)) (sCons (sIf (fB (fOp (eqW false) (fVar 4) (fC (.int 1)))) (sRet (fOp addW (fOp addW (fSl (fVar 1) (fO0) (fO1 (fVar 3))) (fOp mulTW (fSl (fVar 1) (fO1 (fVar 3)) (fO1 (fOp addW (fVar 3) (fC (.int 1))))) (fC (.int 2)))) (fSl (fVar 1) (fO1 (fOp addW (fVar 3) (fC (.int 1)))) (fO0)))) (sNil)) (sCons (sIf (fB (fOp (eqW false) (fVar 4) (fC (.int 2)))) (sRet (f1 revW (fVar 1))) (sNil)) (sCons (sIf (fB (fOp (eqW false) (fVar 4) (fC (.int 3)))) (sRet (fCall kList (fCons (fVar 1) (fNil)))) (sNil)) (sRet (fOp addW (fOp addW (fSl (fVar 1) (fO0) (fO1 (fVar 3))) (fTup (fCons (fCall (callD 2 self) (fCons (fVar 0) (fCons (fOp ixW (fVar 1) (fVar 3)) (fNil)))) (fNil)))) (fSl (fVar 1) (fO1 (fOp addW (fVar 3) (fC (.int 1)))) (fO0)))))))))
noncomputable def gr__law_spoiled : Nat → List Wv → Sto → Rs Wv
  | 0 => fun _ _ => .no
  | n + 1 => fun ws μ => runF 5 (B__law_spoiled (gr__law_spoiled n)) ws μ
noncomputable def g__law_spoiled (ws : List Wv) (μ : Sto) : Rs Wv := gr__law_spoiled 4 ws μ
noncomputable def B__law_is_pedal : FS := sCons (sIf (fOr (fNot (fB (fIsi "tuple" (fVar 0)))) (fOr (fB (fOp (inW true) (fCall kLen (fCons (fVar 0) (fNil))) (fLst (fCons (fC (.int 1)) (fCons (fC (.int 2)) (fNil)))))) (fNot (fB (fIsi "str" (fOp ixW (fVar 0) (fC (.int 0)))))))) (sRet (fC (.bool false))) (sNil)) (sCons (sIf (fB (fOp (eqW false) (fCall kLen (fCons (fVar 0) (fNil))) (fC (.int 1)))) (sRet (fOp (inW false) (fOp ixW (fVar 0) (fC (.int 0))) (fLst (fCons (fC (.str "turn")) (fCons (fC (.str "fold")) (fNil)))))) (sNil)) (sCons (sAsg (fDisp (fPsC (fC (.str "louder")) (fTup (fCons (fC (.int 2)) (fCons (fC (.int 4)) (fNil)))) (fPsC (fC (.str "cut")) (fTup (fCons (fC (.int 1)) (fCons (fC (.int 50)) (fNil)))) (fPsC (fC (.str "gate")) (fTup (fCons (fC (.int 1)) (fCons (fC (.int 50)) (fNil)))) (fPsC (fC (.str "lift")) (fTup (fCons (fNeg (fC (.int 20))) (fCons (fC (.int 20)) (fNil)))) (fPsC (fC (.str "steps")) (fTup (fCons (fC (.int 2)) (fCons (fC (.int 5)) (fNil)))) (fPsC (fC (.str "late")) (fTup (fCons (fC (.int 1)) (fCons (fC (.int 5)) (fNil)))) (fPs0)))))))) (gVar 1)) (sCons (sAsg (fDget2 (fVar 1) (fOp ixW (fVar 0) (fC (.int 0))) (fTup (fCons (fC (.int 1)) (fCons (fC (.int 0)) (fNil))))) (gTupF 2 (gsCons (gVar 2) (gsCons (gVar 3) (gsNil))))) (sCons (sIf (fOr (fNot (fB (fIsi "int" (fOp ixW (fVar 0) (fC (.int 1)))))) (fOr (fB (fIsi "bool" (fOp ixW (fVar 0) (fC (.int 1))))) (fB (fOp (eqW false) (fOp ixW (fVar 0) (fC (.int 1))) (fC (.int 0)))))) (sRet (fC (.bool false))) (sNil)) (sRet (fChain leW leW (fVar 2) (fOp ixW (fVar 0) (fC (.int 1))) (fVar 3)))))))
noncomputable def g__law_is_pedal (ws : List Wv) (μ : Sto) : Rs Wv := runF 4 B__law_is_pedal ws μ
noncomputable def B__law_is_row : FS := sCons (sIf (fOr (fNot (fB (fIsi "tuple" (fVar 0)))) (fB (fOp (cmpW fun i j => decide (j < i)) (fCall kLen (fCons (fVar 0) (fNil))) (fC (.int 6))))) (sRet (fC (.bool false))) (sNil)) (sRet (fOp (eqW false) (fComp (itS (fVar 0)) (gVar 1) (fNot (fB (fCall (callD 1 g__law_is_pedal) (fCons (fVar 1) (fNil))))) (fVar 1) [1]) (fLst (fNil))))
noncomputable def g__law_is_row (ws : List Wv) (μ : Sto) : Rs Wv := runF 2 B__law_is_row ws μ
noncomputable def B__law_is_board : FS := sCons (sIf (fOr (fNot (fB (fIsi "tuple" (fVar 0)))) (fNot (fB (fChain leW leW (fC (.int 1)) (fCall kLen (fCons (fVar 0) (fNil))) (fC (.int 3)))))) (sRet (fC (.bool false))) (sNil)) (sRet (fOp (eqW false) (fComp (itS (fVar 0)) (gVar 1) (fNot (fB (fCall (callD 1 g__law_is_row) (fCons (fVar 1) (fNil))))) (fVar 1) [1]) (fLst (fNil))))
noncomputable def g__law_is_board (ws : List Wv) (μ : Sto) : Rs Wv := runF 2 B__law_is_board ws μ
noncomputable def B__law_is_sound : FS := sCons (sIf (fOr (fNot (fB (fIsi "tuple" (fVar 0)))) (fB (fOp (cmpW fun i j => decide (j < i)) (fCall kLen (fCons (fVar 0) (fNil))) (fC (.int 40))))) (sRet (fC (.bool false))) (sNil)) (sRet (fOp (eqW false) (fComp (itS (fVar 0)) (gVar 1) (fOr (fNot (fB (fIsi "int" (fVar 1)))) (fB (fIsi "bool" (fVar 1)))) (fVar 1) [1]) (fLst (fNil))))
noncomputable def g__law_is_sound (ws : List Wv) (μ : Sto) : Rs Wv := runF 2 B__law_is_sound ws μ
noncomputable def B__law_is_lot : FS := sCons (sIf (fOr (fNot (fB (fCall (callD 1 g__law_is_row) (fCons (fVar 0) (fNil))))) (fNot (fB (fChain leW leW (fC (.int 1)) (fCall kLen (fCons (fVar 0) (fNil))) (fC (.int 5)))))) (sRet (fC (.bool false))) (sNil)) (sRet (fOp (eqW false) (fComp (itS (fVar 0)) (gVar 1) (fB (fOp (eqW false) (fOp ixW (fVar 1) (fC (.int 0))) (fC (.str "late")))) (fVar 1) [1]) (fLst (fNil))))
noncomputable def g__law_is_lot (ws : List Wv) (μ : Sto) : Rs Wv := runF 2 B__law_is_lot ws μ
noncomputable def B__law_told_right : FS := sCons (sAsg (fLst (fCons (fCall (callD 1 g_is_pedal) (fCons (fVar 0) (fNil))) (fCons (fCall (callD 1 g_is_row) (fCons (fVar 0) (fNil))) (fCons (fCall (callD 1 g_is_board) (fCons (fVar 0) (fNil))) (fCons (fCall (callD 1 g_is_sound) (fCons (fVar 0) (fNil))) (fCons (fCall (callD 1 g_is_lot) (fCons (fVar 0) (fNil))) (fNil))))))) (gVar 1)) (sCons (sIf (fB (fOp (eqW true) (fComp (itS (fVar 1)) (gVar 3) (fNot (fB (fIsi "bool" (fVar 3)))) (fVar 3) [3]) (fLst (fNil)))) (sRet (fC (.bool false))) (sNil)) (sCons (sAsg (fLst (fCons (fCall (callD 1 g__law_is_pedal) (fCons (fVar 0) (fNil))) (fCons (fCall (callD 1 g__law_is_row) (fCons (fVar 0) (fNil))) (fCons (fCall (callD 1 g__law_is_board) (fCons (fVar 0) (fNil))) (fNil))))) (gVar 2)) (sRet (fOp (eqW false) (fVar 1) (fOp addW (fVar 2) (fLst (fCons (fCall (callD 1 g__law_is_sound) (fCons (fVar 0) (fNil))) (fCons (fCall (callD 1 g__law_is_lot) (fCons (fVar 0) (fNil))) (fNil)))))))))
noncomputable def g__law_told_right (ws : List Wv) (μ : Sto) : Rs Wv := runF 4 B__law_told_right ws μ
noncomputable abbrev L_law_1 : FS := sCons (sAsg (fCall (callD 2 g__law_of) (fCons (fVar 4) (fCons (fVar 6) (fNil)))) (gVar 7)) (sCons (sAsg (fLstN (fCons (fVar 7) (fCons (fCall (callD 2 g__law_spoiled) (fCons (fVar 4) (fCons (fVar 7) (fNil)))) (fCons (fCall (callD 2 g__law_spoiled) (fCons (fVar 4) (fCons (fVar 7) (fNil)))) (fNil))))) (gVar 8)) (sCons (sExpr (fApp (fVar 8) (fCall (callD 2 g__law_any_value) (fCons (fVar 4) (fCons (fC (.int 2)) (fNil)))))) (frz 8 (sIf (fNot (fB (fCall (callD 1 g__law_told_right) (fCons (fCall (callD 2 g__law_of) (fCons (fVar 4) (fCons (fVar 8) (fNil)))) (fNil))))) (sRet (fC (.bool false))) (sNil)))))
noncomputable abbrev L_law_2 : FS := sCons (sAsg (fCall (callD 2 g__law_bag) (fCons (fVar 0) (fCons (fVar 1) (fNil)))) (gVar 4)) (sCons (sAsg (fCall (callD 2 g__law_board) (fCons (fVar 4) (fCons (fC (.int 6)) (fNil)))) (gVar 5)) (sCons (sAsg (fLst (fCons (fVar 5) (fCons (fVar 5) (fCons (fOp ixW (fVar 5) (fC (.int 0))) (fCons (fCall (callD 2 g__law_pedal) (fCons (fVar 4) (fCons (fC (.bool true)) (fNil)))) (fCons (fCall (callD 2 g__law_numbers) (fCons (fVar 4) (fCons (fC (.int 40)) (fNil)))) (fCons (fCall (callD 3 g__law_pedals) (fCons (fVar 4) (fCons (fC (.int 5)) (fCons (fC (.bool false)) (fNil))))) (fNil)))))))) (gVar 6)) (sCons (sFor (itR1 (fC (.int 12))) (gVar 2) (L_law_1)) (sIf (fB (fOp (eqW true) (fCall (callD 1 g_lateness) (fCons (fVar 5) (fNil))) (fCall kMax (fCons (fComp (itS (fVar 5)) (gVar 9) (fYes) (fCall (callD 1 g__law_lateness) (fCons (fVar 9) (fNil))) [9]) (fNil))))) (sRet (fC (.bool false))) (sNil)))))
noncomputable def B_law : FS := sCons (sFor (itR1 (fCall kMax2 (fCons (fC (.int 4)) (fCons (fCall kMin2 (fCons (fC (.int 10)) (fCons (fOp addW (fCall kLen (fCons (fVar 0) (fNil))) (fC (.int 3))) (fNil)))) (fNil))))) (gVar 1) (L_law_2)) (sCons (sAsg (fTup (fCons (fC (.str "turn")) (fNil))) (gVar 2)) (sCons (sAsg (fLst (fCons (fTup (fCons (fC (.str "louder")) (fCons (fC (.int 1)) (fNil)))) (fCons (fTup (fCons (fC (.str "louder")) (fCons (fC (.int 4)) (fNil)))) (fCons (fTup (fCons (fC (.str "louder")) (fCons (fC (.int 5)) (fNil)))) (fCons (fTup (fCons (fC (.str "cut")) (fCons (fC (.int 0)) (fNil)))) (fCons (fTup (fCons (fC (.str "cut")) (fCons (fC (.int 50)) (fNil)))) (fCons (fTup (fCons (fC (.str "cut")) (fCons (fC (.int 51)) (fNil)))) (fCons (fTup (fCons (fC (.str "gate")) (fCons (fNeg (fC (.int 1))) (fNil)))) (fNil))))))))) (gVar 3)) (sCons (sAsg (fOp addW (fVar 3) (fLst (fCons (fTup (fCons (fC (.str "lift")) (fCons (fNeg (fC (.int 20))) (fNil)))) (fCons (fTup (fCons (fC (.str "lift")) (fCons (fC (.int 21)) (fNil)))) (fCons (fTup (fCons (fC (.str "lift")) (fCons (fC (.int 0)) (fNil)))) (fCons (fTup (fCons (fC (.str "steps")) (fCons (fC (.int 1)) (fNil)))) (fCons (fTup (fCons (fC (.str "steps")) (fCons (fC (.int 5)) (fNil)))) (fCons (fTup (fCons (fC (.str "late")) (fCons (fC (.int 6)) (fNil)))) (fCons (fTup (fCons (fC (.str "cut")) (fNil))) (fNil)))))))))) (gVar 3)) (sCons (sAsg (fOp addW (fVar 3) (fLst (fCons (fTup (fCons (fC (.str "late")) (fCons (fC (.bool true)) (fNil)))) (fCons (fTup (fCons (fC (.str "turn")) (fCons (fC (.int 1)) (fNil)))) (fCons (fOp mulTW (fTup (fCons (fVar 2) (fNil))) (fC (.int 5))) (fCons (fOp mulTW (fTup (fCons (fVar 2) (fNil))) (fC (.int 6))) (fCons (fOp mulTW (fTup (fCons (fVar 2) (fNil))) (fC (.int 7))) (fCons (fOp mulTW (fTup (fCons (fTup (fNil)) (fNil))) (fC (.int 3))) (fCons (fOp mulTW (fTup (fCons (fTup (fNil)) (fNil))) (fC (.int 4))) (fNil)))))))))) (gVar 3)) (sCons (sAsg (fOp addW (fVar 3) (fLst (fCons (fTup (fNil)) (fCons (fOp mulTW (fTup (fCons (fC (.int 3)) (fNil))) (fC (.int 40))) (fCons (fOp mulTW (fTup (fCons (fC (.int 3)) (fNil))) (fC (.int 41))) (fCons (fTup (fCons (fTup (fCons (fC (.str "late")) (fCons (fC (.int 1)) (fNil)))) (fNil))) (fNil))))))) (gVar 3)) (sRet (fOp (eqW false) (fComp (itS (fVar 3)) (gVar 7) (fNot (fB (fCall (callD 1 g__law_told_right) (fCons (fVar 7) (fNil))))) (fVar 7) [7]) (fLst (fNil)))))))))
noncomputable def g_law (ws : List Wv) (μ : Sto) : Rs Wv := runF 10 B_law ws μ
end Ped

/-! Ped9: reckoning with the functions that the combinators give -/
namespace Ped
open PySem L2 PyProof.Rows PySem.Spec

/-! ### plain steps -/
section
variable {w : Wv} {env : Env} {μ : Sto}
@[simp] theorem e_fC (d : D) : fC d env μ = .ok (.d d) μ := rfl
@[simp] theorem e_var (i : Nat) : fVar i env μ = match env[i]? with | some (some w) => .ok w μ | _ => .no := rfl
@[simp] theorem e_nil : fNil env μ = .ok [] μ := rfl
@[simp] theorem e_cons (f : FE) (g : FA) : fCons f g env μ = (f env μ).bind fun w μ1 => (g env μ1).bind fun ws μ2 => .ok (w :: ws) μ2 := rfl
@[simp] theorem e_op (h : Wv → Wv → Sto → Rs Wv) (f g : FE) : fOp h f g env μ = (f env μ).bind fun x μ1 => (g env μ1).bind fun y μ2 => h x y μ2 := rfl
@[simp] theorem e_call (h : List Wv → Sto → Rs Wv) (g : FA) : fCall h g env μ = (g env μ).bind h := rfl
@[simp] theorem e_B (f : FE) : fB f env μ = (f env μ).bind asB := rfl
@[simp] theorem e_asB (b : Bool) : asB (.d (.bool b)) μ = .ok b μ := rfl
@[simp] theorem e_Not (f : FB) : fNot f env μ = (f env μ).bind fun b μ1 => .ok (!b) μ1 := rfl
@[simp] theorem e_And (f g : FB) : fAnd f g env μ = (f env μ).bind fun b μ1 => if b = true then g env μ1 else .ok false μ1 := rfl
@[simp] theorem e_Or (f g : FB) : fOr f g env μ = (f env μ).bind fun b μ1 => if b = true then .ok true μ1 else g env μ1 := rfl
@[simp] theorem e_AndV (f g : FE) : fAndV f g env μ = (fB f env μ).bind fun b μ1 => if b = true then g env μ1 else .ok (.d (.bool false)) μ1 := rfl
@[simp] theorem e_OrV (f g : FE) : fOrV f g env μ = (fB f env μ).bind fun b μ1 => if b = true then .ok (.d (.bool true)) μ1 else g env μ1 := rfl
@[simp] theorem e_NotV (f : FE) : fNotV f env μ = (fB f env μ).bind fun b μ1 => .ok (.d (.bool (!b))) μ1 := rfl
@[simp] theorem e_If (c : FB) (f g : FE) : fIf c f g env μ = (c env μ).bind fun b μ1 => if b = true then f env μ1 else g env μ1 := rfl
@[simp] theorem e_chain (h h' : Wv → Wv → Sto → Rs Wv) (f g k : FE) : fChain h h' f g k env μ = (f env μ).bind fun x μ1 => (g env μ1).bind fun y μ2 => ((h x y μ2).bind asB).bind fun b μ3 => if b = true then (k env μ3).bind fun z μ4 => h' y z μ4 else .ok (.d (.bool false)) μ3 := rfl
@[simp] theorem e_tup (g : FA) : fTup g env μ = (g env μ).bind (mkSeq .tuple) := rfl
@[simp] theorem e_lst (g : FA) : fLst g env μ = (g env μ).bind (mkSeq .list) := rfl
@[simp] theorem e_isi (T : String) (f : FE) : fIsi T f env μ = (f env μ).bind fun w μ1 => match w with | .d x => .ok (.d (.bool (isTy T x))) μ1 | _ => .no := rfl
@[simp] theorem e_neg (f : FE) : fNeg f env μ = (f env μ).bind fun x μ1 => match x with | .d (.int i) => .ok (.d (.int (-i))) μ1 | _ => .no := rfl
@[simp] theorem e_f1 (h : Wv → Sto → Rs Wv) (f : FE) : f1 h f env μ = (f env μ).bind h := rfl
@[simp] theorem e_sNil : sNil env μ = .ok (.nx env) μ := rfl
@[simp] theorem e_sCons (f g : FS) : sCons f g env μ = (f env μ).bind fun fl μ1 => match fl with | .nx env1 => g env1 μ1 | fl => .ok fl μ1 := rfl
@[simp] theorem e_sAsg (f : FE) (g : FG) : sAsg f g env μ = (f env μ).bind fun w μ1 => (noex (g w env μ1)).bind fun env1 μ2 => .ok (.nx env1) μ2 := rfl
@[simp] theorem e_gVar (i : Nat) : gVar i w env μ = .ok (env.set i (some w)) μ := rfl
@[simp] theorem e_sRet (f : FE) : sRet f env μ = (f env μ).bind fun w μ1 => .ok (.rt w) μ1 := rfl
@[simp] theorem e_sExpr (f : FE) : sExpr f env μ = (f env μ).bind fun _ μ1 => .ok (.nx env) μ1 := rfl
@[simp] theorem e_sIf (c : FB) (f g : FS) : sIf c f g env μ = (c env μ).bind fun b μ1 => if b = true then f env μ1 else g env μ1 := rfl
@[simp] theorem e_sFor (it : FIt) (g : FG) (b : FS) : sFor it g b env μ = (it env μ).bind fun items μ1 => forF g b items env μ1 := rfl
@[simp] theorem e_sPar (i j : Nat) (g : FA) : sPar i j g env μ = (g env μ).bind fun ws μ1 => match ws with | [w, z] => .ok (.nx ((env.set i (some w)).set j (some z))) μ1 | _ => .no := rfl
@[simp] theorem e_lstN (g : FA) : fLstN g env μ = (g env μ).bind fun ws μ1 => if ws.length ≤ LIM then .ok (.l μ1.length) (μ1 ++ [.lst ws]) else .no := rfl
@[simp] theorem e_comp (it : FIt) (g : FG) (t : FB) (e : FE) (vs : List Nat) : fComp it g t e vs env μ = (it env μ).bind fun items μ1 => (compF g t e (wipeE env vs) items μ1 []).bind fun acc μ2 => .ok (.d (.list acc)) μ2 := rfl
@[simp] theorem e_itS (f : FE) : itS f env μ = (f env μ).bind fun w μ1 => match w with | .d (.list xs) => .ok xs μ1 | .d (.tuple xs) => .ok xs μ1 | _ => .no := rfl
def rgK (w : Wv) (μ1 : Sto) : Rs (List D) := match w with | .d (.int j) => if -RB ≤ j ∧ j ≤ RB then .ok (rangeD 0 j.toNat) μ1 else .no | _ => .no
def rgL (w : Wv) (μ1 : Sto) : Rs Wv := match w with | .d (.int j) => if -1000000 ≤ j ∧ j ≤ 1000000 then .ok (.d (.list (rangeD 0 j.toNat))) μ1 else .no | _ => .no
theorem rg_k {k : Nat} {μ : Sto} (h : k ≤ 1000000) : rgK (.d (.int (k : Int))) μ = .ok (rangeD 0 k) μ := by
  show (if -RB ≤ (k : Int) ∧ (k : Int) ≤ RB then Rs.ok (rangeD 0 (k : Int).toNat) μ else Rs.no) = _
  have : RB = 1000000000000 := rfl
  rw [if_pos (by omega), Int.toNat_natCast]
theorem rg_l {k : Nat} {μ : Sto} (h : k ≤ 1000000) : rgL (.d (.int (k : Int))) μ = .ok (.d (.list (rangeD 0 k))) μ := by
  show (if -1000000 ≤ (k : Int) ∧ (k : Int) ≤ 1000000 then Rs.ok (Wv.d (.list (rangeD 0 (k : Int).toNat))) μ else Rs.no) = _
  rw [if_pos (by omega), Int.toNat_natCast]
@[simp] theorem e_itR1 (f : FE) : itR1 f env μ = (f env μ).bind rgK := rfl
@[simp] theorem e_fRg1 (f : FE) : fRg1 f env μ = (f env μ).bind rgL := rfl
@[simp] theorem e_Sl (f : FE) (g h : FO) : fSl f g h env μ = (f env μ).bind fun x μ1 => (g env μ1).bind fun lo μ2 => (h env μ2).bind fun hi μ3 => slW x lo hi μ3 := rfl
@[simp] theorem e_O0 : fO0 env μ = .ok none μ := rfl
@[simp] theorem e_O1 (f : FE) : fO1 f env μ = (f env μ).bind fun w μ1 => match w with | .d (.int i) => .ok (some i) μ1 | _ => .no := rfl
@[simp] theorem e_SetIx (f g h : FE) : sSetIx f g h env μ = (f env μ).bind fun y μ1 => (g env μ1).bind fun x μ2 => (h env μ2).bind fun i μ3 => match x, i with
  | .l n, .d (.int k) => (match lstAt μ3 n with
    | some ws => (match ixN ws.length k with
      | some j => .ok (.nx env) (μ3.set n (.lst (ws.set j y)))
      | none => .no)
    | none => .no)
  | _, _ => .no := rfl
@[simp] theorem e_noexbind {α β : Type} (r : Rs α) : noex (noex r) = noex r := by cases r <;> rfl
@[simp] theorem e_callD (n : Nat) (g : List Wv → Sto → Rs Wv) (ws : List Wv) : callD n g ws μ = if ws.length = n then noex (g ws μ) else .no := rfl
@[simp] theorem e_wipe0 : wipeE env [] = env := rfl
@[simp] theorem e_wipe1 (v : Nat) (vs : List Nat) : wipeE env (v :: vs) = (wipeE env vs).set v none := rfl
@[simp] theorem e_fYes : fYes env μ = .ok true μ := rfl
end

/-! ### operations on data -/
section
variable {μ : Sto} {i j : Int}
@[simp] theorem o_cmp (g : Int → Int → Bool) : opI (fun i j => some (.bool (g i j))) (.d (.int i)) (.d (.int j)) μ = .ok (.d (.bool (g i j))) μ := rfl
@[simp] theorem o_int (g : Int → Int → Int) : opI (fun i j => some (.int (g i j))) (.d (.int i)) (.d (.int j)) μ = .ok (.d (.int (g i j))) μ := rfl
@[simp] theorem o_add : addW (.d (.int i)) (.d (.int j)) μ = .ok (.d (.int (i + j))) μ := rfl
theorem o_addT (x y : List D) : addW (.d (.tuple x)) (.d (.tuple y)) μ = if x.length + y.length ≤ LIM then .ok (.d (.tuple (x ++ y))) μ else .no := rfl
theorem o_addL (x y : List D) : addW (.d (.list x)) (.d (.list y)) μ = if x.length + y.length ≤ LIM then .ok (.d (.list (x ++ y))) μ else .no := rfl
@[simp] theorem o_mul : mulW (.d (.int i)) (.d (.int j)) μ = if CMul i j then .ok (.d (.int (i * j))) μ else .no := rfl
theorem o_mod (h : 0 < j) : opI modI (.d (.int i)) (.d (.int j)) μ = .ok (.d (.int (i % j))) μ := by
  show (match modI i j with | some d => Rs.ok (Wv.d d) μ | none => Rs.no) = _
  unfold modI
  rw [if_pos h]
theorem o_div (h : 0 < j) (h' : j < 2 ^ 100) : opI divI (.d (.int i)) (.d (.int j)) μ = .ok (.d (.int (i / j))) μ := by
  show (match divI i j with | some d => Rs.ok (Wv.d d) μ | none => Rs.no) = _
  unfold divI
  rw [if_pos ⟨h, h'⟩]
theorem eq_int (n : Bool) : eqW n (.d (.int i)) (.d (.int j)) μ = .ok (.d (.bool (if n then !decide (i = j) else decide (i = j)))) μ := rfl
theorem eq_str (n : Bool) (a b : Str) : eqW n (.d (.str a)) (.d (.str b)) μ = .ok (.d (.bool (if n then !decide (a = b) else decide (a = b)))) μ := rfl
@[simp] theorem k_len_t (xs : List D) : kLen [.d (.tuple xs)] μ = .ok (.d (.int xs.length)) μ := rfl
@[simp] theorem k_len_l (xs : List D) : kLen [.d (.list xs)] μ = .ok (.d (.int xs.length)) μ := rfl
@[simp] theorem k_len_s (ns : List Int) : kLen [.s ns] μ = .ok (.d (.int ns.length)) μ := rfl
@[simp] theorem k_int_i : kInt [.d (.int i)] μ = .ok (.d (.int i)) μ := rfl
@[simp] theorem k_abs_i : kAbs [.d (.int i)] μ = .ok (.d (.int (if i < 0 then -i else i))) μ := rfl
@[simp] theorem k_max2_i : kMax2 [.d (.int i), .d (.int j)] μ = .ok (.d (.int (if j > i then j else i))) μ := rfl
@[simp] theorem k_min2_i : kMin2 [.d (.int i), .d (.int j)] μ = .ok (.d (.int (if j < i then j else i))) μ := rfl
@[simp] theorem k_tuple_l (xs : List D) : kTuple [.d (.list xs)] μ = .ok (.d (.tuple xs)) μ := rfl
@[simp] theorem k_sum_i (ns : List Int) : kSum [.d (.list (ns.map PyData.int))] μ = .ok (.d (.int ns.sum)) μ := by
  unfold kSum kInts
  simp [toInts_map]
@[simp] theorem k_all_b (bs : List Bool) : kAll [.d (.list (bs.map PyData.bool))] μ = .ok (.d (.bool (bs.all id))) μ := by
  unfold kAll kBools
  simp [toBools_map]
@[simp] theorem k_any_b (bs : List Bool) : kAny [.d (.list (bs.map PyData.bool))] μ = .ok (.d (.bool (bs.any id))) μ := by
  unfold kAny kBools
  simp [toBools_map]
theorem k_max_i {ns : List Int} {m : Int} (h : maxL ns = some m) : kMax [.d (.list (ns.map PyData.int))] μ = .ok (.d (.int m)) μ := by
  unfold kMax kInts
  simp [toInts_map, h]
theorem atI_nat {α : Type} (xs : List α) (n : Nat) : atI xs (n : Int) = xs[n]? := by
  unfold atI
  by_cases h : n < xs.length
  · have : ixN xs.length (n : Int) = some n := by
      unfold ixN
      simp [h]
    rw [this]
    rfl
  · have : ixN xs.length (n : Int) = none := by
      unfold ixN
      simp
      omega
    rw [this, List.getElem?_eq_none (by omega)]
    rfl
theorem atI_0 {α : Type} (x : α) (r : List α) : atI (x :: r) 0 = some x := atI_nat (x :: r) 0
theorem atI_1 {α : Type} (x y : α) (r : List α) : atI (x :: y :: r) 1 = some y := atI_nat (x :: y :: r) 1
@[simp] theorem ix_0 (x : D) (r : List D) : ixW (.d (.tuple (x :: r))) (.d (.int 0)) μ = .ok (.d x) μ := by
  show (match atI (x :: r) 0 with | some d => Rs.ok (Wv.d d) μ | none => Rs.no) = _
  rw [atI_0]
@[simp] theorem ix_1 (x y : D) (r : List D) : ixW (.d (.tuple (x :: y :: r))) (.d (.int 1)) μ = .ok (.d y) μ := by
  show (match atI (x :: y :: r) 1 with | some d => Rs.ok (Wv.d d) μ | none => Rs.no) = _
  rw [atI_1]
theorem mkSeq_d (c : List D → D) (ds : List D) (h : ds.length ≤ LIM) : mkSeq c (ds.map Wv.d) μ = .ok (.d (c ds)) μ := by
  unfold mkSeq
  rw [dats_map]
  simp only [if_pos h]
@[simp] theorem mkSeq_0 (c : List D → D) : mkSeq c [] μ = .ok (.d (c [])) μ := mkSeq_d c [] (by decide)
@[simp] theorem mkSeq_1 (c : List D → D) (x : D) : mkSeq c [.d x] μ = .ok (.d (c [x])) μ := mkSeq_d c [x] (by simp [LIM])
@[simp] theorem mkSeq_2 (c : List D → D) (x y : D) : mkSeq c [.d x, .d y] μ = .ok (.d (c [x, y])) μ := mkSeq_d c [x, y] (by simp [LIM])
@[simp] theorem mkSeq_3 (c : List D → D) (x y z : D) : mkSeq c [.d x, .d y, .d z] μ = .ok (.d (c [x, y, z])) μ := mkSeq_d c [x, y, z] (by simp [LIM])
@[simp] theorem mkSeq_4 (c : List D → D) (x y z t : D) : mkSeq c [.d x, .d y, .d z, .d t] μ = .ok (.d (c [x, y, z, t])) μ := mkSeq_d c [x, y, z, t] (by simp [LIM])
@[simp] theorem mkSeq_5 (c : List D → D) (x y z t u : D) : mkSeq c [.d x, .d y, .d z, .d t, .d u] μ = .ok (.d (c [x, y, z, t, u])) μ := mkSeq_d c [x, y, z, t, u] (by simp [LIM])
end

/-! ### bodies -/
theorem hb_d {μ μ' : Sto} {x : D} (h : μ'.length = μ.length) : handBack μ (.rt (.d x)) μ' = .ok (.d x) μ' := by
  unfold handBack
  rw [trim_same h]
theorem hb_n {μ μ' : Sto} {env : Env} (h : μ'.length = μ.length) : handBack μ (.nx env) μ' = .ok (.d .none) μ' := by
  unfold handBack
  rw [trim_same h]
theorem run_d {m : Nat} {F : FS} {ws : List Wv} {μ μ' : Sto} {x : D} (h : F (startE m ws) μ = .ok (.rt (.d x)) μ') (hl : μ'.length = μ.length) : runF m F ws μ = .ok (.d x) μ' := by
  unfold runF
  rw [h]
  exact hb_d hl
theorem run_0 {m : Nat} {F : FS} {ws : List Wv} {μ : Sto} {x : D} (h : F (startE m ws) μ = .ok (.rt (.d x)) μ) : runF m F ws μ = .ok (.d x) μ := run_d h rfl
theorem run_n {m : Nat} {F : FS} {ws : List Wv} {μ : Sto} {env : Env} (h : F (startE m ws) μ = .ok (.nx env) μ) : runF m F ws μ = .ok (.d .none) μ := by
  unfold runF
  rw [h]
  exact hb_n (env := env) rfl
/-- what was made meanwhile is forgotten -/
theorem run_app {m : Nat} {F : FS} {ws : List Wv} {μ ν : Sto} {x : D} (h : F (startE m ws) μ = .ok (.rt (.d x)) (μ ++ ν)) : runF m F ws μ = .ok (.d x) μ := by
  unfold runF
  rw [h]
  show handBack μ (.rt (.d x)) (μ ++ ν) = _
  unfold handBack
  rw [trim_app]

/-! ### comprehensions and loops -/
/-- each item gives its value -/
theorem comp_map {α : Type} {g : FG} {e : FE} {env : Env} {toD : α → D} {φ : α → D} : ∀ (xs : List α) (μ : Sto) (acc : List D), (∀ x ∈ xs, ∃ env1, g (.d (toD x)) env μ = .ok env1 μ ∧ e env1 μ = .ok (.d (φ x)) μ) → acc.length + xs.length ≤ LIM → compF g fYes e env (xs.map toD) μ acc = .ok (acc ++ xs.map φ) μ
  | [], μ, acc, _, _ => by simp [compF]
  | x :: r, μ, acc, h, hl => by
    obtain ⟨env1, h1, h2⟩ := h x List.mem_cons_self
    rw [List.length_cons] at hl
    rw [List.map_cons]
    unfold compF
    rw [h1]
    simp only [noex_ok, Rs.bind_ok, e_fYes, if_true, h2]
    rw [if_pos (by omega), comp_map r μ (acc ++ [φ x]) (fun y hy => h y (List.mem_cons_of_mem _ hy)) (by rw [List.length_append, List.length_singleton]; omega)]
    simp
/-- .. where a test says so -/
theorem comp_filter {α : Type} {g : FG} {t : FB} {e : FE} {env : Env} {toD : α → D} {q : α → Bool} {φ : α → D} : ∀ (xs : List α) (μ : Sto) (acc : List D), (∀ x ∈ xs, ∃ env1, g (.d (toD x)) env μ = .ok env1 μ ∧ t env1 μ = .ok (q x) μ ∧ (q x = true → e env1 μ = .ok (.d (φ x)) μ)) → acc.length + xs.length ≤ LIM → compF g t e env (xs.map toD) μ acc = .ok (acc ++ (xs.filter q).map φ) μ
  | [], μ, acc, _, _ => by simp [compF]
  | x :: r, μ, acc, h, hl => by
    obtain ⟨env1, h1, h2, h3⟩ := h x List.mem_cons_self
    rw [List.length_cons] at hl
    rw [List.map_cons]
    unfold compF
    rw [h1]
    simp only [noex_ok, Rs.bind_ok, h2]
    cases hq : q x with
    | true =>
      simp only [if_true, h3 hq, noex_ok, Rs.bind_ok]
      rw [if_pos (by omega), comp_filter r μ (acc ++ [φ x]) (fun y hy => h y (List.mem_cons_of_mem _ hy)) (by rw [List.length_append, List.length_singleton]; omega)]
      simp [hq]
    | false =>
      simp only [Bool.false_eq_true, if_false]
      rw [comp_filter r μ acc (fun y hy => h y (List.mem_cons_of_mem _ hy)) (by omega)]
      simp [hq]
/-- a loop that carries a state in names alone -/
theorem for_fold {α σ : Type} {g : FG} {b : FS} {toD : α → D} {E : σ → Env → Prop} {step : σ → α → σ} : ∀ (xs : List α) (s : σ) (env : Env) (μ : Sto), E s env → (∀ x ∈ xs, ∀ s env, E s env → ∃ env1 env2, g (.d (toD x)) env μ = .ok env1 μ ∧ b env1 μ = .ok (.nx env2) μ ∧ E (step s x) env2) → ∃ env', forF g b (xs.map toD) env μ = .ok (.nx env') μ ∧ E (xs.foldl step s) env'
  | [], s, env, μ, h, _ => ⟨env, rfl, h⟩
  | x :: r, s, env, μ, h, hs => by
    obtain ⟨env1, env2, h1, h2, h3⟩ := hs x List.mem_cons_self s env h
    obtain ⟨env', h4, h5⟩ := for_fold r (step s x) env2 μ h3 fun y hy => hs y (List.mem_cons_of_mem _ hy)
    refine ⟨env', ?_, h5⟩
    rw [List.map_cons]
    unfold forF
    rw [h1]
    simp only [noex_ok, Rs.bind_ok, h2, h4]
/-- a loop with an invariant over the names and the store, that falls through -/
theorem for_inv {g : FG} {b : FS} {I : Env → Sto → Prop} : ∀ (xs : List D) (env : Env) (μ : Sto), I env μ → (∀ x ∈ xs, ∀ env μ, I env μ → ∃ env1 μ1 env2 μ2, g (.d x) env μ = .ok env1 μ1 ∧ b env1 μ1 = .ok (.nx env2) μ2 ∧ I env2 μ2) → ∃ env' μ', forF g b xs env μ = .ok (.nx env') μ' ∧ I env' μ'
  | [], env, μ, h, _ => ⟨env, μ, rfl, h⟩
  | x :: r, env, μ, h, hs => by
    obtain ⟨env1, μ1, env2, μ2, h1, h2, h3⟩ := hs x List.mem_cons_self env μ h
    obtain ⟨env', μ', h4, h5⟩ := for_inv r env2 μ2 h3 fun y hy => hs y (List.mem_cons_of_mem _ hy)
    refine ⟨env', μ', ?_, h5⟩
    unfold forF
    rw [h1]
    simp only [noex_ok, Rs.bind_ok, h2, h4]
/-- a comprehension whose items are drawn: one value after the other, each with a step of the store -/
theorem comp_draw {β : Type} {g : FG} {e : FE} {env : Env} {toD : β → D} {P : β → Prop} {I : Sto → Prop} : ∀ (xs : List D) (μ : Sto) (acc : List β), I μ → (∀ b ∈ acc, P b) → (∀ x ∈ xs, ∀ μ, I μ → ∃ env1 b μ', g (.d x) env μ = .ok env1 μ ∧ e env1 μ = .ok (.d (toD b)) μ' ∧ P b ∧ I μ') → acc.length + xs.length ≤ LIM → ∃ (bs : List β) (μ' : Sto), compF g fYes e env xs μ (acc.map toD) = .ok (bs.map toD) μ' ∧ bs.length = acc.length + xs.length ∧ (∀ b ∈ bs, P b) ∧ I μ'
  | [], μ, acc, h, ha, _, _ => ⟨acc, μ, rfl, rfl, ha, h⟩
  | x :: r, μ, acc, h, ha, hs, hl => by
    obtain ⟨env1, b, μ1, h1, h2, h3, h4⟩ := hs x List.mem_cons_self μ h
    rw [List.length_cons] at hl
    obtain ⟨bs, μ', h5, h6, h7, h8⟩ := comp_draw (P := P) (I := I) r μ1 (acc ++ [b]) h4 (by
      intro c hc
      rcases List.mem_append.mp hc with hc | hc
      · exact ha c hc
      · rw [List.mem_singleton.mp hc]; exact h3) (fun y hy => hs y (List.mem_cons_of_mem _ hy)) (by rw [List.length_append, List.length_singleton]; omega)
    refine ⟨bs, μ', ?_, by rw [h6, List.length_append, List.length_singleton, List.length_cons]; omega, h7, h8⟩
    unfold compF
    rw [h1]
    simp only [noex_ok, Rs.bind_ok, e_fYes, if_true, h2]
    rw [if_pos (by rw [List.length_map]; omega)]
    rw [List.map_append] at h5
    exact h5

/-! ### the bag that a law draws from -/
def bagO (x y : Int) : Ob := .lst [.d (.int x), .d (.int y)]
def BagOk (x y : Int) : Prop := 0 ≤ x ∧ 0 ≤ y ∧ y < 2147483423
def Bg (b : Nat) (μ : Sto) : Prop := ∃ x y, μ[b]? = some (bagO x y) ∧ BagOk x y
def Stp (b : Nat) (μ μ' : Sto) : Prop := ∃ x y, μ' = μ.set b (bagO x y) ∧ BagOk x y
theorem Stp.len {b : Nat} {μ μ' : Sto} (s : Stp b μ μ') : μ'.length = μ.length := by
  obtain ⟨x, y, rfl, _⟩ := s
  exact List.length_set
theorem Stp.bg {b : Nat} {μ μ' : Sto} (s : Stp b μ μ') (h : Bg b μ) : Bg b μ' := by
  obtain ⟨x, y, rfl, k⟩ := s
  obtain ⟨x', y', h, _⟩ := h
  exact ⟨x, y, List.getElem?_set_self (List.getElem?_eq_some_iff.mp h).1, k⟩
theorem Stp.refl {b : Nat} {μ : Sto} (h : Bg b μ) : Stp b μ μ := by
  obtain ⟨x, y, h, k⟩ := h
  refine ⟨x, y, ?_, k⟩
  refine List.ext_getElem? fun j => ?_
  by_cases hj : b = j
  · subst hj
    rw [List.getElem?_set_self (List.getElem?_eq_some_iff.mp h).1, h]
  · rw [List.getElem?_set_ne hj]
theorem Stp.trans {b : Nat} {μ μ' μ'' : Sto} (s : Stp b μ μ') (t : Stp b μ' μ'') : Stp b μ μ'' := by
  obtain ⟨x, y, rfl, _⟩ := s
  obtain ⟨x', y', rfl, k⟩ := t
  exact ⟨x', y', List.set_set .., k⟩
theorem Stp.get {b j : Nat} {μ μ' : Sto} (s : Stp b μ μ') (h : b ≠ j) : μ'[j]? = μ[j]? := by
  obtain ⟨x, y, rfl, _⟩ := s
  exact List.getElem?_set_ne h
theorem bg_lst {b : Nat} {μ : Sto} {x y : Int} (h : μ[b]? = some (bagO x y)) : lstAt μ b = some [.d (.int x), .d (.int y)] := by
  unfold lstAt
  rw [h]
  rfl
theorem ix_bag0 {b : Nat} {μ : Sto} {x y : Int} (h : μ[b]? = some (bagO x y)) : ixW (.l b) (.d (.int 0)) μ = .ok (.d (.int x)) μ := by
  show (match μ[b]? with | some (.lst ws) => (match atI ws 0 with | some w => Rs.ok w μ | none => Rs.no) | _ => Rs.no) = _
  rw [h]
  rfl
theorem ix_bag1 {b : Nat} {μ : Sto} {x y : Int} (h : μ[b]? = some (bagO x y)) : ixW (.l b) (.d (.int 1)) μ = .ok (.d (.int y)) μ := by
  show (match μ[b]? with | some (.lst ws) => (match atI ws 1 with | some w => Rs.ok w μ | none => Rs.no) | _ => Rs.no) = _
  rw [h]
  rfl
end Ped

/-! PedQ: what a law draws -/
namespace Ped
open PySem L2 PyProof.Rows PySem.Spec
theorem cmul1 {i j : Int} (h : -(2 ^ 64) < i ∧ i < 2 ^ 64) : CMul i j := .inl h
theorem cmul2 {i j : Int} (h : -(2 ^ 64) < j ∧ j < 2 ^ 64) : CMul i j := .inr h
theorem set_bag0 {b : Nat} {μ : Sto} {x y z : Int} (h : μ[b]? = some (bagO x y)) : (match lstAt μ b with
    | some ws => (match ixN ws.length (0 : Int) with
      | some j => (Rs.ok (μ.set b (.lst (ws.set j (.d (.int z))))) μ : Rs Sto)
      | none => .no)
    | none => .no) = .ok (μ.set b (bagO z y)) μ := by
  rw [bg_lst h]
  rfl
theorem take_ok {b : Nat} {μ : Sto} (h : Bg b μ) {m : Int} (h0 : 0 < m) (h1 : m < 2 ^ 64) : ∃ r μ', g__law_take [.l b, .d (.int m)] μ = .ok (.d (.int r)) μ' ∧ 0 ≤ r ∧ r < m ∧ Stp b μ μ' := by
  obtain ⟨x, y, hb, hx, hy, hy2⟩ := h
  have hlt := (List.getElem?_eq_some_iff.mp hb).1
  have hm2 : m < 2 ^ 100 := by omega
  by_cases hp : 0 < x
  · refine ⟨x % m, μ.set b (bagO (x / m) y), ?_, Int.emod_nonneg _ (by omega), Int.emod_lt_of_pos _ h0, _, _, rfl, Int.ediv_nonneg hx (by omega), hy, hy2⟩
    unfold g__law_take
    refine run_d ?_ List.length_set
    unfold B__law_take
    simp [startE, ix_bag0 hb, hp, o_mod h0, o_div h0 hm2, bg_lst hb]
    rfl
  · have hx0 : x = 0 := by omega
    subst hx0
    have hy3 : 0 ≤ (y * 41358 + 211) % 2147483423 := Int.emod_nonneg _ (by decide)
    have hy4 : (y * 41358 + 211) % 2147483423 < 2147483423 := Int.emod_lt_of_pos _ (by decide)
    refine ⟨(((y * 41358 + 211) % 2147483423) * (((y * 41358 + 211) % 2147483423) / 9 + 23) % 2147483407) / 15 % m, μ.set b (bagO 0 ((y * 41358 + 211) % 2147483423)), ?_, Int.emod_nonneg _ (by omega), Int.emod_lt_of_pos _ h0, _, _, rfl, Int.le_refl 0, hy3, hy4⟩
    unfold g__law_take
    refine run_d ?_ List.length_set
    unfold B__law_take
    have hb2 : (μ.set b (bagO 0 ((y * 41358 + 211) % 2147483423)))[b]? = some (bagO 0 ((y * 41358 + 211) % 2147483423)) := List.getElem?_set_self hlt
    have c1 : CMul y 41358 := cmul2 (by omega)
    have c2 : CMul ((y * 41358 + 211) % 2147483423) (((y * 41358 + 211) % 2147483423) / 9 + 23) := cmul1 (by omega)
    have e3 : ixW (.l b) (.d (.int 1)) (μ.set b (.lst [.d (.int 0), .d (.int ((y * 41358 + 211) % 2147483423))])) = .ok (.d (.int ((y * 41358 + 211) % 2147483423))) (μ.set b (.lst [.d (.int 0), .d (.int ((y * 41358 + 211) % 2147483423))])) := ix_bag1 hb2
    have e4 : ixN 2 (1 : Int) = some 1 := rfl
    simp [startE, ix_bag0 hb, ix_bag1 hb, o_mod (show (0 : Int) < 2147483423 by decide), o_mod (show (0 : Int) < 2147483407 by decide), o_mod h0, o_div (show (0 : Int) < 9 by decide) (by decide), o_div (show (0 : Int) < 15 by decide) (by decide), bg_lst hb, c1, c2, e3, e4, bagO]
theorem ix_l {xs : List D} {r : Int} {μ : Sto} (h0 : 0 ≤ r) (h1 : r < xs.length) : ∃ d, d ∈ xs ∧ ixW (.d (.list xs)) (.d (.int r)) μ = .ok (.d d) μ := by
  obtain ⟨n, rfl⟩ := Int.eq_ofNat_of_zero_le h0
  have hn : n < xs.length := by omega
  refine ⟨xs[n], List.getElem_mem hn, ?_⟩
  show (match atI xs (n : Int) with | some d => Rs.ok (Wv.d d) μ | none => Rs.no) = _
  rw [atI_nat, List.getElem?_eq_getElem hn]
theorem of_ok {b : Nat} {μ : Sto} (h : Bg b μ) {xs : List D} (h0 : 0 < xs.length) (h1 : xs.length < 1000000) : ∃ d μ', g__law_of [.l b, .d (.list xs)] μ = .ok (.d d) μ' ∧ d ∈ xs ∧ Stp b μ μ' := by
  obtain ⟨r, μ', e, r0, r1, s⟩ := take_ok h (m := xs.length) (by omega) (by omega)
  obtain ⟨d, hd, e2⟩ := ix_l (μ := μ') r0 r1
  refine ⟨d, μ', ?_, hd, s⟩
  unfold g__law_of
  refine run_d ?_ s.len
  unfold B__law_of
  simp [startE, e, e2]

/-! ### pedals -/
inductive Pd where
  | louder (k : Int) | cut (k : Int) | gate (k : Int) | turn | fold | lift (k : Int) | steps (k : Int) | late (k : Int)
  deriving DecidableEq
def Pd.toD : Pd → D
  | .louder k => .tuple [.str "louder", .int k]
  | .cut k => .tuple [.str "cut", .int k]
  | .gate k => .tuple [.str "gate", .int k]
  | .turn => .tuple [.str "turn"]
  | .fold => .tuple [.str "fold"]
  | .lift k => .tuple [.str "lift", .int k]
  | .steps k => .tuple [.str "steps", .int k]
  | .late k => .tuple [.str "late", .int k]
def Pd.ok : Pd → Prop
  | .louder k => 2 ≤ k ∧ k ≤ 4
  | .cut k => 1 ≤ k ∧ k ≤ 50
  | .gate k => 1 ≤ k ∧ k ≤ 50
  | .turn => True
  | .fold => True
  | .lift k => -20 ≤ k ∧ k ≤ 20 ∧ k ≠ 0
  | .steps k => 2 ≤ k ∧ k ≤ 5
  | .late k => 1 ≤ k ∧ k ≤ 5
def Pd.isLate : Pd → Bool
  | .late _ => true
  | _ => false
def rowD (r : List Pd) : D := .tuple (r.map Pd.toD)
def boardD (b : List (List Pd)) : D := .tuple (b.map rowD)
def numsD (ns : List Int) : D := .tuple (ns.map PyData.int)
@[simp] theorem w_louder_cut : (("louder" : Str) = "cut") = False := eq_false (by decide +kernel)
@[simp] theorem w_louder_gate : (("louder" : Str) = "gate") = False := eq_false (by decide +kernel)
@[simp] theorem w_louder_turn : (("louder" : Str) = "turn") = False := eq_false (by decide +kernel)
@[simp] theorem w_louder_fold : (("louder" : Str) = "fold") = False := eq_false (by decide +kernel)
@[simp] theorem w_louder_lift : (("louder" : Str) = "lift") = False := eq_false (by decide +kernel)
@[simp] theorem w_louder_steps : (("louder" : Str) = "steps") = False := eq_false (by decide +kernel)
@[simp] theorem w_louder_late : (("louder" : Str) = "late") = False := eq_false (by decide +kernel)
@[simp] theorem w_cut_louder : (("cut" : Str) = "louder") = False := eq_false (by decide +kernel)
@[simp] theorem w_cut_gate : (("cut" : Str) = "gate") = False := eq_false (by decide +kernel)
@[simp] theorem w_cut_turn : (("cut" : Str) = "turn") = False := eq_false (by decide +kernel)
@[simp] theorem w_cut_fold : (("cut" : Str) = "fold") = False := eq_false (by decide +kernel)
@[simp] theorem w_cut_lift : (("cut" : Str) = "lift") = False := eq_false (by decide +kernel)
@[simp] theorem w_cut_steps : (("cut" : Str) = "steps") = False := eq_false (by decide +kernel)
@[simp] theorem w_cut_late : (("cut" : Str) = "late") = False := eq_false (by decide +kernel)
@[simp] theorem w_gate_louder : (("gate" : Str) = "louder") = False := eq_false (by decide +kernel)
@[simp] theorem w_gate_cut : (("gate" : Str) = "cut") = False := eq_false (by decide +kernel)
@[simp] theorem w_gate_turn : (("gate" : Str) = "turn") = False := eq_false (by decide +kernel)
@[simp] theorem w_gate_fold : (("gate" : Str) = "fold") = False := eq_false (by decide +kernel)
@[simp] theorem w_gate_lift : (("gate" : Str) = "lift") = False := eq_false (by decide +kernel)
@[simp] theorem w_gate_steps : (("gate" : Str) = "steps") = False := eq_false (by decide +kernel)
@[simp] theorem w_gate_late : (("gate" : Str) = "late") = False := eq_false (by decide +kernel)
@[simp] theorem w_turn_louder : (("turn" : Str) = "louder") = False := eq_false (by decide +kernel)
@[simp] theorem w_turn_cut : (("turn" : Str) = "cut") = False := eq_false (by decide +kernel)
@[simp] theorem w_turn_gate : (("turn" : Str) = "gate") = False := eq_false (by decide +kernel)
@[simp] theorem w_turn_fold : (("turn" : Str) = "fold") = False := eq_false (by decide +kernel)
@[simp] theorem w_turn_lift : (("turn" : Str) = "lift") = False := eq_false (by decide +kernel)
@[simp] theorem w_turn_steps : (("turn" : Str) = "steps") = False := eq_false (by decide +kernel)
@[simp] theorem w_turn_late : (("turn" : Str) = "late") = False := eq_false (by decide +kernel)
@[simp] theorem w_fold_louder : (("fold" : Str) = "louder") = False := eq_false (by decide +kernel)
@[simp] theorem w_fold_cut : (("fold" : Str) = "cut") = False := eq_false (by decide +kernel)
@[simp] theorem w_fold_gate : (("fold" : Str) = "gate") = False := eq_false (by decide +kernel)
@[simp] theorem w_fold_turn : (("fold" : Str) = "turn") = False := eq_false (by decide +kernel)
@[simp] theorem w_fold_lift : (("fold" : Str) = "lift") = False := eq_false (by decide +kernel)
@[simp] theorem w_fold_steps : (("fold" : Str) = "steps") = False := eq_false (by decide +kernel)
@[simp] theorem w_fold_late : (("fold" : Str) = "late") = False := eq_false (by decide +kernel)
@[simp] theorem w_lift_louder : (("lift" : Str) = "louder") = False := eq_false (by decide +kernel)
@[simp] theorem w_lift_cut : (("lift" : Str) = "cut") = False := eq_false (by decide +kernel)
@[simp] theorem w_lift_gate : (("lift" : Str) = "gate") = False := eq_false (by decide +kernel)
@[simp] theorem w_lift_turn : (("lift" : Str) = "turn") = False := eq_false (by decide +kernel)
@[simp] theorem w_lift_fold : (("lift" : Str) = "fold") = False := eq_false (by decide +kernel)
@[simp] theorem w_lift_steps : (("lift" : Str) = "steps") = False := eq_false (by decide +kernel)
@[simp] theorem w_lift_late : (("lift" : Str) = "late") = False := eq_false (by decide +kernel)
@[simp] theorem w_steps_louder : (("steps" : Str) = "louder") = False := eq_false (by decide +kernel)
@[simp] theorem w_steps_cut : (("steps" : Str) = "cut") = False := eq_false (by decide +kernel)
@[simp] theorem w_steps_gate : (("steps" : Str) = "gate") = False := eq_false (by decide +kernel)
@[simp] theorem w_steps_turn : (("steps" : Str) = "turn") = False := eq_false (by decide +kernel)
@[simp] theorem w_steps_fold : (("steps" : Str) = "fold") = False := eq_false (by decide +kernel)
@[simp] theorem w_steps_lift : (("steps" : Str) = "lift") = False := eq_false (by decide +kernel)
@[simp] theorem w_steps_late : (("steps" : Str) = "late") = False := eq_false (by decide +kernel)
@[simp] theorem w_late_louder : (("late" : Str) = "louder") = False := eq_false (by decide +kernel)
@[simp] theorem w_late_cut : (("late" : Str) = "cut") = False := eq_false (by decide +kernel)
@[simp] theorem w_late_gate : (("late" : Str) = "gate") = False := eq_false (by decide +kernel)
@[simp] theorem w_late_turn : (("late" : Str) = "turn") = False := eq_false (by decide +kernel)
@[simp] theorem w_late_fold : (("late" : Str) = "fold") = False := eq_false (by decide +kernel)
@[simp] theorem w_late_lift : (("late" : Str) = "lift") = False := eq_false (by decide +kernel)
@[simp] theorem w_late_steps : (("late" : Str) = "steps") = False := eq_false (by decide +kernel)
theorem str_ne {a b : Str} (h : (decide (a = b)) = false) : a ≠ b := of_decide_eq_false h
@[simp] theorem eqv_str (a b : Str) : PyData.eqv (.str a) (.str b) = decide (a = b) := by
  show (a == b) = decide (a = b)
  by_cases h : a = b <;> simp [h]
@[simp] theorem in_str (a : Str) (xs : List D) (μ : Sto) (h : xs.all flatD = true) : inW false (.d (.str a)) (.d (.list xs)) μ = .ok (.d (.bool (xs.any fun z => PyData.eqv z (.str a)))) μ := by
  show (if (flatD (.str a) = true ∧ xs.all flatD = true) ∨ (SeqAt.shaped (.str a) = true ∧ SeqAt.shaped (.list xs) = true) then Rs.ok (Wv.d (.bool (if false = true then !(xs.any fun z => PyData.eqv z (.str a)) else xs.any fun z => PyData.eqv z (.str a)))) μ else Rs.no) = _
  rw [if_pos (.inl ⟨rfl, h⟩)]
  rfl
theorem of3 {b : Nat} {μ : Sto} (h : Bg b μ) {xs : List Int} (h0 : 0 < xs.length) (h1 : xs.length < 1000000) : ∃ n μ', g__law_of [.l b, .d (.list (xs.map PyData.int))] μ = .ok (.d (.int n)) μ' ∧ n ∈ xs ∧ Stp b μ μ' := by
  obtain ⟨d, μ', e, hd, s⟩ := of_ok h (xs := xs.map PyData.int) (by simpa using h0) (by simpa using h1)
  obtain ⟨n, hn, rfl⟩ := List.mem_map.mp hd
  exact ⟨n, μ', e, hn, s⟩
theorem pedal_ok {b : Nat} {μ : Sto} (h : Bg b μ) (lates : Bool) : ∃ p μ', g__law_pedal [.l b, .d (.bool lates)] μ = .ok (.d (Pd.toD p)) μ' ∧ p.ok ∧ (lates = false → p.isLate = false) ∧ Stp b μ μ' := by
  obtain ⟨d, μ1, e1, hd, s1⟩ := of_ok h (xs := [.str "louder", .str "cut", .str "cut", .str "gate", .str "turn", .str "fold", .str "lift", .str "lift", .str "steps", .str (if lates then "late" else "gate")]) (by simp) (by simp)
  have hb1 := s1.bg h
  have L : ∀ {p : Pd} {μ' : Sto}, B__law_pedal [some (.l b), some (.d (.bool lates)), none, none] μ = .ok (.rt (.d p.toD)) μ' → Stp b μ μ' → g__law_pedal [.l b, .d (.bool lates)] μ = .ok (.d (Pd.toD p)) μ' := fun e s => by
    unfold g__law_pedal
    exact run_d e s.len
  have hd : d = .str "louder" ∨ d = .str "cut" ∨ d = .str "gate" ∨ d = .str "turn" ∨ d = .str "fold" ∨ d = .str "lift" ∨ d = .str "steps" ∨ (d = .str "late" ∧ lates = true) := by
    cases lates <;> simp at hd <;> rcases hd with rfl | rfl | rfl | rfl | rfl | rfl | rfl | rfl <;> simp
  have m2 : ∀ {μ'}, Stp b μ1 μ' → Stp b μ μ' := fun s => s1.trans s
  have t2 : ∀ {μ'}, Stp b μ μ' → ∀ m, 0 < m → m < 2 ^ 64 → ∃ r μ'', g__law_take [.l b, .d (.int m)] μ' = .ok (.d (.int r)) μ'' ∧ 0 ≤ r ∧ r < m ∧ Stp b μ μ'' := fun s m z0 z1 => by
    obtain ⟨r, μ2, e, r0, r1, s2⟩ := take_ok (s.bg h) z0 z1
    exact ⟨r, μ2, e, r0, r1, s.trans s2⟩
  have o2 : ∀ {μ'}, Stp b μ μ' → ∀ xs : List Int, 0 < xs.length → xs.length < 1000000 → ∃ n μ'', g__law_of [.l b, .d (.list (xs.map PyData.int))] μ' = .ok (.d (.int n)) μ'' ∧ n ∈ xs ∧ Stp b μ μ'' := fun s xs z0 z1 => by
    obtain ⟨r, μ2, e, r0, s2⟩ := of3 (s.bg h) z0 z1
    exact ⟨r, μ2, e, r0, s.trans s2⟩
  rcases hd with rfl | rfl | rfl | rfl | rfl | rfl | rfl | ⟨rfl, hl⟩
  · obtain ⟨r, μ2, e2, r0, r1, s2⟩ := t2 s1 3 (by decide) (by decide)
    refine ⟨.louder (2 + r), μ2, L ?_ s2, ⟨by omega, by omega⟩, fun _ => rfl, s2⟩
    unfold B__law_pedal
    cases lates <;> simp at e1 <;> simp [mkSeq, dats, LIM, o_addL, e1, e2, flatD, eq_str, Pd.toD]
  · obtain ⟨n, μ2, e2, hn, s2⟩ := o2 s1 [4, 9, 50] (by decide) (by decide)
    have hn : n = 4 ∨ n = 9 ∨ n = 50 := by simpa using hn
    obtain ⟨r, μ3, e3, r0, r1, s3⟩ := t2 s2 n (by omega) (by omega)
    refine ⟨.cut (1 + r), μ3, L ?_ s3, ⟨by omega, by omega⟩, fun _ => rfl, s3⟩
    simp only [List.map_cons, List.map_nil] at e2
    unfold B__law_pedal
    cases lates <;> simp at e1 <;> simp [mkSeq, dats, LIM, o_addL, e1, e2, e3, flatD, eq_str, Pd.toD]
  · obtain ⟨n, μ2, e2, hn, s2⟩ := o2 s1 [4, 9, 50] (by decide) (by decide)
    have hn : n = 4 ∨ n = 9 ∨ n = 50 := by simpa using hn
    obtain ⟨r, μ3, e3, r0, r1, s3⟩ := t2 s2 n (by omega) (by omega)
    refine ⟨.gate (1 + r), μ3, L ?_ s3, ⟨by omega, by omega⟩, fun _ => rfl, s3⟩
    simp only [List.map_cons, List.map_nil] at e2
    unfold B__law_pedal
    cases lates <;> simp at e1 <;> simp [mkSeq, dats, LIM, o_addL, e1, e2, e3, flatD, eq_str, Pd.toD]
  · refine ⟨.turn, μ1, L ?_ s1, trivial, fun _ => rfl, s1⟩
    unfold B__law_pedal
    cases lates <;> simp at e1 <;> simp [mkSeq, dats, LIM, o_addL, e1, e1, flatD, eq_str, Pd.toD]
  · refine ⟨.fold, μ1, L ?_ s1, trivial, fun _ => rfl, s1⟩
    unfold B__law_pedal
    cases lates <;> simp at e1 <;> simp [mkSeq, dats, LIM, o_addL, e1, e1, flatD, eq_str, Pd.toD]
  · obtain ⟨g, μ2, e2, hg, s2⟩ := o2 s1 [-1, 1] (by decide) (by decide)
    obtain ⟨n, μ3, e3, hn, s3⟩ := o2 s2 [3, 20] (by decide) (by decide)
    have hn : n = 3 ∨ n = 20 := by simpa using hn
    have hg : g = -1 ∨ g = 1 := by simpa using hg
    obtain ⟨r, μ4, e4, r0, r1, s4⟩ := t2 s3 n (by omega) (by omega)
    refine ⟨.lift (g * (1 + r)), μ4, L ?_ s4, ⟨?_, ?_, ?_⟩, fun _ => rfl, s4⟩
    · have c : CMul g (1 + r) := cmul1 (by omega)
      simp only [List.map_cons, List.map_nil] at e2 e3
      unfold B__law_pedal
      cases lates <;> simp at e1 <;> simp [mkSeq, dats, LIM, o_addL, e1, e2, e3, e4, c, flatD, eq_str, Pd.toD]
    · rcases hg with rfl | rfl <;> omega
    · rcases hg with rfl | rfl <;> omega
    · rcases hg with rfl | rfl <;> omega
  · obtain ⟨r, μ2, e2, r0, r1, s2⟩ := t2 s1 4 (by decide) (by decide)
    refine ⟨.steps (2 + r), μ2, L ?_ s2, ⟨by omega, by omega⟩, fun _ => rfl, s2⟩
    unfold B__law_pedal
    cases lates <;> simp at e1 <;> simp [mkSeq, dats, LIM, o_addL, e1, e2, flatD, eq_str, Pd.toD]
  · subst hl
    obtain ⟨r, μ2, e2, r0, r1, s2⟩ := t2 s1 5 (by decide) (by decide)
    refine ⟨.late (1 + r), μ2, L ?_ s2, ⟨by omega, by omega⟩, fun z => (by cases z), s2⟩
    unfold B__law_pedal
    simp at e1
    simp [mkSeq, dats, LIM, o_addL, e1, e2, flatD, eq_str, Pd.toD]

/-! ### rows, boards, numbers -/
def rowOk (r : List Pd) : Prop := ∀ p ∈ r, p.ok
theorem rb {j : Int} (h0 : 0 ≤ j) (h1 : j ≤ 1000000) : -RB ≤ j ∧ j ≤ RB := by
  have : RB = 1000000000000 := rfl
  omega
theorem rangeD_len (n : Nat) : (rangeD 0 n).length = n := rangeD_length 0 n
theorem pedals_ok {b : Nat} {μ : Sto} (h : Bg b μ) (most : Nat) (hm : most < 1000) (lates : Bool) : ∃ r μ', g__law_pedals [.l b, .d (.int most), .d (.bool lates)] μ = .ok (.d (rowD r)) μ' ∧ rowOk r ∧ r.length ≤ most ∧ (lates = false → ∀ p ∈ r, p.isLate = false) ∧ Stp b μ μ' := by
  obtain ⟨n, μ1, e1, n0, n1, s1⟩ := take_ok h (m := (most : Int) + 1) (by omega) (by omega)
  obtain ⟨k, rfl⟩ := Int.eq_ofNat_of_zero_le n0
  have hk : k ≤ most := by omega
  obtain ⟨ps, μ2, e2, l2, p2, s2⟩ := comp_draw (g := gVar 3) (e := fCall (callD 2 g__law_pedal) (fCons (fVar 0) (fCons (fVar 2) (fNil)))) (env := [some (.l b), some (.d (.int most)), some (.d (.bool lates)), none]) (toD := Pd.toD) (P := fun p => p.ok ∧ (lates = false → p.isLate = false)) (I := fun μ' => Stp b μ μ') (rangeD 0 k) μ1 [] s1 (by simp) (by
    intro x hx μ' s'
    obtain ⟨p, μ2, e2, o2, l2, s2⟩ := pedal_ok (s'.bg h) lates
    exact ⟨_, p, μ2, rfl, by simp [e2], ⟨o2, l2⟩, s'.trans s2⟩) (by rw [rangeD_len]; simp [LIM]; omega)
  rw [rangeD_len] at l2
  refine ⟨ps, μ2, ?_, fun p hp => (p2 p hp).1, by simp at l2; omega, fun z p hp => (p2 p hp).2 z, s2⟩
  unfold g__law_pedals
  refine run_d ?_ s2.len
  unfold B__law_pedals
  simp [startE, e1, rg_k (show k ≤ 1000000 by omega)]
  simp at e2 ⊢
  rw [e2]
  simp [rowD]
def boardOk (b : List (List Pd)) : Prop := ∀ r ∈ b, rowOk r
theorem board_ok {b : Nat} {μ : Sto} (h : Bg b μ) (most : Nat) (hm : most < 1000) : ∃ B μ', g__law_board [.l b, .d (.int most)] μ = .ok (.d (boardD B)) μ' ∧ boardOk B ∧ (∀ r ∈ B, r.length ≤ most) ∧ 1 ≤ B.length ∧ B.length ≤ 3 ∧ Stp b μ μ' := by
  obtain ⟨n, μ1, e1, hn, s1⟩ := of3 h (xs := [1, 1, 2, 3]) (by decide) (by decide)
  have hn : n = 1 ∨ n = 2 ∨ n = 3 := by simp at hn; omega
  obtain ⟨k, rfl⟩ := Int.eq_ofNat_of_zero_le (show 0 ≤ n by omega)
  obtain ⟨ps, μ2, e2, l2, p2, s2⟩ := comp_draw (g := gVar 3) (e := fCall (callD 3 g__law_pedals) (fCons (fVar 0) (fCons (fVar 1) (fCons (fC (.bool true)) (fNil))))) (env := [some (.l b), some (.d (.int most)), some (.d (.int k)), none]) (toD := rowD) (P := fun r => rowOk r ∧ r.length ≤ most) (I := fun μ' => Stp b μ μ') (rangeD 0 k) μ1 [] s1 (by simp) (by
    intro x hx μ' s'
    obtain ⟨p, μ2, e2, o2, l2, _, s2⟩ := pedals_ok (s'.bg h) most hm true
    exact ⟨_, p, μ2, rfl, by simp [e2], ⟨o2, l2⟩, s'.trans s2⟩) (by rw [rangeD_len]; simp [LIM]; omega)
  rw [rangeD_len] at l2
  simp at l2
  refine ⟨ps, μ2, ?_, fun p hp => (p2 p hp).1, fun p hp => (p2 p hp).2, by omega, by omega, s2⟩
  unfold g__law_board
  refine run_d ?_ s2.len
  unfold B__law_board
  simp only [List.map_cons, List.map_nil] at e1
  simp [startE, mkSeq, dats, LIM, e1, rg_k (show k ≤ 1000000 by omega)]
  simp at e2 ⊢
  rw [e2]
  simp [boardD]
theorem for_draw {β : Type} {g : FG} {bd : FS} {P : List β → Prop} {E : List β → Env → Prop} {I : Sto → Prop} (N : Nat) : ∀ (xs : List D) (acc : List β) (env : Env) (μ : Sto), acc.length + xs.length ≤ N → I μ → E acc env → P acc → (∀ x ∈ xs, ∀ acc env μ, acc.length < N → I μ → E acc env → P acc → ∃ env1 env2 b μ', g (.d x) env μ = .ok env1 μ ∧ bd env1 μ = .ok (.nx env2) μ' ∧ E (acc ++ [b]) env2 ∧ P (acc ++ [b]) ∧ I μ') → ∃ (bs : List β) (env' : Env) (μ' : Sto), forF g bd xs env μ = .ok (.nx env') μ' ∧ E bs env' ∧ bs.length = acc.length + xs.length ∧ P bs ∧ I μ'
  | [], acc, env, μ, _, h, he, hp, _ => ⟨acc, env, μ, rfl, he, rfl, hp, h⟩
  | x :: r, acc, env, μ, hN, h, he, hp, hs => by
    rw [List.length_cons] at hN
    obtain ⟨env1, env2, b, μ1, h1, h2, h3, h4, h5⟩ := hs x List.mem_cons_self acc env μ (by omega) h he hp
    obtain ⟨bs, env', μ', h6, h7, h8, h9⟩ := for_draw (P := P) (E := E) (I := I) N r (acc ++ [b]) env2 μ1 (by rw [List.length_append, List.length_singleton]; omega) h5 h3 h4 fun y hy => hs y (List.mem_cons_of_mem _ hy)
    refine ⟨bs, env', μ', ?_, h7, by rw [h8, List.length_append, List.length_singleton, List.length_cons]; omega, h9⟩
    unfold forF
    rw [h1]
    simp only [noex_ok, Rs.bind_ok, h2, h6]
theorem numbers_ok {b : Nat} {μ : Sto} (h : Bg b μ) (most : Nat) (hm : most < 1000) : ∃ ns μ', g__law_numbers [.l b, .d (.int most)] μ = .ok (.d (numsD ns)) μ' ∧ ns.length ≤ most ∧ (∀ n ∈ ns, -1000000000000 ≤ n ∧ n ≤ 1000000000000) ∧ Stp b μ μ' := by
  obtain ⟨n, μ1, e1, n0, n1, s1⟩ := take_ok h (m := (most : Int) + 1) (by omega) (by omega)
  obtain ⟨k, rfl⟩ := Int.eq_ofNat_of_zero_le n0
  have hk : k ≤ most := by omega
  have cp : CPow 10 12 := by unfold CPow; decide
  obtain ⟨ns, env', μ2, e2, he, l2, p2, s2⟩ := for_draw (β := Int) (g := gVar 3) (bd := (sCons (sAsg (fCall (callD 2 g__law_of) (fCons (fVar 0) (fCons (fLst (fCons (fC (.int 4)) (fCons (fC (.int 12)) (fCons (fC (.int 60)) (fCons (fC (.int 400)) (fCons (fOp (opI fun i j => if CPow i j then some (.int (i ^ j.toNat)) else none) (fC (.int 10)) (fC (.int 12))) (fNil))))))) (fNil)))) (gVar 4)) (sAsg (fOp addW (fVar 2) (fTup (fCons (fOp (opI fun i j => some (.int (i - j))) (fCall (callD 2 g__law_take) (fCons (fVar 0) (fCons (fOp addW (fOp mulW (fC (.int 2)) (fVar 4)) (fC (.int 1))) (fNil)))) (fVar 4)) (fNil)))) (gVar 2))))
    (P := fun ns => ∀ n ∈ ns, -1000000000000 ≤ n ∧ n ≤ 1000000000000) (E := fun ns env => ∃ t z, env = [some (.l b), some (.d (.int most)), some (.d (numsD ns)), t, z]) (I := fun μ' => Stp b μ μ') k (rangeD 0 k) [] [some (.l b), some (.d (.int most)), some (.d (numsD [])), none, none] μ1 (by rw [rangeD_len]; simp) s1 ⟨_, _, rfl⟩ (by simp) (by
    intro x hx acc env μ' hl s' he hp
    obtain ⟨t, z, rfl⟩ := he
    obtain ⟨m, μ3, e3, hm3, s3⟩ := of3 (s'.bg h) (xs := [4, 12, 60, 400, 1000000000000]) (by decide) (by decide)
    have hm3 : 4 ≤ m ∧ m ≤ 1000000000000 := by simp at hm3; omega
    have s3' := s'.trans s3
    obtain ⟨r, μ4, e4, r0, r1, s4⟩ := take_ok (s3'.bg h) (m := 2 * m + 1) (by omega) (by omega)
    have c : CMul 2 m := cmul1 (by omega)
    simp only [List.map_cons, List.map_nil] at e3
    refine ⟨_, [some (.l b), some (.d (.int most)), some (.d (numsD (acc ++ [r - m]))), some (.d x), some (.d (.int m))], r - m, μ4, rfl, ?_, ⟨_, _, rfl⟩, ?_, s3'.trans s4⟩
    · have cp' : (10 : Int) ^ (12 : Int).toNat = 1000000000000 := by decide
      have e5 : ∀ μ, opI (fun i j => if CPow i j then some (.int (i ^ j.toNat)) else none) (.d (.int 10)) (.d (.int 12)) μ = .ok (.d (.int 1000000000000)) μ := fun μ => by
        show (match (if CPow 10 12 then some (PyData.int ((10 : Int) ^ (12 : Int).toNat)) else none) with | some d => Rs.ok (Wv.d d) μ | none => Rs.no) = _
        rw [if_pos cp, cp']
      have hl' : acc.length + 1 ≤ 16000000 := by omega
      simp [e5, e3, c, e4, numsD, o_addT, LIM, hl']
    · intro n hn
      rcases List.mem_append.mp hn with hn | hn
      · exact hp n hn
      · rw [List.mem_singleton.mp hn]
        omega)
  rw [rangeD_len] at l2
  obtain ⟨t, z, rfl⟩ := he
  refine ⟨ns, μ2, ?_, by simp at l2; omega, p2, s2⟩
  unfold g__law_numbers
  refine run_d ?_ s2.len
  unfold B__law_numbers
  simp [startE, e1, rg_k (show k ≤ 1000000 by omega)]
  simp [numsD] at e2 ⊢
  rw [e2]
  simp

/-! ### the bag's making -/
theorem bag_ok (ns : List Int) (k : Nat) (hk : k < 1000) (μ : Sto) : ∃ x y, g__law_bag [.s ns, .d (.int k)] μ = .ok (.l μ.length) (μ ++ [bagO x y]) ∧ BagOk x y := by
  have cp : CPow 10 18 := by unfold CPow; decide
  have e5 : ∀ μ, opI (fun i j => if CPow i j then some (.int (i ^ j.toNat)) else none) (.d (.int 10)) (.d (.int 18)) μ = .ok (.d (.int 1000000000000000000)) μ := fun μ => by
    show (match (if CPow 10 18 then some (PyData.int ((10 : Int) ^ (18 : Int).toNat)) else none) with | some d => Rs.ok (Wv.d d) μ | none => Rs.no) = _
    rw [if_pos cp]
    rfl
  have hc : ∃ c : Int, 0 ≤ c ∧ (fIf (fB (fOp (cmpW fun i j => decide (i < j)) (fVar 1) (fCall kLen (fCons (fVar 0) (fNil))))) (fCall kAbs (fCons (fCall kInt (fCons (fOp ixW (fVar 0) (fVar 1)) (fNil))) (fNil))) (fOp addW (fOp mulW (fC (.int 53)) (fVar 1)) (fC (.int 13)))) [some (.s ns), some (.d (.int k)), none] μ = .ok (.d (.int c)) μ := by
    by_cases h : k < ns.length
    · refine ⟨if ns[k] < 0 then -ns[k] else ns[k], by split <;> omega, ?_⟩
      have e : ixW (.s ns) (.d (.int k)) μ = .ok (.d (.int ns[k])) μ := by
        show (match atI ns (k : Int) with | some k => Rs.ok (Wv.d (.int k)) μ | none => Rs.no) = _
        rw [atI_nat, List.getElem?_eq_getElem h]
      simp [h, e]
    · have c : CMul 53 k := cmul1 (by omega)
      exact ⟨53 * k + 13, by omega, by simp [h, c]⟩
  obtain ⟨c, c0, ec⟩ := hc
  have ck : CMul 70001 k := cmul1 (by omega)
  refine ⟨if 1000000000000000000 ≤ c then c else 0, (c % 2147483423 + 70001 * k + 31) % 2147483423, ?_, by split <;> omega, Int.emod_nonneg _ (by decide), Int.emod_lt_of_pos _ (by decide)⟩
  unfold g__law_bag runF B__law_bag
  have hs : startE 3 [.s ns, .d (.int k)] = [some (.s ns), some (.d (.int k)), none] := rfl
  rw [hs, e_sCons, e_sAsg, ec]
  simp [e5, o_mod (show (0 : Int) < 2147483423 by decide), ck, LIM]
  have key : ∀ z : Int, handBack μ (.rt (.l μ.length)) (μ ++ [.lst [.d (.int z), .d (.int ((c % 2147483423 + 70001 * k + 31) % 2147483423))]]) = .ok (.l μ.length) (μ ++ [bagO z ((c % 2147483423 + 70001 * k + 31) % 2147483423)]) := fun z => by
    unfold handBack
    simp [bagO]
  by_cases hz : 1000000000000000000 ≤ c
  · simp [hz, key]
  · simp [hz, key]
theorem bag_new {μ : Sto} {x y : Int} (h : BagOk x y) : Bg μ.length (μ ++ [bagO x y]) := ⟨x, y, by simp, h⟩
end Ped

/-! PedR: what the program's own functions answer of pedals, rows, boards, sounds -/
namespace Ped
open PySem L2 PyProof.Rows PySem.Spec
def shape : Pd → Int → Int
  | .louder k, n => n * k
  | .cut k, n => if (if n < k then n else k) > 0 - k then (if n < k then n else k) else 0 - k
  | .gate k, n => if k ≤ n ∨ n ≤ 0 - k then n else 0
  | .turn, n => 0 - n
  | .fold, n => if 0 - n > n then 0 - n else n
  | .lift k, n => n + k
  | .steps k, n => if 0 ≤ n then n - n % k else (0 - n) % k + n
  | .late _, n => n
def rowShape (r : List Pd) (n : Int) : Int := r.foldl (fun n p => shape p n) n
def lateK : Pd → Int
  | .late k => k
  | _ => 0
def lateOf (r : List Pd) : Int := (r.map lateK).sum
theorem isty_int (T : String) (i : Int) : isTy T (.int i) = ("int" == T || (T == "int" && "int" == "bool")) := rfl
/-- data of a known depth, that can be laid -/
def Shp (n : Nat) (d : D) : Prop := d.canLay0 = true ∧ d.depth ≤ n
theorem Shp.mono {m n : Nat} {d : D} (h : Shp m d) (hm : m ≤ n) : Shp n d := ⟨h.1, Nat.le_trans h.2 hm⟩
theorem Shp.shaped {n : Nat} {d : D} (h : Shp n d) (hn : n ≤ 64) : SeqAt.shaped d = true := by
  unfold SeqAt.shaped
  rw [h.1, decide_eq_true (Nat.le_trans h.2 hn)]
  rfl
theorem Shp.int (i : Int) (n : Nat) : Shp n (.int i) := ⟨rfl, Nat.zero_le _⟩
theorem Shp.bool (i : Bool) (n : Nat) : Shp n (.bool i) := ⟨rfl, Nat.zero_le _⟩
theorem Shp.non (n : Nat) : Shp n .none := ⟨rfl, Nat.zero_le _⟩
theorem Shp.str {s : Str} (h : (PyData.str s).canLay0 = true) (n : Nat) : Shp n (.str s) := ⟨h, Nat.zero_le _⟩
theorem Shp.all {n : Nat} : ∀ {ds : List D}, (∀ d ∈ ds, Shp n d) → PyData.canLayAll0 ds = true ∧ PyData.depthAll ds ≤ n
  | [], _ => ⟨rfl, Nat.zero_le _⟩
  | d :: r, h => by
    obtain ⟨h1, h2⟩ := Shp.all fun e he => h e (List.mem_cons_of_mem _ he)
    obtain ⟨h3, h4⟩ := h d List.mem_cons_self
    exact ⟨by show (d.canLay0 && PyData.canLayAll0 r) = true; rw [h1, h3]; rfl, Nat.max_le.mpr ⟨h4, h2⟩⟩
theorem Shp.tup {n : Nat} {ds : List D} (h : ∀ d ∈ ds, Shp n d) : Shp (n + 1) (.tuple ds) := ⟨(Shp.all h).1, Nat.succ_le_succ (Shp.all h).2⟩
theorem Shp.lst {n : Nat} {ds : List D} (h : ∀ d ∈ ds, Shp n d) : Shp (n + 1) (.list ds) := ⟨(Shp.all h).1, Nat.succ_le_succ (Shp.all h).2⟩
theorem shp_pd (p : Pd) : Shp 1 p.toD := by
  cases p <;> (refine Shp.tup fun d hd => ?_) <;> simp at hd <;> (try rcases hd with rfl | rfl) <;> (try subst hd) <;> first | exact .str (by decide +kernel) 0 | exact .int _ 0
theorem shp_row (r : List Pd) : Shp 2 (rowD r) := Shp.tup fun d hd => by
  obtain ⟨p, _, rfl⟩ := List.mem_map.mp hd
  exact shp_pd p
theorem shp_board (b : List (List Pd)) : Shp 3 (boardD b) := Shp.tup fun d hd => by
  obtain ⟨p, _, rfl⟩ := List.mem_map.mp hd
  exact shp_row p
theorem shp_nil : SeqAt.shaped (.tuple []) = true := rfl
section
variable {μ : Sto}
@[simp] theorem is_number_i (i : Int) : g_is_number [.d (.int i)] μ = .ok (.d (.bool true)) μ := by
  unfold g_is_number
  refine run_0 ?_
  unfold B_is_number
  simp [startE, isTy, tyD]
@[simp] theorem isTy_tup (ds : List D) : isTy "tuple" (.tuple ds) = true := rfl
@[simp] theorem isTy_str (s : Str) : isTy "str" (.str s) = true := rfl
theorem same_eqv {d e : D} (h : scalD d e = true) : sameD d e = PyData.eqv d e := by
  cases d <;> cases e <;> first | exact absurd h Bool.false_ne_true | (simp [sameD, PyData.eqv]; done) | (simp only [sameD, PyData.eqv]; rename_i a b; by_cases hh : a = b <;> simp [hh])
theorem eq_dd (n : Bool) {d e : D} (h1 : SeqAt.shaped d = true) (h2 : SeqAt.shaped e = true) : eqW n (.d d) (.d e) μ = .ok (.d (.bool (if n then !(PyData.eqv d e) else PyData.eqv d e))) μ := by
  show (match eqD d e with | some b => Rs.ok (Wv.d (.bool (if n then !b else b))) μ | none => Rs.no) = _
  unfold eqD
  by_cases hs : scalD d e = true
  · rw [if_pos hs, same_eqv hs]
  · rw [if_neg hs, if_pos ⟨h1, h2⟩]
@[simp] theorem look_louder : v_BOUNDS.lookup ("louder" : Str) = some (2, 4) := by with_unfolding_all rfl
@[simp] theorem look_cut : v_BOUNDS.lookup ("cut" : Str) = some (1, 50) := by with_unfolding_all rfl
@[simp] theorem look_gate : v_BOUNDS.lookup ("gate" : Str) = some (1, 50) := by with_unfolding_all rfl
@[simp] theorem look_lift : v_BOUNDS.lookup ("lift" : Str) = some (-20, 20) := by with_unfolding_all rfl
@[simp] theorem look_steps : v_BOUNDS.lookup ("steps" : Str) = some (2, 5) := by with_unfolding_all rfl
@[simp] theorem look_late : v_BOUNDS.lookup ("late" : Str) = some (1, 5) := by with_unfolding_all rfl
@[simp] theorem look_turn : v_BOUNDS.lookup ("turn" : Str) = none := by with_unfolding_all rfl
@[simp] theorem look_fold : v_BOUNDS.lookup ("fold" : Str) = none := by with_unfolding_all rfl
@[simp] theorem inTab_s (n : Bool) (z : Str) : inTabW n v_BOUNDS (.d (.str z)) μ = .ok (.d (.bool (if n then !(v_BOUNDS.lookup z).isSome else (v_BOUNDS.lookup z).isSome))) μ := rfl
@[simp] theorem inPlain (z : Str) : inKW false v_PLAIN (.d (.str z)) μ = .ok (.d (.bool (decide (z = "turn" ∨ z = "fold")))) μ := by
  show (if flatD (.str z) = true ∧ v_PLAIN.all flatD = true then Rs.ok (Wv.d (.bool (if false = true then !(v_PLAIN.any fun y => PyData.eqv y (.str z)) else v_PLAIN.any fun y => PyData.eqv y (.str z)))) μ else Rs.no) = _
  rw [if_pos ⟨rfl, rfl⟩, if_neg Bool.false_ne_true]
  congr 3
  unfold v_PLAIN
  simp only [List.map_cons, List.map_nil, List.any_cons, List.any_nil, eqv_str, Bool.or_false]
  by_cases h1 : z = "turn" <;> by_cases h2 : z = "fold" <;> simp [h1, h2, eq_comm]
theorem is_pedal_ok {p : Pd} (h : p.ok) : g_is_pedal [.d p.toD] μ = .ok (.d (.bool true)) μ := by
  unfold g_is_pedal
  refine run_0 ?_
  unfold B_is_pedal
  have hs := eq_dd (μ := μ) false ((shp_pd p).shaped (by decide)) shp_nil
  cases p <;> simp [Pd.ok] at h <;> simp [Pd.toD] at hs <;> simp [startE, Pd.toD, eq_int, hs, sTab, h, PyData.eqv, PyData.eqvAll] <;> omega
theorem toD_tuple (p : Pd) : ∃ ds, p.toD = .tuple ds := by cases p <;> exact ⟨_, rfl⟩
theorem all_true {α : Type} (xs : List α) : (xs.map fun _ => PyData.bool true) = (List.replicate xs.length true).map PyData.bool := by
  induction xs with
  | nil => rfl
  | cons a r ih => simp [List.replicate_succ, ih]
theorem kAll_true {α : Type} (xs : List α) : kAll [.d (.list (xs.map fun _ => PyData.bool true))] μ = .ok (.d (.bool true)) μ := by
  rw [all_true, k_all_b]
  simp
theorem is_row_ok {r : List Pd} (h : rowOk r) (hl : r.length ≤ 6) : g_is_row [.d (rowD r)] μ = .ok (.d (.bool true)) μ := by
  unfold g_is_row
  refine run_0 ?_
  unfold B_is_row
  have e := comp_map (g := gVar 1) (e := fCall (callD 1 g_is_pedal) (fCons (fVar 1) (fNil))) (env := [some (.d (rowD r)), none]) (toD := Pd.toD) (φ := fun _ => .bool true) r μ [] (fun p hp => ⟨_, rfl, by simp [is_pedal_ok (h p hp)]⟩) (by simp [LIM]; omega)
  simp [startE, rowD] at e ⊢
  have hl' : (r.length : Int) ≤ 6 := by omega
  simp [hl', e, kAll_true]
theorem is_board_ok {b : List (List Pd)} (h : boardOk b) (hl : ∀ r ∈ b, r.length ≤ 6) (h1 : 1 ≤ b.length) (h3 : b.length ≤ 3) : g_is_board [.d (boardD b)] μ = .ok (.d (.bool true)) μ := by
  unfold g_is_board
  refine run_0 ?_
  unfold B_is_board
  have e := comp_map (g := gVar 1) (e := fCall (callD 1 g_is_row) (fCons (fVar 1) (fNil))) (env := [some (.d (boardD b)), none]) (toD := rowD) (φ := fun _ => .bool true) b μ [] (fun p hp => ⟨_, rfl, by simp [is_row_ok (h p hp) (hl p hp)]⟩) (by simp [LIM]; omega)
  simp [startE, boardD] at e ⊢
  have hl' : (b.length : Int) ≤ 3 := by omega
  have hl2 : 1 ≤ (b.length : Int) := by omega
  simp [hl', hl2, e, kAll_true]
theorem are_numbers_ok (ns : List Int) (hl : ns.length ≤ 1000000) : g_are_numbers [.d (numsD ns)] μ = .ok (.d (.bool true)) μ := by
  unfold g_are_numbers
  refine run_0 ?_
  unfold B_are_numbers
  have e := comp_map (g := gVar 1) (e := fCall (callD 1 g_is_number) (fCons (fVar 1) (fNil))) (env := [some (.d (numsD ns)), none]) (toD := PyData.int) (φ := fun _ => .bool true) ns μ [] (fun p hp => ⟨_, rfl, by simp⟩) (by simp [LIM]; omega)
  simp [startE, numsD] at e ⊢
  simp [e, kAll_true]
theorem is_sound_ok (ns : List Int) (hl : ns.length ≤ 40) : g_is_sound [.d (numsD ns)] μ = .ok (.d (.bool true)) μ := by
  unfold g_is_sound
  refine run_0 ?_
  unfold B_is_sound
  have hl' : (ns.length : Int) ≤ 40 := by omega
  have e := are_numbers_ok (μ := μ) ns (by omega)
  simp [numsD] at e
  simp [startE, e, numsD, hl']
theorem need_row_ok {r : List Pd} (h : rowOk r) (hl : r.length ≤ 6) : g_need_row [.d (rowD r)] μ = .ok (.d .none) μ := by
  unfold g_need_row
  refine run_n (env := [some (.d (rowD r))]) ?_
  unfold B_need_row
  simp [startE, is_row_ok h hl]
theorem need_board_ok {b : List (List Pd)} (h : boardOk b) (hl : ∀ r ∈ b, r.length ≤ 6) (h1 : 1 ≤ b.length) (h3 : b.length ≤ 3) : g_need_board [.d (boardD b)] μ = .ok (.d .none) μ := by
  unfold g_need_board
  refine run_n (env := [some (.d (boardD b))]) ?_
  unfold B_need_board
  simp [startE, is_board_ok h hl h1 h3]
theorem need_sound_ok (ns : List Int) (hl : ns.length ≤ 40) : g_need_sound [.d (numsD ns)] μ = .ok (.d .none) μ := by
  unfold g_need_sound
  refine run_n (env := [some (.d (numsD ns))]) ?_
  unfold B_need_sound
  simp [startE, is_sound_ok ns hl]
theorem need_number_ok (n : Int) : g_need_number [.d (.int n)] μ = .ok (.d .none) μ := by
  unfold g_need_number
  refine run_n (env := [some (.d (.int n))]) ?_
  unfold B_need_number
  simp [startE]
theorem pedal_shape_ok {p : Pd} (h : p.ok) (n : Int) : g_pedal_shape [.d p.toD, .d (.int n)] μ = .ok (.d (.int (shape p n))) μ := by
  unfold g_pedal_shape
  refine run_0 ?_
  unfold B_pedal_shape
  cases p with
  | louder k =>
    have c : CMul n k := cmul2 (by simp [Pd.ok] at h; omega)
    simp [startE, Pd.toD, eq_str, c, shape]
  | steps k =>
    have c : 0 < k := by simp [Pd.ok] at h; omega
    by_cases hn : 0 ≤ n <;> simp [startE, Pd.toD, eq_str, shape, o_mod c, hn]
  | gate k =>
    by_cases h1 : k ≤ n
    · simp [startE, Pd.toD, eq_str, shape, h1]
    · by_cases h2 : n ≤ -k <;> simp [startE, Pd.toD, eq_str, shape, h1, h2]
  | _ => simp [startE, Pd.toD, eq_str, shape]
theorem row_shape_ok {r : List Pd} (h : rowOk r) (n : Int) : g_row_shape [.d (rowD r), .d (.int n)] μ = .ok (.d (.int (rowShape r n))) μ := by
  unfold g_row_shape
  refine run_0 ?_
  unfold B_row_shape
  obtain ⟨env', e, t, rfl⟩ := for_fold (g := gVar 2) (b := sAsg (fCall (callD 2 g_pedal_shape) (fCons (fVar 2) (fCons (fVar 1) (fNil)))) (gVar 1)) (toD := Pd.toD) (E := fun n env => ∃ t, env = [some (.d (rowD r)), some (.d (.int n)), t]) (step := fun n p => shape p n) r n [some (.d (rowD r)), some (.d (.int n)), none] μ ⟨_, rfl⟩ (by
    rintro p hp n env ⟨t, rfl⟩
    exact ⟨_, _, rfl, by simp [pedal_shape_ok (h p hp)]; rfl, _, rfl⟩)
  simp [startE, rowD] at e ⊢
  rw [e]
  simp [rowShape]
@[simp] theorem k_sum_g {α : Type} (f : α → Int) (xs : List α) : kSum [.d (.list (xs.map fun x => .int (f x)))] μ = .ok (.d (.int (xs.map f).sum)) μ := by
  have := k_sum_i (μ := μ) (xs.map f)
  rw [List.map_map] at this
  exact this
theorem late_sum : ∀ r : List Pd, ((r.filter Pd.isLate).map lateK).sum = lateOf r
  | [] => rfl
  | p :: r => by
    have := late_sum r
    cases p <;> simp_all [List.filter_cons, Pd.isLate, lateK, lateOf]
theorem late_of_ok {r : List Pd} (hl : r.length ≤ 1000000) : g_late_of [.d (rowD r)] μ = .ok (.d (.int (lateOf r))) μ := by
  unfold g_late_of
  refine run_0 ?_
  unfold B_late_of
  have e := comp_filter (g := gVar 1) (t := fB (fOp (eqW false) (fOp ixW (fVar 1) (fC (.int 0))) (fC (.str "late")))) (e := fOp ixW (fVar 1) (fC (.int 1))) (env := [some (.d (rowD r)), none]) (toD := Pd.toD) (q := Pd.isLate) (φ := fun p => .int (lateK p)) r μ [] (by
    intro p hp
    refine ⟨_, rfl, ?_, ?_⟩
    · cases p <;> simp [Pd.toD, eq_str, Pd.isLate]
    · cases p <;> simp [Pd.toD, Pd.isLate, lateK]) (by simp [LIM]; omega)
  simp only [List.nil_append, rowD] at e
  simp [startE, rowD, e, late_sum]
end
end Ped

/-! PedS: what is heard; the law's own shaping and hearing -/
namespace Ped
open PySem L2 PyProof.Rows PySem.Spec
/-! ### data that is the same -/
mutual
theorem eqv_refl : ∀ d : D, d.canLay0 = true → PyData.eqv d d = true
  | .none, _ => rfl
  | .bool b, _ => by simp [PyData.eqv]
  | .int b, _ => by simp [PyData.eqv]
  | .str b, _ => by simp [PyData.eqv]
  | .list xs, h => eqvAll_refl xs h
  | .tuple xs, h => eqvAll_refl xs h
  | .dict _, h => by cases h
theorem eqvAll_refl : ∀ ds : List D, PyData.canLayAll0 ds = true → PyData.eqvAll ds ds = true
  | [], _ => rfl
  | d :: r, h => by
    have h : (d.canLay0 && PyData.canLayAll0 r) = true := h
    rw [Bool.and_eq_true] at h
    show (PyData.eqv d d && PyData.eqvAll r r) = true
    rw [eqv_refl d h.1, eqvAll_refl r h.2]
    rfl
end
section
variable {μ : Sto}
theorem ne_same {d : D} {n : Nat} (h : Shp n d) (hn : n ≤ 64) : eqW true (.d d) (.d d) μ = .ok (.d (.bool false)) μ := by
  rw [eq_dd true (h.shaped hn) (h.shaped hn), eqv_refl d h.1]
  rfl
theorem shp_ints (ns : List Int) : Shp 1 (.list (ns.map PyData.int)) := Shp.lst fun d hd => by
  obtain ⟨i, _, rfl⟩ := List.mem_map.mp hd
  exact .int i 0
theorem shp_nums (ns : List Int) : Shp 1 (numsD ns) := Shp.tup fun d hd => by
  obtain ⟨i, _, rfl⟩ := List.mem_map.mp hd
  exact .int i 0
end
/-! ### loops over names and store -/
theorem for_step {α σ : Type} {g : FG} {b : FS} {toD : α → D} {E : σ → Env → Sto → Prop} {step : σ → α → σ} : ∀ (xs : List α) (s : σ) (env : Env) (μ : Sto), E s env μ → (∀ x ∈ xs, ∀ s env μ, E s env μ → ∃ env1 μ1 env2 μ2, g (.d (toD x)) env μ = .ok env1 μ1 ∧ b env1 μ1 = .ok (.nx env2) μ2 ∧ E (step s x) env2 μ2) → ∃ env' μ', forF g b (xs.map toD) env μ = .ok (.nx env') μ' ∧ E (xs.foldl step s) env' μ'
  | [], s, env, μ, h, _ => ⟨env, μ, rfl, h⟩
  | x :: r, s, env, μ, h, hs => by
    obtain ⟨env1, μ1, env2, μ2, h1, h2, h3⟩ := hs x List.mem_cons_self s env μ h
    obtain ⟨env', μ', h4, h5⟩ := for_step r (step s x) env2 μ2 h3 fun y hy => hs y (List.mem_cons_of_mem _ hy)
    refine ⟨env', μ', ?_, h5⟩
    rw [List.map_cons]
    unfold forF
    rw [h1]
    simp only [noex_ok, Rs.bind_ok, h2, h4]
theorem rangeD_eq (n : Nat) : rangeD 0 n = (List.range n).map fun i => PyData.int (i : Nat) := by
  unfold rangeD
  simp
/-! ### the program's hearing -/
def numAt (ns : List Int) (t : Int) : Int := if 0 ≤ t ∧ t < ns.length then ns.getD t.toNat 0 else 0
def heardAt (B : List (List Pd)) (ns : List Int) (t : Int) : Int := (B.map fun r => rowShape r (numAt ns (t - lateOf r))).sum
def boardLate (B : List (List Pd)) : Int := (maxL (B.map lateOf)).getD 0
def allHeard (B : List (List Pd)) (ns : List Int) : List Int := (List.range (ns.length + (boardLate B).toNat)).map fun t => heardAt B ns (t : Nat)
theorem late_bound : ∀ {r : List Pd}, rowOk r → 0 ≤ lateOf r ∧ lateOf r ≤ 5 * r.length
  | [], _ => ⟨Int.le_refl _, Int.le_refl _⟩
  | p :: r, h => by
    have ih := late_bound (r := r) fun q hq => h q (List.mem_cons_of_mem _ hq)
    have hp := h p List.mem_cons_self
    have e : lateOf (p :: r) = lateK p + lateOf r := by simp [lateOf]
    have hk : 0 ≤ lateK p ∧ lateK p ≤ 5 := by
      cases p <;> simp [Pd.ok] at hp <;> simp [lateK] <;> omega
    rw [e, List.length_cons]
    omega
theorem maxL_bound : ∀ {xs : List Int} {a b : Int}, xs ≠ [] → (∀ x ∈ xs, a ≤ x ∧ x ≤ b) → ∃ m, maxL xs = some m ∧ a ≤ m ∧ m ≤ b
  | [], _, _, h, _ => absurd rfl h
  | x :: r, a, b, _, h => by
    obtain ⟨h1, h2, h3⟩ := foldl_max r x
    refine ⟨_, rfl, ?_, ?_⟩
    · have := h x List.mem_cons_self
      omega
    · rcases h1 with h1 | h1
      · rw [h1]; exact (h x List.mem_cons_self).2
      · exact (h _ (List.mem_cons_of_mem _ h1)).2
theorem boardLate_ok {B : List (List Pd)} (h : boardOk B) (hl : ∀ r ∈ B, r.length ≤ 6) (h1 : 1 ≤ B.length) : maxL (B.map lateOf) = some (boardLate B) ∧ 0 ≤ boardLate B ∧ boardLate B ≤ 30 := by
  obtain ⟨m, e, a, b⟩ := maxL_bound (xs := B.map lateOf) (a := 0) (b := 30) (by intro z; have := congrArg List.length z; simp at this; subst this; simp at h1) (by
    intro x hx
    obtain ⟨r, hr, rfl⟩ := List.mem_map.mp hx
    have := late_bound (h r hr)
    have := hl r hr
    omega)
  unfold boardLate
  rw [e]
  exact ⟨rfl, a, b⟩
section
variable {μ : Sto}
theorem k_max_g {α : Type} (f : α → Int) (xs : List α) {m : Int} (h : maxL (xs.map f) = some m) : kMax [.d (.list (xs.map fun x => .int (f x)))] μ = .ok (.d (.int m)) μ := by
  have := k_max_i (μ := μ) h
  rw [List.map_map] at this
  exact this
theorem number_at_ok (ns : List Int) (t : Int) : g_number_at [.d (numsD ns), .d (.int t)] μ = .ok (.d (.int (numAt ns t))) μ := by
  unfold g_number_at
  refine run_0 ?_
  unfold B_number_at numAt
  by_cases h1 : 0 ≤ t
  · by_cases h2 : t < ns.length
    · obtain ⟨k, rfl⟩ := Int.eq_ofNat_of_zero_le h1
      have hk : k < ns.length := by omega
      have e : ixW (.d (.tuple (ns.map PyData.int))) (.d (.int (k : Int))) μ = .ok (.d (.int ns[k])) μ := by
        show (match atI (ns.map PyData.int) (k : Int) with | some d => Rs.ok (Wv.d d) μ | none => Rs.no) = _
        rw [atI_nat, List.getElem?_map, List.getElem?_eq_getElem hk]
        rfl
      simp [startE, numsD, h2, hk, e]
    · simp [startE, numsD, h1, h2]
  · simp [startE, numsD, h1]
theorem heard_at_ok {B : List (List Pd)} (h : boardOk B) (hl : ∀ r ∈ B, r.length ≤ 1000000) (hB : B.length ≤ 1000000) (ns : List Int) (t : Int) : g_heard_at [.d (boardD B), .d (numsD ns), .d (.int t)] μ = .ok (.d (.int (heardAt B ns t))) μ := by
  unfold g_heard_at
  refine run_0 ?_
  unfold B_heard_at
  have e := comp_map (g := gVar 3) (e := fCall (callD 2 g_row_shape) (fCons (fVar 3) (fCons (fCall (callD 2 g_number_at) (fCons (fVar 1) (fCons (fOp (opI fun i j => some (.int (i - j))) (fVar 2) (fCall (callD 1 g_late_of) (fCons (fVar 3) (fNil)))) (fNil)))) (fNil)))) (env := [some (.d (boardD B)), some (.d (numsD ns)), some (.d (.int t)), none]) (toD := rowD) (φ := fun r => .int (rowShape r (numAt ns (t - lateOf r)))) B μ [] (fun r hr => ⟨_, rfl, by simp [late_of_ok (hl r hr), number_at_ok, row_shape_ok (h r hr)]⟩) (by simp [LIM]; omega)
  simp only [List.nil_append, boardD] at e
  simp [startE, boardD, e, heardAt]
theorem board_late_ok {B : List (List Pd)} (h : boardOk B) (hl : ∀ r ∈ B, r.length ≤ 6) (h1 : 1 ≤ B.length) (h3 : B.length ≤ 1000000) : g_board_late [.d (boardD B)] μ = .ok (.d (.int (boardLate B))) μ := by
  unfold g_board_late
  refine run_0 ?_
  unfold B_board_late
  have e := comp_map (g := gVar 1) (e := fCall (callD 1 g_late_of) (fCons (fVar 1) (fNil))) (env := [some (.d (boardD B)), none]) (toD := rowD) (φ := fun r => .int (lateOf r)) B μ [] (fun r hr => ⟨_, rfl, by have := hl r hr; simp [late_of_ok (show r.length ≤ 1000000 by omega)]⟩) (by simp [LIM]; omega)
  simp only [List.nil_append, boardD] at e
  simp [startE, boardD, e, k_max_g lateOf B (boardLate_ok h hl h1).1]
theorem all_heard_ok {B : List (List Pd)} (h : boardOk B) (hl : ∀ r ∈ B, r.length ≤ 6) (h1 : 1 ≤ B.length) (h3 : B.length ≤ 1000000) (ns : List Int) (hn : ns.length ≤ 100000) : g_all_heard [.d (boardD B), .d (numsD ns)] μ = .ok (.d (.list ((allHeard B ns).map PyData.int))) μ := by
  unfold g_all_heard
  refine run_0 ?_
  unfold B_all_heard
  obtain ⟨_, b0, b30⟩ := boardLate_ok h hl h1
  obtain ⟨k, hk⟩ := Int.eq_ofNat_of_zero_le b0
  have e := comp_map (g := gVar 2) (e := fCall (callD 3 g_heard_at) (fCons (fVar 0) (fCons (fVar 1) (fCons (fVar 2) (fNil))))) (env := [some (.d (boardD B)), some (.d (numsD ns)), none]) (toD := fun i : Nat => .int (i : Int)) (φ := fun t => .int (heardAt B ns (t : Nat))) (List.range (ns.length + k)) μ [] (fun t ht => ⟨_, rfl, by simp [heard_at_ok h (fun r hr => by have := hl r hr; omega) h3]⟩) (by simp [LIM]; omega)
  rw [← rangeD_eq] at e
  have e2 := rg_l (μ := μ) (show ns.length + k ≤ 1000000 by omega)
  have e3 := board_late_ok (μ := μ) h hl h1 h3
  simp only [List.nil_append, boardD, numsD] at e e3
  rw [Int.natCast_add] at e2
  simp [startE, boardD, numsD, hk, e3, e2, e, allHeard]
theorem shaped_ok {r : List Pd} (h : rowOk r) (hl : r.length ≤ 6) (n : Int) : g_shaped [.d (rowD r), .d (.int n)] μ = .ok (.d (.int (rowShape r n))) μ := by
  unfold g_shaped
  refine run_0 ?_
  unfold B_shaped
  simp [startE, need_row_ok h hl, need_number_ok, row_shape_ok h]
theorem heard_ok {B : List (List Pd)} (h : boardOk B) (hl : ∀ r ∈ B, r.length ≤ 6) (h1 : 1 ≤ B.length) (h3 : B.length ≤ 3) (ns : List Int) (hn : ns.length ≤ 40) : g_heard [.d (boardD B), .d (numsD ns)] μ = .ok (.d (.list ((allHeard B ns).map PyData.int))) μ := by
  unfold g_heard
  refine run_0 ?_
  unfold B_heard
  simp [startE, need_board_ok h hl h1 h3, need_sound_ok ns hn, all_heard_ok h hl h1 (by omega) ns (by omega)]
theorem silence_ok {B : List (List Pd)} (h : boardOk B) (hl : ∀ r ∈ B, r.length ≤ 6) (h1 : 1 ≤ B.length) (h3 : B.length ≤ 3) : g_silence [.d (boardD B)] μ = .ok (.d (.int (heardAt B [] 0))) μ := by
  unfold g_silence
  refine run_0 ?_
  unfold B_silence
  have e := heard_at_ok (μ := μ) h (fun r hr => by have := hl r hr; omega) (show B.length ≤ 1000000 by omega) [] 0
  simp [numsD] at e
  simp [startE, need_board_ok h hl h1 h3, e]
end
end Ped

/-! PedT: the law's own shaping and hearing -/
namespace Ped
open PySem L2 PyProof.Rows PySem.Spec
def sgn (n : Int) : Int := if n < 0 then -1 else 1
def lshape : Pd → Int → Int
  | .louder k, n => k * n
  | .cut k, n => if sgn n * n > k then sgn n * k else n
  | .gate k, n => if sgn n * n < k then 0 else n
  | .turn, n => -n
  | .fold, n => sgn n * n
  | .lift k, n => n + k
  | .steps k, n => sgn n * (sgn n * n / k) * k
  | .late _, n => n
theorem lshape_eq {p : Pd} (h : p.ok) (n : Int) : lshape p n = shape p n := by
  unfold lshape shape sgn
  cases p with
  | louder k => exact Int.mul_comm _ _
  | cut k =>
    simp [Pd.ok] at h
    by_cases hn : n < 0 <;> simp only [hn, if_true, if_false] <;> repeat (first | omega | split)
  | gate k =>
    simp [Pd.ok] at h
    by_cases hn : n < 0 <;> simp only [hn, if_true, if_false] <;> repeat (first | omega | split)
  | turn => simp
  | fold => by_cases hn : n < 0 <;> simp only [hn, if_true, if_false] <;> repeat (first | omega | split)
  | lift k => rfl
  | late k => rfl
  | steps k =>
    simp [Pd.ok] at h
    by_cases hn : n < 0
    · have h1 : ¬ 0 ≤ n := by omega
      simp only [hn, h1, if_true, if_false]
      have e1 : -1 * n = 0 - n := by omega
      rw [e1]
      have e := Int.emod_add_mul_ediv (0 - n) k
      have e2 : -1 * ((0 - n) / k) * k = -(k * ((0 - n) / k)) := by
        rw [Int.neg_mul, Int.neg_mul, Int.one_mul, Int.mul_comm]
      rw [e2]
      omega
    · have h1 : 0 ≤ n := by omega
      simp only [hn, h1, if_true, if_false]
      have e := Int.emod_add_mul_ediv n k
      rw [Int.one_mul, Int.one_mul, Int.mul_comm]
      omega
section
variable {μ : Sto}
theorem law_shape_ok {r : List Pd} (h : rowOk r) (n : Int) : g__law_shape [.d (rowD r), .d (.int n)] μ = .ok (.d (.int (rowShape r n))) μ := by
  unfold g__law_shape
  refine run_0 ?_
  unfold B__law_shape
  obtain ⟨env', e, a, b, c, d, rfl⟩ := for_fold (g := gVar 2) (b := (sCons (sPar 4 5 (fCons (fOp ixW (fVar 2) (fC (.int 0))) (fCons (fIf (fB (fOp (cmpW fun i j => decide (i < j)) (fVar 1) (fC (.int 0)))) (fNeg (fC (.int 1))) (fC (.int 1))) (fNil)))) (sCons (sAsg (fOp mulW (fVar 5) (fVar 1)) (gVar 3)) (sIf (fB (fOp (eqW false) (fVar 4) (fC (.str "louder")))) (sAsg (fOp mulW (fOp ixW (fVar 2) (fC (.int 1))) (fVar 1)) (gVar 1)) (sIf (fB (fOp (eqW false) (fVar 4) (fC (.str "lift")))) (sAsg (fOp addW (fVar 1) (fOp ixW (fVar 2) (fC (.int 1)))) (gVar 1)) (sIf (fB (fOp (eqW false) (fVar 4) (fC (.str "turn")))) (sAsg (fNeg (fVar 1)) (gVar 1)) (sIf (fB (fOp (eqW false) (fVar 4) (fC (.str "fold")))) (sAsg (fVar 3) (gVar 1)) (sIf (fAnd (fB (fOp (eqW false) (fVar 4) (fC (.str "cut")))) (fB (fOp (cmpW fun i j => decide (j < i)) (fVar 3) (fOp ixW (fVar 2) (fC (.int 1)))))) (sAsg (fOp mulW (fVar 5) (fOp ixW (fVar 2) (fC (.int 1)))) (gVar 1)) (sIf (fAnd (fB (fOp (eqW false) (fVar 4) (fC (.str "gate")))) (fB (fOp (cmpW fun i j => decide (i < j)) (fVar 3) (fOp ixW (fVar 2) (fC (.int 1)))))) (sAsg (fC (.int 0)) (gVar 1)) (sIf (fB (fOp (eqW false) (fVar 4) (fC (.str "steps")))) (sAsg (fOp mulW (fOp mulW (fVar 5) (fOp (opI divI) (fVar 3) (fOp ixW (fVar 2) (fC (.int 1))))) (fOp ixW (fVar 2) (fC (.int 1)))) (gVar 1)) (sNil)))))))))))
    (toD := Pd.toD) (E := fun n env => ∃ a b c d, env = [some (.d (rowD r)), some (.d (.int n)), a, b, c, d]) (step := fun n p => shape p n) r n [some (.d (rowD r)), some (.d (.int n)), none, none, none, none] μ ⟨_, _, _, _, rfl⟩ (by
    rintro p hp n env ⟨a, b, c, d, rfl⟩
    have hok := h p hp
    refine ⟨_, [some (.d (rowD r)), some (.d (.int (shape p n))), some (.d p.toD), some (.d (.int (sgn n * n))), some (.d (.str (match p with | .louder _ => "louder" | .cut _ => "cut" | .gate _ => "gate" | .turn => "turn" | .fold => "fold" | .lift _ => "lift" | .steps _ => "steps" | .late _ => "late"))), some (.d (.int (sgn n)))], rfl, ?_, _, _, _, _, rfl⟩
    rw [← lshape_eq hok]
    have c1 : CMul (-1) n := cmul1 (by omega)
    have c2 : CMul 1 n := cmul1 (by omega)
    cases p with
    | louder k =>
      have c : CMul k n := cmul1 (by simp [Pd.ok] at hok; omega)
      by_cases hn : n < 0 <;> simp [hn, Pd.toD, eq_str, lshape, sgn, c, c1, c2]
    | cut k =>
      have c3 : CMul (-1) k := cmul1 (by omega)
      have c4 : CMul 1 k := cmul1 (by omega)
      by_cases hn : n < 0
      · by_cases hc : k < -n <;> simp [hn, hc, Pd.toD, eq_str, lshape, sgn, c1, c2, c3, c4]
      · by_cases hc : k < n <;> simp [hn, hc, Pd.toD, eq_str, lshape, sgn, c1, c2, c3, c4]
    | gate k =>
      by_cases hn : n < 0
      · by_cases hc : -n < k <;> simp [hn, hc, Pd.toD, eq_str, lshape, sgn, c1, c2]
      · by_cases hc : n < k <;> simp [hn, hc, Pd.toD, eq_str, lshape, sgn, c1, c2]
    | steps k =>
      have hk : 0 < k := by simp [Pd.ok] at hok; omega
      have hk2 : k < 2 ^ 100 := by simp [Pd.ok] at hok; omega
      have c5 : ∀ z, CMul (-1) z := fun z => cmul1 (by omega)
      have c6 : ∀ z, CMul 1 z := fun z => cmul1 (by omega)
      have c7 : ∀ z, CMul z k := fun z => cmul2 (by simp [Pd.ok] at hok; omega)
      by_cases hn : n < 0 <;> simp [hn, Pd.toD, eq_str, lshape, sgn, c5, c6, c7, o_div hk hk2]
    | _ => by_cases hn : n < 0 <;> simp [hn, Pd.toD, eq_str, lshape, sgn, c1, c2])
  simp [startE, rowD] at e ⊢
  rw [e]
  simp [rowShape]
theorem law_late_ok {r : List Pd} (hl : r.length ≤ 1000000) : g__law_lateness [.d (rowD r)] μ = .ok (.d (.int (lateOf r))) μ := by
  unfold g__law_lateness
  refine run_0 ?_
  unfold B__law_lateness
  have e := comp_filter (g := gVar 1) (t := fB (fOp (eqW false) (fOp ixW (fVar 1) (fC (.int 0))) (fC (.str "late")))) (e := fOp ixW (fVar 1) (fC (.int 1))) (env := [some (.d (rowD r)), none]) (toD := Pd.toD) (q := Pd.isLate) (φ := fun p => .int (lateK p)) r μ [] (by
    intro p hp
    refine ⟨_, rfl, ?_, ?_⟩
    · cases p <;> simp [Pd.toD, eq_str, Pd.isLate]
    · cases p <;> simp [Pd.toD, Pd.isLate, lateK]) (by simp [LIM]; omega)
  simp only [List.nil_append, rowD] at e
  simp [startE, rowD, e, late_sum]
/-! ### a list that is filled -/
def cells (m : Nat) (f : Nat → Int) : List Wv := (List.range m).map fun t => Wv.d (.int (f t))
theorem cells_len (m : Nat) (f : Nat → Int) : (cells m f).length = m := by simp [cells]
theorem cells_get {m : Nat} {f : Nat → Int} {i : Nat} (h : i < m) : (cells m f)[i]? = some (.d (.int (f i))) := by simp [cells, h]
theorem cells_set (m : Nat) (f : Nat → Int) (i : Nat) (z : Int) : (cells m f).set i (.d (.int z)) = cells m fun t => if t = i then z else f t := by
  refine List.ext_getElem? fun j => ?_
  unfold cells
  by_cases hj : j < m
  · by_cases e : i = j
    · subst e
      rw [List.getElem?_set_self (by simp [hj])]
      simp [hj]
    · rw [List.getElem?_set_ne e]
      have : ¬ j = i := fun z => e z.symm
      simp [hj, this]
  · rw [List.getElem?_eq_none (by simp; omega), List.getElem?_eq_none (by simp; omega)]
theorem ixN_nat {m i : Nat} (h : i < m) : ixN m (i : Int) = some i := by
  unfold ixN
  simp [h]
theorem ix_cells {μ : Sto} {n m i : Nat} {f : Nat → Int} (h : μ[n]? = some (.lst (cells m f))) (hi : i < m) : ixW (.l n) (.d (.int (i : Int))) μ = .ok (.d (.int (f i))) μ := by
  show (match μ[n]? with | some (.lst ws) => (match atI ws (i : Int) with | some w => Rs.ok w μ | none => Rs.no) | _ => Rs.no) = _
  rw [h]
  simp only
  rw [atI_nat, cells_get hi]
theorem lst_cells {μ : Sto} {n m : Nat} {f : Nat → Int} (h : μ[n]? = some (.lst (cells m f))) : lstAt μ n = some (cells m f) := by
  unfold lstAt
  rw [h]
theorem dats_cells (m : Nat) (f : Nat → Int) : dats (cells m f) = some ((List.range m).map fun t => PyData.int (f t)) := by
  have := dats_map ((List.range m).map fun t => PyData.int (f t))
  rw [List.map_map] at this
  exact this
theorem fill {m : Nat} (v : Nat → Int) (f : Nat → Int) : ∀ k, (List.range k).foldl (fun (f : Nat → Int) i => fun t => if t = i then f i + v i else f t) f = fun t => if t < k then f t + v t else f t
  | 0 => by simp
  | k + 1 => by
    rw [List.range_succ, List.foldl_append, fill (m := m) v f k]
    simp only [List.foldl_cons, List.foldl_nil]
    funext t
    by_cases h1 : t = k
    · subst h1
      simp
    · by_cases h2 : t < k
      · simp [h1, h2, show t < k + 1 by omega]
      · simp [h1, h2, show ¬ t < k + 1 by omega]
end
end Ped

/-! PedU: law 02 -/
namespace Ped
open PySem L2 PyProof.Rows PySem.Spec
def addRow (m : Nat) (ns : List Int) (f : Nat → Int) (r : List Pd) : Nat → Int := fun t => if t < m then f t + rowShape r (numAt ns ((t : Int) - lateOf r)) else f t
theorem fold_rows (m : Nat) (ns : List Int) : ∀ (B : List (List Pd)) (f : Nat → Int) (t : Nat), t < m → (B.foldl (addRow m ns) f) t = f t + heardAt B ns t
  | [], f, t, _ => by simp [heardAt]
  | r :: B, f, t, h => by
    rw [List.foldl_cons, fold_rows m ns B _ t h]
    unfold addRow heardAt
    simp [h]
    omega
theorem rep_cells (m : Nat) : (List.replicate m [PyData.int 0]).flatten.map Wv.d = cells m fun _ => 0 := by
  unfold cells
  refine List.ext_getElem (by simp) fun i h1 h2 => ?_
  simp
section
variable {μ : Sto}
theorem law_heard_ok {B : List (List Pd)} (h : boardOk B) (hl : ∀ r ∈ B, r.length ≤ 6) (h1 : 1 ≤ B.length) (h3 : B.length ≤ 1000) (ns : List Int) (hn : ns.length ≤ 100000) : g__law_heard [.d (boardD B), .d (numsD ns)] μ = .ok (.d (.list ((allHeard B ns).map PyData.int))) μ := by
  obtain ⟨mx, b0, b30⟩ := boardLate_ok h hl h1
  obtain ⟨k, hk⟩ := Int.eq_ofNat_of_zero_le b0
  have hlate : ∀ r ∈ B, 0 ≤ lateOf r ∧ lateOf r ≤ 30 := fun r hr => by
    have := late_bound (h r hr)
    have := hl r hr
    omega
  have e := comp_map (g := gVar 4) (e := fCall (callD 1 g__law_lateness) (fCons (fVar 4) (fNil))) (env := [some (.d (boardD B)), some (.d (numsD ns)), none, none, none, none, none, none, none]) (toD := rowD) (φ := fun r => .int (lateOf r)) B μ [] (fun r hr => ⟨_, rfl, by have := hl r hr; simp [law_late_ok (show r.length ≤ 1000000 by omega)]⟩) (by simp [LIM]; omega)
  obtain ⟨m, hm0⟩ : ∃ m, m = ns.length + k := ⟨_, rfl⟩
  have hm : m ≤ 1000000 := by omega
  obtain ⟨env', μ', e2, ⟨a, b, c, d, e', rfl⟩, rfl⟩ := for_step (g := gVar 4) (b := L__law_heard_2) (toD := rowD) (step := addRow m ns) (E := fun f env μ' => (∃ a b c d e, env = [some (.d (boardD B)), some (.d (numsD ns)), some (.d (.int (m : Nat))), some (.l μ.length), a, b, c, d, e]) ∧ μ' = μ ++ [Ob.lst (cells m f)]) B (fun _ => 0)
    [some (.d (boardD B)), some (.d (numsD ns)), some (.d (.int (m : Nat))), some (.l μ.length), none, none, none, none, none] (μ ++ [Ob.lst (cells m fun _ => 0)]) ⟨⟨_, _, _, _, _, rfl⟩, rfl⟩ (by
    rintro r hr f env μ' ⟨⟨a, b, c, d, e, rfl⟩, rfl⟩
    obtain ⟨l0, l30⟩ := hlate r hr
    obtain ⟨env3, μ3, e3, ⟨b', e', rfl⟩, rfl⟩ := for_step (g := gVar 5) (b := L__law_heard_1) (toD := fun i : Nat => PyData.int (i : Nat)) (step := fun (f : Nat → Int) i => fun t => if t = i then f i + rowShape r (numAt ns ((i : Int) - lateOf r)) else f t)
      (E := fun f env μ' => (∃ b e, env = [some (.d (boardD B)), some (.d (numsD ns)), some (.d (.int (m : Nat))), some (.l μ.length), some (.d (rowD r)), b, some (.d (.int (rowShape r 0))), some (.d (.int (lateOf r))), e]) ∧ μ' = μ ++ [Ob.lst (cells m f)]) (List.range m) f
      [some (.d (boardD B)), some (.d (numsD ns)), some (.d (.int (m : Nat))), some (.l μ.length), some (.d (rowD r)), b, some (.d (.int (rowShape r 0))), some (.d (.int (lateOf r))), e] (μ ++ [Ob.lst (cells m f)]) ⟨⟨_, _, rfl⟩, rfl⟩ (by
      rintro i hi f env μ' ⟨⟨b, e, rfl⟩, rfl⟩
      have hi : i < m := List.mem_range.mp hi
      have hc : (μ ++ [Ob.lst (cells m f)])[μ.length]? = some (.lst (cells m f)) := by simp
      have e4 := ix_cells hc hi
      have e5 := lst_cells hc
      have e6 : ixN (cells m f).length (i : Int) = some i := by rw [cells_len]; exact ixN_nat hi
      refine ⟨_, _, [some (.d (boardD B)), some (.d (numsD ns)), some (.d (.int (m : Nat))), some (.l μ.length), some (.d (rowD r)), some (.d (.int (i : Nat))), some (.d (.int (rowShape r 0))), some (.d (.int (lateOf r))), some (.d (.bool (decide (lateOf r ≤ (i : Int) ∧ (i : Int) < lateOf r + ns.length))))], μ ++ [Ob.lst (cells m fun t => if t = i then f i + rowShape r (numAt ns ((i : Int) - lateOf r)) else f t)], rfl, ?_, ⟨_, _, rfl⟩, rfl⟩
      have e7 : (μ ++ [Ob.lst (cells m f)]).set μ.length (.lst ((cells m f).set i (.d (.int (f i + rowShape r (numAt ns ((i : Int) - lateOf r))))))) = μ ++ [Ob.lst (cells m fun t => if t = i then f i + rowShape r (numAt ns ((i : Int) - lateOf r)) else f t)] := by
        rw [cells_set]
        simp
      rw [← e7]
      by_cases g1 : lateOf r ≤ (i : Int)
      · by_cases g2 : (i : Int) < lateOf r + ns.length
        · obtain ⟨j, hj⟩ := Int.eq_ofNat_of_zero_le (show 0 ≤ (i : Int) - lateOf r by omega)
          have hj2 : j < ns.length := by omega
          have e8 : ∀ μ, ixW (.d (.tuple (ns.map PyData.int))) (.d (.int ((i : Int) - lateOf r))) μ = .ok (.d (.int (numAt ns ((i : Int) - lateOf r)))) μ := fun μ => by
            rw [hj]
            show (match atI (ns.map PyData.int) (j : Int) with | some d => Rs.ok (Wv.d d) μ | none => Rs.no) = _
            rw [atI_nat, List.getElem?_map, List.getElem?_eq_getElem hj2]
            unfold numAt
            simp [hj2]
          simp [numsD, g1, g2, e8, law_shape_ok (h r hr), e4, e5, e6]
        · have e8 : numAt ns ((i : Int) - lateOf r) = 0 := by unfold numAt; rw [if_neg (by omega)]
          simp [numsD, g1, g2, e8, e4, e5, e6]
      · have e8 : numAt ns ((i : Int) - lateOf r) = 0 := by unfold numAt; rw [if_neg (by omega)]
        simp [numsD, g1, e8, e4, e5, e6])
    rw [← rangeD_eq] at e3
    have hle := hl r hr
    refine ⟨_, _, _, _, rfl, ?_, ⟨some (.d (rowD r)), b', some (.d (.int (rowShape r 0))), some (.d (.int (lateOf r))), e', rfl⟩, rfl⟩
    have ef : addRow m ns f r = (List.range m).foldl (fun (f : Nat → Int) i => fun t => if t = i then f i + rowShape r (numAt ns ((i : Int) - lateOf r)) else f t) f := (fill (m := m) (fun i => rowShape r (numAt ns ((i : Int) - lateOf r))) f m).symm
    rw [ef]
    simp [law_shape_ok (h r hr), law_late_ok (show r.length ≤ 1000000 by omega), rg_k hm]
    exact e3)
  have hfin : dats (cells m (B.foldl (addRow m ns) fun _ => 0)) = some ((allHeard B ns).map PyData.int) := by
    rw [dats_cells]
    unfold allHeard
    rw [hk, List.map_map, Int.toNat_natCast, ← hm0]
    congr 1
    refine List.map_congr_left fun t ht => ?_
    rw [fold_rows m ns B _ t (List.mem_range.mp ht)]
    simp
  have hlst : lstAt (μ ++ [Ob.lst (cells m (B.foldl (addRow m ns) fun _ => 0))]) μ.length = some (cells m (B.foldl (addRow m ns) fun _ => 0)) := lst_cells (by simp)
  unfold g__law_heard
  refine run_app (ν := [.dead]) ?_
  unfold B__law_heard
  simp only [List.nil_append, boardD, numsD] at e
  have em : mulN (.d (.list [.int 0])) (.d (.int (m : Nat))) μ = .ok (.l μ.length) (μ ++ [Ob.lst (cells m fun _ => 0)]) := by
    show (if -1000000 ≤ (m : Int) ∧ (m : Int) ≤ 1000000 ∧ [PyData.int 0].length * (m : Int).toNat ≤ LIM then Rs.ok (Wv.l μ.length) (μ ++ [.lst ((List.replicate (m : Int).toNat [PyData.int 0]).flatten.map Wv.d)]) else Rs.no) = _
    rw [if_pos ⟨by omega, by omega, by simp [LIM]; omega⟩, Int.toNat_natCast, rep_cells]
  have hmm : (ns.length : Int) + (k : Int) = (m : Nat) := by omega
  have mx2 := k_max_g (μ := μ) lateOf B mx
  rw [hk] at mx2
  simp only [boardD] at e2
  simp [startE, boardD, numsD, e, mx2, hmm, em]
  simp only [numsD] at e2
  simp [e2, frz, hlst, hfin]
end
/-! ### the law's own loop -/
theorem len1 {α : Type} {q : List α} (hq : q.length = 1) : ∃ a, q = [a] := by
  match q, hq with
  | [a], _ => exact ⟨a, rfl⟩
theorem len2 {α : Type} {q : List α} (hq : q.length = 2) : ∃ a b, q = [a, b] := by
  match q, hq with
  | [a, b], _ => exact ⟨a, b, rfl⟩
theorem len3 {α : Type} {q : List α} (hq : q.length = 3) : ∃ a b c, q = [a, b, c] := by
  match q, hq with
  | [a, b, c], _ => exact ⟨a, b, c, rfl⟩
theorem len4 {α : Type} {q : List α} (hq : q.length = 4) : ∃ a b c d, q = [a, b, c, d] := by
  match q, hq with
  | [a, b, c, d], _ => exact ⟨a, b, c, d, rfl⟩
theorem len5 {α : Type} {q : List α} (hq : q.length = 5) : ∃ a b c d e, q = [a, b, c, d, e] := by
  match q, hq with
  | [a, b, c, d, e], _ => exact ⟨a, b, c, d, e, rfl⟩
theorem len6 {α : Type} {q : List α} (hq : q.length = 6) : ∃ a b c d e f, q = [a, b, c, d, e, f] := by
  match q, hq with
  | [a, b, c, d, e, f], _ => exact ⟨a, b, c, d, e, f, rfl⟩
theorem len7 {α : Type} {q : List α} (hq : q.length = 7) : ∃ a b c d e f g, q = [a, b, c, d, e, f, g] := by
  match q, hq with
  | [a, b, c, d, e, f, g], _ => exact ⟨a, b, c, d, e, f, g, rfl⟩
theorem len8 {α : Type} {q : List α} (hq : q.length = 8) : ∃ a b c d e f g h, q = [a, b, c, d, e, f, g, h] := by
  match q, hq with
  | [a, b, c, d, e, f, g, h], _ => exact ⟨a, b, c, d, e, f, g, h, rfl⟩
theorem len9 {α : Type} {q : List α} (hq : q.length = 9) : ∃ a b c d e f g h i, q = [a, b, c, d, e, f, g, h, i] := by
  match q, hq with
  | [a, b, c, d, e, f, g, h, i], _ => exact ⟨a, b, c, d, e, f, g, h, i, rfl⟩
theorem len10 {α : Type} {q : List α} (hq : q.length = 10) : ∃ a b c d e f g h i j, q = [a, b, c, d, e, f, g, h, i, j] := by
  match q, hq with
  | [a, b, c, d, e, f, g, h, i, j], _ => exact ⟨a, b, c, d, e, f, g, h, i, j, rfl⟩
theorem len11 {α : Type} {q : List α} (hq : q.length = 11) : ∃ a b c d e f g h i j k, q = [a, b, c, d, e, f, g, h, i, j, k] := by
  match q, hq with
  | [a, b, c, d, e, f, g, h, i, j, k], _ => exact ⟨a, b, c, d, e, f, g, h, i, j, k, rfl⟩
theorem len12 {α : Type} {q : List α} (hq : q.length = 12) : ∃ a b c d e f g h i j k x, q = [a, b, c, d, e, f, g, h, i, j, k, x] := by
  match q, hq with
  | [a, b, c, d, e, f, g, h, i, j, k, x], _ => exact ⟨a, b, c, d, e, f, g, h, i, j, k, x, rfl⟩
theorem len13 {α : Type} {q : List α} (hq : q.length = 13) : ∃ a b c d e f g h i j k x m, q = [a, b, c, d, e, f, g, h, i, j, k, x, m] := by
  match q, hq with
  | [a, b, c, d, e, f, g, h, i, j, k, x, m], _ => exact ⟨a, b, c, d, e, f, g, h, i, j, k, x, m, rfl⟩
theorem len14 {α : Type} {q : List α} (hq : q.length = 14) : ∃ a b c d e f g h i j k x m y, q = [a, b, c, d, e, f, g, h, i, j, k, x, m, y] := by
  match q, hq with
  | [a, b, c, d, e, f, g, h, i, j, k, x, m, y], _ => exact ⟨a, b, c, d, e, f, g, h, i, j, k, x, m, y, rfl⟩
theorem cnt (a b z : Int) (h0 : 0 ≤ a) (h1 : a ≤ 20) (h2 : b ≤ 20) : ∃ c : Nat, (if (if z < b then z else b) > a then (if z < b then z else b) else a) = (c : Int) ∧ c ≤ 20 := by
  refine ⟨(if (if z < b then z else b) > a then (if z < b then z else b) else a).toNat, ?_, ?_⟩
  · rw [Int.toNat_of_nonneg]; repeat (first | omega | split)
  · repeat (first | omega | split)
theorem law_loop {m : Nat} {a b d : Int} {L : FS} (F : FS) (ns : List Int) (h0 : 0 ≤ a ∧ a ≤ 20 ∧ b ≤ 20) (hL : ∀ (k : Nat) (rest : Env) (μ : Sto), k < 100 → rest.length = m → ∃ rest' μ', L (some (.s ns) :: some (.d (.int (k : Nat))) :: rest) μ = .ok (.nx (some (.s ns) :: some (.d (.int (k : Nat))) :: rest')) μ' ∧ rest'.length = m) :
    ∃ (env' : Env) (μ' : Sto), env'.length = m + 1 ∧ (sCons (sFor (itR1 (fCall kMax2 (fCons (fC (.int a)) (fCons (fCall kMin2 (fCons (fC (.int b)) (fCons (fOp addW (fCall kLen (fCons (fVar 0) (fNil))) (fC (.int d))) (fNil)))) (fNil))))) (gVar 1) L) F) (some (.s ns) :: List.replicate (m + 1) none) [] = F (some (.s ns) :: env') μ' := by
  obtain ⟨c, hc1, hc2⟩ := cnt a b ((ns.length : Int) + d) h0.1 h0.2.1 h0.2.2
  obtain ⟨env', μ', e, r, rfl, hr⟩ := for_step (g := gVar 1) (b := L) (toD := fun i : Nat => PyData.int (i : Nat)) (σ := Unit) (step := fun _ _ => ()) (E := fun _ env μ' => ∃ r, env = some (.s ns) :: r ∧ r.length = m + 1) (List.range c) () (some (.s ns) :: List.replicate (m + 1) none) [] ⟨_, rfl, by simp⟩ (by
    rintro k hk _ env μ ⟨r, rfl, hr⟩
    have hk : k < c := List.mem_range.mp hk
    match r, hr with
    | x :: rest, hr =>
      obtain ⟨rest', μ', e, hr'⟩ := hL k rest μ (by omega) (by simpa using hr)
      exact ⟨_, _, _, _, rfl, e, _, rfl, by simp [hr']⟩)
  refine ⟨r, μ', hr, ?_⟩
  rw [← rangeD_eq] at e
  simp [hc1, rg_k (show c ≤ 1000000 by omega), e]
/-- .. that ends with True -/
theorem law_true {m : Nat} {a b d : Int} {L : FS} (ns : List Int) (h0 : 0 ≤ a ∧ a ≤ 20 ∧ b ≤ 20) (hL : ∀ (k : Nat) (rest : Env) (μ : Sto), k < 100 → rest.length = m → ∃ rest' μ', L (some (.s ns) :: some (.d (.int (k : Nat))) :: rest) μ = .ok (.nx (some (.s ns) :: some (.d (.int (k : Nat))) :: rest')) μ' ∧ rest'.length = m) :
    ∃ μ', runF (m + 2) (sCons (sFor (itR1 (fCall kMax2 (fCons (fC (.int a)) (fCons (fCall kMin2 (fCons (fC (.int b)) (fCons (fOp addW (fCall kLen (fCons (fVar 0) (fNil))) (fC (.int d))) (fNil)))) (fNil))))) (gVar 1) L) (sRet (fC (.bool true)))) [.s ns] [] = .ok (.d (.bool true)) μ' := by
  obtain ⟨env', μ', _, e⟩ := law_loop (sRet (fC (.bool true))) ns h0 hL
  refine ⟨_, run_app (ν := μ') ?_⟩
  show (sCons _ _) (some (.s ns) :: List.replicate (m + 2 - 1) none) [] = _
  rw [show m + 2 - 1 = m + 1 from rfl, e]
  rfl
/-- the start of a turn: the bag -/
theorem turn_bag (ns : List Int) (k : Nat) (hk : k < 100) (μ : Sto) : ∃ ν, g__law_bag [.s ns, .d (.int k)] μ = .ok (.l μ.length) ν ∧ Bg μ.length ν := by
  obtain ⟨x, y, e, ok⟩ := bag_ok ns k (by omega) μ
  exact ⟨_, e, bag_new ok⟩
/-! ### the law -/
theorem body02 (ns : List Int) (k : Nat) (hk : k < 100) (rest : Env) (μ : Sto) (hr : rest.length = 5) : ∃ rest' μ', L_law_2_4 (some (.s ns) :: some (.d (.int (k : Nat))) :: rest) μ = .ok (.nx (some (.s ns) :: some (.d (.int (k : Nat))) :: rest')) μ' ∧ rest'.length = 5 := by
  obtain ⟨b, c, d, e, f, rfl⟩ := len5 hr
  obtain ⟨ν, eb, B0⟩ := turn_bag ns k hk μ
  generalize μ.length = n at eb B0
  obtain ⟨B, μ1, e1, hB, hr, b1, b3, s1⟩ := board_ok B0 6 (by decide)
  -- the rows
  obtain ⟨env2, μ2, e2, ⟨r2, n2, rfl⟩, s2⟩ := for_step (g := gVar 4) (b := L_law_2_2) (toD := rowD) (σ := Unit) (step := fun _ _ => ()) (E := fun _ env μ' => (∃ r z, env = [some (.s ns), some (.d (.int (k : Nat))), some (.l n), some (.d (boardD B)), r, e, z]) ∧ Stp n ν μ') B () [some (.s ns), some (.d (.int (k : Nat))), some (.l n), some (.d (boardD B)), d, e, f] μ1 ⟨⟨_, _, rfl⟩, s1⟩ (by
    rintro r hrB _ env μ2 ⟨⟨r', n', rfl⟩, s2⟩
    obtain ⟨zs, μ3, e3, l3, b3', s3⟩ := numbers_ok (s2.bg B0) 20 (by decide)
    obtain ⟨env4, μ4, e4, ⟨⟨n4, rfl⟩, hm4⟩⟩ := for_step (g := gVar 6) (b := L_law_2_1) (toD := PyData.int) (σ := Unit) (step := fun _ _ => ()) (E := fun _ env μ' => (∃ z, env = [some (.s ns), some (.d (.int (k : Nat))), some (.l n), some (.d (boardD B)), some (.d (rowD r)), e, z]) ∧ μ' = μ3) (zs ++ [0, 1, -1]) () [some (.s ns), some (.d (.int (k : Nat))), some (.l n), some (.d (boardD B)), some (.d (rowD r)), e, n'] μ3 ⟨⟨_, rfl⟩, rfl⟩ (by
      rintro z hz _ env μ4 ⟨⟨n', rfl⟩, rfl⟩
      refine ⟨_, _, _, _, rfl, ?_, ⟨some (.d (.int z)), rfl⟩, rfl⟩
      simp [shaped_ok (hB r hrB) (hr r hrB), law_shape_ok (hB r hrB), eq_int])
    rw [hm4] at e4
    refine ⟨_, _, [some (.s ns), some (.d (.int (k : Nat))), some (.l n), some (.d (boardD B)), some (.d (rowD r)), e, n4], μ3, rfl, ?_, ⟨_, _, rfl⟩, s2.trans s3⟩
    simp [numsD] at e3
    have hl' : zs.length + 3 ≤ 16000000 := by omega
    simp at e4
    simp [e3, o_addT, LIM, hl', e4])
  -- the silence
  have e3 : ∀ μ r6, compF (gVar 4) fYes (fCall (callD 2 g__law_shape) (fCons (fVar 4) (fCons (fC (.int 0)) (fNil)))) [some (.s ns), some (.d (.int (k : Nat))), some (.l n), some (.d (boardD B)), none, e, r6] (B.map rowD) μ [] = .ok ([] ++ B.map fun r => PyData.int (rowShape r 0)) μ := fun μ r6 => comp_map B μ [] (fun r hr' => ⟨_, rfl, by simp [law_shape_ok (hB r hr')]⟩) (by simp [LIM]; omega)
  have e4 : heardAt B [] 0 = (B.map fun r => rowShape r 0).sum := by
    unfold heardAt numAt
    congr 1
    refine List.map_congr_left fun r hr => ?_
    rw [if_neg (by simp)]
  -- the sounds
  obtain ⟨zs, μ3, e5, l5, _, s3⟩ := numbers_ok (s2.bg B0) 5 (by decide)
  have s3' := s2.trans s3
  obtain ⟨ys, μ4, e6, l6, _, s4⟩ := numbers_ok (s3'.bg B0) 40 (by decide)
  obtain ⟨env7, μ7, e7, ⟨⟨d7, rfl⟩, hm7⟩⟩ := for_step (g := gVar 5) (b := L_law_2_3) (toD := numsD) (σ := Unit) (step := fun _ _ => ()) (E := fun _ env μ' => (∃ z, env = [some (.s ns), some (.d (.int (k : Nat))), some (.l n), some (.d (boardD B)), r2, z, n2]) ∧ μ' = μ4) [[], zs, ys] () [some (.s ns), some (.d (.int (k : Nat))), some (.l n), some (.d (boardD B)), r2, e, n2] μ4 ⟨⟨_, rfl⟩, rfl⟩ (by
    rintro z hz _ env μ4 ⟨⟨n', rfl⟩, rfl⟩
    have hz : z.length ≤ 40 := by
      simp at hz
      rcases hz with rfl | rfl | rfl <;> first | omega | simp
    refine ⟨_, _, _, _, rfl, ?_, ⟨some (.d (numsD z)), rfl⟩, rfl⟩
    simp [heard_ok hB hr b1 b3 z hz, law_heard_ok hB hr b1 (show B.length ≤ 1000 by omega) z (by omega), ne_same (shp_ints _) (by decide)])
  rw [hm7] at e7
  refine ⟨[some (.l n), some (.d (boardD B)), r2, d7, n2], μ4, ?_, rfl⟩
  simp [numsD] at e5 e6
  simp [boardD] at e1 e2 e3 e7
  have e8 := fun μ => silence_ok (μ := μ) hB hr b1 b3
  simp only [boardD] at e8
  simp [numsD] at e7
  simp [eb, e1, boardD, e2, e3, e4, e5, e6, e7, e8, eq_int]
theorem law02 (ns : List Int) : ∃ μ, g_law_2 [.s ns] [] = .ok (.d (.bool true)) μ :=
  law_true (m := 5) ns (by decide) fun k rest μ hk hr => body02 ns k hk rest μ hr
end Ped

/-! PedV: far away from nought -/
namespace Ped
open PySem L2 PyProof.Rows PySem.Spec
/-! ### what a row does far away -/
def kn : Pd → Int
  | .louder k | .cut k | .gate k | .lift k | .steps k => if 0 - k > k then 0 - k else k
  | _ => 0
def knobSum (r : List Pd) : Int := (r.map kn).sum
theorem kn_nonneg (p : Pd) : 0 ≤ kn p := by cases p <;> simp only [kn] <;> first | omega | (split <;> omega)
theorem knobSum_nonneg : ∀ r : List Pd, 0 ≤ knobSum r
  | [] => Int.le_refl _
  | p :: r => by
    have := kn_nonneg p
    have := knobSum_nonneg r
    have e : knobSum (p :: r) = kn p + knobSum r := by simp [knobSum]
    omega
def stepsDiv (P : Int) (r : List Pd) : Prop := ∀ k, Pd.steps k ∈ r → k ∣ P
/-- the same for all, or a steady slope and one sign, farther from nought than R -/
def FarI (N P R : Int) (f : Int → Int) : Prop := (∃ c, ∀ n, N ≤ n → f n = c) ∨ ∃ q, (∀ n, N ≤ n → f (n + P) = f n + P * q) ∧ ((∀ n, N ≤ n → R < f n) ∨ ∀ n, N ≤ n → f n < -R)
theorem far_step {N P R : Int} {f : Int → Int} {p : Pd} (hP : 0 < P) (hp : p.ok) (hd : ∀ k, p = .steps k → k ∣ P) (hR : 0 ≤ R) (h : FarI N P (kn p + R) f) : FarI N P R fun n => shape p (f n) := by
  rcases h with ⟨c, hc⟩ | ⟨q, hq, hs⟩
  · exact .inl ⟨shape p c, fun n hn => by simp only [hc n hn]⟩
  · have up : ∀ n, N ≤ n → N ≤ n + P := fun n hn => by omega
    cases p with
    | louder k =>
      simp only [Pd.ok] at hp
      refine .inr ⟨q * k, fun n hn => by show f (n + P) * k = f n * k + P * (q * k); rw [hq n hn, Int.add_mul, Int.mul_assoc], ?_⟩
      have hk : k = 2 ∨ k = 3 ∨ k = 4 := by omega
      simp only [kn] at hs
      rcases hs with hs | hs
      · refine .inl fun n hn => ?_
        have := hs n hn
        show R < f n * k
        rcases hk with rfl | rfl | rfl <;> omega
      · refine .inr fun n hn => ?_
        have := hs n hn
        show f n * k < -R
        rcases hk with rfl | rfl | rfl <;> omega
    | cut k =>
      simp only [Pd.ok] at hp
      simp only [kn] at hs
      rcases hs with hs | hs
      · refine .inl ⟨k, fun n hn => ?_⟩
        have := hs n hn
        simp only [shape]
        repeat (first | omega | split)
      · refine .inl ⟨-k, fun n hn => ?_⟩
        have := hs n hn
        simp only [shape]
        repeat (first | omega | split)
    | gate k =>
      simp only [Pd.ok] at hp
      simp only [kn] at hs
      have e : ∀ n, N ≤ n → shape (.gate k) (f n) = f n := fun n hn => by
        simp only [shape]
        rw [if_pos]
        rcases hs with hs | hs
        · have := hs n hn; omega
        · have := hs n hn; omega
      refine .inr ⟨q, fun n hn => by show shape (.gate k) (f (n + P)) = shape (.gate k) (f n) + P * q; rw [e n hn, e _ (up n hn), hq n hn], ?_⟩
      rcases hs with hs | hs
      · exact .inl fun n hn => by have := hs n hn; simp only [e n hn]; omega
      · exact .inr fun n hn => by have := hs n hn; simp only [e n hn]; omega
    | turn =>
      refine .inr ⟨-q, fun n hn => by simp only [shape, hq n hn, Int.mul_neg]; omega, ?_⟩
      simp only [kn] at hs
      rcases hs with hs | hs
      · exact .inr fun n hn => by have := hs n hn; simp only [shape]; omega
      · exact .inl fun n hn => by have := hs n hn; simp only [shape]; omega
    | fold =>
      simp only [kn] at hs
      rcases hs with hs | hs
      · have e : ∀ n, N ≤ n → shape .fold (f n) = f n := fun n hn => by
          have := hs n hn
          simp only [shape]
          rw [if_neg (by omega)]
        exact .inr ⟨q, fun n hn => by show shape .fold (f (n + P)) = shape .fold (f n) + P * q; rw [e n hn, e _ (up n hn), hq n hn], .inl fun n hn => by have := hs n hn; simp only [e n hn]; omega⟩
      · have e : ∀ n, N ≤ n → shape .fold (f n) = - f n := fun n hn => by
          have := hs n hn
          simp only [shape]
          rw [if_pos (by omega)]
          omega
        exact .inr ⟨-q, fun n hn => by show shape .fold (f (n + P)) = shape .fold (f n) + P * -q; rw [e n hn, e _ (up n hn), hq n hn, Int.mul_neg]; omega, .inl fun n hn => by have := hs n hn; simp only [e n hn]; omega⟩
    | lift k =>
      simp only [Pd.ok] at hp
      simp only [kn] at hs
      refine .inr ⟨q, fun n hn => by simp only [shape, hq n hn]; omega, ?_⟩
      rcases hs with hs | hs
      · exact .inl fun n hn => by have := hs n hn; simp only [shape]; omega
      · exact .inr fun n hn => by have := hs n hn; simp only [shape]; omega
    | late k =>
      simp only [kn] at hs
      refine .inr ⟨q, fun n hn => by simp only [shape, hq n hn], ?_⟩
      rcases hs with hs | hs
      · exact .inl fun n hn => by have := hs n hn; simp only [shape]; omega
      · exact .inr fun n hn => by have := hs n hn; simp only [shape]; omega
    | steps k =>
      simp only [Pd.ok] at hp
      simp only [kn] at hs
      obtain ⟨j, hj⟩ := hd k rfl
      have hdv : P * q = k * (j * q) := by rw [hj, Int.mul_assoc]
      rcases hs with hs | hs
      · have pos : ∀ n, N ≤ n → 0 ≤ f n := fun n hn => by have := hs n hn; omega
        have e : ∀ n, N ≤ n → shape (.steps k) (f n) = f n - f n % k := fun n hn => by simp only [shape]; rw [if_pos (pos n hn)]
        refine .inr ⟨q, fun n hn => ?_, .inl fun n hn => ?_⟩
        · show shape (.steps k) (f (n + P)) = shape (.steps k) (f n) + P * q
          rw [e n hn, e _ (up n hn), hq n hn, hdv, Int.add_mul_emod_self_left]
          omega
        · have := hs n hn
          have h1 := Int.emod_lt_of_pos (f n) (show 0 < k by omega)
          show R < shape (.steps k) (f n)
          rw [e n hn]
          omega
      · have neg : ∀ n, N ≤ n → ¬ 0 ≤ f n := fun n hn => by have := hs n hn; omega
        have e : ∀ n, N ≤ n → shape (.steps k) (f n) = (0 - f n) % k + f n := fun n hn => by simp only [shape]; rw [if_neg (neg n hn)]
        refine .inr ⟨q, fun n hn => ?_, .inr fun n hn => ?_⟩
        · show shape (.steps k) (f (n + P)) = shape (.steps k) (f n) + P * q
          have e3 : 0 - (f n + k * (j * q)) = (0 - f n) + k * (-(j * q)) := by rw [Int.mul_neg]; omega
          rw [e n hn, e _ (up n hn), hq n hn, hdv, e3, Int.add_mul_emod_self_left]
          omega
        · have := hs n hn
          have h1 := Int.emod_lt_of_pos (0 - f n) (show 0 < k by omega)
          show shape (.steps k) (f n) < -R
          rw [e n hn]
          omega
theorem far_fold {N P : Int} (hP : 0 < P) : ∀ (r : List Pd) (f : Int → Int), rowOk r → stepsDiv P r → FarI N P (knobSum r) f → FarI N P 0 fun n => rowShape r (f n)
  | [], f, _, _, h => h
  | p :: r, f, ho, hd, h => by
    have e : knobSum (p :: r) = kn p + knobSum r := by simp [knobSum]
    rw [e] at h
    have h2 := far_step hP (ho p List.mem_cons_self) (fun k hk => hd k (by rw [hk]; exact List.mem_cons_self)) (knobSum_nonneg r) h
    exact far_fold hP r (fun n => shape p (f n)) (fun q hq => ho q (List.mem_cons_of_mem _ hq)) (fun k hk => hd k (List.mem_cons_of_mem _ hk)) h2
theorem far_pos {r : List Pd} {P N : Int} (hP : 0 < P) (ho : rowOk r) (hd : stepsDiv P r) (hN : knobSum r < N) : ∃ t, ∀ n, N ≤ n → rowShape r (n + P) = rowShape r n + t := by
  have h : FarI N P (knobSum r) fun n => n := .inr ⟨1, fun n _ => by show n + P = n + P * 1; omega, .inl fun n hn => by show knobSum r < n; omega⟩
  rcases far_fold hP r (fun n => n) ho hd h with ⟨c, hc⟩ | ⟨q, hq, _⟩
  · exact ⟨0, fun n hn => by have h1 := hc n hn; have h2 := hc (n + P) (by omega); simp only at h1 h2; omega⟩
  · exact ⟨P * q, hq⟩
theorem far_neg {r : List Pd} {P N : Int} (hP : 0 < P) (ho : rowOk r) (hd : stepsDiv P r) (hN : knobSum r < N) : ∃ t, ∀ n, N ≤ n → rowShape r (-(n + P)) = rowShape r (-n) + t := by
  have e : ∀ n, rowShape (.turn :: r) n = rowShape r (-n) := fun n => by
    show rowShape r (0 - n) = _
    rw [Int.zero_sub]
  obtain ⟨t, ht⟩ := far_pos (r := .turn :: r) hP (fun p hp => by
    rcases List.mem_cons.mp hp with rfl | hp
    · trivial
    · exact ho p hp) (fun k hk => by
    rcases List.mem_cons.mp hk with hk | hk
    · cases hk
    · exact hd k hk) (show knobSum (.turn :: r) < N by
    have : knobSum (.turn :: r) = knobSum r := by simp [knobSum, kn]
    omega)
  exact ⟨t, fun n hn => by rw [← e, ← e]; exact ht n hn⟩
end Ped

/-! PedL: near, period, span, what parts two boards -/
namespace Ped
open PySem L2 PyProof.Rows PySem.Spec
/-! ### loops once more -/
@[simp] theorem e_sAsg2 {env : Env} {μ : Sto} (f : FE) (i j : Nat) : sAsg2 f i j env μ = (f env μ).bind fun w μ1 => .ok (.nx ((env.set i (some w)).set j (some w))) μ1 := rfl
@[simp] theorem e_sPar3 {env : Env} {μ : Sto} (i j l : Nat) (g : FA) : sPar3 i j l g env μ = (g env μ).bind fun ws μ1 => match ws with | [w, z, y] => .ok (.nx (((env.set i (some w)).set j (some z)).set l (some y))) μ1 | _ => .no := rfl
def rgK2 (w z : Wv) (μ2 : Sto) : Rs (List D) := match w, z with
  | .d (.int i), .d (.int j) => if (-RB ≤ i ∧ i ≤ RB) ∧ -RB ≤ j ∧ j ≤ RB then .ok (rangeD i (j - i).toNat) μ2 else .no
  | _, _ => .no
@[simp] theorem e_itR2 {env : Env} {μ : Sto} (f g : FE) : itR2 f g env μ = (f env μ).bind fun w μ1 => (g env μ1).bind fun z μ2 => rgK2 w z μ2 := rfl
theorem rg_k2 {i j : Int} {μ : Sto} (h1 : -1000000 ≤ i ∧ i ≤ 1000000) (h2 : -1000000 ≤ j ∧ j ≤ 1000000) : rgK2 (.d (.int i)) (.d (.int j)) μ = .ok (rangeD i (j - i).toNat) μ := by
  show (if (-RB ≤ i ∧ i ≤ RB) ∧ -RB ≤ j ∧ j ≤ RB then Rs.ok (rangeD i (j - i).toNat) μ else Rs.no) = _
  have : RB = 1000000000000 := rfl
  rw [if_pos (by omega)]
/-- a loop by the number of its turns -/
theorem for_nat {g : FG} {b : FS} {E : Nat → Env → Sto → Prop} : ∀ (xs : List D) (i0 : Nat) (env : Env) (μ : Sto), E i0 env μ → (∀ i (h : i < xs.length), ∀ env μ, E (i0 + i) env μ → ∃ env1 μ1 env2 μ2, g (.d xs[i]) env μ = .ok env1 μ1 ∧ b env1 μ1 = .ok (.nx env2) μ2 ∧ E (i0 + i + 1) env2 μ2) → ∃ env' μ', forF g b xs env μ = .ok (.nx env') μ' ∧ E (i0 + xs.length) env' μ'
  | [], i0, env, μ, h, _ => ⟨env, μ, rfl, h⟩
  | x :: r, i0, env, μ, h, hs => by
    obtain ⟨env1, μ1, env2, μ2, h1, h2, h3⟩ := hs 0 (by simp) env μ h
    obtain ⟨env', μ', h4, h5⟩ := for_nat r (i0 + 1) env2 μ2 h3 fun i hi env μ he => by
      have := hs (i + 1) (by simp; omega) env μ (by rw [show i0 + (i + 1) = i0 + 1 + i by omega]; exact he)
      rw [show i0 + 1 + i + 1 = i0 + (i + 1) + 1 by omega]
      simpa using this
    refine ⟨env', μ', ?_, by rw [List.length_cons, show i0 + (r.length + 1) = i0 + 1 + r.length by omega]; exact h5⟩
    unfold forF
    have h1 : g (.d x) env μ = .ok env1 μ1 := h1
    rw [h1]
    simp only [noex_ok, Rs.bind_ok, h2, h4]
/-- a loop that looks for the first -/
theorem for_find {α : Type} {g : FG} {b : FS} {toD : α → D} {E : Env → Prop} {test : α → Bool} {ret : α → Wv} {μ : Sto} : ∀ (xs : List α) (env : Env), E env → (∀ x ∈ xs, ∀ env, E env → ∃ env1, g (.d (toD x)) env μ = .ok env1 μ ∧ (test x = true → b env1 μ = .ok (.rt (ret x)) μ) ∧ (test x = false → ∃ env2, b env1 μ = .ok (.nx env2) μ ∧ E env2)) →
    (∀ x, xs.find? test = some x → forF g b (xs.map toD) env μ = .ok (.rt (ret x)) μ) ∧ (xs.find? test = none → ∃ env', forF g b (xs.map toD) env μ = .ok (.nx env') μ ∧ E env')
  | [], env, h, _ => ⟨fun x hx => (by simp at hx), fun _ => ⟨env, rfl, h⟩⟩
  | x :: r, env, h, hs => by
    obtain ⟨env1, h1, h2, h3⟩ := hs x List.mem_cons_self env h
    rw [List.map_cons, List.find?_cons]
    unfold forF
    rw [h1]
    simp only [noex_ok, Rs.bind_ok]
    cases ht : test x with
    | true =>
      simp only [h2 ht, Rs.bind_ok]
      exact ⟨fun y hy => by cases hy; rfl, fun z => by cases z⟩
    | false =>
      obtain ⟨env2, h4, h5⟩ := h3 ht
      simp only [h4, Rs.bind_ok]
      exact for_find r env2 h5 fun y hy => hs y (List.mem_cons_of_mem _ hy)
/-! ### the greatest common divisor -/
section
variable {μ : Sto}
theorem gcd_loop : ∀ (n a b : Nat), b < n → whileF (fB (fOp (cmpW fun i j => decide (j < i)) (fVar 1) (fC (.int 0)))) L_common_1 n [some (.d (.int (a : Nat))), some (.d (.int (b : Nat)))] μ = .ok (.nx [some (.d (.int (Nat.gcd a b : Nat))), some (.d (.int 0))]) μ
  | 0, a, b, h => absurd h (Nat.not_lt_zero _)
  | n + 1, a, b, h => by
    unfold whileF
    by_cases hb : b = 0
    · subst hb
      simp
    · have h1 : 0 < b := Nat.pos_of_ne_zero hb
      have h2 : (0 : Int) < (b : Int) := by omega
      have e : ((a : Int) % (b : Int)) = ((a % b : Nat) : Int) := rfl
      have ih := gcd_loop n b (a % b) (by have := Nat.mod_lt a h1; omega)
      have g : Nat.gcd b (a % b) = Nat.gcd a b := by rw [Nat.gcd_comm b (a % b), ← Nat.gcd_rec, Nat.gcd_comm]
      rw [g] at ih
      simp [h1, o_mod h2]
      simp at ih
      exact ih
theorem common_ok (a b : Nat) (h : b < 64) : g_common [.d (.int (a : Nat)), .d (.int (b : Nat))] μ = .ok (.d (.int (Nat.gcd a b : Nat))) μ := by
  unfold g_common
  refine run_0 ?_
  unfold B_common
  have e := gcd_loop (μ := μ) w_common a b h
  simp [startE]
  rw [e]
  simp
/-! ### near -/
def nearOf (B : List (List Pd)) : Int := B.foldl (fun f r => if 1 + knobSum r > f then 1 + knobSum r else f) 1
def hasKn : Pd → Bool
  | .turn | .fold | .late _ => false
  | _ => true
theorem kn_sum : ∀ r : List Pd, ((r.filter hasKn).map kn).sum = knobSum r
  | [] => rfl
  | p :: r => by
    have := kn_sum r
    cases p <;> simp_all [List.filter_cons, hasKn, knobSum, kn]
theorem in_plain3 (z : Str) : inW true (.d (.str z)) (.d (.tuple [.str "turn", .str "fold", .str "late"])) μ = .ok (.d (.bool (!decide (z = "turn" ∨ z = "fold" ∨ z = "late")))) μ := by
  show (if flatD (.str z) = true ∧ ([.str "turn", .str "fold", .str "late"] : List D).all flatD = true then Rs.ok (Wv.d (.bool (if true = true then !(([.str "turn", .str "fold", .str "late"] : List D).any fun y => PyData.eqv y (.str z)) else ([.str "turn", .str "fold", .str "late"] : List D).any fun y => PyData.eqv y (.str z)))) μ else Rs.no) = _
  rw [if_pos ⟨rfl, rfl⟩, if_pos rfl]
  congr 4
  simp only [List.any_cons, List.any_nil, eqv_str, Bool.or_false]
  by_cases h1 : z = "turn" <;> by_cases h2 : z = "fold" <;> by_cases h3 : z = "late" <;> simp [h1, h2, h3, eq_comm]
theorem addK_late : addKW v_PLAIN (.d (.tuple [.str "late"])) μ = .ok (.d (.tuple [.str "turn", .str "fold", .str "late"])) μ := rfl
theorem near_ok {B : List (List Pd)} (hl : ∀ r ∈ B, r.length ≤ 1000000) : g_near_of [.d (boardD B)] μ = .ok (.d (.int (nearOf B))) μ := by
  unfold g_near_of
  refine run_0 ?_
  unfold B_near_of
  obtain ⟨env', e, a, b, c, rfl⟩ := for_fold (g := gVar 2) (b := L_near_of_1) (toD := rowD) (E := fun (f : Int) env => ∃ a b c, env = [some (.d (boardD B)), some (.d (.int f)), a, b, c]) (step := fun f r => if 1 + knobSum r > f then 1 + knobSum r else f) B 1 [some (.d (boardD B)), some (.d (.int 1)), none, none, none] μ ⟨_, _, _, rfl⟩ (by
    rintro r hr f env ⟨a, b, c, rfl⟩
    have e := fun z => comp_filter (g := gVar 4) (t := fB (fOp (inW true) (fOp ixW (fVar 4) (fC (.int 0))) (f1 (addKW v_PLAIN) (fTup (fCons (fC (.str "late")) (fNil)))))) (e := fCall kMax2 (fCons (fOp ixW (fVar 4) (fC (.int 1))) (fCons (fOp (opI fun i j => some (.int (i - j))) (fC (.int 0)) (fOp ixW (fVar 4) (fC (.int 1)))) (fNil)))) (env := [some (.d (boardD B)), some (.d (.int f)), some (.d (rowD r)), z, none]) (toD := Pd.toD) (q := hasKn) (φ := fun p => .int (kn p)) r μ [] (by
      intro p hp
      refine ⟨_, rfl, ?_, ?_⟩
      · cases p <;> simp [Pd.toD, addK_late, in_plain3, hasKn]
      · cases p <;> simp [Pd.toD, hasKn, kn]) (by have := hl r hr; simp [LIM]; omega)
    simp only [List.nil_append, rowD] at e
    refine ⟨_, [some (.d (boardD B)), some (.d (.int (if 1 + knobSum r > f then 1 + knobSum r else f))), some (.d (rowD r)), some (.d (.list ((r.filter hasKn).map fun p => .int (kn p)))), c], rfl, ?_, _, _, _, rfl⟩
    simp [rowD, e, kn_sum])
  simp only [boardD] at e
  simp [startE, boardD, e, nearOf]
/-! ### period -/
def perP (m : Nat) : Pd → Nat
  | .steps k => Nat.lcm m k.toNat
  | _ => m
def periodOf (B : List (List Pd)) : Nat := B.foldl (fun m r => r.foldl perP m) 1
theorem perP_60 {m : Nat} {p : Pd} (hp : p.ok) (h : m ∣ 60) : perP m p ∣ 60 := by
  cases p with
  | steps k =>
    simp only [Pd.ok] at hp
    refine Nat.lcm_dvd h ?_
    obtain ⟨n, rfl⟩ := Int.eq_ofNat_of_zero_le (show 0 ≤ k by omega)
    have : n = 2 ∨ n = 3 ∨ n = 4 ∨ n = 5 := by omega
    rcases this with rfl | rfl | rfl | rfl <;> decide
  | _ => exact h
theorem perP_le {m : Nat} (p : Pd) : m ∣ perP m p := by
  cases p with
  | steps k => exact Nat.dvd_lcm_left _ _
  | _ => exact Nat.dvd_refl m
theorem perR_60 : ∀ {r : List Pd} {m : Nat}, rowOk r → m ∣ 60 → r.foldl perP m ∣ 60
  | [], _, _, h => h
  | p :: r, m, ho, h => perR_60 (r := r) (fun q hq => ho q (List.mem_cons_of_mem _ hq)) (perP_60 (ho p List.mem_cons_self) h)
theorem perR_le : ∀ (r : List Pd) (m : Nat), m ∣ r.foldl perP m
  | [], m => Nat.dvd_refl m
  | p :: r, m => Nat.dvd_trans (perP_le p) (perR_le r (perP m p))
theorem perR_steps : ∀ {r : List Pd} (m : Nat), rowOk r → stepsDiv ((r.foldl perP m : Nat) : Int) r
  | [], m, _ => fun k hk => by cases hk
  | p :: r, m, ho => fun k hk => by
    rcases List.mem_cons.mp hk with hk | hk
    · subst hk
      have hp := ho _ List.mem_cons_self
      simp only [Pd.ok] at hp
      have h1 : k.toNat ∣ perP m (.steps k) := Nat.dvd_lcm_right _ _
      have h2 := Nat.dvd_trans h1 (perR_le r (perP m (.steps k)))
      have e : k = (k.toNat : Int) := by omega
      rw [e]
      exact Int.natCast_dvd_natCast.mpr h2
    · have ho' : rowOk r := fun q hq => ho q (List.mem_cons_of_mem _ hq)
      exact perR_steps (perP m p) ho' k hk
theorem perB_60 : ∀ {B : List (List Pd)} {m : Nat}, boardOk B → m ∣ 60 → B.foldl (fun m r => r.foldl perP m) m ∣ 60
  | [], _, _, h => h
  | r :: B, m, ho, h => perB_60 (B := B) (fun q hq => ho q (List.mem_cons_of_mem _ hq)) (perR_60 (ho r List.mem_cons_self) h)
theorem perB_le : ∀ (B : List (List Pd)) (m : Nat), m ∣ B.foldl (fun m r => r.foldl perP m) m
  | [], m => Nat.dvd_refl m
  | r :: B, m => Nat.dvd_trans (perR_le r m) (perB_le B _)
theorem perB_steps : ∀ {B : List (List Pd)} (m : Nat), boardOk B → ∀ r ∈ B, stepsDiv ((B.foldl (fun m r => r.foldl perP m) m : Nat) : Int) r
  | [], m, _, _, h => by cases h
  | s :: B, m, ho, r, h => by
    rcases List.mem_cons.mp h with h | h
    · subst h
      intro k hk
      exact Int.dvd_trans (perR_steps m (ho _ List.mem_cons_self) k hk) (Int.natCast_dvd_natCast.mpr (perB_le B _))
    · have ho' : boardOk B := fun q hq => ho q (List.mem_cons_of_mem _ hq)
      exact perB_steps _ ho' r h
theorem period_60 {B : List (List Pd)} (h : boardOk B) : periodOf B ∣ 60 := perB_60 h (Nat.one_dvd _)
theorem period_pos {B : List (List Pd)} (h : boardOk B) : 0 < periodOf B ∧ periodOf B ≤ 60 := ⟨Nat.pos_of_dvd_of_pos (period_60 h) (by decide), Nat.le_of_dvd (by decide) (period_60 h)⟩
theorem period_steps {B : List (List Pd)} (h : boardOk B) : ∀ r ∈ B, stepsDiv (periodOf B : Int) r := perB_steps 1 h
theorem period_div (m n : Nat) (hm0 : 0 < m) (hm : m ≤ 60) : opI divI (.d (.int ((m : Int) * (n : Int)))) (.d (.int ((Nat.gcd m n : Nat) : Int))) μ = .ok (.d (.int (Nat.lcm m n : Nat))) μ := by
  have hg : 0 < Nat.gcd m n := Nat.gcd_pos_of_pos_left _ hm0
  have hg2 : Nat.gcd m n ≤ m := Nat.gcd_le_left _ hm0
  have d := o_div (i := (m : Int) * (n : Int)) (j := ((Nat.gcd m n : Nat) : Int)) (μ := μ) (by omega) (by omega)
  rw [d]
  have q : (m : Int) * (n : Int) / ((Nat.gcd m n : Nat) : Int) = ((Nat.lcm m n : Nat) : Int) := by
    unfold Nat.lcm
    rw [Int.natCast_ediv, Int.natCast_mul]
  rw [q]
theorem period_turn {b0 r0 : Wv} {p : Pd} (hok : p.ok) {m : Nat} (hm : m ∣ 60) : L_period_of_1 [some b0, some (.d (.int (m : Nat))), some r0, some (.d p.toD)] μ = .ok (.nx [some b0, some (.d (.int (perP m p : Nat))), some r0, some (.d p.toD)]) μ := by
  cases p with
  | steps k =>
    simp only [Pd.ok] at hok
    obtain ⟨n, rfl⟩ := Int.eq_ofNat_of_zero_le (show 0 ≤ k by omega)
    have hm60 : m ≤ 60 := Nat.le_of_dvd (by decide) hm
    have hm0 : 0 < m := Nat.pos_of_dvd_of_pos hm (by decide)
    have c : CMul (m : Int) (n : Int) := cmul1 (by omega)
    have d := period_div (μ := μ) m n hm0 hm60
    have cm := common_ok (μ := μ) m n (by omega)
    have e1 : (fB (fOp (eqW false) (fOp ixW (fVar 3) (fC (.int 0))) (fC (.str "steps")))) [some b0, some (.d (.int (m : Nat))), some r0, some (.d (Pd.steps (n : Int)).toD)] μ = .ok true μ := by simp [Pd.toD, eq_str]
    have e2 : (fOp (opI divI) (fOp mulW (fVar 1) (fOp ixW (fVar 3) (fC (.int 1)))) (fCall (callD 2 g_common) (fCons (fVar 1) (fCons (fOp ixW (fVar 3) (fC (.int 1))) (fNil))))) [some b0, some (.d (.int (m : Nat))), some r0, some (.d (Pd.steps (n : Int)).toD)] μ = .ok (.d (.int (Nat.lcm m n : Nat))) μ := by
      rw [← d]
      simp -implicitDefEqProofs [-opI_int, Pd.toD, c, cm]
    have e3 : perP m (.steps (n : Int)) = Nat.lcm m n := by
      show Nat.lcm m (n : Int).toNat = _
      rw [Int.toNat_natCast]
    rw [e3]
    unfold L_period_of_1
    rw [e_sIf, e1, Rs.bind_ok, if_pos rfl, e_sAsg, e2]
    generalize Nat.lcm m n = z
    rfl
  | _ => simp -implicitDefEqProofs [Pd.toD, eq_str, perP]
theorem period_row {b0 : Wv} : ∀ {r : List Pd} {m : Nat} {b : Option Wv} (r0 : Wv), rowOk r → m ∣ 60 → ∃ b', forF (gVar 3) L_period_of_1 (r.map Pd.toD) [some b0, some (.d (.int (m : Nat))), some r0, b] μ = .ok (.nx [some b0, some (.d (.int (r.foldl perP m : Nat))), some r0, b']) μ
  | [], m, b, r0, _, _ => ⟨b, rfl⟩
  | p :: r, m, b, r0, ho, hm => by
    obtain ⟨b', e⟩ := period_row (b0 := b0) (r := r) (m := perP m p) (b := some (.d p.toD)) r0 (fun q hq => ho q (List.mem_cons_of_mem _ hq)) (perP_60 (ho p List.mem_cons_self) hm)
    refine ⟨b', ?_⟩
    rw [List.map_cons, List.foldl_cons]
    unfold forF
    simp only [e_gVar, noex_ok, Rs.bind_ok, List.set_cons_succ, List.set_cons_zero, period_turn (ho p List.mem_cons_self) hm, e]
theorem period_rows {b0 : Wv} : ∀ {B : List (List Pd)} {m : Nat} {a b : Option Wv}, boardOk B → m ∣ 60 → ∃ a' b', forF (gVar 2) L_period_of_2 (B.map rowD) [some b0, some (.d (.int (m : Nat))), a, b] μ = .ok (.nx [some b0, some (.d (.int (B.foldl (fun m r => r.foldl perP m) m : Nat))), a', b']) μ
  | [], m, a, b, _, _ => ⟨a, b, rfl⟩
  | r :: B, m, a, b, ho, hm => by
    obtain ⟨b1, e1⟩ := period_row (μ := μ) (b0 := b0) (r := r) (m := m) (b := b) (.d (rowD r)) (ho r List.mem_cons_self) hm
    obtain ⟨a', b', e⟩ := period_rows (b0 := b0) (B := B) (m := r.foldl perP m) (a := some (.d (rowD r))) (b := b1) (fun q hq => ho q (List.mem_cons_of_mem _ hq)) (perR_60 (ho r List.mem_cons_self) hm)
    refine ⟨a', b', ?_⟩
    rw [List.map_cons, List.foldl_cons]
    unfold forF
    have e2 : L_period_of_2 [some b0, some (.d (.int (m : Nat))), some (.d (rowD r)), b] μ = .ok (.nx [some b0, some (.d (.int (r.foldl perP m : Nat))), some (.d (rowD r)), b1]) μ := by
      rw [← e1]
      rfl
    simp only [e_gVar, noex_ok, Rs.bind_ok, List.set_cons_succ, List.set_cons_zero, e2, e]
theorem period_ok {B : List (List Pd)} (h : boardOk B) : g_period_of [.d (boardD B)] μ = .ok (.d (.int (periodOf B : Nat))) μ := by
  unfold g_period_of
  refine run_0 ?_
  unfold B_period_of
  obtain ⟨a', b', e⟩ := period_rows (μ := μ) (b0 := .d (boardD B)) (B := B) (m := 1) (a := none) (b := none) h (Nat.one_dvd _)
  have e0 : (itS (fVar 0)) [some (.d (boardD B)), some (.d (.int 1)), none, none] μ = .ok (B.map rowD) μ := rfl
  show (sCons _ _) [some (.d (boardD B)), none, none, none] μ = _
  simp only [e_sCons, e_sAsg, e_fC, Rs.bind_ok, e_gVar, noex_ok, List.set_cons_succ, List.set_cons_zero, e_sFor, e0]
  have e' : forF (gVar 2) L_period_of_2 (B.map rowD) [some (.d (boardD B)), some (.d (.int 1)), none, none] μ = _ := e
  rw [e']
  rfl
end
end Ped

/-! PedK: by loudness, span, what parts two boards -/
namespace Ped
open PySem L2 PyProof.Rows PySem.Spec
/-! ### numbers by loudness -/
def louds (m : Nat) : List Int := 0 :: (List.range m).flatMap fun (i : Nat) => [(i : Int) + 1, -((i : Int) + 1)]
theorem louds_len : ∀ m : Nat, (louds m).length = 2 * m + 1 := fun m => by
  have : ∀ k : Nat, ((List.range k).flatMap fun (i : Nat) => [(i : Int) + 1, -((i : Int) + 1)]).length = 2 * k := fun k => by
    induction k with
    | zero => rfl
    | succ k ih => rw [List.range_succ, List.flatMap_append, List.length_append, ih]; simp; omega
  unfold louds
  rw [List.length_cons, this]
theorem louds_succ (m : Nat) : louds (m + 1) = louds m ++ [(m : Int) + 1, -((m : Int) + 1)] := by
  unfold louds
  rw [List.range_succ, List.flatMap_append]
  simp
theorem mem_louds {m : Nat} {z : Int} : z ∈ louds m ↔ -(m : Int) ≤ z ∧ z ≤ m := by
  induction m with
  | zero => simp [louds]; omega
  | succ m ih =>
    rw [louds_succ, List.mem_append, ih]
    simp
    omega
theorem louds_pre {m n : Nat} (h : m ≤ n) : ∃ r, louds n = louds m ++ r ∧ ∀ z ∈ r, (m : Int) < (if z < 0 then -z else z) := by
  induction n with
  | zero =>
    have : m = 0 := by omega
    subst this
    exact ⟨[], by simp, by simp⟩
  | succ n ih =>
    by_cases hm : m = n + 1
    · subst hm
      exact ⟨[], by simp, by simp⟩
    · obtain ⟨r, e, hr⟩ := ih (by omega)
      refine ⟨r ++ [(n : Int) + 1, -((n : Int) + 1)], by rw [louds_succ, e, List.append_assoc], fun z hz => ?_⟩
      rcases List.mem_append.mp hz with hz | hz
      · exact hr z hz
      · simp at hz
        rcases hz with rfl | rfl
        · split <;> omega
        · split <;> omega
section
variable {μ : Sto}
theorem loud_loop {b : FS} (hb : ∀ (z : Int) (s : List Int) (x : Wv), s.length ≤ 1000000 → ∀ y, b [some x, some (.d (.list (s.map PyData.int))), some (.d (.int z))] μ = .ok (.nx [some x, some (.d (.list ((s ++ [z, -z]).map PyData.int))), some (.d (.int z))]) μ ∨ y = true ∧ False) (m : Nat) (hm : m ≤ 100000) (x : Wv) : ∃ t, forF (gVar 2) b (rangeD 1 m) [some x, some (.d (.list ((louds 0).map PyData.int))), none] μ = .ok (.nx [some x, some (.d (.list ((louds m).map PyData.int))), t]) μ := by
  obtain ⟨env', μ', e, ⟨t, rfl⟩, rfl⟩ := for_nat (g := gVar 2) (b := b) (E := fun i env μ' => (∃ t, env = [some x, some (.d (.list ((louds i).map PyData.int))), t]) ∧ μ' = μ) (rangeD 1 m) 0 [some x, some (.d (.list ((louds 0).map PyData.int))), none] μ ⟨⟨_, rfl⟩, rfl⟩ (by
    rintro i hi env μ' ⟨⟨t, rfl⟩, rfl⟩
    rw [rangeD_length] at hi
    have ei : (rangeD 1 m)[i]'(by rw [rangeD_length]; exact hi) = .int ((i : Int) + 1) := by
      simp [rangeD]
      omega
    refine ⟨_, _, _, _, by rw [ei]; rfl, ?_, ⟨some (.d (.int ((i : Int) + 1))), rfl⟩, rfl⟩
    rcases hb ((i : Int) + 1) (louds i) x (by rw [louds_len]; omega) true with h | h
    · rw [Nat.zero_add, louds_succ]
      exact h
    · exact h.2.elim)
  rw [rangeD_length, Nat.zero_add] at e
  exact ⟨t, e⟩
theorem by_loud_ok (m : Nat) (hm : m ≤ 100000) : g_by_loudness [.d (.int (m : Nat))] μ = .ok (.d (.list ((louds m).map PyData.int))) μ := by
  unfold g_by_loudness
  refine run_0 ?_
  unfold B_by_loudness
  obtain ⟨t, e⟩ := loud_loop (μ := μ) (b := L_by_loudness_1) (fun z s x hs _ => .inl (by
    have hl : s.length + 2 ≤ 16000000 := by omega
    simp [o_addL, LIM, hl])) m hm (.d (.int (m : Nat)))
  have e2 := rg_k2 (i := 1) (j := (m : Int) + 1) (μ := μ) (by omega) (by omega)
  rw [show ((m : Int) + 1 - 1).toNat = m by omega] at e2
  simp only [louds, List.range_zero, List.flatMap_nil, List.map_cons, List.map_nil] at e
  simp -implicitDefEqProofs [startE, e2, e, louds]
theorem around_ok (m : Nat) (hm : m ≤ 100000) : g__law_around [.d (.int (m : Nat))] μ = .ok (.d (.list ((louds m).map PyData.int))) μ := by
  unfold g__law_around
  refine run_0 ?_
  unfold B__law_around
  obtain ⟨t, e⟩ := loud_loop (μ := μ) (b := L__law_around_1) (fun z s x hs _ => .inl (by
    have hl : s.length + 2 ≤ 16000000 := by omega
    simp [o_addL, LIM, hl])) m hm (.d (.int (m : Nat)))
  have e2 := rg_k2 (i := 1) (j := (m : Int) + 1) (μ := μ) (by omega) (by omega)
  rw [show ((m : Int) + 1 - 1).toNat = m by omega] at e2
  simp only [louds, List.range_zero, List.flatMap_nil, List.map_cons, List.map_nil] at e
  simp -implicitDefEqProofs [startE, e2, e, louds]
/-! ### near and span, bounded -/
theorem knobSum_le : ∀ {r : List Pd}, rowOk r → knobSum r ≤ 50 * r.length
  | [], _ => by simp [knobSum]
  | p :: r, h => by
    have ih := knobSum_le (r := r) fun q hq => h q (List.mem_cons_of_mem _ hq)
    have hp := h p List.mem_cons_self
    have e : knobSum (p :: r) = kn p + knobSum r := by simp [knobSum]
    have hk : kn p ≤ 50 := by
      cases p <;> simp only [Pd.ok] at hp <;> simp only [kn] <;> first | omega | (split <;> omega)
    rw [e, List.length_cons]
    omega
theorem near_fold : ∀ (B : List (List Pd)) (f : Int), f ≤ B.foldl (fun f r => if 1 + knobSum r > f then 1 + knobSum r else f) f ∧ (∀ r ∈ B, knobSum r < B.foldl (fun f r => if 1 + knobSum r > f then 1 + knobSum r else f) f) ∧ ∀ b : Int, f ≤ b → (∀ r ∈ B, 1 + knobSum r ≤ b) → B.foldl (fun f r => if 1 + knobSum r > f then 1 + knobSum r else f) f ≤ b
  | [], f => ⟨Int.le_refl f, by simp, fun b h _ => h⟩
  | r :: B, f => by
    obtain ⟨x, hx⟩ : ∃ x, x = (if 1 + knobSum r > f then 1 + knobSum r else f) := ⟨_, rfl⟩
    have hx1 : f ≤ x ∧ 1 + knobSum r ≤ x ∧ (x = f ∨ x = 1 + knobSum r) := by rw [hx]; split <;> omega
    rw [List.foldl_cons, ← hx]
    obtain ⟨h1, h2, h3⟩ := near_fold B x
    refine ⟨?_, fun s hs => ?_, fun b hb hB => h3 b ?_ fun s hs => hB s (List.mem_cons_of_mem _ hs)⟩
    · omega
    · rcases List.mem_cons.mp hs with rfl | hs
      · omega
      · exact h2 s hs
    · have := hB r List.mem_cons_self
      omega
theorem near_lt {B : List (List Pd)} : ∀ r ∈ B, knobSum r < nearOf B := (near_fold B 1).2.1
theorem near_bound {B : List (List Pd)} (h : boardOk B) {k : Nat} (hl : ∀ r ∈ B, r.length ≤ k) : 1 ≤ nearOf B ∧ nearOf B ≤ 1 + 50 * k := by
  refine ⟨(near_fold B 1).1, (near_fold B 1).2.2 _ (by omega) fun r hr => ?_⟩
  have := knobSum_le (h r hr)
  have := hl r hr
  omega
def spanOf (B : List (List Pd)) : Nat := (nearOf B).toNat + 2 * periodOf B
theorem span_ok {B : List (List Pd)} (h : boardOk B) (hl : ∀ r ∈ B, r.length ≤ 1000000) : g_span_of [.d (boardD B)] μ = .ok (.d (.int (spanOf B : Nat))) μ := by
  unfold g_span_of
  refine run_0 ?_
  unfold B_span_of
  have c : CMul 2 (periodOf B : Nat) := cmul1 (by omega)
  have n := (near_bound h hl).1
  have e : nearOf B + 2 * (periodOf B : Nat) = (spanOf B : Nat) := by unfold spanOf; omega
  simp -implicitDefEqProofs [startE, near_ok hl, period_ok h, c, e]
/-! ### the parts of a board -/
def partShape (B : List (List Pd)) (L n : Int) : Int := ((B.filter fun r => decide (lateOf r = L)).map fun r => rowShape r n - rowShape r 0).sum
def lates (B : List (List Pd)) : List Int := sset (B.map lateOf)
theorem toInts_map2 {α : Type} (f : α → Int) (xs : List α) : toInts (xs.map fun x => PyData.int (f x)) = some (xs.map f) := by
  have := toInts_map (xs.map f)
  rw [List.map_map] at this
  exact this
theorem lates_ok {B : List (List Pd)} (hl : ∀ r ∈ B, r.length ≤ 1000000) (hB : B.length < 64) : g_latenesses [.d (boardD B)] μ = .ok (.d (.list ((lates B).map PyData.int))) μ := by
  unfold g_latenesses
  refine run_0 ?_
  unfold B_latenesses
  have e := comp_map (g := gVar 1) (e := fCall (callD 1 g_late_of) (fCons (fVar 1) (fNil))) (env := [some (.d (boardD B)), none]) (toD := rowD) (φ := fun r => .int (lateOf r)) B μ [] (fun r hr => ⟨_, rfl, by simp [late_of_ok (hl r hr)]⟩) (by simp [LIM]; omega)
  simp only [List.nil_append, boardD] at e
  simp [startE, boardD, e, ssW, toInts_map2, hB, lates]
theorem part_ok {B : List (List Pd)} (h : boardOk B) (hl : ∀ r ∈ B, r.length ≤ 1000000) (hB : B.length ≤ 1000000) (L n : Int) : g_part_shape [.d (boardD B), .d (.int L), .d (.int n)] μ = .ok (.d (.int (partShape B L n))) μ := by
  unfold g_part_shape
  refine run_0 ?_
  unfold B_part_shape
  have e := comp_filter (g := gVar 3) (t := fB (fOp (eqW false) (fCall (callD 1 g_late_of) (fCons (fVar 3) (fNil))) (fVar 1))) (e := fOp (opI fun i j => some (.int (i - j))) (fCall (callD 2 g_row_shape) (fCons (fVar 3) (fCons (fVar 2) (fNil)))) (fCall (callD 2 g_row_shape) (fCons (fVar 3) (fCons (fC (.int 0)) (fNil))))) (env := [some (.d (boardD B)), some (.d (.int L)), some (.d (.int n)), none]) (toD := rowD) (q := fun r => decide (lateOf r = L)) (φ := fun r => .int (rowShape r n - rowShape r 0)) B μ [] (fun r hr => ⟨_, rfl, by simp [late_of_ok (hl r hr), eq_int], fun _ => by simp [row_shape_ok (h r hr)]⟩) (by simp [LIM]; omega)
  simp only [List.nil_append, boardD] at e
  simp [startE, boardD, e, partShape]
def differs (one other : List (List Pd)) (n : Int) : Bool := (sset (lates one ++ lates other)).any fun L => !decide (partShape one L n = partShape other L n)
def partingD (one other : List (List Pd)) : D := if heardAt one [] 0 = heardAt other [] 0 then (match (louds (spanOf (one ++ other))).find? (differs one other) with
  | some n => .tuple [.int n]
  | none => .none) else .tuple []
theorem find_any {α : Type} {p : α → Bool} : ∀ {xs : List α}, xs.any p = true → ∃ x, xs.find? p = some x
  | x :: r, h => by
    rw [List.find?_cons]
    cases hp : p x with
    | true => exact ⟨x, rfl⟩
    | false =>
      rw [List.any_cons, hp, Bool.false_or] at h
      exact find_any h
theorem find_none {α : Type} {p : α → Bool} {xs : List α} (h : xs.any p = false) : xs.find? p = none := by
  rw [List.find?_eq_none]
  intro x hx hp
  have := List.any_eq_true.mpr ⟨x, hx, hp⟩
  rw [h] at this
  cases this
structure BOk (B : List (List Pd)) : Prop where
  ok : boardOk B
  rl : ∀ r ∈ B, r.length ≤ 6
  l1 : 1 ≤ B.length
  l3 : B.length ≤ 3
theorem parting_ok {one other : List (List Pd)} (h1 : BOk one) (h2 : BOk other) : g_parting_of [.d (boardD one), .d (boardD other)] μ = .ok (.d (partingD one other)) μ := by
  have r1 : ∀ r ∈ one, r.length ≤ 1000000 := fun r hr => by have := h1.rl r hr; omega
  have r2 : ∀ r ∈ other, r.length ≤ 1000000 := fun r hr => by have := h2.rl r hr; omega
  have b1 := h1.l3
  have b2 := h2.l3
  have ho : boardOk (one ++ other) := fun r hr => by
    rcases List.mem_append.mp hr with hr | hr
    · exact h1.ok r hr
    · exact h2.ok r hr
  have hr6 : ∀ r ∈ one ++ other, r.length ≤ 6 := fun r hr => by
    rcases List.mem_append.mp hr with hr | hr
    · exact h1.rl r hr
    · exact h2.rl r hr
  have hsp : spanOf (one ++ other) ≤ 1000 := by
    have := near_bound ho hr6
    have := period_pos ho
    unfold spanOf
    omega
  have eh1 := heard_at_ok (μ := μ) h1.ok r1 (by omega) [] 0
  have eh2 := heard_at_ok (μ := μ) h2.ok r2 (by omega) [] 0
  have el1 := lates_ok (μ := μ) r1 (by omega)
  have el2 := lates_ok (μ := μ) r2 (by omega)
  have es := span_ok (μ := μ) ho (fun r hr => by have := hr6 r hr; omega)
  have eb := by_loud_ok (μ := μ) (spanOf (one ++ other)) (by omega)
  have hll : (lates one).length + (lates other).length < 64 := by
    have := sset_len (one.map lateOf)
    have := sset_len (other.map lateOf)
    simp only [List.length_map] at *
    unfold lates
    omega
  have ess : ssW (.d (.list ((lates one).map PyData.int ++ (lates other).map PyData.int))) μ = .ok (.d (.list ((sset (lates one ++ lates other)).map PyData.int))) μ := by
    unfold ssW
    rw [← List.map_append]
    simp only [toInts_map]
    rw [if_pos (by rw [List.length_append]; exact hll)]
  have inner : ∀ (n : Int) (t : Option Wv), (∀ L, (sset (lates one ++ lates other)).find? (fun L => !decide (partShape one L n = partShape other L n)) = some L → forF (gVar 4) L_parting_of_1 ((sset (lates one ++ lates other)).map PyData.int) [some (.d (boardD one)), some (.d (boardD other)), some (.d (.list ((sset (lates one ++ lates other)).map PyData.int))), some (.d (.int n)), t] μ = .ok (.rt (.d (.tuple [.int n]))) μ) ∧
      ((sset (lates one ++ lates other)).find? (fun L => !decide (partShape one L n = partShape other L n)) = none → ∃ env', forF (gVar 4) L_parting_of_1 ((sset (lates one ++ lates other)).map PyData.int) [some (.d (boardD one)), some (.d (boardD other)), some (.d (.list ((sset (lates one ++ lates other)).map PyData.int))), some (.d (.int n)), t] μ = .ok (.nx env') μ ∧ ∃ t, env' = [some (.d (boardD one)), some (.d (boardD other)), some (.d (.list ((sset (lates one ++ lates other)).map PyData.int))), some (.d (.int n)), t]) := fun n t => by
    refine for_find (toD := PyData.int) (E := fun env => ∃ t, env = [some (.d (boardD one)), some (.d (boardD other)), some (.d (.list ((sset (lates one ++ lates other)).map PyData.int))), some (.d (.int n)), t]) (test := fun L => !decide (partShape one L n = partShape other L n)) (ret := fun _ => .d (.tuple [.int n])) _ _ ⟨_, rfl⟩ ?_
    rintro L hL env ⟨t, rfl⟩
    have e1 := part_ok (μ := μ) h1.ok r1 (by omega) L n
    have e2 := part_ok (μ := μ) h2.ok r2 (by omega) L n
    refine ⟨_, rfl, fun hT => ?_, fun hF => ⟨_, ?_, some (.d (.int L)), rfl⟩⟩
    · have hT : ¬ partShape one L n = partShape other L n := by simpa using hT
      simp -implicitDefEqProofs [e1, e2, eq_int, hT]
    · have hF : partShape one L n = partShape other L n := by simpa using hF
      simp -implicitDefEqProofs [e1, e2, eq_int, hF]
  have outer := for_find (g := gVar 3) (b := L_parting_of_2) (toD := PyData.int) (μ := μ) (E := fun env => ∃ a t, env = [some (.d (boardD one)), some (.d (boardD other)), some (.d (.list ((sset (lates one ++ lates other)).map PyData.int))), a, t]) (test := differs one other) (ret := fun n => .d (.tuple [.int n])) (louds (spanOf (one ++ other))) [some (.d (boardD one)), some (.d (boardD other)), some (.d (.list ((sset (lates one ++ lates other)).map PyData.int))), none, none] ⟨_, _, rfl⟩ (by
    rintro n hn env ⟨a, t, rfl⟩
    refine ⟨_, rfl, fun hT => ?_, fun hF => ?_⟩
    · obtain ⟨L, hL⟩ := find_any hT
      have := (inner n t).1 L hL
      simp -implicitDefEqProofs [this]
    · obtain ⟨env', e, t', rfl⟩ := (inner n t).2 (find_none hF)
      exact ⟨[some (.d (boardD one)), some (.d (boardD other)), some (.d (.list ((sset (lates one ++ lates other)).map PyData.int))), some (.d (.int n)), t'], by simp -implicitDefEqProofs [e], some (.d (.int n)), t', rfl⟩)
  unfold g_parting_of
  refine run_0 ?_
  unfold B_parting_of
  have hL2 : one.length + other.length ≤ 16000000 := by omega
  have hL3 : (lates one).length + (lates other).length ≤ 16000000 := by omega
  simp only [boardD, List.map_append, numsD, List.map_nil] at eh1 eh2 el1 el2 es eb outer
  unfold partingD
  by_cases hh : heardAt one [] 0 = heardAt other [] 0
  · cases hf : (louds (spanOf (one ++ other))).find? (differs one other) with
    | none =>
      obtain ⟨env', e, a, t, rfl⟩ := outer.2 hf
      simp -implicitDefEqProofs [startE, boardD, eh1, eh2, eq_int, hh, el1, el2, o_addL, o_addT, LIM, hL2, hL3, ess, es, eb, e]
    | some n =>
      have e := outer.1 n hf
      simp -implicitDefEqProofs [startE, boardD, eh1, eh2, eq_int, hh, el1, el2, o_addL, o_addT, LIM, hL2, hL3, ess, es, eb, e]
  · simp -implicitDefEqProofs [startE, boardD, eh1, eh2, eq_int, hh]
theorem alike_ok {one other : List (List Pd)} (h1 : BOk one) (h2 : BOk other) : g_alike [.d (boardD one), .d (boardD other)] μ = .ok (.d (.bool (isNoneD (partingD one other)))) μ := by
  unfold g_alike
  refine run_0 ?_
  unfold B_alike
  have e : isNW false (.d (partingD one other)) (.d .none) μ = .ok (.d (.bool (isNoneD (partingD one other)))) μ := rfl
  simp -implicitDefEqProofs [startE, need_board_ok h1.ok h1.rl h1.l1 h1.l3, need_board_ok h2.ok h2.rl h2.l1 h2.l3, parting_ok h1 h2, e]
end
end Ped

/-! PedJ: what agrees near nought agrees everywhere; the law's own sums -/
namespace Ped
open PySem L2 PyProof.Rows PySem.Spec
/-! ### the far side of two boards -/
def steady (D : Int → Int) (N P : Int) : Prop := ∃ t, ∀ n, N ≤ n → D (n + P) = D n + t
theorem steady_sum {α : Type} {N P : Int} (f : α → Int → Int) : ∀ xs : List α, (∀ x ∈ xs, steady (f x) N P) → steady (fun n => (xs.map fun x => f x n).sum) N P
  | [], _ => ⟨0, fun n _ => by simp⟩
  | x :: r, h => by
    obtain ⟨t, ht⟩ := h x List.mem_cons_self
    obtain ⟨u, hu⟩ := steady_sum f r fun y hy => h y (List.mem_cons_of_mem _ hy)
    refine ⟨t + u, fun n hn => ?_⟩
    have h1 := ht n hn
    have h2 := hu n hn
    simp only [List.map_cons, List.sum_cons] at *
    omega
theorem steady_part {A B : List (List Pd)} {P N : Int} (hP : 0 < P) (h : boardOk A) (hs : ∀ r ∈ A, stepsDiv P r) (hN : ∀ r ∈ A, knobSum r < N) (L : Int) : steady (fun n => partShape A L n) N P ∧ steady (fun n => partShape A L (-n)) N P := by
  refine ⟨steady_sum (fun r n => rowShape r n - rowShape r 0) _ fun r hr => ?_, steady_sum (fun r n => rowShape r (-n) - rowShape r 0) _ fun r hr => ?_⟩
  · have hr := (List.mem_filter.mp hr).1
    obtain ⟨t, ht⟩ := far_pos hP (h r hr) (hs r hr) (hN r hr)
    exact ⟨t, fun n hn => by have := ht n hn; simp only; omega⟩
  · have hr := (List.mem_filter.mp hr).1
    obtain ⟨t, ht⟩ := far_neg hP (h r hr) (hs r hr) (hN r hr)
    exact ⟨t, fun n hn => by have := ht n hn; simp only; omega⟩
theorem steady_zero {D : Int → Int} {N P : Int} (hP : 0 < P) (h : steady D N P) (z : ∀ n, N ≤ n → n ≤ N + 2 * P → D n = 0) : ∀ n, N ≤ n → D n = 0 := by
  obtain ⟨t, ht⟩ := h
  have t0 : t = 0 := by
    have h1 := ht N (Int.le_refl N)
    have h2 := z N (Int.le_refl N) (by omega)
    have h3 := z (N + P) (by omega) (by omega)
    omega
  have key : ∀ (k : Nat) (n : Int), N ≤ n → n < N + P * (k + 1) → D n = 0 := fun k => by
    induction k with
    | zero =>
      intro n h1 h2
      refine z n h1 ?_
      simp at h2
      omega
    | succ k ih =>
      intro n h1 h2
      by_cases hc : n < N + P
      · exact z n h1 (by omega)
      · have e := ht (n - P) (by omega)
        rw [show n - P + P = n by omega, t0] at e
        rw [e, Int.add_zero]
        refine ih (n - P) (by omega) ?_
        have e2 : P * (((k + 1 : Nat) : Int) + 1) = P * ((k : Int) + 1) + P := by
          rw [Int.natCast_succ, Int.mul_add, Int.mul_one]
        rw [e2] at h2
        omega
  intro n hn
  refine key (n - N).toNat n hn ?_
  have e : (((n - N).toNat : Nat) : Int) = n - N := by omega
  rw [e]
  have : 1 * (n - N + 1) ≤ P * (n - N + 1) := Int.mul_le_mul_of_nonneg_right (by omega) (by omega)
  omega
theorem agree_all {one other : List (List Pd)} (ho : boardOk (one ++ other)) {L : Int} (z : ∀ n : Int, -(spanOf (one ++ other) : Int) ≤ n → n ≤ spanOf (one ++ other) → partShape one L n = partShape other L n) : ∀ n, partShape one L n = partShape other L n := by
  have h1 : boardOk one := fun r hr => ho r (List.mem_append_left _ hr)
  have h2 : boardOk other := fun r hr => ho r (List.mem_append_right _ hr)
  obtain ⟨p0, p60⟩ := period_pos ho
  have hP : 0 < (periodOf (one ++ other) : Int) := by omega
  have hs := period_steps ho
  have hN := near_lt (B := one ++ other)
  have n1 : 1 ≤ nearOf (one ++ other) := (near_fold _ 1).1
  have hsp : (spanOf (one ++ other) : Int) = nearOf (one ++ other) + 2 * (periodOf (one ++ other) : Int) := by unfold spanOf; omega
  obtain ⟨a1, a2⟩ := steady_part (B := []) hP h1 (fun r hr => hs r (List.mem_append_left _ hr)) (fun r hr => hN r (List.mem_append_left _ hr)) L
  obtain ⟨b1, b2⟩ := steady_part (B := []) hP h2 (fun r hr => hs r (List.mem_append_right _ hr)) (fun r hr => hN r (List.mem_append_right _ hr)) L
  have sub : ∀ {f g : Int → Int} {N P : Int}, steady f N P → steady g N P → steady (fun n => f n - g n) N P := fun ⟨t, ht⟩ ⟨u, hu⟩ => ⟨t - u, fun n hn => by have := ht n hn; have := hu n hn; simp only; omega⟩
  have c1 := steady_zero hP (sub a1 b1) fun n h1 h2 => by have := z n (by omega) (by omega); omega
  have c2 := steady_zero hP (sub a2 b2) fun n h1 h2 => by have := z (-n) (by omega) (by omega); omega
  intro n
  by_cases g1 : nearOf (one ++ other) ≤ n
  · have q : partShape one L n - partShape other L n = 0 := c1 n g1
    omega
  · by_cases g2 : nearOf (one ++ other) ≤ -n
    · have q : partShape one L (- -n) - partShape other L (- -n) = 0 := c2 (-n) g2
      rw [Int.neg_neg] at q
      omega
    · exact z n (by omega) (by omega)
theorem part_none {B : List (List Pd)} {L n : Int} (h : L ∉ lates B) : partShape B L n = 0 := by
  have e : B.filter (fun r => decide (lateOf r = L)) = [] := by
    rw [List.filter_eq_nil_iff]
    intro r hr hq
    refine h (mem_sset.mpr ?_)
    rw [List.mem_map]
    exact ⟨r, hr, of_decide_eq_true hq⟩
  unfold partShape
  rw [e]
  rfl
theorem not_differs {one other : List (List Pd)} {n : Int} : differs one other n = false ↔ ∀ L, partShape one L n = partShape other L n := by
  unfold differs
  rw [List.any_eq_false]
  constructor
  · intro h L
    by_cases hL : L ∈ sset (lates one ++ lates other)
    · simpa using h L hL
    · rw [mem_sset, List.mem_append, not_or] at hL
      rw [part_none hL.1, part_none hL.2]
  · intro h L _
    simp [h L]
theorem find_same {one other : List (List Pd)} (ho : boardOk (one ++ other)) {m : Nat} (hm : spanOf (one ++ other) ≤ m) : (louds m).find? (differs one other) = (louds (spanOf (one ++ other))).find? (differs one other) := by
  obtain ⟨r, e, _⟩ := louds_pre hm
  rw [e, List.find?_append]
  cases hf : (louds (spanOf (one ++ other))).find? (differs one other) with
  | some x => rfl
  | none =>
    rw [List.find?_eq_none] at hf
    have all : ∀ L n, partShape one L n = partShape other L n := fun L => agree_all ho fun n h1 h2 => by
      have := hf n (mem_louds.mpr ⟨h1, h2⟩)
      exact not_differs.mp (by simpa using this) L
    show none.or (List.find? _ r) = none
    rw [Option.none_or, List.find?_eq_none]
    intro x _ hx
    rw [not_differs.mpr fun L => all L x] at hx
    cases hx
/-! ### the law's own sums -/
def lk : List (Int × Int) → Int → Option Int
  | [], _ => none
  | (a, b) :: r, L => if a = L then some b else lk r L
def pt (kv : List (Int × Int)) (L z : Int) : List (Int × Int) := if kv.any (fun p => decide (p.1 = L)) = true then kv.map (fun p => if p.1 = L then (p.1, z) else p) else kv ++ [(L, z)]
def kvM (kv : List (Int × Int)) : List (Key × Wv) := kv.map fun p => (Sum.inl p.1, .d (.int p.2))
theorem valW_kvM (L : Int) : ∀ kv : List (Int × Int), valW (kvM kv) (Sum.inl L : Key) = (lk kv L).map fun z => .d (.int z)
  | [] => rfl
  | (a, b) :: r => by
    show valW ((Sum.inl a, _) :: kvM r) _ = _
    have e : lk ((a, b) :: r) L = if a = L then some b else lk r L := rfl
    rw [valW_cons, valW_kvM L r, e]
    by_cases h : a = L
    · rw [if_pos h, if_pos (by rw [h])]; rfl
    · rw [if_neg h, if_neg (by intro z; exact h (Sum.inl.inj z))]
theorem any_kvM (L : Int) (kv : List (Int × Int)) : ((kvM kv).any fun p => decide (p.1 = (Sum.inl L : Key))) = kv.any fun p => decide (p.1 = L) := by
  unfold kvM
  rw [List.any_map]
  congr 1
  funext p
  show decide ((Sum.inl p.1 : Key) = Sum.inl L) = decide (p.1 = L)
  by_cases h : p.1 = L
  · rw [decide_eq_true h, decide_eq_true (by rw [h])]
  · rw [decide_eq_false h, decide_eq_false fun z => h (Sum.inl.inj z)]
theorem putW_kvM (L z : Int) (kv : List (Int × Int)) : putW (kvM kv) (Sum.inl L : Key) (.d (.int z)) = kvM (pt kv L z) := by
  unfold putW pt
  rw [any_kvM]
  split
  · unfold kvM
    rw [List.map_map, List.map_map]
    refine List.map_congr_left fun p _ => ?_
    simp only [Function.comp]
    by_cases h : p.1 = L
    · rw [if_pos (by rw [h]), if_pos h]
    · rw [if_neg (fun z => h (Sum.inl.inj z)), if_neg h]
  · simp [kvM]
theorem lk_none {kv : List (Int × Int)} {L : Int} : lk kv L = none ↔ L ∉ kv.map (·.1) := by
  induction kv with
  | nil => simp [lk]
  | cons p r ih =>
    obtain ⟨a, b⟩ := p
    unfold lk
    by_cases h : a = L
    · simp [h]
    · rw [if_neg h, ih]
      simp [Ne.symm h]
theorem any_mem {kv : List (Int × Int)} {L : Int} : kv.any (fun p => decide (p.1 = L)) = true ↔ L ∈ kv.map (·.1) := by
  simp
theorem lk_pt (L z M : Int) (kv : List (Int × Int)) : lk (pt kv L z) M = if M = L then some z else lk kv M := by
  unfold pt
  by_cases h : kv.any (fun p => decide (p.1 = L)) = true
  · rw [if_pos h]
    have key : ∀ kv : List (Int × Int), L ∈ kv.map (·.1) ∨ M ≠ L → lk (kv.map fun p => if p.1 = L then (p.1, z) else p) M = if M = L then some z else lk kv M := fun kv => by
      induction kv with
      | nil =>
        intro q
        rcases q with q | q
        · simp at q
        · rw [if_neg q]; rfl
      | cons p r ih =>
        obtain ⟨a, b⟩ := p
        intro q
        rw [List.map_cons]
        by_cases ha : a = L
        · subst ha
          rw [if_pos rfl]
          by_cases hM : M = a
          · subst hM; simp [lk]
          · rw [if_neg hM]
            have := ih (.inr hM)
            rw [if_neg hM] at this
            unfold lk
            rw [if_neg (Ne.symm hM), if_neg (Ne.symm hM), this]
        · rw [if_neg ha]
          by_cases hM : a = M
          · subst hM
            simp [lk, ha]
          · unfold lk
            rw [if_neg hM]
            refine (ih ?_).trans ?_
            · rcases q with q | q
              · simp at q
                rcases q with q | ⟨y, q⟩
                · exact absurd q.symm ha
                · exact .inl (by simp; exact ⟨y, q⟩)
              · exact .inr q
            · by_cases hML : M = L
              · rw [if_pos hML, if_pos hML]
              · rw [if_neg hML, if_neg hML, if_neg hM]
    exact key kv (.inl (any_mem.mp h))
  · rw [if_neg h]
    have hn : L ∉ kv.map (·.1) := fun q => h (any_mem.mpr q)
    have key : ∀ kv : List (Int × Int), L ∉ kv.map (·.1) → lk (kv ++ [(L, z)]) M = if M = L then some z else lk kv M := fun kv => by
      induction kv with
      | nil =>
        intro _
        by_cases hM : M = L
        · subst hM; simp [lk]
        · rw [if_neg hM]; simp [lk, Ne.symm hM]
      | cons p r ih =>
        obtain ⟨a, b⟩ := p
        intro q
        simp at q
        rw [List.cons_append]
        unfold lk
        by_cases ha : a = M
        · subst ha
          rw [if_pos rfl, if_pos rfl, if_neg (Ne.symm q.1)]
        · rw [if_neg ha, if_neg ha]
          exact ih (by simp; exact q.2)
    exact key kv hn
theorem keys_pt {L z : Int} {kv : List (Int × Int)} (hd : (kv.map (·.1)).Nodup) : ((pt kv L z).map (·.1)).Nodup ∧ ∀ M, M ∈ (pt kv L z).map (·.1) ↔ M = L ∨ M ∈ kv.map (·.1) := by
  unfold pt
  by_cases h : kv.any (fun p => decide (p.1 = L)) = true
  · rw [if_pos h]
    have e : (kv.map fun p => if p.1 = L then (p.1, z) else p).map (·.1) = kv.map (·.1) := by
      rw [List.map_map]
      refine List.map_congr_left fun p _ => ?_
      simp only [Function.comp]
      split <;> rfl
    rw [e]
    refine ⟨hd, fun M => ⟨.inr, fun q => ?_⟩⟩
    rcases q with rfl | q
    · exact any_mem.mp h
    · exact q
  · rw [if_neg h]
    have hn : L ∉ kv.map (·.1) := fun q => h (any_mem.mpr q)
    rw [List.map_append]
    refine ⟨?_, fun M => by simp; constructor <;> (rintro (q | q) <;> simp [q])⟩
    rw [List.nodup_append]
    exact ⟨hd, by simp, fun a ha b hb q => by simp at hb; subst hb; subst q; exact hn ha⟩
theorem pt_len (kv : List (Int × Int)) (L z : Int) : (pt kv L z).length ≤ kv.length + 1 := by
  unfold pt
  split <;> simp

def stepK (n : Int) (kv : List (Int × Int)) (r : List Pd) : List (Int × Int) := pt kv (lateOf r) (((lk kv (lateOf r)).getD 0 + rowShape r n) - rowShape r 0)
theorem fold_sums (n : Int) : ∀ (B : List (List Pd)) (kv : List (Int × Int)), (kv.map (·.1)).Nodup → (((B.foldl (stepK n) kv).map (·.1)).Nodup ∧ (∀ M, M ∈ (B.foldl (stepK n) kv).map (·.1) ↔ M ∈ kv.map (·.1) ∨ M ∈ B.map lateOf) ∧ (∀ M, (lk (B.foldl (stepK n) kv) M).getD 0 = (lk kv M).getD 0 + partShape B M n) ∧ (B.foldl (stepK n) kv).length ≤ kv.length + B.length)
  | [], kv, h => ⟨h, fun M => by simp, fun M => by simp [partShape], by simp⟩
  | r :: B, kv, h => by
    obtain ⟨k1, k2⟩ := keys_pt (L := lateOf r) (z := ((lk kv (lateOf r)).getD 0 + rowShape r n) - rowShape r 0) h
    obtain ⟨h1, h2, h3, h4⟩ := fold_sums n B (stepK n kv r) k1
    rw [List.foldl_cons]
    refine ⟨h1, fun M => ?_, fun M => ?_, ?_⟩
    · rw [h2 M]
      show M ∈ (pt kv _ _).map (·.1) ∨ _ ↔ _
      rw [k2 M, List.map_cons, List.mem_cons]
      constructor
      · rintro ((q | q) | q) <;> simp [q]
      · rintro (q | q | q) <;> simp [q]
    · rw [h3 M]
      unfold stepK
      rw [lk_pt]
      unfold partShape
      by_cases hM : M = lateOf r
      · subst hM
        rw [if_pos rfl, List.filter_cons, if_pos (by simp)]
        simp
        omega
      · rw [if_neg hM, List.filter_cons, if_neg (by simp; exact fun q => hM q.symm)]
    · have := pt_len kv (lateOf r) (((lk kv (lateOf r)).getD 0 + rowShape r n) - rowShape r 0)
      unfold stepK at h4
      unfold stepK
      rw [List.length_cons]
      omega
def pairD (p : Int × Int) : D := .tuple [.int p.1, .int p.2]
def sumsL (B : List (List Pd)) (n : Int) : List (Int × Int) := ((lates B).filter fun L => !decide (partShape B L n = 0)).map fun L => (L, partShape B L n)
section
variable {μ : Sto}
theorem dget_kv {i : Nat} {kv : List (Int × Int)} (h : μ[i]? = some (.dk (kvM kv))) (L : Int) : dGet μ (.l i) (.d (.int L)) = some ((lk kv L).map fun z => .d (.int z)) := by
  unfold dGet
  simp only [h]
  show some (valW (kvM kv) (Sum.inl L : Key)) = _
  rw [valW_kvM]
theorem dput_kv {i : Nat} {kv : List (Int × Int)} (h : μ[i]? = some (.dk (kvM kv))) (hl : kv.length < LIM) (L z : Int) : dPut μ (.l i) (.d (.int L)) (.d (.int z)) = some (μ.set i (.dk (kvM (pt kv L z)))) := by
  unfold dPut
  simp only [h]
  show (if (kvM kv).length < LIM then some (μ.set i (.dk (putW (kvM kv) (Sum.inl L : Key) (.d (.int z))))) else none) = _
  rw [if_pos (by unfold kvM; rw [List.length_map]; exact hl), putW_kvM]
theorem intKeys_kvM : ∀ kv : List (Int × Int), intKeys (kvM kv) = some (kv.map (·.1))
  | [] => rfl
  | (a, b) :: r => by
    show (intKeys (kvM r)).map (a :: ·) = _
    rw [intKeys_kvM r]
    rfl
theorem sums_ok {B : List (List Pd)} (h : boardOk B) (hl : ∀ r ∈ B, r.length ≤ 1000000) (hB : B.length < 60) (n : Int) : g__law_sums [.d (boardD B), .d (.int n)] μ = .ok (.d (.list ((sumsL B n).map pairD))) μ := by
  have fl := fun i => fold_sums n (B.take i) [] List.nodup_nil
  obtain ⟨env', μ', e, ⟨a, b, rfl⟩, rfl⟩ := for_nat (g := gVar 3) (b := L__law_sums_1) (E := fun i env μ' => (∃ a b, env = [some (.d (boardD B)), some (.d (.int n)), some (.l μ.length), a, b]) ∧ μ' = μ ++ [Ob.dk (kvM ((B.take i).foldl (stepK n) []))]) (B.map rowD) 0 [some (.d (boardD B)), some (.d (.int n)), some (.l μ.length), none, none] (μ ++ [Ob.dk (kvM [])]) ⟨⟨_, _, rfl⟩, rfl⟩ (by
    rintro i hi env μ' ⟨⟨a, b, rfl⟩, rfl⟩
    rw [List.length_map] at hi
    rw [Nat.zero_add]
    have hm : B[i] ∈ B := List.getElem_mem hi
    have hlen := (fl i).2.2.2
    have ek : (B.take (i + 1)).foldl (stepK n) [] = stepK n ((B.take i).foldl (stepK n) []) B[i] := by
      rw [List.take_add_one, List.getElem?_eq_getElem hi, List.foldl_append]
      rfl
    generalize (B.take i).foldl (stepK n) [] = kv at hlen ek
    have hkl : kv.length < LIM := by
      have : (B.take i).length ≤ B.length := by rw [List.length_take]; omega
      simp at hlen
      show kv.length < 16000000
      omega
    refine ⟨_, _, [some (.d (boardD B)), some (.d (.int n)), some (.l μ.length), some (.d (rowD B[i])), some (.d (.int (lateOf B[i])))], μ ++ [Ob.dk (kvM (stepK n kv B[i]))], by rw [List.getElem_map]; rfl, ?_, ⟨_, _, rfl⟩, by rw [ek]⟩
    have e1 := law_late_ok (μ := μ ++ [Ob.dk (kvM kv)]) (hl _ hm)
    have e2 := law_shape_ok (μ := μ ++ [Ob.dk (kvM kv)]) (h _ hm) n
    have e3 := law_shape_ok (μ := μ ++ [Ob.dk (kvM kv)]) (h _ hm) 0
    have hat : (μ ++ [Ob.dk (kvM kv)])[μ.length]? = some (.dk (kvM kv)) := by simp
    have e4 := dget_kv hat (lateOf B[i])
    have e5 := dput_kv hat hkl (lateOf B[i]) (((lk kv (lateOf B[i])).getD 0 + rowShape B[i] n) - rowShape B[i] 0)
    have e6 : (μ ++ [Ob.dk (kvM kv)]).set μ.length (.dk (kvM (stepK n kv B[i]))) = μ ++ [Ob.dk (kvM (stepK n kv B[i]))] := by simp
    have e7 : (((lk kv (lateOf B[i])).map fun z => Wv.d (.int z)).getD (.d (.int 0))) = .d (.int ((lk kv (lateOf B[i])).getD 0)) := by cases lk kv (lateOf B[i]) <;> rfl
    simp -implicitDefEqProofs [e1, sDput, fDget2, hat, e4, e7, e2, e3, e5]
    rfl)
  rw [Nat.zero_add, List.length_map, List.take_length] at e
  obtain ⟨f1', f2, f3, f4⟩ := fold_sums n B [] List.nodup_nil
  generalize hkv : B.foldl (stepK n) [] = kv at e f1' f2 f3 f4
  have hat : (μ ++ [Ob.dk (kvM kv)])[μ.length]? = some (.dk (kvM kv)) := by simp
  have f3 : ∀ M, (lk kv M).getD 0 = partShape B M n := fun M => by rw [f3 M]; simp [lk]
  have f2 : ∀ M, M ∈ kv.map (·.1) ↔ M ∈ B.map lateOf := fun M => by rw [f2 M]; simp
  have ks : srtI (kv.map (·.1)) = lates B := by
    have p := perm_srtI (kv.map (·.1))
    have nd : (srtI (kv.map (·.1))).Nodup := p.nodup_iff.mpr f1'
    have st : (srtI (kv.map (·.1))).Pairwise (· < ·) := by
      have a := sorted_srtI (kv.map (·.1))
      exact a.imp₂ (fun x y h1 h2 => by omega) nd
    exact rise_same st rise_sset fun z => by rw [p.mem_iff, f2 z]; unfold lates; rw [mem_sset]
  have hkl : (kv.map (·.1)).length < 64 := by rw [List.length_map]; simp at f4; omega
  have es : sdW (.l μ.length) (μ ++ [Ob.dk (kvM kv)]) = .ok (.d (.list ((lates B).map PyData.int))) (μ ++ [Ob.dk (kvM kv)]) := by
    unfold sdW
    simp only [hat, intKeys_kvM]
    rw [if_pos hkl, ks]
  have ec := comp_filter (g := gVar 4) (t := fB (fOp (eqW true) (fDget (fVar 2) (fVar 4)) (fC (.int 0)))) (e := fTup (fCons (fVar 4) (fCons (fDget (fVar 2) (fVar 4)) (fNil)))) (env := [some (.d (boardD B)), some (.d (.int n)), some (.l μ.length), a, none]) (toD := PyData.int) (q := fun L => !decide (partShape B L n = 0)) (φ := fun L => pairD (L, partShape B L n)) (lates B) (μ ++ [Ob.dk (kvM kv)]) [] (by
    intro L hL
    have hmem : L ∈ kv.map (·.1) := by rw [f2]; exact mem_sset.mp hL
    have e4 := dget_kv hat L
    have ev : lk kv L = some (partShape B L n) := by
      cases q : lk kv L with
      | none => exact absurd hmem (lk_none.mp q)
      | some z => rw [← f3 L, q]; rfl
    rw [ev] at e4
    refine ⟨_, rfl, ?_, ?_⟩
    · simp -implicitDefEqProofs [fDget, dgetW, e4, eq_int]
    · intro _
      simp -implicitDefEqProofs [fDget, dgetW, e4, pairD]) (by
    have := sset_len (B.map lateOf)
    simp only [List.length_map] at this
    simp [LIM, lates]
    omega)
  unfold g__law_sums
  refine run_app (ν := [Ob.dk (kvM kv)]) ?_
  unfold B__law_sums
  simp only [List.nil_append, boardD] at ec e
  have e0 : fDictK [some (.d (boardD B)), some (.d (.int n)), none, none, none] μ = .ok (.l μ.length) (μ ++ [Ob.dk (kvM [])]) := rfl
  simp only [boardD] at e0
  have el : (sumsL B n).map pairD = ((lates B).filter fun L => !decide (partShape B L n = 0)).map fun L => pairD (L, partShape B L n) := by
    unfold sumsL
    rw [List.map_map]
    rfl
  rw [el]
  simp -implicitDefEqProofs [startE, boardD, e0, e, es, ec]
/-! ### the law's silence, reach, softest -/
theorem silence_eq (B : List (List Pd)) : heardAt B [] 0 = (B.map fun r => rowShape r 0).sum := by
  unfold heardAt numAt
  congr 1
  refine List.map_congr_left fun r hr => ?_
  rw [if_neg (by simp)]
theorem law_silence_ok {B : List (List Pd)} (h : boardOk B) (hB : B.length ≤ 1000000) : g__law_silence [.d (boardD B)] μ = .ok (.d (.int (heardAt B [] 0))) μ := by
  unfold g__law_silence
  refine run_0 ?_
  unfold B__law_silence
  have e := comp_map (g := gVar 1) (e := fCall (callD 2 g__law_shape) (fCons (fVar 1) (fCons (fC (.int 0)) (fNil)))) (env := [some (.d (boardD B)), none]) (toD := rowD) (φ := fun r => .int (rowShape r 0)) B μ [] (fun r hr => ⟨_, rfl, by simp [law_shape_ok (h r hr)]⟩) (by simp [LIM]; omega)
  simp only [List.nil_append, boardD] at e
  simp [startE, boardD, e, silence_eq]
theorem kn_abs {p : Pd} (h : hasKn p = true) : ∃ k, kn p = (if k < 0 then -k else k) ∧ p.toD = .tuple [.str (match p with | .louder _ => "louder" | .cut _ => "cut" | .gate _ => "gate" | .turn => "turn" | .fold => "fold" | .lift _ => "lift" | .steps _ => "steps" | .late _ => "late"), .int k] := by
  cases p with
  | turn => cases h
  | fold => cases h
  | late k => cases h
  | louder k => exact ⟨k, by simp only [kn]; repeat (first | omega | split), rfl⟩
  | cut k => exact ⟨k, by simp only [kn]; repeat (first | omega | split), rfl⟩
  | gate k => exact ⟨k, by simp only [kn]; repeat (first | omega | split), rfl⟩
  | lift k => exact ⟨k, by simp only [kn]; repeat (first | omega | split), rfl⟩
  | steps k => exact ⟨k, by simp only [kn]; repeat (first | omega | split), rfl⟩
theorem reach_ok {B : List (List Pd)} (hl : ∀ r ∈ B, r.length ≤ 1000000) : g__law_reach [.d (boardD B)] μ = .ok (.d (.int (nearOf B + 120))) μ := by
  unfold g__law_reach
  refine run_0 ?_
  unfold B__law_reach
  obtain ⟨env', e, a, b, rfl⟩ := for_fold (g := gVar 2) (b := L__law_reach_1) (toD := rowD) (E := fun (f : Int) env => ∃ a b, env = [some (.d (boardD B)), some (.d (.int f)), a, b]) (step := fun f r => if 1 + knobSum r > f then 1 + knobSum r else f) B 1 [some (.d (boardD B)), some (.d (.int 1)), none, none] μ ⟨_, _, rfl⟩ (by
    rintro r hr f env ⟨a, b, rfl⟩
    have e := comp_filter (g := gVar 3) (t := fAnd (fB (fOp (eqW false) (fCall kLen (fCons (fVar 3) (fNil))) (fC (.int 2)))) (fB (fOp (eqW true) (fOp ixW (fVar 3) (fC (.int 0))) (fC (.str "late"))))) (e := fCall kAbs (fCons (fOp ixW (fVar 3) (fC (.int 1))) (fNil))) (env := [some (.d (boardD B)), some (.d (.int f)), some (.d (rowD r)), none]) (toD := Pd.toD) (q := hasKn) (φ := fun p => .int (kn p)) r μ [] (by
      intro p hp
      refine ⟨_, rfl, ?_, fun hk => ?_⟩
      · cases p <;> simp -implicitDefEqProofs [Pd.toD, eq_str, eq_int, hasKn]
      · obtain ⟨k, e1, e2⟩ := kn_abs hk
        simp -implicitDefEqProofs [e2, e1]) (by have := hl r hr; simp [LIM]; omega)
    simp only [List.nil_append, rowD] at e
    refine ⟨_, [some (.d (boardD B)), some (.d (.int (if 1 + knobSum r > f then 1 + knobSum r else f))), some (.d (rowD r)), b], rfl, ?_, _, _, rfl⟩
    simp -implicitDefEqProofs [rowD, e, kn_sum])
  simp only [boardD] at e
  simp -implicitDefEqProofs [startE, boardD, e, nearOf]
theorem eqv_pair (p q : Int × Int) : PyData.eqv (pairD p) (pairD q) = decide (p = q) := by
  obtain ⟨a, b⟩ := p
  obtain ⟨c, d⟩ := q
  show (a == c && (b == d && true)) = _
  by_cases h1 : a = c <;> by_cases h2 : b = d <;> simp [h1, h2]
theorem eqv_pairs : ∀ xs ys : List (Int × Int), PyData.eqvAll (xs.map pairD) (ys.map pairD) = decide (xs = ys)
  | [], [] => rfl
  | [], y :: ys => by simp [PyData.eqvAll]
  | x :: xs, [] => by simp [PyData.eqvAll]
  | x :: xs, y :: ys => by
    show (PyData.eqv (pairD x) (pairD y) && PyData.eqvAll (xs.map pairD) (ys.map pairD)) = _
    rw [eqv_pair, eqv_pairs xs ys]
    by_cases h1 : x = y <;> by_cases h2 : xs = ys <;> simp [h1, h2]
theorem sums_eq {one other : List (List Pd)} {n : Int} : sumsL one n = sumsL other n ↔ ∀ L, partShape one L n = partShape other L n := by
  have mem : ∀ (B : List (List Pd)) (L v : Int), (L, v) ∈ sumsL B n ↔ v = partShape B L n ∧ v ≠ 0 := fun B L v => by
    unfold sumsL
    simp only [List.mem_map, List.mem_filter, Prod.mk.injEq]
    constructor
    · rintro ⟨M, ⟨h1, h2⟩, rfl, rfl⟩
      exact ⟨rfl, by simpa using h2⟩
    · rintro ⟨rfl, h⟩
      refine ⟨L, ⟨?_, by simpa using h⟩, rfl, rfl⟩
      exact Classical.byContradiction fun q => h (part_none q)
  constructor
  · intro h L
    by_cases h1 : partShape one L n = 0
    · by_cases h2 : partShape other L n = 0
      · rw [h1, h2]
      · have := (mem other L _).mpr ⟨rfl, h2⟩
        rw [← h] at this
        exact ((mem one L _).mp this).1.symm
    · have := (mem one L _).mpr ⟨rfl, h1⟩
      rw [h] at this
      exact ((mem other L _).mp this).1
  · intro h
    have hf : (lates one).filter (fun L => !decide (partShape one L n = 0)) = (lates other).filter (fun L => !decide (partShape other L n = 0)) := by
      refine rise_same (rise_sset.filter _) (rise_sset.filter _) fun z => ?_
      simp only [List.mem_filter, h z]
      constructor
      · rintro ⟨_, h2⟩
        refine ⟨Classical.byContradiction fun q => ?_, h2⟩
        have := part_none (n := n) q
        simp [this] at h2
      · rintro ⟨_, h2⟩
        refine ⟨Classical.byContradiction fun q => ?_, h2⟩
        have := part_none (n := n) q
        rw [h z] at this
        simp [this] at h2
    unfold sumsL
    rw [hf]
    refine List.map_congr_left fun L _ => ?_
    rw [h L]
theorem shp_pairs (xs : List (Int × Int)) : Shp 2 (.list (xs.map pairD)) := Shp.lst fun d hd => by
  obtain ⟨p, _, rfl⟩ := List.mem_map.mp hd
  refine Shp.tup fun e he => ?_
  simp at he
  rcases he with rfl | rfl <;> exact .int _ 0
theorem sums_ne {one other : List (List Pd)} {n : Int} : eqW true (.d (.list ((sumsL one n).map pairD))) (.d (.list ((sumsL other n).map pairD))) μ = .ok (.d (.bool (differs one other n))) μ := by
  rw [eq_dd true ((shp_pairs _).shaped (by decide)) ((shp_pairs _).shaped (by decide))]
  have e : PyData.eqv (.list ((sumsL one n).map pairD)) (.list ((sumsL other n).map pairD)) = decide (sumsL one n = sumsL other n) := eqv_pairs _ _
  rw [e, if_pos rfl]
  congr 3
  cases hd : differs one other n with
  | false => rw [decide_eq_true (sums_eq.mpr (not_differs.mp hd))]; rfl
  | true =>
    rw [decide_eq_false]
    · rfl
    · intro q
      rw [not_differs.mpr (sums_eq.mp q)] at hd
      cases hd
def absI (n : Int) : Int := if n < 0 then -n else n
def softD (one other : List (List Pd)) : D := if heardAt one [] 0 = heardAt other [] 0 then (match (louds (spanOf (one ++ other))).find? (differs one other) with
  | some n => .int (absI n)
  | none => .none) else .int (-1)
theorem BOk.app {one other : List (List Pd)} (h1 : BOk one) (h2 : BOk other) : boardOk (one ++ other) ∧ ∀ r ∈ one ++ other, r.length ≤ 6 := ⟨fun r hr => by
    rcases List.mem_append.mp hr with hr | hr
    · exact h1.ok r hr
    · exact h2.ok r hr, fun r hr => by
    rcases List.mem_append.mp hr with hr | hr
    · exact h1.rl r hr
    · exact h2.rl r hr⟩
theorem softest_ok {one other : List (List Pd)} (h1 : BOk one) (h2 : BOk other) : g__law_softest [.d (boardD one), .d (boardD other)] μ = .ok (.d (softD one other)) μ := by
  obtain ⟨ho, hr6⟩ := h1.app h2
  have b1 := h1.l3
  have b2 := h2.l3
  obtain ⟨n1, n2⟩ := near_bound ho hr6
  obtain ⟨p0, p60⟩ := period_pos ho
  obtain ⟨k, hk⟩ := Int.eq_ofNat_of_zero_le (show 0 ≤ nearOf (one ++ other) + 120 by omega)
  have hsp : spanOf (one ++ other) ≤ k := by unfold spanOf; omega
  have er := reach_ok (μ := μ) (fun r hr => by have := hr6 r hr; omega : ∀ r ∈ one ++ other, r.length ≤ 1000000)
  have ea := around_ok (μ := μ) k (by omega)
  rw [hk] at er
  have e1 := law_silence_ok (μ := μ) h1.ok (by omega)
  have e2 := law_silence_ok (μ := μ) h2.ok (by omega)
  have outer := for_find (g := gVar 2) (b := L__law_softest_1) (toD := PyData.int) (μ := μ) (E := fun env => ∃ a, env = [some (.d (boardD one)), some (.d (boardD other)), a]) (test := differs one other) (ret := fun n => .d (.int (absI n))) (louds k) [some (.d (boardD one)), some (.d (boardD other)), none] ⟨_, rfl⟩ (by
    rintro n hn env ⟨a, rfl⟩
    have s1 := sums_ok (μ := μ) h1.ok (fun r hr => by have := h1.rl r hr; omega) (by omega) n
    have s2 := sums_ok (μ := μ) h2.ok (fun r hr => by have := h2.rl r hr; omega) (by omega) n
    have s3 := sums_ne (μ := μ) (one := one) (other := other) (n := n)
    refine ⟨_, rfl, fun hT => ?_, fun hF => ⟨_, ?_, some (.d (.int n)), rfl⟩⟩
    · rw [hT] at s3
      simp -implicitDefEqProofs [s1, s2, s3, absI]
    · rw [hF] at s3
      simp -implicitDefEqProofs [s1, s2, s3])
  rw [find_same ho hsp] at outer
  unfold g__law_softest
  refine run_0 ?_
  unfold B__law_softest
  have hL2 : one.length + other.length ≤ 16000000 := by omega
  simp only [boardD, List.map_append] at e1 e2 er outer
  unfold softD
  by_cases hh : heardAt one [] 0 = heardAt other [] 0
  · cases hf : (louds (spanOf (one ++ other))).find? (differs one other) with
    | none =>
      obtain ⟨env', e, a, rfl⟩ := outer.2 hf
      simp -implicitDefEqProofs [startE, boardD, e1, e2, eq_int, hh, o_addT, LIM, hL2, er, ea, e]
    | some n =>
      have e := outer.1 n hf
      simp -implicitDefEqProofs [startE, boardD, e1, e2, eq_int, hh, o_addT, LIM, hL2, er, ea, e]
  · simp -implicitDefEqProofs [startE, boardD, e1, e2, eq_int, hh]
end
end Ped

/-! PedI: law 03 -/
namespace Ped
open PySem L2 PyProof.Rows PySem.Spec
/-! ### slices -/
theorem cut_map {α β : Type} (f : α → β) (xs : List α) (lo hi : Option Int) : cut (xs.map f) lo hi = (cut xs lo hi).map f := by
  unfold cut
  rw [List.length_map, List.map_take, List.map_drop]
theorem take_min {α : Type} (xs : List α) (a : Nat) : xs.take (min a xs.length) = xs.take a := by
  by_cases h : a ≤ xs.length
  · rw [Nat.min_eq_left h]
  · rw [Nat.min_eq_right (by omega), List.take_length, List.take_of_length_le (by omega)]
theorem drop_min {α : Type} (xs : List α) (a : Nat) : xs.drop (min a xs.length) = xs.drop a := by
  by_cases h : a ≤ xs.length
  · rw [Nat.min_eq_left h]
  · rw [Nat.min_eq_right (by omega), List.drop_length, List.drop_of_length_le (by omega)]
theorem cut_to {α : Type} (xs : List α) (a : Nat) : cut xs none (some (a : Int)) = xs.take a := by
  unfold cut
  rw [HT.sIx_none, HT.sIx_nat, List.drop_zero, Nat.sub_zero, take_min]
theorem cut_from {α : Type} (xs : List α) (a : Nat) : cut xs (some (a : Int)) none = xs.drop a := by
  unfold cut
  rw [HT.sIx_none, HT.sIx_nat, drop_min, List.take_of_length_le]
  rw [List.length_drop]
  omega
theorem cut_mid {α : Type} (xs : List α) (a b : Nat) : cut xs (some (a : Int)) (some (b : Int)) = (xs.drop a).take (b - a) := by
  unfold cut
  rw [HT.sIx_nat, HT.sIx_nat, drop_min]
  by_cases h : b ≤ xs.length
  · rw [Nat.min_eq_left h]
    by_cases g : a ≤ xs.length
    · rw [Nat.min_eq_left g]
    · rw [List.drop_of_length_le (by omega)]
      simp
  · rw [Nat.min_eq_right (by omega), List.take_of_length_le (by rw [List.length_drop]; omega), List.take_of_length_le (by rw [List.length_drop]; omega)]
section
variable {μ : Sto}
@[simp] theorem sl_t (xs : List D) (lo hi : Option Int) : slW (.d (.tuple xs)) lo hi μ = .ok (.d (.tuple (cut xs lo hi))) μ := rfl
@[simp] theorem sl_l (xs : List D) (lo hi : Option Int) : slW (.d (.list xs)) lo hi μ = .ok (.d (.list (cut xs lo hi))) μ := rfl
@[simp] theorem rev_t (xs : List D) : revW (.d (.tuple xs)) μ = .ok (.d (.tuple xs.reverse)) μ := rfl
theorem ix_t {xs : List D} {i : Nat} (h : i < xs.length) : ixW (.d (.tuple xs)) (.d (.int (i : Nat))) μ = .ok (.d xs[i]) μ := by
  show (match atI xs (i : Int) with | some d => Rs.ok (Wv.d d) μ | none => Rs.no) = _
  rw [atI_nat, List.getElem?_eq_getElem h]
@[simp] theorem eq_bool (n a b : Bool) : eqW n (.d (.bool a)) (.d (.bool b)) μ = .ok (.d (.bool (if n then !decide (a = b) else decide (a = b)))) μ := rfl
@[simp] theorem is_none (d : D) : isNW false (.d d) (.d .none) μ = .ok (.d (.bool (isNoneD d))) μ := rfl
@[simp] theorem k_int_b (b : Bool) : kInt [.d (.bool b)] μ = .ok (.d (.int (if b then 1 else 0))) μ := rfl
theorem g_parting_ok {one other : List (List Pd)} (h1 : BOk one) (h2 : BOk other) : g_parting [.d (boardD one), .d (boardD other)] μ = .ok (.d (partingD one other)) μ := by
  unfold g_parting
  refine run_0 ?_
  unfold B_parting
  simp -implicitDefEqProofs [startE, need_board_ok h1.ok h1.rl h1.l1 h1.l3, need_board_ok h2.ok h2.rl h2.l1 h2.l3, parting_ok h1 h2]
theorem right_ok {one other : List (List Pd)} (h1 : BOk one) (h2 : BOk other) : g__law_right [.d (boardD one), .d (boardD other)] μ = .ok (.d (.bool true)) μ := by
  have e1 := softest_ok (μ := μ) h1 h2
  have e2 := g_parting_ok (μ := μ) h1 h2
  have e3 := alike_ok (μ := μ) h1 h2
  have sh : ∀ n : Int, eqW false (.d (.tuple [.int n])) (.d (.tuple [])) μ = .ok (.d (.bool false)) μ := fun n => by
    rw [eq_dd false (d := .tuple [.int n]) ((shp_nums [n]).shaped (by decide)) shp_nil]
    rfl
  have sh0 : eqW false (.d (.tuple [])) (.d (.tuple [])) μ = .ok (.d (.bool true)) μ := by
    rw [eq_dd false shp_nil shp_nil]
    rfl
  unfold g__law_right
  refine run_0 ?_
  unfold B__law_right
  unfold softD at e1
  unfold partingD at e2 e3
  by_cases hh : heardAt one [] 0 = heardAt other [] 0
  · simp only [if_pos hh] at e1 e2 e3
    cases hf : (louds (spanOf (one ++ other))).find? (differs one other) with
    | none =>
      simp only [hf] at e1 e2 e3
      simp -implicitDefEqProofs [startE, e1, e2, e3, isTy, tyD, isNoneD]
    | some n =>
      simp only [hf] at e1 e2 e3
      have hd : differs one other n = true := List.find?_some hf
      have s1 := sums_ok (μ := μ) h1.ok (fun r hr => by have := h1.rl r hr; omega) (by have := h1.l3; omega) n
      have s2 := sums_ok (μ := μ) h2.ok (fun r hr => by have := h2.rl r hr; omega) (by have := h2.l3; omega) n
      have s3 := sums_ne (μ := μ) (one := one) (other := other) (n := n)
      rw [hd] at s3
      have ha : 0 ≤ absI n := by unfold absI; split <;> omega
      have ha2 : (if n < 0 then -n else n) = absI n := rfl
      simp -implicitDefEqProofs [startE, e1, e2, e3, isTy, tyD, isNoneD, sh, ha, ha2, eq_int, s1, s2, s3]
  · simp only [if_neg hh] at e1 e2 e3
    simp -implicitDefEqProofs [startE, e1, e2, e3, isTy, tyD, isNoneD, sh0, eq_int]
theorem rowOk_app {a b : List Pd} (h1 : rowOk a) (h2 : rowOk b) : rowOk (a ++ b) := fun p hp => by
  rcases List.mem_append.mp hp with hp | hp
  · exact h1 p hp
  · exact h2 p hp
theorem rowOk_sub {a b : List Pd} (h : rowOk b) (hs : ∀ p ∈ a, p ∈ b) : rowOk a := fun p hp => h p (hs p hp)
theorem other_ok {b : Nat} {ν : Sto} (hb : Bg b ν) {r : List Pd} (h : rowOk r) (hl : r.length ≤ 6) : ∃ r' ν', g__law_other [.l b, .d (rowD r)] ν = .ok (.d (rowD r')) ν' ∧ rowOk r' ∧ r'.length ≤ 6 ∧ Stp b ν ν' := by
  obtain ⟨w, ν1, e1, w0, w1, s1⟩ := take_ok hb (m := 4) (by decide) (by decide)
  have hm : 0 < (if (r.length : Int) > 1 then (r.length : Int) else 1) ∧ (if (r.length : Int) > 1 then (r.length : Int) else 1) < 2 ^ 64 := by split <;> omega
  obtain ⟨a0, ν2, e2, a0p, a1, s2⟩ := take_ok (s1.bg hb) hm.1 hm.2
  have s12 := s1.trans s2
  obtain ⟨a, rfl⟩ := Int.eq_ofNat_of_zero_le a0p
  have ha : a < r.length ∨ (r.length = 0 ∧ a = 0) := by
    split at a1 <;> omega
  have sh0 : eqW false (.d (.tuple (r.map Pd.toD))) (.d (.tuple [])) ν2 = .ok (.d (.bool (decide (r = [])))) ν2 := by
    rw [eq_dd false (d := .tuple (r.map Pd.toD)) ((shp_row r).shaped (by decide)) shp_nil]
    cases r <;> rfl
  have ca1 : cut r (some ((a : Int) + 1)) none = r.drop (a + 1) := by rw [show (a : Int) + 1 = ((a + 1 : Nat) : Int) by omega]; exact cut_from r (a + 1)
  have ca2 : cut r (some ((a : Int) + 2)) none = r.drop (a + 2) := by rw [show (a : Int) + 2 = ((a + 2 : Nat) : Int) by omega]; exact cut_from r (a + 2)
  have ca3 : cut r (some (a : Int)) (some ((a : Int) + 2)) = (r.drop a).take 2 := by rw [show (a : Int) + 2 = ((a + 2 : Nat) : Int) by omega, cut_mid, show a + 2 - a = 2 by omega]
  have L : ∀ {r' : List Pd} {ν' : Sto}, B__law_other [some (.l b), some (.d (.tuple (r.map Pd.toD))), none, none] ν = .ok (.rt (.d (rowD r'))) ν' → Stp b ν ν' → g__law_other [.l b, .d (rowD r)] ν = .ok (.d (rowD r')) ν' := fun e s => by
    unfold g__law_other
    exact run_d e s.len
  have tk : ∀ k, rowOk (r.take k) := fun k => rowOk_sub h fun p hp => List.mem_of_mem_take hp
  have dr : ∀ k, rowOk (r.drop k) := fun k => rowOk_sub h fun p hp => List.mem_of_mem_drop hp
  have lim : ∀ n : Nat, n ≤ 40 → n ≤ 16000000 := fun n hn => by omega
  have l1 : min a r.length ≤ 6 := by omega
  by_cases hc : w = 0 ∨ r = []
  · obtain ⟨p, ν3, e3, pok, _, s3⟩ := pedal_ok (s12.bg hb) true
    refine ⟨r.take a ++ [p] ++ r.drop (a + 1), ν3, L ?_ (s12.trans s3), rowOk_app (rowOk_app (tk a) (by intro q hq; simp at hq; subst hq; exact pok)) (dr _), ?_, s12.trans s3⟩
    · unfold B__law_other
      have q1 : min a r.length + 1 ≤ 16000000 := by omega
      have q2 : min a r.length + 1 + (r.length - (a + 1)) ≤ 16000000 := by omega
      rcases hc with rfl | rfl
      · simp -implicitDefEqProofs [startE, e1, e2, eq_int, e3, ca1, cut_map, cut_to, o_addT, LIM, q1, q2, rowD]
      · by_cases hw : w = 0
        · simp -implicitDefEqProofs [hw, eq_int, e1, e2, e3, ca1, cut_map, cut_to, o_addT, LIM, rowD, cut] at e1 e2 ⊢
          simp -implicitDefEqProofs [e1, e2, eq_int, e3, o_addT, LIM, cut, rowD]
        · simp at e2
          simp at sh0
          simp -implicitDefEqProofs [e1, e2, eq_int, hw, sh0, e3, o_addT, LIM, cut, rowD]
    · simp; omega
  · simp only [not_or] at hc
    have hne : decide (r = []) = false := decide_eq_false hc.2
    rw [hne] at sh0
    have ha : a < r.length := by
      rcases ha with ha | ha
      · exact ha
      · exact absurd (List.eq_nil_of_length_eq_zero ha.1) hc.2
    by_cases w1' : w = 1
    · subst w1'
      refine ⟨r.take a ++ ((r.drop a).take 2).reverse ++ r.drop (a + 2), ν2, L ?_ s12, rowOk_app (rowOk_app (tk a) (rowOk_sub h fun p hp => List.mem_of_mem_drop (List.mem_of_mem_take (List.mem_reverse.mp hp)))) (dr _), ?_, s12⟩
      · unfold B__law_other
        have q1 : min a r.length + min 2 (r.length - a) ≤ 16000000 := by omega
        have q2 : min a r.length + min 2 (r.length - a) + (r.length - (a + 2)) ≤ 16000000 := by omega
        have q3 : a + 2 - a = 2 := by omega
        simp -implicitDefEqProofs [startE, e1, e2, eq_int, sh0, ca2, ca3, cut_map, cut_to, o_addT, LIM, q1, q2, q3, rowD]
      · simp; omega
    · by_cases w2' : w = 2
      · subst w2'
        refine ⟨r.take a ++ r.drop (a + 1), ν2, L ?_ s12, rowOk_app (tk a) (dr _), ?_, s12⟩
        · unfold B__law_other
          have q1 : min a r.length + (r.length - (a + 1)) ≤ 16000000 := by omega
          simp -implicitDefEqProofs [startE, e1, e2, eq_int, sh0, ca1, cut_map, cut_to, o_addT, LIM, q1, rowD]
        · simp; omega
      · by_cases h6 : r.length < 6
        · obtain ⟨p, ν3, e3, pok, _, s3⟩ := pedal_ok (s12.bg hb) false
          refine ⟨r.take a ++ [r[a], p] ++ r.drop (a + 1), ν3, L ?_ (s12.trans s3), rowOk_app (rowOk_app (tk a) (by
            intro q hq
            simp at hq
            rcases hq with rfl | rfl
            · exact h _ (List.getElem_mem ha)
            · exact pok)) (dr _), ?_, s12.trans s3⟩
          · unfold B__law_other
            have q1 : min a r.length + 2 ≤ 16000000 := by omega
            have q2 : min a r.length + 2 + (r.length - (a + 1)) ≤ 16000000 := by omega
            have q3 : (r.length : Int) < 6 := by omega
            have ei : ∀ μ, ixW (.d (.tuple (r.map Pd.toD))) (.d (.int (a : Nat))) μ = .ok (.d (r[a]).toD) μ := fun μ => by
              rw [ix_t (by rw [List.length_map]; exact ha), List.getElem_map]
            simp -implicitDefEqProofs [startE, e1, e2, eq_int, sh0, hc.1, w1', w2', q3, ei, e3, ca1, cut_map, cut_to, o_addT, LIM, q1, q2, rowD]
          · simp; omega
        · refine ⟨r, ν2, L ?_ s12, h, hl, s12⟩
          unfold B__law_other
          have q3 : ¬ (r.length : Int) < 6 := by omega
          simp -implicitDefEqProofs [startE, e1, e2, eq_int, sh0, hc.1, w1', w2', q3, rowD]
end
end Ped

/-! PedH: law 03, the end -/
namespace Ped
open PySem L2 PyProof.Rows PySem.Spec
section
variable {μ : Sto}
theorem ix_board {B : List (List Pd)} {i : Nat} (h : i < B.length) : ixW (.d (.tuple (B.map rowD))) (.d (.int (i : Nat))) μ = .ok (.d (rowD B[i])) μ := by
  rw [ix_t (by rw [List.length_map]; exact h), List.getElem_map]
theorem len_row (r : List Pd) : kLen [.d (rowD r)] μ = .ok (.d (.int r.length)) μ := by
  show kLen [.d (.tuple (r.map Pd.toD))] μ = _
  rw [k_len_t, List.length_map]
theorem add_row (r s : List Pd) (h : r.length + s.length ≤ 16000000) : addW (.d (rowD r)) (.d (rowD s)) μ = .ok (.d (rowD (r ++ s))) μ := by
  show addW (.d (.tuple (r.map Pd.toD))) (.d (.tuple (s.map Pd.toD))) μ = _
  rw [o_addT, if_pos (by rw [List.length_map, List.length_map]; exact h), ← List.map_append]
  rfl
theorem beside_ok {b : Nat} {ν : Sto} (hb : Bg b ν) {B : List (List Pd)} (h : BOk B) : ∃ B' ν', g__law_beside [.l b, .d (boardD B)] ν = .ok (.d (boardD B')) ν' ∧ BOk B' ∧ Stp b ν ν' := by
  have h1 := h.l1
  have h3 := h.l3
  obtain ⟨a0, ν1, e1, a0p, a1, s1⟩ := take_ok hb (m := (B.length : Int)) (by omega) (by omega)
  obtain ⟨w, ν2, e2, w0, w1, s2⟩ := take_ok (s1.bg hb) (m := 5) (by decide) (by decide)
  have s12 := s1.trans s2
  obtain ⟨a, rfl⟩ := Int.eq_ofNat_of_zero_le a0p
  have ha : a < B.length := by omega
  have L : ∀ {B' : List (List Pd)} {ν' : Sto}, B__law_beside [some (.l b), some (.d (.tuple (B.map rowD))), none, none] ν = .ok (.rt (.d (boardD B'))) ν' → Stp b ν ν' → g__law_beside [.l b, .d (boardD B)] ν = .ok (.d (boardD B')) ν' := fun e s => by
    unfold g__law_beside
    exact run_d e s.len
  -- the last way
  have last : (w ≠ 0) → (w = 1 → ¬ (1 < B.length ∧ (∃ x y r, B = x :: y :: r ∧ x.length < 6 ∧ y.length < 6))) → (w = 2 → ¬ B.length < 3) → ∃ B' ν', g__law_beside [.l b, .d (boardD B)] ν = .ok (.d (boardD B')) ν' ∧ BOk B' ∧ Stp b ν ν' := fun c0 c1 c2 => by
    obtain ⟨r', ν3, e3, rok, rl, s3⟩ := other_ok (s12.bg hb) (h.ok _ (List.getElem_mem ha)) (h.rl _ (List.getElem_mem ha))
    have ca1 : cut B (some ((a : Int) + 1)) none = B.drop (a + 1) := by rw [show (a : Int) + 1 = ((a + 1 : Nat) : Int) by omega]; exact cut_from B (a + 1)
    have q1 : min a B.length + 1 ≤ 16000000 := by omega
    have q2 : min a B.length + 1 + (B.length - (a + 1)) ≤ 16000000 := by omega
    refine ⟨B.take a ++ [r'] ++ B.drop (a + 1), ν3, L ?_ (s12.trans s3), ⟨fun r hr => ?_, fun r hr => ?_, by simp; omega, by simp; omega⟩, s12.trans s3⟩
    · unfold B__law_beside
      by_cases w1' : w = 1
      · subst w1'
        have c1 := c1 rfl
        match B, h1, ha, ca1, e1, e3 with
        | [x], _, ha, ca1, e1, e3 =>
          have : a = 0 := by simpa using ha
          subst this
          simp -implicitDefEqProofs at e1 e3 ca1
          simp -implicitDefEqProofs [startE, e1, e2, eq_int, e3, ca1, cut_map, cut, HT.sIx, o_addT, LIM, boardD]
        | x :: y :: r, _, ha, ca1, e1, e3 =>
          have ei := ix_board (μ := ν2) ha
          have i0 : ixW (.d (.tuple ((x :: y :: r).map rowD))) (.d (.int 0)) ν2 = .ok (.d (rowD x)) ν2 := ix_0 _ _
          have i1 : ixW (.d (.tuple ((x :: y :: r).map rowD))) (.d (.int 1)) ν2 = .ok (.d (rowD y)) ν2 := ix_1 _ _ _
          have cc : ¬ (x.length < 6 ∧ y.length < 6) := fun q => c1 ⟨by simp, x, y, r, rfl, q.1, q.2⟩
          have hlen : (1 : Int) < ((x :: y :: r).length : Int) := by simp; omega
          generalize hB : x :: y :: r = B at *
          by_cases hx : x.length < 6
          · have hy : ¬ (y.length : Int) < 6 := fun q => cc ⟨hx, by omega⟩
            have hx' : (x.length : Int) < 6 := by omega
            simp -implicitDefEqProofs [startE, e1, e2, eq_int, hlen, i0, i1, len_row, hx', hy, ei, e3, ca1, cut_map, cut_to, o_addT, LIM, q1, q2, boardD]
          · have hx' : ¬ (x.length : Int) < 6 := by omega
            simp -implicitDefEqProofs [startE, e1, e2, eq_int, hlen, i0, i1, len_row, hx', ei, e3, ca1, cut_map, cut_to, o_addT, LIM, q1, q2, boardD]
      · have ei := ix_board (μ := ν2) ha
        by_cases w2' : w = 2
        · have hl3 : ¬ (B.length : Int) < 3 := by have := c2 w2'; omega
          simp -implicitDefEqProofs [startE, e1, e2, eq_int, c0, w1', hl3, ei, e3, ca1, cut_map, cut_to, o_addT, LIM, q1, q2, boardD]
        · simp -implicitDefEqProofs [startE, e1, e2, eq_int, c0, w1', w2', ei, e3, ca1, cut_map, cut_to, o_addT, LIM, q1, q2, boardD]
    · simp at hr
      rcases hr with hr | rfl | hr
      · exact h.ok r (List.mem_of_mem_take hr)
      · exact rok
      · exact h.ok r (List.mem_of_mem_drop hr)
    · simp at hr
      rcases hr with hr | rfl | hr
      · exact h.rl r (List.mem_of_mem_take hr)
      · exact rl
      · exact h.rl r (List.mem_of_mem_drop hr)
  by_cases c0 : w = 0
  · subst c0
    refine ⟨B.reverse, ν2, L ?_ s12, ⟨fun r hr => h.ok r (List.mem_reverse.mp hr), fun r hr => h.rl r (List.mem_reverse.mp hr), by simpa using h1, by simpa using h3⟩, s12⟩
    unfold B__law_beside
    simp -implicitDefEqProofs [startE, e1, e2, eq_int, boardD]
  · by_cases c1 : w = 1 ∧ ∃ x y r, B = x :: y :: r ∧ x.length < 6 ∧ y.length < 6
    · obtain ⟨rfl, x, y, r, rfl, hx, hy⟩ := c1
      have hx' : (x.length : Int) < 6 := by omega
      have hy' : (y.length : Int) < 6 := by omega
      have l3 : (PyData.tuple [.str "lift", .int 3]) = Pd.toD (.lift 3) := rfl
      have l4 : (PyData.tuple [.str "lift", .int (-3)]) = Pd.toD (.lift (-3)) := rfl
      have t1 : ∀ p : Pd, (PyData.tuple [p.toD]) = rowD [p] := fun p => rfl
      have ad : ∀ (s : List Pd) (p : Pd), s.length < 6 → addW (.d (rowD s)) (.d (rowD [p])) ν2 = .ok (.d (rowD (s ++ [p]))) ν2 := fun s p hs => add_row s [p] (by simp; omega)
      have ca2 : cut (rowD x :: rowD y :: r.map rowD) (some 2) none = r.map rowD := cut_from (rowD x :: rowD y :: r.map rowD) 2
      simp at h3
      have q : 2 + r.length ≤ 16000000 := by omega
      have q0 : (1 : Int) < (r.length : Int) + 1 + 1 := by omega
      have q5 : r.length + 1 + 1 ≤ 16000000 := by omega
      refine ⟨(x ++ [.lift 3]) :: (y ++ [.lift (-3)]) :: r, ν2, L ?_ s12, ⟨fun s hs => ?_, fun s hs => ?_, by simp, by simp; omega⟩, s12⟩
      · unfold B__law_beside
        simp -implicitDefEqProofs at e1
        simp -implicitDefEqProofs [startE, e1, e2, eq_int, len_row, hx', hy', l3, l4, t1, ad, hx, hy, ca2, o_addT, LIM, q, q0, q5, boardD]
      · rcases List.mem_cons.mp hs with rfl | hs
        · exact rowOk_app (h.ok x List.mem_cons_self) (by intro q hq; simp at hq; subst hq; simp [Pd.ok])
        · rcases List.mem_cons.mp hs with rfl | hs
          · exact rowOk_app (h.ok y (by simp)) (by intro q hq; simp at hq; subst hq; simp [Pd.ok])
          · exact h.ok s (by simp [hs])
      · rcases List.mem_cons.mp hs with rfl | hs
        · simp; omega
        · rcases List.mem_cons.mp hs with rfl | hs
          · simp; omega
          · exact h.rl s (by simp [hs])
    · by_cases c2 : w = 2 ∧ B.length < 3
      · obtain ⟨rfl, hl⟩ := c2
        obtain ⟨d, ν3, e3, hd, s3⟩ := of_ok (s12.bg hb) (xs := [rowD [.cut 1, .gate 2], rowD [.lift 2, .cut 1, .fold]]) (by simp) (by simp)
        have hd : ∃ r, d = rowD r ∧ rowOk r ∧ r.length ≤ 6 := by
          simp at hd
          rcases hd with rfl | rfl
          · exact ⟨_, rfl, by intro p hp; simp at hp; rcases hp with rfl | rfl <;> simp [Pd.ok], by simp⟩
          · exact ⟨_, rfl, by intro p hp; simp at hp; rcases hp with rfl | rfl | rfl <;> simp [Pd.ok], by simp⟩
        obtain ⟨r, rfl, rok, rl⟩ := hd
        have hl' : (B.length : Int) < 3 := by omega
        have q : B.length + 1 ≤ 16000000 := by omega
        refine ⟨B ++ [r], ν3, L ?_ (s12.trans s3), ⟨fun s hs => ?_, fun s hs => ?_, by simp, by simp; omega⟩, s12.trans s3⟩
        · unfold B__law_beside
          have e3' : g__law_of [.l b, .d (.list [.tuple [.tuple [.str "cut", .int 1], .tuple [.str "gate", .int 2]], .tuple [.tuple [.str "lift", .int 2], .tuple [.str "cut", .int 1], .tuple [.str "fold"]]])] ν2 = .ok (.d (rowD r)) ν3 := e3
          simp -implicitDefEqProofs [startE, e1, e2, eq_int, hl', e3', o_addT, LIM, q, boardD]
        · rcases List.mem_append.mp hs with hs | hs
          · exact h.ok s hs
          · rw [List.mem_singleton.mp hs]; exact rok
        · rcases List.mem_append.mp hs with hs | hs
          · exact h.rl s hs
          · rw [List.mem_singleton.mp hs]; exact rl
      · exact last c0 (fun q z => c1 ⟨q, z.2⟩) fun q z => c2 ⟨q, z⟩
end
theorem body03 (ns : List Int) (k : Nat) (hk : k < 100) (rest : Env) (μ : Sto) (hr : rest.length = 3) : ∃ rest' μ', L_law_3_1 (some (.s ns) :: some (.d (.int (k : Nat))) :: rest) μ = .ok (.nx (some (.s ns) :: some (.d (.int (k : Nat))) :: rest')) μ' ∧ rest'.length = 3 := by
  obtain ⟨b, c, d, rfl⟩ := len3 hr
  obtain ⟨ν, eb, B0⟩ := turn_bag ns k hk μ
  generalize μ.length = n at eb B0
  obtain ⟨A, μ1, e1, hA, hr, a1, a3, s1⟩ := board_ok B0 5 (by decide)
  have bA : BOk A := ⟨hA, fun r h => by have := hr r h; omega, a1, a3⟩
  obtain ⟨C, μ2, e2, bC, s2⟩ := beside_ok (s1.bg B0) bA
  have s12 := s1.trans s2
  obtain ⟨E, μ3, e3, bE, s3⟩ := beside_ok (s12.bg B0) bC
  refine ⟨[some (.l n), some (.d (boardD A)), some (.d (boardD C))], μ3, ?_, rfl⟩
  have r1 := right_ok (μ := μ2) bA bC
  have r2 := right_ok (μ := μ2) bC bA
  have r3 := right_ok (μ := μ2) bA bA
  have r4 := right_ok (μ := μ3) bA bE
  simp at e1
  simp -implicitDefEqProofs [eb, e1, e2, r1, r2, r3, e3, r4]
theorem law03 (ns : List Int) : ∃ μ, g_law_3 [.s ns] [] = .ok (.d (.bool true)) μ :=
  law_true (m := 3) ns (by decide) fun k rest μ hk hr => body03 ns k hk rest μ hr
end Ped

/-! PedG: law 12 -/
namespace Ped
open PySem L2 PyProof.Rows PySem.Spec
/-! ### what agrees everywhere is alike -/
theorem part_same {A B : List (List Pd)} (h : ∀ L n, partShape A L n = partShape B L n) (hs : heardAt A [] 0 = heardAt B [] 0) : partingD A B = .none := by
  unfold partingD
  rw [if_pos hs]
  have : (louds (spanOf (A ++ B))).find? (differs A B) = none := by
    rw [List.find?_eq_none]
    intro x _ hx
    rw [not_differs.mpr fun L => h L x] at hx
    cases hx
  rw [this]
theorem part_rows {r s : List Pd} (hf : ∀ n, rowShape r n = rowShape s n) (hl : lateOf r = lateOf s) : partingD [r] [s] = .none := by
  refine part_same (fun L n => ?_) ?_
  · unfold partShape
    by_cases h : lateOf s = L
    · simp [hl, h, hf]
    · simp [hl, h]
  · rw [silence_eq, silence_eq]
    simp [hf]
theorem perm_sum {xs ys : List Int} (h : xs.Perm ys) : xs.sum = ys.sum := by
  induction h with
  | nil => rfl
  | cons x _ ih => rw [List.sum_cons, List.sum_cons, ih]
  | swap x y r => simp only [List.sum_cons]; omega
  | trans _ _ h1 h2 => exact h1.trans h2
theorem part_perm {A B : List (List Pd)} (h : A.Perm B) : partingD A B = .none := by
  refine part_same (fun L n => ?_) ?_
  · unfold partShape
    exact perm_sum ((h.filter _).map _)
  · rw [silence_eq, silence_eq]
    exact perm_sum (h.map _)
theorem rowShape_app (a b : List Pd) (n : Int) : rowShape (a ++ b) n = rowShape b (rowShape a n) := by
  unfold rowShape
  rw [List.foldl_append]
theorem lateOf_app (a b : List Pd) : lateOf (a ++ b) = lateOf a + lateOf b := by
  unfold lateOf
  rw [List.map_append, List.sum_append]
theorem bok_row {r : List Pd} (h : rowOk r) (hl : r.length ≤ 6) : BOk [r] := ⟨fun s hs => by rw [List.mem_singleton.mp hs]; exact h, fun s hs => by rw [List.mem_singleton.mp hs]; exact hl, by simp, by simp⟩
/-! ### exchanges -/
def swapAt (r : List Pd) (i : Nat) : List Pd := r.take i ++ [r.getD (i + 1) .turn, r.getD i .turn] ++ r.drop (i + 2)
def exchL (r : List Pd) : List Int := ((List.range (r.length - 1)).filter fun i => isNoneD (partingD [r] [swapAt r i])).map fun (i : Nat) => (i : Int)
theorem swap_ok {r : List Pd} (h : rowOk r) {i : Nat} (hi : i + 1 < r.length) : rowOk (swapAt r i) ∧ (swapAt r i).length = r.length := by
  unfold swapAt
  have e1 : r.getD (i + 1) .turn = r[i + 1] := by simp [hi]
  have e2 : r.getD i .turn = r[i] := by simp [show i < r.length by omega]
  rw [e1, e2]
  refine ⟨fun p hp => ?_, by simp; omega⟩
  simp at hp
  rcases hp with hp | rfl | rfl | hp
  · exact h p (List.mem_of_mem_take hp)
  · exact h _ (List.getElem_mem _)
  · exact h _ (List.getElem_mem _)
  · exact h p (List.mem_of_mem_drop hp)
section
variable {μ : Sto}
theorem exch_ok {r : List Pd} (h : rowOk r) (hl : r.length ≤ 6) : g_exchanges [.d (rowD r)] μ = .ok (.d (.list ((exchL r).map PyData.int))) μ := by
  obtain ⟨env', μ', e, ⟨a, b, rfl⟩, rfl⟩ := for_nat (g := gVar 2) (b := L_exchanges_1) (E := fun i env μ' => (∃ a b, env = [some (.d (rowD r)), some (.l μ.length), a, b]) ∧ μ' = μ ++ [Ob.lst ((((List.range i).filter fun i => isNoneD (partingD [r] [swapAt r i])).map fun (i : Nat) => PyData.int (i : Int)).map Wv.d)]) (rangeD 0 (r.length - 1)) 0 [some (.d (rowD r)), some (.l μ.length), none, none] (μ ++ [Ob.lst []]) ⟨⟨_, _, rfl⟩, rfl⟩ (by
    rintro i hi env μ' ⟨⟨a, b, rfl⟩, rfl⟩
    rw [rangeD_length] at hi
    rw [Nat.zero_add]
    have hi1 : i + 1 < r.length := by omega
    have ei : (rangeD 0 (r.length - 1))[i]'(by rw [rangeD_length]; exact hi) = .int (i : Int) := by simp [rangeD]
    have sw := swap_ok h hi1
    generalize hacc : ((List.range i).filter fun i => isNoneD (partingD [r] [swapAt r i])).map (fun (i : Nat) => PyData.int (i : Int)) = acc
    have hal : acc.length ≤ i := by
      rw [← hacc, List.length_map]
      exact Nat.le_trans (List.length_filter_le _ _) (by simp)
    have hal2 : acc.length < 16000000 := by omega
    have e1 := parting_ok (μ := μ ++ [Ob.lst (acc.map Wv.d)]) (bok_row h hl) (bok_row sw.1 (by rw [sw.2]; exact hl))
    have es : (cut r none (some (i : Int))).map Pd.toD ++ [r[i + 1].toD, r[i].toD] ++ (cut r (some ((i : Int) + 2)) none).map Pd.toD = (swapAt r i).map Pd.toD := by
      rw [cut_to, show (i : Int) + 2 = ((i + 2 : Nat) : Int) by omega, cut_from]
      unfold swapAt
      have e1 : r.getD (i + 1) .turn = r[i + 1] := by simp [hi1]
      have e2 : r.getD i .turn = r[i] := by simp [show i < r.length by omega]
      rw [e1, e2]
      simp
    have x1 : ∀ μ, ixW (.d (.tuple (r.map Pd.toD))) (.d (.int ((i : Int) + 1))) μ = .ok (.d (r[i + 1]).toD) μ := fun μ => by
      rw [show (i : Int) + 1 = ((i + 1 : Nat) : Int) by omega, ix_t (by rw [List.length_map]; exact hi1), List.getElem_map]
    have x2 : ∀ μ, ixW (.d (.tuple (r.map Pd.toD))) (.d (.int (i : Int))) μ = .ok (.d (r[i]).toD) μ := fun μ => by
      rw [ix_t (by rw [List.length_map]; omega), List.getElem_map]
    have q1 : (cut r none (some (i : Int))).length + 2 ≤ 16000000 := by rw [cut_to, List.length_take]; omega
    have q2 : (cut r none (some (i : Int))).length + 2 + (cut r (some ((i : Int) + 2)) none).length ≤ 16000000 := by
      rw [cut_to, show (i : Int) + 2 = ((i + 2 : Nat) : Int) by omega, cut_from, List.length_take, List.length_drop]
      omega
    have hat : (μ ++ [Ob.lst (acc.map Wv.d)])[μ.length]? = some (.lst (acc.map Wv.d)) := by simp
    have hls : lstAt (μ ++ [Ob.lst (acc.map Wv.d)]) μ.length = some (acc.map Wv.d) := by unfold lstAt; rw [hat]
    have e0 : (sAsg (fOp addW (fOp addW (fSl (fVar 0) (fO0) (fO1 (fVar 2))) (fTup (fCons (fOp ixW (fVar 0) (fOp addW (fVar 2) (fC (.int 1)))) (fCons (fOp ixW (fVar 0) (fVar 2)) (fNil))))) (fSl (fVar 0) (fO1 (fOp addW (fVar 2) (fC (.int 2)))) (fO0))) (gVar 3)) [some (.d (rowD r)), some (.l μ.length), some (.d (.int (i : Nat))), b] (μ ++ [Ob.lst (acc.map Wv.d)]) = .ok (.nx [some (.d (rowD r)), some (.l μ.length), some (.d (.int (i : Nat))), some (.d (rowD (swapAt r i)))]) (μ ++ [Ob.lst (acc.map Wv.d)]) := by
      show _ = Rs.ok (Fl.nx [some (.d (rowD r)), some (.l μ.length), some (.d (.int (i : Nat))), some (.d (.tuple ((swapAt r i).map Pd.toD)))]) _
      rw [← es]
      simp -implicitDefEqProofs [rowD, x1, x2, cut_map, o_addT, LIM, q1, q2]
    cases hp : isNoneD (partingD [r] [swapAt r i]) with
    | true =>
      refine ⟨[some (.d (rowD r)), some (.l μ.length), some (.d (.int (i : Nat))), b], _, [some (.d (rowD r)), some (.l μ.length), some (.d (.int (i : Nat))), some (.d (rowD (swapAt r i)))], μ ++ [Ob.lst ((acc ++ [PyData.int (i : Int)]).map Wv.d)], by rw [ei]; rfl, ?_, ⟨_, _, rfl⟩, by rw [List.range_succ, List.filter_append]; simp only [List.map_append, hacc]; simp [hp]⟩
      have hb1 : boardD [r] = .tuple [rowD r] := rfl
      have hb2 : boardD [swapAt r i] = .tuple [rowD (swapAt r i)] := rfl
      rw [hb1, hb2] at e1
      show (sCons _ _) _ _ = _
      rw [e_sCons]
      show ((sAsg _ _) _ _).bind _ = _
      rw [e0]
      simp -implicitDefEqProofs [e1, hp, fApp, hls, LIM, hal2]
    | false =>
      refine ⟨[some (.d (rowD r)), some (.l μ.length), some (.d (.int (i : Nat))), b], _, [some (.d (rowD r)), some (.l μ.length), some (.d (.int (i : Nat))), some (.d (rowD (swapAt r i)))], μ ++ [Ob.lst (acc.map Wv.d)], by rw [ei]; rfl, ?_, ⟨_, _, rfl⟩, by rw [List.range_succ, List.filter_append]; simp only [List.map_append, hacc]; simp [hp]⟩
      have hb1 : boardD [r] = .tuple [rowD r] := rfl
      have hb2 : boardD [swapAt r i] = .tuple [rowD (swapAt r i)] := rfl
      rw [hb1, hb2] at e1
      show (sCons _ _) _ _ = _
      rw [e_sCons]
      show ((sAsg _ _) _ _).bind _ = _
      rw [e0]
      simp -implicitDefEqProofs [e1, hp])
  rw [Nat.zero_add, rangeD_length] at e
  have ee : (((List.range (r.length - 1)).filter fun i => isNoneD (partingD [r] [swapAt r i])).map fun (i : Nat) => PyData.int (i : Int)) = (exchL r).map PyData.int := by
    unfold exchL
    rw [List.map_map]
    rfl
  rw [ee] at e
  have hls : lstAt (μ ++ [Ob.lst (((exchL r).map PyData.int).map Wv.d)]) μ.length = some (((exchL r).map PyData.int).map Wv.d) := by unfold lstAt; simp
  have hd : dats (((exchL r).map PyData.int).map Wv.d) = some ((exchL r).map PyData.int) := dats_map _
  unfold g_exchanges
  refine run_app (ν := [Ob.dead]) ?_
  unfold B_exchanges
  have nr := need_row_ok (μ := μ) h hl
  have hrg : rgK (.d (.int ((r.length : Int) - 1))) (μ ++ [Ob.lst []]) = .ok (rangeD 0 (r.length - 1)) (μ ++ [Ob.lst []]) := by
    have : RB = 1000000000000 := rfl
    show (if -RB ≤ (r.length : Int) - 1 ∧ (r.length : Int) - 1 ≤ RB then Rs.ok (rangeD 0 ((r.length : Int) - 1).toNat) _ else Rs.no) = _
    rw [if_pos (by omega), show ((r.length : Int) - 1).toNat = r.length - 1 by omega]
  generalize hx : ((exchL r).map PyData.int).map Wv.d = X at e hls hd
  simp -implicitDefEqProofs [startE, nr, len_row, LIM, hrg, e, frz, hls, hd]
end
end Ped

/-! PedN: law 12, its parts -/
namespace Ped
open PySem L2 PyProof.Rows PySem.Spec
/-! ### a late pedal anywhere -/
theorem swap_mid (a b : List Pd) (x y : Pd) : swapAt (a ++ [x, y] ++ b) a.length = a ++ [y, x] ++ b := by
  unfold swapAt
  simp [List.getD_eq_getElem?_getD, List.getElem?_append]
theorem late_swap (a b : List Pd) (x : Pd) (k : Int) (n : Int) : rowShape (a ++ [x, .late k] ++ b) n = rowShape (a ++ [.late k, x] ++ b) n := by
  simp only [rowShape_app]
  rfl
theorem swap_lates (a b : List Pd) (x y : Pd) : lateOf (a ++ [x, y] ++ b) = lateOf (a ++ [y, x] ++ b) := by
  simp only [lateOf_app]
  simp [lateOf]
  omega
theorem exch_mem {a b : List Pd} {x y : Pd} (hf : ∀ n, rowShape (a ++ [x, y] ++ b) n = rowShape (a ++ [y, x] ++ b) n) : (a.length : Int) ∈ exchL (a ++ [x, y] ++ b) := by
  unfold exchL
  refine List.mem_map.mpr ⟨a.length, List.mem_filter.mpr ⟨List.mem_range.mpr (by simp), ?_⟩, rfl⟩
  rw [swap_mid, part_rows hf (swap_lates a b x y)]
  rfl
def putLate (r : List Pd) (k : Int) (at_ : Nat) : List Pd := r.take at_ ++ [.late k] ++ r.drop at_
theorem putLate_shape (r : List Pd) (k : Int) (a : Nat) (n : Int) : rowShape (putLate r k a) n = rowShape (.late k :: r) n := by
  unfold putLate
  rw [rowShape_app, rowShape_app]
  show rowShape (r.drop a) (rowShape (r.take a) n) = rowShape r n
  rw [← rowShape_app, List.take_append_drop]
theorem putLate_late (r : List Pd) (k : Int) (a : Nat) : lateOf (putLate r k a) = lateOf (.late k :: r) := by
  unfold putLate
  rw [lateOf_app, lateOf_app]
  have : lateOf (.late k :: r) = k + lateOf (r.take a ++ r.drop a) := by rw [List.take_append_drop]; simp [lateOf, lateK]
  rw [this, lateOf_app]
  simp [lateOf, lateK]
  omega
theorem put_before {r : List Pd} {k : Int} {a : Nat} (h0 : 0 < a) (h : a ≤ r.length) : ((a : Int) - 1) ∈ exchL (putLate r k a) := by
  obtain ⟨j, rfl⟩ : ∃ j, a = j + 1 := ⟨a - 1, by omega⟩
  have e : putLate r k (j + 1) = r.take j ++ [r[j], .late k] ++ r.drop (j + 1) := by
    have ht : r.take (j + 1) = r.take j ++ [r[j]] := by
      rw [List.take_add_one, List.getElem?_eq_getElem (by omega)]
      rfl
    unfold putLate
    rw [ht]
    simp only [List.append_assoc]
    rfl
  rw [e]
  have := exch_mem (a := r.take j) (b := r.drop (j + 1)) (x := r[j]) (y := .late k) fun n => late_swap _ _ _ _ n
  rw [List.length_take, Nat.min_eq_left (by omega)] at this
  rw [show ((j + 1 : Nat) : Int) - 1 = (j : Int) by omega]
  exact this
theorem put_behind {r : List Pd} {k : Int} {a : Nat} (h : a < r.length) : (a : Int) ∈ exchL (putLate r k a) := by
  have e : putLate r k a = r.take a ++ [.late k, r[a]] ++ r.drop (a + 1) := by
    unfold putLate
    rw [List.drop_eq_getElem_cons h]
    simp
  rw [e]
  have := exch_mem (a := r.take a) (b := r.drop (a + 1)) (x := .late k) (y := r[a]) fun n => (late_swap _ _ _ _ n).symm
  rw [List.length_take, Nat.min_eq_left (by omega)] at this
  exact this
/-! ### sixties -/
theorem steps60 {r : List Pd} (h : rowOk r) : stepsDiv 60 r := fun k hk => by
  have := h _ hk
  simp only [Pd.ok] at this
  have : k = 2 ∨ k = 3 ∨ k = 4 ∨ k = 5 := by omega
  rcases this with rfl | rfl | rfl | rfl
  · exact ⟨30, by decide⟩
  · exact ⟨20, by decide⟩
  · exact ⟨15, by decide⟩
  · exact ⟨12, by decide⟩
theorem sixties {r : List Pd} (h : rowOk r) (hl : r.length ≤ 5) {far : Int} (hf : 400 ≤ far) {sg : Int} (hs : sg = 1 ∨ sg = -1) : ∃ T, ∀ t : Nat, rowShape r (sg * (far + 60 * ((t : Int) + 1))) - rowShape r (sg * (far + 60 * (t : Int))) = T := by
  have hk : knobSum r < far := by have := knobSum_le h; omega
  rcases hs with rfl | rfl
  · obtain ⟨T, hT⟩ := far_pos (P := 60) (by decide) h (steps60 h) hk
    refine ⟨T, fun t => ?_⟩
    have := hT (far + 60 * (t : Int)) (by omega)
    rw [show 1 * (far + 60 * ((t : Int) + 1)) = far + 60 * (t : Int) + 60 by omega, show 1 * (far + 60 * (t : Int)) = far + 60 * (t : Int) by omega]
    omega
  · obtain ⟨T, hT⟩ := far_neg (P := 60) (by decide) h (steps60 h) hk
    refine ⟨T, fun t => ?_⟩
    have := hT (far + 60 * (t : Int)) (by omega)
    rw [show -1 * (far + 60 * ((t : Int) + 1)) = -(far + 60 * (t : Int) + 60) by omega, show -1 * (far + 60 * (t : Int)) = -(far + 60 * (t : Int)) by omega]
    omega
/-! ### what is heard of moved sounds -/
theorem numAt_zeros (m : Nat) (t : Int) : numAt (List.replicate m 0) t = 0 := by
  unfold numAt
  split
  · rename_i h
    rw [List.length_replicate] at h
    rw [List.getD_eq_getElem?_getD, List.getElem?_replicate]
    split <;> rfl
  · rfl
theorem numAt_nil (t : Int) : numAt [] t = 0 := numAt_zeros 0 t
theorem numAt_shift (m : Nat) (ns : List Int) (t : Int) : numAt (List.replicate m 0 ++ ns) (t + m) = numAt ns t := by
  unfold numAt
  rw [List.length_append, List.length_replicate]
  by_cases h0 : 0 ≤ t
  · by_cases h1 : t < ns.length
    · rw [if_pos (by omega), if_pos ⟨h0, h1⟩]
      rw [List.getD_eq_getElem?_getD, List.getD_eq_getElem?_getD, List.getElem?_append_right (by rw [List.length_replicate]; omega), List.length_replicate]
      rw [show (t + (m : Int)).toNat - m = t.toNat by omega]
    · rw [if_neg (by omega), if_neg (by omega)]
  · rw [if_neg (show ¬ (0 ≤ t ∧ t < (ns.length : Int)) by omega)]
    split
    · rw [List.getD_eq_getElem?_getD, List.getElem?_append_left (by rw [List.length_replicate]; omega), List.getElem?_replicate]
      split <;> rfl
    · rfl
theorem numAt_more (m : Nat) (ns : List Int) (t : Int) (h : t < ns.length) : numAt (ns ++ List.replicate m 0) t = numAt ns t := by
  unfold numAt
  rw [List.length_append, List.length_replicate]
  by_cases h0 : 0 ≤ t
  · rw [if_pos (by omega), if_pos ⟨h0, h⟩]
    rw [List.getD_eq_getElem?_getD, List.getD_eq_getElem?_getD, List.getElem?_append_left (by omega)]
  · rw [if_neg (by omega), if_neg (by omega)]
theorem heard_shift (B : List (List Pd)) (m : Nat) (ns : List Int) : (allHeard B (List.replicate m 0 ++ ns)).drop m = allHeard B ns := by
  unfold allHeard
  refine List.ext_getElem? fun i => ?_
  rw [List.getElem?_drop, List.getElem?_map, List.getElem?_map, List.length_append, List.length_replicate]
  by_cases h : i < ns.length + (boardLate B).toNat
  · rw [List.getElem?_range (by omega), List.getElem?_range h]
    simp only [Option.map_some, Option.some.injEq]
    unfold heardAt
    congr 1
    refine List.map_congr_left fun r _ => ?_
    rw [show (((m + i : Nat) : Int) - lateOf r) = ((i : Int) - lateOf r) + (m : Int) by omega, numAt_shift]
  · rw [List.getElem?_eq_none (by simp; omega), List.getElem?_eq_none (by simp; omega)]
    rfl
theorem heard_zeros (B : List (List Pd)) (m : Nat) : allHeard B (List.replicate m 0) = List.replicate (allHeard B (List.replicate m 0)).length (heardAt B [] 0) := by
  rw [List.eq_replicate_iff]
  refine ⟨rfl, fun z hz => ?_⟩
  unfold allHeard at hz
  obtain ⟨t, _, rfl⟩ := List.mem_map.mp hz
  unfold heardAt
  congr 1
  refine List.map_congr_left fun r _ => ?_
  rw [numAt_zeros, numAt_nil]
theorem heard_one {B : List (List Pd)} (ns : List Int) {r : List Pd} (hr : 0 ≤ lateOf r) (t : Nat) (ht : t < ns.length) : heardAt [r] (ns ++ List.replicate 15 0) (t : Nat) = rowShape r (numAt ns ((t : Int) - lateOf r)) := by
  unfold heardAt
  simp only [List.map_cons, List.map_nil, List.sum_cons, List.sum_nil, Int.add_zero]
  rw [numAt_more 15 ns _ (by omega)]
theorem part_zero (B : List (List Pd)) (L : Int) : partShape B L 0 = 0 := by
  unfold partShape
  induction B.filter (fun r => decide (lateOf r = L)) with
  | nil => rfl
  | cons a r ih => rw [List.map_cons, List.sum_cons, ih]; omega
section
variable {μ : Sto}
theorem in_ints (n : Bool) (z : Int) (xs : List Int) : inW n (.d (.int z)) (.d (.list (xs.map PyData.int))) μ = .ok (.d (.bool (if n then !decide (z ∈ xs) else decide (z ∈ xs)))) μ := by
  have hf : (xs.map PyData.int).all flatD = true := by simp [flatD]
  have ha : ((xs.map PyData.int).any fun y => PyData.eqv y (.int z)) = decide (z ∈ xs) := by
    induction xs with
    | nil => rfl
    | cons x r ih =>
      rw [List.map_cons, List.any_cons, ih (by simp [flatD])]
      show (x == z || _) = _
      by_cases h : x = z
      · subst h; simp
      · simp [h, Ne.symm h]
  show (if (flatD (.int z) = true ∧ (xs.map PyData.int).all flatD = true) ∨ (SeqAt.shaped (.int z) = true ∧ SeqAt.shaped (.list (xs.map PyData.int)) = true) then Rs.ok (Wv.d (.bool (if n = true then !((xs.map PyData.int).any fun y => PyData.eqv y (.int z)) else (xs.map PyData.int).any fun y => PyData.eqv y (.int z)))) μ else Rs.no) = _
  rw [if_pos (.inl ⟨rfl, hf⟩), ha]
theorem k_min_i {ns : List Int} {m : Int} (h : minL ns = some m) : kMin [.d (.list (ns.map PyData.int))] μ = .ok (.d (.int m)) μ := by
  unfold kMin kInts
  simp [toInts_map, h]
theorem loudness_ok (n : Int) : g_loudness [.d (.int n)] μ = .ok (.d (.int (absI n))) μ := by
  unfold g_loudness
  refine run_0 ?_
  unfold B_loudness absI
  have : (if 0 - n > n then 0 - n else n) = if n < 0 then -n else n := by repeat (first | omega | split)
  simp -implicitDefEqProofs [startE] at this ⊢
  exact this
theorem loudest0_ok {B : List (List Pd)} (h : BOk B) : g_loudest [.d (boardD B), .d (.int 0)] μ = .ok (.d (.int (absI (heardAt B [] 0)))) μ := by
  have hl : ∀ r ∈ B, r.length ≤ 1000000 := fun r hr => by have := h.rl r hr; omega
  have h3 := h.l3
  have eh := heard_at_ok (μ := μ) h.ok hl (by omega) [] 0
  have el := lates_ok (μ := μ) hl (by omega)
  generalize hst : heardAt B [] 0 = st at *
  have eL : g_loudest_of [.d (boardD B), .d (.int 0)] μ = .ok (.d (.int (absI st))) μ := by
    obtain ⟨env', e, a, b, c, rfl⟩ := for_fold (g := gVar 4) (b := L_loudest_of_1) (toD := PyData.int) (σ := Unit) (step := fun _ _ => ()) (E := fun _ env => ∃ a b c, env = [some (.d (boardD B)), some (.d (.int 0)), some (.d (.int st)), some (.d (.int st)), a, b, c]) (lates B) () [some (.d (boardD B)), some (.d (.int 0)), some (.d (.int st)), some (.d (.int st)), none, none, none] μ ⟨_, _, _, rfl⟩ (by
      rintro L hL _ env ⟨a, b, c, rfl⟩
      have er : ∀ (x y : Option Wv), (fRg2 (fOp (opI fun i j => some (.int (i - j))) (fC (.int 0)) (fVar 1)) (fOp addW (fVar 1) (fC (.int 1)))) [some (.d (boardD B)), some (.d (.int 0)), some (.d (.int st)), some (.d (.int st)), some (.d (.int L)), x, y] μ = .ok (.d (.list [.int 0])) μ := fun x y => rfl
      have ep := part_ok (μ := μ) h.ok hl (by omega) L 0
      rw [part_zero] at ep
      have ec := comp_map (g := gVar 6) (e := fCall (callD 3 g_part_shape) (fCons (fVar 0) (fCons (fVar 4) (fCons (fVar 6) (fNil))))) (env := [some (.d (boardD B)), some (.d (.int 0)), some (.d (.int st)), some (.d (.int st)), some (.d (.int L)), b, none]) (toD := PyData.int) (φ := fun _ => .int 0) [0] μ [] (fun z hz => ⟨_, rfl, by simp at hz; subst hz; simp -implicitDefEqProofs [ep]⟩) (by simp [LIM])
      simp only [List.nil_append, List.map_cons, List.map_nil] at ec
      have m1 := k_min_i (μ := μ) (ns := [0]) (m := 0) rfl
      have m2 := k_max_i (μ := μ) (ns := [0]) (m := 0) rfl
      simp only [List.map_cons, List.map_nil] at m1 m2
      exact ⟨_, [some (.d (boardD B)), some (.d (.int 0)), some (.d (.int st)), some (.d (.int st)), some (.d (.int L)), some (.d (.list [.int 0])), c], rfl, by simp -implicitDefEqProofs [er, ec, m1, m2], _, _, _, rfl⟩)
    unfold g_loudest_of
    refine run_0 ?_
    unfold B_loudest_of
    have l1 := loudness_ok (μ := μ) st
    simp only [numsD, List.map_nil] at eh
    simp -implicitDefEqProofs [startE, eh, el, e, l1]
  unfold g_loudest
  refine run_0 ?_
  unfold B_loudest
  have nm : g_need_most [.d (.int 0)] μ = .ok (.d .none) μ := by
    unfold g_need_most
    refine run_n (env := [some (.d (.int 0))]) ?_
    unfold B_need_most
    simp -implicitDefEqProofs [startE]
  simp -implicitDefEqProofs [startE, need_board_ok h.ok h.rl h.l1 h.l3, nm, eL]
end
end Ped

/-! PedO: law 12, the end -/
namespace Ped
open PySem L2 PyProof.Rows PySem.Spec
theorem len17 {α : Type} {q : List α} (hq : q.length = 17) : ∃ a b c d e f g h i j k l m n o p r, q = [a, b, c, d, e, f, g, h, i, j, k, l, m, n, o, p, r] := by
  match q, hq with
  | [a, b, c, d, e, f, g, h, i, j, k, l, m, n, o, p, r], _ => exact ⟨a, b, c, d, e, f, g, h, i, j, k, l, m, n, o, p, r, rfl⟩
section
variable {μ : Sto}
@[simp] theorem e_tup2 (a b : FG) (env : Env) (d1 d2 : D) : gTupF 2 (gsCons a (gsCons b gsNil)) (.d (.tuple [d1, d2])) env μ = (a (.d d1) env μ).bind fun env1 μ1 => (b (.d d2) env1 μ1).bind fun env2 μ2 => .ok env2 μ2 := rfl
theorem mulT_zero (m : Nat) (h0 : 1 ≤ m) (h1 : m ≤ 1000) : mulTW (.d (.tuple [.int 0])) (.d (.int (m : Nat))) μ = .ok (.d (numsD (List.replicate m 0))) μ := by
  show (if [PyData.int 0] ≠ [] ∧ 1 ≤ (m : Int) ∧ (m : Int) ≤ 1000 ∧ [PyData.int 0].length ≤ 1000 then Rs.ok (Wv.d (.tuple (List.replicate (m : Int).toNat [PyData.int 0]).flatten)) μ else Rs.no) = _
  rw [if_pos ⟨by simp, by omega, by omega, by simp⟩, Int.toNat_natCast]
  unfold numsD
  congr 3
  simp
theorem add_nums (a b : List Int) (h : a.length + b.length ≤ 16000000) : addW (.d (numsD a)) (.d (numsD b)) μ = .ok (.d (numsD (a ++ b))) μ := by
  show addW (.d (.tuple (a.map PyData.int))) (.d (.tuple (b.map PyData.int))) μ = _
  rw [o_addT, if_pos (by rw [List.length_map, List.length_map]; exact h), ← List.map_append]
  rfl
theorem loop_at {S K B w4 w5 w6 : Option Wv} {r : List Pd} {k : Int} (hr : rowOk r) (hl : r.length ≤ 5) (hk : (Pd.late k).ok) {x3 x9 x10 x11 x12 x13 x14 x15 x16 x17 x18 : Option Wv} : ∃ y3 y9, forF (gVar 3) L_law_12_1 (rangeD 0 (r.length + 1)) [S, K, B, x3, w4, w5, w6, some (.d (rowD r)), some (.d (Pd.late k).toD), x9, x10, x11, x12, x13, x14, x15, x16, x17, x18] μ = .ok (.nx [S, K, B, y3, w4, w5, w6, some (.d (rowD r)), some (.d (Pd.late k).toD), y9, x10, x11, x12, x13, x14, x15, x16, x17, x18]) μ := by
  rw [rangeD_eq]
  obtain ⟨env', e, y3, y9, rfl⟩ := for_fold (g := gVar 3) (b := L_law_12_1) (toD := fun i : Nat => PyData.int (i : Nat)) (σ := Unit) (step := fun _ _ => ()) (E := fun _ env => ∃ y3 y9, env = [S, K, B, y3, w4, w5, w6, some (.d (rowD r)), some (.d (Pd.late k).toD), y9, x10, x11, x12, x13, x14, x15, x16, x17, x18]) (List.range (r.length + 1)) () [S, K, B, x3, w4, w5, w6, some (.d (rowD r)), some (.d (Pd.late k).toD), x9, x10, x11, x12, x13, x14, x15, x16, x17, x18] μ ⟨_, _, rfl⟩ (by
    rintro a ha _ env ⟨y3, y9, rfl⟩
    have ha : a ≤ r.length := by have := List.mem_range.mp ha; omega
    have hpo : rowOk (putLate r k a) := by
      unfold putLate
      exact rowOk_app (rowOk_app (rowOk_sub hr fun p hp => List.mem_of_mem_take hp) (by intro q hq; simp at hq; subst hq; exact hk)) (rowOk_sub hr fun p hp => List.mem_of_mem_drop hp)
    have hpl : (putLate r k a).length ≤ 6 := by unfold putLate; simp; omega
    have hlo : rowOk (.late k :: r) := by intro q hq; rcases List.mem_cons.mp hq with rfl | hq; exact hk; exact hr q hq
    have hll : (Pd.late k :: r).length ≤ 6 := by simp; omega
    have al := alike_ok (μ := μ) (bok_row hpo hpl) (bok_row hlo hll)
    rw [part_rows (putLate_shape r k a) (putLate_late r k a)] at al
    have hb1 : boardD [putLate r k a] = .tuple [rowD (putLate r k a)] := rfl
    have hb2 : boardD [.late k :: r] = .tuple [.tuple ((Pd.late k).toD :: r.map Pd.toD)] := rfl
    rw [hb1, hb2] at al
    have ex := exch_ok (μ := μ) hpo hpl
    have q1 : min a r.length + 1 ≤ 16000000 := by omega
    have q2 : min a r.length + 1 + (r.length - a) ≤ 16000000 := by omega
    have q3 : 1 + r.length ≤ 16000000 := by omega
    have ep : rowD (putLate r k a) = .tuple ((r.take a).map Pd.toD ++ [(Pd.late k).toD] ++ (r.drop a).map Pd.toD) := by unfold putLate rowD; simp
    refine ⟨_, [S, K, B, some (.d (.int (a : Nat))), w4, w5, w6, some (.d (rowD r)), some (.d (Pd.late k).toD), some (.d (rowD (putLate r k a))), x10, x11, x12, x13, x14, x15, x16, x17, x18], rfl, ?_, _, _, rfl⟩
    have e0 : (sAsg (fOp addW (fOp addW (fSl (fVar 7) (fO0) (fO1 (fVar 3))) (fTup (fCons (fVar 8) (fNil)))) (fSl (fVar 7) (fO1 (fVar 3)) (fO0))) (gVar 9)) [S, K, B, some (.d (.int (a : Nat))), w4, w5, w6, some (.d (rowD r)), some (.d (Pd.late k).toD), y9, x10, x11, x12, x13, x14, x15, x16, x17, x18] μ = .ok (.nx [S, K, B, some (.d (.int (a : Nat))), w4, w5, w6, some (.d (rowD r)), some (.d (Pd.late k).toD), some (.d (rowD (putLate r k a))), x10, x11, x12, x13, x14, x15, x16, x17, x18]) μ := by
      rw [ep]
      simp -implicitDefEqProofs [rowD, cut_map, cut_to, cut_from, o_addT, LIM, q1, q2]
    show (sCons (sAsg _ _) _) _ _ = _
    rw [e_sCons]
    show ((sAsg _ _) [S, K, B, some (.d (.int (a : Nat))), w4, w5, w6, some (.d (rowD r)), some (.d (Pd.late k).toD), y9, x10, x11, x12, x13, x14, x15, x16, x17, x18] _).bind _ = _
    rw [e0]
    have hadd : addW (.d (.tuple [(Pd.late k).toD])) (.d (rowD r)) μ = .ok (.d (.tuple ((Pd.late k).toD :: r.map Pd.toD))) μ := by
      show addW (.d (.tuple [(Pd.late k).toD])) (.d (.tuple (r.map Pd.toD))) μ = _
      rw [o_addT, if_pos (by simp; omega)]
      rfl
    by_cases h0 : 0 < a
    · have m1 := put_before (k := k) h0 ha
      by_cases h1 : a < r.length
      · have m2 := put_behind (k := k) h1
        simp -implicitDefEqProofs [al, isNoneD, ex, in_ints, m1, m2, h0, h1, hadd, len_row]
      · simp -implicitDefEqProofs [al, isNoneD, ex, in_ints, m1, h0, h1, hadd, len_row]
    · by_cases h1 : a < r.length
      · have m2 := put_behind (k := k) h1
        have h0' : a = 0 := by omega
        subst h0'
        simp -implicitDefEqProofs at m2
        simp -implicitDefEqProofs [al, isNoneD, ex, in_ints, m2, h1, hadd, len_row]
      · have h0' : a = 0 := by omega
        subst h0'
        simp -implicitDefEqProofs [al, isNoneD, ex, in_ints, h1, hadd, len_row])
  exact ⟨y3, y9, e⟩
theorem loop_sign {S K B x3 w6 : Option Wv} {r : List Pd} {far : Int} (hr : rowOk r) (hl : r.length ≤ 5) (hf : 400 ≤ far ∧ far < 2000000) {x5 x8 x9 x10 x11 x12 x13 x14 x15 x16 x17 x18 : Option Wv} : ∃ y5 y10, forF (gVar 5) L_law_12_2 [.int 1, .int (-1)] [S, K, B, x3, some (.d (.int far)), x5, w6, some (.d (rowD r)), x8, x9, x10, x11, x12, x13, x14, x15, x16, x17, x18] μ = .ok (.nx [S, K, B, x3, some (.d (.int far)), y5, w6, some (.d (rowD r)), x8, x9, y10, x11, x12, x13, x14, x15, x16, x17, x18]) μ := by
  obtain ⟨env', e, y5, y10, rfl⟩ := for_fold (g := gVar 5) (b := L_law_12_2) (toD := PyData.int) (σ := Unit) (step := fun _ _ => ()) (E := fun _ env => ∃ y5 y10, env = [S, K, B, x3, some (.d (.int far)), y5, w6, some (.d (rowD r)), x8, x9, y10, x11, x12, x13, x14, x15, x16, x17, x18]) [1, -1] () [S, K, B, x3, some (.d (.int far)), x5, w6, some (.d (rowD r)), x8, x9, x10, x11, x12, x13, x14, x15, x16, x17, x18] μ ⟨_, _, rfl⟩ (by
    rintro sg hs _ env ⟨y5, y10, rfl⟩
    have hs : sg = 1 ∨ sg = -1 := by simpa using hs
    obtain ⟨T, hT⟩ := sixties hr hl hf.1 hs
    let f : Nat → Int := fun t => rowShape r (sg * (far + 60 * (t : Int)))
    have c1 : ∀ z, CMul sg z := fun z => cmul1 (by omega)
    have c2 : ∀ z, CMul 60 z := fun z => cmul1 (by omega)
    have e1 : ∀ z10 : Option Wv, compF (gVar 16) fYes (fCall (callD 2 g_shaped) (fCons (fVar 7) (fCons (fOp mulW (fVar 5) (fOp addW (fVar 4) (fOp mulW (fC (.int 60)) (fVar 16)))) (fNil)))) [S, K, B, x3, some (.d (.int far)), some (.d (.int sg)), w6, some (.d (rowD r)), x8, x9, z10, x11, x12, x13, x14, x15, none, x17, x18] (rangeD 0 4) μ [] = .ok [.int (f 0), .int (f 1), .int (f 2), .int (f 3)] μ := fun z10 => by
      rw [rangeD_eq]
      exact comp_map (φ := fun t => .int (f t)) (List.range 4) μ [] (fun t ht => ⟨_, rfl, by simp -implicitDefEqProofs [shaped_ok hr (show r.length ≤ 6 by omega), c1, c2, f]⟩) (by simp [LIM])
    have ix : ∀ t : Nat, t < 4 → ixW (.d (.list [.int (f 0), .int (f 1), .int (f 2), .int (f 3)])) (.d (.int (t : Int))) μ = .ok (.d (.int (f t))) μ := fun t ht => by
      show (match atI [PyData.int (f 0), .int (f 1), .int (f 2), .int (f 3)] (t : Int) with | some d => Rs.ok (Wv.d d) μ | none => Rs.no) = _
      rw [atI_nat]
      match t, ht with
      | 0, _ => rfl
      | 1, _ => rfl
      | 2, _ => rfl
      | 3, _ => rfl
    have e2 : compF (gVar 16) fYes (fOp (opI fun i j => some (.int (i - j))) (fOp ixW (fVar 10) (fOp addW (fVar 16) (fC (.int 1)))) (fOp ixW (fVar 10) (fVar 16))) [S, K, B, x3, some (.d (.int far)), some (.d (.int sg)), w6, some (.d (rowD r)), x8, x9, some (.d (.list [.int (f 0), .int (f 1), .int (f 2), .int (f 3)])), x11, x12, x13, x14, x15, none, x17, x18] (rangeD 0 3) μ [] = .ok [.int T, .int T, .int T] μ := by
      rw [rangeD_eq]
      refine comp_map (φ := fun t => .int T) (List.range 3) μ [] (fun t ht => ⟨_, rfl, ?_⟩) (by simp [LIM])
      have ht : t < 3 := List.mem_range.mp ht
      have i1 := ix (t + 1) (by omega)
      have i2 := ix t (by omega)
      have hd : f (t + 1) - f t = T := hT t
      rw [Int.natCast_add] at i1
      simp -implicitDefEqProofs [-opI_int] at i1
      simp -implicitDefEqProofs [i1, i2, hd]
    have r4 : rgK (.d (.int 4)) μ = .ok (rangeD 0 4) μ := rg_k (k := 4) (by omega)
    have r3 : rgK (.d (.int 3)) μ = .ok (rangeD 0 3) μ := rg_k (k := 3) (by omega)
    have el : lsW (.d (.list [.int T, .int T, .int T])) μ = .ok (.d (.int 1)) μ := by
      unfold lsW
      simp [toInts, sset, insS]
    refine ⟨_, [S, K, B, x3, some (.d (.int far)), some (.d (.int sg)), w6, some (.d (rowD r)), x8, x9, some (.d (.list [.int (f 0), .int (f 1), .int (f 2), .int (f 3)])), x11, x12, x13, x14, x15, x16, x17, x18], rfl, ?_, _, _, rfl⟩
    simp -implicitDefEqProofs [r4, e1, r3, e2, el, eq_int])
  exact ⟨y5, y10, e⟩
theorem mul_still (z : Int) (n : Nat) (h : n ≤ 1000) : mulW (.d (.list [.int z])) (.d (.int (n : Nat))) μ = .ok (.d (.list ((List.replicate n z).map PyData.int))) μ := by
  show (if -1000000 ≤ (n : Int) ∧ (n : Int) ≤ 1000000 ∧ [PyData.int z].length * (n : Int).toNat ≤ LIM then Rs.ok (Wv.d (.list (List.replicate (n : Int).toNat [PyData.int z]).flatten)) μ else Rs.no) = _
  rw [if_pos ⟨by omega, by omega, by simp [LIM]; omega⟩, Int.toNat_natCast]
  congr 3
  simp
theorem allHeard_len {B : List (List Pd)} (ns : List Int) : (allHeard B ns).length = ns.length + (boardLate B).toNat := by
  unfold allHeard
  simp
theorem ints_ne {xs ys : List Int} (h : xs = ys) : eqW true (.d (.list (xs.map PyData.int))) (.d (.list (ys.map PyData.int))) μ = .ok (.d (.bool false)) μ := by
  subst h
  exact ne_same (shp_ints _) (by decide)
theorem alone_ok {B : List (List Pd)} (h : BOk B) {ns : List Int} (hn : ns.length ≤ 20) (env : Env) (hb : env[11]? = some (some (.d (boardD B)))) (hs : env[12]? = some (some (.d (numsD ns)))) (hlen : env.length = 19) : (fComp (itS (fVar 11)) (gVar 15) (fYes) (fSl (fCall (callD 2 g_heard) (fCons (fTup (fCons (fVar 15) (fNil))) (fCons (fOp addW (fVar 12) (fOp mulTW (fTup (fCons (fC (.int 0)) (fNil))) (fC (.int 15)))) (fNil)))) (fO0) (fO1 (fCall kLen (fCons (fVar 12) (fNil))))) [15]) env μ = .ok (.d (.list (B.map fun r => .list ((List.range ns.length).map fun (t : Nat) => PyData.int (rowShape r (numAt ns ((t : Int) - lateOf r))))))) μ := by
  have m15 : mulTW (.d (.tuple [.int 0])) (.d (.int 15)) μ = .ok (.d (numsD (List.replicate 15 0))) μ := mulT_zero 15 (by omega) (by omega)
  have a15 := add_nums (μ := μ) ns (List.replicate 15 0) (by simp; omega)
  have kl : kLen [.d (numsD ns)] μ = .ok (.d (.int ns.length)) μ := by
    show kLen [.d (.tuple (ns.map PyData.int))] μ = _
    rw [k_len_t, List.length_map]
  have e := comp_map (g := gVar 15) (e := (fSl (fCall (callD 2 g_heard) (fCons (fTup (fCons (fVar 15) (fNil))) (fCons (fOp addW (fVar 12) (fOp mulTW (fTup (fCons (fC (.int 0)) (fNil))) (fC (.int 15)))) (fNil)))) (fO0) (fO1 (fCall kLen (fCons (fVar 12) (fNil)))))) (env := env.set 15 none) (toD := rowD) (φ := fun r => .list ((List.range ns.length).map fun (t : Nat) => PyData.int (rowShape r (numAt ns ((t : Int) - lateOf r))))) B μ [] (by
    intro r hr
    refine ⟨(env.set 15 none).set 15 (some (.d (rowD r))), rfl, ?_⟩
    have h15 : ((env.set 15 none).set 15 (some (.d (rowD r))))[15]? = some (some (.d (rowD r))) := by
      rw [List.getElem?_set_self (by rw [List.length_set, hlen]; decide)]
    have h12 : ((env.set 15 none).set 15 (some (.d (rowD r))))[12]? = some (some (.d (numsD ns))) := by
      rw [List.getElem?_set_ne (by decide), List.getElem?_set_ne (by decide)]
      exact hs
    have eh := heard_ok (μ := μ) (bok_row (h.ok r hr) (h.rl r hr)).ok (bok_row (h.ok r hr) (h.rl r hr)).rl (by simp) (by simp) (ns ++ List.replicate 15 0) (by simp; omega)
    have hb1 : boardD [r] = .tuple [rowD r] := rfl
    rw [hb1] at eh
    have lt := (late_bound (h.ok r hr)).1
    have et : cut ((allHeard [r] (ns ++ List.replicate 15 0)).map PyData.int) none (some (ns.length : Int)) = (List.range ns.length).map fun (t : Nat) => PyData.int (rowShape r (numAt ns ((t : Int) - lateOf r))) := by
      rw [cut_to]
      refine List.ext_getElem? fun i => ?_
      rw [List.getElem?_take]
      by_cases hi : i < ns.length
      · rw [if_pos hi, List.getElem?_map, List.getElem?_map, List.getElem?_range hi]
        unfold allHeard
        rw [List.getElem?_map, List.getElem?_range (by simp; omega)]
        simp only [Option.map_some, Option.some.injEq, PyData.int.injEq]
        exact heard_one (B := []) ns lt i hi
      · rw [if_neg hi, List.getElem?_eq_none (by simp; omega)]
    generalize ((env.set 15 none).set 15 (some (.d (rowD r)))) = env2 at h15 h12
    generalize List.replicate 15 (0 : Int) = z15 at m15 a15 eh et
    simp -implicitDefEqProofs [h15, h12, m15, a15, eh, kl]
    exact et) (by have := h.l3; simp [LIM]; omega)
  rw [List.nil_append] at e
  show ((itS (fVar 11) env μ).bind _) = _
  have ei : itS (fVar 11) env μ = .ok (B.map rowD) μ := by
    unfold itS
    rw [e_var, hb]
    rfl
  rw [ei, Rs.bind_ok]
  show ((compF _ _ _ (env.set 15 none) _ μ []).bind _) = _
  rw [e]
  rfl
def aloneD (B : List (List Pd)) (ns : List Int) : List D := B.map fun r => .list ((List.range ns.length).map fun (t : Nat) => PyData.int (rowShape r (numAt ns ((t : Int) - lateOf r))))
theorem sums_last {B : List (List Pd)} (h : BOk B) {ns : List Int} (hn : ns.length ≤ 40) (env : Env) (hb : env[11]? = some (some (.d (boardD B)))) (hs : env[12]? = some (some (.d (numsD ns)))) (ha : env[6]? = some (some (.d (.list (aloneD B ns))))) (hlen : env.length = 19) : (fB (fOp (eqW true) (fComp (itR1 (fCall kLen (fCons (fVar 12) (fNil)))) (gVar 17) (fYes) (fCall kSum (fCons (fComp (itS (fVar 6)) (gVar 18) (fYes) (fOp ixW (fVar 18) (fVar 17)) [18]) (fNil))) [17]) (fSl (fCall (callD 2 g_heard) (fCons (fVar 11) (fCons (fVar 12) (fNil)))) (fO0) (fO1 (fCall kLen (fCons (fVar 12) (fNil))))))) env μ = .ok false μ := by
  have kl : ∀ μ, kLen [.d (numsD ns)] μ = .ok (.d (.int ns.length)) μ := fun μ => by
    show kLen [.d (.tuple (ns.map PyData.int))] μ = _
    rw [k_len_t, List.length_map]
  have inner : ∀ (t : Nat), t < ns.length → ∀ env : Env, env.length = 19 → env[6]? = some (some (.d (.list (aloneD B ns)))) → env[17]? = some (some (.d (.int (t : Int)))) → (fCall kSum (fCons (fComp (itS (fVar 6)) (gVar 18) (fYes) (fOp ixW (fVar 18) (fVar 17)) [18]) (fNil))) env μ = .ok (.d (.int (heardAt B ns t))) μ := fun t ht env hl h6 h17 => by
    have e := comp_map (g := gVar 18) (e := fOp ixW (fVar 18) (fVar 17)) (env := env.set 18 none) (toD := fun r => PyData.list ((List.range ns.length).map fun (t : Nat) => PyData.int (rowShape r (numAt ns ((t : Int) - lateOf r))))) (φ := fun r => .int (rowShape r (numAt ns ((t : Int) - lateOf r)))) B μ [] (by
      intro r hr
      refine ⟨(env.set 18 none).set 18 (some (.d (.list ((List.range ns.length).map fun (t : Nat) => PyData.int (rowShape r (numAt ns ((t : Int) - lateOf r))))))), rfl, ?_⟩
      rw [e_op, e_var, List.getElem?_set_self (by rw [List.length_set, hl]; decide)]
      simp only [Rs.bind_ok]
      rw [e_var, List.getElem?_set_ne (by decide), List.getElem?_set_ne (by decide), h17]
      simp only [Rs.bind_ok]
      show (match atI ((List.range ns.length).map fun (t : Nat) => PyData.int (rowShape r (numAt ns ((t : Int) - lateOf r)))) (t : Int) with | some d => Rs.ok (Wv.d d) μ | none => Rs.no) = _
      rw [atI_nat, List.getElem?_map, List.getElem?_range ht]
      rfl) (by have := h.l3; simp [LIM]; omega)
    rw [List.nil_append] at e
    have ei : itS (fVar 6) env μ = .ok (aloneD B ns) μ := by
      unfold itS
      rw [e_var, h6]
      rfl
    have ec : (fComp (itS (fVar 6)) (gVar 18) (fYes) (fOp ixW (fVar 18) (fVar 17)) [18]) env μ = .ok (.d (.list (B.map fun r => .int (rowShape r (numAt ns ((t : Int) - lateOf r)))))) μ := by
      show ((itS (fVar 6) env μ).bind _) = _
      rw [ei, Rs.bind_ok]
      show ((compF _ _ _ (env.set 18 none) (aloneD B ns) μ []).bind _) = _
      unfold aloneD
      rw [e]
      rfl
    rw [e_call, e_cons, ec]
    simp only [Rs.bind_ok, e_nil]
    rw [k_sum_g]
    rfl
  have eo := comp_map (g := gVar 17) (e := fCall kSum (fCons (fComp (itS (fVar 6)) (gVar 18) (fYes) (fOp ixW (fVar 18) (fVar 17)) [18]) (fNil))) (env := env.set 17 none) (toD := fun i : Nat => PyData.int (i : Nat)) (φ := fun t => .int (heardAt B ns (t : Nat))) (List.range ns.length) μ [] (by
    intro t ht
    have ht := List.mem_range.mp ht
    refine ⟨(env.set 17 none).set 17 (some (.d (.int (t : Nat)))), rfl, inner t ht _ (by rw [List.length_set, List.length_set, hlen]) ?_ ?_⟩
    · rw [List.getElem?_set_ne (by decide), List.getElem?_set_ne (by decide)]
      exact ha
    · rw [List.getElem?_set_self (by rw [List.length_set, hlen]; decide)]) (by simp [LIM]; omega)
  rw [List.nil_append, ← rangeD_eq] at eo
  have rr := rg_k (μ := μ) (show ns.length ≤ 1000000 by omega)
  have ei : (itR1 (fCall kLen (fCons (fVar 12) (fNil)))) env μ = .ok (rangeD 0 ns.length) μ := by
    rw [e_itR1, e_call, e_cons, e_var, hs]
    simp only [Rs.bind_ok, e_nil, kl]
    exact rr
  have ec : (fComp (itR1 (fCall kLen (fCons (fVar 12) (fNil)))) (gVar 17) (fYes) (fCall kSum (fCons (fComp (itS (fVar 6)) (gVar 18) (fYes) (fOp ixW (fVar 18) (fVar 17)) [18]) (fNil))) [17]) env μ = .ok (.d (.list ((List.range ns.length).map fun t => .int (heardAt B ns (t : Nat))))) μ := by
    show ((itR1 (fCall kLen (fCons (fVar 12) (fNil))) env μ).bind _) = _
    rw [ei, Rs.bind_ok]
    show ((compF _ _ _ (env.set 17 none) _ μ []).bind _) = _
    rw [eo]
    rfl
  have eh := heard_ok (μ := μ) h.ok h.rl h.l1 h.l3 ns hn
  have et : (List.range ns.length).map (fun t => PyData.int (heardAt B ns (t : Nat))) = (((allHeard B ns).take ns.length).map PyData.int) := by
    unfold allHeard
    refine List.ext_getElem? fun i => ?_
    rw [List.getElem?_map, List.getElem?_map, List.getElem?_take]
    by_cases hi : i < ns.length
    · rw [if_pos hi, List.getElem?_map, List.getElem?_range hi, List.getElem?_range (by omega)]
      rfl
    · rw [if_neg hi, List.getElem?_eq_none (by simp; omega)]
      rfl
  have es : (fSl (fCall (callD 2 g_heard) (fCons (fVar 11) (fCons (fVar 12) (fNil)))) (fO0) (fO1 (fCall kLen (fCons (fVar 12) (fNil))))) env μ = .ok (.d (.list (((allHeard B ns).take ns.length).map PyData.int))) μ := by
    rw [List.map_take, ← cut_to]
    simp -implicitDefEqProofs [hb, hs, eh, kl]
  rw [et] at ec
  rw [e_B, e_op, ec, Rs.bind_ok, es, Rs.bind_ok, ne_same (shp_ints _) (by decide)]
  rfl
end
theorem sc_nx {f g : FS} {env env1 : Env} {μ μ1 : Sto} (h : f env μ = .ok (.nx env1) μ1) : sCons f g env μ = g env1 μ1 := by
  rw [e_sCons, h]
  rfl
theorem body12 (ns : List Int) (k : Nat) (hk : k < 100) (rest : Env) (μ : Sto) (hr : rest.length = 17) : ∃ rest' μ', L_law_12_3 (some (.s ns) :: some (.d (.int (k : Nat))) :: rest) μ = .ok (.nx (some (.s ns) :: some (.d (.int (k : Nat))) :: rest')) μ' ∧ rest'.length = 17 := by
  obtain ⟨x2, x3, x4, x5, x6, x7, x8, x9, x10, x11, x12, x13, x14, x15, x16, x17, x18, rfl⟩ := len17 hr
  obtain ⟨ν, eb, B0⟩ := turn_bag ns k hk μ
  generalize μ.length = n at eb B0
  obtain ⟨r, μ1, e1, rok, rl, _, s1⟩ := pedals_ok B0 5 (by decide) false
  obtain ⟨kk, μ2, e2, k0, k1, s2⟩ := take_ok (s1.bg B0) (m := 5) (by decide) (by decide)
  have s12 := s1.trans s2
  have lok : (Pd.late (1 + kk)).ok := ⟨by omega, by omega⟩
  obtain ⟨y3, y9, e3⟩ := loop_at (μ := μ2) (S := some (.s ns)) (K := some (.d (.int (k : Nat)))) (B := some (.l n)) (w4 := x4) (w5 := x5) (w6 := x6) rok rl lok (x3 := x3) (x9 := x9) (x10 := x10) (x11 := x11) (x12 := x12) (x13 := x13) (x14 := x14) (x15 := x15) (x16 := x16) (x17 := x17) (x18 := x18)
  obtain ⟨f0, μ3, e4, f1', f2, s3⟩ := take_ok (s12.bg B0) (m := 1000000) (by decide) (by decide)
  have s13 := s12.trans s3
  obtain ⟨y5, y10, e5⟩ := loop_sign (μ := μ3) (S := some (.s ns)) (K := some (.d (.int (k : Nat)))) (B := some (.l n)) (x3 := y3) (w6 := x6) (far := 400 + f0) rok rl (by omega) (x5 := x5) (x8 := some (.d (Pd.late (1 + kk)).toD)) (x9 := y9) (x10 := x10) (x11 := x11) (x12 := x12) (x13 := x13) (x14 := x14) (x15 := x15) (x16 := x16) (x17 := x17) (x18 := x18)
  obtain ⟨B, μ4, e6, hB, hr4, b1, b3, s4⟩ := board_ok (s13.bg B0) 4 (by decide)
  have s14 := s13.trans s4
  have bB : BOk B := ⟨hB, fun r h => by have := hr4 r h; omega, b1, b3⟩
  obtain ⟨zs, μ5, e7, zl, _, s5⟩ := numbers_ok (s14.bg B0) 20 (by decide)
  have s15 := s14.trans s5
  obtain ⟨m0, μ6, e8, m1, m2, s6⟩ := take_ok (s15.bg B0) (m := 4) (by decide) (by decide)
  obtain ⟨m, hm⟩ := Int.eq_ofNat_of_zero_le (show 0 ≤ 1 + m0 by omega)
  have hm1 : 1 ≤ m ∧ m ≤ 4 := by omega
  have es := silence_ok (μ := μ5) bB.ok bB.rl bB.l1 bB.l3
  have eh := fun zs hz => heard_ok (μ := μ6) bB.ok bB.rl bB.l1 bB.l3 zs hz
  have h1 := eh (List.replicate m 0 ++ zs) (by simp; omega)
  have h2 := eh zs (by omega)
  have h3 := eh (List.replicate 6 0) (by simp)
  have m1' := mulT_zero (μ := μ6) m hm1.1 (by omega)
  have m6 : mulTW (.d (.tuple [.int 0])) (.d (.int 6)) μ6 = .ok (.d (numsD (List.replicate 6 0))) μ6 := mulT_zero 6 (by omega) (by omega)
  have a1 := add_nums (μ := μ6) (List.replicate m 0) zs (by simp; omega)
  obtain ⟨_, bl0, bl30⟩ := boardLate_ok bB.ok bB.rl bB.l1
  have q1 : eqW true (.d (.list (cut ((allHeard B (List.replicate m 0 ++ zs)).map PyData.int) (some (m : Int)) none))) (.d (.list ((allHeard B zs).map PyData.int))) μ6 = .ok (.d (.bool false)) μ6 := by
    rw [cut_from, ← List.map_drop]
    exact ints_ne (heard_shift B m zs)
  have ms := mul_still (μ := μ6) (heardAt B [] 0) (allHeard B (List.replicate 6 0)).length (by rw [allHeard_len]; simp; omega)
  have q2 : eqW true (.d (.list ((allHeard B (List.replicate 6 0)).map PyData.int))) (.d (.list ((List.replicate (allHeard B (List.replicate 6 0)).length (heardAt B [] 0)).map PyData.int))) μ6 = .ok (.d (.bool false)) μ6 := ints_ne (heard_zeros B 6)
  have l0 := loudest0_ok (μ := μ6) bB
  have brev : BOk B.reverse := ⟨fun r h => bB.ok r (List.mem_reverse.mp h), fun r h => bB.rl r (List.mem_reverse.mp h), by simpa using b1, by simpa using b3⟩
  have al := alike_ok (μ := μ6) bB brev
  rw [part_perm (List.reverse_perm B).symm] at al
  have er : boardD B.reverse = .tuple (B.map rowD).reverse := by simp [boardD]
  rw [er] at al
  have ead : absI (heardAt B [] 0) = (if heardAt B [] 0 < 0 then -(heardAt B [] 0) else heardAt B [] 0) := rfl
  have e10 : ∀ μ, opI (fun i j => if CPow i j then some (.int (i ^ j.toNat)) else none) (.d (.int 10)) (.d (.int 6)) μ = .ok (.d (.int 1000000)) μ := fun μ => by
    have cp : CPow 10 6 := by unfold CPow; decide
    show (match (if CPow 10 6 then some (PyData.int ((10 : Int) ^ (6 : Int).toNat)) else none) with | some d => Rs.ok (Wv.d d) μ | none => Rs.no) = _
    rw [if_pos cp]
    rfl
  have elate : (PyData.tuple [.str "late", .int (1 + kk)]) = (Pd.late (1 + kk)).toD := rfl
  have klen : kLen [.d (numsD zs)] μ6 = .ok (.d (.int zs.length)) μ6 := by
    show kLen [.d (.tuple (zs.map PyData.int))] μ6 = _
    rw [k_len_t, List.length_map]
  have rr := rg_k (μ := μ6) (show zs.length ≤ 1000000 by omega)
  have rr1 := rg_k (μ := μ2) (show r.length + 1 ≤ 1000000 by omega)
  rw [Int.natCast_add] at rr1
  simp only [Int.natCast_one] at rr1
  refine ⟨[some (.l n), y3, some (.d (.int (400 + f0))), y5, some (.d (.list (aloneD B zs))), some (.d (rowD r)), some (.d (Pd.late (1 + kk)).toD), y9, y10, some (.d (boardD B)), some (.d (numsD zs)), some (.d (.int (heardAt B [] 0))), some (.d (.int (m : Nat))), x15, x16, x17, x18], μ6, ?_, rfl⟩
  have A := alone_ok (μ := μ6) bB zl [some (.s ns), some (.d (.int (k : Nat))), some (.l n), y3, some (.d (.int (400 + f0))), y5, x6, some (.d (rowD r)), some (.d (Pd.late (1 + kk)).toD), y9, y10, some (.d (boardD B)), some (.d (numsD zs)), some (.d (.int (heardAt B [] 0))), some (.d (.int (m : Nat))), x15, x16, x17, x18] rfl rfl rfl
  have Z := sums_last (μ := μ6) bB (show zs.length ≤ 40 by omega) [some (.s ns), some (.d (.int (k : Nat))), some (.l n), y3, some (.d (.int (400 + f0))), y5, some (.d (.list (aloneD B zs))), some (.d (rowD r)), some (.d (Pd.late (1 + kk)).toD), y9, y10, some (.d (boardD B)), some (.d (numsD zs)), some (.d (.int (heardAt B [] 0))), some (.d (.int (m : Nat))), x15, x16, x17, x18] rfl rfl rfl rfl
  generalize List.replicate 6 (0 : Int) = z6 at h3 m6 ms q2
  generalize List.replicate m (0 : Int) = zm at h1 m1' a1 q1
  unfold L_law_12_3
  refine (sc_nx (env1 := [some (.s ns), some (.d (.int (k : Nat))), some (.l n), x3, x4, x5, x6, x7, x8, x9, x10, x11, x12, x13, x14, x15, x16, x17, x18]) (μ1 := ν) ?_).trans ?_
  · simp -implicitDefEqProofs [eb]
  refine (sc_nx (env1 := [some (.s ns), some (.d (.int (k : Nat))), some (.l n), x3, x4, x5, x6, some (.d (rowD r)), some (.d (Pd.late (1 + kk)).toD), x9, x10, x11, x12, x13, x14, x15, x16, x17, x18]) (μ1 := μ2) ?_).trans ?_
  · (simp at e1); simp -implicitDefEqProofs [e1, e2, elate]
  refine (sc_nx (env1 := [some (.s ns), some (.d (.int (k : Nat))), some (.l n), y3, x4, x5, x6, some (.d (rowD r)), some (.d (Pd.late (1 + kk)).toD), y9, x10, x11, x12, x13, x14, x15, x16, x17, x18]) (μ1 := μ2) ?_).trans ?_
  · simp -implicitDefEqProofs [len_row, rr1]; exact e3
  refine (sc_nx (env1 := [some (.s ns), some (.d (.int (k : Nat))), some (.l n), y3, some (.d (.int (400 + f0))), x5, x6, some (.d (rowD r)), some (.d (Pd.late (1 + kk)).toD), y9, x10, x11, x12, x13, x14, x15, x16, x17, x18]) (μ1 := μ3) ?_).trans ?_
  · simp -implicitDefEqProofs [e10, e4]
  refine (sc_nx (env1 := [some (.s ns), some (.d (.int (k : Nat))), some (.l n), y3, some (.d (.int (400 + f0))), y5, x6, some (.d (rowD r)), some (.d (Pd.late (1 + kk)).toD), y9, y10, x11, x12, x13, x14, x15, x16, x17, x18]) (μ1 := μ3) ?_).trans ?_
  · simp -implicitDefEqProofs []; exact e5
  refine (sc_nx (env1 := [some (.s ns), some (.d (.int (k : Nat))), some (.l n), y3, some (.d (.int (400 + f0))), y5, x6, some (.d (rowD r)), some (.d (Pd.late (1 + kk)).toD), y9, y10, some (.d (boardD B)), some (.d (numsD zs)), x13, x14, x15, x16, x17, x18]) (μ1 := μ5) ?_).trans ?_
  · (simp at e6 e7); simp -implicitDefEqProofs [e6, e7]
  refine (sc_nx (env1 := [some (.s ns), some (.d (.int (k : Nat))), some (.l n), y3, some (.d (.int (400 + f0))), y5, x6, some (.d (rowD r)), some (.d (Pd.late (1 + kk)).toD), y9, y10, some (.d (boardD B)), some (.d (numsD zs)), some (.d (.int (heardAt B [] 0))), some (.d (.int (m : Nat))), x15, x16, x17, x18]) (μ1 := μ6) ?_).trans ?_
  · simp -implicitDefEqProofs [es, e8, hm]
  refine (sc_nx (env1 := [some (.s ns), some (.d (.int (k : Nat))), some (.l n), y3, some (.d (.int (400 + f0))), y5, x6, some (.d (rowD r)), some (.d (Pd.late (1 + kk)).toD), y9, y10, some (.d (boardD B)), some (.d (numsD zs)), some (.d (.int (heardAt B [] 0))), some (.d (.int (m : Nat))), x15, x16, x17, x18]) (μ1 := μ6) ?_).trans ?_
  · simp -implicitDefEqProofs [m1', a1, h1, h2, q1]
  refine (sc_nx (env1 := [some (.s ns), some (.d (.int (k : Nat))), some (.l n), y3, some (.d (.int (400 + f0))), y5, x6, some (.d (rowD r)), some (.d (Pd.late (1 + kk)).toD), y9, y10, some (.d (boardD B)), some (.d (numsD zs)), some (.d (.int (heardAt B [] 0))), some (.d (.int (m : Nat))), x15, x16, x17, x18]) (μ1 := μ6) ?_).trans ?_
  · simp -implicitDefEqProofs [-List.map_replicate, m6, h3, ms, q2, l0, ead, eq_int]
  refine (sc_nx (env1 := [some (.s ns), some (.d (.int (k : Nat))), some (.l n), y3, some (.d (.int (400 + f0))), y5, x6, some (.d (rowD r)), some (.d (Pd.late (1 + kk)).toD), y9, y10, some (.d (boardD B)), some (.d (numsD zs)), some (.d (.int (heardAt B [] 0))), some (.d (.int (m : Nat))), x15, x16, x17, x18]) (μ1 := μ6) ?_).trans ?_
  · have hbd : revW (.d (boardD B)) μ6 = .ok (.d (.tuple (B.map rowD).reverse)) μ6 := rfl
    simp -implicitDefEqProofs [hbd, al, isNoneD]
  refine (sc_nx (env1 := [some (.s ns), some (.d (.int (k : Nat))), some (.l n), y3, some (.d (.int (400 + f0))), y5, some (.d (.list (aloneD B zs))), some (.d (rowD r)), some (.d (Pd.late (1 + kk)).toD), y9, y10, some (.d (boardD B)), some (.d (numsD zs)), some (.d (.int (heardAt B [] 0))), some (.d (.int (m : Nat))), x15, x16, x17, x18]) (μ1 := μ6) ?_).trans ?_
  · show (sAsg _ (gVar 6)) _ _ = _
    rw [e_sAsg, A]
    rfl
  show (sIf _ _ _) _ _ = _
  rw [e_sIf, Z]
  rfl
theorem law12 (ns : List Int) : ∃ μ, g_law_12 [.s ns] [] = .ok (.d (.bool true)) μ :=
  law_true (m := 17) ns (by decide) fun k rest μ hk hr => body12 ns k hk rest μ hr
end Ped

/-! PedB: law 04 -/
namespace Ped
open PySem L2 PyProof.Rows PySem.Spec
def stL (μ : Sto) (acc : List D) : Sto := μ ++ [Ob.lst (acc.map Wv.d)]
theorem stL_at (μ : Sto) (acc : List D) : lstAt (stL μ acc) μ.length = some (acc.map Wv.d) := by unfold lstAt stL; simp
theorem stL_D (μ : Sto) (acc : List D) : lstD (stL μ acc) μ.length = some acc := by unfold lstD; rw [stL_at]; exact dats_map acc
theorem stL_set (μ : Sto) (acc : List D) (x : D) : (stL μ acc).set μ.length (.lst (acc.map Wv.d ++ [.d x])) = stL μ (acc ++ [x]) := by unfold stL; simp
/-- a loop that puts things behind the last list of the store -/
theorem coll {α : Type} {g : FG} {b : FS} {toD : α → D} {E : Env → Prop} {ψ : α → List D} {μ : Sto} (N : Nat) : ∀ (xs : List α) (acc : List D) (env : Env), E env → acc.length + (xs.flatMap ψ).length ≤ N → (∀ x ∈ xs, ∀ acc env, E env → acc.length + (ψ x).length ≤ N → ∃ env1 env2, g (.d (toD x)) env (stL μ acc) = .ok env1 (stL μ acc) ∧ b env1 (stL μ acc) = .ok (.nx env2) (stL μ (acc ++ ψ x)) ∧ E env2) → ∃ env', forF g b (xs.map toD) env (stL μ acc) = .ok (.nx env') (stL μ (acc ++ xs.flatMap ψ)) ∧ E env'
  | [], acc, env, h, _, _ => ⟨env, by simp [forF], h⟩
  | x :: r, acc, env, h, hN, hs => by
    rw [List.flatMap_cons, List.length_append] at hN
    obtain ⟨env1, env2, h1, h2, h3⟩ := hs x List.mem_cons_self acc env h (by omega)
    obtain ⟨env', h4, h5⟩ := coll N r (acc ++ ψ x) env2 h3 (by rw [List.length_append]; omega) fun y hy => hs y (List.mem_cons_of_mem _ hy)
    refine ⟨env', ?_, h5⟩
    rw [List.map_cons, List.flatMap_cons, ← List.append_assoc]
    unfold forF
    rw [h1]
    simp only [noex_ok, Rs.bind_ok, h2, h4]
theorem soft_none (a b : List (List Pd)) : isNoneD (softD a b) = isNoneD (partingD a b) := by
  unfold softD partingD
  by_cases h : heardAt a [] 0 = heardAt b [] 0
  · rw [if_pos h, if_pos h]
    cases (louds (spanOf (a ++ b))).find? (differs a b) <;> rfl
  · rw [if_neg h, if_neg h]
    rfl
def lessR (r : List Pd) (p : Nat) : List Pd := r.take p ++ r.drop (p + 1)
def lessB (B : List (List Pd)) (a p : Nat) : List (List Pd) := B.take a ++ [lessR (B.getD a []) p] ++ B.drop (a + 1)
def needL (B : List (List Pd)) (a : Nat) : List D := (List.range (B.getD a []).length).flatMap fun p => if isNoneD (partingD B (lessB B a p)) = true then [PyData.tuple [.int (a : Nat), .int (p : Nat)]] else []
theorem lessR_ok {r : List Pd} (h : rowOk r) (p : Nat) : rowOk (lessR r p) ∧ (lessR r p).length ≤ r.length := by
  unfold lessR
  refine ⟨rowOk_app (rowOk_sub h fun q hq => List.mem_of_mem_take hq) (rowOk_sub h fun q hq => List.mem_of_mem_drop hq), by simp; omega⟩
theorem lessB_ok {B : List (List Pd)} (h : BOk B) {a : Nat} (ha : a < B.length) (p : Nat) : BOk (lessB B a p) := by
  have e : B.getD a [] = B[a] := by simp [ha]
  have hm : B[a] ∈ B := List.getElem_mem ha
  unfold lessB
  rw [e]
  refine ⟨fun r hr => ?_, fun r hr => ?_, by simp; omega, by have := h.l3; simp; omega⟩
  · simp at hr
    rcases hr with hr | rfl | hr
    · exact h.ok r (List.mem_of_mem_take hr)
    · exact (lessR_ok (h.ok _ hm) p).1
    · exact h.ok r (List.mem_of_mem_drop hr)
  · simp at hr
    rcases hr with hr | rfl | hr
    · exact h.rl r (List.mem_of_mem_take hr)
    · have := (lessR_ok (h.ok _ hm) p).2
      have := h.rl _ hm
      omega
    · exact h.rl r (List.mem_of_mem_drop hr)
theorem need_len (B : List (List Pd)) (a : Nat) : (needL B a).length ≤ (B.getD a []).length := by
  unfold needL
  generalize (B.getD a []).length = n
  induction n with
  | zero => simp
  | succ n ih =>
    rw [List.range_succ, List.flatMap_append, List.length_append]
    simp only [List.flatMap_cons, List.flatMap_nil, List.append_nil]
    split <;> simp only [List.length_singleton, List.length_nil] <;> omega
section
variable {μ : Sto}
theorem less_ok (r : List Pd) (p : Nat) (hl : r.length ≤ 1000) : g_less_at [.d (rowD r), .d (.int (p : Nat))] μ = .ok (.d (rowD (lessR r p))) μ := by
  unfold g_less_at
  refine run_0 ?_
  unfold B_less_at
  have ca1 : cut r (some ((p : Int) + 1)) none = r.drop (p + 1) := by rw [show (p : Int) + 1 = ((p + 1 : Nat) : Int) by omega]; exact cut_from r (p + 1)
  have q1 : min p r.length + (r.length - (p + 1)) ≤ 16000000 := by omega
  simp -implicitDefEqProofs [startE, rowD, lessR, ca1, cut_map, cut_to, o_addT, LIM, q1]
theorem lessB_add (B : List (List Pd)) (a p : Nat) (hB : B.length ≤ 1000) : ∀ r, B.getD a [] = r → (cut (B.map rowD) none (some (a : Int)) ++ [rowD (lessR r p)]) ++ cut (B.map rowD) (some ((a : Int) + 1)) none = (lessB B a p).map rowD := fun r hr => by
  rw [cut_map, cut_map, cut_to, show (a : Int) + 1 = ((a + 1 : Nat) : Int) by omega, cut_from]
  unfold lessB
  rw [hr]
  simp
theorem enum_rows (B : List (List Pd)) : enumD (B.map rowD) = (List.range B.length).map fun (a : Nat) => PyData.tuple [.int (a : Nat), rowD (B.getD a [])] := by
  unfold enumD
  refine List.ext_getElem? fun i => ?_
  rw [List.getElem?_map, List.getElem?_map, List.getElem?_zipIdx, List.getElem?_map]
  by_cases h : i < B.length
  · rw [List.getElem?_eq_getElem h, List.getElem?_range h]
    simp [h]
  · rw [List.getElem?_eq_none (by omega), List.getElem?_eq_none (by simp; omega)]
    rfl
theorem app_D {acc : List D} {x : D} (hl : acc.length < 16000000) {f g : FE} {env : Env} (hf : f env (stL μ acc) = .ok (.l μ.length) (stL μ acc)) (hg : g env (stL μ acc) = .ok (.d x) (stL μ acc)) : fApp f g env (stL μ acc) = .ok (.d .none) (stL μ (acc ++ [x])) := by
  unfold fApp
  rw [hf, Rs.bind_ok]
  simp only [stL_at]
  rw [hg, Rs.bind_ok]
  simp only [stL_at]
  rw [if_pos (by show _ < 16000000; rw [List.length_map]; exact hl), stL_set]
theorem need_inner {B : List (List Pd)} (h : BOk B) {a : Nat} (ha : a < B.length) (acc : List D) (hacc : acc.length ≤ 1000) (x4 x5 : Option Wv) : ∃ y4 y5, forF (gVar 4) L_needless_1 (rangeD 0 (B.getD a []).length) [some (.d (boardD B)), some (.l μ.length), some (.d (.int (a : Nat))), some (.d (rowD (B.getD a []))), x4, x5] (stL μ acc) = .ok (.nx [some (.d (boardD B)), some (.l μ.length), some (.d (.int (a : Nat))), some (.d (rowD (B.getD a []))), y4, y5]) (stL μ (acc ++ needL B a)) := by
  have hm : B.getD a [] ∈ B := by
    have e : B.getD a [] = B[a] := by simp [ha]
    rw [e]
    exact List.getElem_mem ha
  have hlen := need_len B a
  have hr6 := h.rl _ hm
  have h3 := h.l3
  rw [rangeD_eq]
  obtain ⟨env', e, y4, y5, rfl⟩ := coll (g := gVar 4) (b := L_needless_1) (toD := fun i : Nat => PyData.int (i : Nat)) (ψ := fun p => if isNoneD (partingD B (lessB B a p)) = true then [PyData.tuple [.int (a : Nat), .int (p : Nat)]] else []) (μ := μ) (E := fun env => ∃ y4 y5, env = [some (.d (boardD B)), some (.l μ.length), some (.d (.int (a : Nat))), some (.d (rowD (B.getD a []))), y4, y5]) 2000 (List.range (B.getD a []).length) acc [some (.d (boardD B)), some (.l μ.length), some (.d (.int (a : Nat))), some (.d (rowD (B.getD a []))), x4, x5] ⟨_, _, rfl⟩ (show acc.length + (needL B a).length ≤ 2000 by omega) (by
    rintro p hp acc env ⟨y4, y5, rfl⟩ hacc
    have el := less_ok (μ := stL μ acc) (B.getD a []) p (by omega)
    have ep := parting_ok (μ := stL μ acc) h (lessB_ok h ha p)
    have eb := lessB_add B a p (by omega) _ rfl
    generalize B.getD a [] = r at *
    have q1 : (cut (B.map rowD) none (some (a : Int))).length + 1 ≤ 16000000 := by rw [cut_map, List.length_map, cut_to, List.length_take]; omega
    have q2 : (cut (B.map rowD) none (some (a : Int))).length + 1 + (cut (B.map rowD) (some ((a : Int) + 1)) none).length ≤ 16000000 := by
      rw [show (a : Int) + 1 = ((a + 1 : Nat) : Int) by omega, cut_map, List.length_map, cut_to, List.length_take, cut_from, List.length_drop, List.length_map]
      omega
    have e0 : (sAsg (fOp addW (fOp addW (fSl (fVar 0) (fO0) (fO1 (fVar 2))) (fTup (fCons (fCall (callD 2 g_less_at) (fCons (fVar 3) (fCons (fVar 4) (fNil)))) (fNil)))) (fSl (fVar 0) (fO1 (fOp addW (fVar 2) (fC (.int 1)))) (fO0))) (gVar 5)) [some (.d (boardD B)), some (.l μ.length), some (.d (.int (a : Nat))), some (.d (rowD r)), some (.d (.int (p : Nat))), y5] (stL μ acc) = .ok (.nx [some (.d (boardD B)), some (.l μ.length), some (.d (.int (a : Nat))), some (.d (rowD r)), some (.d (.int (p : Nat))), some (.d (boardD (lessB B a p)))]) (stL μ acc) := by
      have eb2 : boardD (lessB B a p) = .tuple ((cut (B.map rowD) none (some (a : Int)) ++ [rowD (lessR r p)]) ++ cut (B.map rowD) (some ((a : Int) + 1)) none) := by rw [eb]; rfl
      rw [eb2]
      simp -implicitDefEqProofs [boardD, el, o_addT, LIM, q1, q2]
    refine ⟨[some (.d (boardD B)), some (.l μ.length), some (.d (.int (a : Nat))), some (.d (rowD r)), some (.d (.int (p : Nat))), y5], [some (.d (boardD B)), some (.l μ.length), some (.d (.int (a : Nat))), some (.d (rowD r)), some (.d (.int (p : Nat))), some (.d (boardD (lessB B a p)))], rfl, ?_, _, _, rfl⟩
    refine (sc_nx e0).trans ?_
    cases hq : isNoneD (partingD B (lessB B a p)) with
    | true =>
      have ea := app_D (μ := μ) (acc := acc) (x := .tuple [.int (a : Nat), .int (p : Nat)]) (by omega) (f := fVar 1) (g := fTup (fCons (fVar 2) (fCons (fVar 4) (fNil)))) (env := [some (.d (boardD B)), some (.l μ.length), some (.d (.int (a : Nat))), some (.d (rowD r)), some (.d (.int (p : Nat))), some (.d (boardD (lessB B a p)))]) rfl (by simp -implicitDefEqProofs)
      simp -implicitDefEqProofs [ep, hq, ea]
    | false => simp -implicitDefEqProofs [ep, hq])
  exact ⟨y4, y5, e⟩
theorem need_ok {B : List (List Pd)} (h : BOk B) : g_needless [.d (boardD B)] μ = .ok (.d (.list ((List.range B.length).flatMap (needL B)))) μ := by
  have h3 := h.l3
  have total : ((List.range B.length).flatMap (needL B)).length ≤ 6 * B.length := by
    have : ∀ k, k ≤ B.length → ((List.range k).flatMap (needL B)).length ≤ 6 * k := fun k => by
      induction k with
      | zero => intro _; simp
      | succ k ih =>
        intro hk
        rw [List.range_succ, List.flatMap_append, List.length_append]
        have := ih (by omega)
        have h1 := need_len B k
        have h2 : (B.getD k []).length ≤ 6 := by
          have e : B.getD k [] = B[k] := by simp [show k < B.length by omega]
          rw [e]
          exact h.rl _ (List.getElem_mem _)
        simp only [List.flatMap_cons, List.flatMap_nil, List.append_nil]
        omega
    exact this _ (Nat.le_refl _)
  obtain ⟨env', e, y2, y3, y4, y5, rfl⟩ := coll (g := gTupF 2 (gsCons (gVar 2) (gsCons (gVar 3) (gsNil)))) (b := L_needless_2) (toD := fun (a : Nat) => PyData.tuple [.int (a : Nat), rowD (B.getD a [])]) (ψ := needL B) (μ := μ) (E := fun env => ∃ y2 y3 y4 y5, env = [some (.d (boardD B)), some (.l μ.length), y2, y3, y4, y5]) 500 (List.range B.length) [] [some (.d (boardD B)), some (.l μ.length), none, none, none, none] ⟨_, _, _, _, rfl⟩ (by simp only [List.length_nil]; omega) (by
    rintro a ha acc env ⟨y2, y3, y4, y5, rfl⟩ hacc
    have ha := List.mem_range.mp ha
    obtain ⟨z4, z5, e⟩ := need_inner (μ := μ) h ha acc (by omega) y4 y5
    refine ⟨[some (.d (boardD B)), some (.l μ.length), some (.d (.int (a : Nat))), some (.d (rowD (B.getD a []))), y4, y5], _, by simp -implicitDefEqProofs, ?_, some (.d (.int (a : Nat))), some (.d (rowD (B.getD a []))), z4, z5, rfl⟩
    have hr : (B.getD a []).length ≤ 1000000 := by
      have e : B.getD a [] = B[a] := by simp [ha]
      rw [e]
      have := h.rl _ (List.getElem_mem ha)
      omega
    generalize B.getD a [] = r at *
    simp -implicitDefEqProofs [len_row, rg_k hr]
    exact e)
  rw [List.nil_append, ← enum_rows] at e
  have hl := stL_D μ ((List.range B.length).flatMap (needL B))
  unfold g_needless
  refine run_app (ν := [Ob.dead]) ?_
  unfold B_needless
  have nb := need_board_ok (μ := μ) h.ok h.rl h.l1 h.l3
  have e0 : fLstN fNil [some (.d (boardD B)), none, none, none, none, none] μ = .ok (.l μ.length) (stL μ []) := rfl
  have ei : itEnT (fVar 0) [some (.d (boardD B)), some (.l μ.length), none, none, none, none] (stL μ []) = .ok (enumD (B.map rowD)) (stL μ []) := rfl
  unfold lstD at hl
  rw [stL_at] at hl
  refine (sc_nx (env1 := [some (.d (boardD B)), none, none, none, none, none]) (μ1 := μ) (by simp -implicitDefEqProofs [startE, nb])).trans ?_
  refine (sc_nx (env1 := [some (.d (boardD B)), some (.l μ.length), none, none, none, none]) (μ1 := stL μ []) (by rw [e_sAsg, e0]; rfl)).trans ?_
  refine (sc_nx (env1 := [some (.d (boardD B)), some (.l μ.length), y2, y3, y4, y5]) (by rw [e_sFor, ei, Rs.bind_ok]; exact e)).trans ?_
  generalize (List.range B.length).flatMap (needL B) = L at hl e
  have hset : (stL μ L).set μ.length .dead = μ ++ [Ob.dead] := by unfold stL; simp
  simp -implicitDefEqProofs [frz, stL_at, hl, hset]
def DueIs (m : Nat) (w : Wv) (ds : List D) : Prop := (w = .l m ∧ ds = []) ∨ w = .d (.list ds)
theorem due_add {m : Nat} {w : Wv} {ds ys : List D} (h : DueIs m w ds) (h0 : lstD μ m = some []) (hl : ds.length + ys.length ≤ 16000000) : addLW w (.d (.list ys)) μ = .ok (.d (.list (ds ++ ys))) μ := by
  rcases h with ⟨rfl, rfl⟩ | rfl
  · show (match lstD μ m with | some ds => if ds.length + ys.length ≤ LIM then Rs.ok (Wv.d (.list (ds ++ ys))) μ else Rs.no | none => Rs.no) = _
    rw [h0]
    simp only
    rw [if_pos (by simpa using hl)]
  · show addW (.d (.list ds)) (.d (.list ys)) μ = _
    rw [o_addL, if_pos hl]
theorem due_ne {m n : Nat} {w : Wv} {ds : List D} (h : DueIs m w ds) (h0 : lstD μ m = some []) (hs : Shp n (.list ds)) (hn : n ≤ 64) : neLW (.d (.list ds)) w μ = .ok (.d (.bool false)) μ := by
  rcases h with ⟨rfl, rfl⟩ | rfl
  · show (match lstD μ m with | some es => if SeqAt.shaped (.list []) = true ∧ SeqAt.shaped (.list es) = true then Rs.ok (Wv.d (.bool (!PyData.eqv (.list []) (.list es)))) μ else Rs.no | none => Rs.no) = _
    rw [h0]
    rfl
  · exact ne_same hs hn
theorem lst_ne {m n : Nat} {ds : List D} (h0 : lstD μ m = some ds) (hs : Shp n (.list ds)) (hn : n ≤ 64) : neLW (.d (.list ds)) (.l m) μ = .ok (.d (.bool false)) μ := by
  show (match lstD μ m with | some es => if SeqAt.shaped (.list ds) = true ∧ SeqAt.shaped (.list es) = true then Rs.ok (Wv.d (.bool (!PyData.eqv (.list ds) (.list es)))) μ else Rs.no | none => Rs.no) = _
  rw [h0]
  simp only
  rw [if_pos ⟨hs.shaped hn, hs.shaped hn⟩, eqv_refl _ hs.1]
  rfl
theorem swap_rev {r : List Pd} {i : Nat} (h : i + 1 < r.length) : r.take i ++ ((r.drop i).take 2).reverse ++ r.drop (i + 2) = swapAt r i := by
  unfold swapAt
  have e1 : r.getD (i + 1) .turn = r[i + 1] := by simp [h]
  have e2 : r.getD i .turn = r[i] := by simp [show i < r.length by omega]
  rw [e1, e2, List.drop_eq_getElem_cons (show i < r.length by omega), List.drop_eq_getElem_cons h]
  rfl
theorem mul_once (z : Int) (b : Bool) : mulW (.d (.list [.int z])) (.d (.int (if b then 1 else 0))) μ = .ok (.d (.list (if b = true then [.int z] else []))) μ := by
  cases b <;> rfl
theorem bg_app {n : Nat} {ν l : Sto} (h : Bg n ν) : Bg n (ν ++ l) := by
  obtain ⟨x, y, h, k⟩ := h
  exact ⟨x, y, by rw [List.getElem?_append_left (List.getElem?_eq_some_iff.mp h).1]; exact h, k⟩
theorem phase1 {S K B : Option Wv} {r : List Pd} (hr : rowOk r) (hl : r.length ≤ 6) {x3 x6 x7 x8 x9 : Option Wv} : ∃ y3 w y6, DueIs μ.length w ((exchL r).map PyData.int) ∧ forF (gVar 3) L_law_4_1 (rangeD 0 (r.length - 1)) [S, K, B, x3, some (.d (rowD r)), some (.l μ.length), x6, x7, x8, x9] (stL μ []) = .ok (.nx [S, K, B, y3, some (.d (rowD r)), some w, y6, x7, x8, x9]) (stL μ []) := by
  obtain ⟨env', μ', e, ⟨y3, w, y6, rfl, hw⟩, rfl⟩ := for_nat (g := gVar 3) (b := L_law_4_1) (E := fun i env μ' => (∃ y3 w y6, env = [S, K, B, y3, some (.d (rowD r)), some w, y6, x7, x8, x9] ∧ DueIs μ.length w (((List.range i).filter fun i => isNoneD (partingD [r] [swapAt r i])).map fun (i : Nat) => PyData.int (i : Int))) ∧ μ' = stL μ []) (rangeD 0 (r.length - 1)) 0 [S, K, B, x3, some (.d (rowD r)), some (.l μ.length), x6, x7, x8, x9] (stL μ []) ⟨⟨_, _, _, rfl, .inl ⟨rfl, rfl⟩⟩, rfl⟩ (by
    rintro i hi env μ' ⟨⟨y3, w, y6, rfl, hw⟩, rfl⟩
    rw [rangeD_length] at hi
    rw [Nat.zero_add] at hw ⊢
    have hi1 : i + 1 < r.length := by omega
    have ei : (rangeD 0 (r.length - 1))[i]'(by rw [rangeD_length]; exact hi) = .int (i : Int) := by simp [rangeD]
    have sw := swap_ok hr hi1
    generalize hacc : ((List.range i).filter fun i => isNoneD (partingD [r] [swapAt r i])).map (fun (i : Nat) => PyData.int (i : Int)) = acc at hw
    have hal : acc.length ≤ i := by
      rw [← hacc, List.length_map]
      exact Nat.le_trans (List.length_filter_le _ _) (by simp)
    have es := softest_ok (μ := stL μ []) (bok_row hr hl) (bok_row sw.1 (by rw [sw.2]; exact hl))
    have hb1 : boardD [r] = .tuple [rowD r] := rfl
    have hb2 : boardD [swapAt r i] = .tuple [rowD (swapAt r i)] := rfl
    rw [hb1, hb2] at es
    have hn := soft_none [r] [swapAt r i]
    have ca2 : cut r (some ((i : Int) + 2)) none = r.drop (i + 2) := by rw [show (i : Int) + 2 = ((i + 2 : Nat) : Int) by omega]; exact cut_from r (i + 2)
    have ca3 : cut r (some (i : Int)) (some ((i : Int) + 2)) = (r.drop i).take 2 := by rw [show (i : Int) + 2 = ((i + 2 : Nat) : Int) by omega, cut_mid, show i + 2 - i = 2 by omega]
    have q1 : min i r.length + min 2 (r.length - i) ≤ 16000000 := by omega
    have q2 : min i r.length + min 2 (r.length - i) + (r.length - (i + 2)) ≤ 16000000 := by omega
    have e0 : (sAsg (fOp addW (fOp addW (fSl (fVar 4) (fO0) (fO1 (fVar 3))) (f1 revW (fSl (fVar 4) (fO1 (fVar 3)) (fO1 (fOp addW (fVar 3) (fC (.int 2))))))) (fSl (fVar 4) (fO1 (fOp addW (fVar 3) (fC (.int 2)))) (fO0))) (gVar 6)) [S, K, B, some (.d (.int (i : Nat))), some (.d (rowD r)), some w, y6, x7, x8, x9] (stL μ []) = .ok (.nx [S, K, B, some (.d (.int (i : Nat))), some (.d (rowD r)), some w, some (.d (rowD (swapAt r i))), x7, x8, x9]) (stL μ []) := by
      rw [← swap_rev hi1]
      simp -implicitDefEqProofs [rowD, ca2, ca3, cut_map, cut_to, o_addT, LIM, q1, q2]
    have ea := due_add (μ := stL μ []) (ys := if isNoneD (partingD [r] [swapAt r i]) = true then [.int (i : Int)] else []) hw (stL_D μ []) (by split <;> simp <;> omega)
    have em := mul_once (μ := stL μ []) (i : Int) (isNoneD (partingD [r] [swapAt r i]))
    refine ⟨[S, K, B, some (.d (.int (i : Nat))), some (.d (rowD r)), some w, y6, x7, x8, x9], _, [S, K, B, some (.d (.int (i : Nat))), some (.d (rowD r)), some (.d (.list (acc ++ if isNoneD (partingD [r] [swapAt r i]) = true then [.int (i : Int)] else []))), some (.d (rowD (swapAt r i))), x7, x8, x9], stL μ [], by rw [ei]; rfl, ?_, ⟨_, _, _, rfl, .inr ?_⟩, rfl⟩
    · refine (sc_nx e0).trans ?_
      simp -implicitDefEqProofs [es, hn, em, ea]
    · rw [List.range_succ, List.filter_append, List.map_append, hacc]
      cases hq : isNoneD (partingD [r] [swapAt r i]) <;> simp [hq])
  rw [Nat.zero_add, rangeD_length] at hw
  refine ⟨y3, w, y6, ?_, e⟩
  have ee : (((List.range (r.length - 1)).filter fun i => isNoneD (partingD [r] [swapAt r i])).map fun (i : Nat) => PyData.int (i : Int)) = (exchL r).map PyData.int := by
    unfold exchL
    rw [List.map_map]
    rfl
  rw [ee] at hw
  exact hw
theorem two_inner {S K B4 row x6 : Option Wv} {B : List (List Pd)} (h : BOk B) {a : Nat} (ha : a < B.length) (acc : List D) (hacc : acc.length ≤ 1000) (x8 x9 : Option Wv) : ∃ y8 y9, forF (gVar 8) L_law_4_2 (rangeD 0 (B.getD a []).length) [S, K, B4, some (.d (.int (a : Nat))), row, some (.l μ.length), x6, some (.d (boardD B)), x8, x9] (stL μ acc) = .ok (.nx [S, K, B4, some (.d (.int (a : Nat))), row, some (.l μ.length), x6, some (.d (boardD B)), y8, y9]) (stL μ (acc ++ needL B a)) := by
  have e : B.getD a [] = B[a] := by simp [ha]
  have hm : B.getD a [] ∈ B := by
    rw [e]
    exact List.getElem_mem ha
  have hlen := need_len B a
  have hr6 := h.rl _ hm
  have h3 := h.l3
  rw [rangeD_eq]
  obtain ⟨env', e, y8, y9, rfl⟩ := coll (g := gVar 8) (b := L_law_4_2) (toD := fun i : Nat => PyData.int (i : Nat)) (ψ := fun p => if isNoneD (partingD B (lessB B a p)) = true then [PyData.tuple [.int (a : Nat), .int (p : Nat)]] else []) (μ := μ) (E := fun env => ∃ y8 y9, env = [S, K, B4, some (.d (.int (a : Nat))), row, some (.l μ.length), x6, some (.d (boardD B)), y8, y9]) 2000 (List.range (B.getD a []).length) acc [S, K, B4, some (.d (.int (a : Nat))), row, some (.l μ.length), x6, some (.d (boardD B)), x8, x9] ⟨_, _, rfl⟩ (show acc.length + (needL B a).length ≤ 2000 by omega) (by
    rintro p hp acc env ⟨y8, y9, rfl⟩ hacc
    have ix : ixW (.d (boardD B)) (.d (.int (a : Nat))) (stL μ acc) = .ok (.d (rowD (B.getD a []))) (stL μ acc) := by
      rw [e]
      exact ix_board ha
    have es := softest_ok (μ := stL μ acc) h (lessB_ok h ha p)
    have hn := soft_none B (lessB B a p)
    have eb := lessB_add B a p (by omega) _ rfl
    generalize B.getD a [] = r at *
    have ca1 : cut r (some ((p : Int) + 1)) none = r.drop (p + 1) := by rw [show (p : Int) + 1 = ((p + 1 : Nat) : Int) by omega]; exact cut_from r (p + 1)
    have q0 : min p r.length + (r.length - (p + 1)) ≤ 16000000 := by omega
    have e0 : (sAsg (fOp addW (fSl (fOp ixW (fVar 7) (fVar 3)) (fO0) (fO1 (fVar 8))) (fSl (fOp ixW (fVar 7) (fVar 3)) (fO1 (fOp addW (fVar 8) (fC (.int 1)))) (fO0))) (gVar 9)) [S, K, B4, some (.d (.int (a : Nat))), row, some (.l μ.length), x6, some (.d (boardD B)), some (.d (.int (p : Nat))), y9] (stL μ acc) = .ok (.nx [S, K, B4, some (.d (.int (a : Nat))), row, some (.l μ.length), x6, some (.d (boardD B)), some (.d (.int (p : Nat))), some (.d (rowD (lessR r p)))]) (stL μ acc) := by
      simp -implicitDefEqProofs [ix, rowD, lessR, ca1, cut_map, cut_to, o_addT, LIM, q0]
    have q1 : (cut (B.map rowD) none (some (a : Int))).length + 1 ≤ 16000000 := by rw [cut_map, List.length_map, cut_to, List.length_take]; omega
    have q2 : (cut (B.map rowD) none (some (a : Int))).length + 1 + (cut (B.map rowD) (some ((a : Int) + 1)) none).length ≤ 16000000 := by
      rw [show (a : Int) + 1 = ((a + 1 : Nat) : Int) by omega, cut_map, List.length_map, cut_to, List.length_take, cut_from, List.length_drop, List.length_map]
      omega
    have eo : (fOp addW (fOp addW (fSl (fVar 7) (fO0) (fO1 (fVar 3))) (fTup (fCons (fVar 9) (fNil)))) (fSl (fVar 7) (fO1 (fOp addW (fVar 3) (fC (.int 1)))) (fO0))) [S, K, B4, some (.d (.int (a : Nat))), row, some (.l μ.length), x6, some (.d (boardD B)), some (.d (.int (p : Nat))), some (.d (rowD (lessR r p)))] (stL μ acc) = .ok (.d (boardD (lessB B a p))) (stL μ acc) := by
      have eb2 : boardD (lessB B a p) = .tuple ((cut (B.map rowD) none (some (a : Int)) ++ [rowD (lessR r p)]) ++ cut (B.map rowD) (some ((a : Int) + 1)) none) := by rw [eb]; rfl
      rw [eb2]
      simp -implicitDefEqProofs [boardD, o_addT, LIM, q1, q2]
    refine ⟨[S, K, B4, some (.d (.int (a : Nat))), row, some (.l μ.length), x6, some (.d (boardD B)), some (.d (.int (p : Nat))), y9], [S, K, B4, some (.d (.int (a : Nat))), row, some (.l μ.length), x6, some (.d (boardD B)), some (.d (.int (p : Nat))), some (.d (rowD (lessR r p)))], rfl, ?_, _, _, rfl⟩
    refine (sc_nx e0).trans ?_
    rw [e_sIf, e_B, e_op, e_call, e_cons, e_var]
    show (((((((Rs.ok (Wv.d (boardD B)) (stL μ acc)).bind fun w μ1 => ((fCons _ fNil) _ μ1).bind fun ws μ2 => Rs.ok (w :: ws) μ2).bind _).bind _).bind asB).bind _)) = _
    rw [Rs.bind_ok, e_cons, eo]
    simp only [Rs.bind_ok, e_nil]
    cases hq : isNoneD (partingD B (lessB B a p)) with
    | true =>
      have ea := app_D (μ := μ) (acc := acc) (x := .tuple [.int (a : Nat), .int (p : Nat)]) (by omega) (f := fVar 5) (g := fTup (fCons (fVar 3) (fCons (fVar 8) (fNil)))) (env := [S, K, B4, some (.d (.int (a : Nat))), row, some (.l μ.length), x6, some (.d (boardD B)), some (.d (.int (p : Nat))), some (.d (rowD (lessR r p)))]) rfl (by simp -implicitDefEqProofs)
      rw [hq] at hn
      simp -implicitDefEqProofs [es, hn, ea]
    | false =>
      rw [hq] at hn
      simp -implicitDefEqProofs [es, hn])
  exact ⟨y8, y9, e⟩
theorem need_total {B : List (List Pd)} (h : BOk B) : ((List.range B.length).flatMap (needL B)).length ≤ 6 * B.length := by
  have : ∀ k, k ≤ B.length → ((List.range k).flatMap (needL B)).length ≤ 6 * k := fun k => by
    induction k with
    | zero => intro _; simp
    | succ k ih =>
      intro hk
      rw [List.range_succ, List.flatMap_append, List.length_append]
      have := ih (by omega)
      have h1 := need_len B k
      have h2 : (B.getD k []).length ≤ 6 := by
        have e : B.getD k [] = B[k] := by simp [show k < B.length by omega]
        rw [e]
        exact h.rl _ (List.getElem_mem _)
      simp only [List.flatMap_cons, List.flatMap_nil, List.append_nil]
      omega
  exact this _ (Nat.le_refl _)
theorem phase2 {S K B4 row x6 : Option Wv} {B : List (List Pd)} (h : BOk B) {x3 x8 x9 : Option Wv} : ∃ y3 y8 y9, forF (gVar 3) L_law_4_3 (rangeD 0 B.length) [S, K, B4, x3, row, some (.l μ.length), x6, some (.d (boardD B)), x8, x9] (stL μ []) = .ok (.nx [S, K, B4, y3, row, some (.l μ.length), x6, some (.d (boardD B)), y8, y9]) (stL μ ((List.range B.length).flatMap (needL B))) := by
  have h3 := h.l3
  have total := need_total h
  rw [rangeD_eq]
  obtain ⟨env', e, y3, y8, y9, rfl⟩ := coll (g := gVar 3) (b := L_law_4_3) (toD := fun i : Nat => PyData.int (i : Nat)) (ψ := needL B) (μ := μ) (E := fun env => ∃ y3 y8 y9, env = [S, K, B4, y3, row, some (.l μ.length), x6, some (.d (boardD B)), y8, y9]) 500 (List.range B.length) [] [S, K, B4, x3, row, some (.l μ.length), x6, some (.d (boardD B)), x8, x9] ⟨_, _, _, rfl⟩ (by simp only [List.length_nil]; omega) (by
    rintro a ha acc env ⟨y3, y8, y9, rfl⟩ hacc
    have ha := List.mem_range.mp ha
    obtain ⟨z8, z9, e⟩ := two_inner (μ := μ) (S := S) (K := K) (B4 := B4) (row := row) (x6 := x6) h ha acc (by omega) y8 y9
    have eq : B.getD a [] = B[a] := by simp [ha]
    have ix : ixW (.d (boardD B)) (.d (.int (a : Nat))) (stL μ acc) = .ok (.d (rowD (B.getD a []))) (stL μ acc) := by
      rw [eq]
      exact ix_board ha
    have hr : (B.getD a []).length ≤ 1000000 := by
      rw [eq]
      have := h.rl _ (List.getElem_mem ha)
      omega
    refine ⟨[S, K, B4, some (.d (.int (a : Nat))), row, some (.l μ.length), x6, some (.d (boardD B)), y8, y9], _, rfl, ?_, some (.d (.int (a : Nat))), z8, z9, rfl⟩
    generalize B.getD a [] = r at *
    simp -implicitDefEqProofs [ix, len_row, rg_k hr]
    exact e)
  rw [List.nil_append] at e
  exact ⟨y3, y8, y9, e⟩
theorem shp_need (B : List (List Pd)) : Shp 2 (.list ((List.range B.length).flatMap (needL B))) := Shp.lst fun d hd => by
  obtain ⟨a, _, hd⟩ := List.mem_flatMap.mp hd
  unfold needL at hd
  obtain ⟨p, _, hd⟩ := List.mem_flatMap.mp hd
  split at hd
  · rw [List.mem_singleton.mp hd]
    exact Shp.tup fun e he => by
      simp at he
      rcases he with rfl | rfl <;> exact .int _ 0
  · cases hd
end
theorem body04 (ns : List Int) (k : Nat) (hk : k < 100) (rest : Env) (μ : Sto) (hr : rest.length = 8) : ∃ rest' μ', L_law_4_4 (some (.s ns) :: some (.d (.int (k : Nat))) :: rest) μ = .ok (.nx (some (.s ns) :: some (.d (.int (k : Nat))) :: rest')) μ' ∧ rest'.length = 8 := by
  obtain ⟨x2, x3, x4, x5, x6, x7, x8, x9, rfl⟩ := len8 hr
  obtain ⟨ν, eb, B0⟩ := turn_bag ns k hk μ
  generalize μ.length = n at eb B0
  obtain ⟨r, μ1, e1, rok, rl, _, s1⟩ := pedals_ok B0 6 (by decide) true
  obtain ⟨y3, w, y6, hw, e2⟩ := phase1 (μ := μ1) (S := some (.s ns)) (K := some (.d (.int (k : Nat)))) (B := some (.l n)) rok rl (x3 := x3) (x6 := x6) (x7 := x7) (x8 := x8) (x9 := x9)
  have ex := exch_ok (μ := stL μ1 []) rok rl
  have ne1 := due_ne (μ := stL μ1 []) hw (stL_D μ1 []) (shp_ints _) (by decide)
  have B1 : Bg n (stL μ1 []) := bg_app (s1.bg B0)
  obtain ⟨ra, μ2, e3, aok, al, _, s2⟩ := pedals_ok B1 4 (by decide) true
  obtain ⟨rb, μ3, e4, bok, bl, _, s3⟩ := pedals_ok (s2.bg B1) 4 (by decide) true
  have s23 := s2.trans s3
  obtain ⟨t, μ4, e5, t0, t1, s4⟩ := take_ok (s23.bg B1) (m := 2) (by decide) (by decide)
  obtain ⟨tn, rfl⟩ := Int.eq_ofNat_of_zero_le t0
  have hB : BOk ([ra, rb].take (1 + tn)) := by
    have : tn = 0 ∨ tn = 1 := by omega
    rcases this with rfl | rfl
    · exact bok_row aok (by omega)
    · refine ⟨fun s hs => ?_, fun s hs => ?_, by simp, by simp⟩
      · simp at hs
        rcases hs with rfl | rfl
        · exact aok
        · exact bok
      · simp at hs
        rcases hs with rfl | rfl <;> omega
  have ecut : cut [rowD ra, rowD rb] none (some (1 + (tn : Int))) = ([ra, rb].take (1 + tn)).map rowD := by
    rw [show (1 : Int) + (tn : Int) = ((1 + tn : Nat) : Int) by omega, cut_to, List.map_take]
    rfl
  generalize hBd : [ra, rb].take (1 + tn) = Bd at hB ecut
  obtain ⟨z3, z8, z9, e6⟩ := phase2 (μ := μ4) (S := some (.s ns)) (K := some (.d (.int (k : Nat)))) (B4 := some (.l n)) (row := some (.d (rowD r))) (x6 := y6) hB (x3 := y3) (x8 := x8) (x9 := x9)
  have en := need_ok (μ := stL μ4 ((List.range Bd.length).flatMap (needL Bd))) hB
  have ne2 := lst_ne (μ := stL μ4 ((List.range Bd.length).flatMap (needL Bd))) (stL_D μ4 _) (shp_need Bd) (by decide)
  have h3 := hB.l3
  have rr2 := rg_k (μ := stL μ4 []) (show Bd.length ≤ 1000000 by omega)
  have hrg : rgK (.d (.int ((r.length : Int) - 1))) (stL μ1 []) = .ok (rangeD 0 (r.length - 1)) (stL μ1 []) := by
    have : RB = 1000000000000 := rfl
    show (if -RB ≤ (r.length : Int) - 1 ∧ (r.length : Int) - 1 ≤ RB then Rs.ok (rangeD 0 ((r.length : Int) - 1).toNat) _ else Rs.no) = _
    rw [if_pos (by omega), show ((r.length : Int) - 1).toNat = r.length - 1 by omega]
  simp at e1 e3 e4
  refine ⟨[some (.l n), z3, some (.d (rowD r)), some (.l μ4.length), y6, some (.d (boardD Bd)), z8, z9], stL μ4 ((List.range Bd.length).flatMap (needL Bd)), ?_, rfl⟩
  unfold L_law_4_4
  refine (sc_nx (env1 := [some (.s ns), some (.d (.int (k : Nat))), some (.l n), x3, x4, x5, x6, x7, x8, x9]) (μ1 := ν) ?_).trans ?_
  · simp -implicitDefEqProofs [eb]
  refine (sc_nx (env1 := [some (.s ns), some (.d (.int (k : Nat))), some (.l n), x3, some (.d (rowD r)), some (.l μ1.length), x6, x7, x8, x9]) (μ1 := stL μ1 []) ?_).trans ?_
  · simp -implicitDefEqProofs [e1, LIM, stL]
  refine (sc_nx (env1 := [some (.s ns), some (.d (.int (k : Nat))), some (.l n), y3, some (.d (rowD r)), some w, y6, x7, x8, x9]) (μ1 := stL μ1 []) ?_).trans ?_
  · simp -implicitDefEqProofs [len_row, hrg]
    exact e2
  refine (sc_nx (env1 := [some (.s ns), some (.d (.int (k : Nat))), some (.l n), y3, some (.d (rowD r)), some w, y6, x7, x8, x9]) (μ1 := stL μ1 []) ?_).trans ?_
  · simp -implicitDefEqProofs [ex, ne1]
  refine (sc_nx (env1 := [some (.s ns), some (.d (.int (k : Nat))), some (.l n), y3, some (.d (rowD r)), some (.l μ4.length), y6, some (.d (boardD Bd)), x8, x9]) (μ1 := stL μ4 []) ?_).trans ?_
  · have e3' := e3
    simp only [stL, List.map_nil] at e3'
    simp -implicitDefEqProofs [e3', e4, e5, ecut, LIM, stL, boardD]
  refine (sc_nx (env1 := [some (.s ns), some (.d (.int (k : Nat))), some (.l n), z3, some (.d (rowD r)), some (.l μ4.length), y6, some (.d (boardD Bd)), z8, z9]) (μ1 := stL μ4 ((List.range Bd.length).flatMap (needL Bd))) ?_).trans ?_
  · have kl : kLen [.d (boardD Bd)] (stL μ4 []) = .ok (.d (.int Bd.length)) (stL μ4 []) := by
      show kLen [.d (.tuple (Bd.map rowD))] _ = _
      rw [k_len_t, List.length_map]
    simp -implicitDefEqProofs [kl, rr2]
    exact e6
  · simp -implicitDefEqProofs [en, ne2]
theorem law04 (ns : List Int) : ∃ μ, g_law_4 [.s ns] [] = .ok (.d (.bool true)) μ :=
  law_true (m := 8) ns (by decide) fun k rest μ hk hr => body04 ns k hk rest μ hr
end Ped

/-! PedA6: law 06, the mathematics of the greatest and the least -/
namespace Ped
open PySem L2 PyProof.Rows PySem.Spec
/-! ### the least and the greatest of pairs -/
def lexP (p q : Int × Int) : Bool := decide (p.1 < q.1 ∨ (p.1 = q.1 ∧ p.2 < q.2))
theorem lt_pair (p q : Int × Int) : PySem.W.dataLt (pairD p) (pairD q) = lexP p q := PySem.W.dataLt_ii p.1 p.2 q.1 q.2
def mnP (x : Int × Int) (xs : List (Int × Int)) : Int × Int := xs.foldl (fun a y => if lexP y a = true then y else a) x
def mxP (x : Int × Int) (xs : List (Int × Int)) : Int × Int := xs.foldl (fun a y => if lexP a y = true then y else a) x
theorem minD_pairs : ∀ (xs : List (Int × Int)) (x : Int × Int), PySem.W.minD (pairD x) (xs.map pairD) = pairD (mnP x xs)
  | [], x => rfl
  | y :: r, x => by
    show PySem.W.minD (if PySem.W.dataLt (pairD y) (pairD x) then pairD y else pairD x) (r.map pairD) = pairD (mnP (if lexP y x = true then y else x) r)
    rw [lt_pair, ← minD_pairs r]
    by_cases h : lexP y x = true <;> simp [h]
theorem maxD_pairs : ∀ (xs : List (Int × Int)) (x : Int × Int), PySem.W.maxD (pairD x) (xs.map pairD) = pairD (mxP x xs)
  | [], x => rfl
  | y :: r, x => by
    show PySem.W.maxD (if PySem.W.dataLt (pairD x) (pairD y) then pairD y else pairD x) (r.map pairD) = pairD (mxP (if lexP x y = true then y else x) r)
    rw [lt_pair, ← maxD_pairs r]
    by_cases h : lexP x y = true <;> simp [h]
theorem mnP_is : ∀ (xs : List (Int × Int)) (x : Int × Int), mnP x xs ∈ x :: xs ∧ (mnP x xs).1 ≤ x.1 ∧ ∀ y ∈ xs, (mnP x xs).1 ≤ y.1
  | [], x => by simp [mnP]
  | y :: r, x => by
    obtain ⟨h1, h2, h3⟩ := mnP_is r (if lexP y x = true then y else x)
    have e : mnP x (y :: r) = mnP (if lexP y x = true then y else x) r := rfl
    rw [e]
    by_cases h : lexP y x = true
    · rw [if_pos h] at h1 h2 h3 ⊢
      have hl : y.1 ≤ x.1 := by have := of_decide_eq_true h; omega
      refine ⟨List.mem_cons_of_mem _ h1, by omega, fun z hz => ?_⟩
      rcases List.mem_cons.mp hz with rfl | hz
      · exact h2
      · exact h3 z hz
    · rw [if_neg h] at h1 h2 h3 ⊢
      have hl : x.1 ≤ y.1 := by
        have h' : ¬(y.1 < x.1 ∨ (y.1 = x.1 ∧ y.2 < x.2)) := fun q => h (decide_eq_true q)
        omega
      refine ⟨?_, h2, fun z hz => ?_⟩
      · rcases List.mem_cons.mp h1 with q | q
        · rw [q]; exact List.mem_cons_self
        · exact List.mem_cons_of_mem _ (List.mem_cons_of_mem _ q)
      · rcases List.mem_cons.mp hz with rfl | hz
        · omega
        · exact h3 z hz
theorem mxP_is : ∀ (xs : List (Int × Int)) (x : Int × Int), mxP x xs ∈ x :: xs ∧ x.1 ≤ (mxP x xs).1 ∧ ∀ y ∈ xs, y.1 ≤ (mxP x xs).1
  | [], x => by simp [mxP]
  | y :: r, x => by
    obtain ⟨h1, h2, h3⟩ := mxP_is r (if lexP x y = true then y else x)
    have e : mxP x (y :: r) = mxP (if lexP x y = true then y else x) r := rfl
    rw [e]
    by_cases h : lexP x y = true
    · rw [if_pos h] at h1 h2 h3 ⊢
      have hl : x.1 ≤ y.1 := by have := of_decide_eq_true h; omega
      refine ⟨List.mem_cons_of_mem _ h1, by omega, fun z hz => ?_⟩
      rcases List.mem_cons.mp hz with rfl | hz
      · exact h2
      · exact h3 z hz
    · rw [if_neg h] at h1 h2 h3 ⊢
      have hl : y.1 ≤ x.1 := by
        have h' : ¬(x.1 < y.1 ∨ (x.1 = y.1 ∧ x.2 < y.2)) := fun q => h (decide_eq_true q)
        omega
      refine ⟨?_, h2, fun z hz => ?_⟩
      · rcases List.mem_cons.mp h1 with q | q
        · rw [q]; exact List.mem_cons_self
        · exact List.mem_cons_of_mem _ (List.mem_cons_of_mem _ q)
      · rcases List.mem_cons.mp hz with rfl | hz
        · omega
        · exact h3 z hz
theorem alike_pairs (ps : List (Int × Int)) : PySem.W.AlikeAll (ps.map pairD) := by
  refine ⟨fun x hx y hy => ?_, fun x hx => ?_⟩
  · obtain ⟨p, _, rfl⟩ := List.mem_map.mp hx
    obtain ⟨q, _, rfl⟩ := List.mem_map.mp hy
    simp [pairD, PySem.W.alike, PySem.W.alikeAll]
  · obtain ⟨p, _, rfl⟩ := List.mem_map.mp hx
    intro z; cases z
theorem shp_pair (p : Int × Int) : Shp 1 (pairD p) := Shp.tup fun d hd => by
  simp at hd
  rcases hd with rfl | rfl <;> exact .int _ 0
theorem depth_pairs (ps : List (Int × Int)) : PyData.depthAll (ps.map pairD) ≤ 60 := by
  have h := (shp_pairs ps).2
  have : PyData.depth (.list (ps.map pairD)) = PyData.depthAll (ps.map pairD) + 1 := rfl
  omega
section
variable {μ : Sto}
theorem kmin_pairs (x : Int × Int) (xs : List (Int × Int)) : kBest PySem.W.minD [.d (.list ((x :: xs).map pairD))] μ = .ok (.d (pairD (mnP x xs))) μ := by
  unfold kBest
  simp only [List.map_cons]
  rw [minD_pairs, if_pos ⟨alike_pairs (x :: xs), (shp_pairs (x :: xs)).shaped (by decide), (shp_pair _).shaped (by decide), depth_pairs (x :: xs)⟩]
theorem kmax_pairs (x : Int × Int) (xs : List (Int × Int)) : kBest PySem.W.maxD [.d (.list ((x :: xs).map pairD))] μ = .ok (.d (pairD (mxP x xs))) μ := by
  unfold kBest
  simp only [List.map_cons]
  rw [maxD_pairs, if_pos ⟨alike_pairs (x :: xs), (shp_pairs (x :: xs)).shaped (by decide), (shp_pair _).shaped (by decide), depth_pairs (x :: xs)⟩]
end
/-! ### numbers from -m to m -/
def rng (m : Nat) : List Int := (List.range (2 * m + 1)).map fun (i : Nat) => (i : Int) - m
theorem rng_D (m : Nat) : rangeD (-(m : Int)) (2 * m + 1) = (rng m).map PyData.int := by
  unfold rangeD rng
  rw [List.map_map]
  refine List.map_congr_left fun i _ => ?_
  show PyData.int (-(m : Int) + (i : Int)) = .int ((i : Int) - m)
  congr 1
  omega
theorem rng_len (m : Nat) : (rng m).length = 2 * m + 1 := by simp [rng]
theorem mem_rng {m : Nat} {z : Int} : z ∈ rng m ↔ -(m : Int) ≤ z ∧ z ≤ m := by
  unfold rng
  rw [List.mem_map]
  constructor
  · rintro ⟨i, hi, rfl⟩
    have := List.mem_range.mp hi
    omega
  · intro h
    exact ⟨(z + m).toNat, List.mem_range.mpr (by omega), by omega⟩
theorem rng_cons (m : Nat) : ∃ x xs, rng m = x :: xs := by
  have h := rng_len m
  cases e : rng m with
  | nil => rw [e] at h; simp at h
  | cons x xs => exact ⟨x, xs, rfl⟩
/-! ### the parts of a board -/
def seg (B : List (List Pd)) (L n : Int) : Int := ((B.filter fun r => decide (lateOf r = L)).map fun r => rowShape r n).sum
theorem part_seg (B : List (List Pd)) (L n : Int) : partShape B L n = seg B L n - seg B L 0 := by
  unfold partShape seg
  generalize B.filter (fun r => decide (lateOf r = L)) = C
  induction C with
  | nil => simp
  | cons r C ih => simp only [List.map_cons, List.sum_cons, ih]; omega
theorem sum_zero {α : Type} (xs : List α) : (xs.map fun _ => (0 : Int)).sum = 0 := by
  induction xs with
  | nil => rfl
  | cons x r ih => simp [ih]
theorem sum_add {α : Type} (f g : α → Int) (xs : List α) : (xs.map fun x => f x + g x).sum = (xs.map f).sum + (xs.map g).sum := by
  induction xs with
  | nil => rfl
  | cons x r ih => simp only [List.map_cons, List.sum_cons, ih]; omega
theorem sum_sub {α : Type} (f g : α → Int) (xs : List α) : (xs.map fun x => f x - g x).sum = (xs.map f).sum - (xs.map g).sum := by
  induction xs with
  | nil => rfl
  | cons x r ih => simp only [List.map_cons, List.sum_cons, ih]; omega
theorem sum_one {L : Int} (z : Int) : ∀ {Ls : List Int}, Ls.Nodup → L ∈ Ls → (Ls.map fun M => if L = M then z else 0).sum = z
  | [], _, h => by cases h
  | M :: r, hd, h => by
    rw [List.nodup_cons] at hd
    rw [List.map_cons, List.sum_cons]
    by_cases e : L = M
    · subst e
      have : (r.map fun M => if L = M then z else 0) = r.map fun _ => (0 : Int) := List.map_congr_left fun N hN => if_neg fun (q : L = N) => hd.1 (q ▸ hN)
      rw [this, sum_zero, if_pos rfl]
      omega
    · rw [if_neg e, sum_one z hd.2 (by rcases List.mem_cons.mp h with q | q; exact absurd q e; exact q)]
      omega
/-- the rows, lateness by lateness -/
theorem by_lates (f : List Pd → Int) {Ls : List Int} (hd : Ls.Nodup) : ∀ B : List (List Pd), (∀ r ∈ B, lateOf r ∈ Ls) → (Ls.map fun L => ((B.filter fun r => decide (lateOf r = L)).map f).sum).sum = (B.map f).sum
  | [], _ => by simp [sum_zero]
  | r :: B, h => by
    have ih := by_lates f hd B fun s hs => h s (List.mem_cons_of_mem _ hs)
    have e : (Ls.map fun L => (((r :: B).filter fun r => decide (lateOf r = L)).map f).sum) = Ls.map fun L => (if lateOf r = L then f r else 0) + ((B.filter fun r => decide (lateOf r = L)).map f).sum := List.map_congr_left fun L _ => by
      by_cases q : lateOf r = L
      · simp [List.filter_cons, q]
      · simp [List.filter_cons, q]
    rw [e, sum_add, ih, sum_one (f r) hd (h r List.mem_cons_self), List.map_cons, List.sum_cons]
theorem lates_nd (B : List (List Pd)) : (lates B).Nodup := rise_nodup rise_sset
theorem mem_lates {B : List (List Pd)} {r : List Pd} (h : r ∈ B) : lateOf r ∈ lates B := mem_sset.mpr (List.mem_map_of_mem h)
def loP (B : List (List Pd)) (m : Nat) (L : Int) : Int × Int := match (rng m).map fun n => (seg B L n, n) with
  | [] => (0, 0)
  | x :: xs => mnP x xs
def hiP (B : List (List Pd)) (m : Nat) (L : Int) : Int × Int := match (rng m).map fun n => (seg B L n, n) with
  | [] => (0, 0)
  | x :: xs => mxP x xs
theorem loP_is (B : List (List Pd)) (m : Nat) (L : Int) : (∃ n ∈ rng m, loP B m L = (seg B L n, n)) ∧ ∀ n ∈ rng m, (loP B m L).1 ≤ seg B L n := by
  obtain ⟨x, xs, e⟩ := rng_cons m
  unfold loP
  rw [e, List.map_cons]
  obtain ⟨h1, h2, h3⟩ := mnP_is (xs.map fun n => (seg B L n, n)) (seg B L x, x)
  refine ⟨?_, fun n hn => ?_⟩
  · rw [← List.map_cons (f := fun n => (seg B L n, n))] at h1
    obtain ⟨n, hn, q⟩ := List.mem_map.mp h1
    exact ⟨n, hn, q.symm⟩
  · rcases List.mem_cons.mp hn with rfl | hn
    · exact h2
    · exact h3 _ (List.mem_map_of_mem (f := fun n => (seg B L n, n)) hn)
theorem hiP_is (B : List (List Pd)) (m : Nat) (L : Int) : (∃ n ∈ rng m, hiP B m L = (seg B L n, n)) ∧ ∀ n ∈ rng m, seg B L n ≤ (hiP B m L).1 := by
  obtain ⟨x, xs, e⟩ := rng_cons m
  unfold hiP
  rw [e, List.map_cons]
  obtain ⟨h1, h2, h3⟩ := mxP_is (xs.map fun n => (seg B L n, n)) (seg B L x, x)
  refine ⟨?_, fun n hn => ?_⟩
  · rw [← List.map_cons (f := fun n => (seg B L n, n))] at h1
    obtain ⟨n, hn, q⟩ := List.mem_map.mp h1
    exact ⟨n, hn, q.symm⟩
  · rcases List.mem_cons.mp hn with rfl | hn
    · exact h2
    · exact h3 _ (List.mem_map_of_mem (f := fun n => (seg B L n, n)) hn)
theorem min_part (B : List (List Pd)) (m : Nat) (L : Int) : minL ((rng m).map (partShape B L)) = some ((loP B m L).1 - seg B L 0) := by
  obtain ⟨⟨n, hn, e⟩, h⟩ := loP_is B m L
  cases q : minL ((rng m).map (partShape B L)) with
  | none =>
    obtain ⟨x, xs, ex⟩ := rng_cons m
    rw [ex] at q
    cases q
  | some z =>
    congr 1
    symm
    refine minL_is (ns := (rng m).map (partShape B L)) ?_ (fun y hy => ?_) q
    · rw [e]
      exact List.mem_map.mpr ⟨n, hn, part_seg B L n⟩
    · obtain ⟨k, hk, rfl⟩ := List.mem_map.mp hy
      rw [part_seg]
      have := h k hk
      omega
theorem max_part (B : List (List Pd)) (m : Nat) (L : Int) : maxL ((rng m).map (partShape B L)) = some ((hiP B m L).1 - seg B L 0) := by
  obtain ⟨⟨n, hn, e⟩, h⟩ := hiP_is B m L
  cases q : maxL ((rng m).map (partShape B L)) with
  | none =>
    obtain ⟨x, xs, ex⟩ := rng_cons m
    rw [ex] at q
    cases q
  | some z =>
    congr 1
    symm
    refine maxL_is (ns := (rng m).map (partShape B L)) ?_ (fun y hy => ?_) q
    · rw [e]
      exact List.mem_map.mpr ⟨n, hn, part_seg B L n⟩
    · obtain ⟨k, hk, rfl⟩ := List.mem_map.mp hy
      rw [part_seg]
      have := h k hk
      omega
def loS (B : List (List Pd)) (m : Nat) : Int := ((lates B).map fun L => (loP B m L).1).sum
def hiS (B : List (List Pd)) (m : Nat) : Int := ((lates B).map fun L => (hiP B m L).1).sum
theorem seg0 (B : List (List Pd)) : ((lates B).map fun L => seg B L 0).sum = heardAt B [] 0 := by
  rw [silence_eq]
  exact by_lates (fun r => rowShape r 0) (lates_nd B) B fun r hr => mem_lates hr
theorem lo_sum (B : List (List Pd)) (m : Nat) : heardAt B [] 0 + ((lates B).map fun L => (loP B m L).1 - seg B L 0).sum = loS B m := by
  rw [sum_sub, seg0]
  unfold loS
  omega
theorem hi_sum (B : List (List Pd)) (m : Nat) : heardAt B [] 0 + ((lates B).map fun L => (hiP B m L).1 - seg B L 0).sum = hiS B m := by
  rw [sum_sub, seg0]
  unfold hiS
  omega
end Ped

/-! PedA7: law 06, the walks -/
namespace Ped
open PySem L2 PyProof.Rows PySem.Spec
section
variable {μ : Sto}
theorem need_most_ok {m : Nat} (h : m ≤ 1000) : g_need_most [.d (.int (m : Nat))] μ = .ok (.d .none) μ := by
  unfold g_need_most
  refine run_n (env := [some (.d (.int (m : Nat)))]) ?_
  unfold B_need_most
  have h1 : (0 : Int) ≤ m := by omega
  have h2 : (m : Int) ≤ 1000 := by omega
  simp -implicitDefEqProofs [startE, h1, h2]
theorem rg2_m {m : Nat} (h : m ≤ 1000) : rgK2 (.d (.int (-(m : Int)))) (.d (.int ((m : Int) + 1))) μ = .ok ((rng m).map PyData.int) μ := by
  rw [rg_k2 (by omega) (by omega), show ((m : Int) + 1 - -(m : Int)).toNat = 2 * m + 1 by omega, rng_D]
def rgL2 (w z : Wv) (μ2 : Sto) : Rs Wv := match w, z with
  | .d (.int i), .d (.int j) => if (-1000000 ≤ i ∧ i ≤ 1000000) ∧ -1000000 ≤ j ∧ j ≤ 1000000 then .ok (.d (.list (rangeD i (j - i).toNat))) μ2 else .no
  | _, _ => .no
theorem e_fRg2 {env : Env} {μ : Sto} (f g : FE) : fRg2 f g env μ = (f env μ).bind fun w μ1 => (g env μ1).bind fun z μ2 => rgL2 w z μ2 := by
  unfold fRg2 rgL2
  rfl
theorem rgl2_m {m : Nat} (h : m ≤ 1000) : rgL2 (.d (.int (-(m : Int)))) (.d (.int ((m : Int) + 1))) μ = .ok (.d (.list ((rng m).map PyData.int))) μ := by
  show (if _ then Rs.ok (Wv.d (.list (rangeD (-(m : Int)) ((m : Int) + 1 - -(m : Int)).toNat))) μ else Rs.no) = _
  rw [if_pos (by omega), show ((m : Int) + 1 - -(m : Int)).toNat = 2 * m + 1 by omega, rng_D]
/-! ### the program's loudest -/
theorem loudest_ok {B : List (List Pd)} (h : BOk B) {m : Nat} (hm : m ≤ 1000) : g_loudest [.d (boardD B), .d (.int (m : Nat))] μ = .ok (.d (.int (if absI (hiS B m) > absI (loS B m) then absI (hiS B m) else absI (loS B m)))) μ := by
  have hl : ∀ r ∈ B, r.length ≤ 1000000 := fun r hr => by have := h.rl r hr; omega
  have h3 := h.l3
  have lof : g_loudest_of [.d (boardD B), .d (.int (m : Nat))] μ = .ok (.d (.int (if absI (hiS B m) > absI (loS B m) then absI (hiS B m) else absI (loS B m)))) μ := by
    unfold g_loudest_of
    refine run_0 ?_
    unfold B_loudest_of
    have e1 := heard_at_ok (μ := μ) h.ok hl (by omega) [] 0
    have e2 := lates_ok (μ := μ) hl (show B.length < 64 by omega)
    obtain ⟨env', μ', e3, ⟨a, b, c, rfl⟩, rfl⟩ := for_nat (g := gVar 4) (b := L_loudest_of_1) (E := fun i env μ' => (∃ a b c, env = [some (.d (boardD B)), some (.d (.int (m : Nat))), some (.d (.int (heardAt B [] 0 + (((lates B).take i).map fun L => (loP B m L).1 - seg B L 0).sum))), some (.d (.int (heardAt B [] 0 + (((lates B).take i).map fun L => (hiP B m L).1 - seg B L 0).sum))), a, b, c]) ∧ μ' = μ) ((lates B).map PyData.int) 0 [some (.d (boardD B)), some (.d (.int (m : Nat))), some (.d (.int (heardAt B [] 0))), some (.d (.int (heardAt B [] 0))), none, none, none] μ ⟨⟨none, none, none, by simp⟩, rfl⟩ (by
      rintro i hi env μ' ⟨⟨a, b, c, rfl⟩, rfl⟩
      rw [List.length_map] at hi
      rw [Nat.zero_add]
      have et : ∀ f : Int → Int, (((lates B).take (i + 1)).map f).sum = (((lates B).take i).map f).sum + f (lates B)[i] := fun f => by
        rw [List.take_add_one, List.getElem?_eq_getElem hi, List.map_append, List.sum_append]
        simp
      have ec := comp_map (g := gVar 6) (e := fCall (callD 3 g_part_shape) (fCons (fVar 0) (fCons (fVar 4) (fCons (fVar 6) (fNil))))) (env := [some (.d (boardD B)), some (.d (.int (m : Nat))), some (.d (.int (heardAt B [] 0 + (((lates B).take i).map fun L => (loP B m L).1 - seg B L 0).sum))), some (.d (.int (heardAt B [] 0 + (((lates B).take i).map fun L => (hiP B m L).1 - seg B L 0).sum))), some (.d (.int (lates B)[i])), b, none]) (toD := PyData.int) (φ := fun n => .int (partShape B (lates B)[i] n)) (rng m) μ' [] (fun n hn => ⟨_, rfl, by simp -implicitDefEqProofs [part_ok h.ok hl (show B.length ≤ 1000000 by omega)]⟩) (by rw [rng_len]; simp [LIM]; omega)
      have emap : ((rng m).map fun n => PyData.int (partShape B (lates B)[i] n)) = ((rng m).map (partShape B (lates B)[i])).map PyData.int := by rw [List.map_map]; rfl
      rw [List.nil_append, emap] at ec
      have k1 := k_min_i (μ := μ') (min_part B m (lates B)[i])
      have k2 := k_max_i (μ := μ') (max_part B m (lates B)[i])
      refine ⟨_, _, [some (.d (boardD B)), some (.d (.int (m : Nat))), some (.d (.int (heardAt B [] 0 + (((lates B).take i).map fun L => (loP B m L).1 - seg B L 0).sum + ((loP B m (lates B)[i]).1 - seg B (lates B)[i] 0)))), some (.d (.int (heardAt B [] 0 + (((lates B).take i).map fun L => (hiP B m L).1 - seg B L 0).sum + ((hiP B m (lates B)[i]).1 - seg B (lates B)[i] 0)))), some (.d (.int (lates B)[i])), some (.d (.list (((rng m).map (partShape B (lates B)[i])).map PyData.int))), c], μ', by rw [List.getElem_map]; rfl, ?_, ⟨some (.d (.int (lates B)[i])), some (.d (.list (((rng m).map (partShape B (lates B)[i])).map PyData.int))), c, by rw [et, et, ← Int.add_assoc, ← Int.add_assoc]⟩, rfl⟩
      simp -implicitDefEqProofs [e_fRg2, rgl2_m hm]
      simp -implicitDefEqProofs at ec k1 k2
      rw [ec]
      simp -implicitDefEqProofs [k1, k2])
    rw [Nat.zero_add, List.length_map, List.take_length, lo_sum, hi_sum] at e3
    have l1 := loudness_ok (μ := μ') (loS B m)
    have l2 := loudness_ok (μ := μ') (hiS B m)
    have en : (numsD [] : D) = .tuple [] := rfl
    rw [en] at e1
    simp -implicitDefEqProofs [startE, e1, e2, e3, l1, l2]
  unfold g_loudest
  refine run_0 ?_
  unfold B_loudest
  simp -implicitDefEqProofs [startE, need_board_ok h.ok h.rl h.l1 h.l3, need_most_ok hm, lof]
/-! ### the law's extremes -/
def kvD (f : Int → D) (ls : List Int) : List (Key × Wv) := ls.map fun L => (Sum.inl L, .d (f L))
theorem valW_kvD (f : Int → D) (L : Int) : ∀ ls : List Int, L ∈ ls → valW (kvD f ls) (Sum.inl L : Key) = some (.d (f L))
  | M :: r, h => by
    show valW ((Sum.inl M, .d (f M)) :: kvD f r) (Sum.inl L : Key) = _
    rw [valW_cons]
    by_cases e : M = L
    · subst e
      rw [if_pos rfl]
    · rw [if_neg fun z => e (Sum.inl.inj z)]
      exact valW_kvD f L r (by rcases List.mem_cons.mp h with q | q; exact absurd q.symm e; exact q)
theorem any_kvD (f : Int → D) (L : Int) : ∀ ls : List Int, L ∉ ls → ((kvD f ls).any fun p => decide (p.1 = (Sum.inl L : Key))) = false
  | [], _ => rfl
  | M :: r, h => by
    rw [List.mem_cons, not_or] at h
    show (decide ((Sum.inl M : Key) = Sum.inl L) || (kvD f r).any fun p => decide (p.1 = (Sum.inl L : Key))) = false
    rw [any_kvD f L r h.2, Bool.or_false]
    exact decide_eq_false fun z => h.1 (Sum.inl.inj z).symm
theorem putW_kvD (f : Int → D) (L : Int) (ls : List Int) (h : L ∉ ls) : putW (kvD f ls) (Sum.inl L : Key) (.d (f L)) = kvD f (ls ++ [L]) := by
  unfold putW
  rw [any_kvD f L ls h]
  simp [kvD]
theorem kvD_len (f : Int → D) (ls : List Int) : (kvD f ls).length = ls.length := by simp [kvD]
def exD (B : List (List Pd)) (m : Nat) (L : Int) : D := .tuple [pairD (loP B m L), pairD (hiP B m L)]
theorem lates_len (B : List (List Pd)) : (lates B).length ≤ B.length := by
  have := sset_len (B.map lateOf)
  rw [List.length_map] at this
  exact this
theorem extremes_ok {B : List (List Pd)} (h : BOk B) {m : Nat} (hm : m ≤ 1000) : g__law_extremes [.d (boardD B), .d (.int (m : Nat))] μ = .ok (.l μ.length) (μ ++ [.dk (kvD (exD B m) (lates B))]) := by
  have hl : ∀ r ∈ B, r.length ≤ 1000000 := fun r hr => by have := h.rl r hr; omega
  have h3 := h.l3
  have hll := lates_len B
  unfold g__law_extremes runF
  have hs : startE 8 [.d (boardD B), .d (.int (m : Nat))] = [some (.d (boardD B)), some (.d (.int (m : Nat))), none, none, none, none, none, none] := rfl
  rw [hs]
  have e0 : ∀ env, fDictK env μ = .ok (.l μ.length) (μ ++ [Ob.dk (kvD (exD B m) [])]) := fun env => rfl
  obtain ⟨env', μ', e3, ⟨a, b, c, d, q, rfl⟩, rfl⟩ := for_nat (g := gVar 3) (b := L__law_extremes_1) (E := fun i env μ' => (∃ a b c d q, env = [some (.d (boardD B)), some (.d (.int (m : Nat))), some (.l μ.length), a, b, c, d, q]) ∧ μ' = μ ++ [Ob.dk (kvD (exD B m) ((lates B).take i))]) ((lates B).map PyData.int) 0 [some (.d (boardD B)), some (.d (.int (m : Nat))), some (.l μ.length), none, none, none, none, none] (μ ++ [Ob.dk (kvD (exD B m) [])]) ⟨⟨_, _, _, _, _, rfl⟩, rfl⟩ (by
    rintro i hi env μ' ⟨⟨a, b, c, d, q, rfl⟩, rfl⟩
    rw [List.length_map] at hi
    rw [Nat.zero_add]
    have hnot : (lates B)[i] ∉ (lates B).take i := fun z => by
      have nd := lates_nd B
      rw [← List.take_append_drop i (lates B), List.nodup_append] at nd
      have hd : (lates B)[i] ∈ (lates B).drop i := by rw [List.drop_eq_getElem_cons hi]; exact List.mem_cons_self
      exact nd.2.2 _ z _ hd rfl
    have et : (lates B).take (i + 1) = (lates B).take i ++ [(lates B)[i]] := by rw [List.take_add_one, List.getElem?_eq_getElem hi]; rfl
    have hlt : ((lates B).take i).length < 16000000 := by rw [List.length_take]; omega
    have eL0 : ∃ L, L = (lates B)[i] := ⟨_, rfl⟩
    obtain ⟨L, eL⟩ := eL0
    rw [← eL] at hnot et
    generalize (lates B).take i = ls at *
    generalize hν : μ ++ [Ob.dk (kvD (exD B m) ls)] = ν
    have hat : ν[μ.length]? = some (.dk (kvD (exD B m) ls)) := by rw [← hν]; simp
    -- some
    have c1 := comp_filter (g := gVar 6) (t := fB (fOp (eqW false) (fCall (callD 1 g__law_lateness) (fCons (fVar 6) (fNil))) (fVar 3))) (e := fVar 6) (env := [some (.d (boardD B)), some (.d (.int (m : Nat))), some (.l μ.length), some (.d (.int L)), b, c, none, q]) (toD := rowD) (q := fun r => decide (lateOf r = L)) (φ := rowD) B ν [] (fun r hr => ⟨_, rfl, by simp -implicitDefEqProofs [law_late_ok (hl r hr), eq_int], fun _ => rfl⟩) (by simp [LIM]; omega)
    rw [List.nil_append] at c1
    -- rows
    have hC : ∀ r ∈ B.filter (fun r => decide (lateOf r = L)), rowOk r := fun r hr => h.ok r (List.mem_filter.mp hr).1
    have hCl : (B.filter fun r => decide (lateOf r = L)).length ≤ 3 := Nat.le_trans (List.length_filter_le _ _) h3
    have es : ∀ n, seg B L n = ((B.filter fun r => decide (lateOf r = L)).map fun r => rowShape r n).sum := fun n => rfl
    generalize hC0 : B.filter (fun r => decide (lateOf r = L)) = C at *
    have c2 := comp_map (g := gVar 7) (e := fTup (fCons (fCall kSum (fCons (fComp (itS (fVar 4)) (gVar 6) (fYes) (fCall (callD 2 g__law_shape) (fCons (fVar 6) (fCons (fVar 7) (fNil)))) [6]) (fNil))) (fCons (fVar 7) (fNil)))) (env := [some (.d (boardD B)), some (.d (.int (m : Nat))), some (.l μ.length), some (.d (.int L)), some (.d (.list (C.map rowD))), c, d, none]) (toD := PyData.int) (φ := fun n => pairD (seg B L n, n)) (rng m) ν [] (fun n hn => by
      have ci := comp_map (g := gVar 6) (e := fCall (callD 2 g__law_shape) (fCons (fVar 6) (fCons (fVar 7) (fNil)))) (env := [some (.d (boardD B)), some (.d (.int (m : Nat))), some (.l μ.length), some (.d (.int L)), some (.d (.list (C.map rowD))), c, none, some (.d (.int n))]) (toD := rowD) (φ := fun r => .int (rowShape r n)) C ν [] (fun r hr => ⟨_, rfl, by simp -implicitDefEqProofs [law_shape_ok (hC r hr)]⟩) (by simp [LIM]; omega)
      rw [List.nil_append] at ci
      refine ⟨_, rfl, ?_⟩
      simp -implicitDefEqProofs
      rw [ci]
      simp -implicitDefEqProofs [k_sum_g, es, pairD]) (by rw [rng_len]; simp [LIM]; omega)
    rw [List.nil_append] at c2
    have emap : ((rng m).map fun n => pairD (seg B L n, n)) = ((rng m).map fun n => (seg B L n, n)).map pairD := by rw [List.map_map]; rfl
    rw [emap] at c2
    have k1 : kBest PySem.W.minD [.d (.list (((rng m).map fun n => (seg B L n, n)).map pairD))] ν = .ok (.d (pairD (loP B m L))) ν := by
      obtain ⟨x, xs, ex⟩ := rng_cons m
      unfold loP
      rw [ex, List.map_cons]
      exact kmin_pairs _ _
    have k2 : kBest PySem.W.maxD [.d (.list (((rng m).map fun n => (seg B L n, n)).map pairD))] ν = .ok (.d (pairD (hiP B m L))) ν := by
      obtain ⟨x, xs, ex⟩ := rng_cons m
      unfold hiP
      rw [ex, List.map_cons]
      exact kmax_pairs _ _
    have dp : dPut ν (.l μ.length) (.d (.int L)) (.d (exD B m L)) = some (μ ++ [Ob.dk (kvD (exD B m) (ls ++ [L]))]) := by
      unfold dPut
      simp only [hat]
      rw [if_pos (by rw [kvD_len]; exact hlt)]
      show some (ν.set μ.length (.dk (putW (kvD (exD B m) ls) (Sum.inl L : Key) (.d (exD B m L))))) = _
      rw [putW_kvD _ _ _ hnot, ← hν]
      simp
    generalize hps : ((rng m).map fun n => (seg B L n, n)).map pairD = ps at *
    refine ⟨_, _, [some (.d (boardD B)), some (.d (.int (m : Nat))), some (.l μ.length), some (.d (.int L)), some (.d (.list (C.map rowD))), some (.d (.list ps)), d, q], μ ++ [Ob.dk (kvD (exD B m) (ls ++ [L]))], by rw [List.getElem_map, ← eL]; rfl, ?_, ⟨_, _, _, _, _, rfl⟩, by rw [et]⟩
    simp -implicitDefEqProofs [boardD] at c1 c2 ⊢
    rw [c1]
    simp -implicitDefEqProofs [rg2_m hm]
    rw [c2]
    simp -implicitDefEqProofs [k1, k2, sDput]
    have dp' := dp
    simp only [exD] at dp'
    rw [dp'])
  rw [Nat.zero_add, List.length_map, List.take_length] at e3
  have c4 := fun (ν : Sto) => comp_map (g := gVar 6) (e := fCall (callD 1 g__law_lateness) (fCons (fVar 6) (fNil))) (env := [some (.d (boardD B)), some (.d (.int (m : Nat))), some (.l μ.length), none, none, none, none, none]) (toD := rowD) (φ := fun r => .int (lateOf r)) B ν [] (fun r hr => ⟨_, rfl, by simp -implicitDefEqProofs [law_late_ok (hl r hr)]⟩) (by simp [LIM]; omega)
  have es : ∀ ν, ssW (.d (.list (B.map fun r => .int (lateOf r)))) ν = .ok (.d (.list ((lates B).map PyData.int))) ν := fun ν => by
    unfold ssW
    simp only [toInts_map2]
    rw [if_pos (by rw [List.length_map]; omega)]
    rfl
  unfold B__law_extremes
  simp -implicitDefEqProofs [boardD] at c4 e3 ⊢
  simp -implicitDefEqProofs [e0, c4, es, e3]
  unfold handBack
  simp
end
end Ped

/-! PedA8: law 06, the loud sounds, the pedals that never act -/
namespace Ped
open PySem L2 PyProof.Rows PySem.Spec
theorem set_same {μ : Sto} {n : Nat} {o : Ob} (h : μ[n]? = some o) : μ.set n o = μ := by
  refine List.ext_getElem? fun j => ?_
  by_cases e : n = j
  · subst e
    rw [List.getElem?_set_self (List.getElem?_eq_some_iff.mp h).1, h]
  · rw [List.getElem?_set_ne e]
section
variable {μ : Sto}
theorem lockE_eval {i n : Nat} {f : FE} {env : Env} {kvs : List (Key × Wv)} (he : env[i]? = some (some (.l n))) (hm : μ[n]? = some (.dk kvs)) : lockE i f env μ = (noex (f env (μ.set n (.lk kvs)))).bind (unlk n) := by
  unfold lockE
  rw [he]
  simp only [hm]
theorem lockS_eval {i n : Nat} {f : FS} {env : Env} {kvs : List (Key × Wv)} (he : env[i]? = some (some (.l n))) (hm : μ[n]? = some (.dk kvs)) : lockS i f env μ = (noex (f env (μ.set n (.lk kvs)))).bind (unlk n) := by
  unfold lockS
  rw [he]
  simp only [hm]
theorem lk_at {n : Nat} {o : Ob} {kvs : List (Key × Wv)} (hm : μ[n]? = some o) : (μ.set n (.lk kvs))[n]? = some (.lk kvs) := List.getElem?_set_self (List.getElem?_eq_some_iff.mp hm).1
theorem unlk_back {α : Type} {n : Nat} {a : α} {kvs : List (Key × Wv)} (hm : μ[n]? = some (.dk kvs)) : unlk n a (μ.set n (.lk kvs)) = .ok a μ := by
  unfold unlk
  rw [lk_at hm]
  simp only [List.set_set]
  rw [set_same hm]
theorem unlk_app {α : Type} {n : Nat} {a : α} {kvs : List (Key × Wv)} {l : Sto} (hm : μ[n]? = some (.dk kvs)) : unlk n a (μ.set n (.lk kvs) ++ l) = .ok a (μ ++ l) := by
  have hn : n < μ.length := (List.getElem?_eq_some_iff.mp hm).1
  unfold unlk
  rw [List.getElem?_append_left (by rw [List.length_set]; exact hn), lk_at hm]
  simp only
  rw [List.set_append_left _ _ (by rw [List.length_set]; exact hn), List.set_set, set_same hm]
theorem itK_kvD {f : Int → D} {ls : List Int} {i n : Nat} {env : Env} (he : env[i]? = some (some (.l n))) (hm : μ[n]? = some (.lk (kvD f ls))) : itK (fVar i) env μ = .ok (ls.map PyData.int) μ := by
  unfold itK
  rw [e_var, he]
  simp only [Rs.bind_ok, hm]
  unfold kvD
  rw [List.map_map]
  rfl
theorem dget_kvD {f : Int → D} {ls : List Int} {n : Nat} (hm : μ[n]? = some (.lk (kvD f ls))) {L : Int} (hL : L ∈ ls) : dgetW (.l n) (.d (.int L)) μ = .ok (.d (f L)) μ := by
  unfold dgetW dGet
  simp only [hm]
  show (match some (valW (kvD f ls) (Sum.inl L : Key)) with | some (some w) => Rs.ok w μ | _ => Rs.no) = _
  rw [valW_kvD f L ls hL]
def lastOf (B : List (List Pd)) : Int := (maxL (lates B)).getD 0
theorem last_is {B : List (List Pd)} (h : BOk B) : maxL (lates B) = some (lastOf B) ∧ 0 ≤ lastOf B ∧ lastOf B ≤ 30 ∧ ∀ L ∈ lates B, 0 ≤ L ∧ L ≤ lastOf B := by
  have hb : ∀ L ∈ lates B, 0 ≤ L ∧ L ≤ 30 := fun L hL => by
    obtain ⟨r, hr, rfl⟩ := List.mem_map.mp (mem_sset.mp hL)
    have := late_bound (h.ok r hr)
    have := h.rl r hr
    omega
  have hne : lates B ≠ [] := by
    have h1 := h.l1
    cases hB : B with
    | nil => rw [hB] at h1; simp at h1
    | cons r C =>
      intro z
      have := mem_lates (B := r :: C) (r := r) List.mem_cons_self
      rw [z] at this
      cases this
  obtain ⟨m, e, m0, m30⟩ := maxL_bound hne hb
  have em : lastOf B = m := by unfold lastOf; rw [e]; rfl
  rw [em]
  refine ⟨e, m0, m30, fun L hL => ⟨(hb L hL).1, ?_⟩⟩
  obtain ⟨x, xs, ex⟩ : ∃ x xs, lates B = x :: xs := by
    cases q : lates B with
    | nil => exact absurd q hne
    | cons x xs => exact ⟨x, xs, rfl⟩
  rw [ex] at e hL
  obtain ⟨_, f1, f2⟩ := foldl_max xs x
  have e' : xs.foldl max x = m := Option.some.inj e
  rw [e'] at f1 f2
  rcases List.mem_cons.mp hL with rfl | hL
  · exact f1
  · exact f2 L hL
def numP (B : List (List Pd)) (m p : Nat) (L : Int) : Int := if p = 0 then (loP B m L).2 else (hiP B m L).2
def valP (B : List (List Pd)) (m p : Nat) : Int := if p = 0 then loS B m else hiS B m
def sndF (B : List (List Pd)) (m p : Nat) (Ls : List Int) (t : Nat) : Int := if (lastOf B - (t : Int)) ∈ Ls then numP B m p (lastOf B - (t : Int)) else 0
def sndL (B : List (List Pd)) (m p : Nat) : List Int := (List.range ((lastOf B).toNat + 1)).map (sndF B m p (lates B))
theorem loud_sound_ok {B : List (List Pd)} (h : BOk B) {m n p : Nat} (hm : μ[n]? = some (.dk (kvD (exD B m) (lates B)))) (hp : p < 2) : g__law_loud_sound [.l n, .d (.int (p : Nat))] μ = .ok (.d (.tuple [numsD (sndL B m p), .int (lastOf B)])) μ := by
  obtain ⟨h1, h2, h3, h4⟩ := last_is h
  obtain ⟨k, hk⟩ := Int.eq_ofNat_of_zero_le h2
  have hn : n < μ.length := (List.getElem?_eq_some_iff.mp hm).1
  have hll := lates_len B
  have hb3 := h.l3
  have c1 := comp_map (g := gVar 4) (e := fVar 4) (env := [some (.l n), some (.d (.int (p : Nat))), none, none, none]) (toD := PyData.int) (φ := PyData.int) (lates B) (μ.set n (.lk (kvD (exD B m) (lates B)))) [] (fun L hL => ⟨_, rfl, rfl⟩) (by simp [LIM]; omega)
  rw [List.nil_append] at c1
  have e1 : lockE 0 (fComp (itK (fVar 0)) (gVar 4) (fYes) (fVar 4) [4]) [some (.l n), some (.d (.int (p : Nat))), none, none, none] μ = .ok (.d (.list ((lates B).map PyData.int))) μ := by
    rw [lockE_eval rfl hm, e_comp, itK_kvD rfl (lk_at hm)]
    simp -implicitDefEqProofs
    rw [c1]
    simp only [Rs.bind_ok, noex_ok]
    exact unlk_back hm
  have em0 : ∀ q : Nat, q ≤ 1000 → mulN (.d (.list [.int 0])) (.d (.int (q : Nat))) μ = .ok (.l μ.length) (μ ++ [Ob.lst (cells q fun _ => 0)]) := fun q hq => by
    show (if -1000000 ≤ (q : Int) ∧ (q : Int) ≤ 1000000 ∧ [PyData.int 0].length * (q : Int).toNat ≤ LIM then Rs.ok (Wv.l μ.length) (μ ++ [.lst ((List.replicate (q : Int).toNat [PyData.int 0]).flatten.map Wv.d)]) else Rs.no) = _
    rw [if_pos ⟨by omega, by omega, by simp [LIM]; omega⟩, Int.toNat_natCast, rep_cells]
  have em : mulN (.d (.list [.int 0])) (.d (.int ((k : Int) + 1))) μ = .ok (.l μ.length) (μ ++ [Ob.lst (cells (k + 1) fun _ => 0)]) := em0 (k + 1) (by omega)
  generalize hkv : kvD (exD B m) (lates B) = kvs at hm
  obtain ⟨env', μ', e3, ⟨a, rfl⟩, rfl⟩ := for_nat (g := gVar 4) (b := L__law_loud_sound_1) (E := fun i env μ' => (∃ a, env = [some (.l n), some (.d (.int (p : Nat))), some (.d (.int (k : Nat))), some (.l μ.length), a]) ∧ μ' = (μ.set n (.lk kvs)) ++ [Ob.lst (cells (k + 1) (sndF B m p ((lates B).take i)))]) ((lates B).map PyData.int) 0 [some (.l n), some (.d (.int (p : Nat))), some (.d (.int (k : Nat))), some (.l μ.length), none] ((μ.set n (.lk kvs)) ++ [Ob.lst (cells (k + 1) (sndF B m p []))]) ⟨⟨_, rfl⟩, rfl⟩ (by
    rintro i hi env μ' ⟨⟨a, rfl⟩, rfl⟩
    rw [List.length_map] at hi
    rw [Nat.zero_add]
    have hmem : (lates B)[i] ∈ lates B := List.getElem_mem hi
    obtain ⟨l0, l1⟩ := h4 _ hmem
    have et : (lates B).take (i + 1) = (lates B).take i ++ [(lates B)[i]] := by rw [List.take_add_one, List.getElem?_eq_getElem hi]; rfl
    obtain ⟨L, eL⟩ : ∃ L, L = (lates B)[i] := ⟨_, rfl⟩
    rw [← eL] at hmem l0 l1 et
    obtain ⟨q, hq⟩ := Int.eq_ofNat_of_zero_le (show 0 ≤ (k : Int) - L by omega)
    have hqk : q < k + 1 := by omega
    generalize hν : (μ.set n (.lk kvs)) ++ [Ob.lst (cells (k + 1) (sndF B m p ((lates B).take i)))] = ν
    have hlen : (μ.set n (Ob.lk kvs)).length = μ.length := List.length_set
    have at1 : ν[n]? = some (.lk (kvD (exD B m) (lates B))) := by
      rw [← hν, List.getElem?_append_left (by rw [hlen]; exact hn), lk_at hm, hkv]
    have at2 : ν[μ.length]? = some (.lst (cells (k + 1) (sndF B m p ((lates B).take i)))) := by
      rw [← hν, List.getElem?_append_right (by rw [hlen]; exact Nat.le_refl _), hlen, Nat.sub_self]
      rfl
    have g1 := dget_kvD at1 hmem
    have g2 := lst_cells at2
    have g3 : ixN (cells (k + 1) (sndF B m p ((lates B).take i))).length ((k : Int) - L) = some q := by rw [cells_len, hq]; exact ixN_nat hqk
    have g4 : ∀ ν, (ixW (.d (exD B m L)) (.d (.int (p : Nat))) ν) = .ok (.d (pairD (if p = 0 then loP B m L else hiP B m L))) ν := fun ν => by
      have : p = 0 ∨ p = 1 := by omega
      rcases this with rfl | rfl
      · exact ix_0 _ _
      · exact ix_1 _ _ _
    have g5 : ∀ ν, ixW (.d (pairD (if p = 0 then loP B m L else hiP B m L))) (.d (.int 1)) ν = .ok (.d (.int (numP B m p L))) ν := fun ν => by
      unfold numP pairD
      rw [ix_1]
      by_cases z : p = 0 <;> simp [z]
    have g6 : ν.set μ.length (.lst ((cells (k + 1) (sndF B m p ((lates B).take i))).set q (.d (.int (numP B m p L))))) = (μ.set n (.lk kvs)) ++ [Ob.lst (cells (k + 1) (sndF B m p ((lates B).take i ++ [L])))] := by
      rw [cells_set, ← hν, List.set_append_right _ _ (by rw [hlen]; exact Nat.le_refl _), hlen, Nat.sub_self]
      have ef : (fun t => if t = q then numP B m p L else sndF B m p ((lates B).take i) t) = sndF B m p ((lates B).take i ++ [L]) := by
        funext t
        unfold sndF
        rw [hk]
        by_cases z : t = q
        · subst z
          have : (k : Int) - (t : Int) = L := by omega
          rw [if_pos rfl, this, if_pos (by simp)]
        · have nz : ¬ (k : Int) - (t : Int) = L := by omega
          rw [if_neg z]
          by_cases y : (k : Int) - (t : Int) ∈ (lates B).take i
          · rw [if_pos y, if_pos (List.mem_append_left _ y)]
          · rw [if_neg y, if_neg (by simp [y, nz])]
      rw [ef]
      rfl
    refine ⟨_, _, [some (.l n), some (.d (.int (p : Nat))), some (.d (.int (k : Nat))), some (.l μ.length), some (.d (.int L))], (μ.set n (.lk kvs)) ++ [Ob.lst (cells (k + 1) (sndF B m p ((lates B).take i ++ [L])))], by rw [List.getElem_map, ← eL]; rfl, ?_, ⟨_, rfl⟩, by rw [et]⟩
    unfold L__law_loud_sound_1
    rw [e_SetIx]
    simp -implicitDefEqProofs [fDget, g1, g4, g5, g2, g3, g6])
  rw [Nat.zero_add, List.length_map, List.take_length] at e3
  have hm2 : (μ ++ [Ob.lst (cells (k + 1) fun _ => 0)])[n]? = some (.dk kvs) := by rw [List.getElem?_append_left hn]; exact hm
  have e4 : (μ ++ [Ob.lst (cells (k + 1) fun _ => 0)]).set n (.lk kvs) = (μ.set n (.lk kvs)) ++ [Ob.lst (cells (k + 1) (sndF B m p []))] := by
    rw [List.set_append_left _ _ hn]
    congr 3
  have e5 : lockS 0 (sFor (itK (fVar 0)) (gVar 4) (L__law_loud_sound_1)) [some (.l n), some (.d (.int (p : Nat))), some (.d (.int (k : Nat))), some (.l μ.length), none] (μ ++ [Ob.lst (cells (k + 1) fun _ => 0)]) = .ok (.nx [some (.l n), some (.d (.int (p : Nat))), some (.d (.int (k : Nat))), some (.l μ.length), a]) (μ ++ [Ob.lst (cells (k + 1) (sndF B m p (lates B)))]) := by
    rw [lockS_eval rfl hm2, e4, e_sFor, itK_kvD (f := exD B m) (ls := lates B) rfl (by rw [hkv, List.getElem?_append_left (by rw [List.length_set]; exact hn)]; exact lk_at hm), Rs.bind_ok, e3, noex_ok, Rs.bind_ok]
    exact unlk_app hm
  have hlst : lstAt (μ ++ [Ob.lst (cells (k + 1) (sndF B m p (lates B)))]) μ.length = some (cells (k + 1) (sndF B m p (lates B))) := lst_cells (by simp)
  have hd : dats (cells (k + 1) (sndF B m p (lates B))) = some ((sndL B m p).map PyData.int) := by
    rw [dats_cells]
    unfold sndL
    rw [List.map_map, hk]
    rfl
  have kx := k_max_i (μ := μ) h1
  rw [hk] at kx
  unfold g__law_loud_sound
  refine run_app (ν := [.dead]) ?_
  unfold B__law_loud_sound
  simp -implicitDefEqProofs [startE, e1, kx, em]
  rw [e5]
  simp -implicitDefEqProofs [frz, hlst, hd, numsD, hk]
theorem sound_len {B : List (List Pd)} (h : BOk B) {m p : Nat} : (sndL B m p).length ≤ 31 ∧ (lastOf B).toNat < (sndL B m p).length := by
  obtain ⟨h1, h2, h3, h4⟩ := last_is h
  unfold sndL
  rw [List.length_map, List.length_range]
  omega
theorem sound_heard {B : List (List Pd)} (h : BOk B) {m p : Nat} : heardAt B (sndL B m p) (lastOf B) = valP B m p := by
  obtain ⟨h1, h2, h3, h4⟩ := last_is h
  have e1 : ∀ L ∈ lates B, numAt (sndL B m p) (lastOf B - L) = numP B m p L := fun L hL => by
    obtain ⟨l0, l1⟩ := h4 L hL
    obtain ⟨q, hq⟩ := Int.eq_ofNat_of_zero_le (show 0 ≤ lastOf B - L by omega)
    have hlen : (sndL B m p).length = (lastOf B).toNat + 1 := by unfold sndL; rw [List.length_map, List.length_range]
    unfold numAt
    rw [hq, if_pos ⟨by omega, by rw [hlen]; omega⟩, Int.toNat_natCast]
    unfold sndL
    rw [List.getD_eq_getElem?_getD, List.getElem?_map, List.getElem?_range (by omega)]
    show sndF B m p (lates B) q = _
    unfold sndF
    rw [show lastOf B - (q : Int) = L by omega, if_pos hL]
  unfold heardAt
  have e2 : (B.map fun r => rowShape r (numAt (sndL B m p) (lastOf B - lateOf r))) = B.map fun r => rowShape r (numP B m p (lateOf r)) := List.map_congr_left fun r hr => by rw [e1 _ (mem_lates hr)]
  rw [e2, ← by_lates (fun r => rowShape r (numP B m p (lateOf r))) (lates_nd B) B fun r hr => mem_lates hr]
  have e3 : ∀ L, ((B.filter fun r => decide (lateOf r = L)).map fun r => rowShape r (numP B m p (lateOf r))).sum = seg B L (numP B m p L) := fun L => by
    unfold seg
    congr 1
    refine List.map_congr_left fun r hr => ?_
    rw [of_decide_eq_true (List.mem_filter.mp hr).2]
  have e4 : ((lates B).map fun L => ((B.filter fun r => decide (lateOf r = L)).map fun r => rowShape r (numP B m p (lateOf r))).sum) = (lates B).map fun L => seg B L (numP B m p L) := List.map_congr_left fun L _ => e3 L
  rw [e4]
  unfold valP loS hiS numP
  by_cases z : p = 0
  · simp only [z, if_true]
    congr 1
    refine List.map_congr_left fun L _ => ?_
    obtain ⟨⟨k, _, e⟩, _⟩ := loP_is B m L
    rw [e]
  · simp only [z, if_false]
    congr 1
    refine List.map_congr_left fun L _ => ?_
    obtain ⟨⟨k, _, e⟩, _⟩ := hiP_is B m L
    rw [e]
end
end Ped

/-! PedA9: law 06, idle pedals, the law -/
namespace Ped
open PySem L2 PyProof.Rows PySem.Spec
def pdAt (r : List Pd) (i : Nat) : Pd := r.getD i .turn
theorem pdAt_eq {r : List Pd} {i : Nat} (h : i < r.length) : pdAt r i = r[i] := by unfold pdAt; simp [h]
def actB (r : List Pd) (i m : Nat) : Bool := (rng m).any fun n => !decide (shape (pdAt r i) (rowShape (r.take i) n) = rowShape (r.take i) n)
def idleN (r : List Pd) (m : Nat) : List Nat := (List.range r.length).filter fun i => !(pdAt r i).isLate && !actB r i m
theorem any_find {α : Type} {p : α → Bool} : ∀ {xs : List α}, xs.any p = false → xs.find? p = none
  | xs, h => find_none h
theorem rowOk_take {r : List Pd} (h : rowOk r) (i : Nat) : rowOk (r.take i) := fun p hp => h p (List.mem_of_mem_take hp)
section
variable {μ : Sto}
theorem ix_row {r : List Pd} {i : Nat} (h : i < r.length) : ixW (.d (rowD r)) (.d (.int (i : Nat))) μ = .ok (.d (pdAt r i).toD) μ := by
  have e := pdAt_eq h
  unfold rowD
  rw [ix_t (by rw [List.length_map]; exact h), List.getElem_map, e]
theorem sl_to (r : List Pd) (i : Nat) : slW (.d (rowD r)) none (some (i : Int)) μ = .ok (.d (rowD (r.take i))) μ := by
  unfold rowD
  rw [sl_t, cut_map, cut_to]
theorem getD_ok {r : List Pd} (h : rowOk r) {i : Nat} (hi : i < r.length) : (pdAt r i).ok := by
  have e := pdAt_eq hi
  rw [e]
  exact h _ (List.getElem_mem hi)
theorem acts_ok {r : List Pd} (h : rowOk r) {i m : Nat} (hi : i < r.length) (hm : m ≤ 1000) : g_acts [.d (rowD r), .d (.int (i : Nat)), .d (.int (m : Nat))] μ = .ok (.d (.bool (actB r i m))) μ := by
  have hp := getD_ok h hi
  unfold g_acts
  refine run_0 ?_
  unfold B_acts
  obtain ⟨f1', f2'⟩ := for_find (g := gVar 3) (b := L_acts_1) (toD := PyData.int) (μ := μ) (E := fun env => ∃ a b, env = [some (.d (rowD r)), some (.d (.int (i : Nat))), some (.d (.int (m : Nat))), a, b]) (test := fun n => !decide (shape (pdAt r i) (rowShape (r.take i) n) = rowShape (r.take i) n)) (ret := fun _ => .d (.bool true)) (rng m) [some (.d (rowD r)), some (.d (.int (i : Nat))), some (.d (.int (m : Nat))), none, none] ⟨_, _, rfl⟩ (by
    rintro n hn env ⟨a, b, rfl⟩
    have e1 := row_shape_ok (μ := μ) (rowOk_take h i) n
    have e2 := pedal_shape_ok (μ := μ) hp (rowShape (r.take i) n)
    have e3 := ix_row (μ := μ) hi
    have e4 := sl_to (μ := μ) r i
    refine ⟨_, rfl, fun ht => ?_, fun ht => ⟨[some (.d (rowD r)), some (.d (.int (i : Nat))), some (.d (.int (m : Nat))), some (.d (.int n)), some (.d (.int (rowShape (r.take i) n)))], ?_, _, _, rfl⟩⟩
    · simp -implicitDefEqProofs [e1, e2, e3, e4, eq_int, ht]
    · simp -implicitDefEqProofs [e1, e2, e3, e4, eq_int, ht]
)
  unfold actB
  have hneg : opI (fun i j => some (PyData.int (i - j))) (.d (.int 0)) (.d (.int (m : Nat))) μ = .ok (.d (.int (-(m : Int)))) μ := by
    show Rs.ok (Wv.d (.int (0 - (m : Int)))) μ = _
    rw [Int.zero_sub]
  cases hq : (rng m).any fun n => !decide (shape (pdAt r i) (rowShape (r.take i) n) = rowShape (r.take i) n) with
  | true =>
    obtain ⟨x, hx⟩ := find_any hq
    have f3 := f1' x hx
    simp -implicitDefEqProofs [startE, hneg, rg2_m hm, f3]
  | false =>
    obtain ⟨env', f3, _⟩ := f2' (find_none hq)
    simp -implicitDefEqProofs [startE, hneg, rg2_m hm, f3]
theorem enum_row (r : List Pd) : enumD (r.map Pd.toD) = (List.range r.length).map fun (a : Nat) => PyData.tuple [.int (a : Nat), (pdAt r a).toD] := by
  unfold enumD
  refine List.ext_getElem? fun i => ?_
  rw [List.getElem?_map, List.getElem?_map, List.getElem?_zipIdx, List.getElem?_map]
  by_cases h : i < r.length
  · rw [List.getElem?_eq_getElem h, List.getElem?_range h]
    simp [h, pdAt]
  · rw [List.getElem?_eq_none (by omega), List.getElem?_eq_none (by simp; omega)]
    rfl
theorem late_word (p : Pd) : ∃ w rest, p.toD = .tuple (.str w :: rest) ∧ decide (w = "late") = p.isLate := by
  cases p <;> exact ⟨_, _, rfl, by simp [Pd.isLate]⟩
theorem idle_ok {r : List Pd} (h : rowOk r) (hl : r.length ≤ 6) {m : Nat} (hm : m ≤ 1000) : g_idle [.d (rowD r), .d (.int (m : Nat))] μ = .ok (.d (.list (((idleN r m).map fun (i : Nat) => (i : Int)).map PyData.int))) μ := by
  unfold g_idle
  refine run_0 ?_
  unfold B_idle
  have c1 := comp_filter (g := gTupF 2 (gsCons (gVar 3) (gsCons (gVar 4) (gsNil)))) (t := fB (fOp (eqW true) (fOp ixW (fVar 4) (fC (.int 0))) (fC (.str "late")))) (e := fVar 3) (env := [some (.d (rowD r)), some (.d (.int (m : Nat))), none, none, none]) (toD := fun (a : Nat) => PyData.tuple [.int (a : Nat), (pdAt r a).toD]) (q := fun a => !(pdAt r a).isLate) (φ := fun a => .int (a : Nat)) (List.range r.length) μ [] (fun a ha => by
    obtain ⟨w, rest, e1, e2⟩ := late_word (pdAt r a)
    refine ⟨[some (.d (rowD r)), some (.d (.int (m : Nat))), none, some (.d (.int (a : Nat))), some (.d (pdAt r a).toD)], rfl, ?_, fun _ => rfl⟩
    rw [e1, ← e2]
    simp -implicitDefEqProofs [eq_str]) (by simp [LIM]; omega)
  rw [List.nil_append] at c1
  have c2 := comp_filter (g := gVar 3) (t := fNot (fB (fCall (callD 3 g_acts) (fCons (fVar 0) (fCons (fVar 3) (fCons (fVar 1) (fNil))))))) (e := fVar 3) (env := [some (.d (rowD r)), some (.d (.int (m : Nat))), some (.d (.list (((List.range r.length).filter fun a => !(pdAt r a).isLate).map fun (a : Nat) => PyData.int (a : Nat)))), none, none]) (toD := fun (a : Nat) => PyData.int (a : Nat)) (q := fun a => !actB r a m) (φ := fun a => .int (a : Nat)) ((List.range r.length).filter fun a => !(pdAt r a).isLate) μ [] (fun a ha => by
    have ha := List.mem_range.mp (List.mem_filter.mp ha).1
    exact ⟨_, rfl, by simp -implicitDefEqProofs [acts_ok h ha hm], fun _ => rfl⟩) (by have := List.length_filter_le (fun a => !(pdAt r a).isLate) (List.range r.length); simp [LIM]; simp at this; omega)
  rw [List.nil_append] at c2
  have e3 : ∀ env : Env, env[0]? = some (some (.d (rowD r))) → itEnT (fVar 0) env μ = .ok ((List.range r.length).map fun (a : Nat) => PyData.tuple [.int (a : Nat), (pdAt r a).toD]) μ := fun env he => by
    unfold itEnT
    rw [e_var, he]
    simp only [Rs.bind_ok]
    show Rs.ok (enumD (r.map Pd.toD)) μ = _
    rw [enum_row]
  have en := need_row_ok (μ := μ) h hl
  have em := need_most_ok (μ := μ) hm
  rw [List.filter_filter] at c2
  have ef : ((List.range r.length).filter fun a => !actB r a m && !(pdAt r a).isLate) = idleN r m := by
    unfold idleN
    congr 1
    funext a
    exact Bool.and_comm _ _
  rw [ef] at c2
  have c1' := c1
  generalize ((List.range r.length).filter fun a => !(pdAt r a).isLate).map (fun (a : Nat) => PyData.int (a : Nat)) = ps at c1 c2
  simp -implicitDefEqProofs [startE, en, em, e3]
  rw [c1]
  simp -implicitDefEqProofs
  rw [c2]
  simp -implicitDefEqProofs
end
end Ped

/-! PedC1: law 11, knobs that are turned -/
namespace Ped
open PySem L2 PyProof.Rows PySem.Spec
def two : Pd → Option (Str × Int × Int × Int)
  | .louder k => some ("louder", k, 2, 4)
  | .cut k => some ("cut", k, 1, 50)
  | .gate k => some ("gate", k, 1, 50)
  | .lift k => some ("lift", k, -20, 20)
  | .steps k => some ("steps", k, 2, 5)
  | .late k => some ("late", k, 1, 5)
  | _ => none
def reknob : Pd → Int → Pd
  | .louder _, k => .louder k
  | .cut _, k => .cut k
  | .gate _, k => .gate k
  | .lift _, k => .lift k
  | .steps _, k => .steps k
  | .late _, k => .late k
  | p, _ => p
theorem two_some {p : Pd} {w : Str} {k lo hi : Int} (h : two p = some (w, k, lo, hi)) : p.toD = .tuple [.str w, .int k] ∧ v_BOUNDS.lookup w = some (lo, hi) ∧ (lo ≤ hi ∧ hi - lo ≤ 49 ∧ -20 ≤ lo ∧ hi ≤ 50) ∧ ∀ z, (reknob p z).toD = .tuple [.str w, .int z] ∧ (lo ≤ z → z ≤ hi → z ≠ 0 → (reknob p z).ok) := by
  cases p <;> simp only [two, Option.some.injEq, Prod.mk.injEq, reduceCtorEq] at h <;> obtain ⟨rfl, rfl, rfl, rfl⟩ := h <;> refine ⟨rfl, by simp, by decide, fun z => ⟨rfl, fun a b c => ?_⟩⟩ <;> first | exact ⟨a, b⟩ | exact ⟨a, b, c⟩
theorem two_none {p : Pd} (h : two p = none) : ∃ w, p.toD = .tuple [.str w] := by
  cases p <;> first | exact ⟨_, rfl⟩ | cases h
section
variable {μ : Sto}
theorem no_lift0 : g_is_pedal [.d (.tuple [.str "lift", .int 0])] μ = .ok (.d (.bool false)) μ := by
  unfold g_is_pedal
  refine run_0 ?_
  unfold B_is_pedal
  have hs := eq_dd (μ := μ) false ((shp_pd (.lift 0)).shaped (by decide)) shp_nil
  simp [Pd.toD] at hs
  simp [startE, eq_int, hs, sTab, PyData.eqv, PyData.eqvAll]
theorem is_knob {p : Pd} {w : Str} {k lo hi z : Int} (h : two p = some (w, k, lo, hi)) (h1 : lo ≤ z) (h2 : z ≤ hi) : g_is_pedal [.d (.tuple [.str w, .int z])] μ = .ok (.d (.bool (!decide (z = 0)))) μ := by
  obtain ⟨_, _, _, f⟩ := two_some h
  by_cases hz : z = 0
  · subst hz
    cases p <;> simp only [two, Option.some.injEq, Prod.mk.injEq, reduceCtorEq] at h <;> obtain ⟨rfl, rfl, rfl, rfl⟩ := h <;> first | omega | exact no_lift0
  · have := is_pedal_ok (μ := μ) ((f z).2 h1 h2 hz)
    rw [(f z).1] at this
    rw [this]
    simp [hz]
/-! ### the rows with one knob turned -/
def turnF (r : List Pd) (i : Nat) (z : Int) : List Pd := r.take i ++ [reknob (pdAt r i) z] ++ r.drop (i + 1)
def turnAt (r : List Pd) (i : Nat) : List (List Pd) := match two (pdAt r i) with
  | none => []
  | some (_, k, lo, hi) => (List.range (hi + 1 - lo).toNat).flatMap fun (j : Nat) => if (!decide (lo + (j : Int) = k) && !decide (lo + (j : Int) = 0)) = true then [turnF r i (lo + (j : Int))] else []
def turnL (r : List Pd) : List (List Pd) := (List.range r.length).flatMap (turnAt r)
theorem flat_one {α β : Type} (f : α → List β) (n : Nat) (h : ∀ a, (f a).length ≤ n) : ∀ xs : List α, (xs.flatMap f).length ≤ n * xs.length
  | [] => by simp
  | x :: r => by
    rw [List.flatMap_cons, List.length_append, List.length_cons]
    have h1 := h x
    have h2 := flat_one f n h r
    have : n * (r.length + 1) = n * r.length + n := by rw [Nat.mul_add, Nat.mul_one]
    omega
theorem turnAt_len (r : List Pd) (i : Nat) : (turnAt r i).length ≤ 50 := by
  unfold turnAt
  cases h : two (pdAt r i) with
  | none => simp
  | some q =>
    obtain ⟨w, k, lo, hi⟩ := q
    obtain ⟨_, _, hb, _⟩ := two_some h
    have := flat_one (fun (j : Nat) => if (!decide (lo + (j : Int) = k) && !decide (lo + (j : Int) = 0)) = true then [turnF r i (lo + (j : Int))] else []) 1 (fun a => by split <;> simp) (List.range (hi + 1 - lo).toNat)
    rw [List.length_range] at this
    simp only
    omega
theorem turnL_len (r : List Pd) : (turnL r).length ≤ 50 * r.length := by
  have := flat_one (turnAt r) 50 (turnAt_len r) (List.range r.length)
  rw [List.length_range] at this
  exact this
theorem turn_ok {r s : List Pd} (h : rowOk r) (hs : s ∈ turnL r) : rowOk s ∧ s.length = r.length ∧ 0 < s.length := by
  unfold turnL at hs
  rw [List.mem_flatMap] at hs
  obtain ⟨i, hi, hs⟩ := hs
  have hi := List.mem_range.mp hi
  unfold turnAt at hs
  split at hs
  · cases hs
  · rename_i w k lo hi' e
    rw [List.mem_flatMap] at hs
    obtain ⟨j, hj, hs⟩ := hs
    have hj := List.mem_range.mp hj
    split at hs
    · rename_i hc
      rw [List.mem_singleton.mp hs]
      obtain ⟨_, _, hb, f⟩ := two_some e
      simp only [Bool.and_eq_true, Bool.not_eq_true', decide_eq_false_iff_not] at hc
      have ok := (f (lo + (j : Int))).2 (by omega) (by omega) hc.2
      unfold turnF
      refine ⟨fun p hp => ?_, by simp; omega, by simp; omega⟩
      rcases List.mem_append.mp hp with hp | hp
      · rcases List.mem_append.mp hp with hp | hp
        · exact h p (List.mem_of_mem_take hp)
        · rw [List.mem_singleton.mp hp]; exact ok
      · exact h p (List.mem_of_mem_drop hp)
    · cases hs
theorem sl_from (r : List Pd) (i : Nat) : slW (.d (rowD r)) (some ((i : Int) + 1)) none μ = .ok (.d (rowD (r.drop (i + 1)))) μ := by
  unfold rowD
  rw [show (i : Int) + 1 = ((i + 1 : Nat) : Int) by omega, sl_t, cut_map, cut_from]
theorem add_one (r : List Pd) (p : Pd) (h : r.length ≤ 1000) : addW (.d (rowD r)) (.d (.tuple [p.toD])) μ = .ok (.d (rowD (r ++ [p]))) μ := add_row r [p] (by simp; omega)
/-- the row's making -/
theorem put_row {r : List Pd} (hl : r.length ≤ 6) {i : Nat} {p : Pd} : ((slW (.d (rowD r)) none (some (i : Int)) μ).bind fun x μ1 => (addW x (.d (.tuple [p.toD])) μ1).bind fun y μ2 => (slW (.d (rowD r)) (some ((i : Int) + 1)) none μ2).bind fun z μ3 => addW y z μ3) = .ok (.d (rowD (r.take i ++ [p] ++ r.drop (i + 1)))) μ := by
  rw [sl_to, Rs.bind_ok, add_one _ _ (by rw [List.length_take]; omega), Rs.bind_ok, sl_from, Rs.bind_ok]
  exact add_row _ _ (by simp; omega)
theorem turned_inner {r : List Pd} (hl : r.length ≤ 6) {i : Nat} (hi : i < r.length) {w : Str} {k lo hi' : Int} (h2 : two (pdAt r i) = some (w, k, lo, hi')) (acc : List D) (hacc : acc.length ≤ 1000) (x4 : Option Wv) :
    ∃ y4, forF (gVar 4) L_turned_rows_1 (rangeD lo (hi' + 1 - lo).toNat) [some (.d (rowD r)), some (.l μ.length), some (.d (.int (i : Nat))), some (.d (.tuple [.str w, .int k])), x4, some (.d (.int lo)), some (.d (.int hi'))] (stL μ acc) = .ok (.nx [some (.d (rowD r)), some (.l μ.length), some (.d (.int (i : Nat))), some (.d (.tuple [.str w, .int k])), y4, some (.d (.int lo)), some (.d (.int hi'))]) (stL μ (acc ++ (turnAt r i).map rowD)) := by
  obtain ⟨e1, e2, hb, f⟩ := two_some h2
  have et : (turnAt r i).map rowD = (List.range (hi' + 1 - lo).toNat).flatMap fun (j : Nat) => if (!decide (lo + (j : Int) = k) && !decide (lo + (j : Int) = 0)) = true then [rowD (turnF r i (lo + (j : Int)))] else [] := by
    unfold turnAt
    rw [h2]
    simp only
    rw [List.map_flatMap]
    congr 1
    funext j
    split <;> rfl
  have hlen := turnAt_len r i
  have hlen2 : ((turnAt r i).map rowD).length ≤ 50 := by rw [List.length_map]; exact hlen
  rw [et] at hlen2 ⊢
  have er : rangeD lo (hi' + 1 - lo).toNat = (List.range (hi' + 1 - lo).toNat).map fun (j : Nat) => PyData.int (lo + (j : Int)) := rfl
  rw [er]
  obtain ⟨env', e, y4, rfl⟩ := coll (g := gVar 4) (b := L_turned_rows_1) (toD := fun (j : Nat) => PyData.int (lo + (j : Int))) (ψ := fun (j : Nat) => if (!decide (lo + (j : Int) = k) && !decide (lo + (j : Int) = 0)) = true then [rowD (turnF r i (lo + (j : Int)))] else []) (μ := μ) (E := fun env => ∃ y4, env = [some (.d (rowD r)), some (.l μ.length), some (.d (.int (i : Nat))), some (.d (.tuple [.str w, .int k])), y4, some (.d (.int lo)), some (.d (.int hi'))]) 2000 (List.range (hi' + 1 - lo).toNat) acc [some (.d (rowD r)), some (.l μ.length), some (.d (.int (i : Nat))), some (.d (.tuple [.str w, .int k])), x4, some (.d (.int lo)), some (.d (.int hi'))] ⟨_, rfl⟩ (by omega) (by
    rintro j hj acc env ⟨y4, rfl⟩ hacc
    have hj := List.mem_range.mp hj
    have e3 := is_knob (μ := stL μ acc) h2 (z := lo + (j : Int)) (by omega) (by omega)
    generalize lo + (j : Int) = z at *
    refine ⟨[some (.d (rowD r)), some (.l μ.length), some (.d (.int (i : Nat))), some (.d (.tuple [.str w, .int k])), some (.d (.int z)), some (.d (.int lo)), some (.d (.int hi'))], [some (.d (rowD r)), some (.l μ.length), some (.d (.int (i : Nat))), some (.d (.tuple [.str w, .int k])), some (.d (.int z)), some (.d (.int lo)), some (.d (.int hi'))], rfl, ?_, _, rfl⟩
    by_cases hk : z = k
    · subst hk
      simp -implicitDefEqProofs [eq_int]
    · by_cases hz : z = 0
      · simp -implicitDefEqProofs [eq_int, hk, e3, hz]
        rw [hz] at hk e3
        simp -implicitDefEqProofs [eq_int, hk, e3]
      · have ea := app_D (μ := μ) (acc := acc) (x := rowD (turnF r i z)) (by simp [hk, hz] at hacc; omega) (f := fVar 1) (g := fOp addW (fOp addW (fSl (fVar 0) (fO0) (fO1 (fVar 2))) (fTup (fCons (fTup (fCons (fOp ixW (fVar 3) (fC (.int 0))) (fCons (fVar 4) (fNil)))) (fNil)))) (fSl (fVar 0) (fO1 (fOp addW (fVar 2) (fC (.int 1)))) (fO0))) (env := [some (.d (rowD r)), some (.l μ.length), some (.d (.int (i : Nat))), some (.d (.tuple [.str w, .int k])), some (.d (.int z)), some (.d (.int lo)), some (.d (.int hi'))]) rfl (by
          have hp := put_row (μ := stL μ acc) hl (i := i) (p := reknob (pdAt r i) z)
          rw [(f z).1] at hp
          simp only [sl_to, sl_from, Rs.bind_ok] at hp
          simp -implicitDefEqProofs [sl_to, sl_from]
          exact hp)
        simp -implicitDefEqProofs [eq_int, hk, e3, hz]
        rw [ea]
        simp)
  exact ⟨y4, e⟩
theorem turned_ok {r : List Pd} (hl : r.length ≤ 6) : g_turned_rows [.d (rowD r)] μ = .ok (.d (.list ((turnL r).map rowD))) μ := by
  unfold g_turned_rows
  refine run_app (ν := [.dead]) ?_
  unfold B_turned_rows
  have hlen := turnL_len r
  have etot : (turnL r).map rowD = (List.range r.length).flatMap fun i => (turnAt r i).map rowD := by
    unfold turnL
    rw [List.map_flatMap]
  obtain ⟨env', e, y2, y3, y4, y5, y6, rfl⟩ := coll (g := gTupF 2 (gsCons (gVar 2) (gsCons (gVar 3) (gsNil)))) (b := L_turned_rows_2) (toD := fun (a : Nat) => PyData.tuple [.int (a : Nat), (pdAt r a).toD]) (ψ := fun i => (turnAt r i).map rowD) (μ := μ) (E := fun env => ∃ y2 y3 y4 y5 y6, env = [some (.d (rowD r)), some (.l μ.length), y2, y3, y4, y5, y6]) 500 (List.range r.length) [] [some (.d (rowD r)), some (.l μ.length), none, none, none, none, none] ⟨_, _, _, _, _, rfl⟩ (by rw [← etot, List.length_map, List.length_nil]; omega) (by
    rintro i hi acc env ⟨y2, y3, y4, y5, y6, rfl⟩ hacc
    have hi := List.mem_range.mp hi
    refine ⟨[some (.d (rowD r)), some (.l μ.length), some (.d (.int (i : Nat))), some (.d (pdAt r i).toD), y4, y5, y6], ?_⟩
    cases h2 : two (pdAt r i) with
    | none =>
      obtain ⟨w, ew⟩ := two_none h2
      have e0 : turnAt r i = [] := by unfold turnAt; rw [h2]
      refine ⟨[some (.d (rowD r)), some (.l μ.length), some (.d (.int (i : Nat))), some (.d (pdAt r i).toD), y4, y5, y6], rfl, ?_, _, _, _, _, _, rfl⟩
      rw [e0, ew]
      simp -implicitDefEqProofs [eq_int]
    | some q =>
      obtain ⟨w, k, lo, hi'⟩ := q
      obtain ⟨e1, e2, hb, f⟩ := two_some h2
      obtain ⟨z4, e3⟩ := turned_inner (μ := μ) hl hi h2 acc (by omega) y4
      have e4 := rg_k2 (μ := stL μ acc) (i := lo) (j := hi' + 1) (by omega) (by omega)
      refine ⟨[some (.d (rowD r)), some (.l μ.length), some (.d (.int (i : Nat))), some (.d (pdAt r i).toD), z4, some (.d (.int lo)), some (.d (.int hi'))], rfl, ?_, _, _, _, _, _, rfl⟩
      rw [e1]
      simp -implicitDefEqProofs [eq_int, sTab, e2, e4]
      rw [e3])
  rw [List.nil_append, ← etot] at e
  have e3 : itEnT (fVar 0) [some (.d (rowD r)), some (.l μ.length), none, none, none, none, none] (stL μ []) = .ok ((List.range r.length).map fun (a : Nat) => PyData.tuple [.int (a : Nat), (pdAt r a).toD]) (stL μ []) := by
    show Rs.ok (enumD (r.map Pd.toD)) (stL μ []) = _
    rw [enum_row]
  refine (sc_nx (env1 := [some (.d (rowD r)), some (.l μ.length), none, none, none, none, none]) (μ1 := stL μ []) ?_).trans ?_
  · simp -implicitDefEqProofs [startE, LIM, stL]
  refine (sc_nx (env1 := [some (.d (rowD r)), some (.l μ.length), y2, y3, y4, y5, y6]) (μ1 := stL μ ((turnL r).map rowD)) ?_).trans ?_
  · rw [e_sFor, e3, Rs.bind_ok]
    exact e
  unfold frz
  simp -implicitDefEqProofs only [List.getElem?_cons_succ, List.getElem?_cons_zero, stL_at, dats_map]
  simp -implicitDefEqProofs [stL]
end
end Ped

/-! PedC2: law 11 -/
namespace Ped
open PySem L2 PyProof.Rows PySem.Spec
/-! ### the law's table of bounds -/
def bndsK : List (Key × Wv) := v_BOUNDS.map fun p => (Sum.inr p.1, .d (.tuple [.int p.2.1, .int p.2.2]))
theorem valW_tab (w : Str) : ∀ tab : List (Str × Int × Int), valW (tab.map fun p => ((Sum.inr p.1 : Key), Wv.d (.tuple [.int p.2.1, .int p.2.2]))) (Sum.inr w : Key) = (tab.lookup w).map fun q => Wv.d (.tuple [.int q.1, .int q.2])
  | [] => rfl
  | (z, lo, hi) :: r => by
    rw [List.map_cons, valW_cons, valW_tab w r]
    by_cases h : z = w
    · subst h
      rw [if_pos rfl, List.lookup_cons_self]
      rfl
    · rw [if_neg fun q => h (Sum.inr.inj q), List.lookup_cons]
      have : (w == z) = false := by simpa using fun q => h q.symm
      rw [this]
theorem merge_bnds : mergeW [] bndsK = bndsK := by with_unfolding_all rfl
section
variable {μ : Sto}
theorem bnds_disp (env : Env) : fDisp (fPsC (fC (.str "louder")) (fTup (fCons (fC (.int 2)) (fCons (fC (.int 4)) (fNil)))) (fPsC (fC (.str "cut")) (fTup (fCons (fC (.int 1)) (fCons (fC (.int 50)) (fNil)))) (fPsC (fC (.str "gate")) (fTup (fCons (fC (.int 1)) (fCons (fC (.int 50)) (fNil)))) (fPsC (fC (.str "lift")) (fTup (fCons (fNeg (fC (.int 20))) (fCons (fC (.int 20)) (fNil)))) (fPsC (fC (.str "steps")) (fTup (fCons (fC (.int 2)) (fCons (fC (.int 5)) (fNil)))) (fPsC (fC (.str "late")) (fTup (fCons (fC (.int 1)) (fCons (fC (.int 5)) (fNil)))) (fPs0))))))) env μ = .ok (.l μ.length) (μ ++ [.dk bndsK]) := by
  unfold fDisp
  have e : ∀ ν : Sto, (fPsC (fC (.str "louder")) (fTup (fCons (fC (.int 2)) (fCons (fC (.int 4)) (fNil)))) (fPsC (fC (.str "cut")) (fTup (fCons (fC (.int 1)) (fCons (fC (.int 50)) (fNil)))) (fPsC (fC (.str "gate")) (fTup (fCons (fC (.int 1)) (fCons (fC (.int 50)) (fNil)))) (fPsC (fC (.str "lift")) (fTup (fCons (fNeg (fC (.int 20))) (fCons (fC (.int 20)) (fNil)))) (fPsC (fC (.str "steps")) (fTup (fCons (fC (.int 2)) (fCons (fC (.int 5)) (fNil)))) (fPsC (fC (.str "late")) (fTup (fCons (fC (.int 1)) (fCons (fC (.int 5)) (fNil)))) (fPs0))))))) env ν = .ok [(.d (.str "louder"), .d (.tuple [.int 2, .int 4])), (.d (.str "cut"), .d (.tuple [.int 1, .int 50])), (.d (.str "gate"), .d (.tuple [.int 1, .int 50])), (.d (.str "lift"), .d (.tuple [.int (-20), .int 20])), (.d (.str "steps"), .d (.tuple [.int 2, .int 5])), (.d (.str "late"), .d (.tuple [.int 1, .int 5]))] ν := fun ν => by
    simp -implicitDefEqProofs [fPsC, fPs0]
  rw [e, Rs.bind_ok]
  have k : keyPs [(.d (.str "louder"), .d (.tuple [.int 2, .int 4])), (.d (.str "cut"), .d (.tuple [.int 1, .int 50])), (.d (.str "gate"), .d (.tuple [.int 1, .int 50])), (.d (.str "lift"), .d (.tuple [.int (-20), .int 20])), (.d (.str "steps"), .d (.tuple [.int 2, .int 5])), (.d (.str "late"), .d (.tuple [.int 1, .int 5]))] = some bndsK := rfl
  have a : (μ ++ [Ob.dk []])[μ.length]? = some (.dk []) := by simp
  simp only [k, a]
  rw [if_pos (by decide), merge_bnds]
  simp
theorem get_bnds {b : Nat} (hb : μ[b]? = some (.dk bndsK)) {w : Str} {lo hi : Int} (h : v_BOUNDS.lookup w = some (lo, hi)) : dgetW (.l b) (.d (.str w)) μ = .ok (.d (.tuple [.int lo, .int hi])) μ := by
  unfold dgetW dGet
  simp only [hb]
  show (match some (valW bndsK (Sum.inr w : Key)) with | some (some w) => Rs.ok w μ | _ => Rs.no) = _
  unfold bndsK
  rw [valW_tab, h]
  rfl
theorem lturned_inner {r : List Pd} (hl : r.length ≤ 6) {i : Nat} (hi : i < r.length) {w : Str} {k lo hi' : Int} (h2 : two (pdAt r i) = some (w, k, lo, hi')) (acc : List D) (hacc : acc.length ≤ 1000) (x1 x4 : Option Wv) :
    ∃ y4, forF (gVar 4) L__law_turned_1 (rangeD lo (hi' + 1 - lo).toNat) [some (.d (rowD r)), x1, some (.l μ.length), some (.d (.int (i : Nat))), x4, some (.d (.str w)), some (.d (.int k)), some (.d (.int lo)), some (.d (.int hi'))] (stL μ acc) = .ok (.nx [some (.d (rowD r)), x1, some (.l μ.length), some (.d (.int (i : Nat))), y4, some (.d (.str w)), some (.d (.int k)), some (.d (.int lo)), some (.d (.int hi'))]) (stL μ (acc ++ (turnAt r i).map rowD)) := by
  obtain ⟨e1, e2, hb, f⟩ := two_some h2
  have et : (turnAt r i).map rowD = (List.range (hi' + 1 - lo).toNat).flatMap fun (j : Nat) => if (!decide (lo + (j : Int) = k) && !decide (lo + (j : Int) = 0)) = true then [rowD (turnF r i (lo + (j : Int)))] else [] := by
    unfold turnAt
    rw [h2]
    simp only
    rw [List.map_flatMap]
    congr 1
    funext j
    split <;> rfl
  have hlen := turnAt_len r i
  have hlen2 : ((turnAt r i).map rowD).length ≤ 50 := by rw [List.length_map]; exact hlen
  rw [et] at hlen2 ⊢
  have er : rangeD lo (hi' + 1 - lo).toNat = (List.range (hi' + 1 - lo).toNat).map fun (j : Nat) => PyData.int (lo + (j : Int)) := rfl
  rw [er]
  obtain ⟨env', e, y4, rfl⟩ := coll (g := gVar 4) (b := L__law_turned_1) (toD := fun (j : Nat) => PyData.int (lo + (j : Int))) (ψ := fun (j : Nat) => if (!decide (lo + (j : Int) = k) && !decide (lo + (j : Int) = 0)) = true then [rowD (turnF r i (lo + (j : Int)))] else []) (μ := μ) (E := fun env => ∃ y4, env = [some (.d (rowD r)), x1, some (.l μ.length), some (.d (.int (i : Nat))), y4, some (.d (.str w)), some (.d (.int k)), some (.d (.int lo)), some (.d (.int hi'))]) 2000 (List.range (hi' + 1 - lo).toNat) acc [some (.d (rowD r)), x1, some (.l μ.length), some (.d (.int (i : Nat))), x4, some (.d (.str w)), some (.d (.int k)), some (.d (.int lo)), some (.d (.int hi'))] ⟨_, rfl⟩ (by omega) (by
    rintro j hj acc env ⟨y4, rfl⟩ hacc
    have hj := List.mem_range.mp hj
    generalize lo + (j : Int) = z at *
    refine ⟨[some (.d (rowD r)), x1, some (.l μ.length), some (.d (.int (i : Nat))), some (.d (.int z)), some (.d (.str w)), some (.d (.int k)), some (.d (.int lo)), some (.d (.int hi'))], [some (.d (rowD r)), x1, some (.l μ.length), some (.d (.int (i : Nat))), some (.d (.int z)), some (.d (.str w)), some (.d (.int k)), some (.d (.int lo)), some (.d (.int hi'))], rfl, ?_, _, rfl⟩
    have ein := in_ints (μ := stL μ acc) true z [0, k]
    simp -implicitDefEqProofs at ein
    by_cases hk : z = k
    · subst hk
      simp -implicitDefEqProofs [ein]
    · by_cases hz : z = 0
      · rw [hz] at hk ein ⊢
        simp -implicitDefEqProofs [ein]
      · have ea := app_D (μ := μ) (acc := acc) (x := rowD (turnF r i z)) (by simp [hk, hz] at hacc; omega) (f := fVar 2) (g := fOp addW (fOp addW (fSl (fVar 0) (fO0) (fO1 (fVar 3))) (fTup (fCons (fTup (fCons (fVar 5) (fCons (fVar 4) (fNil)))) (fNil)))) (fSl (fVar 0) (fO1 (fOp addW (fVar 3) (fC (.int 1)))) (fO0))) (env := [some (.d (rowD r)), x1, some (.l μ.length), some (.d (.int (i : Nat))), some (.d (.int z)), some (.d (.str w)), some (.d (.int k)), some (.d (.int lo)), some (.d (.int hi'))]) rfl (by
          have hp := put_row (μ := stL μ acc) hl (i := i) (p := reknob (pdAt r i) z)
          rw [(f z).1] at hp
          simp only [sl_to, sl_from, Rs.bind_ok] at hp
          simp -implicitDefEqProofs [sl_to, sl_from]
          exact hp)
        simp -implicitDefEqProofs [ein, hk, hz]
        rw [ea]
        simp)
  exact ⟨y4, e⟩
theorem lturned_ok {r : List Pd} (hl : r.length ≤ 6) : g__law_turned [.d (rowD r)] μ = .ok (.d (.list ((turnL r).map rowD))) μ := by
  unfold g__law_turned
  refine run_app (ν := [.dk bndsK, .dead]) ?_
  unfold B__law_turned
  have hlen := turnL_len r
  have etot : (turnL r).map rowD = (List.range r.length).flatMap fun i => (turnAt r i).map rowD := by
    unfold turnL
    rw [List.map_flatMap]
  have ed := bnds_disp (μ := μ) [some (.d (rowD r)), none, none, none, none, none, none, none, none]
  have hat : ∀ acc, (stL (μ ++ [Ob.dk bndsK]) acc)[μ.length]? = some (.dk bndsK) := fun acc => by unfold stL; simp
  generalize hM : μ ++ [Ob.dk bndsK] = M at ed hat
  have hML : M.length = μ.length + 1 := by rw [← hM]; simp
  obtain ⟨env', e, y3, y4, y5, y6, y7, y8, rfl⟩ := coll (g := gVar 3) (b := L__law_turned_2) (toD := fun (a : Nat) => PyData.int (a : Nat)) (ψ := fun i => (turnAt r i).map rowD) (μ := M) (E := fun env => ∃ y3 y4 y5 y6 y7 y8, env = [some (.d (rowD r)), some (.l μ.length), some (.l M.length), y3, y4, y5, y6, y7, y8]) 500 (List.range r.length) [] [some (.d (rowD r)), some (.l μ.length), some (.l M.length), none, none, none, none, none, none] ⟨_, _, _, _, _, _, rfl⟩ (by rw [← etot, List.length_map, List.length_nil]; omega) (by
    rintro i hi acc env ⟨y3, y4, y5, y6, y7, y8, rfl⟩ hacc
    have hi := List.mem_range.mp hi
    have eix := ix_row (μ := stL M acc) hi
    refine ⟨[some (.d (rowD r)), some (.l μ.length), some (.l M.length), some (.d (.int (i : Nat))), y4, y5, y6, y7, y8], ?_⟩
    cases h2 : two (pdAt r i) with
    | none =>
      obtain ⟨w, ew⟩ := two_none h2
      have e0 : turnAt r i = [] := by unfold turnAt; rw [h2]
      rw [ew] at eix
      refine ⟨[some (.d (rowD r)), some (.l μ.length), some (.l M.length), some (.d (.int (i : Nat))), y4, y5, y6, y7, y8], rfl, ?_, _, _, _, _, _, _, rfl⟩
      rw [e0]
      simp -implicitDefEqProofs [eq_int, eix]
    | some q =>
      obtain ⟨w, k, lo, hi'⟩ := q
      obtain ⟨e1, e2, hb, f⟩ := two_some h2
      obtain ⟨z4, e3⟩ := lturned_inner (μ := M) hl hi h2 acc (by omega) (some (.l μ.length)) y4
      have e4 := rg_k2 (μ := stL M acc) (i := lo) (j := hi' + 1) (by omega) (by omega)
      have e5 := get_bnds (hat acc) e2
      rw [e1] at eix
      refine ⟨[some (.d (rowD r)), some (.l μ.length), some (.l M.length), some (.d (.int (i : Nat))), z4, some (.d (.str w)), some (.d (.int k)), some (.d (.int lo)), some (.d (.int hi'))], rfl, ?_, _, _, _, _, _, _, rfl⟩
      simp -implicitDefEqProofs [eq_int, eix, gTupF, gsCons, gsNil, fDget, e5, e4]
      rw [e3])
  rw [List.nil_append, ← etot] at e
  have rr := rg_k (μ := stL M []) (show r.length ≤ 1000000 by omega)
  refine (sc_nx (env1 := [some (.d (rowD r)), some (.l μ.length), none, none, none, none, none, none, none]) (μ1 := M) ?_).trans ?_
  · show sAsg _ _ [some (.d (rowD r)), none, none, none, none, none, none, none, none] μ = _
    rw [e_sAsg, ed]
    rfl
  refine (sc_nx (env1 := [some (.d (rowD r)), some (.l μ.length), some (.l M.length), none, none, none, none, none, none]) (μ1 := stL M []) ?_).trans ?_
  · simp -implicitDefEqProofs [LIM, stL]
  refine (sc_nx (env1 := [some (.d (rowD r)), some (.l μ.length), some (.l M.length), y3, y4, y5, y6, y7, y8]) (μ1 := stL M ((turnL r).map rowD)) ?_).trans ?_
  · simp -implicitDefEqProofs [len_row, rr]
    rw [rangeD_eq]
    exact e
  unfold frz
  simp -implicitDefEqProofs only [List.getElem?_cons_succ, List.getElem?_cons_zero, stL_at, dats_map]
  simp -implicitDefEqProofs [stL]
  rw [← hM]
  simp
/-! ### sorted rows -/
theorem alike_row (a b : List Pd) : PySem.W.alike (rowD a) (rowD b) = true := by
  show PySem.W.alikeAll (a.map Pd.toD) (b.map Pd.toD) = true
  induction a generalizing b with
  | nil => rfl
  | cons p a ih =>
    cases b with
    | nil => rfl
    | cons q b =>
      show (PySem.W.alike p.toD q.toD && PySem.W.alikeAll (a.map Pd.toD) (b.map Pd.toD)) = true
      rw [ih b, Bool.and_true]
      cases p <;> cases q <;> rfl
def srtR (rs : List (List Pd)) : List D := (rs.map rowD).mergeSort (PySem.W.dataLe false id)
theorem sorted_rows {rs : List (List Pd)} (h : ∀ s ∈ rs, 0 < s.length) : kSorted [.d (.list (rs.map rowD))] μ = .ok (.d (.list (srtR rs))) μ := by
  unfold kSorted
  dsimp only
  rw [if_pos]
  · rfl
  · refine ⟨fun d hd d' hd' => ?_, .inl fun d hd => ?_, fun d hd => ?_⟩
    · obtain ⟨a, _, rfl⟩ := List.mem_map.mp hd
      obtain ⟨b, _, rfl⟩ := List.mem_map.mp hd'
      exact alike_row a b
    · obtain ⟨a, ha, rfl⟩ := List.mem_map.mp hd
      have := h a ha
      cases a with
      | nil => simp at this
      | cons p a => exact ⟨_, _, rfl⟩
    · obtain ⟨a, _, rfl⟩ := List.mem_map.mp hd
      have := (shp_row a).2
      omega
theorem shp_srt (rs : List (List Pd)) : Shp 3 (.list (srtR rs)) := Shp.lst fun d hd => by
  have hd := (List.mergeSort_perm _ _).mem_iff.mp hd
  obtain ⟨a, _, rfl⟩ := List.mem_map.mp hd
  exact shp_row a
def knobL (r s : List Pd) : List (List Pd) := (turnL r).filter fun t => isNoneD (partingD [t] [s])
theorem knobs_ok {r s : List Pd} (hr : rowOk r) (hl : r.length ≤ 6) (hs : rowOk s) (hsl : s.length ≤ 6) : g_knobs [.d (rowD r), .d (rowD s)] μ = .ok (.d (.list (srtR (knobL r s)))) μ := by
  have hlen := turnL_len r
  have c1 := comp_filter (g := gVar 2) (t := fB (fOp (isNW false) (fCall (callD 2 g_parting_of) (fCons (fTup (fCons (fVar 2) (fNil))) (fCons (fTup (fCons (fVar 1) (fNil))) (fNil)))) (fC .none))) (e := fVar 2) (env := [some (.d (rowD r)), some (.d (rowD s)), none]) (toD := rowD) (q := fun t => isNoneD (partingD [t] [s])) (φ := rowD) (turnL r) μ [] (fun t ht => by
    obtain ⟨t1, t2, t3⟩ := turn_ok hr ht
    have ep := parting_ok (μ := μ) (bok_row t1 (by omega)) (bok_row hs hsl)
    simp only [boardD, List.map_cons, List.map_nil] at ep
    exact ⟨_, rfl, by simp -implicitDefEqProofs [ep], fun _ => rfl⟩) (by simp [LIM]; omega)
  rw [List.nil_append] at c1
  have es := sorted_rows (μ := μ) (rs := knobL r s) fun t ht => (turn_ok hr (List.mem_filter.mp ht).1).2.2
  have ek : (turnL r).filter (fun t => isNoneD (partingD [t] [s])) = knobL r s := rfl
  rw [ek] at c1
  unfold g_knobs
  refine run_0 ?_
  unfold B_knobs
  simp -implicitDefEqProofs [startE, need_row_ok hr hl, need_row_ok hs hsl, turned_ok hl]
  rw [c1]
  simp -implicitDefEqProofs [es]
end
theorem cut_last {α : Type} (xs : List α) (x : α) : cut (xs ++ [x]) none (some (-1)) = xs := by
  unfold cut
  have h1 : HT.sIx (xs ++ [x]).length 0 none = 0 := rfl
  have h2 : HT.sIx (xs ++ [x]).length (xs ++ [x]).length (some (-1)) = xs.length := by
    unfold HT.sIx
    simp
    omega
  rw [h1, h2, List.drop_zero, Nat.sub_zero, List.take_left]
theorem body11 (ns : List Int) (k : Nat) (hk : k < 100) (rest : Env) (μ : Sto) (hr : rest.length = 6) : ∃ rest' μ', L_law_11_1 (some (.s ns) :: some (.d (.int (k : Nat))) :: rest) μ = .ok (.nx (some (.s ns) :: some (.d (.int (k : Nat))) :: rest')) μ' ∧ rest'.length = 6 := by
  obtain ⟨x2, x3, x4, x5, x6, x7, rfl⟩ := len6 hr
  obtain ⟨ν, eb, B0⟩ := turn_bag ns k hk μ
  generalize μ.length = n at eb B0
  obtain ⟨r, μ1, e1, rok, rl, _, s1⟩ := pedals_ok B0 3 (by decide) true
  have hl : r.length ≤ 6 := by omega
  have hlen := turnL_len r
  have e2 := lturned_ok (μ := μ1) hl
  obtain ⟨d, μ2, e3, hd, s2⟩ := of_ok (s1.bg B0) (xs := (turnL r).map rowD ++ [rowD r]) (by simp) (by simp; omega)
  have hd : ∃ s, d = rowD s ∧ rowOk s ∧ s.length ≤ 6 := by
    rcases List.mem_append.mp hd with hd | hd
    · obtain ⟨s, hs, rfl⟩ := List.mem_map.mp hd
      obtain ⟨a, b, _⟩ := turn_ok rok hs
      exact ⟨s, rfl, a, by omega⟩
    · exact ⟨r, List.mem_singleton.mp hd, rok, hl⟩
  obtain ⟨s, rfl, sok, sl⟩ := hd
  have s12 := s1.trans s2
  obtain ⟨t, μ3, e4, t0, t1, s3⟩ := take_ok (s12.bg B0) (m := 2) (by decide) (by decide)
  have s13 := s12.trans s3
  -- the other row, perhaps another one
  obtain ⟨s', μ4, e5, sok', sl'⟩ : ∃ s' μ4, (sIf (fB (fOp (eqW false) (fCall (callD 2 g__law_take) (fCons (fVar 2) (fCons (fC (.int 2)) (fNil)))) (fC (.int 0)))) (sAsg (fCall (callD 2 g__law_other) (fCons (fVar 2) (fCons (fVar 5) (fNil)))) (gVar 5)) (sNil)) [some (.s ns), some (.d (.int (k : Nat))), some (.l n), some (.d (rowD r)), some (.d (.list ((turnL r).map rowD ++ [rowD r]))), some (.d (rowD s)), x6, x7] μ2 = .ok (.nx [some (.s ns), some (.d (.int (k : Nat))), some (.l n), some (.d (rowD r)), some (.d (.list ((turnL r).map rowD ++ [rowD r]))), some (.d (rowD s')), x6, x7]) μ4 ∧ rowOk s' ∧ s'.length ≤ 6 := by
    by_cases ht : t = 0
    · obtain ⟨s', μ4, e5, a, b, _⟩ := other_ok (s13.bg B0) sok sl
      refine ⟨s', μ4, ?_, a, b⟩
      subst ht
      simp -implicitDefEqProofs [e4, eq_int, e5]
    · refine ⟨s, μ3, ?_, sok, sl⟩
      simp -implicitDefEqProofs [e4, eq_int, ht]
  have c1 := comp_filter (g := gVar 7) (t := fB (fOp (isNW false) (fCall (callD 2 g__law_softest) (fCons (fTup (fCons (fVar 7) (fNil))) (fCons (fTup (fCons (fVar 5) (fNil))) (fNil)))) (fC .none))) (e := fVar 7) (env := [some (.s ns), some (.d (.int (k : Nat))), some (.l n), some (.d (rowD r)), some (.d (.list ((turnL r).map rowD ++ [rowD r]))), some (.d (rowD s')), x6, none]) (toD := rowD) (q := fun t => isNoneD (partingD [t] [s'])) (φ := rowD) (turnL r) μ4 [] (fun t ht => by
    obtain ⟨t1, t2, t3⟩ := turn_ok rok ht
    have ep := softest_ok (μ := μ4) (bok_row t1 (by omega)) (bok_row sok' sl')
    simp only [boardD, List.map_cons, List.map_nil] at ep
    refine ⟨_, rfl, ?_, fun _ => rfl⟩
    rw [← soft_none]
    simp -implicitDefEqProofs [ep]) (by simp [LIM]; omega)
  have ek : (turnL r).filter (fun t => isNoneD (partingD [t] [s'])) = knobL r s' := rfl
  rw [List.nil_append, ek] at c1
  have e6 := knobs_ok (μ := μ4) rok hl sok' sl'
  have e7 := sorted_rows (μ := μ4) (rs := knobL r s') fun t ht => (turn_ok rok (List.mem_filter.mp ht).1).2.2
  have e8 := ne_same (μ := μ4) (shp_srt (knobL r s')) (by decide)
  have ec := cut_last ((turnL r).map rowD) (rowD r)
  refine ⟨[some (.l n), some (.d (rowD r)), some (.d (.list ((turnL r).map rowD ++ [rowD r]))), some (.d (rowD s')), some (.d (.list ((knobL r s').map rowD))), x7], μ4, ?_, rfl⟩
  have hadd : ((turnL r).map rowD).length + 1 ≤ 16000000 := by rw [List.length_map]; omega
  unfold L_law_11_1
  refine (sc_nx (env1 := [some (.s ns), some (.d (.int (k : Nat))), some (.l n), x3, x4, x5, x6, x7]) (μ1 := ν) ?_).trans ?_
  · simp -implicitDefEqProofs [eb]
  refine (sc_nx (env1 := [some (.s ns), some (.d (.int (k : Nat))), some (.l n), some (.d (rowD r)), x4, x5, x6, x7]) (μ1 := μ1) ?_).trans ?_
  · simp -implicitDefEqProofs at e1
    simp -implicitDefEqProofs [e1]
  refine (sc_nx (env1 := [some (.s ns), some (.d (.int (k : Nat))), some (.l n), some (.d (rowD r)), some (.d (.list ((turnL r).map rowD ++ [rowD r]))), x5, x6, x7]) (μ1 := μ1) ?_).trans ?_
  · have ea : addW (.d (.list ((turnL r).map rowD))) (.d (.list [rowD r])) μ1 = .ok (.d (.list ((turnL r).map rowD ++ [rowD r]))) μ1 := by
      rw [o_addL, if_pos (by simpa [LIM] using hadd)]
    simp -implicitDefEqProofs [e2, ea]
  refine (sc_nx (env1 := [some (.s ns), some (.d (.int (k : Nat))), some (.l n), some (.d (rowD r)), some (.d (.list ((turnL r).map rowD ++ [rowD r]))), some (.d (rowD s)), x6, x7]) (μ1 := μ2) ?_).trans ?_
  · simp -implicitDefEqProofs [e3]
  refine (sc_nx e5).trans ?_
  refine (sc_nx (env1 := [some (.s ns), some (.d (.int (k : Nat))), some (.l n), some (.d (rowD r)), some (.d (.list ((turnL r).map rowD ++ [rowD r]))), some (.d (rowD s')), some (.d (.list ((knobL r s').map rowD))), x7]) (μ1 := μ4) ?_).trans ?_
  · simp -implicitDefEqProofs [ec]
    rw [c1]
    rfl
  · simp -implicitDefEqProofs [e6, e7, e8]
theorem law11 (ns : List Int) : ∃ μ, g_law_11 [.s ns] [] = .ok (.d (.bool true)) μ :=
  law_true (m := 6) ns (by decide) fun k rest μ hk hr => body11 ns k hk rest μ hr
end Ped

/-! PedK1: what the validators say of any value -/
namespace Ped
open PySem L2 PyProof.Rows PySem.Spec
/-- a value to a depth -/
def Val : Nat → D → Prop
  | _, .none => True
  | _, .bool _ => True
  | _, .int _ => True
  | _, .str z => (PyData.str z).canLay0 = true
  | n + 1, .list xs => xs.length ≤ 1000 ∧ ∀ x ∈ xs, Val n x
  | n + 1, .tuple xs => xs.length ≤ 1000 ∧ ∀ x ∈ xs, Val n x
  | _, _ => False
theorem Val.shp : ∀ {n : Nat} {d : D}, Val n d → Shp n d
  | n, .none, _ => .non n
  | n, .bool _, _ => .bool _ n
  | n, .int _, _ => .int _ n
  | n, .str z, h => .str (by cases n <;> exact h) n
  | n + 1, .list xs, h => .lst fun x hx => Val.shp (h.2 x hx)
  | n + 1, .tuple xs, h => .tup fun x hx => Val.shp (h.2 x hx)
  | 0, .list _, h => h.elim
  | 0, .tuple _, h => h.elim
  | 0, .dict _, h => h.elim
  | n + 1, .dict _, h => h.elim
theorem Val.str {n : Nat} {z : Str} (h : (PyData.str z).canLay0 = true) : Val n (.str z) := by cases n <;> exact h
theorem Val.up : ∀ {n : Nat} {d : D}, Val n d → Val (n + 1) d
  | n, .none, _ => trivial
  | n, .bool _, _ => trivial
  | n, .int _, _ => trivial
  | n, .str z, h => by cases n <;> exact h
  | n + 1, .list xs, h => ⟨h.1, fun x hx => Val.up (h.2 x hx)⟩
  | n + 1, .tuple xs, h => ⟨h.1, fun x hx => Val.up (h.2 x hx)⟩
  | 0, .list _, h => h.elim
  | 0, .tuple _, h => h.elim
  | 0, .dict _, h => h.elim
  | n + 1, .dict _, h => h.elim
theorem Val.mono {m n : Nat} (h : m ≤ n) {d : D} (v : Val m d) : Val n d := by
  obtain ⟨k, rfl⟩ := Nat.le.dest h
  clear h
  induction k with
  | zero => exact v
  | succ k ih => exact ih.up
theorem Val.tup {n : Nat} {xs : List D} (h : xs.length ≤ 1000) (hx : ∀ x ∈ xs, Val n x) : Val (n + 1) (.tuple xs) := ⟨h, hx⟩
/-! ### what they say -/
def numB : D → Bool
  | .int _ => true
  | _ => false
def knobB (s : Str) (d : D) : Bool := match v_BOUNDS.lookup s, d with
  | some (lo, hi), .int k => decide (lo ≤ k) && decide (k ≤ hi) && !decide (k = 0)
  | _, _ => false
def pedB : D → Bool
  | .tuple [.str s] => decide (s = "turn" ∨ s = "fold")
  | .tuple [.str s, d] => knobB s d
  | _ => false
def rowB : D → Bool
  | .tuple xs => decide (xs.length ≤ 6) && xs.all pedB
  | _ => false
def boardB : D → Bool
  | .tuple xs => decide (1 ≤ xs.length) && decide (xs.length ≤ 3) && xs.all rowB
  | _ => false
def soundB : D → Bool
  | .tuple xs => xs.all numB && decide (xs.length ≤ 40)
  | _ => false
def lateB : D → Bool
  | .tuple (.str s :: _) => decide (s = "late")
  | _ => false
def lotB : D → Bool
  | .tuple xs => decide (xs.length ≤ 6) && xs.all pedB && decide (1 ≤ xs.length) && decide (xs.length ≤ 5) && xs.all fun d => !lateB d
  | _ => false
section
variable {μ : Sto}
theorem is_number_v (d : D) : g_is_number [.d d] μ = .ok (.d (.bool (numB d))) μ := by
  unfold g_is_number
  refine run_0 ?_
  unfold B_is_number
  cases d <;> simp [startE, isTy, tyD, numB]
theorem look_of {s : Str} (h : ¬(s = "turn" ∨ s = "fold")) : True := trivial
theorem lookPlain {s : Str} (h : s = "turn" ∨ s = "fold") : v_BOUNDS.lookup s = none := by
  rcases h with rfl | rfl
  · exact look_turn
  · exact look_fold
theorem isTy_T (d : D) : isTy "tuple" d = (match d with | .tuple _ => true | _ => false) := by cases d <;> rfl
theorem isTy_S (d : D) : isTy "str" d = (match d with | .str _ => true | _ => false) := by cases d <;> rfl
theorem isTy_I (d : D) : isTy "int" d = (match d with | .int _ => true | .bool _ => true | _ => false) := by cases d <;> rfl
theorem isTy_B (d : D) : isTy "bool" d = (match d with | .bool _ => true | _ => false) := by cases d <;> rfl
theorem tup_eq0 (n : Bool) {xs : List D} {m : Nat} (h : Val m (.tuple xs)) (hm : m ≤ 64) : eqW n (.d (.tuple xs)) (.d (.tuple [])) μ = .ok (.d (.bool (if n then !xs.isEmpty else xs.isEmpty))) μ := by
  rw [eq_dd n (h.shp.shaped hm) shp_nil]
  cases xs <;> simp [PyData.eqv, PyData.eqvAll]
theorem lst_eq0 (n : Bool) {xs : List D} {m : Nat} (h : ∀ x ∈ xs, Val m x) (hm : m ≤ 63) : eqW n (.d (.list xs)) (.d (.list [])) μ = .ok (.d (.bool (if n then !xs.isEmpty else xs.isEmpty))) μ := by
  rw [eq_dd n ((Shp.lst fun x hx => (h x hx).shp).shaped (by omega)) rfl]
  cases xs <;> simp [PyData.eqv, PyData.eqvAll]
theorem is_pedal_v {n : Nat} {v : D} (h : Val n v) (hn : n ≤ 60) : g_is_pedal [.d v] μ = .ok (.d (.bool (pedB v))) μ := by
  unfold g_is_pedal
  refine run_0 ?_
  unfold B_is_pedal
  cases v with
  | tuple xs =>
    have e0 := tup_eq0 (μ := μ) false h (by omega)
    match xs with
    | [] => simp [startE, e0, pedB]
    | x :: r =>
      cases x with
      | str s =>
        by_cases hp : s = "turn" ∨ s = "fold"
        · have hl := lookPlain hp
          match r with
          | [] => simp [startE, e0, pedB, hp, eq_int]
          | [d] => simp [startE, e0, pedB, hp, eq_int, knobB, hl]
          | d :: e :: r => simp [startE, e0, pedB, hp, eq_int]; omega
        · cases hl : v_BOUNDS.lookup s with
          | none =>
            match r with
            | [] => simp [startE, e0, pedB, hp, hl]
            | [d] => simp [startE, e0, pedB, hp, hl, knobB]
            | d :: e :: r => simp [startE, e0, pedB, hp, hl]
          | some q =>
            obtain ⟨lo, hi⟩ := q
            match r with
            | [] => simp [startE, e0, pedB, hp, hl, eq_int]
            | [d] =>
              cases d with
              | int k =>
                by_cases h1 : lo ≤ k
                · by_cases h2 : k ≤ hi <;> simp [startE, e0, pedB, hp, hl, eq_int, is_number_v, numB, knobB, sTab, h1, h2]
                · simp [startE, e0, pedB, hp, hl, eq_int, is_number_v, numB, knobB, sTab, h1]
              | _ => simp [startE, e0, pedB, hp, hl, eq_int, is_number_v, numB, knobB, sTab]
            | d :: e :: r =>
              have : ¬ ((r.length : Int) + 1 + 1 + 1 = 2) := by omega
              simp [startE, e0, pedB, hp, hl, eq_int, this]
      | _ => simp [startE, e0, pedB, isTy_S]
  | _ => simp [startE, pedB, isTy_T]
end
end Ped

/-! PedK2: .. and the law's own -/
namespace Ped
open PySem L2 PyProof.Rows PySem.Spec
section
variable {μ : Sto}
theorem all_comp {g : List Wv → Sto → Rs Wv} {q : D → Bool} (env : Env) (i : Nat) (hi : i < env.length) {xs : List D} (hx : xs.length ≤ 1000) (h : ∀ x ∈ xs, g [.d x] μ = .ok (.d (.bool (q x))) μ) :
    compF (gVar i) fYes (fCall (callD 1 g) (fCons (fVar i) fNil)) env xs μ [] = .ok (xs.map fun x => .bool (q x)) μ := by
  have := comp_map (g := gVar i) (e := fCall (callD 1 g) (fCons (fVar i) fNil)) (env := env) (toD := fun d : D => d) (φ := fun x => .bool (q x)) xs μ [] (fun x hx => ⟨_, rfl, by simp [hi, h x hx]⟩) (by simp [LIM]; omega)
  simpa using this
theorem kAll_map (q : D → Bool) (xs : List D) : kAll [.d (.list (xs.map fun x => .bool (q x)))] μ = .ok (.d (.bool (xs.all q))) μ := by
  have := k_all_b (μ := μ) (xs.map q)
  rw [List.map_map] at this
  simpa [List.all_map, Function.comp_def] using this
theorem is_row_v {n : Nat} {v : D} (h : Val n v) (hn : n ≤ 60) : g_is_row [.d v] μ = .ok (.d (.bool (rowB v))) μ := by
  unfold g_is_row
  refine run_0 ?_
  unfold B_is_row
  cases v with
  | tuple xs =>
    cases n with
    | zero => exact h.elim
    | succ n =>
      have e := fun x => all_comp (μ := μ) (g := g_is_pedal) (q := pedB) [x, none] 1 (by simp) h.1 fun x hx => is_pedal_v (h.2 x hx) (by omega)
      by_cases h6 : xs.length ≤ 6
      · have h6' : (xs.length : Int) ≤ 6 := by omega
        simp [startE, e, kAll_map, rowB, h6, h6']
      · have h6' : ¬ (xs.length : Int) ≤ 6 := by omega
        simp [startE, rowB, h6, h6']
  | _ => simp [startE, rowB, isTy_T]
theorem is_board_v {n : Nat} {v : D} (h : Val n v) (hn : n ≤ 60) : g_is_board [.d v] μ = .ok (.d (.bool (boardB v))) μ := by
  unfold g_is_board
  refine run_0 ?_
  unfold B_is_board
  cases v with
  | tuple xs =>
    cases n with
    | zero => exact h.elim
    | succ n =>
      have e := fun x => all_comp (μ := μ) (g := g_is_row) (q := rowB) [x, none] 1 (by simp) h.1 fun x hx => is_row_v (h.2 x hx) (by omega)
      by_cases h1 : 1 ≤ xs.length
      · have h1' : (1 : Int) ≤ (xs.length : Int) := by omega
        by_cases h6 : xs.length ≤ 3
        · have h6' : (xs.length : Int) ≤ 3 := by omega
          simp [startE, e, kAll_map, boardB, h6, h6', h1, h1']
        · have h6' : ¬ (xs.length : Int) ≤ 3 := by omega
          simp [startE, boardB, h6, h6', h1, h1']
      · have h1' : ¬ (1 : Int) ≤ (xs.length : Int) := by omega
        simp [startE, boardB, h1, h1']
  | _ => simp [startE, boardB, isTy_T]
theorem is_sound_v {n : Nat} {v : D} (h : Val n v) (hn : n ≤ 60) : g_is_sound [.d v] μ = .ok (.d (.bool (soundB v))) μ := by
  unfold g_is_sound
  refine run_0 ?_
  unfold B_is_sound
  have ea : g_are_numbers [.d v] μ = .ok (.d (.bool (match v with | .tuple xs => xs.all numB | _ => false))) μ := by
    unfold g_are_numbers
    refine run_0 ?_
    unfold B_are_numbers
    cases v with
    | tuple xs =>
      cases n with
      | zero => exact h.elim
      | succ n =>
        have e := fun x => all_comp (μ := μ) (g := g_is_number) (q := numB) [x, none] 1 (by simp) h.1 fun x hx => is_number_v x
        simp [startE, e, kAll_map]
    | _ => simp [startE, isTy_T]
  cases v with
  | tuple xs =>
    simp only at ea
    cases ha : xs.all numB with
    | true =>
      rw [ha] at ea
      by_cases h6 : xs.length ≤ 40
      · have h6' : (xs.length : Int) ≤ 40 := by omega
        simp [startE, ea, soundB, ha, h6, h6']
      · have h6' : ¬ (xs.length : Int) ≤ 40 := by omega
        simp [startE, ea, soundB, ha, h6, h6']
    | false =>
      rw [ha] at ea
      simp [startE, ea, soundB, ha]
  | _ =>
    simp only at ea
    simp [startE, ea, soundB]
/-- a pedal's first part -/
def headD : D → D
  | .tuple (x :: _) => x
  | _ => .none
theorem ped_head {d : D} (h : pedB d = true) : ∃ s r, d = .tuple (.str s :: r) := by
  unfold pedB at h
  split at h
  · exact ⟨_, _, rfl⟩
  · exact ⟨_, _, rfl⟩
  · cases h
theorem any_late : ∀ {xs : List D}, xs.all pedB = true → (∃ ss : List Str, xs.map headD = ss.map PyData.str) ∧ ((xs.map headD).any fun z => PyData.eqv z (.str "late")) = !(xs.all fun d => !lateB d)
  | [], _ => ⟨⟨[], rfl⟩, rfl⟩
  | d :: r, h => by
    rw [List.all_cons, Bool.and_eq_true] at h
    obtain ⟨s, t, rfl⟩ := ped_head h.1
    obtain ⟨⟨ss, e⟩, e2⟩ := any_late h.2
    refine ⟨⟨s :: ss, by simp [headD, e]⟩, ?_⟩
    rw [List.map_cons, List.any_cons, e2, List.all_cons]
    simp [headD, lateB]
theorem is_lot_v {n : Nat} {v : D} (h : Val n v) (hn : n ≤ 60) : g_is_lot [.d v] μ = .ok (.d (.bool (lotB v))) μ := by
  unfold g_is_lot
  refine run_0 ?_
  unfold B_is_lot
  have er := is_row_v (μ := μ) h hn
  cases v with
  | tuple xs =>
    cases n with
    | zero => exact h.elim
    | succ n =>
      unfold rowB at er
      by_cases h6 : xs.length ≤ 6
      · cases ha : xs.all pedB with
        | true =>
          simp only [h6, ha, decide_true, Bool.and_true] at er
          by_cases h1 : 1 ≤ xs.length
          · have h1' : (1 : Int) ≤ (xs.length : Int) := by omega
            by_cases h5 : xs.length ≤ 5
            · have h5' : (xs.length : Int) ≤ 5 := by omega
              have e := fun x => comp_map (g := gVar 1) (e := fOp ixW (fVar 1) (fC (.int 0))) (env := [x, none]) (toD := fun d : D => d) (φ := headD) xs μ [] (fun d hd => ⟨_, rfl, by
                obtain ⟨s, r, rfl⟩ := ped_head (List.all_eq_true.mp ha d hd)
                simp [headD]⟩) (by simp [LIM]; omega)
              simp only [List.map_id', List.nil_append] at e
              obtain ⟨⟨ss, e1⟩, e2⟩ := any_late ha
              have e3 : inW true (.d (.str "late")) (.d (.list (xs.map headD))) μ = .ok (.d (.bool (xs.all fun d => !lateB d))) μ := by
                have : (if (flatD (.str ("late" : Str)) = true ∧ (xs.map headD).all flatD = true) ∨ (SeqAt.shaped (.str ("late" : Str)) = true ∧ SeqAt.shaped (.list (xs.map headD)) = true) then Rs.ok (Wv.d (.bool (if true = true then !((xs.map headD).any fun z => PyData.eqv z (.str "late")) else (xs.map headD).any fun z => PyData.eqv z (.str "late")))) μ else Rs.no) = .ok (.d (.bool (xs.all fun d => !lateB d))) μ := by
                  rw [if_pos (.inl ⟨rfl, by rw [e1]; simp [flatD]⟩), e2]
                  simp
                exact this
              simp [startE, er, h1, h1', h5, h5', e, e3, lotB, h6, ha]
            · have h5' : ¬ (xs.length : Int) ≤ 5 := by omega
              simp [startE, er, h1, h1', h5, h5', lotB]
          · have h1' : ¬ (1 : Int) ≤ (xs.length : Int) := by omega
            simp [startE, er, h1, h1', lotB]
        | false =>
          simp only [h6, ha, decide_true, Bool.and_false] at er
          simp [startE, er, lotB, ha]
      · simp only [h6, decide_false, Bool.false_and] at er
        simp [startE, er, lotB, h6]
  | _ =>
    simp only [rowB] at er
    simp [startE, er, lotB]
/-! ### the law's own -/
theorem in_two (s : Str) : inW false (.d (.str s)) (.d (.list [.str "turn", .str "fold"])) μ = .ok (.d (.bool (decide (s = "turn" ∨ s = "fold")))) μ := by
  have : (if (flatD (.str s) = true ∧ ([.str "turn", .str "fold"] : List D).all flatD = true) ∨ (SeqAt.shaped (.str s) = true ∧ SeqAt.shaped (.list ([.str "turn", .str "fold"] : List D)) = true) then Rs.ok (Wv.d (.bool (if false = true then !(([.str "turn", .str "fold"] : List D).any fun z => PyData.eqv z (.str s)) else ([.str "turn", .str "fold"] : List D).any fun z => PyData.eqv z (.str s)))) μ else Rs.no) = .ok (.d (.bool (decide (s = "turn" ∨ s = "fold")))) μ := by
    rw [if_pos (.inl ⟨rfl, rfl⟩), if_neg Bool.false_ne_true]
    congr 3
    simp only [List.any_cons, List.any_nil, eqv_str, Bool.or_false]
    by_cases h1 : s = "turn" <;> by_cases h2 : s = "fold" <;> simp [h1, h2, eq_comm]
  exact this
def loOf (s : Str) : Int := match v_BOUNDS.lookup s with
  | some (lo, _) => lo
  | none => 1
def hiOf (s : Str) : Int := match v_BOUNDS.lookup s with
  | some (_, hi) => hi
  | none => 0
def inB (lo hi : Int) : D → Bool
  | .int k => decide (lo ≤ k) && decide (k ≤ hi) && !decide (k = 0)
  | _ => false
theorem knob_in (s : Str) (d : D) : knobB s d = inB (loOf s) (hiOf s) d := by
  unfold knobB loOf hiOf
  cases v_BOUNDS.lookup s with
  | none =>
    cases d <;> try rfl
    rename_i k
    by_cases c1 : (1 : Int) ≤ k
    · have c2 : ¬ k ≤ 0 := by omega
      simp [inB, c1, c2]
    · simp [inB, c1]
  | some q => cases d <;> rfl
theorem get_def {b : Nat} (hb : μ[b]? = some (.dk bndsK)) (s : Str) {env : Env} {i : Nat} {x : D} {r : List D} (h0 : env[0]? = some (some (.d (.tuple (.str s :: r))))) (h1 : env[1]? = some (some (.l b))) :
    fDget2 (fVar 1) (fOp ixW (fVar 0) (fC (.int 0))) (fTup (fCons (fC (.int 1)) (fCons (fC (.int 0)) (fNil)))) env μ = .ok (.d (.tuple [.int (loOf s), .int (hiOf s)])) μ := by
  have e1 : dGet μ (.l b) (.d (.str s)) = some (valW bndsK (Sum.inr s : Key)) := by
    unfold dGet
    simp only [hb]
    rfl
  unfold fDget2
  simp only [e_var, h1, Rs.bind_ok, hb]
  simp only [e_op, e_var, h0, Rs.bind_ok, e_fC, ix_0, e_tup, e_cons, e_nil, mkSeq_2, e1]
  unfold bndsK
  rw [valW_tab]
  unfold loOf hiOf
  cases v_BOUNDS.lookup s <;> rfl
theorem law_ped_v {n : Nat} {v : D} (h : Val n v) (hn : n ≤ 60) : g__law_is_pedal [.d v] μ = .ok (.d (.bool (pedB v))) μ := by
  unfold g__law_is_pedal
  cases v with
  | tuple xs =>
    match xs with
    | [] =>
      refine run_0 ?_
      unfold B__law_is_pedal
      have e := in_ints (μ := μ) true 0 [1, 2]
      simp at e
      simp [startE, pedB, e]
    | [x] =>
      refine run_0 ?_
      unfold B__law_is_pedal
      have e := in_ints (μ := μ) true 1 [1, 2]
      simp at e
      cases x with
      | str s => simp [startE, pedB, e, eq_int, in_two]
      | _ => simp [startE, pedB, e, isTy_S]
    | [x, d] =>
      have e : ∀ μ, inW true (.d (.int 2)) (.d (.list [.int 1, .int 2])) μ = .ok (.d (.bool false)) μ := fun μ => by
        have e := in_ints (μ := μ) true 2 [1, 2]
        simpa using e
      cases x with
      | str s =>
        refine run_app (ν := [.dk bndsK]) ?_
        unfold B__law_is_pedal
        have hb : (μ ++ [Ob.dk bndsK])[μ.length]? = some (.dk bndsK) := by simp
        have eg := fun z2 z3 => get_def (μ := μ ++ [.dk bndsK]) hb s (env := [some (.d (.tuple [.str s, d])), some (.l μ.length), z2, z3]) (i := 0) (x := d) (r := [d]) rfl rfl
        have step := knob_in s d
        generalize loOf s = lo at eg step
        generalize hiOf s = hi at eg step
        have e' := e μ
        simp [startE, e', eq_int, bnds_disp, eg, pedB, step]
        unfold inB
        cases d with
        | int k =>
          by_cases c0 : k = 0
          · subst c0
            simp [isTy_I, isTy_B, eq_int]
          · by_cases c1 : lo ≤ k
            · simp [isTy_I, isTy_B, eq_int, c0, c1]
            · simp [isTy_I, isTy_B, eq_int, c0, c1]
        | _ => simp [isTy_I, isTy_B]
      | _ =>
        refine run_0 ?_
        unfold B__law_is_pedal
        have e' := e μ
        simp [startE, pedB, e', isTy_S]
    | x :: d :: d' :: r =>
      refine run_0 ?_
      unfold B__law_is_pedal
      have e := in_ints (μ := μ) true ((r.length : Int) + 1 + 1 + 1) [1, 2]
      have h1 : ¬ ((r.length : Int) + 1 + 1 + 1 = 1 ∨ (r.length : Int) + 1 + 1 + 1 = 2) := by omega
      simp only [List.map_cons, List.map_nil, List.mem_cons, List.not_mem_nil, or_false, h1] at e
      simp at e
      have ep : pedB (.tuple (x :: d :: d' :: r)) = false := by
        cases x <;> rfl
      rw [ep]
      simp [startE, e]
  | _ =>
    refine run_0 ?_
    unfold B__law_is_pedal
    simp [startE, pedB, isTy_T]
end
end Ped

/-! PedK3: the law's own of rows, boards, sounds, lots; what is told is right -/
namespace Ped
open PySem L2 PyProof.Rows PySem.Spec
section
variable {μ : Sto}
theorem flt_comp {q : D → Bool} {t : FB} (env : Env) (i : Nat) (hi : i < env.length) {xs : List D} (hx : xs.length ≤ 1000) (h : ∀ x ∈ xs, t (env.set i (some (.d x))) μ = .ok (q x) μ) :
    compF (gVar i) t (fVar i) env xs μ [] = .ok (xs.filter q) μ := by
  have := comp_filter (g := gVar i) (t := t) (e := fVar i) (env := env) (toD := fun d : D => d) (q := q) (φ := fun d => d) xs μ [] (fun x hx => ⟨_, rfl, h x hx, fun _ => by simp [hi]⟩) (by simp [LIM]; omega)
  simpa using this
theorem flt_empty (q : D → Bool) (xs : List D) : (xs.filter fun x => !q x).isEmpty = xs.all q := by
  induction xs with
  | nil => rfl
  | cons x r ih =>
    rw [List.filter_cons, List.all_cons]
    cases hq : q x with
    | true => simpa using ih
    | false => simp
theorem flt_eq {n : Nat} {q : D → Bool} {xs : List D} (h : ∀ x ∈ xs, Val n x) (hn : n ≤ 60) : eqW false (.d (.list (xs.filter fun x => !q x))) (.d (.list [])) μ = .ok (.d (.bool (xs.all q))) μ := by
  rw [lst_eq0 false (fun x hx => h x (List.mem_filter.mp hx).1) (by omega), flt_empty]
  rfl
theorem law_row_v {n : Nat} {v : D} (h : Val n v) (hn : n ≤ 60) : g__law_is_row [.d v] μ = .ok (.d (.bool (rowB v))) μ := by
  unfold g__law_is_row
  refine run_0 ?_
  unfold B__law_is_row
  cases v with
  | tuple xs =>
    cases n with
    | zero => exact h.elim
    | succ n =>
      have e := fun y => flt_comp (μ := μ) (q := fun x => !pedB x) (t := fNot (fB (fCall (callD 1 g__law_is_pedal) (fCons (fVar 1) fNil)))) [y, none] 1 (by simp) h.1 fun x hx => by
        simp [law_ped_v (h.2 x hx) (show n ≤ 60 by omega)]
      have e2 := flt_eq (μ := μ) (q := pedB) h.2 (by omega)
      by_cases h6 : xs.length ≤ 6
      · have h6' : ¬ (6 : Int) < (xs.length : Int) := by omega
        simp [startE, e, e2, rowB, h6, h6']
      · have h6' : (6 : Int) < (xs.length : Int) := by omega
        simp [startE, rowB, h6, h6']
  | _ => simp [startE, rowB, isTy_T]
theorem law_board_v {n : Nat} {v : D} (h : Val n v) (hn : n ≤ 60) : g__law_is_board [.d v] μ = .ok (.d (.bool (boardB v))) μ := by
  unfold g__law_is_board
  refine run_0 ?_
  unfold B__law_is_board
  cases v with
  | tuple xs =>
    cases n with
    | zero => exact h.elim
    | succ n =>
      have e := fun y => flt_comp (μ := μ) (q := fun x => !rowB x) (t := fNot (fB (fCall (callD 1 g__law_is_row) (fCons (fVar 1) fNil)))) [y, none] 1 (by simp) h.1 fun x hx => by
        simp [law_row_v (h.2 x hx) (show n ≤ 60 by omega)]
      have e2 := flt_eq (μ := μ) (q := rowB) h.2 (by omega)
      by_cases h1 : 1 ≤ xs.length
      · have h1' : (1 : Int) ≤ (xs.length : Int) := by omega
        by_cases h6 : xs.length ≤ 3
        · have h6' : (xs.length : Int) ≤ 3 := by omega
          simp [startE, e, e2, boardB, h6, h6', h1, h1']
        · have h6' : ¬ (xs.length : Int) ≤ 3 := by omega
          simp [startE, boardB, h6, h6', h1, h1']
      · have h1' : ¬ (1 : Int) ≤ (xs.length : Int) := by omega
        simp [startE, boardB, h1, h1']
  | _ => simp [startE, boardB, isTy_T]
theorem law_sound_v {n : Nat} {v : D} (h : Val n v) (hn : n ≤ 60) : g__law_is_sound [.d v] μ = .ok (.d (.bool (soundB v))) μ := by
  unfold g__law_is_sound
  refine run_0 ?_
  unfold B__law_is_sound
  cases v with
  | tuple xs =>
    cases n with
    | zero => exact h.elim
    | succ n =>
      have e := fun y => flt_comp (μ := μ) (q := fun x => !numB x) (t := fOr (fNot (fB (fIsi "int" (fVar 1)))) (fB (fIsi "bool" (fVar 1)))) [y, none] 1 (by simp) h.1 fun x hx => by
        cases x <;> simp [isTy_I, isTy_B, numB]
      have e2 := flt_eq (μ := μ) (q := numB) h.2 (by omega)
      by_cases h6 : xs.length ≤ 40
      · have h6' : ¬ (40 : Int) < (xs.length : Int) := by omega
        simp [startE, e, e2, soundB, h6, h6']
      · have h6' : (40 : Int) < (xs.length : Int) := by omega
        simp [startE, soundB, h6, h6']
  | _ => simp [startE, soundB, isTy_T]
theorem law_lot_v {n : Nat} {v : D} (h : Val n v) (hn : n ≤ 60) : g__law_is_lot [.d v] μ = .ok (.d (.bool (lotB v))) μ := by
  unfold g__law_is_lot
  refine run_0 ?_
  unfold B__law_is_lot
  have er := law_row_v (μ := μ) h hn
  cases v with
  | tuple xs =>
    cases n with
    | zero => exact h.elim
    | succ n =>
      unfold rowB at er
      by_cases h6 : xs.length ≤ 6
      · cases ha : xs.all pedB with
        | true =>
          simp only [h6, ha, decide_true, Bool.and_true] at er
          by_cases h1 : 1 ≤ xs.length
          · have h1' : (1 : Int) ≤ (xs.length : Int) := by omega
            by_cases h5 : xs.length ≤ 5
            · have h5' : (xs.length : Int) ≤ 5 := by omega
              have e := fun y => flt_comp (μ := μ) (q := fun x => !(!lateB x)) (t := fB (fOp (eqW false) (fOp ixW (fVar 1) (fC (.int 0))) (fC (.str "late")))) [y, none] 1 (by simp) h.1 fun x hx => by
                obtain ⟨s, r, rfl⟩ := ped_head (List.all_eq_true.mp ha x hx)
                simp [eq_str, lateB]
              have e2 := flt_eq (μ := μ) (q := fun x => !lateB x) h.2 (by omega)
              simp only [Bool.not_not] at e e2
              simp [startE, er, h1, h1', h5, h5', e, e2, lotB, h6, ha]
            · have h5' : ¬ (xs.length : Int) ≤ 5 := by omega
              simp [startE, er, h1, h1', h5, h5', lotB]
          · have h1' : ¬ (1 : Int) ≤ (xs.length : Int) := by omega
            simp [startE, er, h1, h1', lotB]
        | false =>
          simp only [h6, ha, decide_true, Bool.and_false] at er
          simp [startE, er, lotB, ha]
      · simp only [h6, decide_false, Bool.false_and] at er
        simp [startE, er, lotB, h6]
  | _ =>
    simp only [rowB] at er
    simp [startE, er, lotB]
theorem told_ok {n : Nat} {v : D} (h : Val n v) (hn : n ≤ 60) : g__law_told_right [.d v] μ = .ok (.d (.bool true)) μ := by
  unfold g__law_told_right
  refine run_0 ?_
  unfold B__law_told_right
  have hl : ∀ x ∈ ([.bool (pedB v), .bool (rowB v), .bool (boardB v), .bool (soundB v), .bool (lotB v)] : List D), Val 1 x := fun x hx => by
    simp at hx
    rcases hx with rfl | rfl | rfl | rfl | rfl <;> trivial
  have e := fun y z => flt_comp (μ := μ) (q := fun x => !isTy "bool" x) (t := fNot (fB (fIsi "bool" (fVar 3)))) [some (.d v), y, z, none] 3 (by simp) (xs := [.bool (pedB v), .bool (rowB v), .bool (boardB v), .bool (soundB v), .bool (lotB v)]) (by simp) fun x hx => by simp
  have e2 := lst_eq0 (μ := μ) (m := 1) true (xs := []) (fun x hx => by simp at hx) (by decide)
  have e3 : ([.bool (pedB v), .bool (rowB v), .bool (boardB v), .bool (soundB v), .bool (lotB v)] : List D).filter (fun x => !isTy "bool" x) = [] := by simp [isTy_B]
  rw [e3] at e
  have sh : Shp 2 (.list [.bool (pedB v), .bool (rowB v), .bool (boardB v), .bool (soundB v), .bool (lotB v)]) := Shp.lst fun x hx => (hl x hx).shp
  have e4 := eq_dd (μ := μ) false (sh.shaped (by decide)) (sh.shaped (by decide))
  rw [eqv_refl _ sh.1] at e4
  simp [startE, is_pedal_v h hn, is_row_v h hn, is_board_v h hn, is_sound_v h hn, is_lot_v h hn, law_ped_v h hn, law_row_v h hn, law_board_v h hn, law_sound_v h hn, law_lot_v h hn, e, e2, o_addL, LIM, e4]
end
end Ped

/-! PedK4: any values, spoiled values -/
namespace Ped
open PySem L2 PyProof.Rows PySem.Spec
noncomputable def SpF : FS := sCons (sAsg (fLst (fCons (fCall (callD 2 g__law_any_value) (fCons (fVar 0) (fCons (fC (.int 1)) (fNil)))) (fCons (fLst (fCons (fVar 1) (fNil))) (fNil)))) (gVar 2)) (sCons (sIf (fB (fIsi "str" (fVar 1))) (sAsg (fOp addW (fVar 2) (fLst (fCons (fOp addW (fVar 1) (fC (.str "s"))) (fCons (fC (.str "louder")) (fCons (fC (.str "gate")) (fCons (fC (.str "lift")) (fCons (fC (.str "steps")) (fCons (fC (.str "fold")) (fNil))))))))) (gVar 2)) (sNil)) (sCons (sIf (fB (fIsi "int" (fVar 1))) (sAsg (fOp addW (fVar 2) (fLst (fCons (fOp addW (fVar 1) (fC (.int 1))) (fCons (fOp mulW (fVar 1) (fC (.int 3))) (fCons (fC (.int 50)) (fCons (fNeg (fC (.int 20))) (fCons (fC (.int 0)) (fCons (fC (.bool true)) (fNil))))))))) (gVar 2)) (sNil)) (sRet (fCall (callD 2 g__law_of) (fCons (fVar 0) (fCons (fVar 2) (fNil)))))))
noncomputable def SpG (self : List Wv → Sto → Rs Wv) : FS := sCons (sPar 3 4 (fCons (fCall (callD 2 g__law_take) (fCons (fVar 0) (fCons (fCall kLen (fCons (fVar 1) (fNil))) (fNil)))) (fCons (fCall (callD 2 g__law_take) (fCons (fVar 0) (fCons (fC (.int 8)) (fNil)))) (fNil)))) (sCons (sIf (fB (fOp (eqW false) (fVar 4) (fC (.int 0)))) (sRet (fOp addW (fSl (fVar 1) (fO0) (fO1 (fVar 3))) (fSl (fVar 1) (fO1 (fOp addW (fVar 3) (fC (.int 1)))) (fO0)))) (sNil)) (sCons (sIf (fB (fOp (eqW false) (fVar 4) (fC (.int 1)))) (sRet (fOp addW (fOp addW (fSl (fVar 1) (fO0) (fO1 (fVar 3))) (fOp mulTW (fSl (fVar 1) (fO1 (fVar 3)) (fO1 (fOp addW (fVar 3) (fC (.int 1))))) (fC (.int 2)))) (fSl (fVar 1) (fO1 (fOp addW (fVar 3) (fC (.int 1)))) (fO0)))) (sNil)) (sCons (sIf (fB (fOp (eqW false) (fVar 4) (fC (.int 2)))) (sRet (f1 revW (fVar 1))) (sNil)) (sCons (sIf (fB (fOp (eqW false) (fVar 4) (fC (.int 3)))) (sRet (fCall kList (fCons (fVar 1) (fNil)))) (sNil)) (sRet (fOp addW (fOp addW (fSl (fVar 1) (fO0) (fO1 (fVar 3))) (fTup (fCons (fCall (callD 2 self) (fCons (fVar 0) (fCons (fOp ixW (fVar 1) (fVar 3)) (fNil)))) (fNil)))) (fSl (fVar 1) (fO1 (fOp addW (fVar 3) (fC (.int 1)))) (fO0))))))))
noncomputable def SpC : FB := fOr (fNot (fB (fIsi "tuple" (fVar 1)))) (fOr (fB (fOp (eqW false) (fVar 1) (fTup (fNil)))) (fB (fOp (eqW false) (fCall (callD 2 g__law_take) (fCons (fVar 0) (fCons (fC (.int 6)) (fNil)))) (fC (.int 0)))))
theorem sp_split (self : List Wv → Sto → Rs Wv) : B__law_spoiled self = sCons (sIf SpC SpF sNil) (SpG self) := rfl
noncomputable def AnF : FS := sCons (sAsg (fLst (fCons (fC (.int 0)) (fCons (fNeg (fC (.int 1))) (fCons (fC (.int 1)) (fCons (fC (.int 2)) (fCons (fC (.int 5)) (fCons (fC (.int 51)) (fCons (fC (.bool true)) (fCons (fC (.bool false)) (fCons (fC .none) (fCons (fC (.str "")) (fCons (fC (.str "turn")) (fCons (fC (.str "cut")) (fCons (fC (.str "late")) (fCons (fC (.str "plain")) (fCons (fOp (opI fun i j => if CPow i j then some (.int (i ^ j.toNat)) else none) (fC (.int 10)) (fC (.int 30))) (fNil))))))))))))))))) (gVar 4)) (sRet (fCall (callD 2 g__law_of) (fCons (fVar 0) (fCons (fOp addW (fVar 4) (fLst (fCons (fTup (fNil)) (fCons (fLst (fNil)) (fCons (fTup (fCons (fC (.str "turn")) (fNil))) (fCons (fTup (fCons (fC (.str "cut")) (fCons (fC (.int 3)) (fNil)))) (fCons (fTup (fCons (fC (.str "lift")) (fCons (fC (.int 0)) (fNil)))) (fCons (fTup (fCons (fTup (fCons (fC (.str "fold")) (fNil))) (fNil))) (fNil))))))))) (fNil)))))
noncomputable def AnG (self : List Wv → Sto → Rs Wv) : FS := sCons (sAsg (fComp (itR1 (fCall (callD 2 g__law_take) (fCons (fVar 0) (fCons (fC (.int 5)) (fNil))))) (gVar 5) (fYes) (fCall (callD 2 self) (fCons (fVar 0) (fCons (fOp (opI fun i j => some (.int (i - j))) (fVar 1) (fC (.int 1))) (fNil)))) [5]) (gVar 3)) (sRet (fOp ixW (fLst (fCons (fVar 3) (fCons (fCall kTuple (fCons (fVar 3) (fNil))) (fCons (fCall kTuple (fCons (fVar 3) (fNil))) (fNil))))) (fOp (opI fun i j => some (.int (i - j))) (fVar 2) (fC (.int 5)))))
noncomputable def AnC : FB := fOr (fB (fOp (cmpW fun i j => decide (i < j)) (fVar 2) (fC (.int 5)))) (fB (fOp (eqW false) (fVar 1) (fC (.int 0))))
theorem an_split (self : List Wv → Sto → Rs Wv) : B__law_any_value self = sCons (sAsg (fCall (callD 2 g__law_take) (fCons (fVar 0) (fCons (fC (.int 8)) (fNil)))) (gVar 2)) (sCons (sIf AnC AnF sNil) (AnG self)) := rfl
section
variable {b : Nat} {μ : Sto}
theorem ten30 (μ : Sto) : opI (fun i j => if CPow i j then some (.int (i ^ j.toNat)) else none) (.d (.int 10)) (.d (.int 30)) μ = .ok (.d (.int (10 ^ 30))) μ := by
  have cp : CPow 10 30 := by unfold CPow; decide
  show (match (if CPow 10 30 then some (PyData.int ((10 : Int) ^ (30 : Int).toNat)) else none) with | some d => Rs.ok (Wv.d d) μ | none => Rs.no) = _
  rw [if_pos cp]
  rfl
def anyL : List D := [.int 0, .int (-1), .int 1, .int 2, .int 5, .int 51, .bool true, .bool false, .none, .str "", .str "turn", .str "cut", .str "late", .str "plain", .int (10 ^ 30), .tuple [], .list [], .tuple [.str "turn"], .tuple [.str "cut", .int 3], .tuple [.str "lift", .int 0], .tuple [.tuple [.str "fold"]]]
theorem anyL_val : ∀ d ∈ anyL, Val 3 d := by
  intro d hd
  unfold anyL at hd
  simp only [List.mem_cons, List.not_mem_nil, or_false] at hd
  rcases hd with rfl | rfl | rfl | rfl | rfl | rfl | rfl | rfl | rfl | rfl | rfl | rfl | rfl | rfl | rfl | rfl | rfl | rfl | rfl | rfl | rfl <;> first | trivial | (exact Val.str (by decide +kernel)) | (refine ⟨by simp, fun x hx => ?_⟩; simp at hx; done) | skip
  · refine ⟨by simp, fun x hx => ?_⟩
    simp at hx; subst hx; exact Val.str (by decide +kernel)
  · refine ⟨by simp, fun x hx => ?_⟩
    simp at hx; rcases hx with rfl | rfl
    · exact Val.str (by decide +kernel)
    · trivial
  · refine ⟨by simp, fun x hx => ?_⟩
    simp at hx; rcases hx with rfl | rfl
    · exact Val.str (by decide +kernel)
    · trivial
  · refine ⟨by simp, fun x hx => ?_⟩
    simp at hx; subst hx
    refine ⟨by simp, fun x hx => ?_⟩
    simp at hx; subst hx; exact Val.str (by decide +kernel)
theorem anF_ok (h : Bg b μ) (x1 x2 x3 x4 x5 : Option Wv) : ∃ d μ', AnF [some (.l b), x1, x2, x3, x4, x5] μ = .ok (.rt (.d d)) μ' ∧ Val 3 d ∧ Stp b μ μ' := by
  obtain ⟨d, μ', e, hd, s⟩ := of_ok h (xs := anyL) (by decide) (by decide)
  refine ⟨d, μ', ?_, anyL_val d hd, s⟩
  unfold AnF
  unfold anyL at e
  have cp : CPow 10 30 := by unfold CPow; decide
  simp at e
  simp [mkSeq, dats, LIM, cp, o_addL, e]
theorem items_ix {bs : List D} {k : Int} (h0 : 5 ≤ k) (h1 : k < 8) {n : Nat} (hl : bs.length ≤ 1000) (hv : ∀ d ∈ bs, Val n d) : ∃ d, ixW (.d (.list [.list bs, .tuple bs, .tuple bs])) (.d (.int (k - 5))) μ = .ok (.d d) μ ∧ Val (n + 1) d := by
  obtain ⟨d, hd, e⟩ := ix_l (μ := μ) (xs := [.list bs, .tuple bs, .tuple bs]) (r := k - 5) (by omega) (by simp; omega)
  refine ⟨d, e, ?_⟩
  simp at hd
  rcases hd with rfl | rfl <;> exact ⟨hl, hv⟩
theorem any_ok : ∀ (f m : Nat) {μ : Sto}, m < f → Bg b μ → ∃ d μ', gr__law_any_value f [.l b, .d (.int (m : Nat))] μ = .ok (.d d) μ' ∧ Val (m + 3) d ∧ Stp b μ μ'
  | 0, m, μ, h, _ => absurd h (Nat.not_lt_zero _)
  | f + 1, m, μ, hm, h => by
    obtain ⟨k, μ1, e1, k0, k1, s1⟩ := take_ok h (m := 8) (by decide) (by decide)
    have h1 := s1.bg h
    have start : ∀ {d : D} {μ' : Sto}, Stp b μ μ' → (sCons (sIf AnC AnF sNil) (AnG (gr__law_any_value f))) [some (.l b), some (.d (.int (m : Nat))), some (.d (.int k)), none, none, none] μ1 = .ok (.rt (.d d)) μ' → gr__law_any_value (f + 1) [.l b, .d (.int (m : Nat))] μ = .ok (.d d) μ' := fun {d μ'} s e => by
      show runF 6 (B__law_any_value (gr__law_any_value f)) _ _ = _
      refine run_d ?_ s.len
      rw [an_split, e_sCons]
      have e2 : (sAsg (fCall (callD 2 g__law_take) (fCons (fVar 0) (fCons (fC (.int 8)) fNil))) (gVar 2)) (startE 6 [.l b, .d (.int (m : Nat))]) μ = .ok (.nx [some (.l b), some (.d (.int (m : Nat))), some (.d (.int k)), none, none, none]) μ1 := by
        simp [startE, e1]
      rw [e2]
      exact e
    have first : (k < 5 ∨ m = 0) → ∃ d μ', gr__law_any_value (f + 1) [.l b, .d (.int (m : Nat))] μ = .ok (.d d) μ' ∧ Val (m + 3) d ∧ Stp b μ μ' := fun hc => by
      obtain ⟨d, μ', e, v, s⟩ := anF_ok h1 (some (.d (.int (m : Nat)))) (some (.d (.int k))) none none none
      refine ⟨d, μ', start (s1.trans s) ?_, v.mono (by omega), s1.trans s⟩
      have ec : AnC [some (.l b), some (.d (.int (m : Nat))), some (.d (.int k)), none, none, none] μ1 = .ok true μ1 := by
        unfold AnC
        by_cases c : k < 5
        · simp [c]
        · have : m = 0 := by omega
          subst this
          simp [c, eq_int]
      rw [e_sCons, e_sIf, ec, Rs.bind_ok, if_pos rfl, e]
      rfl
    by_cases c : k < 5 ∨ m = 0
    · exact first c
    · obtain ⟨m', rfl⟩ : ∃ m', m = m' + 1 := ⟨m - 1, by omega⟩
      have ck : ¬ k < 5 := fun z => c (.inl z)
      obtain ⟨j, μ2, e2, j0, j1, s2⟩ := take_ok h1 (m := 5) (by decide) (by decide)
      obtain ⟨jn, rfl⟩ := Int.eq_ofNat_of_zero_le j0
      have hj : jn < 5 := by omega
      obtain ⟨bs, μ3, e3, l3, v3, s3⟩ := comp_draw (g := gVar 5) (e := fCall (callD 2 (gr__law_any_value f)) (fCons (fVar 0) (fCons (fOp (opI fun i j => some (.int (i - j))) (fVar 1) (fC (.int 1))) (fNil)))) (env := [some (.l b), some (.d (.int ((m' + 1 : Nat) : Int))), some (.d (.int k)), none, none, none]) (toD := fun d : D => d) (P := Val (m' + 3)) (I := fun μ' => Stp b μ μ') (rangeD 0 jn) μ2 [] (s1.trans s2) (by simp) (by
        intro x hx μ4 s4
        obtain ⟨d, μ5, e5, v5, s5⟩ := any_ok f m' (μ := μ4) (by omega) (s4.bg h)
        refine ⟨_, d, μ5, rfl, ?_, v5, s4.trans s5⟩
        have : ((m' + 1 : Nat) : Int) - 1 = (m' : Int) := by omega
        simp at this
        simp [e5, this]) (by rw [rangeD_len]; simp [LIM]; omega)
      simp only [List.map_id', List.map_nil] at e3
      rw [rangeD_len] at l3
      simp at l3
      obtain ⟨d, e4, v4⟩ := items_ix (μ := μ3) (bs := bs) (k := k) (by omega) k1 (by omega) v3
      refine ⟨d, μ3, start s3 ?_, v4.mono (by omega), s3⟩
      have ec : AnC [some (.l b), some (.d (.int ((m' + 1 : Nat) : Int))), some (.d (.int k)), none, none, none] μ1 = .ok false μ1 := by
        unfold AnC
        have : ¬ ((m' : Int) + 1 = 0) := by omega
        simp [ck, eq_int, this]
      rw [e_sCons, e_sIf, ec, Rs.bind_ok, if_neg Bool.false_ne_true]
      simp only [e_sNil, Rs.bind_ok]
      unfold AnG
      have er : rgK (.d (.int (jn : Int))) μ2 = .ok (rangeD 0 jn) μ2 := rg_k (by omega)
      simp at e2 e3 e4 er
      simp [e2, er, e3, e4]
end
end Ped

/-! PedK5: spoiled values -/
namespace Ped
open PySem L2 PyProof.Rows PySem.Spec
/-- the values that are spoiled -/
def Src : Nat → D → Prop
  | _, .int _ => True
  | _, .str z => (PyData.str z).canLay0 = true ∧ (PyData.str (z ++ ("s" : Str))).canLay0 = true ∧ z.length ≤ 100
  | n + 1, .tuple xs => xs.length ≤ 100 ∧ ∀ x ∈ xs, Src n x
  | _, _ => False
theorem Src.val : ∀ {n : Nat} {d : D}, Src n d → Val n d
  | n, .int _, _ => by cases n <;> trivial
  | n, .str z, h => Val.str (by cases n <;> exact h.1)
  | n + 1, .tuple xs, h => ⟨by have := h.1; omega, fun x hx => Src.val (h.2 x hx)⟩
  | 0, .tuple _, h => h.elim
  | 0, .none, h => h.elim
  | n + 1, .none, h => h.elim
  | 0, .bool _, h => h.elim
  | n + 1, .bool _, h => h.elim
  | 0, .list _, h => h.elim
  | n + 1, .list _, h => h.elim
  | 0, .dict _, h => h.elim
  | n + 1, .dict _, h => h.elim
section
variable {b : Nat} {μ : Sto}
theorem spF_ok (h : Bg b μ) {n : Nat} {v : D} (hv : Src n v) (x2 x3 x4 : Option Wv) : ∃ d μ', SpF [some (.l b), some (.d v), x2, x3, x4] μ = .ok (.rt (.d d)) μ' ∧ Val (n + 6) d ∧ Stp b μ μ' := by
  obtain ⟨a, μ1, e1, va, s1⟩ := any_ok (b := b) 3 1 (by decide) h
  have va : Val (n + 6) a := va.mono (by omega)
  have h1 := s1.bg h
  have vv : Val (n + 6) (.list [v]) := Val.mono (m := n + 1) (by omega) ⟨by simp, fun x hx => by rw [List.mem_singleton.mp hx]; exact hv.val⟩
  have e1' : g__law_any_value [.l b, .d (.int 1)] μ = .ok (.d a) μ1 := e1
  have fin : ∀ xs : List D, 0 < xs.length → xs.length ≤ 50 → (∀ x ∈ xs, Val (n + 6) x) → ∃ d μ', g__law_of [.l b, .d (.list xs)] μ1 = .ok (.d d) μ' ∧ Val (n + 6) d ∧ Stp b μ μ' := fun xs l0 l1 hx => by
    obtain ⟨d, μ2, e, hd, s2⟩ := of_ok h1 l0 (by omega)
    exact ⟨d, μ2, e, hx d hd, s1.trans s2⟩
  cases v with
  | int k =>
    obtain ⟨d, μ', e, vd, s⟩ := fin [a, .list [.int k], .int (k + 1), .int (k * 3), .int 50, .int (-20), .int 0, .bool true] (by simp) (by simp) fun x hx => by
      simp at hx
      rcases hx with rfl | rfl | rfl | rfl | rfl | rfl | rfl | rfl <;> first | exact va | exact vv | trivial
    refine ⟨d, μ', ?_, vd, s⟩
    unfold SpF
    have cm : CMul k 3 := cmul2 (by omega)
    simp [e1', isTy_S, isTy_I, cm, mkSeq, dats, LIM, o_addL, e]
  | str z =>
    have hz : (PyData.str z).canLay0 = true ∧ (PyData.str (z ++ ("s" : Str))).canLay0 = true ∧ z.length ≤ 100 := by cases n <;> exact hv
    have hs : ("s" : Str).length = 1 := by decide +kernel
    obtain ⟨d, μ', e, vd, s⟩ := fin [a, .list [.str z], .str (z ++ ("s" : Str)), .str "louder", .str "gate", .str "lift", .str "steps", .str "fold"] (by simp) (by simp) fun x hx => by
      simp at hx
      rcases hx with rfl | rfl | rfl | rfl | rfl | rfl | rfl | rfl <;> first | exact va | exact vv | exact Val.str hz.2.1 | exact Val.str (by decide +kernel)
    refine ⟨d, μ', ?_, vd, s⟩
    unfold SpF
    have ea : addW (.d (.str z)) (.d (.str ("s" : Str))) μ1 = .ok (.d (.str (z ++ ("s" : Str)))) μ1 := by
      show (if z.length + ("s" : Str).length ≤ LIM then Rs.ok (Wv.d (.str (z ++ ("s" : Str)))) μ1 else .no) = _
      rw [if_pos (by rw [hs]; have := hz.2.2; simp [LIM]; omega)]
    simp [e1', isTy_I, mkSeq, dats, LIM, o_addL, e, ea]
  | tuple xs =>
    obtain ⟨d, μ', e, vd, s⟩ := fin [a, .list [.tuple xs]] (by simp) (by simp) fun x hx => by
      simp at hx
      rcases hx with rfl | rfl <;> first | exact va | exact vv
    refine ⟨d, μ', ?_, vd, s⟩
    unfold SpF
    simp [e1', isTy_I, isTy_S, e]
  | none => cases n <;> exact hv.elim
  | bool _ => cases n <;> exact hv.elim
  | list _ => cases n <;> exact hv.elim
  | dict _ => cases n <;> exact hv.elim
/-- parts of tuples -/
theorem cut_mem {α : Type} {xs : List α} {lo hi : Option Int} {x : α} (h : x ∈ cut xs lo hi) : x ∈ xs := List.mem_of_mem_drop (List.mem_of_mem_take h)
theorem cut_len {α : Type} (xs : List α) (lo hi : Option Int) : (cut xs lo hi).length ≤ xs.length := by
  unfold cut
  rw [List.length_take, List.length_drop]
  omega
theorem sl_tupW (xs : List D) (lo hi : Option Int) : slW (.d (.tuple xs)) lo hi μ = .ok (.d (.tuple (cut xs lo hi))) μ := rfl
theorem cut_one {α : Type} {xs : List α} {i : Nat} (h : i < xs.length) : cut xs (some (i : Int)) (some ((i : Int) + 1)) = [xs[i]] := by
  have e := cut_mid xs i (i + 1)
  rw [show i + 1 - i = 1 by omega] at e
  rw [show (i : Int) + 1 = ((i + 1 : Nat) : Int) by omega, e]
  rw [List.drop_eq_getElem_cons h]
  rfl
theorem val_cat {n : Nat} {xs ys : List D} (hx : ∀ x ∈ xs, Val n x) (hy : ∀ x ∈ ys, Val n x) : ∀ x ∈ xs ++ ys, Val n x := fun x h => by
  rcases List.mem_append.mp h with h | h
  · exact hx x h
  · exact hy x h
theorem spoil_ok : ∀ (f n : Nat) {μ : Sto} {v : D}, n ≤ 20 → n < f → Bg b μ → Src n v → ∃ d μ', gr__law_spoiled f [.l b, .d v] μ = .ok (.d d) μ' ∧ Val (n + 6) d ∧ Stp b μ μ'
  | 0, n, μ, v, _, h, _, _ => absurd h (Nat.not_lt_zero _)
  | f + 1, n, μ, v, h20, hn, h, hv => by
    have start : ∀ {d : D} {μ' : Sto}, Stp b μ μ' → (sCons (sIf SpC SpF sNil) (SpG (gr__law_spoiled f))) [some (.l b), some (.d v), none, none, none] μ = .ok (.rt (.d d)) μ' → gr__law_spoiled (f + 1) [.l b, .d v] μ = .ok (.d d) μ' := fun {d μ'} s e => by
      show runF 5 (B__law_spoiled (gr__law_spoiled f)) _ _ = _
      refine run_d ?_ s.len
      rw [sp_split]
      exact e
    have first : ∀ {μ1 : Sto}, Stp b μ μ1 → SpC [some (.l b), some (.d v), none, none, none] μ = .ok true μ1 → ∃ d μ', gr__law_spoiled (f + 1) [.l b, .d v] μ = .ok (.d d) μ' ∧ Val (n + 6) d ∧ Stp b μ μ' := fun {μ1} s1 ec => by
      obtain ⟨d, μ', e, vd, s⟩ := spF_ok (s1.bg h) hv none none none
      refine ⟨d, μ', start (s1.trans s) ?_, vd, s1.trans s⟩
      rw [e_sCons, e_sIf, ec, Rs.bind_ok, if_pos rfl, e]
      rfl
    cases v with
    | none => cases n <;> exact hv.elim
    | bool _ => cases n <;> exact hv.elim
    | list _ => cases n <;> exact hv.elim
    | dict _ => cases n <;> exact hv.elim
    | int k => exact first (Stp.refl h) (by unfold SpC; simp [isTy_T])
    | str k => exact first (Stp.refl h) (by unfold SpC; simp [isTy_T])
    | tuple xs =>
      have e0 := tup_eq0 (μ := μ) false hv.val
      cases n with
      | zero => exact hv.elim
      | succ n =>
        by_cases hx : xs = []
        · subst hx
          have e0 := tup_eq0 (μ := μ) (m := 1) false (xs := []) ⟨by simp, fun x hx => by simp at hx⟩ (by decide)
          exact first (Stp.refl h) (by unfold SpC; simp [e0])
        · have e0 : eqW false (.d (.tuple xs)) (.d (.tuple [])) μ = .ok (.d (.bool false)) μ := by
            rw [tup_eq0 false hv.val (by omega)]
            cases xs with
            | nil => exact absurd rfl hx
            | cons => rfl
          obtain ⟨z, μ1, e1, z0, z1, s1⟩ := take_ok h (m := 6) (by decide) (by decide)
          by_cases hz : z = 0
          · subst hz
            exact first s1 (by unfold SpC; simp [e0, e1, eq_int])
          · have ec : SpC [some (.l b), some (.d (.tuple xs)), none, none, none] μ = .ok false μ1 := by
              unfold SpC
              simp [e0, e1, eq_int, hz]
            have hl : 0 < xs.length := List.length_pos_iff.mpr hx
            have hl2 := hv.1
            obtain ⟨at_, μ2, e2, a0, a1, s2⟩ := take_ok (s1.bg h) (m := xs.length) (by omega) (by omega)
            obtain ⟨i, rfl⟩ := Int.eq_ofNat_of_zero_le a0
            have hi : i < xs.length := by omega
            have h2 := s2.bg (s1.bg h)
            obtain ⟨w, μ3, e3, w0, w1, s3⟩ := take_ok h2 (m := 8) (by decide) (by decide)
            have s13 := (s1.trans s2).trans s3
            have hxs : ∀ x ∈ xs, Val (n + 6) x := fun x hx => (Src.val (hv.2 x hx)).mono (by omega)
            have c1 : ∀ lo hi, ∀ x ∈ cut xs lo hi, Val (n + 6) x := fun lo hi x hx => hxs x (cut_mem hx)
            have l1 := cut_len xs none (some (i : Int))
            have l2 := cut_len xs (some ((i : Int) + 1)) none
            have fin : ∀ {d : D} {μ' : Sto}, Stp b μ μ' → Val (n + 7) d → SpG (gr__law_spoiled f) [some (.l b), some (.d (.tuple xs)), none, none, none] μ1 = .ok (.rt (.d d)) μ' → ∃ d μ', gr__law_spoiled (f + 1) [.l b, .d (.tuple xs)] μ = .ok (.d d) μ' ∧ Val (n + 1 + 6) d ∧ Stp b μ μ' := fun {d μ'} s vd e => by
              refine ⟨d, μ', start s ?_, vd, s⟩
              rw [e_sCons, e_sIf, ec, Rs.bind_ok, if_neg Bool.false_ne_true]
              exact e
            by_cases w_0 : w = 0
            · subst w_0
              refine fin (d := .tuple (cut xs none (some (i : Int)) ++ cut xs (some ((i : Int) + 1)) none)) s13 ⟨by rw [List.length_append]; omega, val_cat (c1 _ _) (c1 _ _)⟩ ?_
              unfold SpG
              have : (cut xs none (some (i : Int))).length + (cut xs (some ((i : Int) + 1)) none).length ≤ 16000000 := by omega
              simp [e2, e3, eq_int, sl_tupW, o_addT, LIM, this]
            · by_cases w_1 : w = 1
              · subst w_1
                refine fin (d := .tuple (cut xs none (some (i : Int)) ++ [xs[i], xs[i]] ++ cut xs (some ((i : Int) + 1)) none)) s13 ⟨by simp; omega, val_cat (val_cat (c1 _ _) fun x hx => ?_) (c1 _ _)⟩ ?_
                · simp at hx
                  subst hx
                  exact hxs _ (List.getElem_mem hi)
                · unfold SpG
                  have k1 : (cut xs none (some (i : Int))).length + 2 ≤ 16000000 := by omega
                  have k2 : (cut xs none (some (i : Int))).length + 2 + (cut xs (some ((i : Int) + 1)) none).length ≤ 16000000 := by omega
                  have em : mulTW (.d (.tuple [xs[i]])) (.d (.int 2)) μ3 = .ok (.d (.tuple [xs[i], xs[i]])) μ3 := by
                    show (if ([xs[i]] : List D) ≠ [] ∧ (1 : Int) ≤ 2 ∧ (2 : Int) ≤ 1000 ∧ ([xs[i]] : List D).length ≤ 1000 then Rs.ok (Wv.d (.tuple (List.replicate (2 : Int).toNat [xs[i]]).flatten)) μ3 else .no) = _
                    rw [if_pos ⟨by simp, by decide, by decide, by simp⟩]
                    rfl
                  simp [e2, e3, eq_int, sl_tupW, cut_one hi, em, o_addT, LIM, k1, k2]
              · by_cases w_2 : w = 2
                · subst w_2
                  refine fin (d := .tuple xs.reverse) s13 ⟨by rw [List.length_reverse]; omega, fun x hx => hxs x (List.mem_reverse.mp hx)⟩ ?_
                  unfold SpG
                  simp [e2, e3, eq_int, revW]
                · by_cases w_3 : w = 3
                  · subst w_3
                    refine fin (d := .list xs) s13 ⟨by omega, hxs⟩ ?_
                    unfold SpG
                    simp [e2, e3, eq_int, kList]
                  · obtain ⟨d, μ4, e4, v4, s4⟩ := spoil_ok f n (μ := μ3) (v := xs[i]) (by omega) (by omega) (s3.bg h2) (hv.2 _ (List.getElem_mem hi))
                    have ei : ixW (.d (.tuple xs)) (.d (.int (i : Int))) μ3 = .ok (.d xs[i]) μ3 := by
                      show (match atI xs (i : Int) with | some d => Rs.ok (Wv.d d) μ3 | none => Rs.no) = _
                      rw [atI_nat, List.getElem?_eq_getElem hi]
                    refine fin (d := .tuple (cut xs none (some (i : Int)) ++ [d] ++ cut xs (some ((i : Int) + 1)) none)) (s13.trans s4) ⟨by simp; omega, val_cat (val_cat (c1 _ _) fun x hx => ?_) (c1 _ _)⟩ ?_
                    · rw [List.mem_singleton.mp hx]
                      exact v4
                    · unfold SpG
                      have k1 : (cut xs none (some (i : Int))).length + 1 ≤ 16000000 := by omega
                      have k2 : (cut xs none (some (i : Int))).length + 1 + (cut xs (some ((i : Int) + 1)) none).length ≤ 16000000 := by omega
                      simp [e2, e3, eq_int, sl_tupW, ei, e4, o_addT, LIM, k1, k2, w_0, w_1, w_2, w_3]
end
end Ped

/-! PedK6: law 01 -/
namespace Ped
open PySem L2 PyProof.Rows PySem.Spec
noncomputable def Tail1 : FS := sCons (sAsg (fTup (fCons (fC (.str "turn")) (fNil))) (gVar 2)) (sCons (sAsg (fLst (fCons (fTup (fCons (fC (.str "louder")) (fCons (fC (.int 1)) (fNil)))) (fCons (fTup (fCons (fC (.str "louder")) (fCons (fC (.int 4)) (fNil)))) (fCons (fTup (fCons (fC (.str "louder")) (fCons (fC (.int 5)) (fNil)))) (fCons (fTup (fCons (fC (.str "cut")) (fCons (fC (.int 0)) (fNil)))) (fCons (fTup (fCons (fC (.str "cut")) (fCons (fC (.int 50)) (fNil)))) (fCons (fTup (fCons (fC (.str "cut")) (fCons (fC (.int 51)) (fNil)))) (fCons (fTup (fCons (fC (.str "gate")) (fCons (fNeg (fC (.int 1))) (fNil)))) (fNil))))))))) (gVar 3)) (sCons (sAsg (fOp addW (fVar 3) (fLst (fCons (fTup (fCons (fC (.str "lift")) (fCons (fNeg (fC (.int 20))) (fNil)))) (fCons (fTup (fCons (fC (.str "lift")) (fCons (fC (.int 21)) (fNil)))) (fCons (fTup (fCons (fC (.str "lift")) (fCons (fC (.int 0)) (fNil)))) (fCons (fTup (fCons (fC (.str "steps")) (fCons (fC (.int 1)) (fNil)))) (fCons (fTup (fCons (fC (.str "steps")) (fCons (fC (.int 5)) (fNil)))) (fCons (fTup (fCons (fC (.str "late")) (fCons (fC (.int 6)) (fNil)))) (fCons (fTup (fCons (fC (.str "cut")) (fNil))) (fNil)))))))))) (gVar 3)) (sCons (sAsg (fOp addW (fVar 3) (fLst (fCons (fTup (fCons (fC (.str "late")) (fCons (fC (.bool true)) (fNil)))) (fCons (fTup (fCons (fC (.str "turn")) (fCons (fC (.int 1)) (fNil)))) (fCons (fOp mulTW (fTup (fCons (fVar 2) (fNil))) (fC (.int 5))) (fCons (fOp mulTW (fTup (fCons (fVar 2) (fNil))) (fC (.int 6))) (fCons (fOp mulTW (fTup (fCons (fVar 2) (fNil))) (fC (.int 7))) (fCons (fOp mulTW (fTup (fCons (fTup (fNil)) (fNil))) (fC (.int 3))) (fCons (fOp mulTW (fTup (fCons (fTup (fNil)) (fNil))) (fC (.int 4))) (fNil)))))))))) (gVar 3)) (sCons (sAsg (fOp addW (fVar 3) (fLst (fCons (fTup (fNil)) (fCons (fOp mulTW (fTup (fCons (fC (.int 3)) (fNil))) (fC (.int 40))) (fCons (fOp mulTW (fTup (fCons (fC (.int 3)) (fNil))) (fC (.int 41))) (fCons (fTup (fCons (fTup (fCons (fC (.str "late")) (fCons (fC (.int 1)) (fNil)))) (fNil))) (fNil))))))) (gVar 3)) (sRet (fOp (eqW false) (fComp (itS (fVar 3)) (gVar 7) (fNot (fB (fCall (callD 1 g__law_told_right) (fCons (fVar 7) (fNil))))) (fVar 7) [7]) (fLst (fNil))))))))

theorem Bg.app {n : Nat} {μ ν : Sto} (h : Bg n μ) : Bg n (μ ++ ν) := by
  obtain ⟨x, y, h1, h2⟩ := h
  exact ⟨x, y, by rw [List.getElem?_append_left (List.getElem?_eq_some_iff.mp h1).1]; exact h1, h2⟩
theorem Bg.set {n m : Nat} {μ : Sto} {o : Ob} (h : Bg n μ) (hm : m ≠ n) : Bg n (μ.set m o) := by
  obtain ⟨x, y, h1, h2⟩ := h
  exact ⟨x, y, by rw [List.getElem?_set_ne hm]; exact h1, h2⟩
theorem Bg.lt {n : Nat} {μ : Sto} (h : Bg n μ) : n < μ.length := by
  obtain ⟨x, y, h1, h2⟩ := h
  exact (List.getElem?_eq_some_iff.mp h1).1
theorem inner01 {n : Nat} {μ : Sto} (h : Bg n μ) {xs : List D} (hl : 0 < xs.length) (hl2 : xs.length ≤ 100) (hx : ∀ x ∈ xs, Src 3 x) (x0 x1 x2 x3 x5 x7 x8 x9 : Option Wv) :
    ∃ y7 y8 μ', L_law_1 [x0, x1, x2, x3, some (.l n), x5, some (.d (.list xs)), x7, x8, x9] μ = .ok (.nx [x0, x1, x2, x3, some (.l n), x5, some (.d (.list xs)), y7, y8, x9]) μ' ∧ Bg n μ' := by
  obtain ⟨v, μ1, e1, hv, s1⟩ := of_ok h hl (by omega)
  have hv := hx v hv
  have b1 := s1.bg h
  obtain ⟨d1, μ2, e2, v2, s2⟩ := spoil_ok (b := n) 4 3 (by decide) (by decide) b1 hv
  have b2 := s2.bg b1
  obtain ⟨d2, μ3, e3, v3, s3⟩ := spoil_ok (b := n) 4 3 (by decide) (by decide) b2 hv
  have b3 := s3.bg b2
  have b4 : Bg n (μ3 ++ [Ob.lst [.d v, .d d1, .d d2]]) := b3.app
  obtain ⟨d3, μ4, e4, v4, s4⟩ := any_ok (b := n) 3 2 (by decide) b4
  have b5 := s4.bg b4
  have hne : n ≠ μ3.length := Nat.ne_of_lt b3.lt
  have at4 : lstAt (μ3 ++ [Ob.lst [.d v, .d d1, .d d2]]) μ3.length = some [.d v, .d d1, .d d2] := by unfold lstAt; simp
  have at5 : lstAt μ4 μ3.length = some [.d v, .d d1, .d d2] := by
    unfold lstAt
    rw [s4.get hne]
    simp
  have hlt : μ3.length < μ4.length := by rw [s4.len]; simp
  have b6 : Bg n ((μ4.set μ3.length (.lst [.d v, .d d1, .d d2, .d d3])).set μ3.length .dead) := (b5.set (Ne.symm hne)).set (Ne.symm hne)
  obtain ⟨t, μ7, e7, ht, s7⟩ := of_ok b6 (xs := [v, d1, d2, d3]) (by simp) (by simp)
  have vt : Val 9 t := by
    simp at ht
    rcases ht with rfl | rfl | rfl | rfl
    · exact hv.val.mono (by decide)
    · exact v2
    · exact v3
    · exact v4.mono (by decide)
  refine ⟨some (.d v), some (.d (.list [v, d1, d2, d3])), μ7, ?_, s7.bg b6⟩
  refine (sc_nx (env1 := [x0, x1, x2, x3, some (.l n), x5, some (.d (.list xs)), some (.d v), x8, x9]) (μ1 := μ1) ?_).trans ?_
  · simp [e1]
  refine (sc_nx (env1 := [x0, x1, x2, x3, some (.l n), x5, some (.d (.list xs)), some (.d v), some (.l μ3.length), x9]) (μ1 := μ3 ++ [Ob.lst [.d v, .d d1, .d d2]]) ?_).trans ?_
  · have e2' : g__law_spoiled [.l n, .d v] μ1 = .ok (.d d1) μ2 := e2
    have e3' : g__law_spoiled [.l n, .d v] μ2 = .ok (.d d2) μ3 := e3
    simp [e2', e3', LIM]
  refine (sc_nx (env1 := [x0, x1, x2, x3, some (.l n), x5, some (.d (.list xs)), some (.d v), some (.l μ3.length), x9]) (μ1 := μ4.set μ3.length (.lst [.d v, .d d1, .d d2, .d d3])) ?_).trans ?_
  · have e4' : g__law_any_value [.l n, .d (.int 2)] (μ3 ++ [Ob.lst [.d v, .d d1, .d d2]]) = .ok (.d d3) μ4 := e4
    simp [fApp, at4, e4', at5, LIM]
  · have at6 : lstAt (μ4.set μ3.length (.lst [.d v, .d d1, .d d2, .d d3])) μ3.length = some [.d v, .d d1, .d d2, .d d3] := by
      unfold lstAt
      rw [List.getElem?_set_self hlt]
    unfold frz
    simp [at6, dats]
    simp at e7
    simp [e7, told_ok vt (by decide)]
/-! ### what is drawn may be spoiled -/
theorem name_src (p : Pd) : Src 1 p.toD := by
  cases p <;> (refine ⟨by simp, fun x hx => ?_⟩) <;> simp at hx <;> (try rcases hx with rfl | rfl) <;> (try subst hx) <;> first | trivial | exact ⟨by decide +kernel, by decide +kernel, by decide +kernel⟩
theorem row_src {r : List Pd} (h : r.length ≤ 100) : Src 2 (rowD r) := ⟨by rw [List.length_map]; exact h, fun x hx => by
  obtain ⟨p, _, rfl⟩ := List.mem_map.mp hx
  exact name_src p⟩
theorem Src.up : ∀ {n : Nat} {d : D}, Src n d → Src (n + 1) d
  | n, .int _, _ => by cases n <;> trivial
  | n, .str z, h => by cases n <;> exact h
  | n + 1, .tuple xs, h => ⟨h.1, fun x hx => Src.up (h.2 x hx)⟩
  | 0, .tuple _, h => h.elim
  | 0, .none, h => h.elim
  | n + 1, .none, h => h.elim
  | 0, .bool _, h => h.elim
  | n + 1, .bool _, h => h.elim
  | 0, .list _, h => h.elim
  | n + 1, .list _, h => h.elim
  | 0, .dict _, h => h.elim
  | n + 1, .dict _, h => h.elim
theorem board_src {B : List (List Pd)} (h : B.length ≤ 100) (hl : ∀ r ∈ B, r.length ≤ 100) : Src 3 (boardD B) := ⟨by rw [List.length_map]; exact h, fun x hx => by
  obtain ⟨r, hr, rfl⟩ := List.mem_map.mp hx
  exact row_src (hl r hr)⟩
theorem nums_src {ns : List Int} (h : ns.length ≤ 100) : Src 1 (numsD ns) := ⟨by rw [List.length_map]; exact h, fun x hx => by
  obtain ⟨r, hr, rfl⟩ := List.mem_map.mp hx
  trivial⟩
theorem lateness_ok {μ : Sto} {B : List (List Pd)} (h : boardOk B) (hl : ∀ r ∈ B, r.length ≤ 6) (h1 : 1 ≤ B.length) (h3 : B.length ≤ 3) : g_lateness [.d (boardD B)] μ = .ok (.d (.int (boardLate B))) μ := by
  unfold g_lateness
  refine run_0 ?_
  unfold B_lateness
  simp [startE, need_board_ok h hl h1 h3, board_late_ok h hl h1 (by omega)]
theorem body01 (ns : List Int) (k : Nat) (hk : k < 100) (rest : Env) (μ : Sto) (hr : rest.length = 8) : ∃ rest' μ', L_law_2 (some (.s ns) :: some (.d (.int (k : Nat))) :: rest) μ = .ok (.nx (some (.s ns) :: some (.d (.int (k : Nat))) :: rest')) μ' ∧ rest'.length = 8 := by
  match rest, hr with
  | [x2, x3, x4, x5, x6, x7, x8, x9], _ =>
  obtain ⟨ν, eb, B0⟩ := turn_bag ns k hk μ
  generalize μ.length = n at eb B0
  obtain ⟨B, μ1, e1, hB, hr, a1, a3, s1⟩ := board_ok B0 6 (by decide)
  have b1 := s1.bg B0
  obtain ⟨p, μ2, e2, hp, _, s2⟩ := pedal_ok b1 true
  have b2 := s2.bg b1
  obtain ⟨zs, μ3, e3, l3, _, s3⟩ := numbers_ok b2 40 (by decide)
  have b3 := s3.bg b2
  obtain ⟨q, μ4, e4, hq, l4, _, s4⟩ := pedals_ok b3 5 (by decide) false
  have b4 := s4.bg b3
  match B, hB, hr, a1, a3, e1 with
  | r0 :: B', hB, hr, a1, a3, e1 =>
  have hS : ∀ x ∈ [boardD (r0 :: B'), boardD (r0 :: B'), rowD r0, p.toD, numsD zs, rowD q], Src 3 x := by
    intro x hx
    have hb : Src 3 (boardD (r0 :: B')) := board_src (by omega) fun r hr' => by have := hr r hr'; omega
    simp at hx
    rcases hx with rfl | rfl | rfl | rfl | rfl
    · exact hb
    · exact (row_src (by have := hr r0 List.mem_cons_self; omega)).up
    · exact (name_src p).up.up
    · exact (nums_src (by omega)).up.up
    · exact (row_src (by omega)).up
  refine ?_
  obtain ⟨env5, μ5, e5, ⟨y2, y7, y8, rfl⟩, b5⟩ := for_inv (g := gVar 2) (b := L_law_1) (I := fun env μ' => (∃ y2 y7 y8, env = [some (.s ns), some (.d (.int (k : Nat))), y2, x3, some (.l n), some (.d (boardD (r0 :: B'))), some (.d (.list [boardD (r0 :: B'), boardD (r0 :: B'), rowD r0, p.toD, numsD zs, rowD q])), y7, y8, x9]) ∧ Bg n μ') (rangeD 0 12) [some (.s ns), some (.d (.int (k : Nat))), x2, x3, some (.l n), some (.d (boardD (r0 :: B'))), some (.d (.list [boardD (r0 :: B'), boardD (r0 :: B'), rowD r0, p.toD, numsD zs, rowD q])), x7, x8, x9] μ4 ⟨⟨_, _, _, rfl⟩, b4⟩ (by
    rintro x hx env μ' ⟨⟨y2, y7, y8, rfl⟩, hb⟩
    obtain ⟨z7, z8, μ6, e6, b6⟩ := inner01 hb (xs := [boardD (r0 :: B'), boardD (r0 :: B'), rowD r0, p.toD, numsD zs, rowD q]) (by simp) (by simp) hS (some (.s ns)) (some (.d (.int (k : Nat)))) (some (.d x)) x3 (some (.d (boardD (r0 :: B')))) y7 y8 x9
    exact ⟨_, _, _, μ6, rfl, e6, ⟨_, _, _, rfl⟩, b6⟩)
  refine ⟨[y2, x3, some (.l n), some (.d (boardD (r0 :: B'))), some (.d (.list [boardD (r0 :: B'), boardD (r0 :: B'), rowD r0, p.toD, numsD zs, rowD q])), y7, y8, x9], μ5, ?_, rfl⟩
  refine (sc_nx (env1 := [some (.s ns), some (.d (.int (k : Nat))), x2, x3, some (.l n), x5, x6, x7, x8, x9]) (μ1 := ν) ?_).trans ?_
  · simp [eb]
  refine (sc_nx (env1 := [some (.s ns), some (.d (.int (k : Nat))), x2, x3, some (.l n), some (.d (boardD (r0 :: B'))), x6, x7, x8, x9]) (μ1 := μ1) ?_).trans ?_
  · simp at e1
    simp [e1]
  refine (sc_nx (env1 := [some (.s ns), some (.d (.int (k : Nat))), x2, x3, some (.l n), some (.d (boardD (r0 :: B'))), some (.d (.list [boardD (r0 :: B'), boardD (r0 :: B'), rowD r0, p.toD, numsD zs, rowD q])), x7, x8, x9]) (μ1 := μ4) ?_).trans ?_
  · have ei : ixW (.d (boardD (r0 :: B'))) (.d (.int 0)) μ1 = .ok (.d (rowD r0)) μ1 := by
      unfold boardD
      rw [List.map_cons, ix_0]
    simp at e2 e3 e4
    simp [ei, e2, e3, e4, mkSeq, dats, LIM]
  refine (sc_nx (env1 := [some (.s ns), some (.d (.int (k : Nat))), y2, x3, some (.l n), some (.d (boardD (r0 :: B'))), some (.d (.list [boardD (r0 :: B'), boardD (r0 :: B'), rowD r0, p.toD, numsD zs, rowD q])), y7, y8, x9]) (μ1 := μ5) ?_).trans ?_
  · have er : rgK (.d (.int 12)) μ4 = .ok (rangeD 0 12) μ4 := rg_k (k := 12) (by omega)
    simp [er, e5]
  · have ec := fun (y : Env) => comp_map (g := gVar 9) (e := fCall (callD 1 g__law_lateness) (fCons (fVar 9) (fNil))) (env := [some (.s ns), some (.d (.int (k : Nat))), y2, x3, some (.l n), some (.d (boardD (r0 :: B'))), some (.d (.list [boardD (r0 :: B'), boardD (r0 :: B'), rowD r0, p.toD, numsD zs, rowD q])), y7, y8, none]) (toD := rowD) (φ := fun r => .int (lateOf r)) (r0 :: B') μ5 [] (fun r hr' => ⟨_, rfl, by have := hr r hr'; simp [law_late_ok (r := r) (by omega)]⟩) (by simp [LIM]; simp at a3; omega)
    obtain ⟨m, hm, _, _⟩ := maxL_bound (xs := (r0 :: B').map lateOf) (a := 0) (b := 100) (by simp) fun x hx => by
      obtain ⟨r, hr', rfl⟩ := List.mem_map.mp hx
      have := late_bound (hB r hr')
      have := hr r hr'
      omega
    have ek := k_max_g (μ := μ5) lateOf (r0 :: B') hm
    have el := lateness_ok (μ := μ5) hB hr a1 a3
    have : boardLate (r0 :: B') = m := by unfold boardLate; rw [hm]; rfl
    rw [this] at el
    have ec := ec []
    simp only [List.nil_append] at ec
    have hbd : boardD (r0 :: B') = .tuple ((r0 :: B').map rowD) := rfl
    simp only [hbd] at el ec ⊢
    simp only [e_sIf, e_B, e_op, e_call, e_cons, e_nil, e_var, e_comp, e_itS, e_wipe1, e_wipe0, List.getElem?_cons_succ, List.getElem?_cons_zero, Rs.bind_ok, e_callD, List.length_cons, List.length_nil, el, noex_ok, if_true, List.set_cons_succ, List.set_cons_zero, ec, ek, eq_int, e_asB, decide_true, Bool.not_true, Bool.false_eq_true, if_false, e_sNil]
def tn : D := .tuple [.str "turn"]
def rowsF : List D := [.tuple [.str "louder", .int 1], .tuple [.str "louder", .int 4], .tuple [.str "louder", .int 5], .tuple [.str "cut", .int 0], .tuple [.str "cut", .int 50], .tuple [.str "cut", .int 51], .tuple [.str "gate", .int (-1)],
  .tuple [.str "lift", .int (-20)], .tuple [.str "lift", .int 21], .tuple [.str "lift", .int 0], .tuple [.str "steps", .int 1], .tuple [.str "steps", .int 5], .tuple [.str "late", .int 6], .tuple [.str "cut"],
  .tuple [.str "late", .bool true], .tuple [.str "turn", .int 1], .tuple (List.replicate 5 tn), .tuple (List.replicate 6 tn), .tuple (List.replicate 7 tn), .tuple (List.replicate 3 (.tuple [])), .tuple (List.replicate 4 (.tuple [])),
  .tuple [], .tuple (List.replicate 40 (.int 3)), .tuple (List.replicate 41 (.int 3)), .tuple [.tuple [.str "late", .int 1]]]
theorem val2 {s : Str} (h : (PyData.str s).canLay0 = true) {d : D} (hd : Val 1 d) : Val 5 (.tuple [.str s, d]) := Val.mono (m := 2) (by decide) ⟨by simp, fun x hx => by
  simp at hx
  rcases hx with rfl | rfl
  · exact Val.str h
  · exact hd⟩
theorem valR {n m : Nat} {d : D} (hd : Val m d) (hn : n ≤ 1000) : Val (m + 1) (.tuple (List.replicate n d)) := ⟨by simpa using hn, fun x hx => by
  rw [(List.mem_replicate.mp hx).2]
  exact hd⟩
theorem tn_val : Val 2 tn := ⟨by simp, fun x hx => by
  simp at hx
  subst hx
  exact Val.str (by decide +kernel)⟩
theorem val0 {n : Nat} : Val (n + 1) (.tuple []) := ⟨by simp, fun x hx => by simp at hx⟩
theorem rowsF_val : ∀ d ∈ rowsF, Val 5 d := by
  intro d hd
  unfold rowsF at hd
  simp only [List.mem_cons, List.not_mem_nil, or_false] at hd
  rcases hd with rfl | rfl | rfl | rfl | rfl | rfl | rfl | rfl | rfl | rfl | rfl | rfl | rfl | rfl | rfl | rfl | rfl | rfl | rfl | rfl | rfl | rfl | rfl | rfl | rfl
  all_goals first
    | exact val2 (by decide +kernel) trivial
    | exact (valR tn_val (by decide)).mono (by decide)
    | exact (valR (m := 1) (d := .tuple []) val0 (by decide)).mono (by decide)
    | exact (valR (m := 1) (d := .int 3) trivial (by decide)).mono (by decide)
    | exact val0
    | skip
  · refine Val.mono (m := 2) (by decide) ⟨by simp, fun x hx => ?_⟩
    simp at hx; subst hx; exact Val.str (by decide +kernel)
  · refine Val.mono (m := 3) (by decide) ⟨by simp, fun x hx => ?_⟩
    simp at hx; subst hx
    refine ⟨by simp, fun x hx => ?_⟩
    simp at hx
    rcases hx with rfl | rfl
    · exact Val.str (by decide +kernel)
    · trivial
theorem mulT_rep {μ : Sto} (d : D) (k : Nat) (h1 : 1 ≤ k) (h2 : k ≤ 1000) : mulTW (.d (.tuple [d])) (.d (.int (k : Int))) μ = .ok (.d (.tuple (List.replicate k d))) μ := by
  show (if ([d] : List D) ≠ [] ∧ (1 : Int) ≤ k ∧ (k : Int) ≤ 1000 ∧ ([d] : List D).length ≤ 1000 then Rs.ok (Wv.d (.tuple (List.replicate (k : Int).toNat [d]).flatten)) μ else .no) = _
  rw [if_pos ⟨by simp, by omega, by omega, by simp⟩, Int.toNat_natCast]
  congr 3
  clear h1 h2
  induction k with
  | zero => rfl
  | succ k ih => rw [List.replicate_succ, List.flatten_cons, ih]; rfl
theorem tail1 (x0 x1 x2 x3 x4 x5 x6 x7 x8 x9 : Option Wv) (μ : Sto) : Tail1 [x0, x1, x2, x3, x4, x5, x6, x7, x8, x9] μ = .ok (.rt (.d (.bool true))) μ := by
  unfold Tail1
  have m5 := mulT_rep (μ := μ) tn 5 (by decide) (by decide)
  have m6 := mulT_rep (μ := μ) tn 6 (by decide) (by decide)
  have m7 := mulT_rep (μ := μ) tn 7 (by decide) (by decide)
  have m3 := mulT_rep (μ := μ) (.tuple []) 3 (by decide) (by decide)
  have m4 := mulT_rep (μ := μ) (.tuple []) 4 (by decide) (by decide)
  have m40 := mulT_rep (μ := μ) (.int 3) 40 (by decide) (by decide)
  have m41 := mulT_rep (μ := μ) (.int 3) 41 (by decide) (by decide)
  refine (sc_nx (env1 := [x0, x1, some (.d tn), x3, x4, x5, x6, x7, x8, x9]) (μ1 := μ) ?_).trans ?_
  · simp [tn]
  refine (sc_nx (env1 := [x0, x1, some (.d tn), some (.d (.list (rowsF.take 7))), x4, x5, x6, x7, x8, x9]) (μ1 := μ) ?_).trans ?_
  · simp [mkSeq, dats, LIM, rowsF]
  refine (sc_nx (env1 := [x0, x1, some (.d tn), some (.d (.list (rowsF.take 14))), x4, x5, x6, x7, x8, x9]) (μ1 := μ) ?_).trans ?_
  · simp [mkSeq, dats, LIM, rowsF, o_addL]
  refine (sc_nx (env1 := [x0, x1, some (.d tn), some (.d (.list (rowsF.take 21))), x4, x5, x6, x7, x8, x9]) (μ1 := μ) ?_).trans ?_
  · simp only [Int.cast_ofNat_Int] at m5 m6 m7 m3 m4
    simp only [e_sAsg, e_op, e_lst, e_cons, e_tup, e_nil, e_var, e_fC, List.getElem?_cons_succ, List.getElem?_cons_zero, Rs.bind_ok, mkSeq_1, mkSeq_2, mkSeq_0, m5, m6, m7, m3, m4]
    simp [mkSeq, dats, LIM, rowsF, o_addL]
  refine (sc_nx (env1 := [x0, x1, some (.d tn), some (.d (.list rowsF)), x4, x5, x6, x7, x8, x9]) (μ1 := μ) ?_).trans ?_
  · simp only [Int.cast_ofNat_Int] at m40 m41
    simp only [e_sAsg, e_op, e_lst, e_cons, e_tup, e_nil, e_var, e_fC, List.getElem?_cons_succ, List.getElem?_cons_zero, Rs.bind_ok, mkSeq_1, mkSeq_2, mkSeq_0, m40, m41]
    simp [mkSeq, dats, LIM, rowsF, o_addL]
  have ec := flt_comp (μ := μ) (q := fun _ => false) (t := fNot (fB (fCall (callD 1 g__law_told_right) (fCons (fVar 7) fNil)))) [x0, x1, some (.d tn), some (.d (.list rowsF)), x4, x5, x6, none, x8, x9] 7 (by simp) (xs := rowsF) (by decide) fun x hx => by
    simp [told_ok (rowsF_val x hx) (by decide)]
  have e0 := lst_eq0 (μ := μ) (m := 1) false (xs := []) (fun x hx => by simp at hx) (by decide)
  have ef : rowsF.filter (fun _ => false) = [] := by simp
  rw [ef] at ec
  simp [ec, e0]
theorem law01 (ns : List Int) : ∃ μ, g_law [.s ns] [] = .ok (.d (.bool true)) μ := by
  unfold g_law
  obtain ⟨env', μ', hl, e⟩ := law_loop (m := 8) (a := 4) (b := 10) (d := 3) (L := L_law_2) Tail1 ns (by decide) fun k rest μ hk hr => body01 ns k hk rest μ hr
  refine ⟨_, run_app (ν := μ') ?_⟩
  have eb : B_law = sCons (sFor (itR1 (fCall kMax2 (fCons (fC (.int 4)) (fCons (fCall kMin2 (fCons (fC (.int 10)) (fCons (fOp addW (fCall kLen (fCons (fVar 0) (fNil))) (fC (.int 3))) (fNil)))) (fNil))))) (gVar 1) (L_law_2)) Tail1 := rfl
  rw [eb]
  show (sCons _ _) (some (.s ns) :: List.replicate 9 none) [] = _
  rw [e]
  match env', hl with
  | [x1, x2, x3, x4, x5, x6, x7, x8, x9], _ => exact tail1 _ _ _ _ _ _ _ _ _ _ _
end Ped


namespace W01
open PySem L2 PyProof.Rows PySem.Spec Ped
def top (i : Nat) : Stmt := PySem.Challenge.pw_pedalrows_k01_pedals_boards_and_sounds_r.main.body.getD i (.Pass ⟨0, 0, 0, 0⟩)
abbrev s_is_number : Stmt := top 17
theorem sc_is_number : FnScope ["value"] ["value"] (defScope s_is_number) := ⟨rfl, rfl, rfl, by decide +kernel, rfl, by decide +kernel, by decide +kernel⟩
abbrev s_is_pedal : Stmt := top 18
theorem sc_is_pedal : FnScope ["value", "low", "high"] ["value"] (defScope s_is_pedal) := ⟨rfl, rfl, rfl, by decide +kernel, rfl, by decide +kernel, by decide +kernel⟩
abbrev s_is_row : Stmt := top 19
theorem sc_is_row : FnScope ["value", "pedal"] ["value"] (defScope s_is_row) := ⟨rfl, rfl, rfl, by decide +kernel, rfl, by decide +kernel, by decide +kernel⟩
abbrev s_is_board : Stmt := top 20
theorem sc_is_board : FnScope ["value", "row"] ["value"] (defScope s_is_board) := ⟨rfl, rfl, rfl, by decide +kernel, rfl, by decide +kernel, by decide +kernel⟩
abbrev s_are_numbers : Stmt := top 21
theorem sc_are_numbers : FnScope ["value", "number"] ["value"] (defScope s_are_numbers) := ⟨rfl, rfl, rfl, by decide +kernel, rfl, by decide +kernel, by decide +kernel⟩
abbrev s_is_sound : Stmt := top 22
theorem sc_is_sound : FnScope ["value"] ["value"] (defScope s_is_sound) := ⟨rfl, rfl, rfl, by decide +kernel, rfl, by decide +kernel, by decide +kernel⟩
abbrev s_is_lot : Stmt := top 23
theorem sc_is_lot : FnScope ["value", "pedal"] ["value"] (defScope s_is_lot) := ⟨rfl, rfl, rfl, by decide +kernel, rfl, by decide +kernel, by decide +kernel⟩
abbrev s_need_board : Stmt := top 24
theorem sc_need_board : FnScope ["value"] ["value"] (defScope s_need_board) := ⟨rfl, rfl, rfl, by decide +kernel, rfl, by decide +kernel, by decide +kernel⟩
abbrev s_late_of : Stmt := top 25
theorem sc_late_of : FnScope ["row", "pedal"] ["row"] (defScope s_late_of) := ⟨rfl, rfl, rfl, by decide +kernel, rfl, by decide +kernel, by decide +kernel⟩
abbrev s_board_late : Stmt := top 26
theorem sc_board_late : FnScope ["board", "row"] ["board"] (defScope s_board_late) := ⟨rfl, rfl, rfl, by decide +kernel, rfl, by decide +kernel, by decide +kernel⟩
abbrev s_lateness : Stmt := top 27
theorem sc_lateness : FnScope ["board"] ["board"] (defScope s_lateness) := ⟨rfl, rfl, rfl, by decide +kernel, rfl, by decide +kernel, by decide +kernel⟩
abbrev s__law_bag : Stmt := top 29
theorem sc__law_bag : FnScope ["script", "k", "cell"] ["script", "k"] (defScope s__law_bag) := ⟨rfl, rfl, rfl, by decide +kernel, rfl, by decide +kernel, by decide +kernel⟩
abbrev s__law_take : Stmt := top 30
theorem sc__law_take : FnScope ["bag", "many", "ground", "found"] ["bag", "many"] (defScope s__law_take) := ⟨rfl, rfl, rfl, by decide +kernel, rfl, by decide +kernel, by decide +kernel⟩
abbrev s__law_of : Stmt := top 31
theorem sc__law_of : FnScope ["bag", "some"] ["bag", "some"] (defScope s__law_of) := ⟨rfl, rfl, rfl, by decide +kernel, rfl, by decide +kernel, by decide +kernel⟩
abbrev s__law_pedal : Stmt := top 32
theorem sc__law_pedal : FnScope ["bag", "lates", "some", "word"] ["bag", "lates"] (defScope s__law_pedal) := ⟨rfl, rfl, rfl, by decide +kernel, rfl, by decide +kernel, by decide +kernel⟩
abbrev s__law_pedals : Stmt := top 33
theorem sc__law_pedals : FnScope ["bag", "most", "lates", "turn"] ["bag", "most", "lates"] (defScope s__law_pedals) := ⟨rfl, rfl, rfl, by decide +kernel, rfl, by decide +kernel, by decide +kernel⟩
abbrev s__law_board : Stmt := top 34
theorem sc__law_board : FnScope ["bag", "most", "many", "turn"] ["bag", "most"] (defScope s__law_board) := ⟨rfl, rfl, rfl, by decide +kernel, rfl, by decide +kernel, by decide +kernel⟩
abbrev s__law_numbers : Stmt := top 35
theorem sc__law_numbers : FnScope ["bag", "most", "found", "turn", "size"] ["bag", "most"] (defScope s__law_numbers) := ⟨rfl, rfl, rfl, by decide +kernel, rfl, by decide +kernel, by decide +kernel⟩
abbrev s__law_lateness : Stmt := top 36
theorem sc__law_lateness : FnScope ["row", "pedal"] ["row"] (defScope s__law_lateness) := ⟨rfl, rfl, rfl, by decide +kernel, rfl, by decide +kernel, by decide +kernel⟩
abbrev s__law_any_value : Stmt := top 37
theorem sc__law_any_value : FnScope ["bag", "depth", "kind", "items", "some", "k"] ["bag", "depth"] (defScope s__law_any_value) := ⟨rfl, rfl, rfl, by decide +kernel, rfl, by decide +kernel, by decide +kernel⟩
abbrev s__law_spoiled : Stmt := top 38
theorem sc__law_spoiled : FnScope ["bag", "value", "some", "at", "way"] ["bag", "value"] (defScope s__law_spoiled) := ⟨rfl, rfl, rfl, by decide +kernel, rfl, by decide +kernel, by decide +kernel⟩
abbrev s__law_is_pedal : Stmt := top 39
theorem sc__law_is_pedal : FnScope ["value", "bounds", "low", "high"] ["value"] (defScope s__law_is_pedal) := ⟨rfl, rfl, rfl, by decide +kernel, rfl, by decide +kernel, by decide +kernel⟩
abbrev s__law_is_row : Stmt := top 40
theorem sc__law_is_row : FnScope ["value", "one"] ["value"] (defScope s__law_is_row) := ⟨rfl, rfl, rfl, by decide +kernel, rfl, by decide +kernel, by decide +kernel⟩
abbrev s__law_is_board : Stmt := top 41
theorem sc__law_is_board : FnScope ["value", "one"] ["value"] (defScope s__law_is_board) := ⟨rfl, rfl, rfl, by decide +kernel, rfl, by decide +kernel, by decide +kernel⟩
abbrev s__law_is_sound : Stmt := top 42
theorem sc__law_is_sound : FnScope ["value", "one"] ["value"] (defScope s__law_is_sound) := ⟨rfl, rfl, rfl, by decide +kernel, rfl, by decide +kernel, by decide +kernel⟩
abbrev s__law_is_lot : Stmt := top 43
theorem sc__law_is_lot : FnScope ["value", "pedal"] ["value"] (defScope s__law_is_lot) := ⟨rfl, rfl, rfl, by decide +kernel, rfl, by decide +kernel, by decide +kernel⟩
abbrev s__law_told_right : Stmt := top 44
theorem sc__law_told_right : FnScope ["value", "told", "due", "one"] ["value"] (defScope s__law_told_right) := ⟨rfl, rfl, rfl, by decide +kernel, rfl, by decide +kernel, by decide +kernel⟩
abbrev s_law : Stmt := top 45
theorem sc_law : FnScope ["script", "k", "turn", "rows", "bag", "board", "some", "value", "more", "row"] ["script"] (defScope s_law) := ⟨rfl, rfl, rfl, by decide +kernel, rfl, by decide +kernel, by decide +kernel⟩
structure Txt (K : PySem.W.Frag) (w : World) (mg : Str → Option Value) (a_BOUNDS : Addr) (a_PLAIN : Addr) : Prop where
  n_abs : mg "abs" = none
  n_all : mg "all" = none
  n_bool : mg "bool" = none
  n_int : mg "int" = none
  n_isinstance : mg "isinstance" = none
  n_len : mg "len" = none
  n_list : mg "list" = none
  n_max : mg "max" = none
  n_min : mg "min" = none
  n_range : mg "range" = none
  n_str : mg "str" = none
  n_sum : mg "sum" = none
  n_tuple : mg "tuple" = none
  k_LATE : ∃ t, mg "LATE" = some (.str "late" t)
  k_MOST_NUMBERS : ∃ t, mg "MOST_NUMBERS" = some (.int 40 t)
  k_MOST_PEDALS : ∃ t, mg "MOST_PEDALS" = some (.int 6 t)
  k_MOST_ROWS : ∃ t, mg "MOST_ROWS" = some (.int 3 t)
  t_BOUNDS : KTab K w a_BOUNDS v_BOUNDS
  g_BOUNDS : mg "BOUNDS" = some (.ref a_BOUNDS)
  t_PLAIN : KTup K a_PLAIN v_PLAIN
  g_PLAIN : mg "PLAIN" = some (.ref a_PLAIN)
section
variable {P : Program} {w : World} {K : PySem.W.Frag} {mg : Str → Option Value} {base : Heap} {a_BOUNDS : Addr} {a_PLAIN : Addr}
theorem ok_is_number (T : Txt K w mg a_BOUNDS a_PLAIN) (F : DefAt K mg "is_number" s_is_number ["value"]) : OkAt P w K mg base 1 "is_number" ["value"] 1 g_is_number :=
  okAt_mk (B := B_is_number) F sc_is_number (fun f cdv A outer s H E hr => cb_one (cs_ret (c_and (c_isi (by decide +kernel) k_int (by rfl) T.n_isinstance (by decide +kernel) (by rfl) T.n_int (c_var 0)) (c_one (c_not (c_isi (by decide +kernel) k_bool (by rfl) T.n_isinstance (by decide +kernel) (by rfl) T.n_bool (c_var 0))))))) fun _ _ _ => .inr rfl
theorem ok_is_pedal (T : Txt K w mg a_BOUNDS a_PLAIN) (F : DefAt K mg "is_pedal" s_is_pedal ["value"]) (O_is_number : OkAt P w K mg base 1 "is_number" ["value"] 1 g_is_number) : OkAt P w K mg base 2 "is_pedal" ["value"] 1 g_is_pedal :=
  okAt_mk (B := B_is_pedal) F sc_is_pedal (fun f cdv A outer s H E hr => cb_cons (cs_if ((cw_or (ct_not (ct_val (c_isi (by decide +kernel) k_tuple (by rfl) T.n_isinstance (by decide +kernel) (by rfl) T.n_tuple (c_var 0)))) (cw_or (ct_eq (ru64 hr) (c_var 0) (c_tup (ca_nil))) (cw_or1 (ct_not (ct_val (c_isi (by decide +kernel) k_str (by rfl) T.n_isinstance (by decide +kernel) (by rfl) T.n_str (c_ix (c_var 0) (c_int)))))))).ct) (cb_one (cs_ret (c_bl))) (cb_nil)) (cb_cons (cs_if (ct_inK T.t_PLAIN (by rfl) T.g_PLAIN (c_ix (c_var 0) (c_int))) (cb_one (cs_ret (c_eq (ru64 hr) (c_callB call_len ok_len kLen_nx (by rfl) T.n_len (by decide +kernel) (ca_cons (c_var 0) (ca_nil))) (c_int)))) (cb_nil)) (cb_cons (cs_if ((cw_or (ct_notinTab T.t_BOUNDS (by rfl) T.g_BOUNDS (c_ix (c_var 0) (c_int))) (cw_or (ct_ne (ru64 hr) (c_callB call_len ok_len kLen_nx (by rfl) T.n_len (by decide +kernel) (ca_cons (c_var 0) (ca_nil))) (c_int)) (cw_or1 (ct_not (ct_val (c_fn O_is_number (hr.mono (by decide)) (by rfl) (ca_cons (c_ix (c_var 0) (c_int)) (ca_nil)))))))).ct) (cb_one (cs_ret (c_bl))) (cb_nil)) (cb_cons (cs_tab 1 2 T.t_BOUNDS rfl sc_is_pedal.nd rfl rfl (by first | exact Or.inl rfl | exact Or.inr rfl) (by first | exact Or.inl rfl | exact Or.inr rfl) (by rfl) T.g_BOUNDS (c_ix (c_var 0) (c_int))) (cb_one (cs_ret (c_and (c_lele (c_var 1) (c_ix (c_var 0) (c_int)) (c_var 2)) (c_one (c_ne (ru64 hr) (c_ix (c_var 0) (c_int)) (c_int)))))))))) fun _ _ _ => .inr rfl
theorem ok_is_row (T : Txt K w mg a_BOUNDS a_PLAIN) (F : DefAt K mg "is_row" s_is_row ["value"]) (O_is_pedal : OkAt P w K mg base 2 "is_pedal" ["value"] 1 g_is_pedal) : OkAt P w K mg base 3 "is_row" ["value"] 1 g_is_row :=
  okAt_mk (B := B_is_row) F sc_is_row (fun f cdv A outer s H E hr => cb_one (cs_ret (c_and (c_isi (by decide +kernel) k_tuple (by rfl) T.n_isinstance (by decide +kernel) (by rfl) T.n_tuple (c_var 0)) (c_and (c_le (c_callB call_len ok_len kLen_nx (by rfl) T.n_len (by decide +kernel) (ca_cons (c_var 0) (ca_nil))) (c_globI (by rfl) T.k_MOST_PEDALS)) (c_one (c_callB (cr_all rfl) ok_all (kBools_nx _) (by rfl) T.n_all (by decide +kernel) (ca_cons (c_comp rfl sc_is_row.nd (ci_seq (c_var 0)) (blkOk_by (own := [("pedal", 1)]) (N := ["value", "pedal"]) (sc := defScope s_is_row) (by decide +kernel)) (by decide) (fun _ _ _ _ _ => cg_name (i := 1) sc_is_row.nd rfl (by first | exact Or.inl rfl | exact Or.inr rfl)) (fun _ _ _ _ _ => cts_nil) (fun _ _ _ _ _ => c_fn O_is_pedal (hr.mono (by decide)) (by rfl) (ca_cons (c_var 1) (ca_nil)))) (ca_nil)))))))) fun _ _ _ => .inr rfl
theorem ok_is_board (T : Txt K w mg a_BOUNDS a_PLAIN) (F : DefAt K mg "is_board" s_is_board ["value"]) (O_is_row : OkAt P w K mg base 3 "is_row" ["value"] 1 g_is_row) : OkAt P w K mg base 4 "is_board" ["value"] 1 g_is_board :=
  okAt_mk (B := B_is_board) F sc_is_board (fun f cdv A outer s H E hr => cb_one (cs_ret (c_and (c_isi (by decide +kernel) k_tuple (by rfl) T.n_isinstance (by decide +kernel) (by rfl) T.n_tuple (c_var 0)) (c_and (c_lele (c_int) (c_callB call_len ok_len kLen_nx (by rfl) T.n_len (by decide +kernel) (ca_cons (c_var 0) (ca_nil))) (c_globI (by rfl) T.k_MOST_ROWS)) (c_one (c_callB (cr_all rfl) ok_all (kBools_nx _) (by rfl) T.n_all (by decide +kernel) (ca_cons (c_comp rfl sc_is_board.nd (ci_seq (c_var 0)) (blkOk_by (own := [("row", 1)]) (N := ["value", "row"]) (sc := defScope s_is_board) (by decide +kernel)) (by decide) (fun _ _ _ _ _ => cg_name (i := 1) sc_is_board.nd rfl (by first | exact Or.inl rfl | exact Or.inr rfl)) (fun _ _ _ _ _ => cts_nil) (fun _ _ _ _ _ => c_fn O_is_row (hr.mono (by decide)) (by rfl) (ca_cons (c_var 1) (ca_nil)))) (ca_nil)))))))) fun _ _ _ => .inr rfl
theorem ok_are_numbers (T : Txt K w mg a_BOUNDS a_PLAIN) (F : DefAt K mg "are_numbers" s_are_numbers ["value"]) (O_is_number : OkAt P w K mg base 1 "is_number" ["value"] 1 g_is_number) : OkAt P w K mg base 2 "are_numbers" ["value"] 1 g_are_numbers :=
  okAt_mk (B := B_are_numbers) F sc_are_numbers (fun f cdv A outer s H E hr => cb_one (cs_ret (c_and (c_isi (by decide +kernel) k_tuple (by rfl) T.n_isinstance (by decide +kernel) (by rfl) T.n_tuple (c_var 0)) (c_one (c_callB (cr_all rfl) ok_all (kBools_nx _) (by rfl) T.n_all (by decide +kernel) (ca_cons (c_comp rfl sc_are_numbers.nd (ci_seq (c_var 0)) (blkOk_by (own := [("number", 1)]) (N := ["value", "number"]) (sc := defScope s_are_numbers) (by decide +kernel)) (by decide) (fun _ _ _ _ _ => cg_name (i := 1) sc_are_numbers.nd rfl (by first | exact Or.inl rfl | exact Or.inr rfl)) (fun _ _ _ _ _ => cts_nil) (fun _ _ _ _ _ => c_fn O_is_number (hr.mono (by decide)) (by rfl) (ca_cons (c_var 1) (ca_nil)))) (ca_nil))))))) fun _ _ _ => .inr rfl
theorem ok_is_sound (T : Txt K w mg a_BOUNDS a_PLAIN) (F : DefAt K mg "is_sound" s_is_sound ["value"]) (O_are_numbers : OkAt P w K mg base 2 "are_numbers" ["value"] 1 g_are_numbers) : OkAt P w K mg base 3 "is_sound" ["value"] 1 g_is_sound :=
  okAt_mk (B := B_is_sound) F sc_is_sound (fun f cdv A outer s H E hr => cb_one (cs_ret (c_and (c_fn O_are_numbers (hr.mono (by decide)) (by rfl) (ca_cons (c_var 0) (ca_nil))) (c_one (c_le (c_callB call_len ok_len kLen_nx (by rfl) T.n_len (by decide +kernel) (ca_cons (c_var 0) (ca_nil))) (c_globI (by rfl) T.k_MOST_NUMBERS)))))) fun _ _ _ => .inr rfl
theorem ok_is_lot (T : Txt K w mg a_BOUNDS a_PLAIN) (F : DefAt K mg "is_lot" s_is_lot ["value"]) (O_is_row : OkAt P w K mg base 3 "is_row" ["value"] 1 g_is_row) : OkAt P w K mg base 4 "is_lot" ["value"] 1 g_is_lot :=
  okAt_mk (B := B_is_lot) F sc_is_lot (fun f cdv A outer s H E hr => cb_cons (cs_if ((cw_or (ct_not (ct_val (c_fn O_is_row (hr.mono (by decide)) (by rfl) (ca_cons (c_var 0) (ca_nil))))) (cw_or1 (ct_not (ct_lele (c_int) (c_callB call_len ok_len kLen_nx (by rfl) T.n_len (by decide +kernel) (ca_cons (c_var 0) (ca_nil))) (c_int))))).ct) (cb_one (cs_ret (c_bl))) (cb_nil)) (cb_one (cs_ret (c_notin (ru65 hr) (c_globS (by rfl) T.k_LATE) (c_comp rfl sc_is_lot.nd (ci_seq (c_var 0)) (blkOk_by (own := [("pedal", 1)]) (N := ["value", "pedal"]) (sc := defScope s_is_lot) (by decide +kernel)) (by decide) (fun _ _ _ _ _ => cg_name (i := 1) sc_is_lot.nd rfl (by first | exact Or.inl rfl | exact Or.inr rfl)) (fun _ _ _ _ _ => cts_nil) (fun _ _ _ _ _ => c_ix (c_var 1) (c_int))))))) fun _ _ _ => .inr rfl
theorem ok_need_board (T : Txt K w mg a_BOUNDS a_PLAIN) (F : DefAt K mg "need_board" s_need_board ["value"]) (O_is_board : OkAt P w K mg base 4 "is_board" ["value"] 1 g_is_board) : OkAt P w K mg base 5 "need_board" ["value"] 1 g_need_board :=
  okAt_mk (B := B_need_board) F sc_need_board (fun f cdv A outer s H E hr => cb_one (cs_if (ct_not (ct_val (c_fn O_is_board (hr.mono (by decide)) (by rfl) (ca_cons (c_var 0) (ca_nil))))) (cb_one (cs_never)) (cb_nil))) fun _ _ _ => .inr rfl
theorem ok_late_of (T : Txt K w mg a_BOUNDS a_PLAIN) (F : DefAt K mg "late_of" s_late_of ["row"]) : OkAt P w K mg base 1 "late_of" ["row"] 1 g_late_of :=
  okAt_mk (B := B_late_of) F sc_late_of (fun f cdv A outer s H E hr => cb_one (cs_ret (c_callB (cr_sum rfl) ok_sum (kInts_nx _) (by rfl) T.n_sum (by decide +kernel) (ca_cons (c_comp rfl sc_late_of.nd (ci_seq (c_var 0)) (blkOk_by (own := [("pedal", 1)]) (N := ["row", "pedal"]) (sc := defScope s_late_of) (by decide +kernel)) (by decide) (fun _ _ _ _ _ => cg_name (i := 1) sc_late_of.nd rfl (by first | exact Or.inl rfl | exact Or.inr rfl)) (fun _ _ _ _ _ => cts_one (ct_eq (ru64 hr) (c_ix (c_var 1) (c_int)) (c_globS (by rfl) T.k_LATE))) (fun _ _ _ _ _ => c_ix (c_var 1) (c_int))) (ca_nil))))) fun _ _ _ => .inr rfl
theorem ok_board_late (T : Txt K w mg a_BOUNDS a_PLAIN) (F : DefAt K mg "board_late" s_board_late ["board"]) (O_late_of : OkAt P w K mg base 1 "late_of" ["row"] 1 g_late_of) : OkAt P w K mg base 2 "board_late" ["board"] 1 g_board_late :=
  okAt_mk (B := B_board_late) F sc_board_late (fun f cdv A outer s H E hr => cb_one (cs_ret (c_callB (cr_max rfl) ok_max (kInts_nx _) (by rfl) T.n_max (by decide +kernel) (ca_cons (c_comp rfl sc_board_late.nd (ci_seq (c_var 0)) (blkOk_by (own := [("row", 1)]) (N := ["board", "row"]) (sc := defScope s_board_late) (by decide +kernel)) (by decide) (fun _ _ _ _ _ => cg_name (i := 1) sc_board_late.nd rfl (by first | exact Or.inl rfl | exact Or.inr rfl)) (fun _ _ _ _ _ => cts_nil) (fun _ _ _ _ _ => c_fn O_late_of (hr.mono (by decide)) (by rfl) (ca_cons (c_var 1) (ca_nil)))) (ca_nil))))) fun _ _ _ => .inr rfl
theorem ok_lateness (T : Txt K w mg a_BOUNDS a_PLAIN) (F : DefAt K mg "lateness" s_lateness ["board"]) (O_board_late : OkAt P w K mg base 2 "board_late" ["board"] 1 g_board_late) (O_need_board : OkAt P w K mg base 5 "need_board" ["value"] 1 g_need_board) : OkAt P w K mg base 6 "lateness" ["board"] 1 g_lateness :=
  okAt_mk (B := B_lateness) F sc_lateness (fun f cdv A outer s H E hr => cb_cons (cs_expr (c_fn O_need_board (hr.mono (by decide)) (by rfl) (ca_cons (c_var 0) (ca_nil)))) (cb_one (cs_ret (c_fn O_board_late (hr.mono (by decide)) (by rfl) (ca_cons (c_var 0) (ca_nil)))))) fun _ _ _ => .inr rfl
theorem ok__law_bag (T : Txt K w mg a_BOUNDS a_PLAIN) (F : DefAt K mg "_law_bag" s__law_bag ["script", "k"]) : OkAt P w K mg base 1 "_law_bag" ["script", "k"] 2 g__law_bag :=
  okAt_mk (B := B__law_bag) F sc__law_bag (fun f cdv A outer s H E hr => cb_cons (cs_set 2 sc__law_bag.nd rfl (by first | exact Or.inl rfl | exact Or.inr rfl) (c_if (ct_lt (c_var 1) (c_callB call_len ok_len kLen_nx (by rfl) T.n_len (by decide +kernel) (ca_cons (c_var 0) (ca_nil)))) (c_callB call_abs ok_abs (k1I_nx _) (by rfl) T.n_abs (by decide +kernel) (ca_cons (c_callTy call_int1 ok_int kInt_nx (by rfl) T.n_int (by decide +kernel) (ca_cons (c_ix (c_var 0) (c_var 1)) (ca_nil))) (ca_nil))) (c_add (c_mul (c_int) (c_var 1)) (c_int)))) (cb_one (cs_ret (c_lstN (ca_cons (c_if (ct_ge (c_var 2) (c_pow (c_int) (c_int))) (c_var 2) (c_int)) (ca_cons (c_mod (c_callTy call_int1 ok_int kInt_nx (by rfl) T.n_int (by decide +kernel) (ca_cons (c_add (c_add (c_mod (c_callTy call_int1 ok_int kInt_nx (by rfl) T.n_int (by decide +kernel) (ca_cons (c_var 2) (ca_nil))) (c_int)) (c_mul (c_int) (c_var 1))) (c_int)) (ca_nil))) (c_int)) (ca_nil))))))) fun _ _ _ => .inr rfl
theorem ok__law_take (T : Txt K w mg a_BOUNDS a_PLAIN) (F : DefAt K mg "_law_take" s__law_take ["bag", "many"]) : OkAt P w K mg base 1 "_law_take" ["bag", "many"] 2 g__law_take :=
  okAt_mk (B := B__law_take) F sc__law_take (fun f cdv A outer s H E hr => cb_cons (cs_if (ct_gt (c_ix (c_var 0) (c_int)) (c_int)) (cb_cons (cs_set 3 sc__law_take.nd rfl (by first | exact Or.inl rfl | exact Or.inr rfl) (c_mod (c_callTy call_int1 ok_int kInt_nx (by rfl) T.n_int (by decide +kernel) (ca_cons (c_ix (c_var 0) (c_int)) (ca_nil))) (c_var 1))) (cb_cons (cs_setix (c_div (c_callTy call_int1 ok_int kInt_nx (by rfl) T.n_int (by decide +kernel) (ca_cons (c_ix (c_var 0) (c_int)) (ca_nil))) (c_var 1)) (c_var 0) (c_int)) (cb_one (cs_ret (c_var 3))))) (cb_nil)) (cb_cons (cs_setix (c_mod (c_callTy call_int1 ok_int kInt_nx (by rfl) T.n_int (by decide +kernel) (ca_cons (c_add (c_mul (c_ix (c_var 0) (c_int)) (c_int)) (c_int)) (ca_nil))) (c_int)) (c_var 0) (c_int)) (cb_cons (cs_set 2 sc__law_take.nd rfl (by first | exact Or.inl rfl | exact Or.inr rfl) (c_mod (c_mul (c_callTy call_int1 ok_int kInt_nx (by rfl) T.n_int (by decide +kernel) (ca_cons (c_ix (c_var 0) (c_int)) (ca_nil))) (c_add (c_div (c_callTy call_int1 ok_int kInt_nx (by rfl) T.n_int (by decide +kernel) (ca_cons (c_ix (c_var 0) (c_int)) (ca_nil))) (c_int)) (c_int))) (c_int))) (cb_one (cs_ret (c_mod (c_callTy call_int1 ok_int kInt_nx (by rfl) T.n_int (by decide +kernel) (ca_cons (c_div (c_callTy call_int1 ok_int kInt_nx (by rfl) T.n_int (by decide +kernel) (ca_cons (c_var 2) (ca_nil))) (c_int)) (ca_nil))) (c_var 1))))))) fun _ _ _ => .inr rfl
theorem ok__law_of (T : Txt K w mg a_BOUNDS a_PLAIN) (F : DefAt K mg "_law_of" s__law_of ["bag", "some"]) (O__law_take : OkAt P w K mg base 1 "_law_take" ["bag", "many"] 2 g__law_take) : OkAt P w K mg base 2 "_law_of" ["bag", "some"] 2 g__law_of :=
  okAt_mk (B := B__law_of) F sc__law_of (fun f cdv A outer s H E hr => cb_one (cs_ret (c_ix (c_var 1) (c_fn O__law_take (hr.mono (by decide)) (by rfl) (ca_cons (c_var 0) (ca_cons (c_callB call_len ok_len kLen_nx (by rfl) T.n_len (by decide +kernel) (ca_cons (c_var 1) (ca_nil))) (ca_nil))))))) fun _ _ _ => .inr rfl
theorem ok__law_pedal (T : Txt K w mg a_BOUNDS a_PLAIN) (F : DefAt K mg "_law_pedal" s__law_pedal ["bag", "lates"]) (O__law_of : OkAt P w K mg base 2 "_law_of" ["bag", "some"] 2 g__law_of) (O__law_take : OkAt P w K mg base 1 "_law_take" ["bag", "many"] 2 g__law_take) : OkAt P w K mg base 3 "_law_pedal" ["bag", "lates"] 2 g__law_pedal :=
  okAt_mk (B := B__law_pedal) F sc__law_pedal (fun f cdv A outer s H E hr => cb_cons (cs_set 2 sc__law_pedal.nd rfl (by first | exact Or.inl rfl | exact Or.inr rfl) (c_lst (ca_cons (c_str) (ca_cons (c_str) (ca_cons (c_str) (ca_cons (c_str) (ca_cons (c_str) (ca_cons (c_str) (ca_cons (c_str) (ca_cons (c_str) (ca_cons (c_str) (ca_nil)))))))))))) (cb_cons (cs_set 3 sc__law_pedal.nd rfl (by first | exact Or.inl rfl | exact Or.inr rfl) (c_fn O__law_of (hr.mono (by decide)) (by rfl) (ca_cons (c_var 0) (ca_cons (c_add (c_var 2) (c_lst (ca_cons (c_if (ct_val (c_var 1)) (c_str) (c_str)) (ca_nil)))) (ca_nil))))) (cb_cons (cs_if (ct_in (ru65 hr) (c_var 3) (c_lst (ca_cons (c_str) (ca_cons (c_str) (ca_nil))))) (cb_one (cs_ret (c_tup (ca_cons (c_var 3) (ca_nil))))) (cb_nil)) (cb_cons (cs_if (ct_eq (ru64 hr) (c_var 3) (c_str)) (cb_one (cs_ret (c_tup (ca_cons (c_var 3) (ca_cons (c_add (c_int) (c_fn O__law_take (hr.mono (by decide)) (by rfl) (ca_cons (c_var 0) (ca_cons (c_int) (ca_nil))))) (ca_nil)))))) (cb_nil)) (cb_cons (cs_if (ct_eq (ru64 hr) (c_var 3) (c_str)) (cb_one (cs_ret (c_tup (ca_cons (c_var 3) (ca_cons (c_mul (c_fn O__law_of (hr.mono (by decide)) (by rfl) (ca_cons (c_var 0) (ca_cons (c_lst (ca_cons (c_neg (c_int)) (ca_cons (c_int) (ca_nil)))) (ca_nil)))) (c_add (c_int) (c_fn O__law_take (hr.mono (by decide)) (by rfl) (ca_cons (c_var 0) (ca_cons (c_fn O__law_of (hr.mono (by decide)) (by rfl) (ca_cons (c_var 0) (ca_cons (c_lst (ca_cons (c_int) (ca_cons (c_int) (ca_nil)))) (ca_nil)))) (ca_nil)))))) (ca_nil)))))) (cb_nil)) (cb_cons (cs_if (ct_eq (ru64 hr) (c_var 3) (c_str)) (cb_one (cs_ret (c_tup (ca_cons (c_var 3) (ca_cons (c_add (c_int) (c_fn O__law_take (hr.mono (by decide)) (by rfl) (ca_cons (c_var 0) (ca_cons (c_int) (ca_nil))))) (ca_nil)))))) (cb_nil)) (cb_one (cs_ret (c_tup (ca_cons (c_var 3) (ca_cons (c_add (c_int) (c_fn O__law_take (hr.mono (by decide)) (by rfl) (ca_cons (c_var 0) (ca_cons (c_if (ct_eq (ru64 hr) (c_var 3) (c_str)) (c_int) (c_fn O__law_of (hr.mono (by decide)) (by rfl) (ca_cons (c_var 0) (ca_cons (c_lst (ca_cons (c_int) (ca_cons (c_int) (ca_cons (c_int) (ca_nil))))) (ca_nil))))) (ca_nil))))) (ca_nil)))))))))))) fun _ _ _ => .inr rfl
theorem ok__law_pedals (T : Txt K w mg a_BOUNDS a_PLAIN) (F : DefAt K mg "_law_pedals" s__law_pedals ["bag", "most", "lates"]) (O__law_pedal : OkAt P w K mg base 3 "_law_pedal" ["bag", "lates"] 2 g__law_pedal) (O__law_take : OkAt P w K mg base 1 "_law_take" ["bag", "many"] 2 g__law_take) : OkAt P w K mg base 4 "_law_pedals" ["bag", "most", "lates"] 3 g__law_pedals :=
  okAt_mk (B := B__law_pedals) F sc__law_pedals (fun f cdv A outer s H E hr => cb_one (cs_ret (c_callTy call_tuple_of ok_tuple kTuple_nx (by rfl) T.n_tuple (by decide +kernel) (ca_cons (c_comp rfl sc__law_pedals.nd (ci_range1 (by rfl) T.n_range (c_fn O__law_take (hr.mono (by decide)) (by rfl) (ca_cons (c_var 0) (ca_cons (c_add (c_var 1) (c_int)) (ca_nil))))) (blkOk_by (own := [("turn", 3)]) (N := ["bag", "most", "lates", "turn"]) (sc := defScope s__law_pedals) (by decide +kernel)) (by decide) (fun _ _ _ _ _ => cg_name (i := 3) sc__law_pedals.nd rfl (by first | exact Or.inl rfl | exact Or.inr rfl)) (fun _ _ _ _ _ => cts_nil) (fun _ _ _ _ _ => c_fn O__law_pedal (hr.mono (by decide)) (by rfl) (ca_cons (c_var 0) (ca_cons (c_var 2) (ca_nil))))) (ca_nil))))) fun _ _ _ => .inr rfl
theorem ok__law_board (T : Txt K w mg a_BOUNDS a_PLAIN) (F : DefAt K mg "_law_board" s__law_board ["bag", "most"]) (O__law_of : OkAt P w K mg base 2 "_law_of" ["bag", "some"] 2 g__law_of) (O__law_pedals : OkAt P w K mg base 4 "_law_pedals" ["bag", "most", "lates"] 3 g__law_pedals) : OkAt P w K mg base 5 "_law_board" ["bag", "most"] 2 g__law_board :=
  okAt_mk (B := B__law_board) F sc__law_board (fun f cdv A outer s H E hr => cb_cons (cs_set 2 sc__law_board.nd rfl (by first | exact Or.inl rfl | exact Or.inr rfl) (c_fn O__law_of (hr.mono (by decide)) (by rfl) (ca_cons (c_var 0) (ca_cons (c_lst (ca_cons (c_int) (ca_cons (c_int) (ca_cons (c_int) (ca_cons (c_int) (ca_nil)))))) (ca_nil))))) (cb_one (cs_ret (c_callTy call_tuple_of ok_tuple kTuple_nx (by rfl) T.n_tuple (by decide +kernel) (ca_cons (c_comp rfl sc__law_board.nd (ci_range1 (by rfl) T.n_range (c_var 2)) (blkOk_by (own := [("turn", 3)]) (N := ["bag", "most", "many", "turn"]) (sc := defScope s__law_board) (by decide +kernel)) (by decide) (fun _ _ _ _ _ => cg_name (i := 3) sc__law_board.nd rfl (by first | exact Or.inl rfl | exact Or.inr rfl)) (fun _ _ _ _ _ => cts_nil) (fun _ _ _ _ _ => c_fn O__law_pedals (hr.mono (by decide)) (by rfl) (ca_cons (c_var 0) (ca_cons (c_var 1) (ca_cons (c_bl) (ca_nil)))))) (ca_nil)))))) fun _ _ _ => .inr rfl
theorem ok__law_numbers (T : Txt K w mg a_BOUNDS a_PLAIN) (F : DefAt K mg "_law_numbers" s__law_numbers ["bag", "most"]) (O__law_of : OkAt P w K mg base 2 "_law_of" ["bag", "some"] 2 g__law_of) (O__law_take : OkAt P w K mg base 1 "_law_take" ["bag", "many"] 2 g__law_take) : OkAt P w K mg base 3 "_law_numbers" ["bag", "most"] 2 g__law_numbers :=
  okAt_mk (B := B__law_numbers) F sc__law_numbers (fun f cdv A outer s H E hr => cb_cons (cs_set 2 sc__law_numbers.nd rfl (by first | exact Or.inl rfl | exact Or.inr rfl) (c_tup (ca_nil))) (cb_cons (cs_for PassesOwn.never rfl (ci_range1 (by rfl) T.n_range (c_fn O__law_take (hr.mono (by decide)) (by rfl) (ca_cons (c_var 0) (ca_cons (c_add (c_var 1) (c_int)) (ca_nil))))) (cg_name (i := 3) sc__law_numbers.nd rfl (by first | exact Or.inl rfl | exact Or.inr rfl)) (cb_cons (cs_set 4 sc__law_numbers.nd rfl (by first | exact Or.inl rfl | exact Or.inr rfl) (c_fn O__law_of (hr.mono (by decide)) (by rfl) (ca_cons (c_var 0) (ca_cons (c_lst (ca_cons (c_int) (ca_cons (c_int) (ca_cons (c_int) (ca_cons (c_int) (ca_cons (c_pow (c_int) (c_int)) (ca_nil))))))) (ca_nil))))) (cb_one (cs_set 2 sc__law_numbers.nd rfl (by first | exact Or.inl rfl | exact Or.inr rfl) (c_add (c_var 2) (c_tup (ca_cons (c_sub (c_fn O__law_take (hr.mono (by decide)) (by rfl) (ca_cons (c_var 0) (ca_cons (c_add (c_mul (c_int) (c_var 4)) (c_int)) (ca_nil)))) (c_var 4)) (ca_nil)))))))) (cb_one (cs_ret (c_var 2))))) fun _ _ _ => .inr rfl
theorem ok__law_lateness (T : Txt K w mg a_BOUNDS a_PLAIN) (F : DefAt K mg "_law_lateness" s__law_lateness ["row"]) : OkAt P w K mg base 1 "_law_lateness" ["row"] 1 g__law_lateness :=
  okAt_mk (B := B__law_lateness) F sc__law_lateness (fun f cdv A outer s H E hr => cb_one (cs_ret (c_callB (cr_sum rfl) ok_sum (kInts_nx _) (by rfl) T.n_sum (by decide +kernel) (ca_cons (c_comp rfl sc__law_lateness.nd (ci_seq (c_var 0)) (blkOk_by (own := [("pedal", 1)]) (N := ["row", "pedal"]) (sc := defScope s__law_lateness) (by decide +kernel)) (by decide) (fun _ _ _ _ _ => cg_name (i := 1) sc__law_lateness.nd rfl (by first | exact Or.inl rfl | exact Or.inr rfl)) (fun _ _ _ _ _ => cts_one (ct_eq (ru64 hr) (c_ix (c_var 1) (c_int)) (c_str))) (fun _ _ _ _ _ => c_ix (c_var 1) (c_int))) (ca_nil))))) fun _ _ _ => .inr rfl
theorem ok__law_any_value (T : Txt K w mg a_BOUNDS a_PLAIN) (F : DefAt K mg "_law_any_value" s__law_any_value ["bag", "depth"]) (O__law_of : OkAt P w K mg base 2 "_law_of" ["bag", "some"] 2 g__law_of) (O__law_take : OkAt P w K mg base 1 "_law_take" ["bag", "many"] 2 g__law_take) : ∀ n : Nat, OkAt P w K mg base (2 + n + 1) "_law_any_value" ["bag", "depth"] 2 (gr__law_any_value n)
  | 0 => okAt_mk (B := fun _ _ => .no) F sc__law_any_value (fun f cdv A outer s H E hr => cb_never) fun _ _ _ => .inl rfl
  | n + 1 => by
    have O__law_any_value := ok__law_any_value T F O__law_of O__law_take n
    exact okAt_mk (B := B__law_any_value (gr__law_any_value n)) F sc__law_any_value (fun f cdv A outer s H E hr => cb_cons (cs_set 2 sc__law_any_value.nd rfl (by first | exact Or.inl rfl | exact Or.inr rfl) (c_fn O__law_take (hr.mono (by omega)) (by rfl) (ca_cons (c_var 0) (ca_cons (c_int) (ca_nil))))) (cb_cons (cs_if ((cw_or (ct_lt (c_var 2) (c_int)) (cw_or1 (ct_eq (ru64 hr) (c_var 1) (c_int)))).ct) (cb_cons (cs_set 4 sc__law_any_value.nd rfl (by first | exact Or.inl rfl | exact Or.inr rfl) (c_lst (ca_cons (c_int) (ca_cons (c_neg (c_int)) (ca_cons (c_int) (ca_cons (c_int) (ca_cons (c_int) (ca_cons (c_int) (ca_cons (c_bl) (ca_cons (c_bl) (ca_cons (c_non) (ca_cons (c_str) (ca_cons (c_str) (ca_cons (c_str) (ca_cons (c_str) (ca_cons (c_str) (ca_cons (c_pow (c_int) (c_int)) (ca_nil)))))))))))))))))) (cb_one (cs_ret (c_fn O__law_of (hr.mono (by omega)) (by rfl) (ca_cons (c_var 0) (ca_cons (c_add (c_var 4) (c_lst (ca_cons (c_tup (ca_nil)) (ca_cons (c_lst (ca_nil)) (ca_cons (c_tup (ca_cons (c_str) (ca_nil))) (ca_cons (c_tup (ca_cons (c_str) (ca_cons (c_int) (ca_nil)))) (ca_cons (c_tup (ca_cons (c_str) (ca_cons (c_int) (ca_nil)))) (ca_cons (c_tup (ca_cons (c_tup (ca_cons (c_str) (ca_nil))) (ca_nil))) (ca_nil))))))))) (ca_nil))))))) (cb_nil)) (cb_cons (cs_setLc 3 rfl sc__law_any_value.nd rfl rfl (sw_true rfl rfl rfl (by decide +kernel)) (ci_range1 (by rfl) T.n_range (c_fn O__law_take (hr.mono (by omega)) (by rfl) (ca_cons (c_var 0) (ca_cons (c_int) (ca_nil))))) (blkOk_by (own := [("k", 5)]) (N := ["bag", "depth", "kind", "items", "some", "k"]) (sc := defScope s__law_any_value) (by decide +kernel)) (by decide) (fun _ _ _ _ _ => cg_name (i := 5) sc__law_any_value.nd rfl (by first | exact Or.inl rfl | exact Or.inr rfl)) (fun _ _ _ _ _ => cts_nil) (fun _ _ _ _ _ => c_fn O__law_any_value (hr.mono (by omega)) (by rfl) (ca_cons (c_var 0) (ca_cons (c_sub (c_var 1) (c_int)) (ca_nil))))) (cb_one (cs_ret (c_ix (c_lst (ca_cons (c_var 3) (ca_cons (c_callTy call_tuple_of ok_tuple kTuple_nx (by rfl) T.n_tuple (by decide +kernel) (ca_cons (c_var 3) (ca_nil))) (ca_cons (c_callTy call_tuple_of ok_tuple kTuple_nx (by rfl) T.n_tuple (by decide +kernel) (ca_cons (c_var 3) (ca_nil))) (ca_nil))))) (c_sub (c_var 2) (c_int)))))))) fun _ _ _ => .inr rfl
theorem ok__law_spoiled (T : Txt K w mg a_BOUNDS a_PLAIN) (F : DefAt K mg "_law_spoiled" s__law_spoiled ["bag", "value"]) (O__law_any_value : OkAt P w K mg base 6 "_law_any_value" ["bag", "depth"] 2 g__law_any_value) (O__law_of : OkAt P w K mg base 2 "_law_of" ["bag", "some"] 2 g__law_of) (O__law_take : OkAt P w K mg base 1 "_law_take" ["bag", "many"] 2 g__law_take) : ∀ n : Nat, OkAt P w K mg base (6 + n + 1) "_law_spoiled" ["bag", "value"] 2 (gr__law_spoiled n)
  | 0 => okAt_mk (B := fun _ _ => .no) F sc__law_spoiled (fun f cdv A outer s H E hr => cb_never) fun _ _ _ => .inl rfl
  | n + 1 => by
    have O__law_spoiled := ok__law_spoiled T F O__law_any_value O__law_of O__law_take n
    exact okAt_mk (B := B__law_spoiled (gr__law_spoiled n)) F sc__law_spoiled (fun f cdv A outer s H E hr => cb_cons (cs_if ((cw_or (ct_not (ct_val (c_isi (by decide +kernel) k_tuple (by rfl) T.n_isinstance (by decide +kernel) (by rfl) T.n_tuple (c_var 1)))) (cw_or (ct_eq (ru64 hr) (c_var 1) (c_tup (ca_nil))) (cw_or1 (ct_eq (ru64 hr) (c_fn O__law_take (hr.mono (by omega)) (by rfl) (ca_cons (c_var 0) (ca_cons (c_int) (ca_nil)))) (c_int))))).ct) (cb_cons (cs_set 2 sc__law_spoiled.nd rfl (by first | exact Or.inl rfl | exact Or.inr rfl) (c_lst (ca_cons (c_fn O__law_any_value (hr.mono (by omega)) (by rfl) (ca_cons (c_var 0) (ca_cons (c_int) (ca_nil)))) (ca_cons (c_lst (ca_cons (c_var 1) (ca_nil))) (ca_nil))))) (cb_cons (cs_if (ct_val (c_isi (by decide +kernel) k_str (by rfl) T.n_isinstance (by decide +kernel) (by rfl) T.n_str (c_var 1))) (cb_one (cs_set 2 sc__law_spoiled.nd rfl (by first | exact Or.inl rfl | exact Or.inr rfl) (c_add (c_var 2) (c_lst (ca_cons (c_add (c_var 1) (c_str)) (ca_cons (c_str) (ca_cons (c_str) (ca_cons (c_str) (ca_cons (c_str) (ca_cons (c_str) (ca_nil))))))))))) (cb_nil)) (cb_cons (cs_if (ct_val (c_isi (by decide +kernel) k_int (by rfl) T.n_isinstance (by decide +kernel) (by rfl) T.n_int (c_var 1))) (cb_one (cs_set 2 sc__law_spoiled.nd rfl (by first | exact Or.inl rfl | exact Or.inr rfl) (c_add (c_var 2) (c_lst (ca_cons (c_add (c_var 1) (c_int)) (ca_cons (c_mul (c_var 1) (c_int)) (ca_cons (c_int) (ca_cons (c_neg (c_int)) (ca_cons (c_int) (ca_cons (c_bl) (ca_nil))))))))))) (cb_nil)) (cb_one (cs_ret (c_fn O__law_of (hr.mono (by omega)) (by rfl) (ca_cons (c_var 0) (ca_cons (c_var 2) (ca_nil))))))))) (cb_nil)) (cb_cons (cs_par 3 4 rfl sc__law_spoiled.nd rfl rfl (by decide) rfl rfl (ca_cons (c_fn O__law_take (hr.mono (by omega)) (by rfl) (ca_cons (c_var 0) (ca_cons (c_callB call_len ok_len kLen_nx (by rfl) T.n_len (by decide +kernel) (ca_cons (c_var 1) (ca_nil))) (ca_nil)))) (ca_cons (c_fn O__law_take (hr.mono (by omega)) (by rfl) (ca_cons (c_var 0) (ca_cons (c_int) (ca_nil)))) (ca_nil)))) (cb_cons (cs_if (ct_eq (ru64 hr) (c_var 4) (c_int)) (cb_one (cs_ret (c_add (c_slice (c_var 1) (co_none) (co_some (c_var 3))) (c_slice (c_var 1) (co_some (c_add (c_var 3) (c_int))) (co_none))))) (cb_nil)) (cb_cons (cs_if (ct_eq (ru64 hr) (c_var 4) (c_int)) (cb_one (cs_ret (c_add (c_add (c_slice (c_var 1) (co_none) (co_some (c_var 3))) (c_mulT (c_slice (c_var 1) (co_some (c_var 3)) (co_some (c_add (c_var 3) (c_int)))) (c_int))) (c_slice (c_var 1) (co_some (c_add (c_var 3) (c_int))) (co_none))))) (cb_nil)) (cb_cons (cs_if (ct_eq (ru64 hr) (c_var 4) (c_int)) (cb_one (cs_ret (c_revT (c_var 1)))) (cb_nil)) (cb_cons (cs_if (ct_eq (ru64 hr) (c_var 4) (c_int)) (cb_one (cs_ret (c_callTy call_list_of ok_list kList_nx (by rfl) T.n_list (by decide +kernel) (ca_cons (c_var 1) (ca_nil))))) (cb_nil)) (cb_one (cs_ret (c_add (c_add (c_slice (c_var 1) (co_none) (co_some (c_var 3))) (c_tup (ca_cons (c_fn O__law_spoiled (hr.mono (by omega)) (by rfl) (ca_cons (c_var 0) (ca_cons (c_ix (c_var 1) (c_var 3)) (ca_nil)))) (ca_nil)))) (c_slice (c_var 1) (co_some (c_add (c_var 3) (c_int))) (co_none))))))))))) fun _ _ _ => .inr rfl
theorem ok__law_is_pedal (T : Txt K w mg a_BOUNDS a_PLAIN) (F : DefAt K mg "_law_is_pedal" s__law_is_pedal ["value"]) : OkAt P w K mg base 1 "_law_is_pedal" ["value"] 1 g__law_is_pedal :=
  okAt_mk (B := B__law_is_pedal) F sc__law_is_pedal (fun f cdv A outer s H E hr => cb_cons (cs_if ((cw_or (ct_not (ct_val (c_isi (by decide +kernel) k_tuple (by rfl) T.n_isinstance (by decide +kernel) (by rfl) T.n_tuple (c_var 0)))) (cw_or (ct_notin (ru65 hr) (c_callB call_len ok_len kLen_nx (by rfl) T.n_len (by decide +kernel) (ca_cons (c_var 0) (ca_nil))) (c_lst (ca_cons (c_int) (ca_cons (c_int) (ca_nil))))) (cw_or1 (ct_not (ct_val (c_isi (by decide +kernel) k_str (by rfl) T.n_isinstance (by decide +kernel) (by rfl) T.n_str (c_ix (c_var 0) (c_int)))))))).ct) (cb_one (cs_ret (c_bl))) (cb_nil)) (cb_cons (cs_if (ct_eq (ru64 hr) (c_callB call_len ok_len kLen_nx (by rfl) T.n_len (by decide +kernel) (ca_cons (c_var 0) (ca_nil))) (c_int)) (cb_one (cs_ret (c_in (ru65 hr) (c_ix (c_var 0) (c_int)) (c_lst (ca_cons (c_str) (ca_cons (c_str) (ca_nil))))))) (cb_nil)) (cb_cons (cs_set 1 sc__law_is_pedal.nd rfl (by first | exact Or.inl rfl | exact Or.inr rfl) (c_disp (cps_cons (c_str) (c_tup (ca_cons (c_int) (ca_cons (c_int) (ca_nil)))) (cps_cons (c_str) (c_tup (ca_cons (c_int) (ca_cons (c_int) (ca_nil)))) (cps_cons (c_str) (c_tup (ca_cons (c_int) (ca_cons (c_int) (ca_nil)))) (cps_cons (c_str) (c_tup (ca_cons (c_neg (c_int)) (ca_cons (c_int) (ca_nil)))) (cps_cons (c_str) (c_tup (ca_cons (c_int) (ca_cons (c_int) (ca_nil)))) (cps_cons (c_str) (c_tup (ca_cons (c_int) (ca_cons (c_int) (ca_nil)))) (cps_nil))))))) (by rfl) (by rfl) (fun z => by cases z) (by decide))) (cb_cons (cs_asg (c_dget2 (ru1 hr) (c_var 1) (c_ix (c_var 0) (c_int)) (c_tup (ca_cons (c_int) (ca_cons (c_int) (ca_nil)))) ⟨by rfl, by rfl, by rfl, by rfl⟩) (cg_tup rfl (cgs_cons (cg_name (i := 2) sc__law_is_pedal.nd rfl (by first | exact Or.inl rfl | exact Or.inr rfl)) (cgs_cons (cg_name (i := 3) sc__law_is_pedal.nd rfl (by first | exact Or.inl rfl | exact Or.inr rfl)) (cgs_nil))))) (cb_cons (cs_if ((cw_or (ct_not (ct_val (c_isi (by decide +kernel) k_int (by rfl) T.n_isinstance (by decide +kernel) (by rfl) T.n_int (c_ix (c_var 0) (c_int))))) (cw_or (ct_val (c_isi (by decide +kernel) k_bool (by rfl) T.n_isinstance (by decide +kernel) (by rfl) T.n_bool (c_ix (c_var 0) (c_int)))) (cw_or1 (ct_eq (ru64 hr) (c_ix (c_var 0) (c_int)) (c_int))))).ct) (cb_one (cs_ret (c_bl))) (cb_nil)) (cb_one (cs_ret (c_lele (c_var 2) (c_ix (c_var 0) (c_int)) (c_var 3))))))))) fun _ _ _ => .inr rfl
theorem ok__law_is_row (T : Txt K w mg a_BOUNDS a_PLAIN) (F : DefAt K mg "_law_is_row" s__law_is_row ["value"]) (O__law_is_pedal : OkAt P w K mg base 1 "_law_is_pedal" ["value"] 1 g__law_is_pedal) : OkAt P w K mg base 2 "_law_is_row" ["value"] 1 g__law_is_row :=
  okAt_mk (B := B__law_is_row) F sc__law_is_row (fun f cdv A outer s H E hr => cb_cons (cs_if ((cw_or (ct_not (ct_val (c_isi (by decide +kernel) k_tuple (by rfl) T.n_isinstance (by decide +kernel) (by rfl) T.n_tuple (c_var 0)))) (cw_or1 (ct_gt (c_callB call_len ok_len kLen_nx (by rfl) T.n_len (by decide +kernel) (ca_cons (c_var 0) (ca_nil))) (c_int)))).ct) (cb_one (cs_ret (c_bl))) (cb_nil)) (cb_one (cs_ret (c_eq (ru64 hr) (c_comp rfl sc__law_is_row.nd (ci_seq (c_var 0)) (blkOk_by (own := [("one", 1)]) (N := ["value", "one"]) (sc := defScope s__law_is_row) (by decide +kernel)) (by decide) (fun _ _ _ _ _ => cg_name (i := 1) sc__law_is_row.nd rfl (by first | exact Or.inl rfl | exact Or.inr rfl)) (fun _ _ _ _ _ => cts_one (ct_not (ct_val (c_fn O__law_is_pedal (hr.mono (by decide)) (by rfl) (ca_cons (c_var 1) (ca_nil)))))) (fun _ _ _ _ _ => c_var 1)) (c_lst (ca_nil)))))) fun _ _ _ => .inr rfl
theorem ok__law_is_board (T : Txt K w mg a_BOUNDS a_PLAIN) (F : DefAt K mg "_law_is_board" s__law_is_board ["value"]) (O__law_is_row : OkAt P w K mg base 2 "_law_is_row" ["value"] 1 g__law_is_row) : OkAt P w K mg base 3 "_law_is_board" ["value"] 1 g__law_is_board :=
  okAt_mk (B := B__law_is_board) F sc__law_is_board (fun f cdv A outer s H E hr => cb_cons (cs_if ((cw_or (ct_not (ct_val (c_isi (by decide +kernel) k_tuple (by rfl) T.n_isinstance (by decide +kernel) (by rfl) T.n_tuple (c_var 0)))) (cw_or1 (ct_not (ct_lele (c_int) (c_callB call_len ok_len kLen_nx (by rfl) T.n_len (by decide +kernel) (ca_cons (c_var 0) (ca_nil))) (c_int))))).ct) (cb_one (cs_ret (c_bl))) (cb_nil)) (cb_one (cs_ret (c_eq (ru64 hr) (c_comp rfl sc__law_is_board.nd (ci_seq (c_var 0)) (blkOk_by (own := [("one", 1)]) (N := ["value", "one"]) (sc := defScope s__law_is_board) (by decide +kernel)) (by decide) (fun _ _ _ _ _ => cg_name (i := 1) sc__law_is_board.nd rfl (by first | exact Or.inl rfl | exact Or.inr rfl)) (fun _ _ _ _ _ => cts_one (ct_not (ct_val (c_fn O__law_is_row (hr.mono (by decide)) (by rfl) (ca_cons (c_var 1) (ca_nil)))))) (fun _ _ _ _ _ => c_var 1)) (c_lst (ca_nil)))))) fun _ _ _ => .inr rfl
theorem ok__law_is_sound (T : Txt K w mg a_BOUNDS a_PLAIN) (F : DefAt K mg "_law_is_sound" s__law_is_sound ["value"]) : OkAt P w K mg base 1 "_law_is_sound" ["value"] 1 g__law_is_sound :=
  okAt_mk (B := B__law_is_sound) F sc__law_is_sound (fun f cdv A outer s H E hr => cb_cons (cs_if ((cw_or (ct_not (ct_val (c_isi (by decide +kernel) k_tuple (by rfl) T.n_isinstance (by decide +kernel) (by rfl) T.n_tuple (c_var 0)))) (cw_or1 (ct_gt (c_callB call_len ok_len kLen_nx (by rfl) T.n_len (by decide +kernel) (ca_cons (c_var 0) (ca_nil))) (c_int)))).ct) (cb_one (cs_ret (c_bl))) (cb_nil)) (cb_one (cs_ret (c_eq (ru64 hr) (c_comp rfl sc__law_is_sound.nd (ci_seq (c_var 0)) (blkOk_by (own := [("one", 1)]) (N := ["value", "one"]) (sc := defScope s__law_is_sound) (by decide +kernel)) (by decide) (fun _ _ _ _ _ => cg_name (i := 1) sc__law_is_sound.nd rfl (by first | exact Or.inl rfl | exact Or.inr rfl)) (fun _ _ _ _ _ => cts_one ((cw_or (ct_not (ct_val (c_isi (by decide +kernel) k_int (by rfl) T.n_isinstance (by decide +kernel) (by rfl) T.n_int (c_var 1)))) (cw_or1 (ct_val (c_isi (by decide +kernel) k_bool (by rfl) T.n_isinstance (by decide +kernel) (by rfl) T.n_bool (c_var 1))))).ct)) (fun _ _ _ _ _ => c_var 1)) (c_lst (ca_nil)))))) fun _ _ _ => .inr rfl
theorem ok__law_is_lot (T : Txt K w mg a_BOUNDS a_PLAIN) (F : DefAt K mg "_law_is_lot" s__law_is_lot ["value"]) (O__law_is_row : OkAt P w K mg base 2 "_law_is_row" ["value"] 1 g__law_is_row) : OkAt P w K mg base 3 "_law_is_lot" ["value"] 1 g__law_is_lot :=
  okAt_mk (B := B__law_is_lot) F sc__law_is_lot (fun f cdv A outer s H E hr => cb_cons (cs_if ((cw_or (ct_not (ct_val (c_fn O__law_is_row (hr.mono (by decide)) (by rfl) (ca_cons (c_var 0) (ca_nil))))) (cw_or1 (ct_not (ct_lele (c_int) (c_callB call_len ok_len kLen_nx (by rfl) T.n_len (by decide +kernel) (ca_cons (c_var 0) (ca_nil))) (c_int))))).ct) (cb_one (cs_ret (c_bl))) (cb_nil)) (cb_one (cs_ret (c_eq (ru64 hr) (c_comp rfl sc__law_is_lot.nd (ci_seq (c_var 0)) (blkOk_by (own := [("pedal", 1)]) (N := ["value", "pedal"]) (sc := defScope s__law_is_lot) (by decide +kernel)) (by decide) (fun _ _ _ _ _ => cg_name (i := 1) sc__law_is_lot.nd rfl (by first | exact Or.inl rfl | exact Or.inr rfl)) (fun _ _ _ _ _ => cts_one (ct_eq (ru64 hr) (c_ix (c_var 1) (c_int)) (c_str))) (fun _ _ _ _ _ => c_var 1)) (c_lst (ca_nil)))))) fun _ _ _ => .inr rfl
theorem ok__law_told_right (T : Txt K w mg a_BOUNDS a_PLAIN) (F : DefAt K mg "_law_told_right" s__law_told_right ["value"]) (O__law_is_board : OkAt P w K mg base 3 "_law_is_board" ["value"] 1 g__law_is_board) (O__law_is_lot : OkAt P w K mg base 3 "_law_is_lot" ["value"] 1 g__law_is_lot) (O__law_is_pedal : OkAt P w K mg base 1 "_law_is_pedal" ["value"] 1 g__law_is_pedal) (O__law_is_row : OkAt P w K mg base 2 "_law_is_row" ["value"] 1 g__law_is_row) (O__law_is_sound : OkAt P w K mg base 1 "_law_is_sound" ["value"] 1 g__law_is_sound) (O_is_board : OkAt P w K mg base 4 "is_board" ["value"] 1 g_is_board) (O_is_lot : OkAt P w K mg base 4 "is_lot" ["value"] 1 g_is_lot) (O_is_pedal : OkAt P w K mg base 2 "is_pedal" ["value"] 1 g_is_pedal) (O_is_row : OkAt P w K mg base 3 "is_row" ["value"] 1 g_is_row) (O_is_sound : OkAt P w K mg base 3 "is_sound" ["value"] 1 g_is_sound) : OkAt P w K mg base 5 "_law_told_right" ["value"] 1 g__law_told_right :=
  okAt_mk (B := B__law_told_right) F sc__law_told_right (fun f cdv A outer s H E hr => cb_cons (cs_set 1 sc__law_told_right.nd rfl (by first | exact Or.inl rfl | exact Or.inr rfl) (c_lst (ca_cons (c_fn O_is_pedal (hr.mono (by decide)) (by rfl) (ca_cons (c_var 0) (ca_nil))) (ca_cons (c_fn O_is_row (hr.mono (by decide)) (by rfl) (ca_cons (c_var 0) (ca_nil))) (ca_cons (c_fn O_is_board (hr.mono (by decide)) (by rfl) (ca_cons (c_var 0) (ca_nil))) (ca_cons (c_fn O_is_sound (hr.mono (by decide)) (by rfl) (ca_cons (c_var 0) (ca_nil))) (ca_cons (c_fn O_is_lot (hr.mono (by decide)) (by rfl) (ca_cons (c_var 0) (ca_nil))) (ca_nil)))))))) (cb_cons (cs_if (ct_ne (ru64 hr) (c_comp rfl sc__law_told_right.nd (ci_seq (c_var 1)) (blkOk_by (own := [("one", 3)]) (N := ["value", "told", "due", "one"]) (sc := defScope s__law_told_right) (by decide +kernel)) (by decide) (fun _ _ _ _ _ => cg_name (i := 3) sc__law_told_right.nd rfl (by first | exact Or.inl rfl | exact Or.inr rfl)) (fun _ _ _ _ _ => cts_one (ct_not (ct_val (c_isi (by decide +kernel) k_bool (by rfl) T.n_isinstance (by decide +kernel) (by rfl) T.n_bool (c_var 3))))) (fun _ _ _ _ _ => c_var 3)) (c_lst (ca_nil))) (cb_one (cs_ret (c_bl))) (cb_nil)) (cb_cons (cs_set 2 sc__law_told_right.nd rfl (by first | exact Or.inl rfl | exact Or.inr rfl) (c_lst (ca_cons (c_fn O__law_is_pedal (hr.mono (by decide)) (by rfl) (ca_cons (c_var 0) (ca_nil))) (ca_cons (c_fn O__law_is_row (hr.mono (by decide)) (by rfl) (ca_cons (c_var 0) (ca_nil))) (ca_cons (c_fn O__law_is_board (hr.mono (by decide)) (by rfl) (ca_cons (c_var 0) (ca_nil))) (ca_nil)))))) (cb_one (cs_ret (c_eq (ru64 hr) (c_var 1) (c_add (c_var 2) (c_lst (ca_cons (c_fn O__law_is_sound (hr.mono (by decide)) (by rfl) (ca_cons (c_var 0) (ca_nil))) (ca_cons (c_fn O__law_is_lot (hr.mono (by decide)) (by rfl) (ca_cons (c_var 0) (ca_nil))) (ca_nil))))))))))) fun _ _ _ => .inr rfl
theorem ok_law (T : Txt K w mg a_BOUNDS a_PLAIN) (O__law_any_value : OkAt P w K mg base 6 "_law_any_value" ["bag", "depth"] 2 g__law_any_value) (O__law_bag : OkAt P w K mg base 1 "_law_bag" ["script", "k"] 2 g__law_bag) (O__law_board : OkAt P w K mg base 5 "_law_board" ["bag", "most"] 2 g__law_board) (O__law_lateness : OkAt P w K mg base 1 "_law_lateness" ["row"] 1 g__law_lateness) (O__law_numbers : OkAt P w K mg base 3 "_law_numbers" ["bag", "most"] 2 g__law_numbers) (O__law_of : OkAt P w K mg base 2 "_law_of" ["bag", "some"] 2 g__law_of) (O__law_pedal : OkAt P w K mg base 3 "_law_pedal" ["bag", "lates"] 2 g__law_pedal) (O__law_pedals : OkAt P w K mg base 4 "_law_pedals" ["bag", "most", "lates"] 3 g__law_pedals) (O__law_spoiled : OkAt P w K mg base 11 "_law_spoiled" ["bag", "value"] 2 g__law_spoiled) (O__law_told_right : OkAt P w K mg base 5 "_law_told_right" ["value"] 1 g__law_told_right) (O_lateness : OkAt P w K mg base 6 "lateness" ["board"] 1 g_lateness) {f : Addr} {fd : FuncData} (F : Fun K "law" "law" s_law f fd) : FnOk P w K mg base CX0 12 f fd ["script"] (spD K 1 fun ws μ => noex (g_law ws μ)) :=
  ok_def (B := B_law) F sc_law (fun cdv A outer s H E hr => cb_cons (cs_for PassesOwn.never rfl (ci_range1 (by rfl) T.n_range (c_callB (call_max2 rfl) ok_max2 (k2I_nx _) (by rfl) T.n_max (by decide +kernel) (ca_cons (c_int) (ca_cons (c_callB (call_min2 rfl) ok_min2 (k2I_nx _) (by rfl) T.n_min (by decide +kernel) (ca_cons (c_int) (ca_cons (c_add (c_callB call_len ok_len kLen_nx (by rfl) T.n_len (by decide +kernel) (ca_cons (c_var 0) (ca_nil))) (c_int)) (ca_nil)))) (ca_nil))))) (cg_name (i := 1) sc_law.nd rfl (by first | exact Or.inl rfl | exact Or.inr rfl)) (cb_cons (cs_set 4 sc_law.nd rfl (by first | exact Or.inl rfl | exact Or.inr rfl) (c_fn O__law_bag (hr.mono (by decide)) (by rfl) (ca_cons (c_var 0) (ca_cons (c_var 1) (ca_nil))))) (cb_cons (cs_set 5 sc_law.nd rfl (by first | exact Or.inl rfl | exact Or.inr rfl) (c_fn O__law_board (hr.mono (by decide)) (by rfl) (ca_cons (c_var 4) (ca_cons (c_int) (ca_nil))))) (cb_cons (cs_set 6 sc_law.nd rfl (by first | exact Or.inl rfl | exact Or.inr rfl) (c_lst (ca_cons (c_var 5) (ca_cons (c_var 5) (ca_cons (c_ix (c_var 5) (c_int)) (ca_cons (c_fn O__law_pedal (hr.mono (by decide)) (by rfl) (ca_cons (c_var 4) (ca_cons (c_bl) (ca_nil)))) (ca_cons (c_fn O__law_numbers (hr.mono (by decide)) (by rfl) (ca_cons (c_var 4) (ca_cons (c_int) (ca_nil)))) (ca_cons (c_fn O__law_pedals (hr.mono (by decide)) (by rfl) (ca_cons (c_var 4) (ca_cons (c_int) (ca_cons (c_bl) (ca_nil))))) (ca_nil))))))))) (cb_cons (cs_for PassesOwn.never rfl (ci_range1 (by rfl) T.n_range (c_int)) (cg_name (i := 2) sc_law.nd rfl (by first | exact Or.inl rfl | exact Or.inr rfl)) (cb_cons (cs_set 7 sc_law.nd rfl (by first | exact Or.inl rfl | exact Or.inr rfl) (c_fn O__law_of (hr.mono (by decide)) (by rfl) (ca_cons (c_var 4) (ca_cons (c_var 6) (ca_nil))))) (cb_cons (cs_set 8 sc_law.nd rfl (by first | exact Or.inl rfl | exact Or.inr rfl) (c_lstN (ca_cons (c_var 7) (ca_cons (c_fn O__law_spoiled (hr.mono (by decide)) (by rfl) (ca_cons (c_var 4) (ca_cons (c_var 7) (ca_nil)))) (ca_cons (c_fn O__law_spoiled (hr.mono (by decide)) (by rfl) (ca_cons (c_var 4) (ca_cons (c_var 7) (ca_nil)))) (ca_nil)))))) (cb_cons (cs_expr (c_append (c_var 8) (c_fn O__law_any_value (hr.mono (by decide)) (by rfl) (ca_cons (c_var 4) (ca_cons (c_int) (ca_nil)))))) (cb_frz 8 (cb_one (cs_if (ct_not (ct_val (c_fn O__law_told_right (hr.mono (by decide)) (by rfl) (ca_cons (c_fn O__law_of (hr.mono (by decide)) (by rfl) (ca_cons (c_var 4) (ca_cons (c_var 8) (ca_nil)))) (ca_nil))))) (cb_one (cs_ret (c_bl))) (cb_nil)))))))) (cb_one (cs_if (ct_ne (ru64 hr) (c_fn O_lateness (hr.mono (by decide)) (by rfl) (ca_cons (c_var 5) (ca_nil))) (c_callB (cr_max rfl) ok_max (kInts_nx _) (by rfl) T.n_max (by decide +kernel) (ca_cons (c_comp rfl sc_law.nd (ci_seq (c_var 5)) (blkOk_by (own := [("row", 9)]) (N := ["script", "k", "turn", "rows", "bag", "board", "some", "value", "more", "row"]) (sc := defScope s_law) (by decide +kernel)) (by decide) (fun _ _ _ _ _ => cg_name (i := 9) sc_law.nd rfl (by first | exact Or.inl rfl | exact Or.inr rfl)) (fun _ _ _ _ _ => cts_nil) (fun _ _ _ _ _ => c_fn O__law_lateness (hr.mono (by decide)) (by rfl) (ca_cons (c_var 9) (ca_nil)))) (ca_nil)))) (cb_one (cs_ret (c_bl))) (cb_nil)))))))) (cb_cons (cs_set 2 sc_law.nd rfl (by first | exact Or.inl rfl | exact Or.inr rfl) (c_tup (ca_cons (c_str) (ca_nil)))) (cb_cons (cs_set 3 sc_law.nd rfl (by first | exact Or.inl rfl | exact Or.inr rfl) (c_lst (ca_cons (c_tup (ca_cons (c_str) (ca_cons (c_int) (ca_nil)))) (ca_cons (c_tup (ca_cons (c_str) (ca_cons (c_int) (ca_nil)))) (ca_cons (c_tup (ca_cons (c_str) (ca_cons (c_int) (ca_nil)))) (ca_cons (c_tup (ca_cons (c_str) (ca_cons (c_int) (ca_nil)))) (ca_cons (c_tup (ca_cons (c_str) (ca_cons (c_int) (ca_nil)))) (ca_cons (c_tup (ca_cons (c_str) (ca_cons (c_int) (ca_nil)))) (ca_cons (c_tup (ca_cons (c_str) (ca_cons (c_neg (c_int)) (ca_nil)))) (ca_nil)))))))))) (cb_cons (cs_set 3 sc_law.nd rfl (by first | exact Or.inl rfl | exact Or.inr rfl) (c_add (c_var 3) (c_lst (ca_cons (c_tup (ca_cons (c_str) (ca_cons (c_neg (c_int)) (ca_nil)))) (ca_cons (c_tup (ca_cons (c_str) (ca_cons (c_int) (ca_nil)))) (ca_cons (c_tup (ca_cons (c_str) (ca_cons (c_int) (ca_nil)))) (ca_cons (c_tup (ca_cons (c_str) (ca_cons (c_int) (ca_nil)))) (ca_cons (c_tup (ca_cons (c_str) (ca_cons (c_int) (ca_nil)))) (ca_cons (c_tup (ca_cons (c_str) (ca_cons (c_int) (ca_nil)))) (ca_cons (c_tup (ca_cons (c_str) (ca_nil))) (ca_nil))))))))))) (cb_cons (cs_set 3 sc_law.nd rfl (by first | exact Or.inl rfl | exact Or.inr rfl) (c_add (c_var 3) (c_lst (ca_cons (c_tup (ca_cons (c_str) (ca_cons (c_bl) (ca_nil)))) (ca_cons (c_tup (ca_cons (c_str) (ca_cons (c_int) (ca_nil)))) (ca_cons (c_mulT (c_tup (ca_cons (c_var 2) (ca_nil))) (c_int)) (ca_cons (c_mulT (c_tup (ca_cons (c_var 2) (ca_nil))) (c_int)) (ca_cons (c_mulT (c_tup (ca_cons (c_var 2) (ca_nil))) (c_int)) (ca_cons (c_mulT (c_tup (ca_cons (c_tup (ca_nil)) (ca_nil))) (c_int)) (ca_cons (c_mulT (c_tup (ca_cons (c_tup (ca_nil)) (ca_nil))) (c_int)) (ca_nil))))))))))) (cb_cons (cs_set 3 sc_law.nd rfl (by first | exact Or.inl rfl | exact Or.inr rfl) (c_add (c_var 3) (c_lst (ca_cons (c_tup (ca_nil)) (ca_cons (c_mulT (c_tup (ca_cons (c_int) (ca_nil))) (c_int)) (ca_cons (c_mulT (c_tup (ca_cons (c_int) (ca_nil))) (c_int)) (ca_cons (c_tup (ca_cons (c_tup (ca_cons (c_str) (ca_cons (c_int) (ca_nil)))) (ca_nil))) (ca_nil)))))))) (cb_one (cs_ret (c_eq (ru64 hr) (c_comp rfl sc_law.nd (ci_seq (c_var 3)) (blkOk_by (own := [("value", 7)]) (N := ["script", "k", "turn", "rows", "bag", "board", "some", "value", "more", "row"]) (sc := defScope s_law) (by decide +kernel)) (by decide) (fun _ _ _ _ _ => cg_name (i := 7) sc_law.nd rfl (by first | exact Or.inl rfl | exact Or.inr rfl)) (fun _ _ _ _ _ => cts_one (ct_not (ct_val (c_fn O__law_told_right (hr.mono (by decide)) (by rfl) (ca_cons (c_var 7) (ca_nil)))))) (fun _ _ _ _ _ => c_var 7)) (c_lst (ca_nil))))))))))) fun _ _ _ => .inr rfl
end
theorem all_mk {P : Program} {w : World} {K : PySem.W.Frag} {h : Heap} {mg : Str → Option Value} {fa f0 f1 f2 f3 f4 f5 f6 f7 f8 f9 f10 f11 f12 f13 f14 f15 f16 f17 f18 f19 f20 f21 f22 f23 f24 f25 f26 f27 a_BOUNDS a_PLAIN : Addr} (X : K.In h) (G : h.Ns mainGlobals mg) (hfa : mg "law" = some (.ref fa)) {od0 an0 od1 an1 od2 an2 od3 an3 od4 an4 od5 an5 od6 an6 od7 an7 od8 an8 od9 an9 od10 an10 od11 an11 od12 an12 od13 an13 od14 an14 od15 an15 od16 an16 od17 an17 od18 an18 od19 an19 od20 an20 od21 an21 od22 an22 od23 an23 od24 an24 od25 an25 od26 an26 od27 an27 : Option Addr} {sl0 sl1 sl2 sl3 sl4 sl5 sl6 sl7 sl8 sl9 sl10 sl11 sl12 sl13 sl14 sl15 sl16 sl17 sl18 sl19 sl20 sl21 sl22 sl23 sl24 sl25 sl26 sl27 : Array (Option Value)} {oc0 kV0 dc0 pm0 cd0 ct0 oc1 kV1 dc1 pm1 cd1 ct1 oc2 kV2 dc2 pm2 cd2 ct2 oc3 kV3 dc3 pm3 cd3 ct3 oc4 kV4 dc4 pm4 cd4 ct4 oc5 kV5 dc5 pm5 cd5 ct5 oc6 kV6 dc6 pm6 cd6 ct6 oc7 kV7 dc7 pm7 cd7 ct7 oc8 kV8 dc8 pm8 cd8 ct8 oc9 kV9 dc9 pm9 cd9 ct9 oc10 kV10 dc10 pm10 cd10 ct10 oc11 kV11 dc11 pm11 cd11 ct11 oc12 kV12 dc12 pm12 cd12 ct12 oc13 kV13 dc13 pm13 cd13 ct13 oc14 kV14 dc14 pm14 cd14 ct14 oc15 kV15 dc15 pm15 cd15 ct15 oc16 kV16 dc16 pm16 cd16 ct16 oc17 kV17 dc17 pm17 cd17 ct17 oc18 kV18 dc18 pm18 cd18 ct18 oc19 kV19 dc19 pm19 cd19 ct19 oc20 kV20 dc20 pm20 cd20 ct20 oc21 kV21 dc21 pm21 cd21 ct21 oc22 kV22 dc22 pm22 cd22 ct22 oc23 kV23 dc23 pm23 cd23 ct23 oc24 kV24 dc24 pm24 cd24 ct24 oc25 kV25 dc25 pm25 cd25 ct25 oc26 kV26 dc26 pm26 cd26 ct26 oc27 kV27 dc27 pm27 cd27 ct27 : Value} {q_LATE q_MOST_NUMBERS q_MOST_PEDALS q_MOST_ROWS : Value} {c_BOUNDS : Value} {dd_BOUNDS : Option Addr} {i_BOUNDS : Array DictEntry} {n_BOUNDS : Nat} {sl_BOUNDS : Array (Option Value)} {c_PLAIN : Value} {dd_PLAIN : Option Addr} {i_PLAIN : Array Value} {n_PLAIN : Nat} {sl_PLAIN : Array (Option Value)}
    (a0 : PySem.W.nsIn K mainGlobals "is_number" = some (some (.ref f0)))
    (l0 : K.lookup f0 = some ⟨oc0, od0, .func (PySem.W.fnOf "is_number" "is_number" (defArgs s_is_number) (defBody s_is_number) (defScope s_is_number) .none kV0 dc0 pm0 an0 cd0 ct0), sl0⟩)
    (c0 : PySem.W.codeIn K cd0 "is_number" = true)
    (k0 : PySem.W.keepIn K (.ref f0) = true)
    (a1 : PySem.W.nsIn K mainGlobals "is_pedal" = some (some (.ref f1)))
    (l1 : K.lookup f1 = some ⟨oc1, od1, .func (PySem.W.fnOf "is_pedal" "is_pedal" (defArgs s_is_pedal) (defBody s_is_pedal) (defScope s_is_pedal) .none kV1 dc1 pm1 an1 cd1 ct1), sl1⟩)
    (c1 : PySem.W.codeIn K cd1 "is_pedal" = true)
    (k1 : PySem.W.keepIn K (.ref f1) = true)
    (a2 : PySem.W.nsIn K mainGlobals "is_row" = some (some (.ref f2)))
    (l2 : K.lookup f2 = some ⟨oc2, od2, .func (PySem.W.fnOf "is_row" "is_row" (defArgs s_is_row) (defBody s_is_row) (defScope s_is_row) .none kV2 dc2 pm2 an2 cd2 ct2), sl2⟩)
    (c2 : PySem.W.codeIn K cd2 "is_row" = true)
    (k2 : PySem.W.keepIn K (.ref f2) = true)
    (a3 : PySem.W.nsIn K mainGlobals "is_board" = some (some (.ref f3)))
    (l3 : K.lookup f3 = some ⟨oc3, od3, .func (PySem.W.fnOf "is_board" "is_board" (defArgs s_is_board) (defBody s_is_board) (defScope s_is_board) .none kV3 dc3 pm3 an3 cd3 ct3), sl3⟩)
    (c3 : PySem.W.codeIn K cd3 "is_board" = true)
    (k3 : PySem.W.keepIn K (.ref f3) = true)
    (a4 : PySem.W.nsIn K mainGlobals "are_numbers" = some (some (.ref f4)))
    (l4 : K.lookup f4 = some ⟨oc4, od4, .func (PySem.W.fnOf "are_numbers" "are_numbers" (defArgs s_are_numbers) (defBody s_are_numbers) (defScope s_are_numbers) .none kV4 dc4 pm4 an4 cd4 ct4), sl4⟩)
    (c4 : PySem.W.codeIn K cd4 "are_numbers" = true)
    (k4 : PySem.W.keepIn K (.ref f4) = true)
    (a5 : PySem.W.nsIn K mainGlobals "is_sound" = some (some (.ref f5)))
    (l5 : K.lookup f5 = some ⟨oc5, od5, .func (PySem.W.fnOf "is_sound" "is_sound" (defArgs s_is_sound) (defBody s_is_sound) (defScope s_is_sound) .none kV5 dc5 pm5 an5 cd5 ct5), sl5⟩)
    (c5 : PySem.W.codeIn K cd5 "is_sound" = true)
    (k5 : PySem.W.keepIn K (.ref f5) = true)
    (a6 : PySem.W.nsIn K mainGlobals "is_lot" = some (some (.ref f6)))
    (l6 : K.lookup f6 = some ⟨oc6, od6, .func (PySem.W.fnOf "is_lot" "is_lot" (defArgs s_is_lot) (defBody s_is_lot) (defScope s_is_lot) .none kV6 dc6 pm6 an6 cd6 ct6), sl6⟩)
    (c6 : PySem.W.codeIn K cd6 "is_lot" = true)
    (k6 : PySem.W.keepIn K (.ref f6) = true)
    (a7 : PySem.W.nsIn K mainGlobals "need_board" = some (some (.ref f7)))
    (l7 : K.lookup f7 = some ⟨oc7, od7, .func (PySem.W.fnOf "need_board" "need_board" (defArgs s_need_board) (defBody s_need_board) (defScope s_need_board) .none kV7 dc7 pm7 an7 cd7 ct7), sl7⟩)
    (c7 : PySem.W.codeIn K cd7 "need_board" = true)
    (k7 : PySem.W.keepIn K (.ref f7) = true)
    (a8 : PySem.W.nsIn K mainGlobals "late_of" = some (some (.ref f8)))
    (l8 : K.lookup f8 = some ⟨oc8, od8, .func (PySem.W.fnOf "late_of" "late_of" (defArgs s_late_of) (defBody s_late_of) (defScope s_late_of) .none kV8 dc8 pm8 an8 cd8 ct8), sl8⟩)
    (c8 : PySem.W.codeIn K cd8 "late_of" = true)
    (k8 : PySem.W.keepIn K (.ref f8) = true)
    (a9 : PySem.W.nsIn K mainGlobals "board_late" = some (some (.ref f9)))
    (l9 : K.lookup f9 = some ⟨oc9, od9, .func (PySem.W.fnOf "board_late" "board_late" (defArgs s_board_late) (defBody s_board_late) (defScope s_board_late) .none kV9 dc9 pm9 an9 cd9 ct9), sl9⟩)
    (c9 : PySem.W.codeIn K cd9 "board_late" = true)
    (k9 : PySem.W.keepIn K (.ref f9) = true)
    (a10 : PySem.W.nsIn K mainGlobals "lateness" = some (some (.ref f10)))
    (l10 : K.lookup f10 = some ⟨oc10, od10, .func (PySem.W.fnOf "lateness" "lateness" (defArgs s_lateness) (defBody s_lateness) (defScope s_lateness) .none kV10 dc10 pm10 an10 cd10 ct10), sl10⟩)
    (c10 : PySem.W.codeIn K cd10 "lateness" = true)
    (k10 : PySem.W.keepIn K (.ref f10) = true)
    (a11 : PySem.W.nsIn K mainGlobals "_law_bag" = some (some (.ref f11)))
    (l11 : K.lookup f11 = some ⟨oc11, od11, .func (PySem.W.fnOf "_law_bag" "_law_bag" (defArgs s__law_bag) (defBody s__law_bag) (defScope s__law_bag) .none kV11 dc11 pm11 an11 cd11 ct11), sl11⟩)
    (c11 : PySem.W.codeIn K cd11 "_law_bag" = true)
    (k11 : PySem.W.keepIn K (.ref f11) = true)
    (a12 : PySem.W.nsIn K mainGlobals "_law_take" = some (some (.ref f12)))
    (l12 : K.lookup f12 = some ⟨oc12, od12, .func (PySem.W.fnOf "_law_take" "_law_take" (defArgs s__law_take) (defBody s__law_take) (defScope s__law_take) .none kV12 dc12 pm12 an12 cd12 ct12), sl12⟩)
    (c12 : PySem.W.codeIn K cd12 "_law_take" = true)
    (k12 : PySem.W.keepIn K (.ref f12) = true)
    (a13 : PySem.W.nsIn K mainGlobals "_law_of" = some (some (.ref f13)))
    (l13 : K.lookup f13 = some ⟨oc13, od13, .func (PySem.W.fnOf "_law_of" "_law_of" (defArgs s__law_of) (defBody s__law_of) (defScope s__law_of) .none kV13 dc13 pm13 an13 cd13 ct13), sl13⟩)
    (c13 : PySem.W.codeIn K cd13 "_law_of" = true)
    (k13 : PySem.W.keepIn K (.ref f13) = true)
    (a14 : PySem.W.nsIn K mainGlobals "_law_pedal" = some (some (.ref f14)))
    (l14 : K.lookup f14 = some ⟨oc14, od14, .func (PySem.W.fnOf "_law_pedal" "_law_pedal" (defArgs s__law_pedal) (defBody s__law_pedal) (defScope s__law_pedal) .none kV14 dc14 pm14 an14 cd14 ct14), sl14⟩)
    (c14 : PySem.W.codeIn K cd14 "_law_pedal" = true)
    (k14 : PySem.W.keepIn K (.ref f14) = true)
    (a15 : PySem.W.nsIn K mainGlobals "_law_pedals" = some (some (.ref f15)))
    (l15 : K.lookup f15 = some ⟨oc15, od15, .func (PySem.W.fnOf "_law_pedals" "_law_pedals" (defArgs s__law_pedals) (defBody s__law_pedals) (defScope s__law_pedals) .none kV15 dc15 pm15 an15 cd15 ct15), sl15⟩)
    (c15 : PySem.W.codeIn K cd15 "_law_pedals" = true)
    (k15 : PySem.W.keepIn K (.ref f15) = true)
    (a16 : PySem.W.nsIn K mainGlobals "_law_board" = some (some (.ref f16)))
    (l16 : K.lookup f16 = some ⟨oc16, od16, .func (PySem.W.fnOf "_law_board" "_law_board" (defArgs s__law_board) (defBody s__law_board) (defScope s__law_board) .none kV16 dc16 pm16 an16 cd16 ct16), sl16⟩)
    (c16 : PySem.W.codeIn K cd16 "_law_board" = true)
    (k16 : PySem.W.keepIn K (.ref f16) = true)
    (a17 : PySem.W.nsIn K mainGlobals "_law_numbers" = some (some (.ref f17)))
    (l17 : K.lookup f17 = some ⟨oc17, od17, .func (PySem.W.fnOf "_law_numbers" "_law_numbers" (defArgs s__law_numbers) (defBody s__law_numbers) (defScope s__law_numbers) .none kV17 dc17 pm17 an17 cd17 ct17), sl17⟩)
    (c17 : PySem.W.codeIn K cd17 "_law_numbers" = true)
    (k17 : PySem.W.keepIn K (.ref f17) = true)
    (a18 : PySem.W.nsIn K mainGlobals "_law_lateness" = some (some (.ref f18)))
    (l18 : K.lookup f18 = some ⟨oc18, od18, .func (PySem.W.fnOf "_law_lateness" "_law_lateness" (defArgs s__law_lateness) (defBody s__law_lateness) (defScope s__law_lateness) .none kV18 dc18 pm18 an18 cd18 ct18), sl18⟩)
    (c18 : PySem.W.codeIn K cd18 "_law_lateness" = true)
    (k18 : PySem.W.keepIn K (.ref f18) = true)
    (a19 : PySem.W.nsIn K mainGlobals "_law_any_value" = some (some (.ref f19)))
    (l19 : K.lookup f19 = some ⟨oc19, od19, .func (PySem.W.fnOf "_law_any_value" "_law_any_value" (defArgs s__law_any_value) (defBody s__law_any_value) (defScope s__law_any_value) .none kV19 dc19 pm19 an19 cd19 ct19), sl19⟩)
    (c19 : PySem.W.codeIn K cd19 "_law_any_value" = true)
    (k19 : PySem.W.keepIn K (.ref f19) = true)
    (a20 : PySem.W.nsIn K mainGlobals "_law_spoiled" = some (some (.ref f20)))
    (l20 : K.lookup f20 = some ⟨oc20, od20, .func (PySem.W.fnOf "_law_spoiled" "_law_spoiled" (defArgs s__law_spoiled) (defBody s__law_spoiled) (defScope s__law_spoiled) .none kV20 dc20 pm20 an20 cd20 ct20), sl20⟩)
    (c20 : PySem.W.codeIn K cd20 "_law_spoiled" = true)
    (k20 : PySem.W.keepIn K (.ref f20) = true)
    (a21 : PySem.W.nsIn K mainGlobals "_law_is_pedal" = some (some (.ref f21)))
    (l21 : K.lookup f21 = some ⟨oc21, od21, .func (PySem.W.fnOf "_law_is_pedal" "_law_is_pedal" (defArgs s__law_is_pedal) (defBody s__law_is_pedal) (defScope s__law_is_pedal) .none kV21 dc21 pm21 an21 cd21 ct21), sl21⟩)
    (c21 : PySem.W.codeIn K cd21 "_law_is_pedal" = true)
    (k21 : PySem.W.keepIn K (.ref f21) = true)
    (a22 : PySem.W.nsIn K mainGlobals "_law_is_row" = some (some (.ref f22)))
    (l22 : K.lookup f22 = some ⟨oc22, od22, .func (PySem.W.fnOf "_law_is_row" "_law_is_row" (defArgs s__law_is_row) (defBody s__law_is_row) (defScope s__law_is_row) .none kV22 dc22 pm22 an22 cd22 ct22), sl22⟩)
    (c22 : PySem.W.codeIn K cd22 "_law_is_row" = true)
    (k22 : PySem.W.keepIn K (.ref f22) = true)
    (a23 : PySem.W.nsIn K mainGlobals "_law_is_board" = some (some (.ref f23)))
    (l23 : K.lookup f23 = some ⟨oc23, od23, .func (PySem.W.fnOf "_law_is_board" "_law_is_board" (defArgs s__law_is_board) (defBody s__law_is_board) (defScope s__law_is_board) .none kV23 dc23 pm23 an23 cd23 ct23), sl23⟩)
    (c23 : PySem.W.codeIn K cd23 "_law_is_board" = true)
    (k23 : PySem.W.keepIn K (.ref f23) = true)
    (a24 : PySem.W.nsIn K mainGlobals "_law_is_sound" = some (some (.ref f24)))
    (l24 : K.lookup f24 = some ⟨oc24, od24, .func (PySem.W.fnOf "_law_is_sound" "_law_is_sound" (defArgs s__law_is_sound) (defBody s__law_is_sound) (defScope s__law_is_sound) .none kV24 dc24 pm24 an24 cd24 ct24), sl24⟩)
    (c24 : PySem.W.codeIn K cd24 "_law_is_sound" = true)
    (k24 : PySem.W.keepIn K (.ref f24) = true)
    (a25 : PySem.W.nsIn K mainGlobals "_law_is_lot" = some (some (.ref f25)))
    (l25 : K.lookup f25 = some ⟨oc25, od25, .func (PySem.W.fnOf "_law_is_lot" "_law_is_lot" (defArgs s__law_is_lot) (defBody s__law_is_lot) (defScope s__law_is_lot) .none kV25 dc25 pm25 an25 cd25 ct25), sl25⟩)
    (c25 : PySem.W.codeIn K cd25 "_law_is_lot" = true)
    (k25 : PySem.W.keepIn K (.ref f25) = true)
    (a26 : PySem.W.nsIn K mainGlobals "_law_told_right" = some (some (.ref f26)))
    (l26 : K.lookup f26 = some ⟨oc26, od26, .func (PySem.W.fnOf "_law_told_right" "_law_told_right" (defArgs s__law_told_right) (defBody s__law_told_right) (defScope s__law_told_right) .none kV26 dc26 pm26 an26 cd26 ct26), sl26⟩)
    (c26 : PySem.W.codeIn K cd26 "_law_told_right" = true)
    (k26 : PySem.W.keepIn K (.ref f26) = true)
    (a27 : PySem.W.nsIn K mainGlobals "law" = some (some (.ref f27)))
    (l27 : K.lookup f27 = some ⟨oc27, od27, .func (PySem.W.fnOf "law" "law" (defArgs s_law) (defBody s_law) (defScope s_law) .none kV27 dc27 pm27 an27 cd27 ct27), sl27⟩)
    (c27 : PySem.W.codeIn K cd27 "law" = true)
    (k27 : PySem.W.keepIn K (.ref f27) = true)
    (z_abs : PySem.W.nsIn K mainGlobals "abs" = some none)
    (z_all : PySem.W.nsIn K mainGlobals "all" = some none)
    (z_bool : PySem.W.nsIn K mainGlobals "bool" = some none)
    (z_int : PySem.W.nsIn K mainGlobals "int" = some none)
    (z_isinstance : PySem.W.nsIn K mainGlobals "isinstance" = some none)
    (z_len : PySem.W.nsIn K mainGlobals "len" = some none)
    (z_list : PySem.W.nsIn K mainGlobals "list" = some none)
    (z_max : PySem.W.nsIn K mainGlobals "max" = some none)
    (z_min : PySem.W.nsIn K mainGlobals "min" = some none)
    (z_range : PySem.W.nsIn K mainGlobals "range" = some none)
    (z_str : PySem.W.nsIn K mainGlobals "str" = some none)
    (z_sum : PySem.W.nsIn K mainGlobals "sum" = some none)
    (z_tuple : PySem.W.nsIn K mainGlobals "tuple" = some none)
    (y_LATE : PySem.W.nsIn K mainGlobals "LATE" = some (some q_LATE))
    (e_LATE : ∃ t, q_LATE = .str "late" t)
    (y_MOST_NUMBERS : PySem.W.nsIn K mainGlobals "MOST_NUMBERS" = some (some q_MOST_NUMBERS))
    (e_MOST_NUMBERS : ∃ t, q_MOST_NUMBERS = .int 40 t)
    (y_MOST_PEDALS : PySem.W.nsIn K mainGlobals "MOST_PEDALS" = some (some q_MOST_PEDALS))
    (e_MOST_PEDALS : ∃ t, q_MOST_PEDALS = .int 6 t)
    (y_MOST_ROWS : PySem.W.nsIn K mainGlobals "MOST_ROWS" = some (some q_MOST_ROWS))
    (e_MOST_ROWS : ∃ t, q_MOST_ROWS = .int 3 t)
    (y_BOUNDS : PySem.W.nsIn K mainGlobals "BOUNDS" = some (some (.ref a_BOUNDS)))
    (l_BOUNDS : K.lookup a_BOUNDS = some ⟨c_BOUNDS, dd_BOUNDS, .dict i_BOUNDS n_BOUNDS, sl_BOUNDS⟩)
    (cc_BOUNDS : c_BOUNDS = .type "dict")
    (cd_BOUNDS : dd_BOUNDS = none)
    (cs_BOUNDS : sl_BOUNDS = #[])
    (cy_BOUNDS : (a_BOUNDS == sysModules) = false)
    (ce_BOUNDS : TabE K w.params i_BOUNDS.toList v_BOUNDS)
    (y_PLAIN : PySem.W.nsIn K mainGlobals "PLAIN" = some (some (.ref a_PLAIN)))
    (l_PLAIN : K.lookup a_PLAIN = some ⟨c_PLAIN, dd_PLAIN, .seq i_PLAIN n_PLAIN, sl_PLAIN⟩)
    (cc_PLAIN : c_PLAIN = .type "tuple")
    (cz_PLAIN : i_PLAIN.size ≤ sizeLine)
    (cv_PLAIN : ValS i_PLAIN.toList ["turn", "fold"])
    : ∃ fd : FuncData, (∀ (s : Shared) (u : Value), BindsTo s fd ⟨[u], []⟩ [("script", u)]) ∧ ∀ base : Heap, K.In base → base.Ns mainGlobals mg → FnOk P w K mg base CX0 12 fa fd ["script"] (spD K 1 fun ws μ => noex (g_law ws μ)) := by
  have T : Txt K w mg a_BOUNDS a_PLAIN := ⟨PySem.W.mg_none_of X G z_abs, PySem.W.mg_none_of X G z_all, PySem.W.mg_none_of X G z_bool, PySem.W.mg_none_of X G z_int, PySem.W.mg_none_of X G z_isinstance, PySem.W.mg_none_of X G z_len, PySem.W.mg_none_of X G z_list, PySem.W.mg_none_of X G z_max, PySem.W.mg_none_of X G z_min, PySem.W.mg_none_of X G z_range, PySem.W.mg_none_of X G z_str, PySem.W.mg_none_of X G z_sum, PySem.W.mg_none_of X G z_tuple, globS_mk X G y_LATE e_LATE, globI_mk X G y_MOST_NUMBERS e_MOST_NUMBERS, globI_mk X G y_MOST_PEDALS e_MOST_PEDALS, globI_mk X G y_MOST_ROWS e_MOST_ROWS, ktab_mk l_BOUNDS cc_BOUNDS cd_BOUNDS cs_BOUNDS cy_BOUNDS ce_BOUNDS, PySem.W.mg_of X G y_BOUNDS, ktupS_mk l_PLAIN cc_PLAIN cz_PLAIN cv_PLAIN, PySem.W.mg_of X G y_PLAIN⟩
  have D_is_number : DefAt K mg "is_number" s_is_number ["value"] := defAt_mk X G a0 l0 c0 k0 fun _ _ _ _ _ _ us hl => match us, hl with | [_], _ => rfl
  have D_is_pedal : DefAt K mg "is_pedal" s_is_pedal ["value"] := defAt_mk X G a1 l1 c1 k1 fun _ _ _ _ _ _ us hl => match us, hl with | [_], _ => rfl
  have D_is_row : DefAt K mg "is_row" s_is_row ["value"] := defAt_mk X G a2 l2 c2 k2 fun _ _ _ _ _ _ us hl => match us, hl with | [_], _ => rfl
  have D_is_board : DefAt K mg "is_board" s_is_board ["value"] := defAt_mk X G a3 l3 c3 k3 fun _ _ _ _ _ _ us hl => match us, hl with | [_], _ => rfl
  have D_are_numbers : DefAt K mg "are_numbers" s_are_numbers ["value"] := defAt_mk X G a4 l4 c4 k4 fun _ _ _ _ _ _ us hl => match us, hl with | [_], _ => rfl
  have D_is_sound : DefAt K mg "is_sound" s_is_sound ["value"] := defAt_mk X G a5 l5 c5 k5 fun _ _ _ _ _ _ us hl => match us, hl with | [_], _ => rfl
  have D_is_lot : DefAt K mg "is_lot" s_is_lot ["value"] := defAt_mk X G a6 l6 c6 k6 fun _ _ _ _ _ _ us hl => match us, hl with | [_], _ => rfl
  have D_need_board : DefAt K mg "need_board" s_need_board ["value"] := defAt_mk X G a7 l7 c7 k7 fun _ _ _ _ _ _ us hl => match us, hl with | [_], _ => rfl
  have D_late_of : DefAt K mg "late_of" s_late_of ["row"] := defAt_mk X G a8 l8 c8 k8 fun _ _ _ _ _ _ us hl => match us, hl with | [_], _ => rfl
  have D_board_late : DefAt K mg "board_late" s_board_late ["board"] := defAt_mk X G a9 l9 c9 k9 fun _ _ _ _ _ _ us hl => match us, hl with | [_], _ => rfl
  have D_lateness : DefAt K mg "lateness" s_lateness ["board"] := defAt_mk X G a10 l10 c10 k10 fun _ _ _ _ _ _ us hl => match us, hl with | [_], _ => rfl
  have D__law_bag : DefAt K mg "_law_bag" s__law_bag ["script", "k"] := defAt_mk X G a11 l11 c11 k11 fun _ _ _ _ _ _ us hl => match us, hl with | [_, _], _ => rfl
  have D__law_take : DefAt K mg "_law_take" s__law_take ["bag", "many"] := defAt_mk X G a12 l12 c12 k12 fun _ _ _ _ _ _ us hl => match us, hl with | [_, _], _ => rfl
  have D__law_of : DefAt K mg "_law_of" s__law_of ["bag", "some"] := defAt_mk X G a13 l13 c13 k13 fun _ _ _ _ _ _ us hl => match us, hl with | [_, _], _ => rfl
  have D__law_pedal : DefAt K mg "_law_pedal" s__law_pedal ["bag", "lates"] := defAt_mk X G a14 l14 c14 k14 fun _ _ _ _ _ _ us hl => match us, hl with | [_, _], _ => rfl
  have D__law_pedals : DefAt K mg "_law_pedals" s__law_pedals ["bag", "most", "lates"] := defAt_mk X G a15 l15 c15 k15 fun _ _ _ _ _ _ us hl => match us, hl with | [_, _, _], _ => rfl
  have D__law_board : DefAt K mg "_law_board" s__law_board ["bag", "most"] := defAt_mk X G a16 l16 c16 k16 fun _ _ _ _ _ _ us hl => match us, hl with | [_, _], _ => rfl
  have D__law_numbers : DefAt K mg "_law_numbers" s__law_numbers ["bag", "most"] := defAt_mk X G a17 l17 c17 k17 fun _ _ _ _ _ _ us hl => match us, hl with | [_, _], _ => rfl
  have D__law_lateness : DefAt K mg "_law_lateness" s__law_lateness ["row"] := defAt_mk X G a18 l18 c18 k18 fun _ _ _ _ _ _ us hl => match us, hl with | [_], _ => rfl
  have D__law_any_value : DefAt K mg "_law_any_value" s__law_any_value ["bag", "depth"] := defAt_mk X G a19 l19 c19 k19 fun _ _ _ _ _ _ us hl => match us, hl with | [_, _], _ => rfl
  have D__law_spoiled : DefAt K mg "_law_spoiled" s__law_spoiled ["bag", "value"] := defAt_mk X G a20 l20 c20 k20 fun _ _ _ _ _ _ us hl => match us, hl with | [_, _], _ => rfl
  have D__law_is_pedal : DefAt K mg "_law_is_pedal" s__law_is_pedal ["value"] := defAt_mk X G a21 l21 c21 k21 fun _ _ _ _ _ _ us hl => match us, hl with | [_], _ => rfl
  have D__law_is_row : DefAt K mg "_law_is_row" s__law_is_row ["value"] := defAt_mk X G a22 l22 c22 k22 fun _ _ _ _ _ _ us hl => match us, hl with | [_], _ => rfl
  have D__law_is_board : DefAt K mg "_law_is_board" s__law_is_board ["value"] := defAt_mk X G a23 l23 c23 k23 fun _ _ _ _ _ _ us hl => match us, hl with | [_], _ => rfl
  have D__law_is_sound : DefAt K mg "_law_is_sound" s__law_is_sound ["value"] := defAt_mk X G a24 l24 c24 k24 fun _ _ _ _ _ _ us hl => match us, hl with | [_], _ => rfl
  have D__law_is_lot : DefAt K mg "_law_is_lot" s__law_is_lot ["value"] := defAt_mk X G a25 l25 c25 k25 fun _ _ _ _ _ _ us hl => match us, hl with | [_], _ => rfl
  have D__law_told_right : DefAt K mg "_law_told_right" s__law_told_right ["value"] := defAt_mk X G a26 l26 c26 k26 fun _ _ _ _ _ _ us hl => match us, hl with | [_], _ => rfl
  refine law_fd hfa X G a27 l27 c27 k27 (fun _ _ _ _ _ _ _ => rfl) fun base hX hG f fd FL => ?_
  have O_is_number : OkAt P w K mg base 1 "is_number" ["value"] 1 g_is_number := ok_is_number T D_is_number 
  have O_is_pedal : OkAt P w K mg base 2 "is_pedal" ["value"] 1 g_is_pedal := ok_is_pedal T D_is_pedal O_is_number
  have O_is_row : OkAt P w K mg base 3 "is_row" ["value"] 1 g_is_row := ok_is_row T D_is_row O_is_pedal
  have O_is_board : OkAt P w K mg base 4 "is_board" ["value"] 1 g_is_board := ok_is_board T D_is_board O_is_row
  have O_are_numbers : OkAt P w K mg base 2 "are_numbers" ["value"] 1 g_are_numbers := ok_are_numbers T D_are_numbers O_is_number
  have O_is_sound : OkAt P w K mg base 3 "is_sound" ["value"] 1 g_is_sound := ok_is_sound T D_is_sound O_are_numbers
  have O_is_lot : OkAt P w K mg base 4 "is_lot" ["value"] 1 g_is_lot := ok_is_lot T D_is_lot O_is_row
  have O_need_board : OkAt P w K mg base 5 "need_board" ["value"] 1 g_need_board := ok_need_board T D_need_board O_is_board
  have O_late_of : OkAt P w K mg base 1 "late_of" ["row"] 1 g_late_of := ok_late_of T D_late_of 
  have O_board_late : OkAt P w K mg base 2 "board_late" ["board"] 1 g_board_late := ok_board_late T D_board_late O_late_of
  have O_lateness : OkAt P w K mg base 6 "lateness" ["board"] 1 g_lateness := ok_lateness T D_lateness O_board_late O_need_board
  have O__law_bag : OkAt P w K mg base 1 "_law_bag" ["script", "k"] 2 g__law_bag := ok__law_bag T D__law_bag 
  have O__law_take : OkAt P w K mg base 1 "_law_take" ["bag", "many"] 2 g__law_take := ok__law_take T D__law_take 
  have O__law_of : OkAt P w K mg base 2 "_law_of" ["bag", "some"] 2 g__law_of := ok__law_of T D__law_of O__law_take
  have O__law_pedal : OkAt P w K mg base 3 "_law_pedal" ["bag", "lates"] 2 g__law_pedal := ok__law_pedal T D__law_pedal O__law_of O__law_take
  have O__law_pedals : OkAt P w K mg base 4 "_law_pedals" ["bag", "most", "lates"] 3 g__law_pedals := ok__law_pedals T D__law_pedals O__law_pedal O__law_take
  have O__law_board : OkAt P w K mg base 5 "_law_board" ["bag", "most"] 2 g__law_board := ok__law_board T D__law_board O__law_of O__law_pedals
  have O__law_numbers : OkAt P w K mg base 3 "_law_numbers" ["bag", "most"] 2 g__law_numbers := ok__law_numbers T D__law_numbers O__law_of O__law_take
  have O__law_lateness : OkAt P w K mg base 1 "_law_lateness" ["row"] 1 g__law_lateness := ok__law_lateness T D__law_lateness 
  have O__law_any_value : OkAt P w K mg base 6 "_law_any_value" ["bag", "depth"] 2 g__law_any_value := ok__law_any_value T D__law_any_value O__law_of O__law_take 3
  have O__law_spoiled : OkAt P w K mg base 11 "_law_spoiled" ["bag", "value"] 2 g__law_spoiled := ok__law_spoiled T D__law_spoiled O__law_any_value O__law_of O__law_take 4
  have O__law_is_pedal : OkAt P w K mg base 1 "_law_is_pedal" ["value"] 1 g__law_is_pedal := ok__law_is_pedal T D__law_is_pedal 
  have O__law_is_row : OkAt P w K mg base 2 "_law_is_row" ["value"] 1 g__law_is_row := ok__law_is_row T D__law_is_row O__law_is_pedal
  have O__law_is_board : OkAt P w K mg base 3 "_law_is_board" ["value"] 1 g__law_is_board := ok__law_is_board T D__law_is_board O__law_is_row
  have O__law_is_sound : OkAt P w K mg base 1 "_law_is_sound" ["value"] 1 g__law_is_sound := ok__law_is_sound T D__law_is_sound 
  have O__law_is_lot : OkAt P w K mg base 3 "_law_is_lot" ["value"] 1 g__law_is_lot := ok__law_is_lot T D__law_is_lot O__law_is_row
  have O__law_told_right : OkAt P w K mg base 5 "_law_told_right" ["value"] 1 g__law_told_right := ok__law_told_right T D__law_told_right O__law_is_board O__law_is_lot O__law_is_pedal O__law_is_row O__law_is_sound O_is_board O_is_lot O_is_pedal O_is_row O_is_sound
  exact ok_law T O__law_any_value O__law_bag O__law_board O__law_lateness O__law_numbers O__law_of O__law_pedal O__law_pedals O__law_spoiled O__law_told_right O_lateness FL
end W01


open PySem PySem.W PyProof.Rows
set_option maxRecDepth 100000 in
set_option maxHeartbeats 0 in
theorem PySem.Challenge.cw_pedalrows_k01_pedals_boards_and_sounds_r_holds : PySem.Challenge.rw_pedalrows_k01_pedals_boards_and_sounds_r.Holds := by
  w_on; o_law; k_head; (case hw => w_witness2)
  k_fill
  refine Ped.walk (l := PySem.Challenge.rw_pedalrows_k01_pedals_boards_and_sounds_r) (k := 12) (g := Ped.g_law) rfl rfl ⟨rfl, by decide, by decide⟩ (fun w h Y => PySem.W.kIn_of Y) (fun ns _ _ => Ped.law01 ns) ?F
  case F =>
    intro w mg fa h KX G hmg
    refine' W01.all_mk KX G hmg ?a0 ?l0 ?c0 ?k0 ?a1 ?l1 ?c1 ?k1 ?a2 ?l2 ?c2 ?k2 ?a3 ?l3 ?c3 ?k3 ?a4 ?l4 ?c4 ?k4 ?a5 ?l5 ?c5 ?k5 ?a6 ?l6 ?c6 ?k6 ?a7 ?l7 ?c7 ?k7 ?a8 ?l8 ?c8 ?k8 ?a9 ?l9 ?c9 ?k9 ?a10 ?l10 ?c10 ?k10 ?a11 ?l11 ?c11 ?k11 ?a12 ?l12 ?c12 ?k12 ?a13 ?l13 ?c13 ?k13 ?a14 ?l14 ?c14 ?k14 ?a15 ?l15 ?c15 ?k15 ?a16 ?l16 ?c16 ?k16 ?a17 ?l17 ?c17 ?k17 ?a18 ?l18 ?c18 ?k18 ?a19 ?l19 ?c19 ?k19 ?a20 ?l20 ?c20 ?k20 ?a21 ?l21 ?c21 ?k21 ?a22 ?l22 ?c22 ?k22 ?a23 ?l23 ?c23 ?k23 ?a24 ?l24 ?c24 ?k24 ?a25 ?l25 ?c25 ?k25 ?a26 ?l26 ?c26 ?k26 ?a27 ?l27 ?c27 ?k27 ?z_abs ?z_all ?z_bool ?z_int ?z_isinstance ?z_len ?z_list ?z_max ?z_min ?z_range ?z_str ?z_sum ?z_tuple ?y_LATE ?e_LATE ?y_MOST_NUMBERS ?e_MOST_NUMBERS ?y_MOST_PEDALS ?e_MOST_PEDALS ?y_MOST_ROWS ?e_MOST_ROWS ?y_BOUNDS ?l_BOUNDS ?cc_BOUNDS ?cd_BOUNDS ?cs_BOUNDS ?cy_BOUNDS ?ce_BOUNDS ?y_PLAIN ?l_PLAIN ?cc_PLAIN ?cz_PLAIN ?cv_PLAIN
    (case a0 => k_is)
    (case l0 => k_is)
    (case c0 => k_is)
    (case k0 => k_is)
    (case a1 => k_is)
    (case l1 => k_is)
    (case c1 => k_is)
    (case k1 => k_is)
    (case a2 => k_is)
    (case l2 => k_is)
    (case c2 => k_is)
    (case k2 => k_is)
    (case a3 => k_is)
    (case l3 => k_is)
    (case c3 => k_is)
    (case k3 => k_is)
    (case a4 => k_is)
    (case l4 => k_is)
    (case c4 => k_is)
    (case k4 => k_is)
    (case a5 => k_is)
    (case l5 => k_is)
    (case c5 => k_is)
    (case k5 => k_is)
    (case a6 => k_is)
    (case l6 => k_is)
    (case c6 => k_is)
    (case k6 => k_is)
    (case a7 => k_is)
    (case l7 => k_is)
    (case c7 => k_is)
    (case k7 => k_is)
    (case a8 => k_is)
    (case l8 => k_is)
    (case c8 => k_is)
    (case k8 => k_is)
    (case a9 => k_is)
    (case l9 => k_is)
    (case c9 => k_is)
    (case k9 => k_is)
    (case a10 => k_is)
    (case l10 => k_is)
    (case c10 => k_is)
    (case k10 => k_is)
    (case a11 => k_is)
    (case l11 => k_is)
    (case c11 => k_is)
    (case k11 => k_is)
    (case a12 => k_is)
    (case l12 => k_is)
    (case c12 => k_is)
    (case k12 => k_is)
    (case a13 => k_is)
    (case l13 => k_is)
    (case c13 => k_is)
    (case k13 => k_is)
    (case a14 => k_is)
    (case l14 => k_is)
    (case c14 => k_is)
    (case k14 => k_is)
    (case a15 => k_is)
    (case l15 => k_is)
    (case c15 => k_is)
    (case k15 => k_is)
    (case a16 => k_is)
    (case l16 => k_is)
    (case c16 => k_is)
    (case k16 => k_is)
    (case a17 => k_is)
    (case l17 => k_is)
    (case c17 => k_is)
    (case k17 => k_is)
    (case a18 => k_is)
    (case l18 => k_is)
    (case c18 => k_is)
    (case k18 => k_is)
    (case a19 => k_is)
    (case l19 => k_is)
    (case c19 => k_is)
    (case k19 => k_is)
    (case a20 => k_is)
    (case l20 => k_is)
    (case c20 => k_is)
    (case k20 => k_is)
    (case a21 => k_is)
    (case l21 => k_is)
    (case c21 => k_is)
    (case k21 => k_is)
    (case a22 => k_is)
    (case l22 => k_is)
    (case c22 => k_is)
    (case k22 => k_is)
    (case a23 => k_is)
    (case l23 => k_is)
    (case c23 => k_is)
    (case k23 => k_is)
    (case a24 => k_is)
    (case l24 => k_is)
    (case c24 => k_is)
    (case k24 => k_is)
    (case a25 => k_is)
    (case l25 => k_is)
    (case c25 => k_is)
    (case k25 => k_is)
    (case a26 => k_is)
    (case l26 => k_is)
    (case c26 => k_is)
    (case k26 => k_is)
    (case a27 => k_is)
    (case l27 => k_is)
    (case c27 => k_is)
    (case k27 => k_is)
    (case z_abs => k_is)
    (case z_all => k_is)
    (case z_bool => k_is)
    (case z_int => k_is)
    (case z_isinstance => k_is)
    (case z_len => k_is)
    (case z_list => k_is)
    (case z_max => k_is)
    (case z_min => k_is)
    (case z_range => k_is)
    (case z_str => k_is)
    (case z_sum => k_is)
    (case z_tuple => k_is)
    (case y_LATE => k_is)
    (case e_LATE => exact ⟨_, rfl⟩)
    (case y_MOST_NUMBERS => k_is)
    (case e_MOST_NUMBERS => exact ⟨_, rfl⟩)
    (case y_MOST_PEDALS => k_is)
    (case e_MOST_PEDALS => exact ⟨_, rfl⟩)
    (case y_MOST_ROWS => k_is)
    (case e_MOST_ROWS => exact ⟨_, rfl⟩)
    (case y_BOUNDS => k_is)
    (case l_BOUNDS => k_is)
    (case cc_BOUNDS => exact rfl)
    (case cd_BOUNDS => exact rfl)
    (case cs_BOUNDS => exact rfl)
    (case cy_BOUNDS => decide)
    (case ce_BOUNDS => repeat (first | exact .nil | refine .cons rfl (by k_is) rfl (by show _ ≤ _; rw [sizeLine_eq]; decide) (.cons ⟨_, rfl⟩ (.cons ⟨_, rfl⟩ .nil)) ?_))
    (case y_PLAIN => k_is)
    (case l_PLAIN => k_is)
    (case cc_PLAIN => exact rfl)
    (case cz_PLAIN => show _ ≤ _; rw [sizeLine_eq]; decide)
    (case cv_PLAIN => exact .cons (.cons (.nil)))
