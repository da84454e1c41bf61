import PyProof.Rows.All
import Wide.All
import OpenK.AllK
import Wide.FinOn
import HandS.ForMost
import HandS.Wide
import HandS.TupAny
import HandS.Conv
import HandS.Deep
import HandS.Exc
import HandS.TryOnly
import HandS.ExcOwn
import HandS.WordsExc
import HandS.Style
import HandS.Flow
import HandS.IsInst
import HandS.More
import HandS.EndBits
import PySem.Challenge.RW_pedalrows_k02_whole_what_is_shaped_and_h
set_option Elab.async false
set_option linter.all false
set_option maxRecDepth 100000
set_option maxHeartbeats 2000000
set_option autoImplicit false
/-! Ped1: data over the abstract heap; the results; the judgements of denotational combinators -/
namespace Ped
open PySem L2

abbrev D := PyData

mutual
/-- v is the data d, of things that nobody changes any more (F: the frozen part of the heap) -/
inductive Rp (K : PySem.W.Frag) (F : Hp) : V → D → Prop
  | non : Rp K F .non .none
  | bl (b : Bool) : Rp K F (.bl b) (.bool b)
  | int (i : Int) : Rp K F (.int i) (.int i)
  | str (x : Str) : Rp K F (.str x) (.str x)
  | lst {a : Addr} {xs : List V} {ds : List D} : F a = some (.lst xs) → RpA K F xs ds → Rp K F (.ref a) (.list ds)
  | tup {a : Addr} {xs : List V} {ds : List D} : F a = some (.tup xs) → RpA K F xs ds → Rp K F (.ref a) (.tuple ds)
inductive RpA (K : PySem.W.Frag) (F : Hp) : List V → List D → Prop
  | nil : RpA K F [] []
  | cons {v : V} {vs : List V} {d : D} {ds : List D} : Rp K F v d → RpA K F vs ds → RpA K F (v :: vs) (d :: ds)
end

def Sb (F F' : Hp) : Prop := ∀ a o, F a = some o → F' a = some o
theorem Sb.refl (F : Hp) : Sb F F := fun _ _ h => h
theorem Sb.trans {F G H : Hp} (a : Sb F G) (b : Sb G H) : Sb F H := fun x o h => b x o (a x o h)
theorem sb_rd {F F' : Hp} (e : Sb F F') {a : Addr} {u : HO} (h : Rd F a u) : Rd F' a u := by
  rcases h with h | ⟨o, h⟩
  · exact .inl (e a _ h)
  · exact .inr ⟨o, e a _ h⟩
theorem sb_t {K : PySem.W.Frag} {F F' : Hp} (e : Sb F F') {a : Addr} {xs : List V} (h : SqT K F a xs) : SqT K F' a xs := by
  rcases h with h | h
  · exact .inl (sb_rd e h)
  · exact .inr h
theorem sb_l {K : PySem.W.Frag} {F F' : Hp} (e : Sb F F') {a : Addr} {xs : List V} (h : SqL K F a xs) : SqL K F' a xs := by
  rcases h with h | h
  · exact .inl (sb_rd e h)
  · exact .inr h
section
variable {K : PySem.W.Frag} {F F' : Hp}
mutual
theorem Rp.mono (e : Sb F F') : ∀ (d : D) (v : V), Rp K F v d → Rp K F' v d
  | .none, _, h => by cases h; exact .non
  | .bool b, _, h => by cases h; exact .bl b
  | .int i, _, h => by cases h; exact .int i
  | .str x, _, h => by cases h; exact .str x
  | .list ds, _, h => by
    cases h with
    | lst hs ha => exact .lst (e _ _ hs) (RpA.mono e ds _ ha)
  | .tuple ds, _, h => by
    cases h with
    | tup hs ha => exact .tup (e _ _ hs) (RpA.mono e ds _ ha)
  | .dict _, _, h => by cases h
theorem RpA.mono (e : Sb F F') : ∀ (ds : List D) (vs : List V), RpA K F vs ds → RpA K F' vs ds
  | [], _, h => by cases h; exact .nil
  | d :: ds, _, h => by
    cases h with
    | cons h1 h2 => exact .cons (Rp.mono e d _ h1) (RpA.mono e ds _ h2)
end
mutual
theorem Rp.dp (e : Sb F F') : ∀ (d : D) (v : V), Rp K F v d → Dp K F' v d
  | .none, _, h => by cases h; exact .non
  | .bool b, _, h => by cases h; exact .bl b
  | .int i, _, h => by cases h; exact .int i
  | .str x, _, h => by cases h; exact .str x
  | .list ds, _, h => by
    cases h with
    | lst hs ha => exact .lst (.inl (.inl (e _ _ hs))) (RpA.dp e ds _ ha)
  | .tuple ds, _, h => by
    cases h with
    | tup hs ha => exact .tup (.inl (.inl (e _ _ hs))) (RpA.dp e ds _ ha)
  | .dict _, _, h => by cases h
theorem RpA.dp (e : Sb F F') : ∀ (ds : List D) (vs : List V), RpA K F vs ds → DpAll K F' vs ds
  | [], _, h => by cases h; exact .nil
  | d :: ds, _, h => by
    cases h with
    | cons h1 h2 => exact .cons (Rp.dp e d _ h1) (RpA.dp e ds _ h2)
end
theorem RpA.len : ∀ {vs : List V} {ds : List D}, RpA K F vs ds → vs.length = ds.length
  | _, _, .nil => rfl
  | _, _, .cons _ t => by simp [RpA.len t]
theorem RpA.get : ∀ {vs : List V} {ds : List D} {i : Nat} {d : D}, RpA K F vs ds → ds[i]? = some d → ∃ v, vs[i]? = some v ∧ Rp K F v d
  | _, _, _, _, .nil, e => by simp at e
  | _, _, 0, _, .cons r _, e => by simp at e; subst e; exact ⟨_, rfl, r⟩
  | _, _, i + 1, d, .cons _ t, e => by
    obtain ⟨v, h1, h2⟩ := RpA.get (i := i) (d := d) t (by simpa using e)
    exact ⟨v, by simpa using h1, h2⟩
theorem RpA.append : ∀ {xs ys : List V} {us ws : List D}, RpA K F xs us → RpA K F ys ws → RpA K F (xs ++ ys) (us ++ ws)
  | _, _, _, _, .nil, s => s
  | _, _, _, _, .cons r t, s => .cons r (RpA.append t s)
theorem RpA.take : ∀ {xs : List V} {us : List D} (n : Nat), RpA K F xs us → RpA K F (xs.take n) (us.take n)
  | _, _, 0, _ => by simpa using RpA.nil
  | _, _, n + 1, .nil => .nil
  | _, _, n + 1, .cons r t => .cons r (RpA.take n t)
theorem RpA.drop : ∀ {xs : List V} {us : List D} (n : Nat), RpA K F xs us → RpA K F (xs.drop n) (us.drop n)
  | _, _, 0, r => r
  | _, _, n + 1, .nil => .nil
  | _, _, n + 1, .cons _ t => RpA.drop n t
theorem RpA.reverse {xs : List V} {us : List D} (h : RpA K F xs us) : RpA K F xs.reverse us.reverse := by
  induction us generalizing xs with
  | nil => cases h; exact .nil
  | cons d ds ih =>
    cases h with
    | cons r t =>
      rw [List.reverse_cons, List.reverse_cons]
      exact (ih t).append (.cons r .nil)
theorem RpA.rep {xs : List V} {us : List D} (h : RpA K F xs us) : ∀ k : Nat, RpA K F (List.replicate k xs).flatten (List.replicate k us).flatten
  | 0 => .nil
  | k + 1 => by
    rw [List.replicate_succ, List.replicate_succ, List.flatten_cons, List.flatten_cons]
    exact h.append (RpA.rep h k)
theorem RpA.ints : ∀ (ns : List Int), RpA K F (ns.map V.int) (ns.map PyData.int)
  | [] => .nil
  | n :: r => .cons (.int n) (RpA.ints r)
theorem RpA.strs : ∀ (ns : List Str), RpA K F (ns.map V.str) (ns.map PyData.str)
  | [] => .nil
  | n :: r => .cons (.str n) (RpA.strs r)
theorem RpA.nil_iff {xs : List V} {ds : List D} (r : RpA K F xs ds) : ds = [] ↔ xs = [] := by
  cases r <;> simp
end

/-- the ints that a list of data is -/
def toInts : List D → Option (List Int)
  | [] => some []
  | .int i :: r => (toInts r).map (i :: ·)
  | _ => none
theorem toInts_map : ∀ (ns : List Int), toInts (ns.map PyData.int) = some ns
  | [] => rfl
  | n :: r => by simp [toInts, toInts_map r]
theorem toInts_eq : ∀ {ds : List D} {ns : List Int}, toInts ds = some ns → ds = ns.map PyData.int
  | [], ns, h => by simp [toInts] at h; subst h; rfl
  | d :: r, ns, h => by
    cases d <;> simp [toInts] at h
    case int i =>
      obtain ⟨ms, h1, h2⟩ := h
      subst h2
      rw [toInts_eq h1]
      rfl
def toBools : List D → Option (List Bool)
  | [] => some []
  | .bool i :: r => (toBools r).map (i :: ·)
  | _ => none
theorem toBools_map : ∀ (ns : List Bool), toBools (ns.map PyData.bool) = some ns
  | [] => rfl
  | n :: r => by simp [toBools, toBools_map r]
theorem toBools_eq : ∀ {ds : List D} {ns : List Bool}, toBools ds = some ns → ds = ns.map PyData.bool
  | [], ns, h => by simp [toBools] at h; subst h; rfl
  | d :: r, ns, h => by
    cases d <;> simp [toBools] at h
    case bool i =>
      obtain ⟨ms, h1, h2⟩ := h
      subst h2
      rw [toBools_eq h1]
      rfl
theorem rpA_ints {K : PySem.W.Frag} {F : Hp} : ∀ {ns : List Int} {vs : List V}, RpA K F vs (ns.map PyData.int) → vs = ns.map V.int
  | [], _, h => by cases h; rfl
  | n :: r, _, h => by
    cases h with
    | cons h1 h2 =>
      cases h1
      rw [rpA_ints h2]
      rfl
theorem rpA_bools {K : PySem.W.Frag} {F : Hp} : ∀ {ns : List Bool} {vs : List V}, RpA K F vs (ns.map PyData.bool) → vs = ns.map V.bl
  | [], _, h => by cases h; rfl
  | n :: r, _, h => by
    cases h with
    | cons h1 h2 =>
      cases h1
      rw [rpA_bools h2]
      rfl

/-- what a name or an argument holds: data, or a thing of the store (by number) -/
inductive Wv where
  | d (x : D)
  | l (n : Nat)
  /-- the script: a list of ints that is only read -/
  | s (ns : List Int)
/-- a thing of the store -/
inductive Ob where
  | dead
  | lst (ws : List Wv)
  | dk (kvs : List (Key × Wv))
  | dt (kvs : List (List Key × Wv))
  | ins (C : Addr) (fs : List (Str × Wv))

abbrev Sto := List Ob
structure Exn where
  cls : Value
  fs : List (Str × Wv) := []

/-- a result: a value and the store behind it; an exception; stuck -/
inductive Rs (α : Type) where
  | ok (a : α) (μ : Sto)
  | ex (x : Exn) (μ : Sto)
  | no
def Rs.bind {α β : Type} (r : Rs α) (k : α → Sto → Rs β) : Rs β := match r with
  | .ok a μ => k a μ
  | .ex x μ => .ex x μ
  | .no => .no
def Rs.Post {α : Type} (r : Rs α) (P : α → Sto → Prop) (E : Exn → Sto → Prop) : Prop := match r with
  | .ok a μ => P a μ
  | .ex x μ => E x μ
  | .no => False
@[simp] theorem Rs.bind_ok {α β : Type} (a : α) (μ : Sto) (k : α → Sto → Rs β) : (Rs.ok a μ).bind k = k a μ := rfl
@[simp] theorem Rs.bind_ex {α β : Type} (x : Exn) (μ : Sto) (k : α → Sto → Rs β) : (Rs.ex x μ : Rs α).bind k = .ex x μ := rfl
@[simp] theorem Rs.bind_no {α β : Type} (k : α → Sto → Rs β) : (Rs.no : Rs α).bind k = .no := rfl
theorem Rs.post_bind {α β : Type} {r : Rs α} {k : α → Sto → Rs β} {P : β → Sto → Prop} {E : Exn → Sto → Prop} : (r.bind k).Post P E ↔ r.Post (fun a μ => (k a μ).Post P E) E := by
  cases r <;> exact Iff.rfl
theorem Rs.Post.mono {α : Type} {r : Rs α} {P P' : α → Sto → Prop} {E E' : Exn → Sto → Prop} (h : r.Post P E) (hp : ∀ a μ, P a μ → P' a μ) (he : ∀ x μ, E x μ → E' x μ) : r.Post P' E' := by
  cases r with
  | ok a μ => exact hp a μ h
  | ex x μ => exact he x μ h
  | no => exact h.elim
def Rs.ofOpt {α : Type} (o : Option α) (μ : Sto) : Rs α := match o with
  | some a => .ok a μ
  | none => .no
@[simp] theorem Rs.ofOpt_some {α : Type} (a : α) (μ : Sto) : Rs.ofOpt (some a) μ = .ok a μ := rfl
@[simp] theorem Rs.ofOpt_none {α : Type} (μ : Sto) : Rs.ofOpt (none : Option α) μ = .no := rfl

/-- an exception is not wanted here -/
def noex {α : Type} (r : Rs α) : Rs α := match r with
  | .ex _ _ => .no
  | r => r
@[simp] theorem noex_ok {α : Type} (a : α) (μ : Sto) : noex (.ok a μ) = .ok a μ := rfl
@[simp] theorem noex_no {α : Type} : noex (.no : Rs α) = .no := rfl
theorem noex_post {α : Type} {r : Rs α} {P : α → Sto → Prop} {E E' : Exn → Sto → Prop} (h : (noex r).Post P E) : r.Post P E' := by
  cases r with
  | ok a μ => exact h
  | ex x μ => exact h.elim
  | no => exact h

/-- the state of a proof: the heap, its frozen part, where the things of the store lie -/
structure Sta where
  H : Hp
  F : Hp
  L : List Addr
structure Ext (S S' : Sta) : Prop where
  sb : Sb S.F S'.F
  pf : ∀ (n : Nat) (a : Addr), S.L[n]? = some a → S'.L[n]? = some a
  /-- what is tracked and no thing of the store stays as it is -/
  fr : ∀ a o, S.H a = some o → a ∉ S.L → S'.H a = some o
  th : ∀ a o, S.H a = some o → ∃ o', S'.H a = some o'
  nl : ∀ a, a ∈ S'.L → a ∈ S.L ∨ S.H a = none
  nf : ∀ a, S'.F a ≠ none → S.F a ≠ none ∨ S.H a = none ∨ a ∈ S.L
theorem Ext.refl (S : Sta) : Ext S S := ⟨Sb.refl _, fun _ _ h => h, fun _ _ h _ => h, fun _ o h => ⟨o, h⟩, fun _ h => .inl h, fun _ h => .inl h⟩
theorem Ext.out {S S' : Sta} (e : Ext S S') {a : Addr} {o : HO} (h : S.H a = some o) (hn : a ∉ S.L) : a ∉ S'.L := fun z => by
  rcases e.nl a z with q | q
  · exact hn q
  · rw [h] at q; cases q
theorem Ext.un {S S' : Sta} (e : Ext S S') {a : Addr} (h : S'.H a = none) : S.H a = none := by
  cases q : S.H a with
  | none => rfl
  | some o =>
    obtain ⟨o', z⟩ := e.th a o q
    rw [h] at z; cases z
theorem Ext.trans {S T U : Sta} (a : Ext S T) (b : Ext T U) : Ext S U := by
  refine ⟨a.sb.trans b.sb, fun n x h => b.pf n x (a.pf n x h), fun x o h hn => b.fr x o (a.fr x o h hn) (a.out h hn), fun x o h => ?_, fun x h => ?_, fun x h => ?_⟩
  · obtain ⟨o', z⟩ := a.th x o h
    exact b.th x o' z
  · rcases b.nl x h with q | q
    · exact a.nl x q
    · exact .inr (a.un q)
  · rcases b.nf x h with q | q | q
    · exact a.nf x q
    · exact .inr (.inl (a.un q))
    · rcases a.nl x q with q | q
      · exact .inr (.inr q)
      · exact .inr (.inl q)

def RW (K : PySem.W.Frag) (S : Sta) (v : V) : Wv → Prop
  | .d x => Rp K S.F v x
  | .l n => ∃ a, S.L[n]? = some a ∧ v = .ref a
  | .s ns => ∃ a, SqL K S.F a (ns.map V.int) ∧ v = .ref a
structure Grow (S S' : Sta) : Prop where
  sb : Sb S.F S'.F
  pf : ∀ (n : Nat) (a : Addr), S.L[n]? = some a → S'.L[n]? = some a
theorem Ext.gr {S S' : Sta} (e : Ext S S') : Grow S S' := ⟨e.sb, e.pf⟩
theorem RW.gr {K : PySem.W.Frag} {S S' : Sta} (e : Grow S S') {v : V} : ∀ {w : Wv}, RW K S v w → RW K S' v w
  | .d x, h => Rp.mono e.sb x v h
  | .l n, ⟨a, h, hv⟩ => ⟨a, e.pf n a h, hv⟩
  | .s n, ⟨a, h, hv⟩ => ⟨a, sb_l e.sb h, hv⟩
theorem RW.mono {K : PySem.W.Frag} {S S' : Sta} (e : Ext S S') {v : V} {w : Wv} (h : RW K S v w) : RW K S' v w := h.gr e.gr
abbrev RWs (K : PySem.W.Frag) (S : Sta) : List V → List Wv → Prop := Paired (RW K S)
theorem RWs.gr {K : PySem.W.Frag} {S S' : Sta} (e : Grow S S') : ∀ {vs : List V} {ws : List Wv}, RWs K S vs ws → RWs K S' vs ws
  | _, _, .nil => .nil
  | _, _, .cons r t => .cons (r.gr e) (RWs.gr e t)
theorem RWs.mono {K : PySem.W.Frag} {S S' : Sta} (e : Ext S S') {vs : List V} {ws : List Wv} (h : RWs K S vs ws) : RWs K S' vs ws := h.gr e.gr
def RKv {κ : Type} (K : PySem.W.Frag) (S : Sta) : List (κ × V) → List (κ × Wv) → Prop := Paired fun p q => p.1 = q.1 ∧ RW K S p.2 q.2
theorem RKv.gr {κ : Type} {K : PySem.W.Frag} {S S' : Sta} (e : Grow S S') : ∀ {vs : List (κ × V)} {ws : List (κ × Wv)}, RKv K S vs ws → RKv K S' vs ws
  | _, _, .nil => .nil
  | _, _, .cons r t => .cons ⟨r.1, r.2.gr e⟩ (RKv.gr e t)
theorem RKv.mono {κ : Type} {K : PySem.W.Frag} {S S' : Sta} (e : Ext S S') {vs : List (κ × V)} {ws : List (κ × Wv)} (h : RKv K S vs ws) : RKv K S' vs ws := h.gr e.gr

/-- the thing at a is what the store says -/
def ObR (K : PySem.W.Frag) (S : Sta) (a : Addr) : Ob → Prop
  | .dead => True
  | .lst ws => ∃ vs, S.H a = some (.lst vs) ∧ RWs K S vs ws
  | .dk kvs => ∃ vs, S.H a = some (.dK vs) ∧ RKv K S vs kvs
  | .dt kvs => ∃ vs, S.H a = some (.dT vs) ∧ RKv K S vs kvs
  | .ins C fs => ∃ dx vs, S.H a = some (.ins C dx vs) ∧ RKv K S vs fs
structure HS (K : PySem.W.Frag) (S : Sta) (μ : Sto) : Prop where
  sub : Sb S.F S.H
  len : S.L.length = μ.length
  nd : S.L.Nodup
  tr : ∀ (n : Nat) (a : Addr), S.L[n]? = some a → ∃ o, S.H a = some o
  lv : ∀ (n : Nat) (a : Addr) (ob : Ob), S.L[n]? = some a → μ[n]? = some ob → ob ≠ .dead → S.F a = none
  ob : ∀ (n : Nat) (a : Addr) (ob : Ob), S.L[n]? = some a → μ[n]? = some ob → ObR K S a ob

/-- the names' values (none: not told) -/
abbrev Env := List (Option Wv)
structure EnvR (K : PySem.W.Frag) (n : Nat) (S : Sta) (env : Env) (σ : L2.St) : Prop where
  len : env.length = n
  lenS : σ.length = n
  val : ∀ (i : Nat) (w : Wv), env[i]? = some (some w) → ∃ v, σ[i]? = some (some v) ∧ RW K S v w
theorem EnvR.mono {K : PySem.W.Frag} {n : Nat} {S S' : Sta} (e : Ext S S') {env : Env} {σ : L2.St} (h : EnvR K n S env σ) : EnvR K n S' env σ := ⟨h.len, h.lenS, fun i w hw => by
  obtain ⟨v, h1, h2⟩ := h.val i w hw
  exact ⟨v, h1, h2.mono e⟩⟩

/-- an exception's own dict -/
def ExR (K : PySem.W.Frag) (S : Sta) (x : Exn) (d : Option Addr) : Prop := match d with
  | none => x.fs = []
  | some a => ∃ vs, S.H a = some (.xd vs) ∧ RKv K S vs x.fs

/-- what is wished of a value, of an exception -/
abbrev POk (K : PySem.W.Frag) (S : Sta) (Q : VK) : Wv → Sto → Prop := fun w μ => ∀ v S', Ext S S' → HS K S' μ → RW K S' v w → Q v S'.H
abbrev PEx (K : PySem.W.Frag) (W : WX) (σ : L2.St) (S : Sta) : Exn → Sto → Prop := fun x μ => ∀ d S', Ext S S' → HS K S' μ → ExR K S' x d → W x.cls d σ S'.H
theorem PEx.mono {K : PySem.W.Frag} {W : WX} {σ : L2.St} {S S' : Sta} (e : Ext S S') {x : Exn} {μ : Sto} (h : PEx K W σ S x μ) : PEx K W σ S' x μ := fun d T e' hs r => h d T (e.trans e') hs r

abbrev FE := Env → Sto → Rs Wv
abbrev FB := Env → Sto → Rs Bool
abbrev FA := Env → Sto → Rs (List Wv)

/-- e evaluates as f says -/
def CEx (X : Cx) (W : WX) (e : Expr) (f : FE) : Prop := ∃ t : TE, PE X e t ∧ ∀ env σ S μ, EnvR X.K X.N.length S env σ → HS X.K S μ → ∀ Q : VK, (f env μ).Post (POk X.K S Q) (PEx X.K W σ S) → t σ S.H Q
def CT (X : Cx) (W : WX) (e : Expr) (f : FB) : Prop := ∃ t : TT, PT X e t ∧ ∀ env σ S μ, EnvR X.K X.N.length S env σ → HS X.K S μ → ∀ Q : Bool → Hp → Prop, (f env μ).Post (fun b μ' => ∀ S', Ext S S' → HS X.K S' μ' → Q b S'.H) (PEx X.K W σ S) → t σ S.H Q
def CW (X : Cx) (W : WX) (e : Expr) (f : FB) : Prop := ∃ t : TT, PW X e t ∧ ∀ env σ S μ, EnvR X.K X.N.length S env σ → HS X.K S μ → ∀ Q : Bool → Hp → Prop, (f env μ).Post (fun b μ' => ∀ S', Ext S S' → HS X.K S' μ' → Q b S'.H) (PEx X.K W σ S) → t σ S.H Q
def CA (X : Cx) (W : WX) (es : List Expr) (f : FA) : Prop := ∃ t : TA, PA X es t ∧ ∀ env σ S μ, EnvR X.K X.N.length S env σ → HS X.K S μ → ∀ Q : List V → Hp → Prop, (f env μ).Post (fun ws μ' => ∀ vs S', Ext S S' → HS X.K S' μ' → RWs X.K S' vs ws → Q vs S'.H) (PEx X.K W σ S) → t σ S.H Q

section
variable {X : Cx} {W : WX}

/-! ### laying frozen things -/
def Sta.lay (S : Sta) (p : Addr) (o : HO) : Sta := ⟨upd S.H p o, upd S.F p o, S.L⟩
theorem HS.free {K : PySem.W.Frag} {S : Sta} {μ : Sto} (h : HS K S μ) {p : Addr} (hp : S.H p = none) : S.F p = none := by
  cases e : S.F p with
  | none => rfl
  | some o => have := h.sub p o e; rw [hp] at this; cases this
theorem Ext.lay {S : Sta} (hs : Sb S.F S.H) {p : Addr} {o : HO} (hp : S.H p = none) : Ext S (S.lay p o) := by
  have hf : S.F p = none := by
    cases e : S.F p with
    | none => rfl
    | some o => have := hs p o e; rw [hp] at this; cases this
  refine ⟨fun a u e => ?_, fun _ _ h => h, fun a u e _ => ?_, fun a u e => ⟨u, ?_⟩, fun _ h => .inl h, fun a h => ?_⟩
  · show upd S.F p o a = some u
    rw [upd_ne (ne_of_none e hf)]
    exact e
  · show upd S.H p o a = some u
    rw [upd_ne (ne_of_none e hp)]
    exact e
  · show upd S.H p o a = some u
    rw [upd_ne (ne_of_none e hp)]
    exact e
  · by_cases hb : a = p
    · exact .inr (.inl (by rw [hb]; exact hp))
    · have h : upd S.F p o a ≠ none := h
      rw [upd_ne hb] at h
      exact .inl h
theorem ObR.there {K : PySem.W.Frag} {S : Sta} {a : Addr} {ob : Ob} (h : ObR K S a ob) (hd : ob ≠ .dead) : ∃ o, S.H a = some o := by
  cases ob with
  | dead => exact absurd rfl hd
  | lst ws => obtain ⟨vs, e, _⟩ := h; exact ⟨_, e⟩
  | dk ws => obtain ⟨vs, e, _⟩ := h; exact ⟨_, e⟩
  | dt ws => obtain ⟨vs, e, _⟩ := h; exact ⟨_, e⟩
  | ins C fs => obtain ⟨_, vs, e, _⟩ := h; exact ⟨_, e⟩
/-- a thing whose place is left alone stays what it is -/
theorem ObR.stayG {K : PySem.W.Frag} {S S' : Sta} (e : Grow S S') {a : Addr} {ob : Ob} (h : ObR K S a ob) (hk : ∀ o, S.H a = some o → S'.H a = some o) : ObR K S' a ob := by
  cases ob with
  | dead => trivial
  | lst ws => obtain ⟨vs, h1, h2⟩ := h; exact ⟨vs, hk _ h1, h2.gr e⟩
  | dk ws => obtain ⟨vs, h1, h2⟩ := h; exact ⟨vs, hk _ h1, h2.gr e⟩
  | dt ws => obtain ⟨vs, h1, h2⟩ := h; exact ⟨vs, hk _ h1, h2.gr e⟩
  | ins C fs => obtain ⟨dx, vs, h1, h2⟩ := h; exact ⟨dx, vs, hk _ h1, h2.gr e⟩
theorem ObR.stay {K : PySem.W.Frag} {S S' : Sta} (e : Ext S S') {a : Addr} {ob : Ob} (h : ObR K S a ob) (hk : ∀ o, S.H a = some o → S'.H a = some o) : ObR K S' a ob := h.stayG e.gr hk
theorem HS.fresh {K : PySem.W.Frag} {S : Sta} {μ : Sto} (h : HS K S μ) {p : Addr} (hp : S.H p = none) : p ∉ S.L := fun z => by
  obtain ⟨n, hn⟩ := List.mem_iff_getElem?.mp z
  obtain ⟨o, e⟩ := h.tr n p hn
  rw [hp] at e; cases e
theorem HS.lay {K : PySem.W.Frag} {S : Sta} {μ : Sto} (h : HS K S μ) {p : Addr} (o : HO) (hp : S.H p = none) : HS K (S.lay p o) μ := by
  have hf := h.free hp
  refine ⟨fun a u e => ?_, h.len, h.nd, fun n a h1 => ?_, fun n a ob h1 h2 h3 => ?_, fun n a ob h1 h2 => ?_⟩
  · by_cases hb : a = p
    · subst hb
      have e : upd S.F a o a = some u := e
      rw [upd_same] at e
      show upd S.H a o a = some u
      rw [upd_same]
      exact e
    · have e : upd S.F p o a = some u := e
      rw [upd_ne hb] at e
      show upd S.H p o a = some u
      rw [upd_ne hb]
      exact h.sub a u e
  · obtain ⟨u, e⟩ := h.tr n a h1
    refine ⟨u, ?_⟩
    show upd S.H p o a = some u
    rw [upd_ne (ne_of_none e hp)]
    exact e
  · obtain ⟨u, e⟩ := (h.ob n a ob h1 h2).there h3
    show upd S.F p o a = none
    rw [upd_ne (ne_of_none e hp)]
    exact h.lv n a ob h1 h2 h3
  · refine (h.ob n a ob h1 h2).stay (Ext.lay h.sub hp) fun u e => ?_
    show upd S.H p o a = some u
    rw [upd_ne (ne_of_none e hp)]
    exact e

/-! ### the simple expressions -/
def fVar (i : Nat) : FE := fun env μ => match env[i]? with
  | some (some w) => .ok w μ
  | _ => .no
theorem c_var (i : Nat) {x : Str} {pos : Pos} (hN : X.N[i]? = some x := by rfl) (hv : Vis X.env.scope x := by first | exact Or.inl rfl | exact Or.inr (Or.inl rfl) | exact Or.inr (Or.inr rfl)) (hd : (x == ("__debug__" : Str)) = false := by decide)
    (hcd : (x == ("__classdict__" : Str)) = false := by decide) : CEx X W (.Name x pos) (fVar i) := by
  refine ⟨_, pe_var (i := i) hN hv hd hcd, fun env σ S μ he hs Q h => ?_⟩
  unfold fVar at h
  cases hw : env[i]? with
  | none => rw [hw] at h; exact h.elim
  | some o =>
    cases o with
    | none => rw [hw] at h; exact h.elim
    | some w =>
      rw [hw] at h
      obtain ⟨v, h1, h2⟩ := he.val i w hw
      exact ⟨v, h1, h v S (Ext.refl S) hs h2⟩
def fC (d : D) : FE := fun _ μ => .ok (.d d) μ
theorem c_of {e : Expr} {v : V} {d : D} (h : PE X e (tC v)) (r : ∀ F, Rp X.K F v d) : CEx X W e (fC d) := ⟨_, h, fun _ _ S _ _ hs _ h => h v S (Ext.refl S) hs (r S.F)⟩
theorem c_int {i j pos} : CEx X W (.Constant (.int i) j pos) (fC (.int i)) := c_of pe_int fun _ => .int i
theorem c_bl {i j pos} : CEx X W (.Constant (.bool i) j pos) (fC (.bool i)) := c_of pe_bl fun _ => .bl i
theorem c_non {j pos} : CEx X W (.Constant .none j pos) (fC .none) := c_of pe_non fun _ => .non
theorem c_str {i j pos} : CEx X W (.Constant (.str i) j pos) (fC (.str i)) := c_of pe_str fun _ => .str i
theorem c_glob {x : Str} {u : Value} {v : V} {d : D} {pos : Pos} (hg : Gl X x) (hm : X.mg x = some u) (r : RelV v u) (rd : ∀ F, Rp X.K F v d) (hd : (x == ("__debug__" : Str)) = false := by decide) : CEx X W (.Name x pos) (fC d) :=
  c_of (pe_glob hg hm r hd) rd

/-! ### arguments -/
def fNil : FA := fun _ μ => .ok [] μ
def fCons (f : FE) (g : FA) : FA := fun env μ => (f env μ).bind fun w μ1 => (g env μ1).bind fun ws μ2 => .ok (w :: ws) μ2
theorem ca_nil : CA X W [] fNil := ⟨_, pa_nil, fun _ _ S _ _ hs _ h => h [] S (Ext.refl S) hs .nil⟩
theorem ca_cons {e : Expr} {es : List Expr} {f : FE} {g : FA} (ha : CEx X W e f) (hb : CA X W es g) (hs : starEach (e :: es) X.env = (false, eval e X.env) :: starEach es X.env := by rfl) : CA X W (e :: es) (fCons f g) := by
  obtain ⟨ta, pa, qa⟩ := ha
  obtain ⟨tb, pb, qb⟩ := hb
  refine ⟨_, pa_cons pa pb hs, fun env σ S μ he hS Q h => ?_⟩
  unfold fCons at h
  rw [Rs.post_bind] at h
  refine qa env σ S μ he hS _ (h.mono (fun w μ1 h1 v S1 e1 hS1 r1 => ?_) fun _ _ z => z)
  rw [Rs.post_bind] at h1
  refine qb env σ S1 μ1 (he.mono e1) hS1 _ (h1.mono (fun ws μ2 h2 vs S2 e2 hS2 r2 => ?_) fun _ _ z => z.mono e1)
  exact h2 (v :: vs) S2 (e1.trans e2) hS2 (.cons (r1.mono e2) r2)

/-! ### displays -/
/-- the plain data among the values -/
def Wv.dat : Wv → Option D
  | .d x => some x
  | _ => none
def dats : List Wv → Option (List D)
  | [] => some []
  | .d x :: r => (dats r).map (x :: ·)
  | _ :: _ => none
theorem rws_dats {K : PySem.W.Frag} {S : Sta} : ∀ {vs : List V} {ws : List Wv} {ds : List D}, RWs K S vs ws → dats ws = some ds → RpA K S.F vs ds
  | _, _, _, .nil, e => by simp [dats] at e; subst e; exact .nil
  | _, w :: ws, ds, .cons r t, e => by
    cases w with
    | l n => simp [dats] at e
    | s n => simp [dats] at e
    | d x =>
      simp [dats] at e
      obtain ⟨r', e1, e2⟩ := e
      subst e2
      exact .cons r (rws_dats t e1)
theorem rws_len {K : PySem.W.Frag} {S : Sta} {vs : List V} {ws : List Wv} (h : RWs K S vs ws) : vs.length = ws.length := Paired.length h
theorem dats_len : ∀ {ws : List Wv} {ds : List D}, dats ws = some ds → ds.length = ws.length
  | [], ds, e => by simp [dats] at e; subst e; rfl
  | .l _ :: _, ds, e => by simp [dats] at e
  | .s _ :: _, ds, e => by simp [dats] at e
  | .d x :: r, ds, e => by
    simp [dats] at e
    obtain ⟨r', e1, e2⟩ := e
    subst e2
    simp [dats_len e1]
@[simp] theorem dats_map : ∀ (ds : List D), dats (ds.map Wv.d) = some ds
  | [] => rfl
  | d :: r => by simp [dats, dats_map r]
/-- the most items that a list or a tuple may have here -/
abbrev LIM : Nat := 16000000
theorem lim_line {n : Nat} (h : n ≤ LIM) : n ≤ sizeLine := by rw [sizeLine_eq]; exact Nat.le_trans h (by decide)
theorem lim_lt {n : Nat} (h : n ≤ LIM) : n < sizeLine := by rw [sizeLine_eq]; exact Nat.lt_of_le_of_lt h (by decide)
def mkSeq (c : List D → D) (ws : List Wv) (μ : Sto) : Rs Wv := match dats ws with
  | some ds => if ds.length ≤ LIM then .ok (.d (c ds)) μ else .no
  | none => .no
def fTup (g : FA) : FE := fun env μ => (g env μ).bind (mkSeq .tuple)
def fLst (g : FA) : FE := fun env μ => (g env μ).bind (mkSeq .list)
theorem rp_tup {K : PySem.W.Frag} {F : Hp} {p : Addr} {vs : List V} {ds : List D} (hn : F p = none) (r : RpA K F vs ds) : Rp K (upd F p (.tup vs)) (.ref p) (.tuple ds) :=
  .tup upd_same (RpA.mono (fun a u e => by rw [upd_ne (ne_of_none e hn)]; exact e) _ _ r)
theorem rp_lst {K : PySem.W.Frag} {F : Hp} {p : Addr} {vs : List V} {ds : List D} (hn : F p = none) (r : RpA K F vs ds) : Rp K (upd F p (.lst vs)) (.ref p) (.list ds) :=
  .lst upd_same (RpA.mono (fun a u e => by rw [upd_ne (ne_of_none e hn)]; exact e) _ _ r)
/-- a new tuple, a new list, for the one who asks -/
theorem new_tup {K : PySem.W.Frag} {S : Sta} {μ : Sto} {Q : VK} {vs : List V} {ds : List D} (hS : HS K S μ) (r : RpA K S.F vs ds) (h : POk K S Q (.d (.tuple ds)) μ) : ∀ p, S.H p = none → Q (.ref p) (upd S.H p (.tup vs)) := fun p hp =>
  h (.ref p) (S.lay p (.tup vs)) (Ext.lay hS.sub hp) (hS.lay _ hp) (rp_tup (hS.free hp) r)
theorem new_lst {K : PySem.W.Frag} {S : Sta} {μ : Sto} {Q : VK} {vs : List V} {ds : List D} (hS : HS K S μ) (r : RpA K S.F vs ds) (h : POk K S Q (.d (.list ds)) μ) : ∀ p, S.H p = none → Q (.ref p) (upd S.H p (.lst vs)) := fun p hp =>
  h (.ref p) (S.lay p (.lst vs)) (Ext.lay hS.sub hp) (hS.lay _ hp) (rp_lst (hS.free hp) r)
theorem POk.mono {K : PySem.W.Frag} {S S' : Sta} (e : Ext S S') {Q : VK} {w : Wv} {μ : Sto} (h : POk K S Q w μ) : POk K S' Q w μ := fun v T e' hs r => h v T (e.trans e') hs r
theorem c_tup {es : List Expr} {k pos} {g : FA} (h : CA X W es g) : CEx X W (.Tuple es k pos) (fTup g) := by
  obtain ⟨t, p, q⟩ := h
  refine ⟨_, pe_tup p, fun env σ S μ he hS Q h => ?_⟩
  unfold fTup at h
  rw [Rs.post_bind] at h
  refine q env σ S μ he hS _ (h.mono (fun ws μ1 h1 vs S1 e1 hS1 r1 => ?_) fun _ _ z => z)
  unfold mkSeq at h1
  cases hd : dats ws with
  | none => rw [hd] at h1; exact h1.elim
  | some ds =>
    rw [hd] at h1
    have r := rws_dats r1 hd
    by_cases hl : ds.length ≤ LIM
    · simp only [if_pos hl] at h1
      exact ⟨by rw [r.len]; exact lim_line hl, new_tup hS1 r (POk.mono e1 h1)⟩
    · simp only [if_neg hl] at h1
      exact h1.elim
theorem c_lst {es : List Expr} {pos} {g : FA} (h : CA X W es g) : CEx X W (.List es pos) (fLst g) := by
  obtain ⟨t, p, q⟩ := h
  refine ⟨_, pe_lst p, fun env σ S μ he hS Q h => ?_⟩
  unfold fLst at h
  rw [Rs.post_bind] at h
  refine q env σ S μ he hS _ (h.mono (fun ws μ1 h1 vs S1 e1 hS1 r1 => ?_) fun _ _ z => z)
  unfold mkSeq at h1
  cases hd : dats ws with
  | none => rw [hd] at h1; exact h1.elim
  | some ds =>
    rw [hd] at h1
    have r := rws_dats r1 hd
    by_cases hl : ds.length ≤ LIM
    · simp only [if_pos hl] at h1
      exact ⟨by rw [r.len]; exact lim_line hl, new_lst hS1 r (POk.mono e1 h1)⟩
    · simp only [if_neg hl] at h1
      exact h1.elim
end
end Ped

/-! Ped2: operators, comparisons, tests, places, built-in calls -/
namespace Ped
open PySem L2
section
variable {X : Cx} {W : WX}

/-! ### two operands -/
def fOp (h : Wv → Wv → Sto → Rs Wv) (f g : FE) : FE := fun env μ => (f env μ).bind fun x μ1 => (g env μ1).bind fun y μ2 => h x y μ2
def OkR (X : Cx) (r : R2) (h : Wv → Wv → Sto → Rs Wv) : Prop := ∀ x y v u S μ, HS X.K S μ → RW X.K S v x → RW X.K S u y → ∀ Q : VK, (h x y μ).Post (POk X.K S Q) (fun _ _ => False) → r v u S.H Q
theorem okr_or {r r' : R2} {h h' : Wv → Wv → Sto → Rs Wv} (a : OkR X r h) (b : OkR X r' h') {g : Wv → Wv → Sto → Rs Wv} (hg : ∀ x y μ, g x y μ = h x y μ ∨ g x y μ = h' x y μ) : OkR X (fun x y H Q => r x y H Q ∨ r' x y H Q) g :=
  fun x y v u S μ hS hx hy Q hp => by
    rcases hg x y μ with e | e
    · rw [e] at hp; exact .inl (a x y v u S μ hS hx hy Q hp)
    · rw [e] at hp; exact .inr (b x y v u S μ hS hx hy Q hp)
theorem rs_noex {α : Type} {r : Rs α} {P : α → Sto → Prop} {E : Exn → Sto → Prop} (h : r.Post P E) (hn : ∀ x μ, r ≠ .ex x μ) : r.Post P (fun _ _ => False) := by
  cases r with
  | ok a μ => exact h
  | ex x μ => exact absurd rfl (hn x μ)
  | no => exact h
/-- an operation that never raises -/
def NoEx (h : Wv → Wv → Sto → Rs Wv) : Prop := ∀ x y μ e ν, h x y μ ≠ .ex e ν
theorem op_core {ta tb : TE} {r : R2} {f g : FE} {h : Wv → Wv → Sto → Rs Wv} (ok : OkR X r h) (nx : NoEx h)
    (qa : ∀ env σ S μ, EnvR X.K X.N.length S env σ → HS X.K S μ → ∀ Q : VK, (f env μ).Post (POk X.K S Q) (PEx X.K W σ S) → ta σ S.H Q)
    (qb : ∀ env σ S μ, EnvR X.K X.N.length S env σ → HS X.K S μ → ∀ Q : VK, (g env μ).Post (POk X.K S Q) (PEx X.K W σ S) → tb σ S.H Q) :
    ∀ env σ S μ, EnvR X.K X.N.length S env σ → HS X.K S μ → ∀ Q : VK, (fOp h f g env μ).Post (POk X.K S Q) (PEx X.K W σ S) → tOp r ta tb σ S.H Q := fun env σ S μ he hS Q hp => by
  unfold fOp at hp
  rw [Rs.post_bind] at hp
  refine qa env σ S μ he hS _ (hp.mono (fun x μ1 h1 v S1 e1 hS1 r1 => ?_) fun _ _ z => z)
  rw [Rs.post_bind] at h1
  refine qb env σ S1 μ1 (he.mono e1) hS1 _ (h1.mono (fun y μ2 h2 u S2 e2 hS2 r2 => ?_) fun _ _ z => z.mono e1)
  exact ok x y v u S2 μ2 hS2 (r1.mono e2) r2 Q (rs_noex (h2.mono (fun a ν p => POk.mono (e1.trans e2) p) fun _ _ z => z) (nx x y μ2))
theorem c_op {op : Operator} {r : R2} {a b : Expr} {f g : FE} {h : Wv → Wv → Sto → Rs Wv} {pos : Pos} (ho : OpR X (binaryOp op) r) (ok : OkR X r h) (nx : NoEx h) (ha : CEx X W a f) (hb : CEx X W b g) : CEx X W (.BinOp a op b pos) (fOp h f g) := by
  obtain ⟨ta, pa, qa⟩ := ha
  obtain ⟨tb, pb, qb⟩ := hb
  exact ⟨_, pe_op ho pa pb, op_core ok nx qa qb⟩
theorem c_cmp {op : CmpOp} {r : R2} {a b : Expr} {f g : FE} {h : Wv → Wv → Sto → Rs Wv} {pos : Pos} (ho : OpR X (compareOp op) r) (ok : OkR X r h) (nx : NoEx h) (ha : CEx X W a f) (hb : CEx X W b g) (hm : behindInMarks op b = false) : CEx X W (.Compare a [op] [b] pos) (fOp h f g) := by
  obtain ⟨ta, pa, qa⟩ := ha
  obtain ⟨tb, pb, qb⟩ := hb
  exact ⟨_, pe_cmpR ho pa pb hm, op_core ok nx qa qb⟩
/-- a value that is a bool, as a test -/
def asB (w : Wv) (μ : Sto) : Rs Bool := match w with
  | .d (.bool b) => .ok b μ
  | _ => .no
def fB (f : FE) : FB := fun env μ => (f env μ).bind asB
theorem asB_post {w : Wv} {μ : Sto} {P : Bool → Sto → Prop} {E : Exn → Sto → Prop} (h : (asB w μ).Post P E) : ∃ b, w = .d (.bool b) ∧ P b μ := by
  cases w with
  | l n => exact h.elim
  | s n => exact h.elim
  | d x => cases x <;> first | exact ⟨_, rfl, h⟩ | exact h.elim
theorem b_core {t : TE} {f : FE} (q : ∀ env σ S μ, EnvR X.K X.N.length S env σ → HS X.K S μ → ∀ Q : VK, (f env μ).Post (POk X.K S Q) (PEx X.K W σ S) → t σ S.H Q) :
    ∀ env σ S μ, EnvR X.K X.N.length S env σ → HS X.K S μ → ∀ Q : Bool → Hp → Prop, (fB f env μ).Post (fun b μ' => ∀ S', Ext S S' → HS X.K S' μ' → Q b S'.H) (PEx X.K W σ S) → t σ S.H (fun x H1 => ∃ c, x = .bl c ∧ Q c H1) := fun env σ S μ he hS Q hp => by
  unfold fB at hp
  rw [Rs.post_bind] at hp
  refine q env σ S μ he hS _ (hp.mono (fun w μ1 h1 v S1 e1 hS1 r1 => ?_) fun _ _ z => z)
  obtain ⟨b, rfl, h2⟩ := asB_post h1
  cases r1
  exact ⟨b, rfl, h2 S1 e1 hS1⟩
theorem ct_cmp {op : CmpOp} {r : R2} {a b : Expr} {f g : FE} {h : Wv → Wv → Sto → Rs Wv} {pos : Pos} (ho : OpR X (compareOp op) r) (ok : OkR X r h) (nx : NoEx h) (ha : CEx X W a f) (hb : CEx X W b g) (hm : behindInMarks op b = false) : CT X W (.Compare a [op] [b] pos) (fB (fOp h f g)) := by
  obtain ⟨ta, pa, qa⟩ := ha
  obtain ⟨tb, pb, qb⟩ := hb
  exact ⟨_, pt_cmpR ho pa pb hm, b_core (op_core ok nx qa qb)⟩
/-- a name, a call, a bool: the test of its value -/
theorem ct_val {e : Expr} {f : FE} (h : CEx X W e f) (he : ∀ whole, isTrue e X.env whole = (do let v ← whole; standAt e.pos; holding [v] (truthy v)) := by intro _; rfl) : CT X W e (fB f) := by
  obtain ⟨t, p, q⟩ := h
  exact ⟨_, pt_val p he, b_core q⟩
def fNot (f : FB) : FB := fun env μ => (f env μ).bind fun b μ1 => .ok (!b) μ1
theorem ct_not {a : Expr} {f : FB} {pos : Pos} (h : CT X W a f) : CT X W (.UnaryOp .Not a pos) (fNot f) := by
  obtain ⟨t, p, q⟩ := h
  refine ⟨_, pt_not p, fun env σ S μ he hS Q hp => ?_⟩
  unfold fNot at hp
  rw [Rs.post_bind] at hp
  exact q env σ S μ he hS _ (hp.mono (fun b μ1 h1 S1 e1 hS1 => h1 S1 e1 hS1) fun _ _ z => z)
def fAnd (f g : FB) : FB := fun env μ => (f env μ).bind fun b μ1 => if b = true then g env μ1 else .ok false μ1
def fOr (f g : FB) : FB := fun env μ => (f env μ).bind fun b μ1 => if b = true then .ok true μ1 else g env μ1
theorem CW.ct {e : Expr} {f : FB} (h : CW X W e f) : CT X W e f := by
  obtain ⟨t, p, q⟩ := h
  exact ⟨t, p.pt, q⟩
theorem cw_and1 {a : Expr} {f : FB} {pos : Pos} (h : CT X W a f) : CW X W (.BoolOp .And [a] pos) f := by
  obtain ⟨t, p, q⟩ := h
  exact ⟨t, pw_and1 p, q⟩
theorem cw_or1 {a : Expr} {f : FB} {pos : Pos} (h : CT X W a f) : CW X W (.BoolOp .Or [a] pos) f := by
  obtain ⟨t, p, q⟩ := h
  exact ⟨t, pw_or1 p, q⟩
theorem cw_and {a b : Expr} {rest : List Expr} {f g : FB} {pos : Pos} (ha : CT X W a f) (hb : CW X W (.BoolOp .And (b :: rest) pos) g) : CW X W (.BoolOp .And (a :: b :: rest) pos) (fAnd f g) := by
  obtain ⟨ta, pa, qa⟩ := ha
  obtain ⟨tb, pb, qb⟩ := hb
  refine ⟨_, pw_and pa pb, fun env σ S μ he hS Q hp => ?_⟩
  unfold fAnd at hp
  rw [Rs.post_bind] at hp
  refine qa env σ S μ he hS _ (hp.mono (fun c μ1 h1 S1 e1 hS1 => ?_) fun _ _ z => z)
  cases c with
  | true =>
    rw [if_pos rfl] at h1 ⊢
    exact qb env σ S1 μ1 (he.mono e1) hS1 Q (h1.mono (fun c μ2 h2 S2 e2 hS2 => h2 S2 (e1.trans e2) hS2) fun _ _ z => z.mono e1)
  | false =>
    rw [if_neg Bool.false_ne_true] at h1 ⊢
    exact h1 S1 e1 hS1
theorem cw_or {a b : Expr} {rest : List Expr} {f g : FB} {pos : Pos} (ha : CT X W a f) (hb : CW X W (.BoolOp .Or (b :: rest) pos) g) : CW X W (.BoolOp .Or (a :: b :: rest) pos) (fOr f g) := by
  obtain ⟨ta, pa, qa⟩ := ha
  obtain ⟨tb, pb, qb⟩ := hb
  refine ⟨_, pw_or pa pb, fun env σ S μ he hS Q hp => ?_⟩
  unfold fOr at hp
  rw [Rs.post_bind] at hp
  refine qa env σ S μ he hS _ (hp.mono (fun c μ1 h1 S1 e1 hS1 => ?_) fun _ _ z => z)
  cases c with
  | true =>
    rw [if_pos rfl] at h1 ⊢
    exact h1 S1 e1 hS1
  | false =>
    rw [if_neg Bool.false_ne_true] at h1 ⊢
    exact qb env σ S1 μ1 (he.mono e1) hS1 Q (h1.mono (fun c μ2 h2 S2 e2 hS2 => h2 S2 (e1.trans e2) hS2) fun _ _ z => z.mono e1)
/-- and, or, not as values, of bools -/
def fV (f : FB) : FE := fun env μ => (f env μ).bind fun b μ1 => .ok (.d (.bool b)) μ1
def fAndV (f g : FE) : FE := fun env μ => (fB f env μ).bind fun b μ1 => if b = true then g env μ1 else .ok (.d (.bool false)) μ1
def fOrV (f g : FE) : FE := fun env μ => (fB f env μ).bind fun b μ1 => if b = true then .ok (.d (.bool true)) μ1 else g env μ1
def fNotV (f : FE) : FE := fun env μ => (fB f env μ).bind fun b μ1 => .ok (.d (.bool (!b))) μ1
theorem c_one {op} {a : Expr} {f : FE} {pos : Pos} (h : CEx X W a f) : CEx X W (.BoolOp op [a] pos) f := by
  obtain ⟨t, p, q⟩ := h
  exact ⟨t, pe_one p, q⟩
theorem c_and {a b : Expr} {rest : List Expr} {f g : FE} {pos : Pos} (ha : CEx X W a f) (hb : CEx X W (.BoolOp .And (b :: rest) pos) g) : CEx X W (.BoolOp .And (a :: b :: rest) pos) (fAndV f g) := by
  obtain ⟨ta, pa, qa⟩ := ha
  obtain ⟨tb, pb, qb⟩ := hb
  refine ⟨_, pe_and pa pb, fun env σ S μ he hS Q hp => ?_⟩
  unfold fAndV at hp
  rw [Rs.post_bind] at hp
  refine b_core qa env σ S μ he hS (fun c H1 => if c = true then tb σ H1 Q else Q (.bl false) H1) (hp.mono (fun c μ1 h1 S1 e1 hS1 => ?_) fun _ _ z => z)
  cases c with
  | true =>
    rw [if_pos rfl] at h1 ⊢
    exact qb env σ S1 μ1 (he.mono e1) hS1 Q (h1.mono (fun c μ2 h2 => POk.mono e1 h2) fun _ _ z => z.mono e1)
  | false =>
    rw [if_neg Bool.false_ne_true] at h1 ⊢
    exact h1 _ S1 e1 hS1 (.bl false)
theorem c_or {a b : Expr} {rest : List Expr} {f g : FE} {pos : Pos} (ha : CEx X W a f) (hb : CEx X W (.BoolOp .Or (b :: rest) pos) g) : CEx X W (.BoolOp .Or (a :: b :: rest) pos) (fOrV f g) := by
  obtain ⟨ta, pa, qa⟩ := ha
  obtain ⟨tb, pb, qb⟩ := hb
  refine ⟨_, pe_or pa pb, fun env σ S μ he hS Q hp => ?_⟩
  unfold fOrV at hp
  rw [Rs.post_bind] at hp
  refine b_core qa env σ S μ he hS (fun c H1 => if c = true then Q (.bl true) H1 else tb σ H1 Q) (hp.mono (fun c μ1 h1 S1 e1 hS1 => ?_) fun _ _ z => z)
  cases c with
  | true =>
    rw [if_pos rfl] at h1 ⊢
    exact h1 _ S1 e1 hS1 (.bl true)
  | false =>
    rw [if_neg Bool.false_ne_true] at h1 ⊢
    exact qb env σ S1 μ1 (he.mono e1) hS1 Q (h1.mono (fun c μ2 h2 => POk.mono e1 h2) fun _ _ z => z.mono e1)
theorem c_not {a : Expr} {f : FE} {pos : Pos} (h : CEx X W a f) : CEx X W (.UnaryOp .Not a pos) (fNotV f) := by
  obtain ⟨t, p, q⟩ := h
  refine ⟨_, pe_not p, fun env σ S μ he hS Q hp => ?_⟩
  unfold fNotV at hp
  rw [Rs.post_bind] at hp
  exact b_core q env σ S μ he hS (fun c H1 => Q (.bl (!c)) H1) (hp.mono (fun c μ1 h1 S1 e1 hS1 => h1 _ S1 e1 hS1 (.bl _)) fun _ _ z => z)
def fIf (c : FB) (f g : FE) : FE := fun env μ => (c env μ).bind fun b μ1 => if b = true then f env μ1 else g env μ1
theorem c_if {c a b : Expr} {h : FB} {f g : FE} {pos : Pos} (hc : CT X W c h) (ha : CEx X W a f) (hb : CEx X W b g) : CEx X W (.IfExp c a b pos) (fIf h f g) := by
  obtain ⟨tc, pc, qc⟩ := hc
  obtain ⟨ta, pa, qa⟩ := ha
  obtain ⟨tb, pb, qb⟩ := hb
  refine ⟨_, pe_ifExp pc pa pb, fun env σ S μ he hS Q hp => ?_⟩
  unfold fIf at hp
  rw [Rs.post_bind] at hp
  refine qc env σ S μ he hS _ (hp.mono (fun c μ1 h1 S1 e1 hS1 => ?_) fun _ _ z => z)
  cases c with
  | true =>
    rw [if_pos rfl] at h1 ⊢
    exact qa env σ S1 μ1 (he.mono e1) hS1 Q (h1.mono (fun c μ2 h2 => POk.mono e1 h2) fun _ _ z => z.mono e1)
  | false =>
    rw [if_neg Bool.false_ne_true] at h1 ⊢
    exact qb env σ S1 μ1 (he.mono e1) hS1 Q (h1.mono (fun c μ2 h2 => POk.mono e1 h2) fun _ _ z => z.mono e1)

/-! ### numbers -/
/-- an operation on two ints -/
def opI (h : Int → Int → Option D) (x y : Wv) (μ : Sto) : Rs Wv := match x, y with
  | .d (.int i), .d (.int j) => (match h i j with | some d => .ok (.d d) μ | none => .no)
  | _, _ => .no
@[simp] theorem opI_int (h : Int → Int → Option D) (i j : Int) (μ : Sto) : opI h (.d (.int i)) (.d (.int j)) μ = (match h i j with | some d => .ok (.d d) μ | none => .no) := rfl
theorem opI_nx (h : Int → Int → Option D) : NoEx (opI h) := fun x y μ e ν q => by
  unfold opI at q
  split at q
  · split at q <;> cases q
  · cases q
theorem opI_post {h : Int → Int → Option D} {x y : Wv} {μ : Sto} {P : Wv → Sto → Prop} {E : Exn → Sto → Prop} (p : (opI h x y μ).Post P E) : ∃ i j d, x = .d (.int i) ∧ y = .d (.int j) ∧ h i j = some d ∧ P (.d d) μ := by
  unfold opI at p
  split at p
  · split at p
    · exact ⟨_, _, _, rfl, rfl, by assumption, p⟩
    · exact p.elim
  · exact p.elim
theorem ok_I {C : Int → Int → Prop} [∀ i j, Decidable (C i j)] {g : Int → Int → Int} : OkR X (rI C fun i j => .int (g i j)) (opI fun i j => if C i j then some (.int (g i j)) else none) := fun x y v u S μ hS hx hy Q hp => by
  obtain ⟨i, j, d, rfl, rfl, e, p⟩ := opI_post hp
  cases hx
  cases hy
  by_cases hc : C i j
  · rw [if_pos hc] at e
    cases e
    exact ⟨i, j, rfl, rfl, hc, p _ S (Ext.refl S) hS (.int _)⟩
  · rw [if_neg hc] at e
    cases e
theorem ok_I0 {g : Int → Int → Int} : OkR X (rI0 fun i j => .int (g i j)) (opI fun i j => some (.int (g i j))) := fun x y v u S μ hS hx hy Q hp => by
  obtain ⟨i, j, d, rfl, rfl, e, p⟩ := opI_post hp
  cases hx
  cases hy
  cases e
  exact ⟨i, j, rfl, rfl, p _ S (Ext.refl S) hS (.int _)⟩
theorem ok_B0 {g : Int → Int → Bool} : OkR X (rI0 fun i j => .bl (g i j)) (opI fun i j => some (.bool (g i j))) := fun x y v u S μ hS hx hy Q hp => by
  obtain ⟨i, j, d, rfl, rfl, e, p⟩ := opI_post hp
  cases hx
  cases hy
  cases e
  exact ⟨i, j, rfl, rfl, p _ S (Ext.refl S) hS (.bl _)⟩
abbrev cmpW (g : Int → Int → Bool) : Wv → Wv → Sto → Rs Wv := opI fun i j => some (.bool (g i j))
section
variable {a b : Expr} {f g : FE} {pos : Pos}
theorem c_sub (ha : CEx X W a f) (hb : CEx X W b g) : CEx X W (.BinOp a .Sub b pos) (fOp (opI fun i j => some (.int (i - j))) f g) := c_op op_sub ok_I0 (opI_nx _) ha hb
instance (i j : Int) : Decidable (CMul i j) := by unfold CMul; infer_instance
instance (i j : Int) : Decidable (CPow i j) := by unfold CPow; infer_instance
theorem c_mulI (ha : CEx X W a f) (hb : CEx X W b g) : CEx X W (.BinOp a .Mult b pos) (fOp (opI fun i j => if CMul i j then some (.int (i * j)) else none) f g) := c_op op_mul ok_I (opI_nx _) ha hb
theorem c_pow (ha : CEx X W a f) (hb : CEx X W b g) : CEx X W (.BinOp a .Pow b pos) (fOp (opI fun i j => if CPow i j then some (.int (i ^ j.toNat)) else none) f g) := c_op op_pow ok_I (opI_nx _) ha hb
/-- i % j: of a positive j by Lean's % -/
def modI (i j : Int) : Option D := if 0 < j then some (.int (i % j)) else if j ≠ 0 then some (.int (i.fmod j)) else none
theorem c_mod (ha : CEx X W a f) (hb : CEx X W b g) : CEx X W (.BinOp a .Mod b pos) (fOp (opI modI) f g) := by
  refine c_op op_modN (fun x y v u S μ hS hx hy Q hp => ?_) (opI_nx _) ha hb
  obtain ⟨i, j, d, rfl, rfl, e, p⟩ := opI_post hp
  cases hx
  cases hy
  unfold modI at e
  by_cases hc : 0 < j
  · rw [if_pos hc] at e
    cases e
    refine ⟨i, j, rfl, rfl, by omega, ?_⟩
    show Q (.int (i.fmod j)) S.H
    rw [Int.fmod_eq_emod_of_nonneg i (show 0 ≤ j by omega)]
    exact p _ S (Ext.refl S) hS (.int _)
  · rw [if_neg hc] at e
    by_cases hz : j ≠ 0
    · rw [if_pos hz] at e
      cases e
      exact ⟨i, j, rfl, rfl, hz, p _ S (Ext.refl S) hS (.int _)⟩
    · rw [if_neg hz] at e
      cases e
/-- i // j: of a positive j by Lean's / -/
def divI (i j : Int) : Option D := if 0 < j ∧ j < 2 ^ 100 then some (.int (i / j)) else if j ≠ 0 ∧ j.natAbs < 1073741824 then some (.int (i.fdiv j)) else none
theorem c_div (ha : CEx X W a f) (hb : CEx X W b g) : CEx X W (.BinOp a .FloorDiv b pos) (fOp (opI divI) f g) := by
  refine c_op (OpR.or op_fdivW op_fdivN) (fun x y v u S μ hS hx hy Q hp => ?_) (opI_nx _) ha hb
  obtain ⟨i, j, d, rfl, rfl, e, p⟩ := opI_post hp
  cases hx
  cases hy
  unfold divI at e
  by_cases hc : 0 < j ∧ j < 2 ^ 100
  · rw [if_pos hc] at e
    cases e
    exact .inl ⟨i, j, rfl, rfl, wide_div (b := 101) hc.1 (by omega) (by decide) (by decide), p _ S (Ext.refl S) hS (.int _)⟩
  · rw [if_neg hc] at e
    by_cases hz : j ≠ 0 ∧ j.natAbs < 1073741824
    · rw [if_pos hz] at e
      cases e
      exact .inr ⟨i, j, rfl, rfl, hz, p _ S (Ext.refl S) hS (.int _)⟩
    · rw [if_neg hz] at e
      cases e
theorem c_lt (ha : CEx X W a f) (hb : CEx X W b g) : CEx X W (.Compare a [.Lt] [b] pos) (fOp (cmpW fun i j => decide (i < j)) f g) := c_cmp op_lt ok_B0 (opI_nx _) ha hb (nomark _)
theorem c_le (ha : CEx X W a f) (hb : CEx X W b g) : CEx X W (.Compare a [.LtE] [b] pos) (fOp (cmpW fun i j => decide (i ≤ j)) f g) := c_cmp op_le ok_B0 (opI_nx _) ha hb (nomark _)
theorem c_gt (ha : CEx X W a f) (hb : CEx X W b g) : CEx X W (.Compare a [.Gt] [b] pos) (fOp (cmpW fun i j => decide (j < i)) f g) := c_cmp op_gt ok_B0 (opI_nx _) ha hb (nomark _)
theorem c_ge (ha : CEx X W a f) (hb : CEx X W b g) : CEx X W (.Compare a [.GtE] [b] pos) (fOp (cmpW fun i j => decide (j ≤ i)) f g) := c_cmp op_ge ok_B0 (opI_nx _) ha hb (nomark _)
theorem ct_lt (ha : CEx X W a f) (hb : CEx X W b g) : CT X W (.Compare a [.Lt] [b] pos) (fB (fOp (cmpW fun i j => decide (i < j)) f g)) := ct_cmp op_lt ok_B0 (opI_nx _) ha hb (nomark _)
theorem ct_le (ha : CEx X W a f) (hb : CEx X W b g) : CT X W (.Compare a [.LtE] [b] pos) (fB (fOp (cmpW fun i j => decide (i ≤ j)) f g)) := ct_cmp op_le ok_B0 (opI_nx _) ha hb (nomark _)
theorem ct_gt (ha : CEx X W a f) (hb : CEx X W b g) : CT X W (.Compare a [.Gt] [b] pos) (fB (fOp (cmpW fun i j => decide (j < i)) f g)) := ct_cmp op_gt ok_B0 (opI_nx _) ha hb (nomark _)
theorem ct_ge (ha : CEx X W a f) (hb : CEx X W b g) : CT X W (.Compare a [.GtE] [b] pos) (fB (fOp (cmpW fun i j => decide (j ≤ i)) f g)) := ct_cmp op_ge ok_B0 (opI_nx _) ha hb (nomark _)

/-! ### sums of anything, products -/
def addW (x y : Wv) (μ : Sto) : Rs Wv := match x, y with
  | .d (.int i), .d (.int j) => .ok (.d (.int (i + j))) μ
  | .d (.str i), .d (.str j) => if i.length + j.length ≤ LIM then .ok (.d (.str (i ++ j))) μ else .no
  | .d (.tuple i), .d (.tuple j) => if i.length + j.length ≤ LIM then .ok (.d (.tuple (i ++ j))) μ else .no
  | .d (.list i), .d (.list j) => if i.length + j.length ≤ LIM then .ok (.d (.list (i ++ j))) μ else .no
  | _, _ => .no
theorem addW_nx : NoEx addW := fun x y μ e ν q => by
  unfold addW at q
  split at q <;> first | cases q | (split at q <;> cases q)
theorem rp_lst_inv {K : PySem.W.Frag} {F : Hp} {v : V} {ds : List D} (h : Rp K F v (.list ds)) : ∃ a xs, v = .ref a ∧ F a = some (.lst xs) ∧ RpA K F xs ds := by
  cases h with
  | lst h1 h2 => exact ⟨_, _, rfl, h1, h2⟩
theorem rp_tup_inv {K : PySem.W.Frag} {F : Hp} {v : V} {ds : List D} (h : Rp K F v (.tuple ds)) : ∃ a xs, v = .ref a ∧ F a = some (.tup xs) ∧ RpA K F xs ds := by
  cases h with
  | tup h1 h2 => exact ⟨_, _, rfl, h1, h2⟩
theorem ok_add : OkR X (fun x y H Q => (rI0 fun i j => .int (i + j)) x y H Q ∨ (∃ i j, x = .str i ∧ y = .str j ∧ i.length + j.length ≤ sizeLine ∧ Q (.str (i ++ j)) H) ∨ rCatA X.K x y H Q ∨ rCat x y H Q) addW := fun x y v u S μ hS hx hy Q hp => by
  unfold addW at hp
  split at hp
  · cases hx; cases hy
    exact .inl ⟨_, _, rfl, rfl, hp _ S (Ext.refl S) hS (.int _)⟩
  · split at hp
    · cases hx; cases hy
      exact .inr (.inl ⟨_, _, rfl, rfl, lim_line (by assumption), hp _ S (Ext.refl S) hS (.str _)⟩)
    · exact hp.elim
  · split at hp
    · obtain ⟨a, xs, rfl, ha, ra⟩ := rp_tup_inv hx
      obtain ⟨b, ys, rfl, hb, rb⟩ := rp_tup_inv hy
      refine .inr (.inr (.inl ⟨a, b, xs, ys, rfl, rfl, .inl (.inl (hS.sub _ _ ha)), .inl (.inl (hS.sub _ _ hb)), by rw [ra.len, rb.len]; exact lim_line (by assumption), fun e => ?_, fun _ e => ?_, fun _ _ => new_tup hS (ra.append rb) hp⟩))
      · subst e
        cases ra
        exact hp _ S (Ext.refl S) hS (.tup hb rb)
      · subst e
        cases rb
        exact hp _ S (Ext.refl S) hS (by rw [List.append_nil]; exact Rp.tup ha ra)
    · exact hp.elim
  · split at hp
    · obtain ⟨a, xs, rfl, ha, ra⟩ := rp_lst_inv hx
      obtain ⟨b, ys, rfl, hb, rb⟩ := rp_lst_inv hy
      exact .inr (.inr (.inr ⟨a, b, xs, ys, rfl, rfl, hS.sub _ _ ha, hS.sub _ _ hb, by rw [ra.len, rb.len]; exact lim_line (by assumption), new_lst hS (ra.append rb) hp⟩))
    · exact hp.elim
  · exact hp.elim
theorem c_add (ha : CEx X W a f) (hb : CEx X W b g) : CEx X W (.BinOp a .Add b pos) (fOp addW f g) := c_op (OpR.or op_add (OpR.or op_add_str (OpR.or op_catA op_cat))) ok_add addW_nx ha hb
def mulL (x y : Wv) (μ : Sto) : Rs Wv := match x, y with
  | .d (.list i), .d (.int k) => if -1000000 ≤ k ∧ k ≤ 1000000 ∧ i.length * k.toNat ≤ LIM then .ok (.d (.list (List.replicate k.toNat i).flatten)) μ else .no
  | _, _ => .no
theorem mulL_nx : NoEx mulL := fun x y μ e ν q => by
  unfold mulL at q
  split at q <;> first | cases q | (split at q <;> cases q)
theorem c_mulL (ha : CEx X W a f) (hb : CEx X W b g) : CEx X W (.BinOp a .Mult b pos) (fOp mulL f g) := by
  refine c_op op_rep (fun x y v u S μ hS hx hy Q hp => ?_) mulL_nx ha hb
  unfold mulL at hp
  split at hp
  · split at hp
    · rename_i hk
      obtain ⟨p, xs, rfl, ha, ra⟩ := rp_lst_inv hx
      cases hy
      exact ⟨p, _, xs, rfl, rfl, hS.sub _ _ ha, by omega, by omega, by rw [ra.len]; exact lim_line hk.2.2, new_lst hS (ra.rep _) hp⟩
    · exact hp.elim
  · exact hp.elim
def fNeg (f : FE) : FE := fun env μ => (f env μ).bind fun x μ1 => match x with
  | .d (.int i) => .ok (.d (.int (-i))) μ1
  | _ => .no
theorem c_neg (ha : CEx X W a f) : CEx X W (.UnaryOp .USub a pos) (fNeg f) := by
  obtain ⟨ta, pa, qa⟩ := ha
  refine ⟨_, pe_un un_neg pa, fun env σ S μ he hS Q hp => ?_⟩
  unfold fNeg at hp
  rw [Rs.post_bind] at hp
  refine qa env σ S μ he hS _ (hp.mono (fun x μ1 h1 v S1 e1 hS1 r1 => ?_) fun _ _ z => z)
  split at h1
  · cases r1
    exact ⟨_, rfl, h1 _ S1 e1 hS1 (.int _)⟩
  · exact h1.elim
end

/-! ### equal or not -/
def scalD : D → D → Bool
  | .none, .none => true | .none, .int _ => true | .int _, .none => true | .none, .bool _ => true | .bool _, .none => true | .none, .str _ => true | .str _, .none => true
  | .int _, .int _ => true | .bool _, .bool _ => true | .str _, .str _ => true
  | .int _, .str _ => true | .str _, .int _ => true | .bool _, .str _ => true | .str _, .bool _ => true
  | _, _ => false
def sameD : D → D → Bool
  | .none, .none => true
  | .int i, .int j => decide (i = j)
  | .bool i, .bool j => decide (i = j)
  | .str i, .str j => decide (i = j)
  | _, _ => false
def eqD (d e : D) : Option Bool := if scalD d e = true then some (sameD d e) else if SeqAt.shaped d = true ∧ SeqAt.shaped e = true then some (PyData.eqv d e) else none
def eqW (neg : Bool) (x y : Wv) (μ : Sto) : Rs Wv := match x, y with
  | .d d, .d e => (match eqD d e with | some b => .ok (.d (.bool (if neg then !b else b))) μ | none => .no)
  | _, _ => .no
theorem eqW_nx (neg : Bool) : NoEx (eqW neg) := fun x y μ e ν q => by
  unfold eqW at q
  split at q
  · split at q <;> cases q
  · cases q
theorem scal_of {K : PySem.W.Frag} {F : Hp} {v u : V} {d e : D} (h : scalD d e = true) (rv : Rp K F v d) (ru : Rp K F u e) : scal v u = true ∧ decide (v = u) = sameD d e := by
  cases rv <;> cases ru <;> first | (exact ⟨rfl, by simp [sameD]⟩) | exact absurd h Bool.false_ne_true
theorem ok_eq : OkR X (fun x y H Q => rEq x y H Q ∨ rEqD X.K x y H Q) (eqW false) := fun x y v u S μ hS hx hy Q hp => by
  unfold eqW at hp
  split at hp
  · rename_i d e
    unfold eqD at hp
    by_cases hs : scalD d e = true
    · rw [if_pos hs] at hp
      obtain ⟨h1, h2⟩ := scal_of hs hx hy
      exact .inl ⟨h1, by rw [h2]; exact hp _ S (Ext.refl S) hS (.bl _)⟩
    · rw [if_neg hs] at hp
      by_cases hh : SeqAt.shaped d = true ∧ SeqAt.shaped e = true
      · rw [if_pos hh] at hp
        exact .inr ⟨d, e, Rp.dp hS.sub _ _ hx, Rp.dp hS.sub _ _ hy, hh.1, hh.2, hp _ S (Ext.refl S) hS (.bl _)⟩
      · rw [if_neg hh] at hp
        exact hp.elim
  · exact hp.elim
theorem ok_ne : OkR X (fun x y H Q => rNe x y H Q ∨ rNeD X.K x y H Q) (eqW true) := fun x y v u S μ hS hx hy Q hp => by
  unfold eqW at hp
  split at hp
  · rename_i d e
    unfold eqD at hp
    by_cases hs : scalD d e = true
    · rw [if_pos hs] at hp
      obtain ⟨h1, h2⟩ := scal_of hs hx hy
      exact .inl ⟨h1, by rw [h2]; exact hp _ S (Ext.refl S) hS (.bl _)⟩
    · rw [if_neg hs] at hp
      by_cases hh : SeqAt.shaped d = true ∧ SeqAt.shaped e = true
      · rw [if_pos hh] at hp
        exact .inr ⟨d, e, Rp.dp hS.sub _ _ hx, Rp.dp hS.sub _ _ hy, hh.1, hh.2, hp _ S (Ext.refl S) hS (.bl _)⟩
      · rw [if_neg hh] at hp
        exact hp.elim
  · exact hp.elim
section
variable {a b : Expr} {f g : FE} {pos : Pos}
theorem c_eq (hu : X.A.units + 64 < cLine) (ha : CEx X W a f) (hb : CEx X W b g) : CEx X W (.Compare a [.Eq] [b] pos) (fOp (eqW false) f g) := c_cmp (OpR.or op_eq (op_eqD hu)) ok_eq (eqW_nx _) ha hb (nomark _)
theorem c_ne (hu : X.A.units + 64 < cLine) (ha : CEx X W a f) (hb : CEx X W b g) : CEx X W (.Compare a [.NotEq] [b] pos) (fOp (eqW true) f g) := c_cmp (OpR.or op_ne (op_neD hu)) ok_ne (eqW_nx _) ha hb (nomark _)
theorem ct_eq (hu : X.A.units + 64 < cLine) (ha : CEx X W a f) (hb : CEx X W b g) : CT X W (.Compare a [.Eq] [b] pos) (fB (fOp (eqW false) f g)) := ct_cmp (OpR.or op_eq (op_eqD hu)) ok_eq (eqW_nx _) ha hb (nomark _)
theorem ct_ne (hu : X.A.units + 64 < cLine) (ha : CEx X W a f) (hb : CEx X W b g) : CT X W (.Compare a [.NotEq] [b] pos) (fB (fOp (eqW true) f g)) := ct_cmp (OpR.or op_ne (op_neD hu)) ok_ne (eqW_nx _) ha hb (nomark _)
def isNoneD : D → Bool
  | .none => true
  | _ => false
/-- x is None -/
def isNW (neg : Bool) (x y : Wv) (μ : Sto) : Rs Wv := match x, y with
  | .d d, .d .none => .ok (.d (.bool (if neg then !isNoneD d else isNoneD d))) μ
  | _, _ => .no
theorem isNW_nx (neg : Bool) : NoEx (isNW neg) := fun x y μ e ν q => by
  unfold isNW at q
  split at q <;> cases q
theorem rp_non {K : PySem.W.Frag} {F : Hp} {v : V} {d : D} (h : Rp K F v d) : decide (v = .non) = isNoneD d := by
  cases h <;> rfl
theorem ok_isN : OkR X (fun x y H Q => y = .non ∧ Q (.bl (decide (x = .non))) H) (isNW false) := fun x y v u S μ hS hx hy Q hp => by
  unfold isNW at hp
  split at hp
  · rename_i d
    cases hy
    exact ⟨rfl, by rw [rp_non hx]; exact hp _ S (Ext.refl S) hS (.bl _)⟩
  · exact hp.elim
theorem ok_notN : OkR X (fun x y H Q => y = .non ∧ Q (.bl (!decide (x = .non))) H) (isNW true) := fun x y v u S μ hS hx hy Q hp => by
  unfold isNW at hp
  split at hp
  · rename_i d
    cases hy
    exact ⟨rfl, by rw [rp_non hx]; exact hp _ S (Ext.refl S) hS (.bl _)⟩
  · exact hp.elim
theorem c_is (ha : CEx X W a f) (hb : CEx X W b g) : CEx X W (.Compare a [.Is] [b] pos) (fOp (isNW false) f g) := c_cmp op_isN ok_isN (isNW_nx _) ha hb (nomark _)
theorem ct_is (ha : CEx X W a f) (hb : CEx X W b g) : CT X W (.Compare a [.Is] [b] pos) (fB (fOp (isNW false) f g)) := ct_cmp op_isN ok_isN (isNW_nx _) ha hb (nomark _)
theorem c_isnot (ha : CEx X W a f) (hb : CEx X W b g) : CEx X W (.Compare a [.IsNot] [b] pos) (fOp (isNW true) f g) := c_cmp op_notN ok_notN (isNW_nx _) ha hb (nomark _)
theorem ct_isnot (ha : CEx X W a f) (hb : CEx X W b g) : CT X W (.Compare a [.IsNot] [b] pos) (fB (fOp (isNW true) f g)) := ct_cmp op_notN ok_notN (isNW_nx _) ha hb (nomark _)

/-! ### in: flat items, data in a list -/
def flatD : D → Bool
  | .none => true | .bool _ => true | .int _ => true | .str _ => true
  | _ => false
theorem flat_of {K : PySem.W.Frag} {F : Hp} {v : V} {d : D} (h : Rp K F v d) : flatV v = flatD d := by cases h <;> rfl
theorem eqv_of {K : PySem.W.Frag} {F : Hp} {v u : V} {d e : D} (h : flatD d = true) (h' : flatD e = true) (rv : Rp K F v d) (ru : Rp K F u e) : eqV v u = PyData.eqv d e := by
  cases rv <;> cases ru <;> first | rfl | (simp [eqV, PyData.eqv]; done) | exact absurd h Bool.false_ne_true | exact absurd h' Bool.false_ne_true
theorem flats_of {K : PySem.W.Frag} {F : Hp} : ∀ {vs : List V} {ds : List D}, RpA K F vs ds → vs.all flatV = ds.all flatD
  | _, _, .nil => rfl
  | _, _, .cons r t => by rw [List.all_cons, List.all_cons, flat_of r, flats_of t]
theorem inV_of {K : PySem.W.Frag} {F : Hp} {v : V} {d : D} (h : flatD d = true) (rv : Rp K F v d) : ∀ {vs : List V} {ds : List D}, RpA K F vs ds → ds.all flatD = true → inV v vs = ds.any fun z => PyData.eqv z d
  | _, _, .nil, _ => rfl
  | _, _, .cons r t, ha => by
    rw [List.all_cons, Bool.and_eq_true] at ha
    show (eqV _ v || inV v _) = _
    rw [List.any_cons, inV_of h rv t ha.2, eqv_of ha.1 h r rv]
def inW (neg : Bool) (x y : Wv) (μ : Sto) : Rs Wv := match x, y with
  | .d d, .d (.tuple ds) => if flatD d = true ∧ ds.all flatD = true then .ok (.d (.bool (if neg then !(ds.any fun z => PyData.eqv z d) else ds.any fun z => PyData.eqv z d))) μ else .no
  | .d d, .d (.list ds) => if (flatD d = true ∧ ds.all flatD = true) ∨ (SeqAt.shaped d = true ∧ SeqAt.shaped (.list ds) = true) then .ok (.d (.bool (if neg then !(ds.any fun z => PyData.eqv z d) else ds.any fun z => PyData.eqv z d))) μ else .no
  | _, _ => .no
theorem inW_nx (neg : Bool) : NoEx (inW neg) := fun x y μ e ν q => by
  unfold inW at q
  split at q <;> first | cases q | (split at q <;> cases q)
theorem ok_in : OkR X (fun x y H Q => rIn X.K false x y H Q ∨ rInD X.K x y H Q) (inW false) := fun x y v u S μ hS hx hy Q hp => by
  unfold inW at hp
  split at hp
  · rename_i d ds
    split at hp
    · rename_i hf
      obtain ⟨p, xs, rfl, ha, ra⟩ := rp_tup_inv hy
      exact .inl ⟨p, xs, rfl, .inr (.inl (.inl (hS.sub _ _ ha))), by rw [flat_of hx]; exact hf.1, by rw [flats_of ra]; exact hf.2, hp _ S (Ext.refl S) hS (by rw [inV_of hf.1 hx ra hf.2]; exact .bl _)⟩
    · exact hp.elim
  · rename_i d ds
    split at hp
    · rename_i hf
      rcases hf with hf | hf
      · obtain ⟨p, xs, rfl, ha, ra⟩ := rp_lst_inv hy
        exact .inl ⟨p, xs, rfl, .inl (.inl (.inl (hS.sub _ _ ha))), by rw [flat_of hx]; exact hf.1, by rw [flats_of ra]; exact hf.2, hp _ S (Ext.refl S) hS (by rw [inV_of hf.1 hx ra hf.2]; exact .bl _)⟩
      · exact .inr ⟨d, ds, Rp.dp hS.sub _ _ hx, Rp.dp hS.sub _ _ hy, hf.1, hf.2, hp _ S (Ext.refl S) hS (.bl _)⟩
    · exact hp.elim
  · exact hp.elim
theorem ok_notin : OkR X (fun x y H Q => rIn X.K true x y H Q ∨ rNotInD X.K x y H Q) (inW true) := fun x y v u S μ hS hx hy Q hp => by
  unfold inW at hp
  split at hp
  · rename_i d ds
    split at hp
    · rename_i hf
      obtain ⟨p, xs, rfl, ha, ra⟩ := rp_tup_inv hy
      exact .inl ⟨p, xs, rfl, .inr (.inl (.inl (hS.sub _ _ ha))), by rw [flat_of hx]; exact hf.1, by rw [flats_of ra]; exact hf.2, hp _ S (Ext.refl S) hS (by rw [inV_of hf.1 hx ra hf.2]; exact .bl _)⟩
    · exact hp.elim
  · rename_i d ds
    split at hp
    · rename_i hf
      rcases hf with hf | hf
      · obtain ⟨p, xs, rfl, ha, ra⟩ := rp_lst_inv hy
        exact .inl ⟨p, xs, rfl, .inl (.inl (.inl (hS.sub _ _ ha))), by rw [flat_of hx]; exact hf.1, by rw [flats_of ra]; exact hf.2, hp _ S (Ext.refl S) hS (by rw [inV_of hf.1 hx ra hf.2]; exact .bl _)⟩
      · exact .inr ⟨d, ds, Rp.dp hS.sub _ _ hx, Rp.dp hS.sub _ _ hy, hf.1, hf.2, hp _ S (Ext.refl S) hS (.bl _)⟩
    · exact hp.elim
  · exact hp.elim
theorem c_in (hu : X.A.units + 65 < cLine) (ha : CEx X W a f) (hb : CEx X W b g) (hm : behindInMarks .In b = false := by rfl) : CEx X W (.Compare a [.In] [b] pos) (fOp (inW false) f g) := c_cmp (OpR.or op_in_seq (op_inD hu)) ok_in (inW_nx _) ha hb hm
theorem ct_in (hu : X.A.units + 65 < cLine) (ha : CEx X W a f) (hb : CEx X W b g) (hm : behindInMarks .In b = false := by rfl) : CT X W (.Compare a [.In] [b] pos) (fB (fOp (inW false) f g)) := ct_cmp (OpR.or op_in_seq (op_inD hu)) ok_in (inW_nx _) ha hb hm
theorem c_notin (hu : X.A.units + 65 < cLine) (ha : CEx X W a f) (hb : CEx X W b g) (hm : behindInMarks .NotIn b = false := by rfl) : CEx X W (.Compare a [.NotIn] [b] pos) (fOp (inW true) f g) := c_cmp (OpR.or op_notIn_seq (op_notInD hu)) ok_notin (inW_nx _) ha hb hm
theorem ct_notin (hu : X.A.units + 65 < cLine) (ha : CEx X W a f) (hb : CEx X W b g) (hm : behindInMarks .NotIn b = false := by rfl) : CT X W (.Compare a [.NotIn] [b] pos) (fB (fOp (inW true) f g)) := ct_cmp (OpR.or op_notIn_seq (op_notInD hu)) ok_notin (inW_nx _) ha hb hm
end
end
end Ped

/-! Ped3: places, slices, chains, built-in calls, calls of defs -/
namespace Ped
open PySem L2
section
variable {X : Cx} {W : WX}

/-! ### places -/
def ixW (x y : Wv) (μ : Sto) : Rs Wv := match x, y with
  | .d (.list xs), .d (.int i) => (match atI xs i with | some d => .ok (.d d) μ | none => .no)
  | .d (.tuple xs), .d (.int i) => (match atI xs i with | some d => .ok (.d d) μ | none => .no)
  | .l n, .d (.int i) => (match μ[n]? with
    | some (.lst ws) => (match atI ws i with | some w => .ok w μ | none => .no)
    | _ => .no)
  | .s ns, .d (.int i) => (match atI ns i with | some k => .ok (.d (.int k)) μ | none => .no)
  | _, _ => .no
theorem ixW_nx : NoEx ixW := fun x y μ e ν q => by
  unfold ixW at q
  split at q
  · split at q <;> cases q
  · split at q <;> cases q
  · split at q
    · split at q <;> cases q
    · cases q
  · split at q <;> cases q
  · cases q
theorem atI_len {α β : Type} {xs : List α} {ys : List β} (h : xs.length = ys.length) (i : Int) : ixN xs.length i = ixN ys.length i := by rw [h]
theorem atI_some {α : Type} {xs : List α} {i : Int} {v : α} (h : atI xs i = some v) : ∃ j, ixN xs.length i = some j ∧ xs[j]? = some v := by
  unfold atI at h
  cases e : ixN xs.length i with
  | none => rw [e] at h; cases h
  | some j => rw [e] at h; exact ⟨j, rfl, h⟩
theorem atI_of {α : Type} {xs : List α} {i : Int} {j : Nat} {v : α} (h : ixN xs.length i = some j) (hv : xs[j]? = some v) : atI xs i = some v := by
  unfold atI
  rw [h]
  exact hv
theorem rpA_at {K : PySem.W.Frag} {F : Hp} {vs : List V} {ds : List D} {i : Int} {d : D} (r : RpA K F vs ds) (h : atI ds i = some d) : ∃ v, atI vs i = some v ∧ Rp K F v d := by
  obtain ⟨j, h1, h2⟩ := atI_some h
  obtain ⟨v, h3, h4⟩ := r.get h2
  exact ⟨v, atI_of (by rw [r.len]; exact h1) h3, h4⟩
theorem rws_get {K : PySem.W.Frag} {S : Sta} : ∀ {vs : List V} {ws : List Wv} {i : Nat} {d : Wv}, RWs K S vs ws → ws[i]? = some d → ∃ v, vs[i]? = some v ∧ RW K S v d
  | _, _, _, _, .nil, e => by simp at e
  | _, _, 0, _, .cons r _, e => by simp at e; subst e; exact ⟨_, rfl, r⟩
  | _, _, i + 1, d, .cons _ t, e => by
    obtain ⟨v, h1, h2⟩ := rws_get (i := i) (d := d) t (by simpa using e)
    exact ⟨v, by simpa using h1, h2⟩
theorem rws_at {K : PySem.W.Frag} {S : Sta} {vs : List V} {ws : List Wv} {i : Int} {d : Wv} (r : RWs K S vs ws) (h : atI ws i = some d) : ∃ v, atI vs i = some v ∧ RW K S v d := by
  obtain ⟨j, h1, h2⟩ := atI_some h
  obtain ⟨v, h3, h4⟩ := rws_get r h2
  exact ⟨v, atI_of (by rw [rws_len r]; exact h1) h3, h4⟩
theorem ok_ix : OkR X (rIx X.K) ixW := fun x y v u S μ hS hx hy Q hp => by
  unfold ixW at hp
  split at hp
  · rename_i xs i
    split at hp
    · obtain ⟨p, vs, rfl, ha, ra⟩ := rp_lst_inv hx
      cases hy
      obtain ⟨w, h1, h2⟩ := rpA_at ra (by assumption)
      exact .inl ⟨p, vs, i, w, rfl, rfl, .inl (.inl (hS.sub _ _ ha)), h1, hp _ S (Ext.refl S) hS h2⟩
    · exact hp.elim
  · rename_i xs i
    split at hp
    · obtain ⟨p, vs, rfl, ha, ra⟩ := rp_tup_inv hx
      cases hy
      obtain ⟨w, h1, h2⟩ := rpA_at ra (by assumption)
      exact .inr (.inl ⟨p, vs, i, w, rfl, rfl, .inl (.inl (hS.sub _ _ ha)), h1, hp _ S (Ext.refl S) hS h2⟩)
    · exact hp.elim
  · rename_i n i
    obtain ⟨a, hL, rfl⟩ := hx
    cases hy
    split at hp
    · rename_i ws hm
      split at hp
      · obtain ⟨vs, h1, h2⟩ := hS.ob n a _ hL hm
        obtain ⟨w, h3, h4⟩ := rws_at h2 (by assumption)
        exact .inl ⟨a, vs, i, w, rfl, rfl, .inl (.inl h1), h3, hp _ S (Ext.refl S) hS h4⟩
      · exact hp.elim
    · exact hp.elim
  · rename_i ns i
    obtain ⟨a, hL, rfl⟩ := hx
    cases hy
    split at hp
    · rename_i k hk
      obtain ⟨j, h3, h4⟩ := atI_some hk
      exact .inl ⟨a, ns.map V.int, i, .int k, rfl, rfl, sb_l hS.sub hL, atI_of (by rw [List.length_map]; exact h3) (by rw [List.getElem?_map, h4]; rfl), hp _ S (Ext.refl S) hS (.int k)⟩
    · exact hp.elim
  · exact hp.elim
theorem c_ix {a b : Expr} {f g : FE} {pos : Pos} (ha : CEx X W a f) (hb : CEx X W b g) (hs : PlainIx b := by intro _ _; rfl) : CEx X W (.Subscript a b pos) (fOp ixW f g) := by
  obtain ⟨ta, pa, qa⟩ := ha
  obtain ⟨tb, pb, qb⟩ := hb
  exact ⟨_, pe_ix ix_seq pa pb hs, op_core ok_ix ixW_nx qa qb⟩

/-! ### slices -/
def FO := Env → Sto → Rs (Option Int)
def CO (X : Cx) (W : WX) (e : Option Expr) (f : FO) : Prop := ∃ t : TO, PO X e t ∧ ∀ env σ S μ, EnvR X.K X.N.length S env σ → HS X.K S μ → ∀ Q : Option Int → Hp → Prop, (f env μ).Post (fun o μ' => ∀ S', Ext S S' → HS X.K S' μ' → Q o S'.H) (PEx X.K W σ S) → t σ S.H Q
def fO0 : FO := fun _ μ => .ok none μ
def fO1 (f : FE) : FO := fun env μ => (f env μ).bind fun w μ1 => match w with
  | .d (.int i) => .ok (some i) μ1
  | _ => .no
theorem co_none : CO X W none fO0 := ⟨_, po_none, fun _ _ S _ _ hs _ h => h S (Ext.refl S) hs⟩
theorem co_some {e : Expr} {f : FE} (h : CEx X W e f) : CO X W (some e) (fO1 f) := by
  obtain ⟨t, p, q⟩ := h
  refine ⟨_, po_some p, fun env σ S μ he hS Q hp => ?_⟩
  unfold fO1 at hp
  rw [Rs.post_bind] at hp
  refine q env σ S μ he hS _ (hp.mono (fun w μ1 h1 v S1 e1 hS1 r1 => ?_) fun _ _ z => z)
  split at h1
  · cases r1
    exact ⟨_, rfl, h1 S1 e1 hS1⟩
  · exact h1.elim
/-- the items of xs[lo:hi] -/
def cut {α : Type} (xs : List α) (lo hi : Option Int) : List α := (xs.drop (HT.sIx xs.length 0 lo)).take (HT.sIx xs.length xs.length hi - HT.sIx xs.length 0 lo)
theorem cut_V (xs : List V) (lo hi : Option Int) : cutV xs lo hi = cut xs lo hi := rfl
theorem rpA_cut {K : PySem.W.Frag} {F : Hp} {vs : List V} {ds : List D} (r : RpA K F vs ds) (lo hi : Option Int) : RpA K F (cutV vs lo hi) (cut ds lo hi) := by
  unfold cutV cut
  rw [r.len]
  exact (r.drop _).take _
theorem cut_all {α : Type} {xs : List α} {lo hi : Option Int} (h : HT.sIx xs.length 0 lo = 0 ∧ HT.sIx xs.length xs.length hi = xs.length) : cut xs lo hi = xs := by
  unfold cut
  rw [h.1, h.2]
  simp
def slW (x : Wv) (lo hi : Option Int) (μ : Sto) : Rs Wv := match x with
  | .d (.list xs) => .ok (.d (.list (cut xs lo hi))) μ
  | .d (.tuple xs) => .ok (.d (.tuple (cut xs lo hi))) μ
  | .d (.str z) => if z.length ≤ LIM then .ok (.d (.str (cutS z lo hi))) μ else .no
  | _ => .no
def fSl (f : FE) (g h : FO) : FE := fun env μ => (f env μ).bind fun x μ1 => (g env μ1).bind fun lo μ2 => (h env μ2).bind fun hi μ3 => slW x lo hi μ3
theorem c_slice {e : Expr} {lo hi : Option Expr} {f : FE} {g h : FO} {p2 pos : Pos} (he : CEx X W e f) (hl : CO X W lo g) (hh : CO X W hi h) : CEx X W (.Subscript e (.Slice lo hi none p2) pos) (fSl f g h) := by
  obtain ⟨te, pe, qe⟩ := he
  obtain ⟨tl, pl, ql⟩ := hl
  obtain ⟨th, ph, qh⟩ := hh
  refine ⟨_, pe_slice (SlR.or sl_list (SlR.or sl_tupA sl_str)) pe pl ph, fun env σ S μ he hS Q hp => ?_⟩
  unfold fSl at hp
  rw [Rs.post_bind] at hp
  refine qe env σ S μ he hS _ (hp.mono (fun x μ1 h1 v S1 e1 hS1 r1 => ?_) fun _ _ z => z)
  rw [Rs.post_bind] at h1
  refine ql env σ S1 μ1 (he.mono e1) hS1 _ (h1.mono (fun o μ2 h2 S2 e2 hS2 => ?_) fun _ _ z => z.mono e1)
  rw [Rs.post_bind] at h2
  refine qh env σ S2 μ2 (he.mono (e1.trans e2)) hS2 _ (h2.mono (fun o' μ3 h3 S3 e3 hS3 => ?_) fun _ _ z => z.mono (e1.trans e2))
  have r3 := r1.mono (e2.trans e3)
  have k := e1.trans (e2.trans e3)
  unfold slW at h3
  split at h3
  · obtain ⟨a, xs, rfl, ha, ra⟩ := rp_lst_inv r3
    exact .inl ⟨a, xs, rfl, .inl (.inl (hS3.sub _ _ ha)), new_lst hS3 (rpA_cut ra o o') (POk.mono k h3)⟩
  · obtain ⟨a, xs, rfl, ha, ra⟩ := rp_tup_inv r3
    refine .inr (.inl ⟨a, xs, rfl, .inl (.inl (hS3.sub _ _ ha)), fun hw => ?_, fun _ => new_tup hS3 (rpA_cut ra o o') (POk.mono k h3)⟩)
    rw [ra.len] at hw
    rw [cut_all hw] at h3
    exact h3 _ S3 k hS3 (.tup ha ra)
  · split at h3
    · cases r3
      exact .inr (.inr ⟨_, rfl, lim_line (by assumption), h3 _ S3 k hS3 (.str _)⟩)
    · exact h3.elim
  · exact h3.elim

/-! ### a op b op c -/
def fChain (h h' : Wv → Wv → Sto → Rs Wv) (f g k : FE) : FE := fun env μ => (f env μ).bind fun x μ1 => (g env μ1).bind fun y μ2 => ((h x y μ2).bind asB).bind fun b μ3 => if b = true then (k env μ3).bind fun z μ4 => h' y z μ4 else .ok (.d (.bool false)) μ3
theorem chain_core {ta tb tc : TE} {r r' : R2} {f g k : FE} {h h' : Wv → Wv → Sto → Rs Wv} (ok : OkR X r h) (nx : NoEx h) (ok' : OkR X r' h') (nx' : NoEx h')
    (qa : ∀ env σ S μ, EnvR X.K X.N.length S env σ → HS X.K S μ → ∀ Q : VK, (f env μ).Post (POk X.K S Q) (PEx X.K W σ S) → ta σ S.H Q)
    (qb : ∀ env σ S μ, EnvR X.K X.N.length S env σ → HS X.K S μ → ∀ Q : VK, (g env μ).Post (POk X.K S Q) (PEx X.K W σ S) → tb σ S.H Q)
    (qc : ∀ env σ S μ, EnvR X.K X.N.length S env σ → HS X.K S μ → ∀ Q : VK, (k env μ).Post (POk X.K S Q) (PEx X.K W σ S) → tc σ S.H Q) :
    ∀ env σ S μ, EnvR X.K X.N.length S env σ → HS X.K S μ → ∀ Q : VK, (fChain h h' f g k env μ).Post (POk X.K S Q) (PEx X.K W σ S) → tChain r r' ta tb tc σ S.H Q := fun env σ S μ he hS Q hp => by
  unfold fChain at hp
  rw [Rs.post_bind] at hp
  refine qa env σ S μ he hS _ (hp.mono (fun x μ1 h1 v S1 e1 hS1 r1 => ?_) fun _ _ z => z)
  rw [Rs.post_bind] at h1
  refine qb env σ S1 μ1 (he.mono e1) hS1 _ (h1.mono (fun y μ2 h2 u S2 e2 hS2 r2 => ?_) fun _ _ z => z.mono e1)
  rw [Rs.post_bind, Rs.post_bind] at h2
  refine ok x y v u S2 μ2 hS2 (r1.mono e2) r2 _ (rs_noex (h2.mono (fun w μ3 h3 z S3 e3 hS3 r3 => ?_) fun _ _ z => z) (nx x y μ2))
  obtain ⟨b, rfl, h4⟩ := asB_post h3
  cases r3
  refine ⟨b, rfl, ?_⟩
  cases b with
  | true =>
    rw [if_pos rfl] at h4 ⊢
    rw [Rs.post_bind] at h4
    refine qc env σ S3 μ3 (he.mono (e1.trans (e2.trans e3))) hS3 _ (h4.mono (fun z μ4 h5 w S4 e4 hS4 r4 => ?_) fun _ _ z => z.mono (e1.trans (e2.trans e3)))
    exact ok' y z u w S4 μ4 hS4 (r2.mono (e3.trans e4)) r4 Q (rs_noex (h5.mono (fun a ν p => POk.mono (e1.trans (e2.trans (e3.trans e4))) p) fun _ _ z => z) (nx' y z μ4))
  | false =>
    rw [if_neg Bool.false_ne_true] at h4 ⊢
    exact h4 _ S3 (e1.trans (e2.trans e3)) hS3 (.bl false)
section
variable {op op' : CmpOp} {a b c : Expr} {f g k : FE} {pos : Pos} {r r' : R2} {h h' : Wv → Wv → Sto → Rs Wv}
theorem c_chain (ho : OpR X (compareOp op) r) (ok : OkR X r h) (nx : NoEx h) (ho' : OpR X (compareOp op') r') (ok' : OkR X r' h') (nx' : NoEx h') (ha : CEx X W a f) (hb : CEx X W b g) (hc : CEx X W c k) (hm : lastMarks [op, op'] [b, c] = false := by with_unfolding_all rfl) :
    CEx X W (.Compare a [op, op'] [b, c] pos) (fChain h h' f g k) := by
  obtain ⟨ta, pa, qa⟩ := ha
  obtain ⟨tb, pb, qb⟩ := hb
  obtain ⟨tc, pc, qc⟩ := hc
  exact ⟨_, pe_chain ho ho' pa pb pc hm, chain_core ok nx ok' nx' qa qb qc⟩
theorem ct_chain (ho : OpR X (compareOp op) r) (ok : OkR X r h) (nx : NoEx h) (ho' : OpR X (compareOp op') r') (ok' : OkR X r' h') (nx' : NoEx h') (ha : CEx X W a f) (hb : CEx X W b g) (hc : CEx X W c k) (hm : lastMarks [op, op'] [b, c] = false := by with_unfolding_all rfl) :
    CT X W (.Compare a [op, op'] [b, c] pos) (fB (fChain h h' f g k)) := by
  obtain ⟨ta, pa, qa⟩ := ha
  obtain ⟨tb, pb, qb⟩ := hb
  obtain ⟨tc, pc, qc⟩ := hc
  exact ⟨_, pt_chain ho ho' pa pb pc hm, b_core (chain_core ok nx ok' nx' qa qb qc)⟩
abbrev leW := cmpW fun i j => decide (i ≤ j)
abbrev ltW := cmpW fun i j => decide (i < j)
theorem c_lele (ha : CEx X W a f) (hb : CEx X W b g) (hc : CEx X W c k) (hm : lastMarks [.LtE, .LtE] [b, c] = false := by with_unfolding_all rfl) : CEx X W (.Compare a [.LtE, .LtE] [b, c] pos) (fChain leW leW f g k) := c_chain op_le ok_B0 (opI_nx _) op_le ok_B0 (opI_nx _) ha hb hc hm
theorem c_lelt (ha : CEx X W a f) (hb : CEx X W b g) (hc : CEx X W c k) (hm : lastMarks [.LtE, .Lt] [b, c] = false := by with_unfolding_all rfl) : CEx X W (.Compare a [.LtE, .Lt] [b, c] pos) (fChain leW ltW f g k) := c_chain op_le ok_B0 (opI_nx _) op_lt ok_B0 (opI_nx _) ha hb hc hm
theorem ct_lele (ha : CEx X W a f) (hb : CEx X W b g) (hc : CEx X W c k) (hm : lastMarks [.LtE, .LtE] [b, c] = false := by with_unfolding_all rfl) : CT X W (.Compare a [.LtE, .LtE] [b, c] pos) (fB (fChain leW leW f g k)) := ct_chain op_le ok_B0 (opI_nx _) op_le ok_B0 (opI_nx _) ha hb hc hm
theorem ct_lelt (ha : CEx X W a f) (hb : CEx X W b g) (hc : CEx X W c k) (hm : lastMarks [.LtE, .Lt] [b, c] = false := by with_unfolding_all rfl) : CT X W (.Compare a [.LtE, .Lt] [b, c] pos) (fB (fChain leW ltW f g k)) := ct_chain op_le ok_B0 (opI_nx _) op_lt ok_B0 (opI_nx _) ha hb hc hm
end

/-! ### built-in calls -/
abbrev TCall := List V → Hp → VK → Prop
def OkC (X : Cx) (r : TCall) (h : List Wv → Sto → Rs Wv) : Prop := ∀ ws vs S μ, HS X.K S μ → RWs X.K S vs ws → ∀ Q : VK, (h ws μ).Post (POk X.K S Q) (fun _ _ => False) → r vs S.H Q
def NoExC (h : List Wv → Sto → Rs Wv) : Prop := ∀ ws μ e ν, h ws μ ≠ .ex e ν
def fCall (h : List Wv → Sto → Rs Wv) (g : FA) : FE := fun env μ => (g env μ).bind h
theorem call_core {r : TCall} {t : TA} {h : List Wv → Sto → Rs Wv} {g : FA} (ok : OkC X r h) (nx : NoExC h)
    (q : ∀ env σ S μ, EnvR X.K X.N.length S env σ → HS X.K S μ → ∀ Q : List V → Hp → Prop, (g env μ).Post (fun ws μ' => ∀ vs S', Ext S S' → HS X.K S' μ' → RWs X.K S' vs ws → Q vs S'.H) (PEx X.K W σ S) → t σ S.H Q) :
    ∀ env σ S μ, EnvR X.K X.N.length S env σ → HS X.K S μ → ∀ Q : VK, (fCall h g env μ).Post (POk X.K S Q) (PEx X.K W σ S) → tCB r t σ S.H Q := fun env σ S μ he hS Q hp => by
  unfold fCall at hp
  rw [Rs.post_bind] at hp
  refine q env σ S μ he hS _ (hp.mono (fun ws μ1 h1 vs S1 e1 hS1 r1 => ?_) fun _ _ z => z)
  exact ok ws vs S1 μ1 hS1 r1 Q (rs_noex (h1.mono (fun a ν p => POk.mono e1 p) fun _ _ z => z) (nx ws μ1))
section
variable {x : Str} {p pos : Pos} {e : Expr} {es : List Expr} {id : String} {T : String} {g : FA} {r : TCall} {h : List Wv → Sto → Rs Wv}
theorem c_callB (hc : CallR X (.builtin id) r) (ok : OkC X r h) (nx : NoExC h) (hg : Gl X x) (hm : X.mg x = none) (hv : bootBuiltins x = some (.builtin id)) (ha : CA X W (e :: es) g) (hn : x ≠ "__name__" := by decide) (hdb : (x == ("__debug__" : Str)) = false := by decide)
    (he : starEach (e :: es) X.env = (false, eval e X.env) :: starEach es X.env := by rfl) (hpl : (backTo pos (starEach es X.env)).any (·.1) = false := by rfl) : CEx X W (.Call (.Name x p) (e :: es) [] pos) (fCall h g) := by
  obtain ⟨t, pa, q⟩ := ha
  exact ⟨_, pe_callB hc hg hm hv pa hn hdb he hpl, call_core ok nx q⟩
theorem c_callTy (hc : CallR X (.type T) r) (ok : OkC X r h) (nx : NoExC h) (hg : Gl X x) (hm : X.mg x = none) (hv : bootBuiltins x = some (.type T)) (ha : CA X W (e :: es) g) (hn : x ≠ "__name__" := by decide) (hdb : (x == ("__debug__" : Str)) = false := by decide)
    (he : starEach (e :: es) X.env = (false, eval e X.env) :: starEach es X.env := by rfl) (hpl : (backTo pos (starEach es X.env)).any (·.1) = false := by rfl) : CEx X W (.Call (.Name x p) (e :: es) [] pos) (fCall h g) := by
  obtain ⟨t, pa, q⟩ := ha
  exact ⟨_, pe_callTy hc hg hm hv pa hn hdb he hpl, call_core ok nx q⟩
end
/-- a built-in of ints alone -/
def k1I (h : Int → D) (ws : List Wv) (μ : Sto) : Rs Wv := match ws with
  | [.d (.int i)] => .ok (.d (h i)) μ
  | _ => .no
def k2I (h : Int → Int → D) (ws : List Wv) (μ : Sto) : Rs Wv := match ws with
  | [.d (.int i), .d (.int j)] => .ok (.d (h i j)) μ
  | _ => .no
theorem k1I_nx (h : Int → D) : NoExC (k1I h) := fun ws μ e ν q => by
  unfold k1I at q
  split at q <;> cases q
theorem k2I_nx (h : Int → Int → D) : NoExC (k2I h) := fun ws μ e ν q => by
  unfold k2I at q
  split at q <;> cases q
theorem rws1 {K : PySem.W.Frag} {S : Sta} {vs : List V} {w : Wv} (h : RWs K S vs [w]) : ∃ v, vs = [v] ∧ RW K S v w := by
  cases h with
  | cons r t => cases t; exact ⟨_, rfl, r⟩
theorem rws2 {K : PySem.W.Frag} {S : Sta} {vs : List V} {w z : Wv} (h : RWs K S vs [w, z]) : ∃ v u, vs = [v, u] ∧ RW K S v w ∧ RW K S u z := by
  cases h with
  | cons r t =>
    obtain ⟨u, rfl, q⟩ := rws1 t
    exact ⟨_, _, rfl, r, q⟩
def kAbs := k1I fun i => .int (if i < 0 then -i else i)
def kMax2 := k2I fun i j => .int (if j > i then j else i)
def kMin2 := k2I fun i j => .int (if j < i then j else i)
theorem ok_abs : OkC X (fun xs H Q => ∃ i, xs = [.int i] ∧ Q (.int (if i < 0 then -i else i)) H) kAbs := fun ws vs S μ hS r Q hp => by
  unfold kAbs k1I at hp
  split at hp
  · obtain ⟨v, rfl, h⟩ := rws1 r
    cases h
    exact ⟨_, rfl, hp _ S (Ext.refl S) hS (.int _)⟩
  · exact hp.elim
theorem ok_max2 : OkC X (fun xs H Q => ∃ i j, xs = [.int i, .int j] ∧ Q (.int (if j > i then j else i)) H) kMax2 := fun ws vs S μ hS r Q hp => by
  unfold kMax2 k2I at hp
  split at hp
  · obtain ⟨v, u, rfl, h1, h2⟩ := rws2 r
    cases h1
    cases h2
    exact ⟨_, _, rfl, hp _ S (Ext.refl S) hS (.int _)⟩
  · exact hp.elim
theorem ok_min2 : OkC X (fun xs H Q => ∃ i j, xs = [.int i, .int j] ∧ Q (.int (if j < i then j else i)) H) kMin2 := fun ws vs S μ hS r Q hp => by
  unfold kMin2 k2I at hp
  split at hp
  · obtain ⟨v, u, rfl, h1, h2⟩ := rws2 r
    cases h1
    cases h2
    exact ⟨_, _, rfl, hp _ S (Ext.refl S) hS (.int _)⟩
  · exact hp.elim
/-- int(x) of an int or a bool -/
def kInt (ws : List Wv) (μ : Sto) : Rs Wv := match ws with
  | [.d (.int i)] => .ok (.d (.int i)) μ
  | [.d (.bool b)] => .ok (.d (.int (if b then 1 else 0))) μ
  | _ => .no
theorem kInt_nx : NoExC kInt := fun ws μ e ν q => by
  unfold kInt at q
  split at q <;> cases q
theorem ok_int : OkC X (fun xs H Q => (∃ i, xs = [.int i] ∧ Q (.int i) H) ∨ ∃ k, xs = [.bl k] ∧ Q (.int (if k then 1 else 0)) H) kInt := fun ws vs S μ hS r Q hp => by
  unfold kInt at hp
  split at hp
  · obtain ⟨v, rfl, h⟩ := rws1 r
    cases h
    exact .inl ⟨_, rfl, hp _ S (Ext.refl S) hS (.int _)⟩
  · obtain ⟨v, rfl, h⟩ := rws1 r
    cases h
    exact .inr ⟨_, rfl, hp _ S (Ext.refl S) hS (.int _)⟩
  · exact hp.elim
/-- len(x) -/
def kLen (ws : List Wv) (μ : Sto) : Rs Wv := match ws with
  | [.d (.list xs)] => .ok (.d (.int xs.length)) μ
  | [.d (.tuple xs)] => .ok (.d (.int xs.length)) μ
  | [.d (.str z)] => if z.length ≤ LIM then .ok (.d (.int z.length)) μ else .no
  | [.l n] => (match μ[n]? with
    | some (.lst ws) => .ok (.d (.int ws.length)) μ
    | _ => .no)
  | [.s ns] => .ok (.d (.int ns.length)) μ
  | _ => .no
theorem kLen_nx : NoExC kLen := fun ws μ e ν q => by
  unfold kLen at q
  split at q <;> first | cases q | (split at q <;> cases q)
theorem ok_len : OkC X (fun xs H Q => ∃ x n, xs = [x] ∧ LenV X.K x H n ∧ Q (.int n) H) kLen := fun ws vs S μ hS r Q hp => by
  unfold kLen at hp
  split at hp
  · obtain ⟨v, rfl, h⟩ := rws1 r
    obtain ⟨a, xs, rfl, ha, ra⟩ := rp_lst_inv h
    exact ⟨_, _, rfl, .inl ⟨xs, .inl (.inl (hS.sub _ _ ha)), rfl⟩, by rw [ra.len]; exact hp _ S (Ext.refl S) hS (.int _)⟩
  · obtain ⟨v, rfl, h⟩ := rws1 r
    obtain ⟨a, xs, rfl, ha, ra⟩ := rp_tup_inv h
    exact ⟨_, _, rfl, .inr ⟨xs, .inl (.inl (hS.sub _ _ ha)), rfl⟩, by rw [ra.len]; exact hp _ S (Ext.refl S) hS (.int _)⟩
  · split at hp
    · obtain ⟨v, rfl, h⟩ := rws1 r
      cases h
      exact ⟨_, _, rfl, ⟨lim_line (by assumption), rfl⟩, hp _ S (Ext.refl S) hS (.int _)⟩
    · exact hp.elim
  · rename_i n
    obtain ⟨v, rfl, a, hL, rfl⟩ := rws1 r
    split at hp
    · rename_i ws hm
      obtain ⟨xs, h1, h2⟩ := hS.ob n a _ hL hm
      exact ⟨_, _, rfl, .inl ⟨xs, .inl (.inl h1), rfl⟩, by rw [rws_len h2]; exact hp _ S (Ext.refl S) hS (.int _)⟩
    · exact hp.elim
  · obtain ⟨v, rfl, a, hL, rfl⟩ := rws1 r
    exact ⟨_, _, rfl, .inl ⟨_, sb_l hS.sub hL, rfl⟩, by rw [List.length_map]; exact hp _ S (Ext.refl S) hS (.int _)⟩
  · exact hp.elim
/-- sum, max, min, all, any of a list -/
def kInts (h : List Int → Option Int) (ws : List Wv) (μ : Sto) : Rs Wv := match ws with
  | [.d (.list xs)] => (match toInts xs with
    | some ns => (match h ns with | some z => .ok (.d (.int z)) μ | none => .no)
    | none => .no)
  | _ => .no
theorem kInts_nx (h : List Int → Option Int) : NoExC (kInts h) := fun ws μ e ν q => by
  unfold kInts at q
  split at q
  · split at q
    · split at q <;> cases q
    · cases q
  · cases q
theorem kInts_post {h : List Int → Option Int} {ws : List Wv} {μ : Sto} {P : Wv → Sto → Prop} {E : Exn → Sto → Prop} (p : (kInts h ws μ).Post P E) : ∃ ns z, ws = [.d (.list (ns.map PyData.int))] ∧ h ns = some z ∧ P (.d (.int z)) μ := by
  unfold kInts at p
  split at p
  · split at p
    · rename_i hx
      split at p
      · exact ⟨_, _, by rw [toInts_eq hx], by assumption, p⟩
      · exact p.elim
    · exact p.elim
  · exact p.elim
def kSum := kInts fun ns => some ns.sum
theorem ok_sum : OkC X (rSum X.K) kSum := fun ws vs S μ hS r Q hp => by
  obtain ⟨ns, z, rfl, e, p⟩ := kInts_post hp
  obtain ⟨v, rfl, h⟩ := rws1 r
  obtain ⟨a, xs, rfl, ha, ra⟩ := rp_lst_inv h
  obtain rfl := rpA_ints ra
  cases e
  exact ⟨a, ns, rfl, .inl (.inl (hS.sub _ _ ha)), p _ S (Ext.refl S) hS (.int _)⟩
def maxL (ns : List Int) : Option Int := match ns with
  | [] => none
  | x :: r => some (r.foldl max x)
def minL (ns : List Int) : Option Int := match ns with
  | [] => none
  | x :: r => some (r.foldl min x)
theorem foldl_max : ∀ (r : List Int) (x : Int), (r.foldl max x = x ∨ r.foldl max x ∈ r) ∧ x ≤ r.foldl max x ∧ ∀ y ∈ r, y ≤ r.foldl max x
  | [], x => ⟨.inl rfl, Int.le_refl x, fun y h => by cases h⟩
  | a :: r, x => by
    obtain ⟨h1, h2, h3⟩ := foldl_max r (max x a)
    rw [List.foldl_cons]
    refine ⟨?_, by omega, fun y hy => ?_⟩
    · rcases h1 with h1 | h1
      · rcases Int.le_total x a with hxa | hxa
        · rw [Int.max_eq_right hxa] at h1 ⊢
          exact .inr (by rw [h1]; exact List.mem_cons_self)
        · rw [Int.max_eq_left hxa] at h1 ⊢
          exact .inl h1
      · exact .inr (List.mem_cons_of_mem _ h1)
    · rcases List.mem_cons.mp hy with rfl | hy
      · omega
      · exact h3 y hy
theorem foldl_min : ∀ (r : List Int) (x : Int), (r.foldl min x = x ∨ r.foldl min x ∈ r) ∧ r.foldl min x ≤ x ∧ ∀ y ∈ r, r.foldl min x ≤ y
  | [], x => ⟨.inl rfl, Int.le_refl x, fun y h => by cases h⟩
  | a :: r, x => by
    obtain ⟨h1, h2, h3⟩ := foldl_min r (min x a)
    rw [List.foldl_cons]
    refine ⟨?_, by omega, fun y hy => ?_⟩
    · rcases h1 with h1 | h1
      · rcases Int.le_total x a with hxa | hxa
        · rw [Int.min_eq_left hxa] at h1 ⊢
          exact .inl h1
        · rw [Int.min_eq_right hxa] at h1 ⊢
          exact .inr (by rw [h1]; exact List.mem_cons_self)
      · exact .inr (List.mem_cons_of_mem _ h1)
    · rcases List.mem_cons.mp hy with rfl | hy
      · omega
      · exact h3 y hy
theorem maxL_is {ns : List Int} {m z : Int} (hm : m ∈ ns) (hle : ∀ y, y ∈ ns → y ≤ m) (h : maxL ns = some z) : m = z := by
  cases ns with
  | nil => cases h
  | cons x r =>
    obtain rfl : r.foldl max x = z := Option.some.inj h
    obtain ⟨h1, h2, h3⟩ := foldl_max r x
    have a1 : r.foldl max x ≤ m := by
      rcases h1 with h1 | h1
      · rw [h1]; exact hle x List.mem_cons_self
      · exact hle _ (List.mem_cons_of_mem _ h1)
    have a2 : m ≤ r.foldl max x := by
      rcases List.mem_cons.mp hm with rfl | hm
      · exact h2
      · exact h3 m hm
    omega
theorem minL_is {ns : List Int} {m z : Int} (hm : m ∈ ns) (hle : ∀ y, y ∈ ns → m ≤ y) (h : minL ns = some z) : m = z := by
  cases ns with
  | nil => cases h
  | cons x r =>
    obtain rfl : r.foldl min x = z := Option.some.inj h
    obtain ⟨h1, h2, h3⟩ := foldl_min r x
    have a1 : m ≤ r.foldl min x := by
      rcases h1 with h1 | h1
      · rw [h1]; exact hle x List.mem_cons_self
      · exact hle _ (List.mem_cons_of_mem _ h1)
    have a2 : r.foldl min x ≤ m := by
      rcases List.mem_cons.mp hm with rfl | hm
      · exact h2
      · exact h3 m hm
    omega
def kMax := kInts maxL
def kMin := kInts minL
theorem ok_max : OkC X (rMax X.K) kMax := fun ws vs S μ hS r Q hp => by
  obtain ⟨ns, z, rfl, e, p⟩ := kInts_post hp
  obtain ⟨v, rfl, h⟩ := rws1 r
  obtain ⟨a, xs, rfl, ha, ra⟩ := rp_lst_inv h
  obtain rfl := rpA_ints ra
  refine ⟨a, ns, rfl, .inl (.inl (hS.sub _ _ ha)), ?_, fun m hm hle => ?_⟩
  · cases ns with
    | nil => cases e
    | cons x r => exact Nat.succ_pos _
  · rw [maxL_is hm hle e]
    exact p _ S (Ext.refl S) hS (.int _)
theorem ok_min : OkC X (rMin X.K) kMin := fun ws vs S μ hS r Q hp => by
  obtain ⟨ns, z, rfl, e, p⟩ := kInts_post hp
  obtain ⟨v, rfl, h⟩ := rws1 r
  obtain ⟨a, xs, rfl, ha, ra⟩ := rp_lst_inv h
  obtain rfl := rpA_ints ra
  refine ⟨a, ns, rfl, .inl (.inl (hS.sub _ _ ha)), ?_, fun m hm hle => ?_⟩
  · cases ns with
    | nil => cases e
    | cons x r => exact Nat.succ_pos _
  · rw [minL_is hm hle e]
    exact p _ S (Ext.refl S) hS (.int _)
def kBools (h : List Bool → Bool) (ws : List Wv) (μ : Sto) : Rs Wv := match ws with
  | [.d (.list xs)] => (match toBools xs with
    | some ns => .ok (.d (.bool (h ns))) μ
    | none => .no)
  | _ => .no
theorem kBools_nx (h : List Bool → Bool) : NoExC (kBools h) := fun ws μ e ν q => by
  unfold kBools at q
  split at q
  · split at q <;> cases q
  · cases q
theorem kBools_post {h : List Bool → Bool} {ws : List Wv} {μ : Sto} {P : Wv → Sto → Prop} {E : Exn → Sto → Prop} (p : (kBools h ws μ).Post P E) : ∃ ns, ws = [.d (.list (ns.map PyData.bool))] ∧ P (.d (.bool (h ns))) μ := by
  unfold kBools at p
  split at p
  · split at p
    · rename_i hx
      exact ⟨_, by rw [toBools_eq hx], p⟩
    · exact p.elim
  · exact p.elim
def kAll := kBools fun bs => bs.all id
def kAny := kBools fun bs => bs.any id
theorem ok_all : OkC X (rAll X.K) kAll := fun ws vs S μ hS r Q hp => by
  obtain ⟨ns, rfl, p⟩ := kBools_post hp
  obtain ⟨v, rfl, h⟩ := rws1 r
  obtain ⟨a, xs, rfl, ha, ra⟩ := rp_lst_inv h
  obtain rfl := rpA_bools ra
  exact ⟨a, ns, rfl, .inl (.inl (hS.sub _ _ ha)), p _ S (Ext.refl S) hS (.bl _)⟩
theorem ok_any : OkC X (rAny X.K) kAny := fun ws vs S μ hS r Q hp => by
  obtain ⟨ns, rfl, p⟩ := kBools_post hp
  obtain ⟨v, rfl, h⟩ := rws1 r
  obtain ⟨a, xs, rfl, ha, ra⟩ := rp_lst_inv h
  obtain rfl := rpA_bools ra
  exact ⟨a, ns, rfl, .inl (.inl (hS.sub _ _ ha)), p _ S (Ext.refl S) hS (.bl _)⟩
/-- tuple(x), list(x) -/
def kTuple (ws : List Wv) (μ : Sto) : Rs Wv := match ws with
  | [.d (.list xs)] => .ok (.d (.tuple xs)) μ
  | [.d (.tuple xs)] => .ok (.d (.tuple xs)) μ
  | _ => .no
def kList (ws : List Wv) (μ : Sto) : Rs Wv := match ws with
  | [.d (.list xs)] => .ok (.d (.list xs)) μ
  | [.d (.tuple xs)] => .ok (.d (.list xs)) μ
  | _ => .no
theorem kTuple_nx : NoExC kTuple := fun ws μ e ν q => by
  unfold kTuple at q
  split at q <;> cases q
theorem kList_nx : NoExC kList := fun ws μ e ν q => by
  unfold kList at q
  split at q <;> cases q
theorem ok_tuple : OkC X (fun xs H Q => ∃ p ys, xs = [.ref p] ∧ ((SqL X.K H p ys ∧ ∀ l, H l = none → Q (.ref l) (upd H l (.tup ys))) ∨ (SqT X.K H p ys ∧ Q (.ref p) H))) kTuple := fun ws vs S μ hS r Q hp => by
  unfold kTuple at hp
  split at hp
  · obtain ⟨v, rfl, h⟩ := rws1 r
    obtain ⟨a, xs, rfl, ha, ra⟩ := rp_lst_inv h
    exact ⟨a, xs, rfl, .inl ⟨.inl (.inl (hS.sub _ _ ha)), new_tup hS ra hp⟩⟩
  · obtain ⟨v, rfl, h⟩ := rws1 r
    obtain ⟨a, xs, rfl, ha, ra⟩ := rp_tup_inv h
    exact ⟨a, xs, rfl, .inr ⟨.inl (.inl (hS.sub _ _ ha)), hp _ S (Ext.refl S) hS (.tup ha ra)⟩⟩
  · exact hp.elim
theorem ok_list : OkC X (fun xs H Q => ∃ p ys, xs = [.ref p] ∧ (SqL X.K H p ys ∨ SqT X.K H p ys) ∧ ∀ l, H l = none → Q (.ref l) (upd H l (.lst ys))) kList := fun ws vs S μ hS r Q hp => by
  unfold kList at hp
  split at hp
  · obtain ⟨v, rfl, h⟩ := rws1 r
    obtain ⟨a, xs, rfl, ha, ra⟩ := rp_lst_inv h
    exact ⟨a, xs, rfl, .inl (.inl (.inl (hS.sub _ _ ha))), new_lst hS ra hp⟩
  · obtain ⟨v, rfl, h⟩ := rws1 r
    obtain ⟨a, xs, rfl, ha, ra⟩ := rp_tup_inv h
    exact ⟨a, xs, rfl, .inr (.inl (.inl (hS.sub _ _ ha))), new_lst hS ra hp⟩
  · exact hp.elim
/-- isinstance(x, T), T a built-in class -/
def tyD : D → String
  | .none => "NoneType"
  | .bool _ => "bool"
  | .int _ => "int"
  | .str _ => "str"
  | .list _ => "list"
  | .tuple _ => "tuple"
  | .dict _ => "dict"
def isTy (T : String) (d : D) : Bool := tyD d == T || (T == "int" && tyD d == "bool")
def fIsi (T : String) (f : FE) : FE := fun env μ => (f env μ).bind fun w μ1 => match w with
  | .d x => .ok (.d (.bool (isTy T x))) μ1
  | _ => .no
theorem tyX_of {K : PySem.W.Frag} {F H : Hp} (hs : Sb F H) {v : V} {d : D} (h : Rp K F v d) : TyX K H v (.type (tyD d)) := by
  cases h with
  | non => exact .base .non
  | bl b => exact .base (.bl b)
  | int i => exact .base (.int i)
  | str x => exact .base (.str x)
  | lst h1 h2 => exact .base (.lst (hs _ _ h1))
  | tup h1 h2 =>
    exact .base (.tup (hs _ _ h1))
theorem c_isi {x T : Str} {Tn : String} {a : Expr} {f : FE} {p q pos : Pos} (hT : bootBuiltins T = some (.type Tn)) (hk : ∀ d : D, kitB (tyD d) Tn = some (isTy Tn d)) (hg : Gl X x) (hm : X.mg x = none) (hv : bootBuiltins x = some (.builtin "isinstance")) (hgT : Gl X T) (hmT : X.mg T = none)
    (ha : CEx X W a f) (hn : x ≠ "__name__" := by decide) (hdb : (x == ("__debug__" : Str)) = false := by decide) (hnT : T ≠ "__name__" := by decide) (hdT : (T == ("__debug__" : Str)) = false := by decide)
    (hs2 : starEach [a, .Name T q] X.env = (false, eval a X.env) :: starEach [.Name T q] X.env := by rfl) (hpl : (backTo pos (starEach [.Name T q] X.env)).any (·.1) = false := by rfl) (hs1 : starEach [.Name T q] X.env = (false, eval (.Name T q) X.env) :: starEach [] X.env := by rfl) : CEx X W (.Call (.Name x p) [a, .Name T q] [] pos) (fIsi Tn f) := by
  obtain ⟨ta, pa, qa⟩ := ha
  refine ⟨_, pe_callB call_isi hg hm hv (pa_cons pa (pa_cons (pe_bltn (v := .ty Tn) hgT hmT hT rfl hnT hdT) pa_nil hs1) hs2) hn hdb hs2 hpl, fun env σ S μ he hS Q hp => ?_⟩
  unfold fIsi at hp
  rw [Rs.post_bind] at hp
  refine qa env σ S μ he hS _ (hp.mono (fun w μ1 h1 v S1 e1 hS1 r1 => ?_) fun _ _ z => z)
  cases w with
  | l n => exact h1.elim
  | s n => exact h1.elim
  | d d => exact ⟨v, .ty Tn, _, _, isTy Tn d, rfl, .ty Tn, tyX_of hS1.sub r1, kit_ty (hk d), h1 _ S1 e1 hS1 (.bl _)⟩
end
end Ped

/-! Ped4: targets, statements, loops, comprehensions, defs -/
namespace Ped
open PySem L2

/-! ### statements -/
/-- how a statement ends: the names behind it, or what is returned -/
inductive Fl where
  | nx (env : Env)
  | rt (w : Wv)
  | bk (env : Env)
  | ct (env : Env)
abbrev FS := Env → Sto → Rs Fl
abbrev FG := Wv → Env → Sto → Rs Env
def EndOk (K : PySem.W.Frag) (n : Nat) (D : Ends) (S : Sta) (fl : Fl) (μ : Sto) : Prop := match fl with
  | .nx env => ∀ σ S', Ext S S' → HS K S' μ → EnvR K n S' env σ → D.nx σ S'.H
  | .rt w => ∀ v S', Ext S S' → HS K S' μ → RW K S' v w → D.rt v S'.H
  | .bk env => ∀ σ S', Ext S S' → HS K S' μ → EnvR K n S' env σ → D.bk σ S'.H
  | .ct env => ∀ σ S', Ext S S' → HS K S' μ → EnvR K n S' env σ → D.ct σ S'.H
theorem EndOk.mono {K : PySem.W.Frag} {n : Nat} {D : Ends} {S S' : Sta} (e : Ext S S') {fl : Fl} {μ : Sto} (h : EndOk K n D S fl μ) : EndOk K n D S' fl μ := by
  cases fl with
  | nx env => exact fun σ T e' => h σ T (e.trans e')
  | rt w => exact fun σ T e' => h σ T (e.trans e')
  | bk env => exact fun σ T e' => h σ T (e.trans e')
  | ct env => exact fun σ T e' => h σ T (e.trans e')
/-- an exception that leaves a statement: whatever the names hold -/
abbrev PExS (K : PySem.W.Frag) (W : WX) (n : Nat) (S : Sta) : Exn → Sto → Prop := fun x μ => ∀ d (σ : L2.St) S', σ.length = n → Ext S S' → HS K S' μ → ExR K S' x d → W x.cls d σ S'.H
theorem PExS.mono {K : PySem.W.Frag} {W : WX} {n : Nat} {S S' : Sta} (e : Ext S S') {x : Exn} {μ : Sto} (h : PExS K W n S x μ) : PExS K W n S' x μ := fun d σ T l e' hs r => h d σ T l (e.trans e') hs r
theorem PExS.at {K : PySem.W.Frag} {W : WX} {S : Sta} {σ : L2.St} {n : Nat} (hl : σ.length = n) {x : Exn} {μ : Sto} (h : PExS K W n S x μ) : PEx K W σ S x μ := fun d T e' hs r => h d σ T hl e' hs r
def CS (X : Cx) (W : WX) (st : Stmt) (f : FS) : Prop := ∃ t : TS, PS X st t ∧ ∀ env σ S μ, EnvR X.K X.N.length S env σ → HS X.K S μ → ∀ D : Ends, (f env μ).Post (EndOk X.K X.N.length D S) (PExS X.K W X.N.length S) → t D σ S.H
def CB (X : Cx) (W : WX) (st : List Stmt) (f : FS) : Prop := ∃ t : TS, PSs X st t ∧ ∀ env σ S μ, EnvR X.K X.N.length S env σ → HS X.K S μ → ∀ D : Ends, (f env μ).Post (EndOk X.K X.N.length D S) (PExS X.K W X.N.length S) → t D σ S.H
/-- a target; is: the slots that it may change -/
def CG (X : Cx) (tg : Expr) (is : List Nat) (g : FG) : Prop := ∃ t : TG, PG X tg t ∧ ∀ w v env σ S μ, RW X.K S v w → EnvR X.K X.N.length S env σ → HS X.K S μ → ∀ Q : L2.St → Hp → Prop, (g w env μ).Post (fun env' μ' => ∀ σ' S', Ext S S' → HS X.K S' μ' → EnvR X.K X.N.length S' env' σ' → (∀ j, j ∉ is → σ'[j]? = σ[j]?) → Q σ' S'.H) (fun _ _ => False) → t v σ S.H Q
def CGs (X : Cx) (tg : List Expr) (is : List Nat) (g : List D → Env → Sto → Rs Env) : Prop := ∃ t : TGs, PGs X tg t ∧ ∀ ds vs env σ S μ, RpA X.K S.F vs ds → EnvR X.K X.N.length S env σ → HS X.K S μ → ∀ Q : L2.St → Hp → Prop, (g ds env μ).Post (fun env' μ' => ∀ σ' S', Ext S S' → HS X.K S' μ' → EnvR X.K X.N.length S' env' σ' → (∀ j, j ∉ is → σ'[j]? = σ[j]?) → Q σ' S'.H) (fun _ _ => False) → t vs σ S.H Q

theorem EnvR.set {K : PySem.W.Frag} {n : Nat} {S : Sta} {env : Env} {σ : L2.St} (h : EnvR K n S env σ) {i : Nat} {w : Wv} {v : V} (r : RW K S v w) : EnvR K n S (env.set i (some w)) (σ.set i (some v)) := by
  refine ⟨by rw [List.length_set]; exact h.len, by rw [List.length_set]; exact h.lenS, fun j z hj => ?_⟩
  by_cases e : i = j
  · subst e
    by_cases hi : i < env.length
    · rw [List.getElem?_set_self hi] at hj
      cases hj
      exact ⟨v, List.getElem?_set_self (by rw [h.lenS, ← h.len]; exact hi), r⟩
    · rw [List.getElem?_eq_none (by rw [List.length_set]; omega)] at hj
      cases hj
  · rw [List.getElem?_set_ne e] at hj
    obtain ⟨u, h1, h2⟩ := h.val j z hj
    exact ⟨u, by rw [List.getElem?_set_ne e]; exact h1, h2⟩
/-- names are forgotten -/
theorem EnvR.less {K : PySem.W.Frag} {n : Nat} {S : Sta} {env env' : Env} {σ : L2.St} (h : EnvR K n S env σ) (hl : env'.length = env.length) (hs : ∀ (i : Nat) (w : Wv), env'[i]? = some (some w) → env[i]? = some (some w)) : EnvR K n S env' σ :=
  ⟨hl.trans h.len, h.lenS, fun i w e => h.val i w (hs i w e)⟩

section
variable {X : Cx} {W : WX}

/-! ### targets -/
def gVar (i : Nat) : FG := fun w env μ => .ok (env.set i (some w)) μ
theorem cg_name {i : Nat} {x : Str} {pos : Pos} (hN : X.N.Nodup) (hi : X.N[i]? = some x) (hx : Loc X.env.scope x) (hf : X.fn x = true ∨ X.env.scope.names.lookup x = some .local := by first | exact .inl rfl | exact .inr rfl | assumption) : CG X (.Name x pos) [i] (gVar i) :=
  ⟨_, pg_name hN hi hx hf, fun w v env σ S μ r he hS Q h => h (σ.set i (some v)) S (Ext.refl S) hS (he.set r) fun j hj => List.getElem?_set_ne fun e => hj (by simp [e])⟩
def gsNil : List D → Env → Sto → Rs Env := fun ds env μ => match ds with
  | [] => .ok env μ
  | _ => .no
def gsCons (g : FG) (k : List D → Env → Sto → Rs Env) : List D → Env → Sto → Rs Env := fun ds env μ => match ds with
  | [] => .no
  | d :: r => (g (.d d) env μ).bind fun env1 μ1 => k r env1 μ1
theorem cgs_nil : CGs X [] [] gsNil := by
  refine ⟨_, pgs_nil, fun ds vs env σ S μ r he hS Q h => ?_⟩
  cases r with
  | nil => exact ⟨rfl, h σ S (Ext.refl S) hS he fun _ _ => rfl⟩
  | cons _ _ => exact h.elim
theorem cgs_cons {e : Expr} {es : List Expr} {is js : List Nat} {g : FG} {k : List D → Env → Sto → Rs Env} (h1 : CG X e is g) (h2 : CGs X es js k) (hs : (assignEach (e :: es) X.env).map (·.2) = assign e X.env :: (assignEach es X.env).map (·.2) := by rfl) : CGs X (e :: es) (is ++ js) (gsCons g k) := by
  obtain ⟨t, p, q⟩ := h1
  obtain ⟨u, p', q'⟩ := h2
  refine ⟨_, pgs_cons p p' hs, fun ds vs env σ S μ r he hS Q h => ?_⟩
  cases r with
  | nil => exact h.elim
  | cons r t =>
    rename_i v vs d ds
    have h : ((g (.d d) env μ).bind fun env1 μ1 => k ds env1 μ1).Post _ _ := h
    rw [Rs.post_bind] at h
    refine ⟨v, vs, rfl, q (.d d) v env σ S μ r he hS _ (h.mono (fun env1 μ1 h1 σ1 S1 e1 hS1 he1 k1 => ?_) fun _ _ z => z)⟩
    exact q' ds vs env1 σ1 S1 μ1 (RpA.mono e1.sb _ _ t) he1 hS1 Q (h1.mono (fun env2 μ2 h2 σ2 S2 e2 hS2 he2 k2 => h2 σ2 S2 (e1.trans e2) hS2 he2 fun j hj => by
      rw [List.mem_append, not_or] at hj
      rw [k2 j hj.2, k1 j hj.1]) fun _ _ z => z)
def gTupF (n : Nat) (k : List D → Env → Sto → Rs Env) : FG := fun w env μ => match w with
  | .d (.tuple ds) => if ds.length = n then k ds env μ else .no
  | _ => .no
theorem cg_tup {es : List Expr} {kk : Nat} {pos : Pos} {n : Nat} {is : List Nat} {k : List D → Env → Sto → Rs Env} (hc : X.calm = true) (h : CGs X es is k) (hn : (assignEach es X.env).length = n := by rfl) (hst : (assignEach es X.env).findIdx? (·.1) = none := by rfl) : CG X (.Tuple es kk pos) is (gTupF n k) := by
  obtain ⟨t, p, q⟩ := h
  refine ⟨_, pg_tup hc p hn hst, fun w v env σ S μ r he hS Q h => ?_⟩
  unfold gTupF at h
  split at h
  · rename_i ds
    split at h
    · rename_i hl
      obtain ⟨a, xs, rfl, ha, ra⟩ := rp_tup_inv r
      exact ⟨a, xs, rfl, .inl (.inl (hS.sub _ _ ha)), by rw [ra.len]; exact hl, q ds xs env σ S μ ra he hS Q h⟩
    · exact h.elim
  · exact h.elim

/-! ### blocks -/
def sNil : FS := fun env μ => .ok (.nx env) μ
def sCons (f g : FS) : FS := fun env μ => (f env μ).bind fun fl μ1 => match fl with
  | .nx env1 => g env1 μ1
  | fl => .ok fl μ1
theorem cb_nil : CB X W [] sNil := ⟨_, pss_nil, fun env σ S μ he hS D h => h σ S (Ext.refl S) hS he⟩
theorem cb_cons {st : Stmt} {rest : List Stmt} {f g : FS} (h1 : CS X W st f) (h2 : CB X W rest g) : CB X W (st :: rest) (sCons f g) := by
  obtain ⟨t, p, q⟩ := h1
  obtain ⟨u, p', q'⟩ := h2
  refine ⟨_, pss_cons p p', fun env σ S μ he hS D h => ?_⟩
  unfold sCons at h
  rw [Rs.post_bind] at h
  refine q env σ S μ he hS { D with nx := u D } (h.mono (fun fl μ1 h1 => ?_) fun _ _ z => z)
  cases fl with
  | nx env1 =>
    intro σ1 S1 e1 hS1 he1
    exact q' env1 σ1 S1 μ1 he1 hS1 D (h1.mono (fun fl μ2 h2 => EndOk.mono e1 h2) fun _ _ z => z.mono e1)
  | rt w => exact h1
  | bk env1 => exact h1
  | ct env1 => exact h1
theorem cb_one {st : Stmt} {f : FS} (h1 : CS X W st f) : CB X W [st] f := by
  obtain ⟨t, p, q⟩ := h1
  exact ⟨_, pss_one p, q⟩
theorem cs_pass {pos : Pos} : CS X W (.Pass pos) sNil := ⟨_, ps_pass, fun env σ S μ he hS D h => h σ S (Ext.refl S) hS he⟩
/-- a statement that is not reached -/
theorem cs_never {st : Stmt} : CS X W st (fun _ _ => .no) := ⟨_, ps_never, fun _ _ _ _ _ _ _ h => h.elim⟩
theorem cb_never {st : List Stmt} : CB X W st (fun _ _ => .no) := ⟨_, pss_never, fun _ _ _ _ _ _ _ h => h.elim⟩
def sAsg (f : FE) (g : FG) : FS := fun env μ => (f env μ).bind fun w μ1 => (noex (g w env μ1)).bind fun env1 μ2 => .ok (.nx env1) μ2
theorem asg_core {te : TE} {tg : TG} {f : FE} {is : List Nat} {g : FG}
    (qe : ∀ env σ S μ, EnvR X.K X.N.length S env σ → HS X.K S μ → ∀ Q : VK, (f env μ).Post (POk X.K S Q) (PEx X.K W σ S) → te σ S.H Q)
    (qg : ∀ w v env σ S μ, RW X.K S v w → EnvR X.K X.N.length S env σ → HS X.K S μ → ∀ Q : L2.St → Hp → Prop, (g w env μ).Post (fun env' μ' => ∀ σ' S', Ext S S' → HS X.K S' μ' → EnvR X.K X.N.length S' env' σ' → (∀ j, j ∉ is → σ'[j]? = σ[j]?) → Q σ' S'.H) (fun _ _ => False) → tg v σ S.H Q) :
    ∀ env σ S μ, EnvR X.K X.N.length S env σ → HS X.K S μ → ∀ D : Ends, (sAsg f g env μ).Post (EndOk X.K X.N.length D S) (PExS X.K W X.N.length S) → tAsg te tg D σ S.H := fun env σ S μ he hS D h => by
  unfold sAsg at h
  rw [Rs.post_bind] at h
  refine qe env σ S μ he hS _ (h.mono (fun w μ1 h1 v S1 e1 hS1 r1 => ?_) fun _ _ z => z.at he.lenS)
  rw [Rs.post_bind] at h1
  exact qg w v env σ S1 μ1 r1 (he.mono e1) hS1 _ (noex_post (h1.mono (fun env1 μ2 h2 σ' S' e' hS' he' _ => h2 σ' S' (e1.trans e') hS' he') fun _ _ z => z))
theorem cs_asg {tg e : Expr} {pos : Pos} {f : FE} {is : List Nat} {g : FG} (he : CEx X W e f) (hg : CG X tg is g) (hs : swapsWithSole [tg] e pos.line X.env = pure false := by rfl) (hw : swappedStores [tg] e X.env = pure none := by rfl)
    (h1 : (assignEach [tg] X.env).map (·.2) = [assign tg X.env] := by rfl) : CS X W (.Assign [tg] e pos) (sAsg f g) := by
  obtain ⟨t, p, q⟩ := he
  obtain ⟨u, p', q'⟩ := hg
  exact ⟨_, ps_asg p p' hs hw h1, asg_core q q'⟩
theorem cs_set (i : Nat) {x : Str} {e : Expr} {pos pos' : Pos} {f : FE} (hN : X.N.Nodup) (hi : X.N[i]? = some x) (hx : Loc X.env.scope x) (he : CEx X W e f) (hs : swapsWith e (some (.Name x pos')) pos.line X.env = pure false := by rfl) (hf : X.fn x = true ∨ X.env.scope.names.lookup x = some .local := by first | exact .inl rfl | exact .inr rfl | assumption) :
    CS X W (.Assign [.Name x pos'] e pos) (sAsg f (gVar i)) := by
  obtain ⟨t, p, q⟩ := he
  obtain ⟨u, p', q'⟩ := cg_name (pos := pos') hN hi hx hf
  refine ⟨_, ps_set hN hi hx p hs hf, asg_core (is := [i]) q ?_⟩
  exact fun w v env σ S μ r he hS Q h => h (σ.set i (some v)) S (Ext.refl S) hS (he.set r) fun j hj => List.getElem?_set_ne fun e => hj (by simp [e])
def sPar (i j : Nat) (g : FA) : FS := fun env μ => (g env μ).bind fun ws μ1 => match ws with
  | [w, z] => .ok (.nx ((env.set i (some w)).set j (some z))) μ1
  | _ => .no
theorem cs_par (i j : Nat) {x y : Str} {a b : Expr} {g : FA} {px py pt pos : Pos} {kt k2 pt2} (hc : X.calm = true) (hN : X.N.Nodup) (hi : X.N[i]? = some x) (hj : X.N[j]? = some y) (hij : i ≠ j)
    (hx : X.env.scope.names.lookup x = some .local) (hy : X.env.scope.names.lookup y = some .local) (ha : CA X W [a, b] g)
    (hw : swappedStores [.Tuple [.Name x px, .Name y py] kt pt] (.Tuple [a, b] k2 pt2) X.env = pure (some [x, y]) := by rfl)
    (hs : swapsWithSole [.Tuple [.Name x px, .Name y py] kt pt] (.Tuple [a, b] k2 pt2) pos.line X.env = pure false := by rfl) :
    CS X W (.Assign [.Tuple [.Name x px, .Name y py] kt pt] (.Tuple [a, b] k2 pt2) pos) (sPar i j g) := by
  obtain ⟨t, p, q⟩ := ha
  refine ⟨_, ps_par hc hN hi hj hij hx hy p hw hs, fun env σ S μ he hS D h => ?_⟩
  unfold sPar at h
  rw [Rs.post_bind] at h
  refine q env σ S μ he hS _ (h.mono (fun ws μ1 h1 vs S1 e1 hS1 r1 => ?_) fun _ _ z => z.at he.lenS)
  split at h1
  · obtain ⟨v, u, rfl, r2, r3⟩ := rws2 r1
    exact ⟨v, u, rfl, h1 _ S1 e1 hS1 (((he.mono e1).set r2).set r3)⟩
  · exact h1.elim
theorem rws3 {K : PySem.W.Frag} {S : Sta} {vs : List V} {w z y : Wv} (h : RWs K S vs [w, z, y]) : ∃ v u t, vs = [v, u, t] ∧ RW K S v w ∧ RW K S u z ∧ RW K S t y := by
  cases h with
  | cons r t =>
    obtain ⟨u, v, rfl, q⟩ := rws2 t
    exact ⟨_, _, _, rfl, r, q⟩
def sPar3 (i j l : Nat) (g : FA) : FS := fun env μ => (g env μ).bind fun ws μ1 => match ws with
  | [w, z, y] => .ok (.nx (((env.set i (some w)).set j (some z)).set l (some y))) μ1
  | _ => .no
theorem cs_par3 (i j l : Nat) {x y z : Str} {a b c : Expr} {g : FA} {px py pz pt pos : Pos} {kt k2 pt2} (hc : X.calm = true) (hN : X.N.Nodup) (hi : X.N[i]? = some x) (hj : X.N[j]? = some y) (hl : X.N[l]? = some z) (hij : i ≠ j) (hil : i ≠ l) (hjl : j ≠ l)
    (hx : X.env.scope.names.lookup x = some .local) (hy : X.env.scope.names.lookup y = some .local) (hz : X.env.scope.names.lookup z = some .local) (ha : CA X W [a, b, c] g)
    (hw : swappedStores [.Tuple [.Name x px, .Name y py, .Name z pz] kt pt] (.Tuple [a, b, c] k2 pt2) X.env = pure (some [x, y, z]) := by rfl)
    (hs : swapsWithSole [.Tuple [.Name x px, .Name y py, .Name z pz] kt pt] (.Tuple [a, b, c] k2 pt2) pos.line X.env = pure false := by rfl) :
    CS X W (.Assign [.Tuple [.Name x px, .Name y py, .Name z pz] kt pt] (.Tuple [a, b, c] k2 pt2) pos) (sPar3 i j l g) := by
  obtain ⟨t, p, q⟩ := ha
  refine ⟨_, ps_par3 hc hN hi hj hl hij hil hjl hx hy hz p hw hs, fun env σ S μ he hS D h => ?_⟩
  unfold sPar3 at h
  rw [Rs.post_bind] at h
  refine q env σ S μ he hS _ (h.mono (fun ws μ1 h1 vs S1 e1 hS1 r1 => ?_) fun _ _ z => z.at he.lenS)
  split at h1
  · obtain ⟨v, u, t, rfl, r2, r3, r4⟩ := rws3 r1
    exact ⟨v, u, t, rfl, h1 _ S1 e1 hS1 ((((he.mono e1).set r2).set r3).set r4)⟩
  · exact h1.elim
def sAsg2 (f : FE) (i j : Nat) : FS := fun env μ => (f env μ).bind fun w μ1 => .ok (.nx ((env.set i (some w)).set j (some w))) μ1
theorem cs_asg2 (i j : Nat) {x y : Str} {e : Expr} {f : FE} {px py pos : Pos} (hN : X.N.Nodup) (hi : X.N[i]? = some x) (hx : Loc X.env.scope x) (hj : X.N[j]? = some y) (hy : Loc X.env.scope y) (he : CEx X W e f)
    (hf : X.fn x = true ∨ X.env.scope.names.lookup x = some .local := by first | exact .inl rfl | exact .inr rfl | assumption) (hf' : X.fn y = true ∨ X.env.scope.names.lookup y = some .local := by first | exact .inl rfl | exact .inr rfl | assumption)
    (ha : (assignEach [.Name x px, .Name y py] X.env).map (·.2) = [assign (.Name x px) X.env, assign (.Name y py) X.env] := by rfl) (hw : swappedStores [.Name x px, .Name y py] e X.env = pure none := by rfl) : CS X W (.Assign [.Name x px, .Name y py] e pos) (sAsg2 f i j) := by
  obtain ⟨t, p, q⟩ := he
  refine ⟨_, ps_asg2 p (pg_name hN hi hx hf) (pg_name hN hj hy hf') ha hw, fun env σ S μ he hS D h => ?_⟩
  unfold sAsg2 at h
  rw [Rs.post_bind] at h
  refine q env σ S μ he hS _ (h.mono (fun w μ1 h1 v S1 e1 hS1 r1 => ?_) fun _ _ z => z.at he.lenS)
  exact h1 _ S1 e1 hS1 (((he.mono e1).set r1).set r1)
def sRet (f : FE) : FS := fun env μ => (f env μ).bind fun w μ1 => .ok (.rt w) μ1
theorem cs_ret {e : Expr} {f : FE} {pos : Pos} (h : CEx X W e f) : CS X W (.Return (some e) pos) (sRet f) := by
  obtain ⟨t, p, q⟩ := h
  refine ⟨_, ps_ret p, fun env σ S μ he hS D h => ?_⟩
  unfold sRet at h
  rw [Rs.post_bind] at h
  exact q env σ S μ he hS _ (h.mono (fun w μ1 h1 => h1) fun _ _ z => z.at he.lenS)
def sExpr (f : FE) : FS := fun env μ => (f env μ).bind fun _ μ1 => .ok (.nx env) μ1
theorem cs_expr {e : Expr} {f : FE} {pos : Pos} (h : CEx X W e f) (hs : swapsWith e none pos.line X.env = pure false := by rfl) : CS X W (.Expr e pos) (sExpr f) := by
  obtain ⟨t, p, q⟩ := h
  refine ⟨_, ps_expr p hs, fun env σ S μ he hS D h => ?_⟩
  unfold sExpr at h
  rw [Rs.post_bind] at h
  exact q env σ S μ he hS _ (h.mono (fun w μ1 h1 v S1 e1 hS1 r1 => h1 σ S1 e1 hS1 (he.mono e1)) fun _ _ z => z.at he.lenS)
def sIf (c : FB) (f g : FS) : FS := fun env μ => (c env μ).bind fun b μ1 => if b = true then f env μ1 else g env μ1
theorem cs_if {c : Expr} {a b : List Stmt} {k : FB} {f g : FS} {pos : Pos} (hc : CT X W c k) (ha : CB X W a f) (hb : CB X W b g) : CS X W (.If c a b pos) (sIf k f g) := by
  obtain ⟨tc, pc, qc⟩ := hc
  obtain ⟨ta, pa, qa⟩ := ha
  obtain ⟨tb, pb, qb⟩ := hb
  refine ⟨_, ps_if pc pa pb, fun env σ S μ he hS D h => ?_⟩
  unfold sIf at h
  rw [Rs.post_bind] at h
  refine qc env σ S μ he hS _ (h.mono (fun c μ1 h1 S1 e1 hS1 => ?_) fun _ _ z => z.at he.lenS)
  cases c with
  | true =>
    rw [if_pos rfl] at h1 ⊢
    exact qa env σ S1 μ1 (he.mono e1) hS1 D (h1.mono (fun c μ2 h2 => EndOk.mono e1 h2) fun _ _ z => z.mono e1)
  | false =>
    rw [if_neg Bool.false_ne_true] at h1 ⊢
    exact qb env σ S1 μ1 (he.mono e1) hS1 D (h1.mono (fun c μ2 h2 => EndOk.mono e1 h2) fun _ _ z => z.mono e1)

/-! ### loops -/
abbrev FIt := Env → Sto → Rs (List D)
/-- J walks the items, from the state S0 on -/
def Walks (K : PySem.W.Frag) (J : It) (items : List D) (S0 : Sta) : Prop := ∀ S, Ext S0 S → ∀ μ, HS K S μ →
  (∀ (i : Nat) item, items[i]? = some item → J.go i S.H ∧ ∀ x H', J.yld i S.H x H' → ∃ S', S'.H = H' ∧ Ext S S' ∧ HS K S' μ ∧ Rp K S'.F x item) ∧ J.stop items.length S.H
def CI (X : Cx) (W : WX) (tg iter : Expr) (f : FIt) : Prop := ∃ wi : TI, PI X tg iter wi ∧ ∀ env σ S μ, EnvR X.K X.N.length S env σ → HS X.K S μ → ∀ R : It → Hp → Prop,
  (f env μ).Post (fun items μ' => ∀ J S', Ext S S' → HS X.K S' μ' → Walks X.K J items S' → R J S'.H) (PEx X.K W σ S) → wi σ S.H R
def forF (g : FG) (b : FS) : List D → Env → Sto → Rs Fl
  | [], env, μ => .ok (.nx env) μ
  | d :: r, env, μ => (noex (g (.d d) env μ)).bind fun env1 μ1 => (b env1 μ1).bind fun fl μ2 => match fl with
    | .nx env2 => forF g b r env2 μ2
    | .ct env2 => forF g b r env2 μ2
    | .bk env2 => .ok (.nx env2) μ2
    | .rt w => .ok (.rt w) μ2
def sFor (it : FIt) (g : FG) (b : FS) : FS := fun env μ => (it env μ).bind fun items μ1 => forF g b items env μ1
theorem cs_for {tg iter : Expr} {body : List Stmt} {it : FIt} {is : List Nat} {g : FG} {b : FS} {pos : Pos} (hp : PassesOwn (model X.prog X.w) X.A X.env X.xe) (hc : X.calm = true) (hi : CI X W tg iter it) (hg : CG X tg is g) (hb : CB X W body b)
    (hs : ∀ x, foldedSetIterable iter X.env x = pure x := by intro _; rfl) : CS X W (.For tg iter body [] pos) (sFor it g b) := by
  obtain ⟨wi, pi, qi⟩ := hi
  obtain ⟨tg', pg, qg⟩ := hg
  obtain ⟨tb, pb, qb⟩ := hb
  refine ⟨_, ps_for hp hc pi pg pb hs, fun env σ S μ he hS D h => ?_⟩
  unfold sFor at h
  rw [Rs.post_bind] at h
  refine qi env σ S μ he hS _ (h.mono (fun items μ1 h1 J S1 e1 hS1 wk => ?_) fun _ _ z => z.at he.lenS)
  refine ⟨fun i m σ H => m = items.length - i ∧ i ≤ items.length ∧ ∃ env_ μ_ S_, S_.H = H ∧ Ext S1 S_ ∧ HS X.K S_ μ_ ∧ EnvR X.K X.N.length S_ env_ σ ∧ (forF g b (items.drop i) env_ μ_).Post (EndOk X.K X.N.length D S) (PExS X.K W X.N.length S),
    ⟨items.length, rfl, Nat.zero_le _, env, μ1, S1, rfl, Ext.refl _, hS1, he.mono e1, h1⟩, ?_⟩
  rintro i m σ2 H2 ⟨rfl, hi, env2, μ2, S2, rfl, e2, hS2, he2, h2⟩
  obtain ⟨w1, w2⟩ := wk S2 e2 μ2 hS2
  by_cases hlt : i < items.length
  · obtain ⟨go, yl⟩ := w1 i items[i] (List.getElem?_eq_getElem hlt)
    refine .inr ⟨go, fun σ' H' => ∃ env_ μ_ S_, S_.H = H' ∧ Ext S1 S_ ∧ HS X.K S_ μ_ ∧ EnvR X.K X.N.length S_ env_ σ' ∧ (forF g b (items.drop (i + 1)) env_ μ_).Post (EndOk X.K X.N.length D S) (PExS X.K W X.N.length S),
      fun σ' H' n => ⟨items.length - (i + 1), by omega, rfl, hlt, n⟩, fun x H' y => ?_⟩
    obtain ⟨S3, rfl, e3, hS3, r3⟩ := yl x H' y
    rw [List.drop_eq_getElem_cons hlt] at h2
    have h2 : ((noex (g (.d items[i]) env2 μ2)).bind fun env1 μ1 => (b env1 μ1).bind fun fl μ2 => match fl with
      | .nx env2 => forF g b (items.drop (i + 1)) env2 μ2
      | .ct env2 => forF g b (items.drop (i + 1)) env2 μ2
      | .bk env2 => .ok (.nx env2) μ2
      | .rt w => .ok (.rt w) μ2).Post _ _ := h2
    rw [Rs.post_bind] at h2
    refine qg (.d items[i]) x env2 σ2 S3 μ2 r3 (he2.mono e3) hS3 _ (noex_post (h2.mono (fun env3 μ3 h2 σ4 S4 e4 hS4 he4 _ => ?_) fun _ _ z => z))
    rw [Rs.post_bind] at h2
    refine qb env3 σ4 S4 μ3 he4 hS4 _ (h2.mono (fun fl μ5 h5 => ?_) fun _ _ z => z.mono (e1.trans (e2.trans (e3.trans e4))))
    cases fl with
    | nx env5 => exact fun σ5 S5 e5 hS5 he5 => ⟨env5, μ5, S5, rfl, e2.trans (e3.trans (e4.trans e5)), hS5, he5, h5⟩
    | ct env5 => exact fun σ5 S5 e5 hS5 he5 => ⟨env5, μ5, S5, rfl, e2.trans (e3.trans (e4.trans e5)), hS5, he5, h5⟩
    | bk env5 => exact fun σ5 S5 e5 hS5 he5 => h5 σ5 S5 (e1.trans (e2.trans (e3.trans (e4.trans e5)))) hS5 he5
    | rt w => exact fun v S5 e5 hS5 r5 => h5 v S5 (e1.trans (e2.trans (e3.trans (e4.trans e5)))) hS5 r5
  · have e : i = items.length := by omega
    subst e
    rw [List.drop_length] at h2
    exact .inl ⟨w2, h2 σ2 S2 (e1.trans e2) hS2 he2⟩
end
end Ped

/-! Ped5: while, what is walked, comprehensions, defs and their calls -/
namespace Ped
open PySem L2 PyProof.Rows PySem.Spec
section
variable {X : Cx} {W : WX}

def whileF (c : FB) (b : FS) : Nat → Env → Sto → Rs Fl
  | 0, _, _ => .no
  | n + 1, env, μ => (c env μ).bind fun k μ1 => if k = true then (b env μ1).bind fun fl μ2 => match fl with
      | .nx env2 => whileF c b n env2 μ2
      | .ct env2 => whileF c b n env2 μ2
      | .bk env2 => .ok (.nx env2) μ2
      | .rt w => .ok (.rt w) μ2
    else .ok (.nx env) μ1
/-- a while of at most n turns -/
theorem cs_while (n : Nat) {c : Expr} {body : List Stmt} {k : FB} {b : FS} {pos : Pos} (hp : PassesOwn (model X.prog X.w) X.A X.env X.xe) (hc : CT X W c k) (hb : CB X W body b) : CS X W (.While c body [] pos) (whileF k b n) := by
  obtain ⟨tc, pc, qc⟩ := hc
  obtain ⟨tb, pb, qb⟩ := hb
  refine ⟨_, ps_while hp pc pb, fun env σ S μ he hS D h => ?_⟩
  refine ⟨fun m σ H => ∃ env_ μ_ S_, S_.H = H ∧ Ext S S_ ∧ HS X.K S_ μ_ ∧ EnvR X.K X.N.length S_ env_ σ ∧ (whileF k b m env_ μ_).Post (EndOk X.K X.N.length D S) (PExS X.K W X.N.length S), ⟨n, env, μ, S, rfl, Ext.refl S, hS, he, h⟩, ?_⟩
  rintro m σ1 H1 ⟨env1, μ1, S1, rfl, e1, hS1, he1, h1⟩
  cases m with
  | zero => exact h1.elim
  | succ m =>
    unfold whileF at h1
    rw [Rs.post_bind] at h1
    refine qc env1 σ1 S1 μ1 he1 hS1 _ (h1.mono (fun c μ2 h2 S2 e2 hS2 => ?_) fun _ _ z => (z.mono e1).at he1.lenS)
    cases c with
    | true =>
      rw [if_pos rfl] at h2 ⊢
      rw [Rs.post_bind] at h2
      refine ⟨fun σ' H' => ∃ env_ μ_ S_, S_.H = H' ∧ Ext S S_ ∧ HS X.K S_ μ_ ∧ EnvR X.K X.N.length S_ env_ σ' ∧ (whileF k b m env_ μ_).Post (EndOk X.K X.N.length D S) (PExS X.K W X.N.length S), fun σ' H' z => ⟨m, Nat.lt_succ_self m, z⟩, ?_⟩
      refine qb env1 σ1 S2 μ2 (he1.mono e2) hS2 _ (h2.mono (fun fl μ3 h3 => ?_) fun _ _ z => z.mono (e1.trans e2))
      cases fl with
      | nx env5 => exact fun σ5 S5 e5 hS5 he5 => ⟨env5, μ3, S5, rfl, e1.trans (e2.trans e5), hS5, he5, h3⟩
      | ct env5 => exact fun σ5 S5 e5 hS5 he5 => ⟨env5, μ3, S5, rfl, e1.trans (e2.trans e5), hS5, he5, h3⟩
      | bk env5 => exact fun σ5 S5 e5 hS5 he5 => h3 σ5 S5 (e1.trans (e2.trans e5)) hS5 he5
      | rt w => exact fun v S5 e5 hS5 r5 => h3 v S5 (e1.trans (e2.trans e5)) hS5 r5
    | false =>
      rw [if_neg Bool.false_ne_true] at h2 ⊢
      exact h2 σ1 S2 (e1.trans e2) hS2 (he1.mono e2)

/-! ### what is walked -/
/-- the items of a value -/
def itV (f : FE) : FIt := fun env μ => (f env μ).bind fun w μ1 => match w with
  | .d (.list xs) => .ok xs μ1
  | _ => .no
def itT (f : FE) : FIt := fun env μ => (f env μ).bind fun w μ1 => match w with
  | .d (.tuple xs) => .ok xs μ1
  | _ => .no
theorem ci_list {tg l : Expr} {f : FE} (h : CEx X W l f) : CI X W tg l (itV f) := by
  obtain ⟨t, p, q⟩ := h
  refine ⟨_, pi_list p, fun env σ S μ he hS R h => ?_⟩
  unfold itV at h
  rw [Rs.post_bind] at h
  refine q env σ S μ he hS _ (h.mono (fun w μ1 h1 v S1 e1 hS1 r1 => ?_) fun _ _ z => z)
  split at h1
  · obtain ⟨a, xs, rfl, ha, ra⟩ := rp_lst_inv r1
    refine ⟨a, rfl, ⟨xs, .inl (.inl (hS1.sub _ _ ha))⟩, h1 _ S1 e1 hS1 fun S2 e2 μ2 hS2 => ?_⟩
    have hq : SqL X.K S2.H a xs := .inl (.inl (hS2.sub _ _ (e2.sb _ _ ha)))
    refine ⟨fun i item hi => ?_, ⟨xs, hq, by rw [ra.len]; exact Nat.le_refl _⟩⟩
    obtain ⟨x, hx, rx⟩ := ra.get hi
    refine ⟨⟨xs, x, hq, hx⟩, fun y H' hy => ?_⟩
    obtain ⟨rfl, hy⟩ := hy
    have e := hy xs hq
    rw [hx] at e
    cases e
    exact ⟨S2, rfl, Ext.refl S2, hS2, Rp.mono e2.sb _ _ rx⟩
  · exact h1.elim
theorem ci_tup {tg l : Expr} {f : FE} (h : CEx X W l f) : CI X W tg l (itT f) := by
  obtain ⟨t, p, q⟩ := h
  refine ⟨_, pi_tup p, fun env σ S μ he hS R h => ?_⟩
  unfold itT at h
  rw [Rs.post_bind] at h
  refine q env σ S μ he hS _ (h.mono (fun w μ1 h1 v S1 e1 hS1 r1 => ?_) fun _ _ z => z)
  split at h1
  · obtain ⟨a, xs, rfl, ha, ra⟩ := rp_tup_inv r1
    refine ⟨a, rfl, ⟨xs, .inl (.inl (hS1.sub _ _ ha))⟩, h1 _ S1 e1 hS1 fun S2 e2 μ2 hS2 => ?_⟩
    have hq : SqT X.K S2.H a xs := .inl (.inl (hS2.sub _ _ (e2.sb _ _ ha)))
    refine ⟨fun i item hi => ?_, ⟨xs, hq, by rw [ra.len]; exact Nat.le_refl _⟩⟩
    obtain ⟨x, hx, rx⟩ := ra.get hi
    refine ⟨⟨xs, x, hq, hx⟩, fun y H' hy => ?_⟩
    obtain ⟨rfl, hy⟩ := hy
    have e := hy xs hq
    rw [hx] at e
    cases e
    exact ⟨S2, rfl, Ext.refl S2, hS2, Rp.mono e2.sb _ _ rx⟩
  · exact h1.elim
/-- lo, lo + 1, .., n of them -/
def rangeD (lo : Int) (n : Nat) : List D := (List.range n).map fun (i : Nat) => PyData.int (lo + (i : Int))
theorem rangeD_get {lo : Int} {n i : Nat} {d : D} (h : (rangeD lo n)[i]? = some d) : i < n ∧ d = .int (lo + (i : Int)) := by
  unfold rangeD at h
  rw [List.getElem?_map] at h
  by_cases hi : i < n
  · rw [List.getElem?_range hi] at h
    cases h
    exact ⟨hi, rfl⟩
  · rw [List.getElem?_eq_none (by rw [List.length_range]; omega)] at h
    cases h
theorem rangeD_length (lo : Int) (n : Nat) : (rangeD lo n).length = n := by unfold rangeD; rw [List.length_map, List.length_range]
theorem walks_range {K : PySem.W.Frag} {lo : Int} {n : Nat} {S : Sta} : Walks K (Itr lo n) (rangeD lo n) S := fun S2 e2 μ2 hS2 => by
  refine ⟨fun i item hi => ?_, by rw [rangeD_length]; exact Nat.le_refl _⟩
  obtain ⟨h1, rfl⟩ := rangeD_get hi
  refine ⟨h1, fun y H' hy => ?_⟩
  obtain ⟨rfl, rfl⟩ := hy
  exact ⟨S2, rfl, Ext.refl S2, hS2, .int _⟩
abbrev RB : Int := 1000000000000
def itR1 (f : FE) : FIt := fun env μ => (f env μ).bind fun w μ1 => match w with
  | .d (.int j) => if -RB ≤ j ∧ j ≤ RB then .ok (rangeD 0 j.toNat) μ1 else .no
  | _ => .no
def itR2 (f g : FE) : FIt := fun env μ => (f env μ).bind fun w μ1 => (g env μ1).bind fun z μ2 => match w, z with
  | .d (.int i), .d (.int j) => if (-RB ≤ i ∧ i ≤ RB) ∧ -RB ≤ j ∧ j ≤ RB then .ok (rangeD i (j - i).toNat) μ2 else .no
  | _, _ => .no
theorem ci_range1 {tg a : Expr} {f : FE} {p pos : Pos} (hg : Gl X "range") (hm : X.mg "range" = none) (h : CEx X W a f) (hs : starEach [a] X.env = [(false, eval a X.env)] := by rfl) : CI X W tg (.Call (.Name "range" p) [a] [] pos) (itR1 f) := by
  obtain ⟨t, p, q⟩ := h
  refine ⟨_, pi_range1 hg hm (pa_cons p pa_nil (by rw [hs]; rfl)) hs, fun env σ S μ he hS R h => ?_⟩
  unfold itR1 at h
  rw [Rs.post_bind] at h
  refine q env σ S μ he hS _ (h.mono (fun w μ1 h1 v S1 e1 hS1 r1 => ?_) fun _ _ z => z)
  split at h1
  · split at h1
    · rename_i hj
      cases r1
      exact ⟨_, rfl, by have := hj.1; simp only [RB] at this; omega, by have := hj.2; simp only [RB] at this; omega, h1 _ S1 e1 hS1 walks_range⟩
    · exact h1.elim
  · exact h1.elim
theorem ci_range2 {tg a b : Expr} {f g : FE} {p pos : Pos} (hg : Gl X "range") (hm : X.mg "range" = none) (h : CEx X W a f) (h' : CEx X W b g) (hs : starEach [a, b] X.env = [(false, eval a X.env), (false, eval b X.env)] := by rfl) (hs2 : starEach [b] X.env = [(false, eval b X.env)] := by rfl) : CI X W tg (.Call (.Name "range" p) [a, b] [] pos) (itR2 f g) := by
  obtain ⟨t, p, q⟩ := h
  obtain ⟨t', p', q'⟩ := h'
  refine ⟨_, pi_range2 hg hm (pa_cons p (pa_cons p' pa_nil (by rw [hs2]; rfl)) (by rw [hs, hs2])) hs hs2, fun env σ S μ he hS R h => ?_⟩
  unfold itR2 at h
  rw [Rs.post_bind] at h
  refine q env σ S μ he hS _ (h.mono (fun w μ1 h1 v S1 e1 hS1 r1 => ?_) fun _ _ z => z)
  rw [Rs.post_bind] at h1
  refine q' env σ S1 μ1 (he.mono e1) hS1 _ (h1.mono (fun w' μ2 h2 u S2 e2 hS2 r2 => ?_) fun _ _ z => z.mono e1)
  have r1' := r1.mono e2
  split at h2
  · split at h2
    · rename_i hj
      cases r1'
      cases r2
      refine ⟨_, _, rfl, ?_, h2 _ S2 (e1.trans e2) hS2 walks_range⟩
      have a1 := hj.1.1; have a2 := hj.1.2; have a3 := hj.2.1; have a4 := hj.2.2
      simp only [RB] at a1 a2 a3 a4
      exact ⟨by omega, by omega, by omega, by omega⟩
    · exact h2.elim
  · exact h2.elim

/-! ### comprehensions -/
theorem Ext.side {S T : Sta} (e : Ext S T) {D : Addr} {o : HO} (hD : S.H D = none) : Ext S ⟨upd T.H D o, T.F, T.L⟩ := by
  refine ⟨e.sb, e.pf, fun a u h hn => ?_, fun a u h => ?_, e.nl, e.nf⟩
  · show upd T.H D o a = some u
    rw [upd_ne (ne_of_none h hD)]
    exact e.fr a u h hn
  · obtain ⟨o', z⟩ := e.th a u h
    refine ⟨o', ?_⟩
    show upd T.H D o a = some o'
    rw [upd_ne (ne_of_none h hD)]
    exact z
theorem HS.side {K : PySem.W.Frag} {S : Sta} {μ : Sto} (h : HS K S μ) {D : Addr} {o : HO} (hL : D ∉ S.L) (hF : S.F D = none) : HS K ⟨upd S.H D o, S.F, S.L⟩ μ := by
  refine ⟨fun a u e => ?_, h.len, h.nd, fun n a h1 => ?_, h.lv, fun n a ob h1 h2 => ?_⟩
  · show upd S.H D o a = some u
    rw [upd_ne (ne_of_none e hF)]
    exact h.sub a u e
  · obtain ⟨u, e⟩ := h.tr n a h1
    have ha : a ≠ D := fun z => hL (z ▸ List.mem_of_getElem? h1)
    exact ⟨u, (upd_ne ha).trans e⟩
  · have ha : a ≠ D := fun z => hL (z ▸ List.mem_of_getElem? h1)
    have e : Ext S ⟨S.H, S.F, S.L⟩ := Ext.refl S
    have q := h.ob n a ob h1 h2
    cases ob with
    | dead => trivial
    | lst ws => obtain ⟨vs, q1, q2⟩ := q; exact ⟨vs, (upd_ne ha).trans q1, q2⟩
    | dk ws => obtain ⟨vs, q1, q2⟩ := q; exact ⟨vs, (upd_ne ha).trans q1, q2⟩
    | dt ws => obtain ⟨vs, q1, q2⟩ := q; exact ⟨vs, (upd_ne ha).trans q1, q2⟩
    | ins C fs => obtain ⟨dx, vs, q1, q2⟩ := q; exact ⟨dx, vs, (upd_ne ha).trans q1, q2⟩
/-- a thing of ours beside the store stays -/
theorem Ext.keepSide {S T : Sta} (e : Ext S T) {D : Addr} {o : HO} (hD : S.H D = some o) (hL : D ∉ S.L) (hF : S.F D = none) : T.H D = some o ∧ D ∉ T.L ∧ T.F D = none := by
  refine ⟨e.fr D o hD hL, e.out hD hL, ?_⟩
  cases q : T.F D with
  | none => rfl
  | some u =>
    rcases e.nf D (by rw [q]; simp) with z | z | z
    · exact absurd hF z
    · rw [hD] at z; cases z
    · exact absurd z hL
def wipeE (env : Env) : List Nat → Env
  | [] => env
  | v :: vs => (wipeE env vs).set v none
theorem wipe_get {σ : L2.St} : ∀ {vs : List Nat} {i : Nat}, i ∉ vs → (wipe σ vs)[i]? = σ[i]?
  | [], _, _ => rfl
  | v :: vs, i, h => by
    simp only [List.mem_cons, not_or] at h
    unfold wipe
    rw [List.getElem?_set_ne (Ne.symm h.1), wipe_get h.2]
theorem wipe_in {σ : L2.St} : ∀ {vs : List Nat} {i : Nat}, i ∈ vs → i < σ.length → (wipe σ vs)[i]? = some none
  | v :: vs, i, h, hi => by
    unfold wipe
    by_cases e : v = i
    · subst e
      rw [List.getElem?_set_self (by rw [wipe_length]; exact hi)]
    · rw [List.getElem?_set_ne e]
      rcases List.mem_cons.mp h with z | z
      · exact absurd z.symm e
      · exact wipe_in z hi
theorem wipe_same {σ τ : L2.St} {vs is : List Nat} (hl : τ.length = σ.length) (his : ∀ i ∈ is, i ∈ vs) (h : ∀ j, j ∉ is → τ[j]? = (wipe σ vs)[j]?) : wipe τ vs = wipe σ vs := by
  refine List.ext_getElem? fun i => ?_
  by_cases hv : i ∈ vs
  · by_cases hi : i < σ.length
    · rw [wipe_in hv hi, wipe_in hv (by rw [hl]; exact hi)]
    · rw [List.getElem?_eq_none (by rw [wipe_length, hl]; omega), List.getElem?_eq_none (by rw [wipe_length]; omega)]
  · rw [wipe_get hv, wipe_get hv, h i fun z => hv (his i z), wipe_get hv]
theorem EnvR.wipe {K : PySem.W.Frag} {n : Nat} {S : Sta} {env : Env} {σ : L2.St} (h : EnvR K n S env σ) : ∀ vs : List Nat, EnvR K n S (wipeE env vs) (L2.wipe σ vs)
  | [] => h
  | v :: vs => by
    have q := EnvR.wipe h vs
    refine ⟨by unfold wipeE; rw [List.length_set]; exact q.len, by unfold L2.wipe; rw [List.length_set]; exact q.lenS, fun i w e => ?_⟩
    unfold wipeE at e
    by_cases hv : v = i
    · subst hv
      by_cases hi : v < (wipeE env vs).length
      · rw [List.getElem?_set_self hi] at e; cases e
      · rw [List.getElem?_eq_none (by rw [List.length_set]; omega)] at e; cases e
    · rw [List.getElem?_set_ne hv] at e
      obtain ⟨u, h1, h2⟩ := q.val i w e
      exact ⟨u, by unfold L2.wipe; rw [List.getElem?_set_ne hv]; exact h1, h2⟩
/-- the readings that a judgement gives, one for all contexts of the same names -/
def canE (K : PySem.W.Frag) (n : Nat) (W : WX) (f : FE) : TE := fun σ H Q => ∃ env S μ, S.H = H ∧ EnvR K n S env σ ∧ HS K S μ ∧ (f env μ).Post (POk K S Q) (PEx K W σ S)
def canT (K : PySem.W.Frag) (n : Nat) (W : WX) (f : FB) : TT := fun σ H Q => ∃ env S μ, S.H = H ∧ EnvR K n S env σ ∧ HS K S μ ∧ (f env μ).Post (fun b μ' => ∀ S', Ext S S' → HS K S' μ' → Q b S'.H) (PEx K W σ S)
def canG (K : PySem.W.Frag) (n : Nat) (is : List Nat) (g : FG) : TG := fun v σ H Q => ∃ w env S μ, S.H = H ∧ RW K S v w ∧ EnvR K n S env σ ∧ HS K S μ ∧ (g w env μ).Post (fun env' μ' => ∀ σ' S', Ext S S' → HS K S' μ' → EnvR K n S' env' σ' → (∀ j, j ∉ is → σ'[j]? = σ[j]?) → Q σ' S'.H) (fun _ _ => False)
theorem CEx.can {e : Expr} {f : FE} (h : CEx X W e f) : PE X e (canE X.K X.N.length W f) := by
  obtain ⟨t, p, q⟩ := h
  exact ⟨fun pins s σ H Q I hw => by
    obtain ⟨env, S, μ, rfl, he, hS, hp⟩ := hw
    exact p.run pins s σ S.H Q I (q env σ S μ he hS Q hp)⟩
theorem CT.can {e : Expr} {f : FB} (h : CT X W e f) : PT X e (canT X.K X.N.length W f) := by
  obtain ⟨t, p, q⟩ := h
  exact ⟨fun pins s σ H Q I hw => by
    obtain ⟨env, S, μ, rfl, he, hS, hp⟩ := hw
    exact p.run pins s σ S.H Q I (q env σ S μ he hS Q hp)⟩
theorem CG.can {e : Expr} {is : List Nat} {g : FG} (h : CG X e is g) : PG X e (canG X.K X.N.length is g) := by
  obtain ⟨t, p, q⟩ := h
  exact ⟨fun pins s σ H v u Q I r hw => by
    obtain ⟨w, env, S, μ, rfl, rw_, he, hS, hp⟩ := hw
    exact p.run pins s σ S.H v u Q I r (q w v env σ S μ rw_ he hS Q hp)⟩
/-- no exception is wished for -/
abbrev W0 : WX := fun _ _ _ _ => False
def CTs (X : Cx) (es : List Expr) (f : FB) : Prop := PTs X es (canT X.K X.N.length W0 f)
def fYes : FB := fun _ μ => .ok true μ
theorem cts_nil : CTs X [] fYes := ⟨fun pins s σ H Q I hw => by
  obtain ⟨env, S, μ, rfl, he, hS, hp⟩ := hw
  exact pts_nil.run pins s σ S.H Q I (hp S (Ext.refl S) hS)⟩
theorem cts_one {c : Expr} {f : FB} (h : CT X W0 c f) : CTs X [c] f := pts_one h.can
def compF (g : FG) (t : FB) (e : FE) (env : Env) : List D → Sto → List D → Rs (List D)
  | [], μ, acc => .ok acc μ
  | d :: r, μ, acc => (noex (g (.d d) env μ)).bind fun env1 μ1 => (noex (t env1 μ1)).bind fun b μ2 => if b = true then (noex (e env1 μ2)).bind fun w μ3 => match w with
      | .d x => if acc.length < LIM then compF g t e env r μ3 (acc ++ [x]) else .no
      | _ => .no
    else compF g t e env r μ2 acc
def fComp (it : FIt) (g : FG) (t : FB) (e : FE) (vs : List Nat) : FE := fun env μ => (it env μ).bind fun items μ1 => (compF g t e (wipeE env vs) items μ1 []).bind fun acc μ2 => .ok (.d (.list acc)) μ2
theorem he_free {K : PySem.W.Frag} {S : Sta} {μ : Sto} (h : HS K S μ) {p : Addr} (hp : S.H p = none) : S.F p = none := h.free hp
theorem comp_core {wi : TI} {it : FIt} {is vs : List Nat} {g : FG} {tt : FB} {ee : FE} (his : ∀ i ∈ is, i ∈ vs)
    (qi : ∀ env σ S μ, EnvR X.K X.N.length S env σ → HS X.K S μ → ∀ R : It → Hp → Prop, (it env μ).Post (fun items μ' => ∀ J S', Ext S S' → HS X.K S' μ' → Walks X.K J items S' → R J S'.H) (PEx X.K W σ S) → wi σ S.H R) :
    ∀ env σ S μ, EnvR X.K X.N.length S env σ → HS X.K S μ → ∀ Q : VK, (fComp it g tt ee vs env μ).Post (POk X.K S Q) (PEx X.K W σ S) →
      tLc wi (canG X.K X.N.length is g) (canT X.K X.N.length W0 tt) (canE X.K X.N.length W0 ee) vs σ S.H Q := fun env σ S μ he hS Q h => by
  unfold fComp at h
  rw [Rs.post_bind] at h
  refine qi env σ S μ he hS _ (h.mono (fun items μ1 h1 J S1 e1 hS1 wk => ?_) fun _ _ z => z)
  intro Dl hDl
  have lift : ∀ {acc : List PyData} {μ2 : Sto}, Rs.Post (.ok (Wv.d (.list acc)) μ2) (POk X.K S Q) (PEx X.K W σ S) → POk X.K S Q (.d (.list acc)) μ2 := fun z => z
  let fin : List PyData → Sto → Rs Wv := fun acc μ2 => .ok (.d (.list acc)) μ2
  have h1 : ((compF g tt ee (wipeE env vs) items μ1 []).bind fin).Post (POk X.K S Q) (PEx X.K W σ S) := h1
  refine ⟨fun i m H => m = items.length - i ∧ i ≤ items.length ∧ ∃ μ_ S_ acc vs_, S_.H = H ∧ Ext S1 S_ ∧ HS X.K S_ μ_ ∧ S_.H Dl = some (.lst vs_) ∧ Dl ∉ S_.L ∧ S_.F Dl = none ∧ RpA X.K S_.F vs_ acc ∧ ((compF g tt ee (wipeE env vs) (items.drop i) μ_ acc).bind fin).Post (POk X.K S Q) (PEx X.K W σ S),
    ⟨items.length, rfl, Nat.zero_le _, μ1, ⟨upd S1.H Dl (.lst []), S1.F, S1.L⟩, [], [], rfl, (Ext.refl S1).side hDl, hS1.side (hS1.fresh hDl) (hS1.free hDl), upd_same, hS1.fresh hDl, hS1.free hDl, .nil, h1⟩, ?_⟩
  rintro i m H2 ⟨rfl, hi, μ2, S2, acc, xs, rfl, e2, hS2, hD2, hL2, hF2, ra, h2⟩
  obtain ⟨w1, w2⟩ := wk S2 e2 μ2 hS2
  by_cases hlt : i < items.length
  · obtain ⟨go, yl⟩ := w1 i items[i] (List.getElem?_eq_getElem hlt)
    refine .inr ⟨go, fun H' => ∃ μ_ S_ acc vs_, S_.H = H' ∧ Ext S1 S_ ∧ HS X.K S_ μ_ ∧ S_.H Dl = some (.lst vs_) ∧ Dl ∉ S_.L ∧ S_.F Dl = none ∧ RpA X.K S_.F vs_ acc ∧ ((compF g tt ee (wipeE env vs) (items.drop (i + 1)) μ_ acc).bind fin).Post (POk X.K S Q) (PEx X.K W σ S),
      fun H' n => ⟨items.length - (i + 1), by omega, rfl, hlt, n⟩, fun x H' y => ?_⟩
    obtain ⟨S3, rfl, e3, hS3, r3⟩ := yl x H' y
    rw [List.drop_eq_getElem_cons hlt] at h2
    have h2 : (((noex (g (.d items[i]) (wipeE env vs) μ2)).bind fun env1 μ1 => (noex (tt env1 μ1)).bind fun b μ2 => if b = true then (noex (ee env1 μ2)).bind fun w μ3 => match w with
        | .d x => if acc.length < LIM then compF g tt ee (wipeE env vs) (items.drop (i + 1)) μ3 (acc ++ [x]) else .no
        | _ => .no
      else compF g tt ee (wipeE env vs) (items.drop (i + 1)) μ2 acc).bind fin).Post _ _ := h2
    rw [Rs.post_bind, Rs.post_bind] at h2
    have hw : EnvR X.K X.N.length S3 (wipeE env vs) (L2.wipe σ vs) := ((he.mono e1).mono (e2.trans e3)).wipe vs
    refine ⟨.d items[i], wipeE env vs, S3, μ2, rfl, r3, hw, hS3, noex_post (h2.mono (fun env1 μ3 h3 σ4 S4 e4 hS4 he4 k4 => ?_) fun _ _ z => z)⟩
    have h3 : ((noex (tt env1 μ3)).bind _).Post _ _ := h3
    rw [Rs.post_bind] at h3
    refine ⟨wipe_same (by rw [he4.lenS, he.lenS]) his k4, env1, S4, μ3, rfl, he4, hS4, noex_post (h3.mono (fun b μ5 h5 S5 e5 hS5 => ?_) fun _ _ z => z)⟩
    obtain ⟨hD5, hL5, hF5⟩ := (e3.trans (e4.trans e5)).keepSide hD2 hL2 hF2
    cases b with
    | true =>
      rw [if_pos rfl] at h5 ⊢
      rw [Rs.post_bind] at h5
      refine ⟨env1, S5, μ5, rfl, he4.mono e5, hS5, noex_post (h5.mono (fun w μ6 h6 y S6 e6 hS6 r6 => ?_) fun _ _ z => z)⟩
      obtain ⟨hD6, hL6, hF6⟩ := e6.keepSide hD5 hL5 hF5
      cases w with
      | l n => exact h6.elim
      | s n => exact h6.elim
      | d z =>
        have h6 : ((if acc.length < LIM then compF g tt ee (wipeE env vs) (items.drop (i + 1)) μ6 (acc ++ [z]) else .no : Rs (List PyData))).Post (fun a μ => (fin a μ).Post (POk X.K S Q) (PEx X.K W σ S)) (PEx X.K W σ S) := h6
        by_cases hl : acc.length < LIM
        · rw [if_pos hl, ← Rs.post_bind] at h6
          have k16 : Ext S1 S6 := e2.trans (e3.trans (e4.trans (e5.trans e6)))
          have ra6 : RpA X.K S6.F xs acc := RpA.mono (e3.trans (e4.trans (e5.trans e6))).sb _ _ ra
          refine ⟨xs, hD6, by rw [ra.len]; exact lim_lt (Nat.le_of_lt hl), μ6, ⟨upd S6.H Dl (.lst (xs ++ [y])), S6.F, S6.L⟩, acc ++ [z], xs ++ [y], rfl, k16.side hDl, hS6.side hL6 hF6, upd_same, hL6, hF6, ra6.append (.cons r6 .nil), h6⟩
        · rw [if_neg hl] at h6
          exact h6.elim
    | false =>
      rw [if_neg Bool.false_ne_true] at h5 ⊢
      rw [← Rs.post_bind] at h5
      exact ⟨μ5, S5, acc, xs, rfl, e2.trans (e3.trans (e4.trans e5)), hS5, hD5, hL5, hF5, RpA.mono (e3.trans (e4.trans e5)).sb _ _ ra, h5⟩
  · have e : i = items.length := by omega
    subst e
    rw [List.drop_length] at h2
    refine .inl ⟨w2, ?_⟩
    have h2 : POk X.K S Q (.d (.list acc)) μ2 := h2
    -- the new list is frozen
    have k2 := e1.trans e2
    refine h2 (.ref Dl) ⟨S2.H, upd S2.F Dl (.lst xs), S2.L⟩ ⟨fun a u z => ?_, k2.pf, k2.fr, k2.th, k2.nl, fun a z => ?_⟩ ⟨fun a u z => ?_, hS2.len, hS2.nd, hS2.tr, fun n a ob z1 z2 z3 => ?_, fun n a ob z1 z2 => ?_⟩ (rp_lst hF2 ra)
    · have hSD : S.F Dl = none := he_free hS (e1.un hDl)
      show upd S2.F Dl (.lst xs) a = some u
      rw [upd_ne (ne_of_none z hSD)]
      exact k2.sb a u z
    · by_cases hb : a = Dl
      · exact .inr (.inl (by rw [hb]; exact e1.un hDl))
      · have z : upd S2.F Dl (.lst xs) a ≠ none := z
        rw [upd_ne hb] at z
        exact k2.nf a z
    · by_cases hb : a = Dl
      · subst hb
        have z : upd S2.F a (.lst xs) a = some u := z
        rw [upd_same] at z
        cases z
        exact hD2
      · have z : upd S2.F Dl (.lst xs) a = some u := z
        rw [upd_ne hb] at z
        exact hS2.sub a u z
    · have hb : a ≠ Dl := fun q => hL2 (q ▸ List.mem_of_getElem? z1)
      show upd S2.F Dl (.lst xs) a = none
      rw [upd_ne hb]
      exact hS2.lv n a ob z1 z2 z3
    · refine ObR.stayG (S := S2) (S' := ⟨S2.H, upd S2.F Dl (.lst xs), S2.L⟩) ⟨fun a u z => ?_, fun _ _ z => z⟩ (hS2.ob n a ob z1 z2) fun o z => z
      show upd S2.F Dl (.lst xs) a = some u
      rw [upd_ne (ne_of_none z hF2)]
      exact z
theorem c_comp {elt tg iter : Expr} {ifs : List Expr} {scope : Scope} {own : List (Str × Nat)} {vs : List Nat} {pos : Pos} {it : FIt} {is : List Nat} {g : FG} {tt : FB} {ee : FE} (hc : X.calm = true) (hN : X.N.Nodup) (hi : CI X W tg iter it) (ok : BlkOk X.N X.env.scope scope own) (his : ∀ i ∈ is, i ∈ vs)
    (hg : ∀ (s : Shared) (H : Hp) (C : Addr) (cl : List (Str × Addr)) (fp : List Addr), CG (X.blk s H scope (compEnvC scope cl C X.env) fp) tg is g)
    (ht : ∀ (s : Shared) (H : Hp) (C : Addr) (cl : List (Str × Addr)) (fp : List Addr), CTs (X.blk s H scope (compEnvC scope cl C X.env) fp) ifs tt)
    (he : ∀ (s : Shared) (H : Hp) (C : Addr) (cl : List (Str × Addr)) (fp : List Addr), CEx (X.blk s H scope (compEnvC scope cl C X.env) fp) W0 elt ee) (hs : ∀ x, foldedSetIterable iter X.env x = pure x := by intro _; rfl) (hvs : own.map (·.2) = vs := by rfl) :
    CEx X W (.ListComp elt [⟨tg, iter, ifs, 0⟩] scope pos) (fComp it g tt ee vs) := by
  subst hvs
  obtain ⟨wi, pi, qi⟩ := hi
  exact ⟨_, pe_lc hc hN pi ok (fun s H C cl fp => (hg s H C cl fp).can) (tt := canT X.K X.N.length W0 tt) (fun s H C cl fp => ht s H C cl fp) (fun s H C cl fp => (he s H C cl fp).can) hs, comp_core his qi⟩
/-- name = [..] on one line -/
theorem cs_setLc (i : Nat) {y : Str} {py : Pos} {elt tg iter : Expr} {ifs : List Expr} {scope : Scope} {own : List (Str × Nat)} {vs : List Nat} {pos spos : Pos} {it : FIt} {is : List Nat} {g : FG} {tt : FB} {ee : FE} (hc : X.calm = true) (hN : X.N.Nodup) (hy : X.N[i]? = some y) (hyl : X.env.scope.names.lookup y = some .local)
    (hsw : swapsWith (.ListComp elt [⟨tg, iter, ifs, 0⟩] scope pos) (some (.Name y py)) spos.line X.env = pure true) (hi : CI X W tg iter it) (ok : BlkOk X.N X.env.scope scope own) (his : ∀ i ∈ is, i ∈ vs)
    (hg : ∀ (s : Shared) (H : Hp) (C : Addr) (cl : List (Str × Addr)) (fp : List Addr), CG (X.blk s H scope (compEnvC scope cl C X.env) fp) tg is g)
    (ht : ∀ (s : Shared) (H : Hp) (C : Addr) (cl : List (Str × Addr)) (fp : List Addr), CTs (X.blk s H scope (compEnvC scope cl C X.env) fp) ifs tt)
    (he : ∀ (s : Shared) (H : Hp) (C : Addr) (cl : List (Str × Addr)) (fp : List Addr), CEx (X.blk s H scope (compEnvC scope cl C X.env) fp) W0 elt ee) (hs : ∀ x, foldedSetIterable iter X.env x = pure x := by intro _; rfl) (hvs : own.map (·.2) = vs := by rfl) :
    CS X W (.Assign [.Name y py] (.ListComp elt [⟨tg, iter, ifs, 0⟩] scope pos) spos) (sAsg (fComp it g tt ee vs) (gVar i)) := by
  subst hvs
  obtain ⟨wi, pi, qi⟩ := hi
  refine ⟨_, ps_setLc hc hN hy hyl hsw pi ok (fun s H C cl fp => (hg s H C cl fp).can) (tt := canT X.K X.N.length W0 tt) (fun s H C cl fp => ht s H C cl fp) (fun s H C cl fp => (he s H C cl fp).can) hs, asg_core (is := [i]) (comp_core his qi) ?_⟩
  exact fun w v env σ S μ r he hS Q h => h (σ.set i (some v)) S (Ext.refl S) hS (he.set r) fun j hj => List.getElem?_set_ne fun e => hj (by simp [e])
end

/-! ### defs -/
/-- a def promises what g says -/
def spD (K : PySem.W.Frag) (n : Nat) (g : List Wv → Sto → Rs Wv) : Sp := fun vs H Q E => vs.length = n ∧ ∃ ws S μ, S.H = H ∧ HS K S μ ∧ RWs K S vs ws ∧ (g ws μ).Post (POk K S Q) (fun x μ' => ∀ d S', Ext S S' → HS K S' μ' → ExR K S' x d → E x.cls d S'.H)
def startE (m : Nat) (ws : List Wv) : Env := ws.map some ++ List.replicate (m - ws.length) none
/-- no thing of the store holds a number beyond n -/
def closedW (n : Nat) : Wv → Bool
  | .l k => decide (k < n)
  | _ => true
def closedO (n : Nat) : Ob → Bool
  | .dead => true
  | .lst ws => ws.all (closedW n)
  | .dk kvs => kvs.all fun p => closedW n p.2
  | .dt kvs => kvs.all fun p => closedW n p.2
  | .ins _ fs => fs.all fun p => closedW n p.2
theorem closed_ws {K : PySem.W.Frag} {S : Sta} : ∀ {vs : List V} {ws : List Wv}, RWs K S vs ws → ws.all (closedW S.L.length) = true
  | _, _, .nil => rfl
  | _, w :: _, .cons r t => by
    rw [List.all_cons, closed_ws t, Bool.and_true]
    cases w with
    | d x => rfl
    | s x => rfl
    | l n =>
      obtain ⟨a, h, _⟩ := r
      exact decide_eq_true (List.getElem?_eq_some_iff.mp h).1
theorem closed_kv {κ : Type} {K : PySem.W.Frag} {S : Sta} : ∀ {vs : List (κ × V)} {ws : List (κ × Wv)}, RKv K S vs ws → (ws.all fun p => closedW S.L.length p.2) = true
  | _, _, .nil => rfl
  | _, (k, w) :: _, .cons r t => by
    rw [List.all_cons, closed_kv t, Bool.and_true]
    cases w with
    | d x => rfl
    | s x => rfl
    | l n =>
      obtain ⟨_, a, h, _⟩ := r
      exact decide_eq_true (List.getElem?_eq_some_iff.mp h).1
theorem closed_ob {K : PySem.W.Frag} {S : Sta} {a : Addr} {ob : Ob} (h : ObR K S a ob) : closedO S.L.length ob = true := by
  cases ob with
  | dead => rfl
  | lst ws => obtain ⟨vs, _, q⟩ := h; exact closed_ws q
  | dk ws => obtain ⟨vs, _, q⟩ := h; exact closed_kv q
  | dt ws => obtain ⟨vs, _, q⟩ := h; exact closed_kv q
  | ins C ws => obtain ⟨_, vs, _, q⟩ := h; exact closed_kv q
theorem cut_w {K : PySem.W.Frag} {S : Sta} {n : Nat} {v : V} {w : Wv} (h : RW K S v w) (hc : closedW n w = true) : RW K ⟨S.H, S.F, S.L.take n⟩ v w := by
  cases w with
  | d x => exact h
  | s x => exact h
  | l k =>
    obtain ⟨a, h1, h2⟩ := h
    exact ⟨a, by rw [← h1]; exact List.getElem?_take_of_lt (of_decide_eq_true hc), h2⟩
theorem cut_ws {K : PySem.W.Frag} {S : Sta} {n : Nat} : ∀ {vs : List V} {ws : List Wv}, RWs K S vs ws → ws.all (closedW n) = true → RWs K ⟨S.H, S.F, S.L.take n⟩ vs ws
  | _, _, .nil, _ => .nil
  | _, _, .cons r t, h => by
    rw [List.all_cons, Bool.and_eq_true] at h
    exact .cons (cut_w r h.1) (cut_ws t h.2)
theorem cut_kv {κ : Type} {K : PySem.W.Frag} {S : Sta} {n : Nat} : ∀ {vs : List (κ × V)} {ws : List (κ × Wv)}, RKv K S vs ws → (ws.all fun p => closedW n p.2) = true → RKv K ⟨S.H, S.F, S.L.take n⟩ vs ws
  | _, _, .nil, _ => .nil
  | _, _, .cons r t, h => by
    rw [List.all_cons, Bool.and_eq_true] at h
    exact .cons ⟨r.1, cut_w r.2 h.1⟩ (cut_kv t h.2)
theorem cut_ob {K : PySem.W.Frag} {S : Sta} {n : Nat} {a : Addr} {ob : Ob} (h : ObR K S a ob) (hc : closedO n ob = true) : ObR K ⟨S.H, S.F, S.L.take n⟩ a ob := by
  cases ob with
  | dead => trivial
  | lst ws => obtain ⟨vs, q1, q⟩ := h; exact ⟨vs, q1, cut_ws q hc⟩
  | dk ws => obtain ⟨vs, q1, q⟩ := h; exact ⟨vs, q1, cut_kv q hc⟩
  | dt ws => obtain ⟨vs, q1, q⟩ := h; exact ⟨vs, q1, cut_kv q hc⟩
  | ins C ws => obtain ⟨dx, vs, q1, q⟩ := h; exact ⟨dx, vs, q1, cut_kv q hc⟩
/-- what was there refers to what was there -/
def KeepRef (μ μ' : Sto) : Prop := ∀ (j : Nat) (ob : Ob), j < μ.length → μ'[j]? = some ob → μ[j]? = some ob ∨ closedO μ.length ob = true
open Classical in
/-- the things beyond are forgotten -/
noncomputable def trim (μ μ' : Sto) : Option Sto := if μ'.length ≤ μ.length then some μ' else if KeepRef μ μ' then some (μ'.take μ.length) else none
theorem trim_same {μ μ' : Sto} (h : μ'.length = μ.length) : trim μ μ' = some μ' := if_pos (Nat.le_of_eq h)
theorem trim_app (μ ν : Sto) : trim μ (μ ++ ν) = some μ := by
  unfold trim
  by_cases h : (μ ++ ν).length ≤ μ.length
  · rw [if_pos h]
    rw [List.length_append] at h
    have : ν = [] := List.eq_nil_of_length_eq_zero (by omega)
    rw [this, List.append_nil]
  · have hk : KeepRef μ (μ ++ ν) := fun j ob hj e => .inl (by rw [List.getElem?_append_left hj] at e; exact e)
    rw [if_neg h, if_pos hk, List.take_left]
theorem trim_set (μ ν : Sto) (i : Nat) (ob : Ob) (hc : closedO μ.length ob = true) : trim μ (μ.set i ob ++ ν) = some (μ.set i ob) := by
  unfold trim
  have hl : (μ.set i ob).length = μ.length := List.length_set
  by_cases h : (μ.set i ob ++ ν).length ≤ μ.length
  · rw [if_pos h]
    rw [List.length_append, hl] at h
    have : ν = [] := List.eq_nil_of_length_eq_zero (by omega)
    rw [this, List.append_nil]
  · have hk : KeepRef μ (μ.set i ob ++ ν) := fun j ob' hj e => by
      rw [List.getElem?_append_left (by rw [hl]; exact hj)] at e
      by_cases hi : i = j
      · subst hi
        rw [List.getElem?_set_self hj] at e
        cases e
        exact .inr hc
      · rw [List.getElem?_set_ne hi] at e
        exact .inl e
    rw [if_neg h, if_pos hk, ← hl, List.take_left]
theorem trim_ok {K : PySem.W.Frag} {S S' : Sta} {μ μ' ν : Sto} (hS : HS K S μ) (e : Ext S S') (hS' : HS K S' μ') (h : trim μ μ' = some ν) : ∃ S'', Ext S S'' ∧ HS K S'' ν ∧ S''.H = S'.H ∧ S''.F = S'.F ∧ ∀ k a, k < μ.length → S'.L[k]? = some a → S''.L[k]? = some a := by
  unfold trim at h
  split at h
  · cases h
    exact ⟨S', e, hS', rfl, rfl, fun _ _ _ z => z⟩
  · split at h
    · rename_i hk
      cases h
      refine ⟨⟨S'.H, S'.F, S'.L.take μ.length⟩, ⟨e.sb, fun n a z => ?_, e.fr, e.th, fun a z => e.nl a (List.mem_of_mem_take z), e.nf⟩, ⟨hS'.sub, ?_, hS'.nd.sublist (List.take_sublist _ _), fun n a z => hS'.tr n a ?_, fun n a ob z1 z2 z3 => ?_, fun n a ob z1 z2 => ?_⟩, rfl, rfl, fun k a hk z => ?_⟩
      · have hn : n < μ.length := by rw [← hS.len]; exact (List.getElem?_eq_some_iff.mp z).1
        show (S'.L.take μ.length)[n]? = some a
        rw [List.getElem?_take_of_lt hn]
        exact e.pf n a z
      · show (S'.L.take μ.length).length = (μ'.take μ.length).length
        rw [List.length_take, List.length_take, hS'.len]
      · have z : (S'.L.take μ.length)[n]? = some a := z
        rw [List.getElem?_take] at z
        split at z
        · exact z
        · cases z
      · have z1 : (S'.L.take μ.length)[n]? = some a := z1
        rw [List.getElem?_take] at z1 z2
        split at z1
        · rename_i hn
          rw [if_pos hn] at z2
          exact hS'.lv n a ob z1 z2 z3
        · cases z1
      · have z1 : (S'.L.take μ.length)[n]? = some a := z1
        rw [List.getElem?_take] at z1 z2
        split at z1
        · rename_i hn
          rw [if_pos hn] at z2
          refine cut_ob (hS'.ob n a ob z1 z2) ?_
          rcases hk n ob hn z2 with q | q
          · have hnl : n < S.L.length := by rw [hS.len]; exact hn
            have := closed_ob (hS.ob n S.L[n] ob (List.getElem?_eq_getElem hnl) q)
            rw [hS.len] at this
            exact this
          · exact q
        · cases z1
      · show (S'.L.take μ.length)[k]? = some a
        rw [List.getElem?_take_of_lt hk]
        exact z
    · cases h
/-- what a body hands back; the things that it made are forgotten, but where one is handed back -/
noncomputable def handBack (μ : Sto) (fl : Fl) (μ' : Sto) : Rs Wv := match fl with
  | .rt (.d x) => (match trim μ μ' with | some ν => .ok (.d x) ν | none => .no)
  | .rt (.l n) => if n < μ.length then (match trim μ μ' with | some ν => .ok (.l n) ν | none => .no) else .ok (.l n) μ'
  | .nx _ => (match trim μ μ' with | some ν => .ok (.d .none) ν | none => .no)
  | _ => .no
noncomputable def runF (m : Nat) (F : FS) (ws : List Wv) (μ : Sto) : Rs Wv := (F (startE m ws) μ).bind (handBack μ)
theorem start_env {K : PySem.W.Frag} {S : Sta} {N : List Str} {vs : List V} {ws : List Wv} (r : RWs K S vs ws) (hl : vs.length ≤ N.length) : EnvR K N.length S (startE N.length ws) (L2.start N vs) := by
  have hw := rws_len r
  refine ⟨?_, ?_, fun i w e => ?_⟩
  · unfold startE
    rw [List.length_append, List.length_map, List.length_replicate]
    omega
  · unfold L2.start
    rw [List.length_append, List.length_map, List.length_replicate]
    omega
  · unfold startE at e
    by_cases hi : i < ws.length
    · rw [List.getElem?_append_left (by rw [List.length_map]; exact hi), List.getElem?_map] at e
      cases q : ws[i]? with
      | none => rw [q] at e; cases e
      | some w' =>
        rw [q] at e
        cases e
        obtain ⟨v, h1, h2⟩ := rws_get r q
        refine ⟨v, ?_, h2⟩
        unfold L2.start
        rw [List.getElem?_append_left (by rw [List.length_map]; omega), List.getElem?_map, h1]
        rfl
    · rw [List.getElem?_append_right (by rw [List.length_map]; omega), List.getElem?_replicate] at e
      split at e <;> cases e
section
variable {P : Program} {w : World} {K : PySem.W.Frag} {mg : Str → Option Value} {base : Heap}
/-- what a body's end is for the def's caller -/
theorem hand_ok {S : Sta} {μ : Sto} {n : Nat} {Q : VK} {E : Exn → Sto → Prop} (hS : HS K S μ) {fl : Fl} {μ' : Sto} (h : (handBack μ fl μ').Post (POk K S Q) E) : EndOk K n { nx := fun _ H' => Q .non H', rt := Q } S fl μ' := by
  unfold handBack at h
  cases fl with
  | nx env =>
    simp only at h
    intro σ S' e hS' _
    cases ht : trim μ μ' with
    | none => rw [ht] at h; exact h.elim
    | some ν =>
      rw [ht] at h
      obtain ⟨S'', e'', hS'', hH, hF, _⟩ := trim_ok hS e hS' ht
      show Q .non S'.H
      rw [← hH]
      exact h .non S'' e'' hS'' .non
  | bk env => exact h.elim
  | ct env => exact h.elim
  | rt w =>
    intro v S' e hS' r
    cases w with
    | s x => exact h.elim
    | d x =>
      simp only at h
      cases ht : trim μ μ' with
      | none => rw [ht] at h; exact h.elim
      | some ν =>
        rw [ht] at h
        obtain ⟨S'', e'', hS'', hH, hF, _⟩ := trim_ok hS e hS' ht
        show Q v S'.H
        rw [← hH]
        exact h v S'' e'' hS'' (by show Rp K S''.F v x; rw [hF]; exact r)
    | l k =>
      simp only at h
      by_cases hk : k < μ.length
      · rw [if_pos hk] at h
        cases ht : trim μ μ' with
        | none => rw [ht] at h; exact h.elim
        | some ν =>
          rw [ht] at h
          obtain ⟨S'', e'', hS'', hH, hF, hL⟩ := trim_ok hS e hS' ht
          obtain ⟨a, h1, h2⟩ := r
          show Q v S'.H
          rw [← hH]
          exact h v S'' e'' hS'' ⟨a, hL k a hk h1, h2⟩
      · rw [if_neg hk] at h
        exact h v S' e hS' r
/-- a def that never raises, by its body's combinators -/
theorem ok_def {x qual : Str} {st : Stmt} {f : Addr} {fd : FuncData} {N ps : List Str} {k : Nat} {g : List Wv → Sto → Rs Wv} {B : FS} (F : Fun K x qual st f fd) (S : FnScope N ps (defScope st))
    (hb : ∀ (cdv : Value) (A : Around) (outer : List PySem.Env) (s : Shared) (H : Hp) (E : XK), Room k (A.deeper (envOfC qual (defScope st) s.heap.objs.size f cdv)) → CB (cxOf CX0 P w K mg base N qual (defScope st) f cdv A outer s H E).nox W0 (defBody st) B)
    (hg : ∀ ws μ, ws.length = ps.length → g ws μ = .no ∨ g ws μ = runF N.length B ws μ) : FnOk P w K mg base CX0 (k + 1) f fd ps (spD K ps.length fun ws μ => noex (g ws μ)) := by
  refine F.ok S (fun vs H Q E h => h.1) (fun cdv A outer s H vs Q E hr h => ?_)
  obtain ⟨hl, ws, T, μ, rfl, hS, r, hp⟩ := h
  obtain ⟨t, p, q⟩ := hb cdv A outer s T.H E hr
  have hpl : ps.length ≤ N.length := by have := congrArg List.length S.pre; rw [List.length_take] at this; omega
  refine ⟨t, p, q (startE N.length ws) (L2.start N vs) T μ (start_env (N := N) r (by rw [hl]; exact hpl)) hS _ ?_⟩
  have hp : (noex (g ws μ)).Post (POk K T Q) _ := hp
  rcases hg ws μ (by rw [← rws_len r]; exact hl) with e | e
  · rw [e] at hp
    exact hp.elim
  · rw [e] at hp
    have hp : (runF N.length B ws μ).Post (POk K T Q) (fun _ _ => False) := noex_post hp
    unfold runF at hp
    rw [Rs.post_bind] at hp
    exact hp.mono (fun fl μ' h => hand_ok hS h) fun _ _ z => z.elim
end
section
variable {X : Cx} {W : WX}
/-- f(e, ..): a def that never raises -/
theorem c_call {k n : Nat} {f : Addr} {fd : FuncData} {ps : List Str} {g : List Wv → Sto → Rs Wv} {x : Str} {p pos : Pos} {e : Expr} {es : List Expr} {a : FA} (G : FnOk X.prog X.w X.K X.mg X.base CX0 k f fd ps (spD X.K n fun ws μ => noex (g ws μ))) (hr : Room k X.A) (hg : Gl X x) (hm : X.mg x = some (.ref f)) (hk : PySem.W.keepIn X.K (.ref f) = true) (hb : Binds X.K fd ps [])
    (ha : CA X W (e :: es) a) (hdb : (x == ("__debug__" : Str)) = false := by decide) (he : starEach (e :: es) X.env = (false, eval e X.env) :: starEach es X.env := by rfl) (hpl : (backTo pos (starEach es X.env)).any (·.1) = false := by rfl) :
    CEx X W (.Call (.Name x p) (e :: es) [] pos) (fCall (fun ws μ => if ws.length = n then noex (g ws μ) else .no) a) := by
  obtain ⟨t, pa, q⟩ := ha
  refine ⟨_, pe_call G hr hg hm hk hb .nil pass0 pa hdb he hpl, fun env σ S μ hE hS Q h => ?_⟩
  unfold fCall at h
  rw [Rs.post_bind] at h
  refine q env σ S μ hE hS _ (h.mono (fun ws μ1 h1 vs S1 e1 hS1 r1 => ?_) fun _ _ z => z)
  by_cases hl : ws.length = n
  · rw [if_pos hl] at h1
    rw [List.append_nil]
    exact ⟨by rw [rws_len r1]; exact hl, ws, S1, μ1, rfl, hS1, r1, by
      have q := noex_post (E' := fun _ _ => False) (h1.mono (fun a ν z => POk.mono (Q := Q) e1 z) fun _ _ z => z)
      show (noex (g ws μ1)).Post _ _
      cases eg : g ws μ1 with
      | ok a ν => rw [eg] at q; exact q
      | ex x ν => rw [eg] at q; exact q
      | no => rw [eg] at q; exact q⟩
  · rw [if_neg hl] at h1
    exact h1.elim
end
end Ped

/-! Ped6: things that change: lists and dicts of the store; the written part -/
namespace Ped
open PySem L2 PyProof.Rows PySem.Spec

/-! ### a new thing, a thing changed, a thing frozen -/
theorem HS.push {K : PySem.W.Frag} {S : Sta} {μ : Sto} (h : HS K S μ) {p : Addr} {o : HO} {ob : Ob} (hp : S.H p = none) (hob : ObR K ⟨upd S.H p o, S.F, S.L ++ [p]⟩ p ob) : HS K ⟨upd S.H p o, S.F, S.L ++ [p]⟩ (μ ++ [ob]) := by
  have hpL := h.fresh hp
  have gr : Grow S ⟨upd S.H p o, S.F, S.L ++ [p]⟩ := ⟨fun _ _ z => z, fun n a z => by
    show (S.L ++ [p])[n]? = some a
    rw [List.getElem?_append_left (List.getElem?_eq_some_iff.mp z).1]
    exact z⟩
  refine ⟨fun a u e => ?_, ?_, ?_, fun n a h1 => ?_, fun n a ob' h1 h2 h3 => ?_, fun n a ob' h1 h2 => ?_⟩
  · show upd S.H p o a = some u
    have := h.sub a u e
    rw [upd_ne (ne_of_none this hp)]
    exact this
  · show (S.L ++ [p]).length = (μ ++ [ob]).length
    rw [List.length_append, List.length_append, h.len]
    rfl
  · show (S.L ++ [p]).Nodup
    rw [List.nodup_append]
    exact ⟨h.nd, (by simp), fun a ha b hb => by
      rw [List.mem_singleton] at hb
      subst hb
      exact fun z => hpL (z ▸ ha)⟩
  · have h1 : (S.L ++ [p])[n]? = some a := h1
    show ∃ u, upd S.H p o a = some u
    by_cases ha : a = p
    · subst ha
      exact ⟨o, upd_same⟩
    · rw [upd_ne ha]
      by_cases hn : n < S.L.length
      · rw [List.getElem?_append_left hn] at h1
        exact h.tr n a h1
      · rw [List.getElem?_append_right (by omega)] at h1
        have : a ∈ [p] := List.mem_of_getElem? h1
        exact absurd (List.mem_singleton.mp this) ha
  · have h1 : (S.L ++ [p])[n]? = some a := h1
    show S.F a = none
    by_cases hn : n < S.L.length
    · rw [List.getElem?_append_left hn] at h1
      rw [List.getElem?_append_left (by rw [← h.len]; exact hn)] at h2
      exact h.lv n a ob' h1 h2 h3
    · rw [List.getElem?_append_right (by omega)] at h1
      have : a ∈ [p] := List.mem_of_getElem? h1
      rw [List.mem_singleton.mp this]
      exact h.free hp
  · have h1 : (S.L ++ [p])[n]? = some a := h1
    by_cases hn : n < S.L.length
    · rw [List.getElem?_append_left hn] at h1
      rw [List.getElem?_append_left (by rw [← h.len]; exact hn)] at h2
      refine (h.ob n a ob' h1 h2).stayG gr fun u z => ?_
      show upd S.H p o a = some u
      rw [upd_ne (ne_of_none z hp)]
      exact z
    · rw [List.getElem?_append_right (by omega)] at h1
      rw [List.getElem?_append_right (by rw [← h.len]; omega)] at h2
      have hlt := (List.getElem?_eq_some_iff.mp h1).1
      simp only [List.length_singleton] at hlt
      have e0 : n - S.L.length = 0 := by omega
      have e1 : n - μ.length = 0 := by rw [← h.len]; exact e0
      rw [e0] at h1
      rw [e1] at h2
      cases h1
      cases h2
      exact hob
theorem Ext.push {S : Sta} {p : Addr} {o : HO} (hp : S.H p = none) : Ext S ⟨upd S.H p o, S.F, S.L ++ [p]⟩ := by
  refine ⟨fun _ _ z => z, fun n a z => ?_, fun a u z _ => ?_, fun a u z => ⟨u, ?_⟩, fun a z => ?_, fun _ z => .inl z⟩
  · show (S.L ++ [p])[n]? = some a
    rw [List.getElem?_append_left (List.getElem?_eq_some_iff.mp z).1]
    exact z
  · show upd S.H p o a = some u
    rw [upd_ne (ne_of_none z hp)]
    exact z
  · show upd S.H p o a = some u
    rw [upd_ne (ne_of_none z hp)]
    exact z
  · have z : a ∈ S.L ++ [p] := z
    rcases List.mem_append.mp z with z | z
    · exact .inl z
    · rw [List.mem_singleton.mp z]
      exact .inr hp
theorem at_push {S : Sta} {p : Addr} {o : HO} {μ : Sto} (h : S.L.length = μ.length) : (⟨upd S.H p o, S.F, S.L ++ [p]⟩ : Sta).L[μ.length]? = some p := by
  show (S.L ++ [p])[μ.length]? = some p
  rw [← h, List.getElem?_append_right (Nat.le_refl _), Nat.sub_self]
  rfl
/-- the thing of number n becomes another one -/
theorem HS.put {K : PySem.W.Frag} {S : Sta} {μ : Sto} (h : HS K S μ) {n : Nat} {a : Addr} {o : HO} {ob0 ob : Ob} (hn : S.L[n]? = some a) (h0 : μ[n]? = some ob0) (hd : ob0 ≠ .dead) (hob : ObR K ⟨upd S.H a o, S.F, S.L⟩ a ob) : HS K ⟨upd S.H a o, S.F, S.L⟩ (μ.set n ob) := by
  have hF := h.lv n a ob0 hn h0 hd
  have gr : Grow S ⟨upd S.H a o, S.F, S.L⟩ := ⟨fun _ _ z => z, fun _ _ z => z⟩
  have hlt : n < μ.length := (List.getElem?_eq_some_iff.mp h0).1
  refine ⟨fun b u e => ?_, ?_, h.nd, fun m b h1 => ?_, fun m b ob' h1 h2 h3 => ?_, fun m b ob' h1 h2 => ?_⟩
  · show upd S.H a o b = some u
    rw [upd_ne (ne_of_none e hF)]
    exact h.sub b u e
  · rw [List.length_set]
    exact h.len
  · show ∃ u, upd S.H a o b = some u
    by_cases hb : b = a
    · subst hb
      exact ⟨o, upd_same⟩
    · rw [upd_ne hb]
      exact h.tr m b h1
  · by_cases hm : n = m
    · subst hm
      have h1 : S.L[n]? = some b := h1
      rw [hn] at h1
      cases h1
      exact hF
    · rw [List.getElem?_set_ne hm] at h2
      exact h.lv m b ob' h1 h2 h3
  · by_cases hm : n = m
    · subst hm
      have h1 : S.L[n]? = some b := h1
      rw [hn] at h1
      cases h1
      rw [List.getElem?_set_self hlt] at h2
      cases h2
      exact hob
    · rw [List.getElem?_set_ne hm] at h2
      have hb : b ≠ a := fun z => by
        subst z
        have h1 : S.L[m]? = some b := h1
        obtain ⟨l1, e1⟩ := List.getElem?_eq_some_iff.mp h1
        obtain ⟨l2, e2⟩ := List.getElem?_eq_some_iff.mp hn
        exact hm ((List.getElem_inj h.nd).mp (e2.trans e1.symm))
      refine (h.ob m b ob' h1 h2).stayG gr fun u z => ?_
      show upd S.H a o b = some u
      rw [upd_ne hb]
      exact z
theorem Ext.put {S : Sta} {n : Nat} {a : Addr} {o : HO} (hn : S.L[n]? = some a) : Ext S ⟨upd S.H a o, S.F, S.L⟩ := by
  refine ⟨fun _ _ z => z, fun _ _ z => z, fun b u z hb => ?_, fun b u z => ?_, fun _ z => .inl z, fun _ z => .inl z⟩
  · show upd S.H a o b = some u
    rw [upd_ne fun q => hb (by rw [q]; exact List.mem_of_getElem? hn)]
    exact z
  · show ∃ u', upd S.H a o b = some u'
    by_cases hb : b = a
    · subst hb
      exact ⟨o, upd_same⟩
    · rw [upd_ne hb]
      exact ⟨u, z⟩
/-- the list of number n is changed no more -/
theorem HS.freeze {K : PySem.W.Frag} {S : Sta} {μ : Sto} (h : HS K S μ) {n : Nat} {a : Addr} {vs : List V} {ws : List Wv} {ds : List PyData} (hn : S.L[n]? = some a) (h0 : μ[n]? = some (.lst ws)) (hH : S.H a = some (.lst vs)) (r : RWs K S vs ws) (hd : dats ws = some ds) :
    Ext S ⟨S.H, upd S.F a (.lst vs), S.L⟩ ∧ HS K ⟨S.H, upd S.F a (.lst vs), S.L⟩ (μ.set n .dead) ∧ Rp K (upd S.F a (.lst vs)) (.ref a) (.list ds) := by
  have hF := h.lv n a _ hn h0 (by intro z; cases z)
  have hlt : n < μ.length := (List.getElem?_eq_some_iff.mp h0).1
  have sb : Sb S.F (upd S.F a (.lst vs)) := fun b u z => by
    rw [upd_ne (ne_of_none z hF)]
    exact z
  refine ⟨⟨sb, fun _ _ z => z, fun _ _ z _ => z, fun _ u z => ⟨u, z⟩, fun _ z => .inl z, fun b z => ?_⟩, ⟨fun b u e => ?_, ?_, h.nd, h.tr, fun m b ob' h1 h2 h3 => ?_, fun m b ob' h1 h2 => ?_⟩, rp_lst hF (rws_dats r hd)⟩
  · by_cases hb : b = a
    · subst hb
      exact .inr (.inr (List.mem_of_getElem? hn))
    · have z : upd S.F a (.lst vs) b ≠ none := z
      rw [upd_ne hb] at z
      exact .inl z
  · have e : upd S.F a (.lst vs) b = some u := e
    by_cases hb : b = a
    · subst hb
      rw [upd_same] at e
      cases e
      exact hH
    · rw [upd_ne hb] at e
      exact h.sub b u e
  · rw [List.length_set]
    exact h.len
  · by_cases hm : n = m
    · subst hm
      rw [List.getElem?_set_self hlt] at h2
      cases h2
      exact absurd rfl h3
    · rw [List.getElem?_set_ne hm] at h2
      have hb : b ≠ a := fun z => by
        subst z
        have h1 : S.L[m]? = some b := h1
        obtain ⟨l1, e1⟩ := List.getElem?_eq_some_iff.mp h1
        obtain ⟨l2, e2⟩ := List.getElem?_eq_some_iff.mp hn
        exact hm ((List.getElem_inj h.nd).mp (e2.trans e1.symm))
      show upd S.F a (.lst vs) b = none
      rw [upd_ne hb]
      exact h.lv m b ob' h1 h2 h3
  · by_cases hm : n = m
    · subst hm
      rw [List.getElem?_set_self hlt] at h2
      cases h2
      trivial
    · rw [List.getElem?_set_ne hm] at h2
      exact ObR.stayG (S := S) (S' := ⟨S.H, upd S.F a (.lst vs), S.L⟩) ⟨sb, fun _ _ z => z⟩ (h.ob m b ob' h1 h2) fun _ z => z

section
variable {X : Cx} {W : WX}
/-! ### lists of the store -/
def fLstN (g : FA) : FE := fun env μ => (g env μ).bind fun ws μ1 => if ws.length ≤ LIM then .ok (.l μ1.length) (μ1 ++ [.lst ws]) else .no
theorem new_lstN {K : PySem.W.Frag} {S : Sta} {μ : Sto} {Q : VK} {vs : List V} {ws : List Wv} (hS : HS K S μ) (r : RWs K S vs ws) (h : POk K S Q (.l μ.length) (μ ++ [.lst ws])) : ∀ p, S.H p = none → Q (.ref p) (upd S.H p (.lst vs)) := fun p hp =>
  h (.ref p) ⟨upd S.H p (.lst vs), S.F, S.L ++ [p]⟩ (Ext.push hp) (hS.push hp ⟨vs, upd_same, r.mono (Ext.push hp)⟩) ⟨p, at_push hS.len, rfl⟩
theorem c_lstN {es : List Expr} {pos} {g : FA} (h : CA X W es g) : CEx X W (.List es pos) (fLstN g) := by
  obtain ⟨t, p, q⟩ := h
  refine ⟨_, pe_lst p, fun env σ S μ he hS Q h => ?_⟩
  unfold fLstN at h
  rw [Rs.post_bind] at h
  refine q env σ S μ he hS _ (h.mono (fun ws μ1 h1 vs S1 e1 hS1 r1 => ?_) fun _ _ z => z)
  by_cases hl : ws.length ≤ LIM
  · rw [if_pos hl] at h1
    exact ⟨by rw [rws_len r1]; exact lim_line hl, new_lstN hS1 r1 (POk.mono e1 h1)⟩
  · rw [if_neg hl] at h1
    exact h1.elim
/-- [..] * n, to be changed -/
def mulN (x y : Wv) (μ : Sto) : Rs Wv := match x, y with
  | .d (.list i), .d (.int k) => if -1000000 ≤ k ∧ k ≤ 1000000 ∧ i.length * k.toNat ≤ LIM then .ok (.l μ.length) (μ ++ [.lst ((List.replicate k.toNat i).flatten.map Wv.d)]) else .no
  | _, _ => .no
theorem mulN_nx : NoEx mulN := fun x y μ e ν q => by
  unfold mulN at q
  split at q <;> first | cases q | (split at q <;> cases q)
theorem rws_of {K : PySem.W.Frag} {S : Sta} : ∀ {vs : List V} {ds : List PyData}, RpA K S.F vs ds → RWs K S vs (ds.map Wv.d)
  | _, _, .nil => .nil
  | _, _, .cons r t => .cons r (rws_of t)
theorem c_mulN {a b : Expr} {f g : FE} {pos : Pos} (ha : CEx X W a f) (hb : CEx X W b g) : CEx X W (.BinOp a .Mult b pos) (fOp mulN f g) := by
  refine c_op op_rep (fun x y v u S μ hS hx hy Q hp => ?_) mulN_nx ha hb
  unfold mulN at hp
  split at hp
  · split at hp
    · rename_i hk
      obtain ⟨p, xs, rfl, ha, ra⟩ := rp_lst_inv hx
      cases hy
      exact ⟨p, _, xs, rfl, rfl, hS.sub _ _ ha, by omega, by omega, by rw [ra.len]; exact lim_line hk.2.2, new_lstN hS (rws_of (ra.rep _)) hp⟩
    · exact hp.elim
  · exact hp.elim
/-- the list of number n in the store -/
def lstAt (μ : Sto) (n : Nat) : Option (List Wv) := match μ[n]? with
  | some (.lst ws) => some ws
  | _ => none
theorem lstAt_some {μ : Sto} {n : Nat} {ws : List Wv} (h : lstAt μ n = some ws) : μ[n]? = some (.lst ws) := by
  unfold lstAt at h
  split at h
  · cases h; assumption
  · cases h
/-- x.append(e) -/
def fApp (f g : FE) : FE := fun env μ => (f env μ).bind fun x μ1 => match x with
  | .l n => (match lstAt μ1 n with
    | some _ => (g env μ1).bind fun y μ2 => (match lstAt μ2 n with
      | some ws => if ws.length < LIM then .ok (.d .none) (μ2.set n (.lst (ws ++ [y]))) else .no
      | none => .no)
    | none => .no)
  | _ => .no
theorem rws_append {K : PySem.W.Frag} {S : Sta} : ∀ {vs us : List V} {ws zs : List Wv}, RWs K S vs ws → RWs K S us zs → RWs K S (vs ++ us) (ws ++ zs)
  | _, _, _, _, .nil, s => s
  | _, _, _, _, .cons r t, s => .cons r (rws_append t s)
theorem c_append {o e : Expr} {f g : FE} {apos cpos : Pos} (ho : CEx X W o f) (he : CEx X W e g)
    (hbase : attributeBase o "append" X.env (eval o X.env) = eval o X.env := by rfl)
    (hfew : ((backTo cpos (starEach [e] X.env)).all (fun x => !x.1) && (backToKw cpos (keywordEach [] X.env)).all (fun x => x.1.isSome)
      && decide (([e] : List Expr).length + ([] : List Keyword).length + (if ([] : List Keyword).isEmpty then 0 else 1) < 30)) = true := by rfl)
    (hline : (apos.endLine == cpos.line) = true := by rfl) (hs : starEach [e] X.env = (false, eval e X.env) :: starEach [] X.env := by rfl) (hplain : (backTo cpos (starEach [] X.env)).any (·.1) = false := by rfl) :
    CEx X W (.Call (.Attribute o "append" apos) [e] [] cpos) (fApp f g) := by
  obtain ⟨to, po, qo⟩ := ho
  obtain ⟨te, pe, qe⟩ := he
  refine ⟨_, pe_bm PySem.F.plainAttrs_list PySem.F.slot_list_append PySem.F.type_list_append mt_append po (pa_cons pe pa_nil hs) hbase hfew hline hs hplain, fun env σ S μ hE hS Q hp => ?_⟩
  unfold fApp at hp
  rw [Rs.post_bind] at hp
  refine qo env σ S μ hE hS _ (hp.mono (fun x μ1 h1 v S1 e1 hS1 r1 => ?_) fun _ _ z => z)
  cases x with
  | d z => exact h1.elim
  | s z => exact h1.elim
  | l n =>
    obtain ⟨a, hL, rfl⟩ := r1
    simp only at h1
    cases hm : lstAt μ1 n with
    | none => rw [hm] at h1; exact h1.elim
    | some ws1 =>
      rw [hm] at h1
      obtain ⟨vs1, q1, _⟩ := hS1.ob n a _ hL (lstAt_some hm)
      refine ⟨.inl ⟨rfl, _, .inl (.inl q1)⟩, ?_⟩
      have h1 : ((g env μ1).bind _).Post _ _ := h1
      rw [Rs.post_bind] at h1
      refine qe env σ S1 μ1 (hE.mono e1) hS1 _ (h1.mono (fun y μ2 h2 u S2 e2 hS2 r2 => ?_) fun _ _ z => z.mono e1)
      cases hm2 : lstAt μ2 n with
      | none => rw [hm2] at h2; exact h2.elim
      | some ws =>
        rw [hm2] at h2
        have hL2 := e2.pf n a hL
        obtain ⟨vs, q2, q3⟩ := hS2.ob n a _ hL2 (lstAt_some hm2)
        simp only at h2
        by_cases hl : ws.length < LIM
        · rw [if_pos hl] at h2
          have h2 : POk X.K S Q (.d .none) (μ2.set n (.lst (ws ++ [y]))) := h2
          refine ⟨a, vs, u, rfl, rfl, q2, by rw [rws_len q3]; exact lim_lt (Nat.le_of_lt hl), ?_⟩
          have ex := Ext.put (o := .lst (vs ++ [u])) hL2
          exact h2 .non _ (e1.trans (e2.trans ex)) (hS2.put hL2 (lstAt_some hm2) (by intro z; cases z) ⟨_, upd_same, rws_append (q3.mono ex) (.cons (r2.mono ex) .nil)⟩) .non
        · rw [if_neg hl] at h2
          exact h2.elim
/-- o[i] = e, o a list of the store -/
def sSetIx (f g h : FE) : FS := fun env μ => (f env μ).bind fun y μ1 => (g env μ1).bind fun x μ2 => (h env μ2).bind fun i μ3 => match x, i with
  | .l n, .d (.int k) => (match lstAt μ3 n with
    | some ws => (match ixN ws.length k with
      | some j => .ok (.nx env) (μ3.set n (.lst (ws.set j y)))
      | none => .no)
    | none => .no)
  | _, _ => .no
theorem rws_set {K : PySem.W.Frag} {S : Sta} {v : V} {w : Wv} (r : RW K S v w) : ∀ {vs : List V} {ws : List Wv} (j : Nat), RWs K S vs ws → RWs K S (vs.set j v) (ws.set j w)
  | _, _, _, .nil => .nil
  | _, _, 0, .cons _ t => .cons r t
  | _, _, j + 1, .cons q t => .cons q (rws_set r j t)
theorem cs_setix {o i e : Expr} {f g h : FE} {p pos : Pos} (he : CEx X W e f) (ho : CEx X W o g) (hi : CEx X W i h)
    (ha : ∀ v, assign (.Subscript o i p) X.env v = (do
      let ov ← holding [v] (eval o X.env)
      let iv ← holding [v, ov] (eval i X.env)
      standAt p
      holding [v, ov, iv] (setItem ov iv v)
      release [v, ov, iv] []) := by intro _; rfl) (hs : swapsWithSole [.Subscript o i p] e pos.line X.env = pure false := by rfl) (hw : swappedStores [.Subscript o i p] e X.env = pure none := by rfl)
    (h1 : (assignEach [.Subscript o i p] X.env).map (·.2) = [assign (.Subscript o i p) X.env] := by rfl) : CS X W (.Assign [.Subscript o i p] e pos) (sSetIx f g h) := by
  obtain ⟨te, pe, qe⟩ := he
  obtain ⟨to, po, qo⟩ := ho
  obtain ⟨ti, pi, qi⟩ := hi
  refine ⟨_, ps_asg pe (pg_sub po pi set_list ha) hs hw h1, fun env σ S μ hE hS D hp => ?_⟩
  unfold sSetIx at hp
  rw [Rs.post_bind] at hp
  refine qe env σ S μ hE hS _ (hp.mono (fun y μ1 h1 v S1 e1 hS1 r1 => ?_) fun _ _ z => z.at hE.lenS)
  rw [Rs.post_bind] at h1
  refine qo env σ S1 μ1 (hE.mono e1) hS1 _ (h1.mono (fun x μ2 h2 u S2 e2 hS2 r2 => ?_) fun _ _ z => (z.mono e1).at hE.lenS)
  rw [Rs.post_bind] at h2
  refine qi env σ S2 μ2 (hE.mono (e1.trans e2)) hS2 _ (h2.mono (fun i μ3 h3 t S3 e3 hS3 r3 => ?_) fun _ _ z => (z.mono (e1.trans e2)).at hE.lenS)
  split at h3
  · rename_i n k
    obtain ⟨a, hL, rfl⟩ := r2
    cases r3
    cases hm : lstAt μ3 n with
    | none => rw [hm] at h3; exact h3.elim
    | some ws =>
      rw [hm] at h3
      simp only at h3
      have hL3 := e3.pf n a hL
      obtain ⟨vs, q2, q3⟩ := hS3.ob n a _ hL3 (lstAt_some hm)
      cases hj : ixN ws.length k with
      | none => rw [hj] at h3; exact h3.elim
      | some j =>
        rw [hj] at h3
        have ex := Ext.put (o := .lst (vs.set j v)) hL3
        refine ⟨a, vs, k, j, rfl, rfl, q2, by rw [rws_len q3]; exact hj, ?_⟩
        exact h3 σ _ (e1.trans (e2.trans (e3.trans ex))) (hS3.put hL3 (lstAt_some hm) (by intro z; cases z) ⟨_, upd_same, rws_set (r1.mono (e2.trans (e3.trans ex))) j (q3.mono ex)⟩) (hE.mono (e1.trans (e2.trans (e3.trans ex))))
  · exact h3.elim
/-- from here on the list at the i-th name is changed no more -/
def frz (i : Nat) (f : FS) : FS := fun env μ => match env[i]? with
  | some (some (.l n)) => (match lstAt μ n with
    | some ws => (match dats ws with
      | some ds => f (env.set i (some (.d (.list ds)))) (μ.set n .dead)
      | none => .no)
    | none => .no)
  | _ => .no
theorem cb_frz (i : Nat) {sts : List Stmt} {f : FS} (h : CB X W sts f) : CB X W sts (frz i f) := by
  obtain ⟨t, p, q⟩ := h
  refine ⟨t, p, fun env σ S μ hE hS D hp => ?_⟩
  unfold frz at hp
  split at hp
  · rename_i n hi
    cases hm : lstAt μ n with
    | none => rw [hm] at hp; exact hp.elim
    | some ws =>
      rw [hm] at hp
      simp only at hp
      cases hd : dats ws with
      | none => rw [hd] at hp; exact hp.elim
      | some ds =>
        rw [hd] at hp
        obtain ⟨v, hv, a, hL, rfl⟩ := hE.val i _ hi
        obtain ⟨vs, q1, q2⟩ := hS.ob n a _ hL (lstAt_some hm)
        obtain ⟨ex, hS', r⟩ := hS.freeze hL (lstAt_some hm) q1 q2 hd
        have hE' := (hE.mono ex).set (i := i) (w := .d (.list ds)) (v := .ref a) r
        have es : σ.set i (some (.ref a)) = σ := by
          refine List.ext_getElem? fun j => ?_
          by_cases hj : i = j
          · subst hj
            rw [List.getElem?_set_self (List.getElem?_eq_some_iff.mp hv).1, hv]
          · rw [List.getElem?_set_ne hj]
        rw [es] at hE'
        exact q _ σ _ _ hE' hS' D (hp.mono (fun fl ν z => EndOk.mono ex z) fun _ _ z => z.mono ex)
  · exact hp.elim

/-! ### dicts of the store -/
def keyD : PyData → Option Key
  | .int i => some (.inl i)
  | .str s => some (.inr s)
  | _ => none
def keysD : List PyData → Option (List Key)
  | [] => some []
  | d :: r => match keyD d, keysD r with
    | some k, some ks => some (k :: ks)
    | _, _ => none
theorem keyD_rp {K : PySem.W.Frag} {F : Hp} {v : V} {d : PyData} {k : Key} (h : keyD d = some k) (r : Rp K F v d) : v = kV k := by
  cases r <;> simp [keyD] at h
  · subst h; rfl
  · subst h; rfl
theorem keysD_rp {K : PySem.W.Frag} {F : Hp} : ∀ {vs : List V} {ds : List PyData} {ks : List Key}, keysD ds = some ks → RpA K F vs ds → vs = ks.map kV
  | _, _, ks, h, .nil => by simp [keysD] at h; subst h; rfl
  | _, _, ks, h, .cons r t => by
    unfold keysD at h
    split at h
    · rename_i k ks' h1 h2
      cases h
      rw [keyD_rp h1 r, keysD_rp h2 t]
      rfl
    · cases h
section
variable {κ : Type} [DecidableEq κ]
def valW (kvs : List (κ × Wv)) (k : κ) : Option Wv := (kvs.find? fun kv => decide (kv.1 = k)).map (·.2)
def putW (kvs : List (κ × Wv)) (k : κ) (v : Wv) : List (κ × Wv) :=
  if (kvs.any fun kv => decide (kv.1 = k)) = true then kvs.map (fun kv => if kv.1 = k then (kv.1, v) else kv) else kvs ++ [(k, v)]
theorem valW_cons (k1 k : κ) (w : Wv) (r : List (κ × Wv)) : valW ((k1, w) :: r) k = if k1 = k then some w else valW r k := by
  by_cases h : k1 = k <;> simp [valW, List.find?_cons, h]
theorem rkv_val {K : PySem.W.Frag} {S : Sta} {k : κ} : ∀ {vs : List (κ × V)} {ws : List (κ × Wv)}, RKv K S vs ws → (∀ w, valW ws k = some w → ∃ v, valV vs k = some v ∧ RW K S v w) ∧ (valW ws k = none → valV vs k = none)
  | _, _, .nil => ⟨fun w h => (by simp [valW] at h), fun _ => rfl⟩
  | (k1, v) :: vs, (k2, w) :: ws, .cons r t => by
    obtain ⟨e, r⟩ := r
    have e : k1 = k2 := e
    subst e
    obtain ⟨i1, i2⟩ := rkv_val (k := k) t
    rw [valW_cons]
    by_cases hk : k1 = k
    · rw [if_pos hk, valV_pos (p := (k1, v)) hk]
      exact ⟨fun w' h => by cases h; exact ⟨v, rfl, r⟩, fun h => by cases h⟩
    · rw [if_neg hk, valV_neg (p := (k1, v)) hk]
      exact ⟨i1, i2⟩
theorem rkv_any {K : PySem.W.Frag} {S : Sta} {k : κ} : ∀ {vs : List (κ × V)} {ws : List (κ × Wv)}, RKv K S vs ws → (vs.any fun kv => decide (kv.1 = k)) = ws.any fun kv => decide (kv.1 = k)
  | _, _, .nil => rfl
  | _, _, .cons r t => by rw [List.any_cons, List.any_cons, rkv_any t, r.1]
theorem rkv_len {K : PySem.W.Frag} {S : Sta} {vs : List (κ × V)} {ws : List (κ × Wv)} (h : RKv K S vs ws) : vs.length = ws.length := Paired.length h
theorem rkv_map {K : PySem.W.Frag} {S : Sta} {k : κ} {v : V} {w : Wv} (r : RW K S v w) : ∀ {vs : List (κ × V)} {ws : List (κ × Wv)}, RKv K S vs ws → RKv K S (vs.map fun kv => if kv.1 = k then (kv.1, v) else kv) (ws.map fun kv => if kv.1 = k then (kv.1, w) else kv)
  | _, _, .nil => .nil
  | (k1, x) :: _, (k2, y) :: _, .cons s t => by
    obtain ⟨e, s⟩ := s
    have e : k1 = k2 := e
    subst e
    refine .cons ?_ (rkv_map r t)
    show (if k1 = k then (k1, v) else (k1, x)).1 = (if k1 = k then (k1, w) else (k1, y)).1 ∧ RW K S (if k1 = k then (k1, v) else (k1, x)).2 (if k1 = k then (k1, w) else (k1, y)).2
    by_cases hk : k1 = k
    · rw [if_pos hk, if_pos hk]
      exact ⟨rfl, r⟩
    · rw [if_neg hk, if_neg hk]
      exact ⟨rfl, s⟩
theorem rkv_app {K : PySem.W.Frag} {S : Sta} : ∀ {vs us : List (κ × V)} {ws zs : List (κ × Wv)}, RKv K S vs ws → RKv K S us zs → RKv K S (vs ++ us) (ws ++ zs)
  | _, _, _, _, .nil, s => s
  | _, _, _, _, .cons r t, s => .cons r (rkv_app t s)
theorem rkv_put {K : PySem.W.Frag} {S : Sta} {k : κ} {v : V} {w : Wv} (r : RW K S v w) {vs : List (κ × V)} {ws : List (κ × Wv)} (h : RKv K S vs ws) : RKv K S (putK vs k v) (putW ws k w) := by
  unfold putK putW
  rw [rkv_any h]
  split
  · exact rkv_map r h
  · exact rkv_app h (.cons ⟨rfl, r⟩ .nil)
end
/-- a new dict, of keys that are ints and texts; of tuples of them -/
def fDictK : FE := fun _ μ => .ok (.l μ.length) (μ ++ [.dk []])
def fDictT : FE := fun _ μ => .ok (.l μ.length) (μ ++ [.dt []])
theorem c_dictK {pos : Pos} : CEx X W (.Dict [] [] pos) fDictK := ⟨_, pe_dnewK, fun env σ S μ hE hS Q h p hp =>
  h (.ref p) ⟨upd S.H p (.dK []), S.F, S.L ++ [p]⟩ (Ext.push hp) (hS.push hp ⟨[], upd_same, .nil⟩) ⟨p, at_push hS.len, rfl⟩⟩
theorem c_dictT {pos : Pos} : CEx X W (.Dict [] [] pos) fDictT := ⟨_, pe_dnewT, fun env σ S μ hE hS Q h p hp =>
  h (.ref p) ⟨upd S.H p (.dT []), S.F, S.L ++ [p]⟩ (Ext.push hp) (hS.push hp ⟨[], upd_same, .nil⟩) ⟨p, at_push hS.len, rfl⟩⟩
/-- what the dict of number n holds at a key (none: stuck) -/
def dGet (μ : Sto) (x y : Wv) : Option (Option Wv) := match x, y with
  | .l n, .d d => (match μ[n]? with
    | some (.dk kvs) => (keyD d).map fun k => valW kvs k
    | some (.dt kvs) => (match d with
      | .tuple ds => (keysD ds).map fun k => valW kvs k
      | _ => none)
    | _ => none)
  | _, _ => none
theorem dGet_ok {K : PySem.W.Frag} {S : Sta} {μ : Sto} (hS : HS K S μ) {x y : Wv} {v u : V} {r : Option Wv} (h : dGet μ x y = some r) (rx : RW K S v x) (ry : RW K S u y) : ∃ a o, v = .ref a ∧ DGet S.H a u o ∧ (∀ w, r = some w → ∃ z, o = some z ∧ RW K S z w) ∧ (r = none → o = none) := by
  unfold dGet at h
  split at h
  · rename_i n d
    obtain ⟨a, hL, rfl⟩ := rx
    split at h
    · rename_i kvs hm
      cases hk : keyD d with
      | none => rw [hk] at h; cases h
      | some k =>
        rw [hk] at h
        cases h
        obtain ⟨vs, h1, h2⟩ := hS.ob n a _ hL hm
        obtain ⟨i1, i2⟩ := rkv_val (k := k) h2
        refine ⟨a, _, rfl, by rw [keyD_rp hk ry]; exact DGet.k h1, i1, i2⟩
    · rename_i kvs hm
      split at h
      · rename_i ds
        cases hk : keysD ds with
        | none => rw [hk] at h; cases h
        | some k =>
          rw [hk] at h
          cases h
          obtain ⟨vs, h1, h2⟩ := hS.ob n a _ hL hm
          obtain ⟨i1, i2⟩ := rkv_val (k := k) h2
          obtain ⟨b, xs, rfl, hb, rb⟩ := rp_tup_inv ry
          exact ⟨a, _, rfl, DGet.t h1 (by rw [← keysD_rp hk rb]; exact hS.sub _ _ hb), i1, i2⟩
      · cases h
    · cases h
  · cases h
/-- the store behind d[y] = v -/
def dPut (μ : Sto) (x y z : Wv) : Option Sto := match x, y with
  | .l n, .d d => (match μ[n]? with
    | some (.dk kvs) => if kvs.length < LIM then (keyD d).map fun k => μ.set n (.dk (putW kvs k z)) else none
    | some (.dt kvs) => (match d with
      | .tuple ds => if kvs.length < LIM then (keysD ds).map fun k => μ.set n (.dt (putW kvs k z)) else none
      | _ => none)
    | _ => none)
  | _, _ => none
theorem dPut_ok {K : PySem.W.Frag} {S : Sta} {μ ν : Sto} (hS : HS K S μ) {x y z : Wv} {v u t : V} (h : dPut μ x y z = some ν) (rx : RW K S v x) (ry : RW K S u y) (rz : RW K S t z) : ∃ a H' S', v = .ref a ∧ DPut S.H a u t H' ∧ S'.H = H' ∧ Ext S S' ∧ HS K S' ν := by
  unfold dPut at h
  split at h
  · rename_i n d
    obtain ⟨a, hL, rfl⟩ := rx
    split at h
    · rename_i kvs hm
      split at h
      · rename_i hlen
        cases hk : keyD d with
        | none => rw [hk] at h; cases h
        | some k =>
          rw [hk] at h
          cases h
          obtain ⟨vs, h1, h2⟩ := hS.ob n a _ hL hm
          have ex := Ext.put (o := .dK (putK vs k t)) hL
          exact ⟨a, _, _, rfl, by rw [keyD_rp hk ry]; exact DPut.k h1 (by rw [rkv_len h2]; exact lim_lt (Nat.le_of_lt hlen)), rfl, ex, hS.put hL hm (by intro z; cases z) ⟨_, upd_same, rkv_put (rz.mono ex) (h2.mono ex)⟩⟩
      · cases h
    · rename_i kvs hm
      split at h
      · rename_i ds
        split at h
        · rename_i hlen
          cases hk : keysD ds with
          | none => rw [hk] at h; cases h
          | some k =>
            rw [hk] at h
            cases h
            obtain ⟨vs, h1, h2⟩ := hS.ob n a _ hL hm
            obtain ⟨b, xs, rfl, hb, rb⟩ := rp_tup_inv ry
            have ex := Ext.put (o := .dT (putK vs k t)) hL
            exact ⟨a, _, _, rfl, DPut.t h1 (by rw [← keysD_rp hk rb]; exact hS.sub _ _ hb) (by rw [rkv_len h2]; exact lim_lt (Nat.le_of_lt hlen)), rfl, ex, hS.put hL hm (by intro z; cases z) ⟨_, upd_same, rkv_put (rz.mono ex) (h2.mono ex)⟩⟩
        · cases h
      · cases h
    · cases h
  · cases h
section
variable {a b : Expr} {f g : FE} {pos : Pos}
def dgetW (x y : Wv) (μ : Sto) : Rs Wv := match dGet μ x y with
  | some (some w) => .ok w μ
  | _ => .no
def fDget (f g : FE) : FE := fOp dgetW f g
def dinW (neg : Bool) (y x : Wv) (μ : Sto) : Rs Wv := match dGet μ x y with
  | some o => .ok (.d (.bool (if neg then !o.isSome else o.isSome))) μ
  | none => .no
def fDin (neg : Bool) (f g : FE) : FE := fOp (dinW neg) f g
theorem c_dget (hu : X.A.units + 1 < cLine) (ha : CEx X W a f) (hb : CEx X W b g) (hs : NoSl b := by intro _ _; rfl) : CEx X W (.Subscript a b pos) (fDget f g) := by
  obtain ⟨ta, pa, qa⟩ := ha
  obtain ⟨tb, pb, qb⟩ := hb
  refine ⟨_, pe_dget hu pa pb hs, fun env σ S μ he hS Q hp => ?_⟩
  unfold fDget fOp at hp
  rw [Rs.post_bind] at hp
  refine qa env σ S μ he hS _ (hp.mono (fun x μ1 h1 v S1 e1 hS1 r1 => ?_) fun _ _ z => z)
  rw [Rs.post_bind] at h1
  refine qb env σ S1 μ1 (he.mono e1) hS1 _ (h1.mono (fun y μ2 h2 u S2 e2 hS2 r2 => ?_) fun _ _ z => z.mono e1)
  unfold dgetW at h2
  cases hg : dGet μ2 x y with
  | none => rw [hg] at h2; exact h2.elim
  | some r =>
    rw [hg] at h2
    cases r with
    | none => exact h2.elim
    | some w =>
      obtain ⟨a, o, rfl, hD, i1, _⟩ := dGet_ok hS2 hg (r1.mono e2) r2
      obtain ⟨z, rfl, rz⟩ := i1 w rfl
      exact ⟨a, z, rfl, hD, h2 z S2 (e1.trans e2) hS2 rz⟩
theorem din_core {neg : Bool} {ta tb : TE} (qa : ∀ env σ S μ, EnvR X.K X.N.length S env σ → HS X.K S μ → ∀ Q : VK, (f env μ).Post (POk X.K S Q) (PEx X.K W σ S) → ta σ S.H Q)
    (qb : ∀ env σ S μ, EnvR X.K X.N.length S env σ → HS X.K S μ → ∀ Q : VK, (g env μ).Post (POk X.K S Q) (PEx X.K W σ S) → tb σ S.H Q) :
    ∀ env σ S μ, EnvR X.K X.N.length S env σ → HS X.K S μ → ∀ Q : VK, (fDin neg f g env μ).Post (POk X.K S Q) (PEx X.K W σ S) →
      ta σ S.H fun y H1 => tb σ H1 fun x H2 => ∃ a o, x = .ref a ∧ DGet H2 a y o ∧ Q (.bl (if neg then !o.isSome else o.isSome)) H2 := fun env σ S μ he hS Q hp => by
  unfold fDin fOp at hp
  rw [Rs.post_bind] at hp
  refine qa env σ S μ he hS _ (hp.mono (fun y μ1 h1 v S1 e1 hS1 r1 => ?_) fun _ _ z => z)
  rw [Rs.post_bind] at h1
  refine qb env σ S1 μ1 (he.mono e1) hS1 _ (h1.mono (fun x μ2 h2 u S2 e2 hS2 r2 => ?_) fun _ _ z => z.mono e1)
  unfold dinW at h2
  cases hg : dGet μ2 x y with
  | none => rw [hg] at h2; exact h2.elim
  | some r =>
    rw [hg] at h2
    obtain ⟨a, o, rfl, hD, i1, i2⟩ := dGet_ok hS2 hg r2 (r1.mono e2)
    have e : o.isSome = r.isSome := by
      cases r with
      | none => rw [i2 rfl]; rfl
      | some w => obtain ⟨z, rfl, _⟩ := i1 w rfl; rfl
    refine ⟨a, o, rfl, hD, ?_⟩
    rw [e]
    exact h2 _ S2 (e1.trans e2) hS2 (.bl _)
theorem c_din (hu : X.A.units + 1 < cLine) (ha : CEx X W a f) (hb : CEx X W b g) (hm : behindInMarks .In b = false := by rfl) : CEx X W (.Compare a [.In] [b] pos) (fDin false f g) := by
  obtain ⟨ta, pa, qa⟩ := ha
  obtain ⟨tb, pb, qb⟩ := hb
  exact ⟨_, pe_cmp (pc_din hu pa pb) hm, din_core (neg := false) qa qb⟩
theorem c_dnotin (hu : X.A.units + 1 < cLine) (ha : CEx X W a f) (hb : CEx X W b g) (hm : behindInMarks .NotIn b = false := by rfl) : CEx X W (.Compare a [.NotIn] [b] pos) (fDin true f g) := by
  obtain ⟨ta, pa, qa⟩ := ha
  obtain ⟨tb, pb, qb⟩ := hb
  exact ⟨_, pe_cmp (pc_dnotin hu pa pb) hm, din_core (neg := true) qa qb⟩
theorem ct_din (hu : X.A.units + 1 < cLine) (ha : CEx X W a f) (hb : CEx X W b g) (hm : behindInMarks .In b = false := by rfl) : CT X W (.Compare a [.In] [b] pos) (fB (fDin false f g)) := by
  obtain ⟨ta, pa, qa⟩ := ha
  obtain ⟨tb, pb, qb⟩ := hb
  exact ⟨_, pt_cmp (pc_din hu pa pb) hm, b_core (din_core (neg := false) qa qb)⟩
theorem ct_dnotin (hu : X.A.units + 1 < cLine) (ha : CEx X W a f) (hb : CEx X W b g) (hm : behindInMarks .NotIn b = false := by rfl) : CT X W (.Compare a [.NotIn] [b] pos) (fB (fDin true f g)) := by
  obtain ⟨ta, pa, qa⟩ := ha
  obtain ⟨tb, pb, qb⟩ := hb
  exact ⟨_, pt_cmp (pc_dnotin hu pa pb) hm, b_core (din_core (neg := true) qa qb)⟩
/-- d[k] = v -/
def sDput (f g h : FE) : FS := fun env μ => (f env μ).bind fun z μ1 => (g env μ1).bind fun x μ2 => (h env μ2).bind fun y μ3 => match dPut μ3 x y z with
  | some ν => .ok (.nx env) ν
  | none => .no
theorem cs_dput {o i e : Expr} {f g h : FE} {p pos : Pos} (hu : X.A.units + 1 < cLine) (he : CEx X W e f) (ho : CEx X W o g) (hi : CEx X W i h) (hs : swapsWith e (some (.Subscript o i p)) pos.line X.env = pure false := by rfl) : CS X W (.Assign [.Subscript o i p] e pos) (sDput f g h) := by
  obtain ⟨te, pe, qe⟩ := he
  obtain ⟨to, po, qo⟩ := ho
  obtain ⟨ti, pi, qi⟩ := hi
  refine ⟨_, ps_dput hu po pi pe hs, fun env σ S μ hE hS D hp => ?_⟩
  unfold sDput at hp
  rw [Rs.post_bind] at hp
  refine qe env σ S μ hE hS _ (hp.mono (fun z μ1 h1 t S1 e1 hS1 r1 => ?_) fun _ _ z => z.at hE.lenS)
  rw [Rs.post_bind] at h1
  refine qo env σ S1 μ1 (hE.mono e1) hS1 _ (h1.mono (fun x μ2 h2 v S2 e2 hS2 r2 => ?_) fun _ _ z => (z.mono e1).at hE.lenS)
  rw [Rs.post_bind] at h2
  refine qi env σ S2 μ2 (hE.mono (e1.trans e2)) hS2 _ (h2.mono (fun y μ3 h3 u S3 e3 hS3 r3 => ?_) fun _ _ z => (z.mono (e1.trans e2)).at hE.lenS)
  split at h3
  · rename_i ν hν
    obtain ⟨a, H', S', rfl, hD, rfl, ex, hS'⟩ := dPut_ok hS3 hν (r2.mono e3) r3 (r1.mono (e2.trans e3))
    exact ⟨a, S'.H, rfl, hD, h3 σ S' (e1.trans (e2.trans (e3.trans ex))) hS' (hE.mono (e1.trans (e2.trans (e3.trans ex))))⟩
  · exact h3.elim
/-- d.get(k, x) -/
def fDget2 (f g h : FE) : FE := fun env μ => (f env μ).bind fun x μ1 => match x with
  | .l n => (match μ1[n]? with
    | some (.dk kv0) => (g env μ1).bind fun y μ2 => (h env μ2).bind fun z μ3 => (match dGet μ3 (.l n) y with
      | some o => .ok (o.getD z) μ3
      | none => .no)
    | _ => .no)
  | _ => .no
theorem c_dget2 {o e c : Expr} {f g h : FE} {apos cpos : Pos} (hu : X.A.units + 1 < cLine) (ho : CEx X W o f) (he : CEx X W e g) (hc : CEx X W c h) (m : M2 X o "get" apos e c cpos) : CEx X W (.Call (.Attribute o "get" apos) [e, c] [] cpos) (fDget2 f g h) := by
  obtain ⟨to, po, qo⟩ := ho
  obtain ⟨te, pe, qe⟩ := he
  obtain ⟨tc, pc, qc⟩ := hc
  refine ⟨_, pe_dget2 hu po pe pc m, fun env σ S μ hE hS Q hp => ?_⟩
  unfold fDget2 at hp
  rw [Rs.post_bind] at hp
  refine qo env σ S μ hE hS _ (hp.mono (fun x μ1 h1 v S1 e1 hS1 r1 => ?_) fun _ _ z => z)
  cases x with
  | d x => exact h1.elim
  | s x => exact h1.elim
  | l n =>
    obtain ⟨a, hL, rfl⟩ := r1
    simp only at h1
    split at h1
    · rename_i kv0 hm
      obtain ⟨vs0, q1, _⟩ := hS1.ob n a _ hL hm
      refine ⟨a, rfl, .inl ⟨_, .inl q1⟩, ?_⟩
      rw [Rs.post_bind] at h1
      refine qe env σ S1 μ1 (hE.mono e1) hS1 _ (h1.mono (fun y μ2 h2 u S2 e2 hS2 r2 => ?_) fun _ _ z => z.mono e1)
      rw [Rs.post_bind] at h2
      refine qc env σ S2 μ2 (hE.mono (e1.trans e2)) hS2 _ (h2.mono (fun z μ3 h3 t S3 e3 hS3 r3 => ?_) fun _ _ z => z.mono (e1.trans e2))
      split at h3
      · rename_i r hg
        obtain ⟨a', o, e', hD, i1, i2⟩ := dGet_ok hS3 hg (v := .ref a) ⟨a, e3.pf n a (e2.pf n a hL), rfl⟩ (r2.mono e3)
        cases e'
        refine ⟨o, hD, ?_⟩
        cases r with
        | none =>
          rw [i2 rfl]
          exact h3 t S3 (e1.trans (e2.trans e3)) hS3 r3
        | some w =>
          obtain ⟨q, rfl, rq⟩ := i1 w rfl
          exact h3 q S3 (e1.trans (e2.trans e3)) hS3 rq
      · exact h3.elim
    · exact h1.elim
end
end
end Ped

/-! Ped7: the written part: tuples and dicts that stand at the top; a law's end -/
namespace Ped
open PySem L2 PyProof.Rows PySem.Spec

/-- at a stands a tuple of the top, of these data -/
structure KTup (K : PySem.W.Frag) (a : Addr) (ds : List PyData) : Prop where
  ex : ∃ vs, (∀ H, SqT K H a vs) ∧ ∀ F, RpA K F vs ds
theorem ktup_mk {K : PySem.W.Frag} {a : Addr} {vs : List V} {ds : List PyData} {c : Value} {dd : Option Addr} {its : Array Value} {n : Nat} {sl : Array (Option Value)} (h : K.lookup a = some ⟨c, dd, .seq its n, sl⟩) (hc : c = .type "tuple") (hz : its.size ≤ sizeLine) (hv : Vals vs its.toList) (hr : ∀ F, RpA K F vs ds) : KTup K a ds :=
  ⟨vs, fun H => .inr ⟨_, its, n, h, hc, rfl, hz, hv⟩, hr⟩
section
variable {X : Cx} {W : WX}
/-- x in T, T a tuple of the top -/
def inKW (neg : Bool) (ds : List PyData) (x : Wv) (μ : Sto) : Rs Wv := match x with
  | .d d => if flatD d = true ∧ ds.all flatD = true then .ok (.d (.bool (if neg then !(ds.any fun z => PyData.eqv z d) else ds.any fun z => PyData.eqv z d))) μ else .no
  | _ => .no
def f1 (h : Wv → Sto → Rs Wv) (f : FE) : FE := fun env μ => (f env μ).bind h
section
variable {e : Expr} {f : FE} {x : Str} {p pos : Pos} {a : Addr} {ds : List PyData}
theorem inK_core {neg : Bool} {te : TE} (kt : KTup X.K a ds)
    (q : ∀ env σ S μ, EnvR X.K X.N.length S env σ → HS X.K S μ → ∀ Q : VK, (f env μ).Post (POk X.K S Q) (PEx X.K W σ S) → te σ S.H Q) :
    ∀ env σ S μ, EnvR X.K X.N.length S env σ → HS X.K S μ → ∀ Q : VK, (f1 (inKW neg ds) f env μ).Post (POk X.K S Q) (PEx X.K W σ S) → tOp (rIn X.K neg) te (tC (.ref a)) σ S.H Q := fun env σ S μ he hS Q hp => by
  unfold f1 at hp
  rw [Rs.post_bind] at hp
  refine q env σ S μ he hS _ (hp.mono (fun w μ1 h1 v S1 e1 hS1 r1 => ?_) fun _ _ z => z)
  obtain ⟨vs, k1, k2⟩ := kt.ex
  unfold inKW at h1
  split at h1
  · split at h1
    · rename_i hf
      refine ⟨a, vs, rfl, .inr (k1 _), by rw [flat_of r1]; exact hf.1, by rw [flats_of (k2 S1.F)]; exact hf.2, h1 _ S1 e1 hS1 ?_⟩
      rw [inV_of hf.1 r1 (k2 S1.F) hf.2]
      exact .bl _
    · exact h1.elim
  · exact h1.elim
theorem c_inK (kt : KTup X.K a ds) (hg : Gl X x) (hm : X.mg x = some (.ref a)) (he : CEx X W e f) (hd : (x == ("__debug__" : Str)) = false := by decide) (hb : behindInMarks .In (.Name x p) = false := by rfl) : CEx X W (.Compare e [.In] [.Name x p] pos) (f1 (inKW false ds) f) := by
  obtain ⟨t, pe, q⟩ := he
  exact ⟨_, pe_cmpR op_in_seq pe (pe_glob (v := .ref a) hg hm rfl hd) hb, inK_core kt q⟩
theorem ct_inK (kt : KTup X.K a ds) (hg : Gl X x) (hm : X.mg x = some (.ref a)) (he : CEx X W e f) (hd : (x == ("__debug__" : Str)) = false := by decide) (hb : behindInMarks .In (.Name x p) = false := by rfl) : CT X W (.Compare e [.In] [.Name x p] pos) (fB (f1 (inKW false ds) f)) := by
  obtain ⟨t, pe, q⟩ := he
  exact ⟨_, pt_cmpR op_in_seq pe (pe_glob (v := .ref a) hg hm rfl hd) hb, b_core (inK_core kt q)⟩
/-- T + e -/
def addKW (ds : List PyData) (y : Wv) (μ : Sto) : Rs Wv := match y with
  | .d (.tuple es) => if ds ≠ [] ∧ es ≠ [] ∧ ds.length + es.length ≤ LIM then .ok (.d (.tuple (ds ++ es))) μ else .no
  | _ => .no
theorem c_addK (kt : KTup X.K a ds) (hg : Gl X x) (hm : X.mg x = some (.ref a)) (he : CEx X W e f) (hd : (x == ("__debug__" : Str)) = false := by decide) : CEx X W (.BinOp (.Name x p) .Add e pos) (f1 (addKW ds) f) := by
  obtain ⟨t, pe, q⟩ := he
  refine ⟨_, pe_op op_catA (pe_glob (v := .ref a) hg hm rfl hd) pe, fun env σ S μ hE hS Q hp => ?_⟩
  unfold f1 at hp
  rw [Rs.post_bind] at hp
  refine q env σ S μ hE hS _ (hp.mono (fun w μ1 h1 v S1 e1 hS1 r1 => ?_) fun _ _ z => z)
  obtain ⟨vs, k1, k2⟩ := kt.ex
  unfold addKW at h1
  split at h1
  · rename_i es
    split at h1
    · rename_i hc
      obtain ⟨b, ys, rfl, hb, rb⟩ := rp_tup_inv r1
      have ra := k2 S1.F
      have n1 : vs ≠ [] := fun z => hc.1 (ra.nil_iff.mpr z)
      have n2 : ys ≠ [] := fun z => hc.2.1 (rb.nil_iff.mpr z)
      exact ⟨a, b, vs, ys, rfl, rfl, k1 _, .inl (.inl (hS1.sub _ _ hb)), by rw [ra.len, rb.len]; exact lim_line hc.2.2, fun z => absurd z n1, fun _ z => absurd z n2, fun _ _ => new_tup hS1 (ra.append rb) (POk.mono e1 h1)⟩
    · exact h1.elim
  · exact h1.elim
end

/-! ### a dict of the top, of texts to pairs of ints -/
structure KTab (K : PySem.W.Frag) (w : World) (d : Addr) (tab : List (Str × Int × Int)) : Prop where
  kd : ∃ es n, KDict K w d es n
  no : ∀ z, tab.lookup z = none → PySem.W.nsIn K d z = some none
  yes : ∀ z lo hi, tab.lookup z = some (lo, hi) → ∃ u, PySem.W.nsIn K d z = some (some (.ref u)) ∧ ∀ H, SqT K H u [V.int lo, V.int hi]
section
variable {e : Expr} {f : FE} {x : Str} {p pos : Pos} {d : Addr} {tab : List (Str × Int × Int)}
def inTabW (neg : Bool) (tab : List (Str × Int × Int)) (x : Wv) (μ : Sto) : Rs Wv := match x with
  | .d (.str z) => .ok (.d (.bool (if neg then !(tab.lookup z).isSome else (tab.lookup z).isSome))) μ
  | _ => .no
theorem KTab.get {K : PySem.W.Frag} {w : World} {d : Addr} {tab : List (Str × Int × Int)} (k : KTab K w d tab) (z : Str) : ∃ r, PySem.W.nsIn K d z = some r ∧ r.isSome = (tab.lookup z).isSome := by
  cases h : tab.lookup z with
  | none => exact ⟨none, k.no z h, rfl⟩
  | some q =>
    obtain ⟨u, h1, _⟩ := k.yes z q.1 q.2 h
    exact ⟨_, h1, rfl⟩
theorem ct_notinTab (kt : KTab X.K X.w d tab) (hg : Gl X x) (hm : X.mg x = some (.ref d)) (he : CEx X W e f) (hd : (x == ("__debug__" : Str)) = false := by decide) (hb : behindInMarks .NotIn (.Name x p) = false := by rfl) : CT X W (.Compare e [.NotIn] [.Name x p] pos) (fB (f1 (inTabW true tab) f)) := by
  obtain ⟨t, pe, q⟩ := he
  obtain ⟨es, n, D⟩ := kt.kd
  refine ⟨_, pt_cmpR (op_notIn_kd D) pe (pe_glob (v := .ref d) hg hm rfl hd) hb, b_core fun env σ S μ hE hS Q hp => ?_⟩
  unfold f1 at hp
  rw [Rs.post_bind] at hp
  refine q env σ S μ hE hS _ (hp.mono (fun w μ1 h1 v S1 e1 hS1 r1 => ?_) fun _ _ z => z)
  unfold inTabW at h1
  split at h1
  · rename_i z
    cases r1
    obtain ⟨r, h2, h3⟩ := kt.get z
    exact ⟨z, r, rfl, rfl, h2, by rw [h3]; exact h1 _ S1 e1 hS1 (.bl _)⟩
  · exact h1.elim
/-- low, high = T[e] -/
def sTab (tab : List (Str × Int × Int)) (i j : Nat) (f : FE) : FS := fun env μ => (f env μ).bind fun x μ1 => match x with
  | .d (.str z) => (match tab.lookup z with
    | some (lo, hi) => .ok (.nx ((env.set i (some (.d (.int lo)))).set j (some (.d (.int hi))))) μ1
    | none => .no)
  | _ => .no
theorem cs_tab (i j : Nat) {xl xh : Str} {kk : Nat} {pl ph pt psub : Pos} (kt : KTab X.K X.w d tab) (hc : X.calm = true) (hN : X.N.Nodup) (hi : X.N[i]? = some xl) (hj : X.N[j]? = some xh) (hl : Loc X.env.scope xl) (hh : Loc X.env.scope xh) (hg : Gl X x) (hm : X.mg x = some (.ref d)) (he : CEx X W e f)
    (hf1 : X.fn xl = true ∨ X.env.scope.names.lookup xl = some .local := by first | exact .inl rfl | exact .inr rfl | assumption) (hf2 : X.fn xh = true ∨ X.env.scope.names.lookup xh = some .local := by first | exact .inl rfl | exact .inr rfl | assumption)
    (hd : (x == ("__debug__" : Str)) = false := by decide) (hs : PlainIx e := by intro _ _; rfl)
    (hs1 : swapsWithSole [.Tuple [.Name xl pl, .Name xh ph] kk pt] (.Subscript (.Name x p) e psub) pos.line X.env = pure false := by rfl) (hw : swappedStores [.Tuple [.Name xl pl, .Name xh ph] kk pt] (.Subscript (.Name x p) e psub) X.env = pure none := by rfl)
    (ha : (assignEach [.Tuple [.Name xl pl, .Name xh ph] kk pt] X.env).map (·.2) = [assign (.Tuple [.Name xl pl, .Name xh ph] kk pt) X.env] := by rfl)
    (hc1 : (assignEach [.Name xl pl, .Name xh ph] X.env).map (·.2) = assign (.Name xl pl) X.env :: (assignEach [.Name xh ph] X.env).map (·.2) := by rfl) (hc2 : (assignEach [.Name xh ph] X.env).map (·.2) = assign (.Name xh ph) X.env :: (assignEach [] X.env).map (·.2) := by rfl)
    (hn : (assignEach [.Name xl pl, .Name xh ph] X.env).length = 2 := by rfl) (hst : (assignEach [.Name xl pl, .Name xh ph] X.env).findIdx? (·.1) = none := by rfl) :
    CS X W (.Assign [.Tuple [.Name xl pl, .Name xh ph] kk pt] (.Subscript (.Name x p) e psub) pos) (sTab tab i j f) := by
  obtain ⟨t, pe, q⟩ := he
  refine ⟨_, ps_asg (pe_ix (ix_kdict (X := X)) (pe_glob (v := .ref d) hg hm rfl hd) pe hs) (pg_tup hc (pgs_cons (pg_name hN hi hl hf1) (pgs_cons (pg_name hN hj hh hf2) pgs_nil hc2) hc1) hn hst) hs1 hw ha, fun env σ S μ hE hS D hp => ?_⟩
  unfold sTab at hp
  rw [Rs.post_bind] at hp
  refine q env σ S μ hE hS _ (hp.mono (fun w μ1 h1 v S1 e1 hS1 r1 => ?_) fun _ _ z => z.at hE.lenS)
  split at h1
  · rename_i z
    split at h1
    · rename_i lo hi' hl'
      cases r1
      obtain ⟨u, h2, h3⟩ := kt.yes z lo hi' hl'
      refine ⟨d, z, .ref u, rfl, rfl, ?_, u, [.int lo, .int hi'], rfl, h3 _, rfl, .int lo, [.int hi'], rfl, .int hi', [], rfl, rfl, ?_⟩
      · obtain ⟨es, n, D⟩ := kt.kd
        exact ⟨es, n, _, D.at_, D.lit, h2, rfl⟩
      · exact h1 _ S1 e1 hS1 (((hE.mono e1).set (w := .d (.int lo)) (.int lo)).set (w := .d (.int hi')) (.int hi'))
    · exact h1.elim
  · exact h1.elim
end
end

/-! ### the end -/
theorem law_end {K : PySem.W.Frag} {g : List Wv → Sto → Rs Wv} {H : Hp} {a : Addr} {ns : List Int} {E : XK} (hO : Only H) (hS : SqL K H a (ns.map V.int)) {μ : Sto} (hg : g [.s ns] [] = .ok (.d (.bool true)) μ) : spD K 1 (fun ws μ => noex (g ws μ)) [.ref a] H (fun v _ => v = .bl true) E := by
  refine ⟨rfl, [.s ns], ⟨H, H, []⟩, [], rfl, ⟨Sb.refl H, rfl, List.nodup_nil, fun n a z => ?_, fun n a ob z => ?_, fun n a ob z => ?_⟩, .cons ⟨a, hS, rfl⟩ .nil, ?_⟩
  · simp at z
  · simp at z
  · simp at z
  · show (noex (g [.s ns] [])).Post _ _
    rw [hg]
    intro v S' _ _ r
    cases r
    rfl
end Ped

namespace Ped
open PySem L2 PyProof.Rows PySem.Spec
/-! ### the defs of the text by their names -/
/-- the def x stands as the top has made it -/
def DefAt (K : PySem.W.Frag) (mg : Str → Option Value) (x : Str) (st : Stmt) (ps : List Str) : Prop := ∃ f fd, mg x = some (.ref f) ∧ Fun K x x st f fd ∧ Binds K fd ps []
/-- .. and promises sp, at level k -/
def OkAt (P : Program) (w : World) (K : PySem.W.Frag) (mg : Str → Option Value) (base : Heap) (k : Nat) (x : Str) (ps : List Str) (n : Nat) (g : List Wv → Sto → Rs Wv) : Prop :=
  ∃ f fd, mg x = some (.ref f) ∧ PySem.W.keepIn K (.ref f) = true ∧ Binds K fd ps [] ∧ FnOk P w K mg base CX0 k f fd ps (spD K n fun ws μ => noex (g ws μ))
theorem defAt_mk {K : PySem.W.Frag} {h : Heap} {mg : Str → Option Value} {x : Str} {st : Stmt} {ps : List Str} {f : Addr} {od an : Option Addr} {sl : Array (Option Value)} {oc kV dc pm cd ct : Value} (X : K.In h) (G : h.Ns mainGlobals mg)
    (a : PySem.W.nsIn K mainGlobals x = some (some (.ref f))) (l : K.lookup f = some ⟨oc, od, .func (PySem.W.fnOf x x (defArgs st) (defBody st) (defScope st) .none kV dc pm an cd ct), sl⟩) (c : PySem.W.codeIn K cd x = true) (k : PySem.W.keepIn K (.ref f) = true)
    (hb : ∀ (kV doc pm : Value) (an : Option Addr) (cdv ct : Value) (us : List Value), us.length = ps.length → bindArgs (PySem.W.fnOf x x (defArgs st) (defBody st) (defScope st) .none kV doc pm an cdv ct) ⟨us, []⟩ = pure (ps.zip us)) : DefAt K mg x st ps := by
  have F := fun_mk (st := st) l c k
  exact ⟨f, _, PySem.W.mg_of X G a, F, F.binds (ps := ps) hb⟩
section
variable {P : Program} {w : World} {K : PySem.W.Frag} {mg : Str → Option Value} {base : Heap}
theorem okAt_mk {x : Str} {st : Stmt} {N ps : List Str} {k : Nat} {g : List Wv → Sto → Rs Wv} {B : FS} (F : DefAt K mg x st ps) (S : FnScope N ps (defScope st))
    (hb : ∀ (f : Addr) (cdv : Value) (A : Around) (outer : List PySem.Env) (s : Shared) (H : Hp) (E : XK), Room k (A.deeper (envOfC x (defScope st) s.heap.objs.size f cdv)) → CB (cxOf CX0 P w K mg base N x (defScope st) f cdv A outer s H E).nox W0 (defBody st) B)
    (hg : ∀ ws μ, ws.length = ps.length → g ws μ = .no ∨ g ws μ = runF N.length B ws μ) : OkAt P w K mg base (k + 1) x ps ps.length g := by
  obtain ⟨f, fd, h1, h2, h3⟩ := F
  exact ⟨f, fd, h1, h2.kp, h3, ok_def h2 S (fun cdv A outer s H E => hb f cdv A outer s H E) hg⟩
end
/-- what a call does -/
def callD (n : Nat) (g : List Wv → Sto → Rs Wv) (ws : List Wv) (μ : Sto) : Rs Wv := if ws.length = n then noex (g ws μ) else .no
section
variable {X : Cx} {W : WX}
theorem c_fn {k n : Nat} {ps : List Str} {g : List Wv → Sto → Rs Wv} {x : Str} {p pos : Pos} {e : Expr} {es : List Expr} {a : FA} (G : OkAt X.prog X.w X.K X.mg X.base k x ps n g) (hr : Room k X.A) (hg : Gl X x)
    (ha : CA X W (e :: es) a) (hdb : (x == ("__debug__" : Str)) = false := by decide) (he : starEach (e :: es) X.env = (false, eval e X.env) :: starEach es X.env := by rfl) (hpl : (backTo pos (starEach es X.env)).any (·.1) = false := by rfl) :
    CEx X W (.Call (.Name x p) (e :: es) [] pos) (fCall (callD n g) a) := by
  obtain ⟨f, fd, h1, h2, h3, h4⟩ := G
  exact c_call h4 hr hg h1 h2 h3 ha hdb he hpl
theorem c_fn0 {k n : Nat} {ps : List Str} {g : List Wv → Sto → Rs Wv} {x : Str} {p pos : Pos} (G : OkAt X.prog X.w X.K X.mg X.base k x ps n g) (hr : Room k X.A) (hg : Gl X x) (hdb : (x == ("__debug__" : Str)) = false := by decide) :
    CEx X W (.Call (.Name x p) [] [] pos) (fCall (callD n g) fNil) := by
  obtain ⟨f, fd, h1, h2, h3, h4⟩ := G
  refine ⟨_, pe_call0 h4 hr hg h1 h2 h3 .nil pass0 hdb, fun env σ S μ hE hS Q h => ?_⟩
  show spD X.K n (fun ws μ => noex (g ws μ)) ([] ++ []) S.H Q E0
  have h : (callD n g [] μ).Post (POk X.K S Q) (PEx X.K W σ S) := h
  unfold callD at h
  by_cases hl : ([] : List Wv).length = n
  · rw [if_pos hl] at h
    refine ⟨hl, [], S, μ, rfl, hS, .nil, ?_⟩
    have q := noex_post (E' := fun _ _ => False) (show (noex (g [] μ)).Post _ _ from h)
    show (noex (g [] μ)).Post _ _
    cases eg : g [] μ with
    | ok a ν => rw [eg] at q; exact q
    | ex x ν => rw [eg] at q; exact q
    | no => rw [eg] at q; exact q
  · rw [if_neg hl] at h
    exact h.elim
/-- the items of a list or a tuple -/
def itS (f : FE) : FIt := fun env μ => (f env μ).bind fun w μ1 => match w with
  | .d (.list xs) => .ok xs μ1
  | .d (.tuple xs) => .ok xs μ1
  | _ => .no
theorem pi_or {tg e : Expr} {w1 w2 : TI} (h1 : PI X tg e w1) (h2 : PI X tg e w2) : PI X tg e (fun σ H R => w1 σ H R ∨ w2 σ H R) := ⟨fun pins s σ H R I h => by
  rcases h with h | h
  · exact h1.run pins s σ H R I h
  · exact h2.run pins s σ H R I h⟩
theorem ci_seq {tg l : Expr} {f : FE} (h : CEx X W l f) : CI X W tg l (itS f) := by
  obtain ⟨w1, p1, q1⟩ := ci_list (tg := tg) h
  obtain ⟨w2, p2, q2⟩ := ci_tup (tg := tg) h
  refine ⟨_, pi_or p1 p2, fun env σ S μ he hS R hp => ?_⟩
  unfold itS at hp
  cases hf : f env μ with
  | no => rw [hf] at hp; exact hp.elim
  | ex x ν => 
    refine .inl (q1 env σ S μ he hS R ?_)
    unfold itV
    rw [hf] at hp ⊢
    exact hp
  | ok w ν =>
    rw [hf] at hp
    have hp : Rs.Post (match w with | .d (.list xs) => .ok xs ν | .d (.tuple xs) => .ok xs ν | _ => .no) _ _ := hp
    split at hp
    · refine .inl (q1 env σ S μ he hS R ?_)
      unfold itV
      rw [hf]
      exact hp
    · refine .inr (q2 env σ S μ he hS R ?_)
      unfold itT
      rw [hf]
      exact hp
    · exact hp.elim
theorem ok_mulL : OkR X rRep mulL := fun x y v u S μ hS hx hy Q hp => by
  unfold mulL at hp
  split at hp
  · split at hp
    · rename_i hk
      obtain ⟨p, xs, rfl, ha, ra⟩ := rp_lst_inv hx
      cases hy
      exact ⟨p, _, xs, rfl, rfl, hS.sub _ _ ha, by omega, by omega, by rw [ra.len]; exact lim_line hk.2.2, new_lst hS (ra.rep _) hp⟩
    · exact hp.elim
  · exact hp.elim
/-- e * e, ints, a list and an int -/
def mulW (x y : Wv) (μ : Sto) : Rs Wv := match x, y with
  | .d (.int i), .d (.int j) => if CMul i j then .ok (.d (.int (i * j))) μ else .no
  | .d (.list _), _ => mulL x y μ
  | _, _ => .no
theorem mulW_nx : NoEx mulW := fun x y μ e ν q => by
  unfold mulW at q
  split at q
  · split at q <;> cases q
  · exact mulL_nx _ _ _ _ _ q
  · cases q
theorem c_mul {a b : Expr} {f g : FE} {pos : Pos} (ha : CEx X W a f) (hb : CEx X W b g) : CEx X W (.BinOp a .Mult b pos) (fOp mulW f g) := by
  refine c_op (OpR.or op_mul op_rep) (fun x y v u S μ hS hx hy Q hp => ?_) mulW_nx ha hb
  unfold mulW at hp
  split at hp
  · split at hp
    · cases hx; cases hy
      exact .inl ⟨_, _, rfl, rfl, by assumption, hp _ S (Ext.refl S) hS (.int _)⟩
    · exact hp.elim
  · exact .inr (ok_mulL _ _ v u S μ hS hx hy Q hp)
  · exact hp.elim
/-- list(range(..)) -/
def fRg1 (f : FE) : FE := fun env μ => (f env μ).bind fun w μ1 => match w with
  | .d (.int j) => if -1000000 ≤ j ∧ j ≤ 1000000 then .ok (.d (.list (rangeD 0 j.toNat))) μ1 else .no
  | _ => .no
def fRg2 (f g : FE) : FE := fun env μ => (f env μ).bind fun w μ1 => (g env μ1).bind fun z μ2 => match w, z with
  | .d (.int i), .d (.int j) => if (-1000000 ≤ i ∧ i ≤ 1000000) ∧ -1000000 ≤ j ∧ j ≤ 1000000 then .ok (.d (.list (rangeD i (j - i).toNat))) μ2 else .no
  | _, _ => .no
theorem rg_rp {K : PySem.W.Frag} {F : Hp} (i : Int) (n : Nat) : RpA K F ((List.range n).map fun k => V.int (i + (k : Nat))) (rangeD i n) := by
  unfold rangeD
  induction List.range n with
  | nil => exact .nil
  | cons a r ih => exact .cons (.int _) ih
theorem c_listRg1 {a : Expr} {f : FE} {p q qos pos : Pos} (hc : X.calm = true) (hgl : Gl X "list") (hml : X.mg "list" = none) (hg : Gl X "range") (hm : X.mg "range" = none) (h : CEx X W a f) (na : starEach [a] X.env = (false, eval a X.env) :: starEach [] X.env := by rfl)
    (na2 : starEach [.Call (.Name "range" q) [a] [] qos] X.env = (false, eval (.Call (.Name "range" q) [a] [] qos) X.env) :: starEach [] X.env := by rfl) : CEx X W (.Call (.Name "list" p) [.Call (.Name "range" q) [a] [] qos] [] pos) (fRg1 f) := by
  obtain ⟨t, pa, qa⟩ := h
  refine ⟨_, pe_listRg hc hgl hml (prg_1 hg hm pa na) na2, fun env σ S μ he hS Q hp => ?_⟩
  unfold fRg1 at hp
  rw [Rs.post_bind] at hp
  refine qa env σ S μ he hS _ (hp.mono (fun w μ1 h1 v S1 e1 hS1 r1 => ?_) fun _ _ z => z)
  split at h1
  · split at h1
    · rename_i j hj
      cases r1
      refine ⟨j, rfl, ⟨by omega, by omega, by omega, by omega, by omega⟩, new_lst hS1 ?_ (POk.mono e1 h1)⟩
      have := rg_rp (K := X.K) (F := S1.F) 0 j.toNat
      unfold rgV
      rw [Int.sub_zero]
      exact this
    · exact h1.elim
  · exact h1.elim
theorem c_listRg2 {a b : Expr} {f g : FE} {p q qos pos : Pos} (hc : X.calm = true) (hgl : Gl X "list") (hml : X.mg "list" = none) (hg : Gl X "range") (hm : X.mg "range" = none) (h : CEx X W a f) (h' : CEx X W b g) (na : starEach [a, b] X.env = (false, eval a X.env) :: starEach [b] X.env := by rfl) (nb : starEach [b] X.env = (false, eval b X.env) :: starEach [] X.env := by rfl) (hpb : (backTo qos (starEach [b] X.env)).any (·.1) = false := by rfl)
    (na2 : starEach [.Call (.Name "range" q) [a, b] [] qos] X.env = (false, eval (.Call (.Name "range" q) [a, b] [] qos) X.env) :: starEach [] X.env := by rfl) : CEx X W (.Call (.Name "list" p) [.Call (.Name "range" q) [a, b] [] qos] [] pos) (fRg2 f g) := by
  obtain ⟨t, pa, qa⟩ := h
  obtain ⟨t', pb, qb⟩ := h'
  refine ⟨_, pe_listRg hc hgl hml (prg_2 hg hm pa pb na nb hpb) na2, fun env σ S μ he hS Q hp => ?_⟩
  unfold fRg2 at hp
  rw [Rs.post_bind] at hp
  refine qa env σ S μ he hS _ (hp.mono (fun w μ1 h1 v S1 e1 hS1 r1 => ?_) fun _ _ z => z)
  rw [Rs.post_bind] at h1
  refine qb env σ S1 μ1 (he.mono e1) hS1 _ (h1.mono (fun w' μ2 h2 u S2 e2 hS2 r2 => ?_) fun _ _ z => z.mono e1)
  have r1' := r1.mono e2
  split at h2
  · split at h2
    · rename_i i j hj
      cases r1'
      cases r2
      exact ⟨i, j, rfl, rfl, ⟨by omega, by omega, by omega, by omega, by omega⟩, new_lst hS2 (rg_rp i (j - i).toNat) (POk.mono (e1.trans e2) h2)⟩
    · exact h2.elim
  · exact h2.elim
end
end Ped

/-! Ped8: the text's facts: rooms, constants, tables, kinds; the end of a law's walk -/
namespace Ped
open PySem L2 PyProof.Rows PySem.Spec
theorem ru1 {k : Nat} {A : Around} (r : Room k A) : A.units + 1 < cLine := by have := r.un; omega
theorem ru64 {k : Nat} {A : Around} (r : Room k A) : A.units + 64 < cLine := by have := r.un; omega
theorem ru65 {k : Nat} {A : Around} (r : Room k A) : A.units + 65 < cLine := by have := r.un; omega
def tyS (T a : String) : Bool := a == T || (T == "int" && a == "bool")
theorem k_int (d : D) : kitB (tyD d) "int" = some (isTy "int" d) := by
  cases d
  · exact (show kitB "NoneType" "int" = some (tyS "int" "NoneType") by decide +kernel)
  · exact (show kitB "bool" "int" = some (tyS "int" "bool") by decide +kernel)
  · exact (show kitB "int" "int" = some (tyS "int" "int") by decide +kernel)
  · exact (show kitB "str" "int" = some (tyS "int" "str") by decide +kernel)
  · exact (show kitB "list" "int" = some (tyS "int" "list") by decide +kernel)
  · exact (show kitB "tuple" "int" = some (tyS "int" "tuple") by decide +kernel)
  · exact (show kitB "dict" "int" = some (tyS "int" "dict") by decide +kernel)
theorem k_str (d : D) : kitB (tyD d) "str" = some (isTy "str" d) := by
  cases d
  · exact (show kitB "NoneType" "str" = some (tyS "str" "NoneType") by decide +kernel)
  · exact (show kitB "bool" "str" = some (tyS "str" "bool") by decide +kernel)
  · exact (show kitB "int" "str" = some (tyS "str" "int") by decide +kernel)
  · exact (show kitB "str" "str" = some (tyS "str" "str") by decide +kernel)
  · exact (show kitB "list" "str" = some (tyS "str" "list") by decide +kernel)
  · exact (show kitB "tuple" "str" = some (tyS "str" "tuple") by decide +kernel)
  · exact (show kitB "dict" "str" = some (tyS "str" "dict") by decide +kernel)
theorem k_bool (d : D) : kitB (tyD d) "bool" = some (isTy "bool" d) := by
  cases d
  · exact (show kitB "NoneType" "bool" = some (tyS "bool" "NoneType") by decide +kernel)
  · exact (show kitB "bool" "bool" = some (tyS "bool" "bool") by decide +kernel)
  · exact (show kitB "int" "bool" = some (tyS "bool" "int") by decide +kernel)
  · exact (show kitB "str" "bool" = some (tyS "bool" "str") by decide +kernel)
  · exact (show kitB "list" "bool" = some (tyS "bool" "list") by decide +kernel)
  · exact (show kitB "tuple" "bool" = some (tyS "bool" "tuple") by decide +kernel)
  · exact (show kitB "dict" "bool" = some (tyS "bool" "dict") by decide +kernel)
theorem k_tuple (d : D) : kitB (tyD d) "tuple" = some (isTy "tuple" d) := by
  cases d
  · exact (show kitB "NoneType" "tuple" = some (tyS "tuple" "NoneType") by decide +kernel)
  · exact (show kitB "bool" "tuple" = some (tyS "tuple" "bool") by decide +kernel)
  · exact (show kitB "int" "tuple" = some (tyS "tuple" "int") by decide +kernel)
  · exact (show kitB "str" "tuple" = some (tyS "tuple" "str") by decide +kernel)
  · exact (show kitB "list" "tuple" = some (tyS "tuple" "list") by decide +kernel)
  · exact (show kitB "tuple" "tuple" = some (tyS "tuple" "tuple") by decide +kernel)
  · exact (show kitB "dict" "tuple" = some (tyS "tuple" "dict") by decide +kernel)
theorem k_list (d : D) : kitB (tyD d) "list" = some (isTy "list" d) := by
  cases d
  · exact (show kitB "NoneType" "list" = some (tyS "list" "NoneType") by decide +kernel)
  · exact (show kitB "bool" "list" = some (tyS "list" "bool") by decide +kernel)
  · exact (show kitB "int" "list" = some (tyS "list" "int") by decide +kernel)
  · exact (show kitB "str" "list" = some (tyS "list" "str") by decide +kernel)
  · exact (show kitB "list" "list" = some (tyS "list" "list") by decide +kernel)
  · exact (show kitB "tuple" "list" = some (tyS "list" "tuple") by decide +kernel)
  · exact (show kitB "dict" "list" = some (tyS "list" "dict") by decide +kernel)
theorem k_dict (d : D) : kitB (tyD d) "dict" = some (isTy "dict" d) := by
  cases d
  · exact (show kitB "NoneType" "dict" = some (tyS "dict" "NoneType") by decide +kernel)
  · exact (show kitB "bool" "dict" = some (tyS "dict" "bool") by decide +kernel)
  · exact (show kitB "int" "dict" = some (tyS "dict" "int") by decide +kernel)
  · exact (show kitB "str" "dict" = some (tyS "dict" "str") by decide +kernel)
  · exact (show kitB "list" "dict" = some (tyS "dict" "list") by decide +kernel)
  · exact (show kitB "tuple" "dict" = some (tyS "dict" "tuple") by decide +kernel)
  · exact (show kitB "dict" "dict" = some (tyS "dict" "dict") by decide +kernel)
section
variable {X : Cx} {W : WX}
/-- a text, an int that the top binds -/
theorem c_globS {x : Str} {z : Str} {pos : Pos} (hg : Gl X x) (hm : ∃ t, X.mg x = some (.str z t)) (hd : (x == ("__debug__" : Str)) = false := by decide) : CEx X W (.Name x pos) (fC (.str z)) := by
  obtain ⟨t, h⟩ := hm
  exact c_glob (v := .str z) hg h ⟨t, rfl⟩ (fun _ => .str z) hd
theorem c_globI {x : Str} {z : Int} {pos : Pos} (hg : Gl X x) (hm : ∃ t, X.mg x = some (.int z t)) (hd : (x == ("__debug__" : Str)) = false := by decide) : CEx X W (.Name x pos) (fC (.int z)) := by
  obtain ⟨t, h⟩ := hm
  exact c_glob (v := .int z) hg h ⟨t, rfl⟩ (fun _ => .int z) hd
end
/-- the entries of a dict of the top, of texts to pairs of ints -/
inductive TabE (K : PySem.W.Frag) (P : Params) : List DictEntry → List (Str × Int × Int) → Prop
  | nil : TabE K P [] []
  | cons {h : Int} {x : Str} {t : Tok} {u : Addr} {r : List DictEntry} {tab : List (Str × Int × Int)} {lo hi : Int} {c : Value} {dd : Option Addr} {its : Array Value} {n : Nat} {sl : Array (Option Value)}
      (hh : h = PyData.keyHash P x) (hl : K.lookup u = some ⟨c, dd, .seq its n, sl⟩) (hc : c = .type "tuple") (hz : its.size ≤ sizeLine) (hv : Vals [V.int lo, V.int hi] its.toList) (hr : TabE K P r tab) : TabE K P (⟨h, .str x t, .ref u⟩ :: r) ((x, lo, hi) :: tab)
theorem TabE.lit {K : PySem.W.Frag} {P : Params} {es : List DictEntry} {tab : List (Str × Int × Int)} (h : TabE K P es tab) : PySem.W.KeysLit P es := by
  induction h with
  | nil => trivial
  | cons hh _ _ _ _ _ ih => exact ⟨⟨_, _, rfl, hh⟩, ih⟩
theorem TabE.ref {K : PySem.W.Frag} {P : Params} {es : List DictEntry} {tab : List (Str × Int × Int)} (h : TabE K P es tab) : es.any (·.refKey) = false := by
  induction h with
  | nil => rfl
  | cons hh _ _ _ _ _ ih => rw [List.any_cons, ih]; rfl
theorem TabE.no {K : PySem.W.Frag} {P : Params} {es : List DictEntry} {tab : List (Str × Int × Int)} (h : TabE K P es tab) (z : Str) (hz : tab.lookup z = none) : es.find? (·.key.isStr z) = none := by
  induction h with
  | nil => rfl
  | @cons h x t u r tab lo hi c dd its n sl hh _ _ _ _ _ ih =>
    rw [List.lookup_cons] at hz
    by_cases e : z = x
    · subst e
      simp at hz
    · have e' : (z == x) = false := by simpa using e
      rw [e'] at hz
      rw [List.find?_cons]
      have q : (Value.str x t).isStr z = false := by
        show (x == z) = false
        have : ¬ x = z := fun w => e w.symm
        simpa using this
      simp only [q]
      exact ih hz
theorem TabE.yes {K : PySem.W.Frag} {P : Params} {es : List DictEntry} {tab : List (Str × Int × Int)} (h : TabE K P es tab) (z : Str) (lo hi : Int) (hz : tab.lookup z = some (lo, hi)) : ∃ e u, es.find? (·.key.isStr z) = some e ∧ e.val = .ref u ∧ ∀ H, SqT K H u [V.int lo, V.int hi] := by
  induction h with
  | nil => cases hz
  | @cons h x t u r tab lo' hi' c dd its n sl hh hl hc hs hv hr ih =>
    rw [List.lookup_cons] at hz
    rw [List.find?_cons]
    by_cases e : z = x
    · subst e
      simp at hz
      obtain ⟨rfl, rfl⟩ := hz
      have q : (Value.str z t).isStr z = true := by
        show (z == z) = true
        simp
      simp only [q]
      exact ⟨_, u, rfl, rfl, fun H => .inr ⟨_, its, n, hl, hc, rfl, hs, hv⟩⟩
    · have e' : (z == x) = false := by simpa using e
      rw [e'] at hz
      have q : (Value.str x t).isStr z = false := by
        show (x == z) = false
        have : ¬ x = z := fun w => e w.symm
        simpa using this
      simp only [q]
      exact ih hz
theorem ktab_mk {K : PySem.W.Frag} {w : World} {d : Addr} {c : Value} {dd : Option Addr} {es : Array DictEntry} {n : Nat} {sl : Array (Option Value)} {tab : List (Str × Int × Int)} (h : K.lookup d = some ⟨c, dd, .dict es n, sl⟩) (hc : c = .type "dict") (hdd : dd = none) (hsl : sl = #[]) (hlow : (d == sysModules) = false) (he : TabE K w.params es.toList tab) : KTab K w d tab := by
  subst hc hdd hsl
  refine ⟨⟨es, n, h, he.lit, hlow⟩, fun z hz => ?_, fun z lo hi hz => ?_⟩
  · unfold PySem.W.nsIn
    rw [h]
    simp only
    rw [he.no z hz, he.ref]
    rfl
  · obtain ⟨e, u, h1, h2, h3⟩ := he.yes z lo hi hz
    refine ⟨u, ?_, h3⟩
    unfold PySem.W.nsIn
    rw [h]
    simp only
    rw [h1]
    simp only
    rw [h2]
/-- a tuple of texts of the top -/
theorem rpA_strV {K : PySem.W.Frag} (ns : List Str) (F : Hp) : RpA K F (ns.map V.str) (ns.map PyData.str) := RpA.strs ns
inductive ValS : List Value → List Str → Prop
  | nil : ValS [] []
  | cons {z : Str} {t : Tok} {r : List Value} {ns : List Str} (h : ValS r ns) : ValS (.str z t :: r) (z :: ns)
theorem ValS.vals {vs : List Value} {ns : List Str} (h : ValS vs ns) : Vals (ns.map V.str) vs := by
  induction h with
  | nil => exact .nil
  | cons _ ih => exact .cons ⟨_, rfl⟩ ih
theorem ktupS_mk {K : PySem.W.Frag} {a : Addr} {ns : List Str} {c : Value} {dd : Option Addr} {its : Array Value} {n : Nat} {sl : Array (Option Value)} (h : K.lookup a = some ⟨c, dd, .seq its n, sl⟩) (hc : c = .type "tuple") (hz : its.size ≤ sizeLine) (hv : ValS its.toList ns) : KTup K a (ns.map PyData.str) :=
  ktup_mk h hc hz hv.vals (rpA_strV ns)
theorem glob_mk {K : PySem.W.Frag} {h : Heap} {mg : Str → Option Value} (X : K.In h) (G : h.Ns mainGlobals mg) {x : Str} {v : Value} (a : PySem.W.nsIn K mainGlobals x = some (some v)) : mg x = some v := PySem.W.mg_of X G a
theorem globS_mk {K : PySem.W.Frag} {h : Heap} {mg : Str → Option Value} (X : K.In h) (G : h.Ns mainGlobals mg) {x z : Str} {v : Value} (a : PySem.W.nsIn K mainGlobals x = some (some v)) (hv : ∃ t, v = .str z t) : ∃ t, mg x = some (.str z t) := by
  obtain ⟨t, rfl⟩ := hv
  exact ⟨t, PySem.W.mg_of X G a⟩
theorem globI_mk {K : PySem.W.Frag} {h : Heap} {mg : Str → Option Value} (X : K.In h) (G : h.Ns mainGlobals mg) {x : Str} {z : Int} {v : Value} (a : PySem.W.nsIn K mainGlobals x = some (some v)) (hv : ∃ t, v = .int z t) : ∃ t, mg x = some (.int z t) := by
  obtain ⟨t, rfl⟩ := hv
  exact ⟨t, PySem.W.mg_of X G a⟩
/-- the end: the law's def promises True -/
theorem walk {l : PySem.W.OpenLaw} {q : Program} {loose : List Str} {XP : (Str → Option Value) → Heap → Prop} {YP : World → Heap → Prop} {d : DefRec} {K : Params → PySem.W.Frag} {k : Nat} {g : List Wv → Sto → Rs Wv} (hn : l.most = some 63) (hdf : d.params.defaults = []) (hr : Room k callerA)
    (hY : ∀ (w : World) (h : Heap), YP w h → (K w.params).In h)
    (hg : ∀ ns : List Int, ns.length ≤ 63 → (∀ z ∈ ns, Builtin.Int.intBits z ≤ 1048576) → ∃ μ, g [.s ns] [] = .ok (.d (.bool true)) μ)
    (F : ∀ (w : World) (mg : Str → Option Value) (fa : Addr) (h : Heap), (K w.params).In h → h.Ns mainGlobals mg → mg d.name = some (.ref fa) →
      ∃ fd : FuncData, (∀ (s : Shared) (u : Value), BindsTo s fd ⟨[u], []⟩ [("script", u)]) ∧ ∀ base : Heap, (K w.params).In base → base.Ns mainGlobals mg → FnOk l.prog w (K w.params) mg base CX0 k fa fd ["script"] (spD (K w.params) 1 fun ws μ => noex (g ws μ))) :
    PySem.W.WalkO q loose XP YP l.row.toRowW d [] (fun f vs => PySem.call f vs) :=
  L2.walk_ofB (n := 63) (k := k) (x := "script") (CX := fun _ => CX0) (sp := fun w => spD (K w.params) 1 fun ws μ => noex (g ws μ)) hn (by decide) hdf hr hY F (fun _ _ a ns hl hb hO hS => by
    obtain ⟨μ, h⟩ := hg ns hl hb
    exact law_end hO hS h) fun _ _ _ _ _ z => z
/-- the law's own def -/
theorem law_fd {P : Program} {w : World} {K : PySem.W.Frag} {h : Heap} {mg : Str → Option Value} {k : Nat} {g : List Wv → Sto → Rs Wv} {fa f : Addr} {st : Stmt} {od an : Option Addr} {sl : Array (Option Value)} {oc kV dc pm cd ct : Value} (hfa : mg "law" = some (.ref fa)) (X : K.In h) (G : h.Ns mainGlobals mg)
    (a : PySem.W.nsIn K mainGlobals "law" = some (some (.ref f))) (l : K.lookup f = some ⟨oc, od, .func (PySem.W.fnOf "law" "law" (defArgs st) (defBody st) (defScope st) .none kV dc pm an cd ct), sl⟩) (c : PySem.W.codeIn K cd "law" = true) (kp : PySem.W.keepIn K (.ref f) = true)
    (hb : ∀ (kV doc pm : Value) (an : Option Addr) (cdv ct : Value) (u : Value), bindArgs (PySem.W.fnOf "law" "law" (defArgs st) (defBody st) (defScope st) .none kV doc pm an cdv ct) ⟨[u], []⟩ = pure [(("script" : Str), u)])
    (hok : ∀ base : Heap, K.In base → base.Ns mainGlobals mg → ∀ f fd, Fun K "law" "law" st f fd → FnOk P w K mg base CX0 k f fd ["script"] (spD K 1 fun ws μ => noex (g ws μ))) :
    ∃ fd : FuncData, (∀ (s : Shared) (u : Value), BindsTo s fd ⟨[u], []⟩ [("script", u)]) ∧ ∀ base : Heap, K.In base → base.Ns mainGlobals mg → FnOk P w K mg base CX0 k fa fd ["script"] (spD K 1 fun ws μ => noex (g ws μ)) := by
  have F := fun_mk (st := st) l c kp
  have e := hfa.symm.trans (PySem.W.mg_of X G a)
  cases e
  exact ⟨_, fun s u => .of_eq (hb _ _ _ _ _ _ u), fun base hX hG => hok base hX hG _ _ F⟩
end Ped


namespace Ped
open PySem L2 PyProof.Rows PySem.Spec
def v_PLAIN : List PyData := (["turn", "fold"] : List Str).map PyData.str
def v_BOUNDS : List (Str × Int × Int) := [("louder", 2, 4), ("cut", 1, 50), ("gate", 1, 50), ("lift", -20, 20), ("steps", 2, 5), ("late", 1, 5)]
noncomputable def B_is_number : FS := sRet (fAndV (fIsi "int" (fVar 0)) (fNotV (fIsi "bool" (fVar 0))))
noncomputable def g_is_number (ws : List Wv) (μ : Sto) : Rs Wv := runF 1 B_is_number ws μ
noncomputable def B_is_pedal : FS := sCons (sIf (fOr (fNot (fB (fIsi "tuple" (fVar 0)))) (fOr (fB (fOp (eqW false) (fVar 0) (fTup (fNil)))) (fNot (fB (fIsi "str" (fOp ixW (fVar 0) (fC (.int 0)))))))) (sRet (fC (.bool false))) (sNil)) (sCons (sIf (fB (f1 (inKW false v_PLAIN) (fOp ixW (fVar 0) (fC (.int 0))))) (sRet (fOp (eqW false) (fCall kLen (fCons (fVar 0) (fNil))) (fC (.int 1)))) (sNil)) (sCons (sIf (fOr (fB (f1 (inTabW true v_BOUNDS) (fOp ixW (fVar 0) (fC (.int 0))))) (fOr (fB (fOp (eqW true) (fCall kLen (fCons (fVar 0) (fNil))) (fC (.int 2)))) (fNot (fB (fCall (callD 1 g_is_number) (fCons (fOp ixW (fVar 0) (fC (.int 1))) (fNil))))))) (sRet (fC (.bool false))) (sNil)) (sCons (sTab v_BOUNDS 1 2 (fOp ixW (fVar 0) (fC (.int 0)))) (sRet (fAndV (fChain leW leW (fVar 1) (fOp ixW (fVar 0) (fC (.int 1))) (fVar 2)) (fOp (eqW true) (fOp ixW (fVar 0) (fC (.int 1))) (fC (.int 0))))))))
noncomputable def g_is_pedal (ws : List Wv) (μ : Sto) : Rs Wv := runF 3 B_is_pedal ws μ
noncomputable def B_is_row : FS := sRet (fAndV (fIsi "tuple" (fVar 0)) (fAndV (fOp (cmpW fun i j => decide (i ≤ j)) (fCall kLen (fCons (fVar 0) (fNil))) (fC (.int 6))) (fCall kAll (fCons (fComp (itS (fVar 0)) (gVar 1) (fYes) (fCall (callD 1 g_is_pedal) (fCons (fVar 1) (fNil))) [1]) (fNil)))))
noncomputable def g_is_row (ws : List Wv) (μ : Sto) : Rs Wv := runF 2 B_is_row ws μ
noncomputable def B_is_board : FS := sRet (fAndV (fIsi "tuple" (fVar 0)) (fAndV (fChain leW leW (fC (.int 1)) (fCall kLen (fCons (fVar 0) (fNil))) (fC (.int 3))) (fCall kAll (fCons (fComp (itS (fVar 0)) (gVar 1) (fYes) (fCall (callD 1 g_is_row) (fCons (fVar 1) (fNil))) [1]) (fNil)))))
noncomputable def g_is_board (ws : List Wv) (μ : Sto) : Rs Wv := runF 2 B_is_board ws μ
noncomputable def B_are_numbers : FS := sRet (fAndV (fIsi "tuple" (fVar 0)) (fCall kAll (fCons (fComp (itS (fVar 0)) (gVar 1) (fYes) (fCall (callD 1 g_is_number) (fCons (fVar 1) (fNil))) [1]) (fNil))))
noncomputable def g_are_numbers (ws : List Wv) (μ : Sto) : Rs Wv := runF 2 B_are_numbers ws μ
noncomputable def B_is_sound : FS := sRet (fAndV (fCall (callD 1 g_are_numbers) (fCons (fVar 0) (fNil))) (fOp (cmpW fun i j => decide (i ≤ j)) (fCall kLen (fCons (fVar 0) (fNil))) (fC (.int 40))))
noncomputable def g_is_sound (ws : List Wv) (μ : Sto) : Rs Wv := runF 1 B_is_sound ws μ
noncomputable def B_need_row : FS := sIf (fNot (fB (fCall (callD 1 g_is_row) (fCons (fVar 0) (fNil))))) ((fun _ _ => .no)) (sNil)
noncomputable def g_need_row (ws : List Wv) (μ : Sto) : Rs Wv := runF 1 B_need_row ws μ
noncomputable def B_need_board : FS := sIf (fNot (fB (fCall (callD 1 g_is_board) (fCons (fVar 0) (fNil))))) ((fun _ _ => .no)) (sNil)
noncomputable def g_need_board (ws : List Wv) (μ : Sto) : Rs Wv := runF 1 B_need_board ws μ
noncomputable def B_need_sound : FS := sIf (fNot (fB (fCall (callD 1 g_is_sound) (fCons (fVar 0) (fNil))))) ((fun _ _ => .no)) (sNil)
noncomputable def g_need_sound (ws : List Wv) (μ : Sto) : Rs Wv := runF 1 B_need_sound ws μ
noncomputable def B_need_number : FS := sIf (fNot (fB (fCall (callD 1 g_is_number) (fCons (fVar 0) (fNil))))) ((fun _ _ => .no)) (sNil)
noncomputable def g_need_number (ws : List Wv) (μ : Sto) : Rs Wv := runF 1 B_need_number ws μ
noncomputable def B_late_of : FS := sRet (fCall kSum (fCons (fComp (itS (fVar 0)) (gVar 1) (fB (fOp (eqW false) (fOp ixW (fVar 1) (fC (.int 0))) (fC (.str "late")))) (fOp ixW (fVar 1) (fC (.int 1))) [1]) (fNil)))
noncomputable def g_late_of (ws : List Wv) (μ : Sto) : Rs Wv := runF 2 B_late_of ws μ
noncomputable def B_board_late : FS := sRet (fCall kMax (fCons (fComp (itS (fVar 0)) (gVar 1) (fYes) (fCall (callD 1 g_late_of) (fCons (fVar 1) (fNil))) [1]) (fNil)))
noncomputable def g_board_late (ws : List Wv) (μ : Sto) : Rs Wv := runF 2 B_board_late ws μ
noncomputable def B_pedal_shape : FS := sCons (sAsg (fOp ixW (fVar 0) (fC (.int 0))) (gVar 2)) (sCons (sIf (fB (fOp (eqW false) (fVar 2) (fC (.str "louder")))) (sRet (fOp mulW (fVar 1) (fOp ixW (fVar 0) (fC (.int 1))))) (sNil)) (sCons (sIf (fB (fOp (eqW false) (fVar 2) (fC (.str "cut")))) (sRet (fCall kMax2 (fCons (fOp (opI fun i j => some (.int (i - j))) (fC (.int 0)) (fOp ixW (fVar 0) (fC (.int 1)))) (fCons (fCall kMin2 (fCons (fOp ixW (fVar 0) (fC (.int 1))) (fCons (fVar 1) (fNil)))) (fNil))))) (sNil)) (sCons (sIf (fB (fOp (eqW false) (fVar 2) (fC (.str "gate")))) (sRet (fIf (fOr (fB (fOp (cmpW fun i j => decide (j ≤ i)) (fVar 1) (fOp ixW (fVar 0) (fC (.int 1))))) (fB (fOp (cmpW fun i j => decide (i ≤ j)) (fVar 1) (fOp (opI fun i j => some (.int (i - j))) (fC (.int 0)) (fOp ixW (fVar 0) (fC (.int 1))))))) (fVar 1) (fC (.int 0)))) (sNil)) (sCons (sIf (fB (fOp (eqW false) (fVar 2) (fC (.str "turn")))) (sRet (fOp (opI fun i j => some (.int (i - j))) (fC (.int 0)) (fVar 1))) (sNil)) (sCons (sIf (fB (fOp (eqW false) (fVar 2) (fC (.str "fold")))) (sRet (fCall kMax2 (fCons (fVar 1) (fCons (fOp (opI fun i j => some (.int (i - j))) (fC (.int 0)) (fVar 1)) (fNil))))) (sNil)) (sCons (sIf (fB (fOp (eqW false) (fVar 2) (fC (.str "lift")))) (sRet (fOp addW (fVar 1) (fOp ixW (fVar 0) (fC (.int 1))))) (sNil)) (sCons (sIf (fB (fOp (eqW false) (fVar 2) (fC (.str "steps")))) (sRet (fIf (fB (fOp (cmpW fun i j => decide (j ≤ i)) (fVar 1) (fC (.int 0)))) (fOp (opI fun i j => some (.int (i - j))) (fVar 1) (fOp (opI modI) (fVar 1) (fOp ixW (fVar 0) (fC (.int 1))))) (fOp addW (fOp (opI modI) (fOp (opI fun i j => some (.int (i - j))) (fC (.int 0)) (fVar 1)) (fOp ixW (fVar 0) (fC (.int 1)))) (fVar 1)))) (sNil)) (sRet (fVar 1)))))))))
noncomputable def g_pedal_shape (ws : List Wv) (μ : Sto) : Rs Wv := runF 3 B_pedal_shape ws μ
noncomputable abbrev L_row_shape_1 : FS := sAsg (fCall (callD 2 g_pedal_shape) (fCons (fVar 2) (fCons (fVar 1) (fNil)))) (gVar 1)
noncomputable def B_row_shape : FS := sCons (sFor (itS (fVar 0)) (gVar 2) (L_row_shape_1)) (sRet (fVar 1))
noncomputable def g_row_shape (ws : List Wv) (μ : Sto) : Rs Wv := runF 3 B_row_shape ws μ
noncomputable def B_number_at : FS := sRet (fIf (fB (fChain leW ltW (fC (.int 0)) (fVar 1) (fCall kLen (fCons (fVar 0) (fNil))))) (fOp ixW (fVar 0) (fVar 1)) (fC (.int 0)))
noncomputable def g_number_at (ws : List Wv) (μ : Sto) : Rs Wv := runF 2 B_number_at ws μ
noncomputable def B_heard_at : FS := sRet (fCall kSum (fCons (fComp (itS (fVar 0)) (gVar 3) (fYes) (fCall (callD 2 g_row_shape) (fCons (fVar 3) (fCons (fCall (callD 2 g_number_at) (fCons (fVar 1) (fCons (fOp (opI fun i j => some (.int (i - j))) (fVar 2) (fCall (callD 1 g_late_of) (fCons (fVar 3) (fNil)))) (fNil)))) (fNil)))) [3]) (fNil)))
noncomputable def g_heard_at (ws : List Wv) (μ : Sto) : Rs Wv := runF 4 B_heard_at ws μ
noncomputable def B_all_heard : FS := sRet (fComp (itS (fRg1 (fOp addW (fCall kLen (fCons (fVar 1) (fNil))) (fCall (callD 1 g_board_late) (fCons (fVar 0) (fNil)))))) (gVar 2) (fYes) (fCall (callD 3 g_heard_at) (fCons (fVar 0) (fCons (fVar 1) (fCons (fVar 2) (fNil))))) [2])
noncomputable def g_all_heard (ws : List Wv) (μ : Sto) : Rs Wv := runF 3 B_all_heard ws μ
noncomputable def B_shaped : FS := sCons (sExpr (fCall (callD 1 g_need_row) (fCons (fVar 0) (fNil)))) (sCons (sExpr (fCall (callD 1 g_need_number) (fCons (fVar 1) (fNil)))) (sRet (fCall (callD 2 g_row_shape) (fCons (fVar 0) (fCons (fVar 1) (fNil))))))
noncomputable def g_shaped (ws : List Wv) (μ : Sto) : Rs Wv := runF 2 B_shaped ws μ
noncomputable def B_heard : FS := sCons (sExpr (fCall (callD 1 g_need_board) (fCons (fVar 0) (fNil)))) (sCons (sExpr (fCall (callD 1 g_need_sound) (fCons (fVar 1) (fNil)))) (sRet (fCall (callD 2 g_all_heard) (fCons (fVar 0) (fCons (fVar 1) (fNil))))))
noncomputable def g_heard (ws : List Wv) (μ : Sto) : Rs Wv := runF 2 B_heard ws μ
noncomputable def B_silence : FS := sCons (sExpr (fCall (callD 1 g_need_board) (fCons (fVar 0) (fNil)))) (sRet (fCall (callD 3 g_heard_at) (fCons (fVar 0) (fCons (fTup (fNil)) (fCons (fC (.int 0)) (fNil))))))
noncomputable def g_silence (ws : List Wv) (μ : Sto) : Rs Wv := runF 1 B_silence ws μ
noncomputable def B__law_bag : FS := sCons (sAsg (fIf (fB (fOp (cmpW fun i j => decide (i < j)) (fVar 1) (fCall kLen (fCons (fVar 0) (fNil))))) (fCall kAbs (fCons (fCall kInt (fCons (fOp ixW (fVar 0) (fVar 1)) (fNil))) (fNil))) (fOp addW (fOp mulW (fC (.int 53)) (fVar 1)) (fC (.int 13)))) (gVar 2)) (sRet (fLstN (fCons (fIf (fB (fOp (cmpW fun i j => decide (j ≤ i)) (fVar 2) (fOp (opI fun i j => if CPow i j then some (.int (i ^ j.toNat)) else none) (fC (.int 10)) (fC (.int 18))))) (fVar 2) (fC (.int 0))) (fCons (fOp (opI modI) (fCall kInt (fCons (fOp addW (fOp addW (fOp (opI modI) (fCall kInt (fCons (fVar 2) (fNil))) (fC (.int 2147483423))) (fOp mulW (fC (.int 70001)) (fVar 1))) (fC (.int 31))) (fNil))) (fC (.int 2147483423))) (fNil)))))
noncomputable def g__law_bag (ws : List Wv) (μ : Sto) : Rs Wv := runF 3 B__law_bag ws μ
noncomputable def B__law_take : FS := sCons (sIf (fB (fOp (cmpW fun i j => decide (j < i)) (fOp ixW (fVar 0) (fC (.int 0))) (fC (.int 0)))) (sCons (sAsg (fOp (opI modI) (fCall kInt (fCons (fOp ixW (fVar 0) (fC (.int 0))) (fNil))) (fVar 1)) (gVar 3)) (sCons (sSetIx (fOp (opI divI) (fCall kInt (fCons (fOp ixW (fVar 0) (fC (.int 0))) (fNil))) (fVar 1)) (fVar 0) (fC (.int 0))) (sRet (fVar 3)))) (sNil)) (sCons (sSetIx (fOp (opI modI) (fCall kInt (fCons (fOp addW (fOp mulW (fOp ixW (fVar 0) (fC (.int 1))) (fC (.int 41358))) (fC (.int 211))) (fNil))) (fC (.int 2147483423))) (fVar 0) (fC (.int 1))) (sCons (sAsg (fOp (opI modI) (fOp mulW (fCall kInt (fCons (fOp ixW (fVar 0) (fC (.int 1))) (fNil))) (fOp addW (fOp (opI divI) (fCall kInt (fCons (fOp ixW (fVar 0) (fC (.int 1))) (fNil))) (fC (.int 9))) (fC (.int 23)))) (fC (.int 2147483407))) (gVar 2)) (sRet (fOp (opI modI) (fCall kInt (fCons (fOp (opI divI) (fCall kInt (fCons (fVar 2) (fNil))) (fC (.int 15))) (fNil))) (fVar 1)))))
noncomputable def g__law_take (ws : List Wv) (μ : Sto) : Rs Wv := runF 4 B__law_take ws μ
noncomputable def B__law_of : FS := sRet (fOp ixW (fVar 1) (fCall (callD 2 g__law_take) (fCons (fVar 0) (fCons (fCall kLen (fCons (fVar 1) (fNil))) (fNil)))))
noncomputable def g__law_of (ws : List Wv) (μ : Sto) : Rs Wv := runF 2 B__law_of ws μ
noncomputable def B__law_pedal : FS := sCons (sAsg (fLst (fCons (fC (.str "louder")) (fCons (fC (.str "cut")) (fCons (fC (.str "cut")) (fCons (fC (.str "gate")) (fCons (fC (.str "turn")) (fCons (fC (.str "fold")) (fCons (fC (.str "lift")) (fCons (fC (.str "lift")) (fCons (fC (.str "steps")) (fNil))))))))))) (gVar 2)) (sCons (sAsg (fCall (callD 2 g__law_of) (fCons (fVar 0) (fCons (fOp addW (fVar 2) (fLst (fCons (fIf (fB (fVar 1)) (fC (.str "late")) (fC (.str "gate"))) (fNil)))) (fNil)))) (gVar 3)) (sCons (sIf (fB (fOp (inW false) (fVar 3) (fLst (fCons (fC (.str "turn")) (fCons (fC (.str "fold")) (fNil)))))) (sRet (fTup (fCons (fVar 3) (fNil)))) (sNil)) (sCons (sIf (fB (fOp (eqW false) (fVar 3) (fC (.str "louder")))) (sRet (fTup (fCons (fVar 3) (fCons (fOp addW (fC (.int 2)) (fCall (callD 2 g__law_take) (fCons (fVar 0) (fCons (fC (.int 3)) (fNil))))) (fNil))))) (sNil)) (sCons (sIf (fB (fOp (eqW false) (fVar 3) (fC (.str "lift")))) (sRet (fTup (fCons (fVar 3) (fCons (fOp mulW (fCall (callD 2 g__law_of) (fCons (fVar 0) (fCons (fLst (fCons (fNeg (fC (.int 1))) (fCons (fC (.int 1)) (fNil)))) (fNil)))) (fOp addW (fC (.int 1)) (fCall (callD 2 g__law_take) (fCons (fVar 0) (fCons (fCall (callD 2 g__law_of) (fCons (fVar 0) (fCons (fLst (fCons (fC (.int 3)) (fCons (fC (.int 20)) (fNil)))) (fNil)))) (fNil)))))) (fNil))))) (sNil)) (sCons (sIf (fB (fOp (eqW false) (fVar 3) (fC (.str "steps")))) (sRet (fTup (fCons (fVar 3) (fCons (fOp addW (fC (.int 2)) (fCall (callD 2 g__law_take) (fCons (fVar 0) (fCons (fC (.int 4)) (fNil))))) (fNil))))) (sNil)) (sRet (fTup (fCons (fVar 3) (fCons (fOp addW (fC (.int 1)) (fCall (callD 2 g__law_take) (fCons (fVar 0) (fCons (fIf (fB (fOp (eqW false) (fVar 3) (fC (.str "late")))) (fC (.int 5)) (fCall (callD 2 g__law_of) (fCons (fVar 0) (fCons (fLst (fCons (fC (.int 4)) (fCons (fC (.int 9)) (fCons (fC (.int 50)) (fNil))))) (fNil))))) (fNil))))) (fNil))))))))))
noncomputable def g__law_pedal (ws : List Wv) (μ : Sto) : Rs Wv := runF 4 B__law_pedal ws μ
noncomputable def B__law_pedals : FS := sRet (fCall kTuple (fCons (fComp (itR1 (fCall (callD 2 g__law_take) (fCons (fVar 0) (fCons (fOp addW (fVar 1) (fC (.int 1))) (fNil))))) (gVar 3) (fYes) (fCall (callD 2 g__law_pedal) (fCons (fVar 0) (fCons (fVar 2) (fNil)))) [3]) (fNil)))
noncomputable def g__law_pedals (ws : List Wv) (μ : Sto) : Rs Wv := runF 4 B__law_pedals ws μ
noncomputable def B__law_board : FS := sCons (sAsg (fCall (callD 2 g__law_of) (fCons (fVar 0) (fCons (fLst (fCons (fC (.int 1)) (fCons (fC (.int 1)) (fCons (fC (.int 2)) (fCons (fC (.int 3)) (fNil)))))) (fNil)))) (gVar 2)) (sRet (fCall kTuple (fCons (fComp (itR1 (fVar 2)) (gVar 3) (fYes) (fCall (callD 3 g__law_pedals) (fCons (fVar 0) (fCons (fVar 1) (fCons (fC (.bool true)) (fNil))))) [3]) (fNil))))
noncomputable def g__law_board (ws : List Wv) (μ : Sto) : Rs Wv := runF 4 B__law_board ws μ
noncomputable abbrev L__law_numbers_1 : FS := sCons (sAsg (fCall (callD 2 g__law_of) (fCons (fVar 0) (fCons (fLst (fCons (fC (.int 4)) (fCons (fC (.int 12)) (fCons (fC (.int 60)) (fCons (fC (.int 400)) (fCons (fOp (opI fun i j => if CPow i j then some (.int (i ^ j.toNat)) else none) (fC (.int 10)) (fC (.int 12))) (fNil))))))) (fNil)))) (gVar 4)) (sAsg (fOp addW (fVar 2) (fTup (fCons (fOp (opI fun i j => some (.int (i - j))) (fCall (callD 2 g__law_take) (fCons (fVar 0) (fCons (fOp addW (fOp mulW (fC (.int 2)) (fVar 4)) (fC (.int 1))) (fNil)))) (fVar 4)) (fNil)))) (gVar 2))
noncomputable def B__law_numbers : FS := sCons (sAsg (fTup (fNil)) (gVar 2)) (sCons (sFor (itR1 (fCall (callD 2 g__law_take) (fCons (fVar 0) (fCons (fOp addW (fVar 1) (fC (.int 1))) (fNil))))) (gVar 3) (L__law_numbers_1)) (sRet (fVar 2)))
noncomputable def g__law_numbers (ws : List Wv) (μ : Sto) : Rs Wv := runF 5 B__law_numbers ws μ
noncomputable abbrev L__law_shape_1 : FS := sCons (sPar 4 5 (fCons (fOp ixW (fVar 2) (fC (.int 0))) (fCons (fIf (fB (fOp (cmpW fun i j => decide (i < j)) (fVar 1) (fC (.int 0)))) (fNeg (fC (.int 1))) (fC (.int 1))) (fNil)))) (sCons (sAsg (fOp mulW (fVar 5) (fVar 1)) (gVar 3)) (sIf (fB (fOp (eqW false) (fVar 4) (fC (.str "louder")))) (sAsg (fOp mulW (fOp ixW (fVar 2) (fC (.int 1))) (fVar 1)) (gVar 1)) (sIf (fB (fOp (eqW false) (fVar 4) (fC (.str "lift")))) (sAsg (fOp addW (fVar 1) (fOp ixW (fVar 2) (fC (.int 1)))) (gVar 1)) (sIf (fB (fOp (eqW false) (fVar 4) (fC (.str "turn")))) (sAsg (fNeg (fVar 1)) (gVar 1)) (sIf (fB (fOp (eqW false) (fVar 4) (fC (.str "fold")))) (sAsg (fVar 3) (gVar 1)) (sIf (fAnd (fB (fOp (eqW false) (fVar 4) (fC (.str "cut")))) (fB (fOp (cmpW fun i j => decide (j < i)) (fVar 3) (fOp ixW (fVar 2) (fC (.int 1)))))) (sAsg (fOp mulW (fVar 5) (fOp ixW (fVar 2) (fC (.int 1)))) (gVar 1)) (sIf (fAnd (fB (fOp (eqW false) (fVar 4) (fC (.str "gate")))) (fB (fOp (cmpW fun i j => decide (i < j)) (fVar 3) (fOp ixW (fVar 2) (fC (.int 1)))))) (sAsg (fC (.int 0)) (gVar 1)) (sIf (fB (fOp (eqW false) (fVar 4) (fC (.str "steps")))) (sAsg (fOp mulW (fOp mulW (fVar 5) (fOp (opI divI) (fVar 3) (fOp ixW (fVar 2) (fC (.int 1))))) (fOp ixW (fVar 2) (fC (.int 1)))) (gVar 1)) (sNil)))))))))
noncomputable def B__law_shape : FS := sCons (sFor (itS (fVar 0)) (gVar 2) (L__law_shape_1)) (sRet (fVar 1))
noncomputable def g__law_shape (ws : List Wv) (μ : Sto) : Rs Wv := runF 6 B__law_shape ws μ
noncomputable def B__law_lateness : FS := sRet (fCall kSum (fCons (fComp (itS (fVar 0)) (gVar 1) (fB (fOp (eqW false) (fOp ixW (fVar 1) (fC (.int 0))) (fC (.str "late")))) (fOp ixW (fVar 1) (fC (.int 1))) [1]) (fNil)))
noncomputable def g__law_lateness (ws : List Wv) (μ : Sto) : Rs Wv := runF 2 B__law_lateness ws μ
noncomputable abbrev L__law_heard_1 : FS := sCons (sAsg (fChain leW ltW (fVar 7) (fVar 5) (fOp addW (fVar 7) (fCall kLen (fCons (fVar 1) (fNil))))) (gVar 8)) (sSetIx (fOp addW (fOp ixW (fVar 3) (fVar 5)) (fIf (fB (fVar 8)) (fCall (callD 2 g__law_shape) (fCons (fVar 4) (fCons (fOp ixW (fVar 1) (fOp (opI fun i j => some (.int (i - j))) (fVar 5) (fVar 7))) (fNil)))) (fVar 6))) (fVar 3) (fVar 5))
noncomputable abbrev L__law_heard_2 : FS := sCons (sPar 6 7 (fCons (fCall (callD 2 g__law_shape) (fCons (fVar 4) (fCons (fC (.int 0)) (fNil)))) (fCons (fCall (callD 1 g__law_lateness) (fCons (fVar 4) (fNil))) (fNil)))) (sFor (itR1 (fVar 2)) (gVar 5) (L__law_heard_1))
noncomputable def B__law_heard : FS := sCons (sAsg (fOp addW (fCall kLen (fCons (fVar 1) (fNil))) (fCall kMax (fCons (fComp (itS (fVar 0)) (gVar 4) (fYes) (fCall (callD 1 g__law_lateness) (fCons (fVar 4) (fNil))) [4]) (fNil)))) (gVar 2)) (sCons (sAsg (fOp mulN (fLst (fCons (fC (.int 0)) (fNil))) (fVar 2)) (gVar 3)) (sCons (sFor (itS (fVar 0)) (gVar 4) (L__law_heard_2)) (frz 3 (sRet (fVar 3)))))
noncomputable def g__law_heard (ws : List Wv) (μ : Sto) : Rs Wv := runF 9 B__law_heard ws μ
noncomputable abbrev L_law_2_1 : FS := sIf (fB (fOp (eqW true) (fCall (callD 2 g_shaped) (fCons (fVar 4) (fCons (fVar 6) (fNil)))) (fCall (callD 2 g__law_shape) (fCons (fVar 4) (fCons (fVar 6) (fNil)))))) (sRet (fC (.bool false))) (sNil)
noncomputable abbrev L_law_2_2 : FS := sFor (itS (fOp addW (fCall (callD 2 g__law_numbers) (fCons (fVar 2) (fCons (fC (.int 20)) (fNil)))) (fTup (fCons (fC (.int 0)) (fCons (fC (.int 1)) (fCons (fNeg (fC (.int 1))) (fNil))))))) (gVar 6) (L_law_2_1)
noncomputable abbrev L_law_2_3 : FS := sIf (fB (fOp (eqW true) (fCall (callD 2 g_heard) (fCons (fVar 3) (fCons (fVar 5) (fNil)))) (fCall (callD 2 g__law_heard) (fCons (fVar 3) (fCons (fVar 5) (fNil)))))) (sRet (fC (.bool false))) (sNil)
noncomputable abbrev L_law_2_4 : FS := sCons (sAsg (fCall (callD 2 g__law_bag) (fCons (fVar 0) (fCons (fVar 1) (fNil)))) (gVar 2)) (sCons (sAsg (fCall (callD 2 g__law_board) (fCons (fVar 2) (fCons (fC (.int 6)) (fNil)))) (gVar 3)) (sCons (sFor (itS (fVar 3)) (gVar 4) (L_law_2_2)) (sCons (sIf (fB (fOp (eqW true) (fCall (callD 1 g_silence) (fCons (fVar 3) (fNil))) (fCall kSum (fCons (fComp (itS (fVar 3)) (gVar 4) (fYes) (fCall (callD 2 g__law_shape) (fCons (fVar 4) (fCons (fC (.int 0)) (fNil)))) [4]) (fNil))))) (sRet (fC (.bool false))) (sNil)) (sFor (itS (fLst (fCons (fTup (fNil)) (fCons (fCall (callD 2 g__law_numbers) (fCons (fVar 2) (fCons (fC (.int 5)) (fNil)))) (fCons (fCall (callD 2 g__law_numbers) (fCons (fVar 2) (fCons (fC (.int 40)) (fNil)))) (fNil)))))) (gVar 5) (L_law_2_3)))))
noncomputable def B_law_2 : FS := sCons (sFor (itR1 (fCall kMax2 (fCons (fC (.int 4)) (fCons (fCall kMin2 (fCons (fC (.int 12)) (fCons (fOp addW (fCall kLen (fCons (fVar 0) (fNil))) (fC (.int 3))) (fNil)))) (fNil))))) (gVar 1) (L_law_2_4)) (sRet (fC (.bool true)))
noncomputable def g_law_2 (ws : List Wv) (μ : Sto) : Rs Wv := runF 7 B_law_2 ws μ
end Ped

/-! Ped9: reckoning with the functions that the combinators give -/
namespace Ped
open PySem L2 PyProof.Rows PySem.Spec

/-! ### plain steps -/
section
variable {w : Wv} {env : Env} {μ : Sto}
@[simp] theorem e_fC (d : D) : fC d env μ = .ok (.d d) μ := rfl
@[simp] theorem e_var (i : Nat) : fVar i env μ = match env[i]? with | some (some w) => .ok w μ | _ => .no := rfl
@[simp] theorem e_nil : fNil env μ = .ok [] μ := rfl
@[simp] theorem e_cons (f : FE) (g : FA) : fCons f g env μ = (f env μ).bind fun w μ1 => (g env μ1).bind fun ws μ2 => .ok (w :: ws) μ2 := rfl
@[simp] theorem e_op (h : Wv → Wv → Sto → Rs Wv) (f g : FE) : fOp h f g env μ = (f env μ).bind fun x μ1 => (g env μ1).bind fun y μ2 => h x y μ2 := rfl
@[simp] theorem e_call (h : List Wv → Sto → Rs Wv) (g : FA) : fCall h g env μ = (g env μ).bind h := rfl
@[simp] theorem e_B (f : FE) : fB f env μ = (f env μ).bind asB := rfl
@[simp] theorem e_asB (b : Bool) : asB (.d (.bool b)) μ = .ok b μ := rfl
@[simp] theorem e_Not (f : FB) : fNot f env μ = (f env μ).bind fun b μ1 => .ok (!b) μ1 := rfl
@[simp] theorem e_And (f g : FB) : fAnd f g env μ = (f env μ).bind fun b μ1 => if b = true then g env μ1 else .ok false μ1 := rfl
@[simp] theorem e_Or (f g : FB) : fOr f g env μ = (f env μ).bind fun b μ1 => if b = true then .ok true μ1 else g env μ1 := rfl
@[simp] theorem e_AndV (f g : FE) : fAndV f g env μ = (fB f env μ).bind fun b μ1 => if b = true then g env μ1 else .ok (.d (.bool false)) μ1 := rfl
@[simp] theorem e_OrV (f g : FE) : fOrV f g env μ = (fB f env μ).bind fun b μ1 => if b = true then .ok (.d (.bool true)) μ1 else g env μ1 := rfl
@[simp] theorem e_NotV (f : FE) : fNotV f env μ = (fB f env μ).bind fun b μ1 => .ok (.d (.bool (!b))) μ1 := rfl
@[simp] theorem e_If (c : FB) (f g : FE) : fIf c f g env μ = (c env μ).bind fun b μ1 => if b = true then f env μ1 else g env μ1 := rfl
@[simp] theorem e_chain (h h' : Wv → Wv → Sto → Rs Wv) (f g k : FE) : fChain h h' f g k env μ = (f env μ).bind fun x μ1 => (g env μ1).bind fun y μ2 => ((h x y μ2).bind asB).bind fun b μ3 => if b = true then (k env μ3).bind fun z μ4 => h' y z μ4 else .ok (.d (.bool false)) μ3 := rfl
@[simp] theorem e_tup (g : FA) : fTup g env μ = (g env μ).bind (mkSeq .tuple) := rfl
@[simp] theorem e_lst (g : FA) : fLst g env μ = (g env μ).bind (mkSeq .list) := rfl
@[simp] theorem e_isi (T : String) (f : FE) : fIsi T f env μ = (f env μ).bind fun w μ1 => match w with | .d x => .ok (.d (.bool (isTy T x))) μ1 | _ => .no := rfl
@[simp] theorem e_neg (f : FE) : fNeg f env μ = (f env μ).bind fun x μ1 => match x with | .d (.int i) => .ok (.d (.int (-i))) μ1 | _ => .no := rfl
@[simp] theorem e_f1 (h : Wv → Sto → Rs Wv) (f : FE) : f1 h f env μ = (f env μ).bind h := rfl
@[simp] theorem e_sNil : sNil env μ = .ok (.nx env) μ := rfl
@[simp] theorem e_sCons (f g : FS) : sCons f g env μ = (f env μ).bind fun fl μ1 => match fl with | .nx env1 => g env1 μ1 | fl => .ok fl μ1 := rfl
@[simp] theorem e_sAsg (f : FE) (g : FG) : sAsg f g env μ = (f env μ).bind fun w μ1 => (noex (g w env μ1)).bind fun env1 μ2 => .ok (.nx env1) μ2 := rfl
@[simp] theorem e_gVar (i : Nat) : gVar i w env μ = .ok (env.set i (some w)) μ := rfl
@[simp] theorem e_sRet (f : FE) : sRet f env μ = (f env μ).bind fun w μ1 => .ok (.rt w) μ1 := rfl
@[simp] theorem e_sExpr (f : FE) : sExpr f env μ = (f env μ).bind fun _ μ1 => .ok (.nx env) μ1 := rfl
@[simp] theorem e_sIf (c : FB) (f g : FS) : sIf c f g env μ = (c env μ).bind fun b μ1 => if b = true then f env μ1 else g env μ1 := rfl
@[simp] theorem e_sFor (it : FIt) (g : FG) (b : FS) : sFor it g b env μ = (it env μ).bind fun items μ1 => forF g b items env μ1 := rfl
@[simp] theorem e_sPar (i j : Nat) (g : FA) : sPar i j g env μ = (g env μ).bind fun ws μ1 => match ws with | [w, z] => .ok (.nx ((env.set i (some w)).set j (some z))) μ1 | _ => .no := rfl
@[simp] theorem e_lstN (g : FA) : fLstN g env μ = (g env μ).bind fun ws μ1 => if ws.length ≤ LIM then .ok (.l μ1.length) (μ1 ++ [.lst ws]) else .no := rfl
@[simp] theorem e_comp (it : FIt) (g : FG) (t : FB) (e : FE) (vs : List Nat) : fComp it g t e vs env μ = (it env μ).bind fun items μ1 => (compF g t e (wipeE env vs) items μ1 []).bind fun acc μ2 => .ok (.d (.list acc)) μ2 := rfl
@[simp] theorem e_itS (f : FE) : itS f env μ = (f env μ).bind fun w μ1 => match w with | .d (.list xs) => .ok xs μ1 | .d (.tuple xs) => .ok xs μ1 | _ => .no := rfl
def rgK (w : Wv) (μ1 : Sto) : Rs (List D) := match w with | .d (.int j) => if -RB ≤ j ∧ j ≤ RB then .ok (rangeD 0 j.toNat) μ1 else .no | _ => .no
def rgL (w : Wv) (μ1 : Sto) : Rs Wv := match w with | .d (.int j) => if -1000000 ≤ j ∧ j ≤ 1000000 then .ok (.d (.list (rangeD 0 j.toNat))) μ1 else .no | _ => .no
theorem rg_k {k : Nat} {μ : Sto} (h : k ≤ 1000000) : rgK (.d (.int (k : Int))) μ = .ok (rangeD 0 k) μ := by
  show (if -RB ≤ (k : Int) ∧ (k : Int) ≤ RB then Rs.ok (rangeD 0 (k : Int).toNat) μ else Rs.no) = _
  have : RB = 1000000000000 := rfl
  rw [if_pos (by omega), Int.toNat_natCast]
theorem rg_l {k : Nat} {μ : Sto} (h : k ≤ 1000000) : rgL (.d (.int (k : Int))) μ = .ok (.d (.list (rangeD 0 k))) μ := by
  show (if -1000000 ≤ (k : Int) ∧ (k : Int) ≤ 1000000 then Rs.ok (Wv.d (.list (rangeD 0 (k : Int).toNat))) μ else Rs.no) = _
  rw [if_pos (by omega), Int.toNat_natCast]
@[simp] theorem e_itR1 (f : FE) : itR1 f env μ = (f env μ).bind rgK := rfl
@[simp] theorem e_fRg1 (f : FE) : fRg1 f env μ = (f env μ).bind rgL := rfl
@[simp] theorem e_Sl (f : FE) (g h : FO) : fSl f g h env μ = (f env μ).bind fun x μ1 => (g env μ1).bind fun lo μ2 => (h env μ2).bind fun hi μ3 => slW x lo hi μ3 := rfl
@[simp] theorem e_O0 : fO0 env μ = .ok none μ := rfl
@[simp] theorem e_O1 (f : FE) : fO1 f env μ = (f env μ).bind fun w μ1 => match w with | .d (.int i) => .ok (some i) μ1 | _ => .no := rfl
@[simp] theorem e_SetIx (f g h : FE) : sSetIx f g h env μ = (f env μ).bind fun y μ1 => (g env μ1).bind fun x μ2 => (h env μ2).bind fun i μ3 => match x, i with
  | .l n, .d (.int k) => (match lstAt μ3 n with
    | some ws => (match ixN ws.length k with
      | some j => .ok (.nx env) (μ3.set n (.lst (ws.set j y)))
      | none => .no)
    | none => .no)
  | _, _ => .no := rfl
@[simp] theorem e_noexbind {α β : Type} (r : Rs α) : noex (noex r) = noex r := by cases r <;> rfl
@[simp] theorem e_callD (n : Nat) (g : List Wv → Sto → Rs Wv) (ws : List Wv) : callD n g ws μ = if ws.length = n then noex (g ws μ) else .no := rfl
@[simp] theorem e_wipe0 : wipeE env [] = env := rfl
@[simp] theorem e_wipe1 (v : Nat) (vs : List Nat) : wipeE env (v :: vs) = (wipeE env vs).set v none := rfl
@[simp] theorem e_fYes : fYes env μ = .ok true μ := rfl
end

/-! ### operations on data -/
section
variable {μ : Sto} {i j : Int}
@[simp] theorem o_cmp (g : Int → Int → Bool) : opI (fun i j => some (.bool (g i j))) (.d (.int i)) (.d (.int j)) μ = .ok (.d (.bool (g i j))) μ := rfl
@[simp] theorem o_int (g : Int → Int → Int) : opI (fun i j => some (.int (g i j))) (.d (.int i)) (.d (.int j)) μ = .ok (.d (.int (g i j))) μ := rfl
@[simp] theorem o_add : addW (.d (.int i)) (.d (.int j)) μ = .ok (.d (.int (i + j))) μ := rfl
theorem o_addT (x y : List D) : addW (.d (.tuple x)) (.d (.tuple y)) μ = if x.length + y.length ≤ LIM then .ok (.d (.tuple (x ++ y))) μ else .no := rfl
theorem o_addL (x y : List D) : addW (.d (.list x)) (.d (.list y)) μ = if x.length + y.length ≤ LIM then .ok (.d (.list (x ++ y))) μ else .no := rfl
@[simp] theorem o_mul : mulW (.d (.int i)) (.d (.int j)) μ = if CMul i j then .ok (.d (.int (i * j))) μ else .no := rfl
theorem o_mod (h : 0 < j) : opI modI (.d (.int i)) (.d (.int j)) μ = .ok (.d (.int (i % j))) μ := by
  show (match modI i j with | some d => Rs.ok (Wv.d d) μ | none => Rs.no) = _
  unfold modI
  rw [if_pos h]
theorem o_div (h : 0 < j) (h' : j < 2 ^ 100) : opI divI (.d (.int i)) (.d (.int j)) μ = .ok (.d (.int (i / j))) μ := by
  show (match divI i j with | some d => Rs.ok (Wv.d d) μ | none => Rs.no) = _
  unfold divI
  rw [if_pos ⟨h, h'⟩]
theorem eq_int (n : Bool) : eqW n (.d (.int i)) (.d (.int j)) μ = .ok (.d (.bool (if n then !decide (i = j) else decide (i = j)))) μ := rfl
theorem eq_str (n : Bool) (a b : Str) : eqW n (.d (.str a)) (.d (.str b)) μ = .ok (.d (.bool (if n then !decide (a = b) else decide (a = b)))) μ := rfl
@[simp] theorem k_len_t (xs : List D) : kLen [.d (.tuple xs)] μ = .ok (.d (.int xs.length)) μ := rfl
@[simp] theorem k_len_l (xs : List D) : kLen [.d (.list xs)] μ = .ok (.d (.int xs.length)) μ := rfl
@[simp] theorem k_len_s (ns : List Int) : kLen [.s ns] μ = .ok (.d (.int ns.length)) μ := rfl
@[simp] theorem k_int_i : kInt [.d (.int i)] μ = .ok (.d (.int i)) μ := rfl
@[simp] theorem k_abs_i : kAbs [.d (.int i)] μ = .ok (.d (.int (if i < 0 then -i else i))) μ := rfl
@[simp] theorem k_max2_i : kMax2 [.d (.int i), .d (.int j)] μ = .ok (.d (.int (if j > i then j else i))) μ := rfl
@[simp] theorem k_min2_i : kMin2 [.d (.int i), .d (.int j)] μ = .ok (.d (.int (if j < i then j else i))) μ := rfl
@[simp] theorem k_tuple_l (xs : List D) : kTuple [.d (.list xs)] μ = .ok (.d (.tuple xs)) μ := rfl
@[simp] theorem k_sum_i (ns : List Int) : kSum [.d (.list (ns.map PyData.int))] μ = .ok (.d (.int ns.sum)) μ := by
  unfold kSum kInts
  simp [toInts_map]
@[simp] theorem k_all_b (bs : List Bool) : kAll [.d (.list (bs.map PyData.bool))] μ = .ok (.d (.bool (bs.all id))) μ := by
  unfold kAll kBools
  simp [toBools_map]
@[simp] theorem k_any_b (bs : List Bool) : kAny [.d (.list (bs.map PyData.bool))] μ = .ok (.d (.bool (bs.any id))) μ := by
  unfold kAny kBools
  simp [toBools_map]
theorem k_max_i {ns : List Int} {m : Int} (h : maxL ns = some m) : kMax [.d (.list (ns.map PyData.int))] μ = .ok (.d (.int m)) μ := by
  unfold kMax kInts
  simp [toInts_map, h]
theorem atI_nat {α : Type} (xs : List α) (n : Nat) : atI xs (n : Int) = xs[n]? := by
  unfold atI
  by_cases h : n < xs.length
  · have : ixN xs.length (n : Int) = some n := by
      unfold ixN
      simp [h]
    rw [this]
    rfl
  · have : ixN xs.length (n : Int) = none := by
      unfold ixN
      simp
      omega
    rw [this, List.getElem?_eq_none (by omega)]
    rfl
theorem atI_0 {α : Type} (x : α) (r : List α) : atI (x :: r) 0 = some x := atI_nat (x :: r) 0
theorem atI_1 {α : Type} (x y : α) (r : List α) : atI (x :: y :: r) 1 = some y := atI_nat (x :: y :: r) 1
@[simp] theorem ix_0 (x : D) (r : List D) : ixW (.d (.tuple (x :: r))) (.d (.int 0)) μ = .ok (.d x) μ := by
  show (match atI (x :: r) 0 with | some d => Rs.ok (Wv.d d) μ | none => Rs.no) = _
  rw [atI_0]
@[simp] theorem ix_1 (x y : D) (r : List D) : ixW (.d (.tuple (x :: y :: r))) (.d (.int 1)) μ = .ok (.d y) μ := by
  show (match atI (x :: y :: r) 1 with | some d => Rs.ok (Wv.d d) μ | none => Rs.no) = _
  rw [atI_1]
theorem mkSeq_d (c : List D → D) (ds : List D) (h : ds.length ≤ LIM) : mkSeq c (ds.map Wv.d) μ = .ok (.d (c ds)) μ := by
  unfold mkSeq
  rw [dats_map]
  simp only [if_pos h]
@[simp] theorem mkSeq_0 (c : List D → D) : mkSeq c [] μ = .ok (.d (c [])) μ := mkSeq_d c [] (by decide)
@[simp] theorem mkSeq_1 (c : List D → D) (x : D) : mkSeq c [.d x] μ = .ok (.d (c [x])) μ := mkSeq_d c [x] (by simp [LIM])
@[simp] theorem mkSeq_2 (c : List D → D) (x y : D) : mkSeq c [.d x, .d y] μ = .ok (.d (c [x, y])) μ := mkSeq_d c [x, y] (by simp [LIM])
@[simp] theorem mkSeq_3 (c : List D → D) (x y z : D) : mkSeq c [.d x, .d y, .d z] μ = .ok (.d (c [x, y, z])) μ := mkSeq_d c [x, y, z] (by simp [LIM])
@[simp] theorem mkSeq_4 (c : List D → D) (x y z t : D) : mkSeq c [.d x, .d y, .d z, .d t] μ = .ok (.d (c [x, y, z, t])) μ := mkSeq_d c [x, y, z, t] (by simp [LIM])
@[simp] theorem mkSeq_5 (c : List D → D) (x y z t u : D) : mkSeq c [.d x, .d y, .d z, .d t, .d u] μ = .ok (.d (c [x, y, z, t, u])) μ := mkSeq_d c [x, y, z, t, u] (by simp [LIM])
end

/-! ### bodies -/
theorem hb_d {μ μ' : Sto} {x : D} (h : μ'.length = μ.length) : handBack μ (.rt (.d x)) μ' = .ok (.d x) μ' := by
  unfold handBack
  rw [trim_same h]
theorem hb_n {μ μ' : Sto} {env : Env} (h : μ'.length = μ.length) : handBack μ (.nx env) μ' = .ok (.d .none) μ' := by
  unfold handBack
  rw [trim_same h]
theorem run_d {m : Nat} {F : FS} {ws : List Wv} {μ μ' : Sto} {x : D} (h : F (startE m ws) μ = .ok (.rt (.d x)) μ') (hl : μ'.length = μ.length) : runF m F ws μ = .ok (.d x) μ' := by
  unfold runF
  rw [h]
  exact hb_d hl
theorem run_0 {m : Nat} {F : FS} {ws : List Wv} {μ : Sto} {x : D} (h : F (startE m ws) μ = .ok (.rt (.d x)) μ) : runF m F ws μ = .ok (.d x) μ := run_d h rfl
theorem run_n {m : Nat} {F : FS} {ws : List Wv} {μ : Sto} {env : Env} (h : F (startE m ws) μ = .ok (.nx env) μ) : runF m F ws μ = .ok (.d .none) μ := by
  unfold runF
  rw [h]
  exact hb_n (env := env) rfl
/-- what was made meanwhile is forgotten -/
theorem run_app {m : Nat} {F : FS} {ws : List Wv} {μ ν : Sto} {x : D} (h : F (startE m ws) μ = .ok (.rt (.d x)) (μ ++ ν)) : runF m F ws μ = .ok (.d x) μ := by
  unfold runF
  rw [h]
  show handBack μ (.rt (.d x)) (μ ++ ν) = _
  unfold handBack
  rw [trim_app]

/-! ### comprehensions and loops -/
/-- each item gives its value -/
theorem comp_map {α : Type} {g : FG} {e : FE} {env : Env} {toD : α → D} {φ : α → D} : ∀ (xs : List α) (μ : Sto) (acc : List D), (∀ x ∈ xs, ∃ env1, g (.d (toD x)) env μ = .ok env1 μ ∧ e env1 μ = .ok (.d (φ x)) μ) → acc.length + xs.length ≤ LIM → compF g fYes e env (xs.map toD) μ acc = .ok (acc ++ xs.map φ) μ
  | [], μ, acc, _, _ => by simp [compF]
  | x :: r, μ, acc, h, hl => by
    obtain ⟨env1, h1, h2⟩ := h x List.mem_cons_self
    rw [List.length_cons] at hl
    rw [List.map_cons]
    unfold compF
    rw [h1]
    simp only [noex_ok, Rs.bind_ok, e_fYes, if_true, h2]
    rw [if_pos (by omega), comp_map r μ (acc ++ [φ x]) (fun y hy => h y (List.mem_cons_of_mem _ hy)) (by rw [List.length_append, List.length_singleton]; omega)]
    simp
/-- .. where a test says so -/
theorem comp_filter {α : Type} {g : FG} {t : FB} {e : FE} {env : Env} {toD : α → D} {q : α → Bool} {φ : α → D} : ∀ (xs : List α) (μ : Sto) (acc : List D), (∀ x ∈ xs, ∃ env1, g (.d (toD x)) env μ = .ok env1 μ ∧ t env1 μ = .ok (q x) μ ∧ (q x = true → e env1 μ = .ok (.d (φ x)) μ)) → acc.length + xs.length ≤ LIM → compF g t e env (xs.map toD) μ acc = .ok (acc ++ (xs.filter q).map φ) μ
  | [], μ, acc, _, _ => by simp [compF]
  | x :: r, μ, acc, h, hl => by
    obtain ⟨env1, h1, h2, h3⟩ := h x List.mem_cons_self
    rw [List.length_cons] at hl
    rw [List.map_cons]
    unfold compF
    rw [h1]
    simp only [noex_ok, Rs.bind_ok, h2]
    cases hq : q x with
    | true =>
      simp only [if_true, h3 hq, noex_ok, Rs.bind_ok]
      rw [if_pos (by omega), comp_filter r μ (acc ++ [φ x]) (fun y hy => h y (List.mem_cons_of_mem _ hy)) (by rw [List.length_append, List.length_singleton]; omega)]
      simp [hq]
    | false =>
      simp only [Bool.false_eq_true, if_false]
      rw [comp_filter r μ acc (fun y hy => h y (List.mem_cons_of_mem _ hy)) (by omega)]
      simp [hq]
/-- a loop that carries a state in names alone -/
theorem for_fold {α σ : Type} {g : FG} {b : FS} {toD : α → D} {E : σ → Env → Prop} {step : σ → α → σ} : ∀ (xs : List α) (s : σ) (env : Env) (μ : Sto), E s env → (∀ x ∈ xs, ∀ s env, E s env → ∃ env1 env2, g (.d (toD x)) env μ = .ok env1 μ ∧ b env1 μ = .ok (.nx env2) μ ∧ E (step s x) env2) → ∃ env', forF g b (xs.map toD) env μ = .ok (.nx env') μ ∧ E (xs.foldl step s) env'
  | [], s, env, μ, h, _ => ⟨env, rfl, h⟩
  | x :: r, s, env, μ, h, hs => by
    obtain ⟨env1, env2, h1, h2, h3⟩ := hs x List.mem_cons_self s env h
    obtain ⟨env', h4, h5⟩ := for_fold r (step s x) env2 μ h3 fun y hy => hs y (List.mem_cons_of_mem _ hy)
    refine ⟨env', ?_, h5⟩
    rw [List.map_cons]
    unfold forF
    rw [h1]
    simp only [noex_ok, Rs.bind_ok, h2, h4]
/-- a loop with an invariant over the names and the store, that falls through -/
theorem for_inv {g : FG} {b : FS} {I : Env → Sto → Prop} : ∀ (xs : List D) (env : Env) (μ : Sto), I env μ → (∀ x ∈ xs, ∀ env μ, I env μ → ∃ env1 μ1 env2 μ2, g (.d x) env μ = .ok env1 μ1 ∧ b env1 μ1 = .ok (.nx env2) μ2 ∧ I env2 μ2) → ∃ env' μ', forF g b xs env μ = .ok (.nx env') μ' ∧ I env' μ'
  | [], env, μ, h, _ => ⟨env, μ, rfl, h⟩
  | x :: r, env, μ, h, hs => by
    obtain ⟨env1, μ1, env2, μ2, h1, h2, h3⟩ := hs x List.mem_cons_self env μ h
    obtain ⟨env', μ', h4, h5⟩ := for_inv r env2 μ2 h3 fun y hy => hs y (List.mem_cons_of_mem _ hy)
    refine ⟨env', μ', ?_, h5⟩
    unfold forF
    rw [h1]
    simp only [noex_ok, Rs.bind_ok, h2, h4]
/-- a comprehension whose items are drawn: one value after the other, each with a step of the store -/
theorem comp_draw {β : Type} {g : FG} {e : FE} {env : Env} {toD : β → D} {P : β → Prop} {I : Sto → Prop} : ∀ (xs : List D) (μ : Sto) (acc : List β), I μ → (∀ b ∈ acc, P b) → (∀ x ∈ xs, ∀ μ, I μ → ∃ env1 b μ', g (.d x) env μ = .ok env1 μ ∧ e env1 μ = .ok (.d (toD b)) μ' ∧ P b ∧ I μ') → acc.length + xs.length ≤ LIM → ∃ (bs : List β) (μ' : Sto), compF g fYes e env xs μ (acc.map toD) = .ok (bs.map toD) μ' ∧ bs.length = acc.length + xs.length ∧ (∀ b ∈ bs, P b) ∧ I μ'
  | [], μ, acc, h, ha, _, _ => ⟨acc, μ, rfl, rfl, ha, h⟩
  | x :: r, μ, acc, h, ha, hs, hl => by
    obtain ⟨env1, b, μ1, h1, h2, h3, h4⟩ := hs x List.mem_cons_self μ h
    rw [List.length_cons] at hl
    obtain ⟨bs, μ', h5, h6, h7, h8⟩ := comp_draw (P := P) (I := I) r μ1 (acc ++ [b]) h4 (by
      intro c hc
      rcases List.mem_append.mp hc with hc | hc
      · exact ha c hc
      · rw [List.mem_singleton.mp hc]; exact h3) (fun y hy => hs y (List.mem_cons_of_mem _ hy)) (by rw [List.length_append, List.length_singleton]; omega)
    refine ⟨bs, μ', ?_, by rw [h6, List.length_append, List.length_singleton, List.length_cons]; omega, h7, h8⟩
    unfold compF
    rw [h1]
    simp only [noex_ok, Rs.bind_ok, e_fYes, if_true, h2]
    rw [if_pos (by rw [List.length_map]; omega)]
    rw [List.map_append] at h5
    exact h5

/-! ### the bag that a law draws from -/
def bagO (x y : Int) : Ob := .lst [.d (.int x), .d (.int y)]
def BagOk (x y : Int) : Prop := 0 ≤ x ∧ 0 ≤ y ∧ y < 2147483423
def Bg (b : Nat) (μ : Sto) : Prop := ∃ x y, μ[b]? = some (bagO x y) ∧ BagOk x y
def Stp (b : Nat) (μ μ' : Sto) : Prop := ∃ x y, μ' = μ.set b (bagO x y) ∧ BagOk x y
theorem Stp.len {b : Nat} {μ μ' : Sto} (s : Stp b μ μ') : μ'.length = μ.length := by
  obtain ⟨x, y, rfl, _⟩ := s
  exact List.length_set
theorem Stp.bg {b : Nat} {μ μ' : Sto} (s : Stp b μ μ') (h : Bg b μ) : Bg b μ' := by
  obtain ⟨x, y, rfl, k⟩ := s
  obtain ⟨x', y', h, _⟩ := h
  exact ⟨x, y, List.getElem?_set_self (List.getElem?_eq_some_iff.mp h).1, k⟩
theorem Stp.refl {b : Nat} {μ : Sto} (h : Bg b μ) : Stp b μ μ := by
  obtain ⟨x, y, h, k⟩ := h
  refine ⟨x, y, ?_, k⟩
  refine List.ext_getElem? fun j => ?_
  by_cases hj : b = j
  · subst hj
    rw [List.getElem?_set_self (List.getElem?_eq_some_iff.mp h).1, h]
  · rw [List.getElem?_set_ne hj]
theorem Stp.trans {b : Nat} {μ μ' μ'' : Sto} (s : Stp b μ μ') (t : Stp b μ' μ'') : Stp b μ μ'' := by
  obtain ⟨x, y, rfl, _⟩ := s
  obtain ⟨x', y', rfl, k⟩ := t
  exact ⟨x', y', List.set_set .., k⟩
theorem Stp.get {b j : Nat} {μ μ' : Sto} (s : Stp b μ μ') (h : b ≠ j) : μ'[j]? = μ[j]? := by
  obtain ⟨x, y, rfl, _⟩ := s
  exact List.getElem?_set_ne h
theorem bg_lst {b : Nat} {μ : Sto} {x y : Int} (h : μ[b]? = some (bagO x y)) : lstAt μ b = some [.d (.int x), .d (.int y)] := by
  unfold lstAt
  rw [h]
  rfl
theorem ix_bag0 {b : Nat} {μ : Sto} {x y : Int} (h : μ[b]? = some (bagO x y)) : ixW (.l b) (.d (.int 0)) μ = .ok (.d (.int x)) μ := by
  show (match μ[b]? with | some (.lst ws) => (match atI ws 0 with | some w => Rs.ok w μ | none => Rs.no) | _ => Rs.no) = _
  rw [h]
  rfl
theorem ix_bag1 {b : Nat} {μ : Sto} {x y : Int} (h : μ[b]? = some (bagO x y)) : ixW (.l b) (.d (.int 1)) μ = .ok (.d (.int y)) μ := by
  show (match μ[b]? with | some (.lst ws) => (match atI ws 1 with | some w => Rs.ok w μ | none => Rs.no) | _ => Rs.no) = _
  rw [h]
  rfl
end Ped

/-! PedQ: what a law draws -/
namespace Ped
open PySem L2 PyProof.Rows PySem.Spec
theorem cmul1 {i j : Int} (h : -(2 ^ 64) < i ∧ i < 2 ^ 64) : CMul i j := .inl h
theorem cmul2 {i j : Int} (h : -(2 ^ 64) < j ∧ j < 2 ^ 64) : CMul i j := .inr h
theorem set_bag0 {b : Nat} {μ : Sto} {x y z : Int} (h : μ[b]? = some (bagO x y)) : (match lstAt μ b with
    | some ws => (match ixN ws.length (0 : Int) with
      | some j => (Rs.ok (μ.set b (.lst (ws.set j (.d (.int z))))) μ : Rs Sto)
      | none => .no)
    | none => .no) = .ok (μ.set b (bagO z y)) μ := by
  rw [bg_lst h]
  rfl
theorem take_ok {b : Nat} {μ : Sto} (h : Bg b μ) {m : Int} (h0 : 0 < m) (h1 : m < 2 ^ 64) : ∃ r μ', g__law_take [.l b, .d (.int m)] μ = .ok (.d (.int r)) μ' ∧ 0 ≤ r ∧ r < m ∧ Stp b μ μ' := by
  obtain ⟨x, y, hb, hx, hy, hy2⟩ := h
  have hlt := (List.getElem?_eq_some_iff.mp hb).1
  have hm2 : m < 2 ^ 100 := by omega
  by_cases hp : 0 < x
  · refine ⟨x % m, μ.set b (bagO (x / m) y), ?_, Int.emod_nonneg _ (by omega), Int.emod_lt_of_pos _ h0, _, _, rfl, Int.ediv_nonneg hx (by omega), hy, hy2⟩
    unfold g__law_take
    refine run_d ?_ List.length_set
    unfold B__law_take
    simp [startE, ix_bag0 hb, hp, o_mod h0, o_div h0 hm2, bg_lst hb]
    rfl
  · have hx0 : x = 0 := by omega
    subst hx0
    have hy3 : 0 ≤ (y * 41358 + 211) % 2147483423 := Int.emod_nonneg _ (by decide)
    have hy4 : (y * 41358 + 211) % 2147483423 < 2147483423 := Int.emod_lt_of_pos _ (by decide)
    refine ⟨(((y * 41358 + 211) % 2147483423) * (((y * 41358 + 211) % 2147483423) / 9 + 23) % 2147483407) / 15 % m, μ.set b (bagO 0 ((y * 41358 + 211) % 2147483423)), ?_, Int.emod_nonneg _ (by omega), Int.emod_lt_of_pos _ h0, _, _, rfl, Int.le_refl 0, hy3, hy4⟩
    unfold g__law_take
    refine run_d ?_ List.length_set
    unfold B__law_take
    have hb2 : (μ.set b (bagO 0 ((y * 41358 + 211) % 2147483423)))[b]? = some (bagO 0 ((y * 41358 + 211) % 2147483423)) := List.getElem?_set_self hlt
    have c1 : CMul y 41358 := cmul2 (by omega)
    have c2 : CMul ((y * 41358 + 211) % 2147483423) (((y * 41358 + 211) % 2147483423) / 9 + 23) := cmul1 (by omega)
    have e3 : ixW (.l b) (.d (.int 1)) (μ.set b (.lst [.d (.int 0), .d (.int ((y * 41358 + 211) % 2147483423))])) = .ok (.d (.int ((y * 41358 + 211) % 2147483423))) (μ.set b (.lst [.d (.int 0), .d (.int ((y * 41358 + 211) % 2147483423))])) := ix_bag1 hb2
    have e4 : ixN 2 (1 : Int) = some 1 := rfl
    simp [startE, ix_bag0 hb, ix_bag1 hb, o_mod (show (0 : Int) < 2147483423 by decide), o_mod (show (0 : Int) < 2147483407 by decide), o_mod h0, o_div (show (0 : Int) < 9 by decide) (by decide), o_div (show (0 : Int) < 15 by decide) (by decide), bg_lst hb, c1, c2, e3, e4, bagO]
theorem ix_l {xs : List D} {r : Int} {μ : Sto} (h0 : 0 ≤ r) (h1 : r < xs.length) : ∃ d, d ∈ xs ∧ ixW (.d (.list xs)) (.d (.int r)) μ = .ok (.d d) μ := by
  obtain ⟨n, rfl⟩ := Int.eq_ofNat_of_zero_le h0
  have hn : n < xs.length := by omega
  refine ⟨xs[n], List.getElem_mem hn, ?_⟩
  show (match atI xs (n : Int) with | some d => Rs.ok (Wv.d d) μ | none => Rs.no) = _
  rw [atI_nat, List.getElem?_eq_getElem hn]
theorem of_ok {b : Nat} {μ : Sto} (h : Bg b μ) {xs : List D} (h0 : 0 < xs.length) (h1 : xs.length < 1000000) : ∃ d μ', g__law_of [.l b, .d (.list xs)] μ = .ok (.d d) μ' ∧ d ∈ xs ∧ Stp b μ μ' := by
  obtain ⟨r, μ', e, r0, r1, s⟩ := take_ok h (m := xs.length) (by omega) (by omega)
  obtain ⟨d, hd, e2⟩ := ix_l (μ := μ') r0 r1
  refine ⟨d, μ', ?_, hd, s⟩
  unfold g__law_of
  refine run_d ?_ s.len
  unfold B__law_of
  simp [startE, e, e2]

/-! ### pedals -/
inductive Pd where
  | louder (k : Int) | cut (k : Int) | gate (k : Int) | turn | fold | lift (k : Int) | steps (k : Int) | late (k : Int)
  deriving DecidableEq
def Pd.toD : Pd → D
  | .louder k => .tuple [.str "louder", .int k]
  | .cut k => .tuple [.str "cut", .int k]
  | .gate k => .tuple [.str "gate", .int k]
  | .turn => .tuple [.str "turn"]
  | .fold => .tuple [.str "fold"]
  | .lift k => .tuple [.str "lift", .int k]
  | .steps k => .tuple [.str "steps", .int k]
  | .late k => .tuple [.str "late", .int k]
def Pd.ok : Pd → Prop
  | .louder k => 2 ≤ k ∧ k ≤ 4
  | .cut k => 1 ≤ k ∧ k ≤ 50
  | .gate k => 1 ≤ k ∧ k ≤ 50
  | .turn => True
  | .fold => True
  | .lift k => -20 ≤ k ∧ k ≤ 20 ∧ k ≠ 0
  | .steps k => 2 ≤ k ∧ k ≤ 5
  | .late k => 1 ≤ k ∧ k ≤ 5
def Pd.isLate : Pd → Bool
  | .late _ => true
  | _ => false
def rowD (r : List Pd) : D := .tuple (r.map Pd.toD)
def boardD (b : List (List Pd)) : D := .tuple (b.map rowD)
def numsD (ns : List Int) : D := .tuple (ns.map PyData.int)
@[simp] theorem w_louder_cut : (("louder" : Str) = "cut") = False := eq_false (by decide +kernel)
@[simp] theorem w_louder_gate : (("louder" : Str) = "gate") = False := eq_false (by decide +kernel)
@[simp] theorem w_louder_turn : (("louder" : Str) = "turn") = False := eq_false (by decide +kernel)
@[simp] theorem w_louder_fold : (("louder" : Str) = "fold") = False := eq_false (by decide +kernel)
@[simp] theorem w_louder_lift : (("louder" : Str) = "lift") = False := eq_false (by decide +kernel)
@[simp] theorem w_louder_steps : (("louder" : Str) = "steps") = False := eq_false (by decide +kernel)
@[simp] theorem w_louder_late : (("louder" : Str) = "late") = False := eq_false (by decide +kernel)
@[simp] theorem w_cut_louder : (("cut" : Str) = "louder") = False := eq_false (by decide +kernel)
@[simp] theorem w_cut_gate : (("cut" : Str) = "gate") = False := eq_false (by decide +kernel)
@[simp] theorem w_cut_turn : (("cut" : Str) = "turn") = False := eq_false (by decide +kernel)
@[simp] theorem w_cut_fold : (("cut" : Str) = "fold") = False := eq_false (by decide +kernel)
@[simp] theorem w_cut_lift : (("cut" : Str) = "lift") = False := eq_false (by decide +kernel)
@[simp] theorem w_cut_steps : (("cut" : Str) = "steps") = False := eq_false (by decide +kernel)
@[simp] theorem w_cut_late : (("cut" : Str) = "late") = False := eq_false (by decide +kernel)
@[simp] theorem w_gate_louder : (("gate" : Str) = "louder") = False := eq_false (by decide +kernel)
@[simp] theorem w_gate_cut : (("gate" : Str) = "cut") = False := eq_false (by decide +kernel)
@[simp] theorem w_gate_turn : (("gate" : Str) = "turn") = False := eq_false (by decide +kernel)
@[simp] theorem w_gate_fold : (("gate" : Str) = "fold") = False := eq_false (by decide +kernel)
@[simp] theorem w_gate_lift : (("gate" : Str) = "lift") = False := eq_false (by decide +kernel)
@[simp] theorem w_gate_steps : (("gate" : Str) = "steps") = False := eq_false (by decide +kernel)
@[simp] theorem w_gate_late : (("gate" : Str) = "late") = False := eq_false (by decide +kernel)
@[simp] theorem w_turn_louder : (("turn" : Str) = "louder") = False := eq_false (by decide +kernel)
@[simp] theorem w_turn_cut : (("turn" : Str) = "cut") = False := eq_false (by decide +kernel)
@[simp] theorem w_turn_gate : (("turn" : Str) = "gate") = False := eq_false (by decide +kernel)
@[simp] theorem w_turn_fold : (("turn" : Str) = "fold") = False := eq_false (by decide +kernel)
@[simp] theorem w_turn_lift : (("turn" : Str) = "lift") = False := eq_false (by decide +kernel)
@[simp] theorem w_turn_steps : (("turn" : Str) = "steps") = False := eq_false (by decide +kernel)
@[simp] theorem w_turn_late : (("turn" : Str) = "late") = False := eq_false (by decide +kernel)
@[simp] theorem w_fold_louder : (("fold" : Str) = "louder") = False := eq_false (by decide +kernel)
@[simp] theorem w_fold_cut : (("fold" : Str) = "cut") = False := eq_false (by decide +kernel)
@[simp] theorem w_fold_gate : (("fold" : Str) = "gate") = False := eq_false (by decide +kernel)
@[simp] theorem w_fold_turn : (("fold" : Str) = "turn") = False := eq_false (by decide +kernel)
@[simp] theorem w_fold_lift : (("fold" : Str) = "lift") = False := eq_false (by decide +kernel)
@[simp] theorem w_fold_steps : (("fold" : Str) = "steps") = False := eq_false (by decide +kernel)
@[simp] theorem w_fold_late : (("fold" : Str) = "late") = False := eq_false (by decide +kernel)
@[simp] theorem w_lift_louder : (("lift" : Str) = "louder") = False := eq_false (by decide +kernel)
@[simp] theorem w_lift_cut : (("lift" : Str) = "cut") = False := eq_false (by decide +kernel)
@[simp] theorem w_lift_gate : (("lift" : Str) = "gate") = False := eq_false (by decide +kernel)
@[simp] theorem w_lift_turn : (("lift" : Str) = "turn") = False := eq_false (by decide +kernel)
@[simp] theorem w_lift_fold : (("lift" : Str) = "fold") = False := eq_false (by decide +kernel)
@[simp] theorem w_lift_steps : (("lift" : Str) = "steps") = False := eq_false (by decide +kernel)
@[simp] theorem w_lift_late : (("lift" : Str) = "late") = False := eq_false (by decide +kernel)
@[simp] theorem w_steps_louder : (("steps" : Str) = "louder") = False := eq_false (by decide +kernel)
@[simp] theorem w_steps_cut : (("steps" : Str) = "cut") = False := eq_false (by decide +kernel)
@[simp] theorem w_steps_gate : (("steps" : Str) = "gate") = False := eq_false (by decide +kernel)
@[simp] theorem w_steps_turn : (("steps" : Str) = "turn") = False := eq_false (by decide +kernel)
@[simp] theorem w_steps_fold : (("steps" : Str) = "fold") = False := eq_false (by decide +kernel)
@[simp] theorem w_steps_lift : (("steps" : Str) = "lift") = False := eq_false (by decide +kernel)
@[simp] theorem w_steps_late : (("steps" : Str) = "late") = False := eq_false (by decide +kernel)
@[simp] theorem w_late_louder : (("late" : Str) = "louder") = False := eq_false (by decide +kernel)
@[simp] theorem w_late_cut : (("late" : Str) = "cut") = False := eq_false (by decide +kernel)
@[simp] theorem w_late_gate : (("late" : Str) = "gate") = False := eq_false (by decide +kernel)
@[simp] theorem w_late_turn : (("late" : Str) = "turn") = False := eq_false (by decide +kernel)
@[simp] theorem w_late_fold : (("late" : Str) = "fold") = False := eq_false (by decide +kernel)
@[simp] theorem w_late_lift : (("late" : Str) = "lift") = False := eq_false (by decide +kernel)
@[simp] theorem w_late_steps : (("late" : Str) = "steps") = False := eq_false (by decide +kernel)
theorem str_ne {a b : Str} (h : (decide (a = b)) = false) : a ≠ b := of_decide_eq_false h
@[simp] theorem eqv_str (a b : Str) : PyData.eqv (.str a) (.str b) = decide (a = b) := by
  show (a == b) = decide (a = b)
  by_cases h : a = b <;> simp [h]
@[simp] theorem in_str (a : Str) (xs : List D) (μ : Sto) (h : xs.all flatD = true) : inW false (.d (.str a)) (.d (.list xs)) μ = .ok (.d (.bool (xs.any fun z => PyData.eqv z (.str a)))) μ := by
  show (if (flatD (.str a) = true ∧ xs.all flatD = true) ∨ (SeqAt.shaped (.str a) = true ∧ SeqAt.shaped (.list xs) = true) then Rs.ok (Wv.d (.bool (if false = true then !(xs.any fun z => PyData.eqv z (.str a)) else xs.any fun z => PyData.eqv z (.str a)))) μ else Rs.no) = _
  rw [if_pos (.inl ⟨rfl, h⟩)]
  rfl
theorem of3 {b : Nat} {μ : Sto} (h : Bg b μ) {xs : List Int} (h0 : 0 < xs.length) (h1 : xs.length < 1000000) : ∃ n μ', g__law_of [.l b, .d (.list (xs.map PyData.int))] μ = .ok (.d (.int n)) μ' ∧ n ∈ xs ∧ Stp b μ μ' := by
  obtain ⟨d, μ', e, hd, s⟩ := of_ok h (xs := xs.map PyData.int) (by simpa using h0) (by simpa using h1)
  obtain ⟨n, hn, rfl⟩ := List.mem_map.mp hd
  exact ⟨n, μ', e, hn, s⟩
theorem pedal_ok {b : Nat} {μ : Sto} (h : Bg b μ) (lates : Bool) : ∃ p μ', g__law_pedal [.l b, .d (.bool lates)] μ = .ok (.d (Pd.toD p)) μ' ∧ p.ok ∧ (lates = false → p.isLate = false) ∧ Stp b μ μ' := by
  obtain ⟨d, μ1, e1, hd, s1⟩ := of_ok h (xs := [.str "louder", .str "cut", .str "cut", .str "gate", .str "turn", .str "fold", .str "lift", .str "lift", .str "steps", .str (if lates then "late" else "gate")]) (by simp) (by simp)
  have hb1 := s1.bg h
  have L : ∀ {p : Pd} {μ' : Sto}, B__law_pedal [some (.l b), some (.d (.bool lates)), none, none] μ = .ok (.rt (.d p.toD)) μ' → Stp b μ μ' → g__law_pedal [.l b, .d (.bool lates)] μ = .ok (.d (Pd.toD p)) μ' := fun e s => by
    unfold g__law_pedal
    exact run_d e s.len
  have hd : d = .str "louder" ∨ d = .str "cut" ∨ d = .str "gate" ∨ d = .str "turn" ∨ d = .str "fold" ∨ d = .str "lift" ∨ d = .str "steps" ∨ (d = .str "late" ∧ lates = true) := by
    cases lates <;> simp at hd <;> rcases hd with rfl | rfl | rfl | rfl | rfl | rfl | rfl | rfl <;> simp
  have m2 : ∀ {μ'}, Stp b μ1 μ' → Stp b μ μ' := fun s => s1.trans s
  have t2 : ∀ {μ'}, Stp b μ μ' → ∀ m, 0 < m → m < 2 ^ 64 → ∃ r μ'', g__law_take [.l b, .d (.int m)] μ' = .ok (.d (.int r)) μ'' ∧ 0 ≤ r ∧ r < m ∧ Stp b μ μ'' := fun s m z0 z1 => by
    obtain ⟨r, μ2, e, r0, r1, s2⟩ := take_ok (s.bg h) z0 z1
    exact ⟨r, μ2, e, r0, r1, s.trans s2⟩
  have o2 : ∀ {μ'}, Stp b μ μ' → ∀ xs : List Int, 0 < xs.length → xs.length < 1000000 → ∃ n μ'', g__law_of [.l b, .d (.list (xs.map PyData.int))] μ' = .ok (.d (.int n)) μ'' ∧ n ∈ xs ∧ Stp b μ μ'' := fun s xs z0 z1 => by
    obtain ⟨r, μ2, e, r0, s2⟩ := of3 (s.bg h) z0 z1
    exact ⟨r, μ2, e, r0, s.trans s2⟩
  rcases hd with rfl | rfl | rfl | rfl | rfl | rfl | rfl | ⟨rfl, hl⟩
  · obtain ⟨r, μ2, e2, r0, r1, s2⟩ := t2 s1 3 (by decide) (by decide)
    refine ⟨.louder (2 + r), μ2, L ?_ s2, ⟨by omega, by omega⟩, fun _ => rfl, s2⟩
    unfold B__law_pedal
    cases lates <;> simp at e1 <;> simp [mkSeq, dats, LIM, o_addL, e1, e2, flatD, eq_str, Pd.toD]
  · obtain ⟨n, μ2, e2, hn, s2⟩ := o2 s1 [4, 9, 50] (by decide) (by decide)
    have hn : n = 4 ∨ n = 9 ∨ n = 50 := by simpa using hn
    obtain ⟨r, μ3, e3, r0, r1, s3⟩ := t2 s2 n (by omega) (by omega)
    refine ⟨.cut (1 + r), μ3, L ?_ s3, ⟨by omega, by omega⟩, fun _ => rfl, s3⟩
    simp only [List.map_cons, List.map_nil] at e2
    unfold B__law_pedal
    cases lates <;> simp at e1 <;> simp [mkSeq, dats, LIM, o_addL, e1, e2, e3, flatD, eq_str, Pd.toD]
  · obtain ⟨n, μ2, e2, hn, s2⟩ := o2 s1 [4, 9, 50] (by decide) (by decide)
    have hn : n = 4 ∨ n = 9 ∨ n = 50 := by simpa using hn
    obtain ⟨r, μ3, e3, r0, r1, s3⟩ := t2 s2 n (by omega) (by omega)
    refine ⟨.gate (1 + r), μ3, L ?_ s3, ⟨by omega, by omega⟩, fun _ => rfl, s3⟩
    simp only [List.map_cons, List.map_nil] at e2
    unfold B__law_pedal
    cases lates <;> simp at e1 <;> simp [mkSeq, dats, LIM, o_addL, e1, e2, e3, flatD, eq_str, Pd.toD]
  · refine ⟨.turn, μ1, L ?_ s1, trivial, fun _ => rfl, s1⟩
    unfold B__law_pedal
    cases lates <;> simp at e1 <;> simp [mkSeq, dats, LIM, o_addL, e1, e1, flatD, eq_str, Pd.toD]
  · refine ⟨.fold, μ1, L ?_ s1, trivial, fun _ => rfl, s1⟩
    unfold B__law_pedal
    cases lates <;> simp at e1 <;> simp [mkSeq, dats, LIM, o_addL, e1, e1, flatD, eq_str, Pd.toD]
  · obtain ⟨g, μ2, e2, hg, s2⟩ := o2 s1 [-1, 1] (by decide) (by decide)
    obtain ⟨n, μ3, e3, hn, s3⟩ := o2 s2 [3, 20] (by decide) (by decide)
    have hn : n = 3 ∨ n = 20 := by simpa using hn
    have hg : g = -1 ∨ g = 1 := by simpa using hg
    obtain ⟨r, μ4, e4, r0, r1, s4⟩ := t2 s3 n (by omega) (by omega)
    refine ⟨.lift (g * (1 + r)), μ4, L ?_ s4, ⟨?_, ?_, ?_⟩, fun _ => rfl, s4⟩
    · have c : CMul g (1 + r) := cmul1 (by omega)
      simp only [List.map_cons, List.map_nil] at e2 e3
      unfold B__law_pedal
      cases lates <;> simp at e1 <;> simp [mkSeq, dats, LIM, o_addL, e1, e2, e3, e4, c, flatD, eq_str, Pd.toD]
    · rcases hg with rfl | rfl <;> omega
    · rcases hg with rfl | rfl <;> omega
    · rcases hg with rfl | rfl <;> omega
  · obtain ⟨r, μ2, e2, r0, r1, s2⟩ := t2 s1 4 (by decide) (by decide)
    refine ⟨.steps (2 + r), μ2, L ?_ s2, ⟨by omega, by omega⟩, fun _ => rfl, s2⟩
    unfold B__law_pedal
    cases lates <;> simp at e1 <;> simp [mkSeq, dats, LIM, o_addL, e1, e2, flatD, eq_str, Pd.toD]
  · subst hl
    obtain ⟨r, μ2, e2, r0, r1, s2⟩ := t2 s1 5 (by decide) (by decide)
    refine ⟨.late (1 + r), μ2, L ?_ s2, ⟨by omega, by omega⟩, fun z => (by cases z), s2⟩
    unfold B__law_pedal
    simp at e1
    simp [mkSeq, dats, LIM, o_addL, e1, e2, flatD, eq_str, Pd.toD]

/-! ### rows, boards, numbers -/
def rowOk (r : List Pd) : Prop := ∀ p ∈ r, p.ok
theorem rb {j : Int} (h0 : 0 ≤ j) (h1 : j ≤ 1000000) : -RB ≤ j ∧ j ≤ RB := by
  have : RB = 1000000000000 := rfl
  omega
theorem rangeD_len (n : Nat) : (rangeD 0 n).length = n := rangeD_length 0 n
theorem pedals_ok {b : Nat} {μ : Sto} (h : Bg b μ) (most : Nat) (hm : most < 1000) (lates : Bool) : ∃ r μ', g__law_pedals [.l b, .d (.int most), .d (.bool lates)] μ = .ok (.d (rowD r)) μ' ∧ rowOk r ∧ r.length ≤ most ∧ (lates = false → ∀ p ∈ r, p.isLate = false) ∧ Stp b μ μ' := by
  obtain ⟨n, μ1, e1, n0, n1, s1⟩ := take_ok h (m := (most : Int) + 1) (by omega) (by omega)
  obtain ⟨k, rfl⟩ := Int.eq_ofNat_of_zero_le n0
  have hk : k ≤ most := by omega
  obtain ⟨ps, μ2, e2, l2, p2, s2⟩ := comp_draw (g := gVar 3) (e := fCall (callD 2 g__law_pedal) (fCons (fVar 0) (fCons (fVar 2) (fNil)))) (env := [some (.l b), some (.d (.int most)), some (.d (.bool lates)), none]) (toD := Pd.toD) (P := fun p => p.ok ∧ (lates = false → p.isLate = false)) (I := fun μ' => Stp b μ μ') (rangeD 0 k) μ1 [] s1 (by simp) (by
    intro x hx μ' s'
    obtain ⟨p, μ2, e2, o2, l2, s2⟩ := pedal_ok (s'.bg h) lates
    exact ⟨_, p, μ2, rfl, by simp [e2], ⟨o2, l2⟩, s'.trans s2⟩) (by rw [rangeD_len]; simp [LIM]; omega)
  rw [rangeD_len] at l2
  refine ⟨ps, μ2, ?_, fun p hp => (p2 p hp).1, by simp at l2; omega, fun z p hp => (p2 p hp).2 z, s2⟩
  unfold g__law_pedals
  refine run_d ?_ s2.len
  unfold B__law_pedals
  simp [startE, e1, rg_k (show k ≤ 1000000 by omega)]
  simp at e2 ⊢
  rw [e2]
  simp [rowD]
def boardOk (b : List (List Pd)) : Prop := ∀ r ∈ b, rowOk r
theorem board_ok {b : Nat} {μ : Sto} (h : Bg b μ) (most : Nat) (hm : most < 1000) : ∃ B μ', g__law_board [.l b, .d (.int most)] μ = .ok (.d (boardD B)) μ' ∧ boardOk B ∧ (∀ r ∈ B, r.length ≤ most) ∧ 1 ≤ B.length ∧ B.length ≤ 3 ∧ Stp b μ μ' := by
  obtain ⟨n, μ1, e1, hn, s1⟩ := of3 h (xs := [1, 1, 2, 3]) (by decide) (by decide)
  have hn : n = 1 ∨ n = 2 ∨ n = 3 := by simp at hn; omega
  obtain ⟨k, rfl⟩ := Int.eq_ofNat_of_zero_le (show 0 ≤ n by omega)
  obtain ⟨ps, μ2, e2, l2, p2, s2⟩ := comp_draw (g := gVar 3) (e := fCall (callD 3 g__law_pedals) (fCons (fVar 0) (fCons (fVar 1) (fCons (fC (.bool true)) (fNil))))) (env := [some (.l b), some (.d (.int most)), some (.d (.int k)), none]) (toD := rowD) (P := fun r => rowOk r ∧ r.length ≤ most) (I := fun μ' => Stp b μ μ') (rangeD 0 k) μ1 [] s1 (by simp) (by
    intro x hx μ' s'
    obtain ⟨p, μ2, e2, o2, l2, _, s2⟩ := pedals_ok (s'.bg h) most hm true
    exact ⟨_, p, μ2, rfl, by simp [e2], ⟨o2, l2⟩, s'.trans s2⟩) (by rw [rangeD_len]; simp [LIM]; omega)
  rw [rangeD_len] at l2
  simp at l2
  refine ⟨ps, μ2, ?_, fun p hp => (p2 p hp).1, fun p hp => (p2 p hp).2, by omega, by omega, s2⟩
  unfold g__law_board
  refine run_d ?_ s2.len
  unfold B__law_board
  simp only [List.map_cons, List.map_nil] at e1
  simp [startE, mkSeq, dats, LIM, e1, rg_k (show k ≤ 1000000 by omega)]
  simp at e2 ⊢
  rw [e2]
  simp [boardD]
theorem for_draw {β : Type} {g : FG} {bd : FS} {P : List β → Prop} {E : List β → Env → Prop} {I : Sto → Prop} (N : Nat) : ∀ (xs : List D) (acc : List β) (env : Env) (μ : Sto), acc.length + xs.length ≤ N → I μ → E acc env → P acc → (∀ x ∈ xs, ∀ acc env μ, acc.length < N → I μ → E acc env → P acc → ∃ env1 env2 b μ', g (.d x) env μ = .ok env1 μ ∧ bd env1 μ = .ok (.nx env2) μ' ∧ E (acc ++ [b]) env2 ∧ P (acc ++ [b]) ∧ I μ') → ∃ (bs : List β) (env' : Env) (μ' : Sto), forF g bd xs env μ = .ok (.nx env') μ' ∧ E bs env' ∧ bs.length = acc.length + xs.length ∧ P bs ∧ I μ'
  | [], acc, env, μ, _, h, he, hp, _ => ⟨acc, env, μ, rfl, he, rfl, hp, h⟩
  | x :: r, acc, env, μ, hN, h, he, hp, hs => by
    rw [List.length_cons] at hN
    obtain ⟨env1, env2, b, μ1, h1, h2, h3, h4, h5⟩ := hs x List.mem_cons_self acc env μ (by omega) h he hp
    obtain ⟨bs, env', μ', h6, h7, h8, h9⟩ := for_draw (P := P) (E := E) (I := I) N r (acc ++ [b]) env2 μ1 (by rw [List.length_append, List.length_singleton]; omega) h5 h3 h4 fun y hy => hs y (List.mem_cons_of_mem _ hy)
    refine ⟨bs, env', μ', ?_, h7, by rw [h8, List.length_append, List.length_singleton, List.length_cons]; omega, h9⟩
    unfold forF
    rw [h1]
    simp only [noex_ok, Rs.bind_ok, h2, h6]
theorem numbers_ok {b : Nat} {μ : Sto} (h : Bg b μ) (most : Nat) (hm : most < 1000) : ∃ ns μ', g__law_numbers [.l b, .d (.int most)] μ = .ok (.d (numsD ns)) μ' ∧ ns.length ≤ most ∧ (∀ n ∈ ns, -1000000000000 ≤ n ∧ n ≤ 1000000000000) ∧ Stp b μ μ' := by
  obtain ⟨n, μ1, e1, n0, n1, s1⟩ := take_ok h (m := (most : Int) + 1) (by omega) (by omega)
  obtain ⟨k, rfl⟩ := Int.eq_ofNat_of_zero_le n0
  have hk : k ≤ most := by omega
  have cp : CPow 10 12 := by unfold CPow; decide
  obtain ⟨ns, env', μ2, e2, he, l2, p2, s2⟩ := for_draw (β := Int) (g := gVar 3) (bd := (sCons (sAsg (fCall (callD 2 g__law_of) (fCons (fVar 0) (fCons (fLst (fCons (fC (.int 4)) (fCons (fC (.int 12)) (fCons (fC (.int 60)) (fCons (fC (.int 400)) (fCons (fOp (opI fun i j => if CPow i j then some (.int (i ^ j.toNat)) else none) (fC (.int 10)) (fC (.int 12))) (fNil))))))) (fNil)))) (gVar 4)) (sAsg (fOp addW (fVar 2) (fTup (fCons (fOp (opI fun i j => some (.int (i - j))) (fCall (callD 2 g__law_take) (fCons (fVar 0) (fCons (fOp addW (fOp mulW (fC (.int 2)) (fVar 4)) (fC (.int 1))) (fNil)))) (fVar 4)) (fNil)))) (gVar 2))))
    (P := fun ns => ∀ n ∈ ns, -1000000000000 ≤ n ∧ n ≤ 1000000000000) (E := fun ns env => ∃ t z, env = [some (.l b), some (.d (.int most)), some (.d (numsD ns)), t, z]) (I := fun μ' => Stp b μ μ') k (rangeD 0 k) [] [some (.l b), some (.d (.int most)), some (.d (numsD [])), none, none] μ1 (by rw [rangeD_len]; simp) s1 ⟨_, _, rfl⟩ (by simp) (by
    intro x hx acc env μ' hl s' he hp
    obtain ⟨t, z, rfl⟩ := he
    obtain ⟨m, μ3, e3, hm3, s3⟩ := of3 (s'.bg h) (xs := [4, 12, 60, 400, 1000000000000]) (by decide) (by decide)
    have hm3 : 4 ≤ m ∧ m ≤ 1000000000000 := by simp at hm3; omega
    have s3' := s'.trans s3
    obtain ⟨r, μ4, e4, r0, r1, s4⟩ := take_ok (s3'.bg h) (m := 2 * m + 1) (by omega) (by omega)
    have c : CMul 2 m := cmul1 (by omega)
    simp only [List.map_cons, List.map_nil] at e3
    refine ⟨_, [some (.l b), some (.d (.int most)), some (.d (numsD (acc ++ [r - m]))), some (.d x), some (.d (.int m))], r - m, μ4, rfl, ?_, ⟨_, _, rfl⟩, ?_, s3'.trans s4⟩
    · have cp' : (10 : Int) ^ (12 : Int).toNat = 1000000000000 := by decide
      have e5 : ∀ μ, opI (fun i j => if CPow i j then some (.int (i ^ j.toNat)) else none) (.d (.int 10)) (.d (.int 12)) μ = .ok (.d (.int 1000000000000)) μ := fun μ => by
        show (match (if CPow 10 12 then some (PyData.int ((10 : Int) ^ (12 : Int).toNat)) else none) with | some d => Rs.ok (Wv.d d) μ | none => Rs.no) = _
        rw [if_pos cp, cp']
      have hl' : acc.length + 1 ≤ 16000000 := by omega
      simp [e5, e3, c, e4, numsD, o_addT, LIM, hl']
    · intro n hn
      rcases List.mem_append.mp hn with hn | hn
      · exact hp n hn
      · rw [List.mem_singleton.mp hn]
        omega)
  rw [rangeD_len] at l2
  obtain ⟨t, z, rfl⟩ := he
  refine ⟨ns, μ2, ?_, by simp at l2; omega, p2, s2⟩
  unfold g__law_numbers
  refine run_d ?_ s2.len
  unfold B__law_numbers
  simp [startE, e1, rg_k (show k ≤ 1000000 by omega)]
  simp [numsD] at e2 ⊢
  rw [e2]
  simp

/-! ### the bag's making -/
theorem bag_ok (ns : List Int) (k : Nat) (hk : k < 1000) (μ : Sto) : ∃ x y, g__law_bag [.s ns, .d (.int k)] μ = .ok (.l μ.length) (μ ++ [bagO x y]) ∧ BagOk x y := by
  have cp : CPow 10 18 := by unfold CPow; decide
  have e5 : ∀ μ, opI (fun i j => if CPow i j then some (.int (i ^ j.toNat)) else none) (.d (.int 10)) (.d (.int 18)) μ = .ok (.d (.int 1000000000000000000)) μ := fun μ => by
    show (match (if CPow 10 18 then some (PyData.int ((10 : Int) ^ (18 : Int).toNat)) else none) with | some d => Rs.ok (Wv.d d) μ | none => Rs.no) = _
    rw [if_pos cp]
    rfl
  have hc : ∃ c : Int, 0 ≤ c ∧ (fIf (fB (fOp (cmpW fun i j => decide (i < j)) (fVar 1) (fCall kLen (fCons (fVar 0) (fNil))))) (fCall kAbs (fCons (fCall kInt (fCons (fOp ixW (fVar 0) (fVar 1)) (fNil))) (fNil))) (fOp addW (fOp mulW (fC (.int 53)) (fVar 1)) (fC (.int 13)))) [some (.s ns), some (.d (.int k)), none] μ = .ok (.d (.int c)) μ := by
    by_cases h : k < ns.length
    · refine ⟨if ns[k] < 0 then -ns[k] else ns[k], by split <;> omega, ?_⟩
      have e : ixW (.s ns) (.d (.int k)) μ = .ok (.d (.int ns[k])) μ := by
        show (match atI ns (k : Int) with | some k => Rs.ok (Wv.d (.int k)) μ | none => Rs.no) = _
        rw [atI_nat, List.getElem?_eq_getElem h]
      simp [h, e]
    · have c : CMul 53 k := cmul1 (by omega)
      exact ⟨53 * k + 13, by omega, by simp [h, c]⟩
  obtain ⟨c, c0, ec⟩ := hc
  have ck : CMul 70001 k := cmul1 (by omega)
  refine ⟨if 1000000000000000000 ≤ c then c else 0, (c % 2147483423 + 70001 * k + 31) % 2147483423, ?_, by split <;> omega, Int.emod_nonneg _ (by decide), Int.emod_lt_of_pos _ (by decide)⟩
  unfold g__law_bag runF B__law_bag
  have hs : startE 3 [.s ns, .d (.int k)] = [some (.s ns), some (.d (.int k)), none] := rfl
  rw [hs, e_sCons, e_sAsg, ec]
  simp [e5, o_mod (show (0 : Int) < 2147483423 by decide), ck, LIM]
  have key : ∀ z : Int, handBack μ (.rt (.l μ.length)) (μ ++ [.lst [.d (.int z), .d (.int ((c % 2147483423 + 70001 * k + 31) % 2147483423))]]) = .ok (.l μ.length) (μ ++ [bagO z ((c % 2147483423 + 70001 * k + 31) % 2147483423)]) := fun z => by
    unfold handBack
    simp [bagO]
  by_cases hz : 1000000000000000000 ≤ c
  · simp [hz, key]
  · simp [hz, key]
theorem bag_new {μ : Sto} {x y : Int} (h : BagOk x y) : Bg μ.length (μ ++ [bagO x y]) := ⟨x, y, by simp, h⟩
end Ped

/-! PedR: what the program's own functions answer of pedals, rows, boards, sounds -/
namespace Ped
open PySem L2 PyProof.Rows PySem.Spec
def shape : Pd → Int → Int
  | .louder k, n => n * k
  | .cut k, n => if (if n < k then n else k) > 0 - k then (if n < k then n else k) else 0 - k
  | .gate k, n => if k ≤ n ∨ n ≤ 0 - k then n else 0
  | .turn, n => 0 - n
  | .fold, n => if 0 - n > n then 0 - n else n
  | .lift k, n => n + k
  | .steps k, n => if 0 ≤ n then n - n % k else (0 - n) % k + n
  | .late _, n => n
def rowShape (r : List Pd) (n : Int) : Int := r.foldl (fun n p => shape p n) n
def lateK : Pd → Int
  | .late k => k
  | _ => 0
def lateOf (r : List Pd) : Int := (r.map lateK).sum
theorem isty_int (T : String) (i : Int) : isTy T (.int i) = ("int" == T || (T == "int" && "int" == "bool")) := rfl
/-- data of a known depth, that can be laid -/
def Shp (n : Nat) (d : D) : Prop := d.canLay0 = true ∧ d.depth ≤ n
theorem Shp.mono {m n : Nat} {d : D} (h : Shp m d) (hm : m ≤ n) : Shp n d := ⟨h.1, Nat.le_trans h.2 hm⟩
theorem Shp.shaped {n : Nat} {d : D} (h : Shp n d) (hn : n ≤ 64) : SeqAt.shaped d = true := by
  unfold SeqAt.shaped
  rw [h.1, decide_eq_true (Nat.le_trans h.2 hn)]
  rfl
theorem Shp.int (i : Int) (n : Nat) : Shp n (.int i) := ⟨rfl, Nat.zero_le _⟩
theorem Shp.bool (i : Bool) (n : Nat) : Shp n (.bool i) := ⟨rfl, Nat.zero_le _⟩
theorem Shp.non (n : Nat) : Shp n .none := ⟨rfl, Nat.zero_le _⟩
theorem Shp.str {s : Str} (h : (PyData.str s).canLay0 = true) (n : Nat) : Shp n (.str s) := ⟨h, Nat.zero_le _⟩
theorem Shp.all {n : Nat} : ∀ {ds : List D}, (∀ d ∈ ds, Shp n d) → PyData.canLayAll0 ds = true ∧ PyData.depthAll ds ≤ n
  | [], _ => ⟨rfl, Nat.zero_le _⟩
  | d :: r, h => by
    obtain ⟨h1, h2⟩ := Shp.all fun e he => h e (List.mem_cons_of_mem _ he)
    obtain ⟨h3, h4⟩ := h d List.mem_cons_self
    exact ⟨by show (d.canLay0 && PyData.canLayAll0 r) = true; rw [h1, h3]; rfl, Nat.max_le.mpr ⟨h4, h2⟩⟩
theorem Shp.tup {n : Nat} {ds : List D} (h : ∀ d ∈ ds, Shp n d) : Shp (n + 1) (.tuple ds) := ⟨(Shp.all h).1, Nat.succ_le_succ (Shp.all h).2⟩
theorem Shp.lst {n : Nat} {ds : List D} (h : ∀ d ∈ ds, Shp n d) : Shp (n + 1) (.list ds) := ⟨(Shp.all h).1, Nat.succ_le_succ (Shp.all h).2⟩
theorem shp_pd (p : Pd) : Shp 1 p.toD := by
  cases p <;> (refine Shp.tup fun d hd => ?_) <;> simp at hd <;> (try rcases hd with rfl | rfl) <;> (try subst hd) <;> first | exact .str (by decide +kernel) 0 | exact .int _ 0
theorem shp_row (r : List Pd) : Shp 2 (rowD r) := Shp.tup fun d hd => by
  obtain ⟨p, _, rfl⟩ := List.mem_map.mp hd
  exact shp_pd p
theorem shp_board (b : List (List Pd)) : Shp 3 (boardD b) := Shp.tup fun d hd => by
  obtain ⟨p, _, rfl⟩ := List.mem_map.mp hd
  exact shp_row p
theorem shp_nil : SeqAt.shaped (.tuple []) = true := rfl
section
variable {μ : Sto}
@[simp] theorem is_number_i (i : Int) : g_is_number [.d (.int i)] μ = .ok (.d (.bool true)) μ := by
  unfold g_is_number
  refine run_0 ?_
  unfold B_is_number
  simp [startE, isTy, tyD]
@[simp] theorem isTy_tup (ds : List D) : isTy "tuple" (.tuple ds) = true := rfl
@[simp] theorem isTy_str (s : Str) : isTy "str" (.str s) = true := rfl
theorem same_eqv {d e : D} (h : scalD d e = true) : sameD d e = PyData.eqv d e := by
  cases d <;> cases e <;> first | exact absurd h Bool.false_ne_true | (simp [sameD, PyData.eqv]; done) | (simp only [sameD, PyData.eqv]; rename_i a b; by_cases hh : a = b <;> simp [hh])
theorem eq_dd (n : Bool) {d e : D} (h1 : SeqAt.shaped d = true) (h2 : SeqAt.shaped e = true) : eqW n (.d d) (.d e) μ = .ok (.d (.bool (if n then !(PyData.eqv d e) else PyData.eqv d e))) μ := by
  show (match eqD d e with | some b => Rs.ok (Wv.d (.bool (if n then !b else b))) μ | none => Rs.no) = _
  unfold eqD
  by_cases hs : scalD d e = true
  · rw [if_pos hs, same_eqv hs]
  · rw [if_neg hs, if_pos ⟨h1, h2⟩]
@[simp] theorem look_louder : v_BOUNDS.lookup ("louder" : Str) = some (2, 4) := by with_unfolding_all rfl
@[simp] theorem look_cut : v_BOUNDS.lookup ("cut" : Str) = some (1, 50) := by with_unfolding_all rfl
@[simp] theorem look_gate : v_BOUNDS.lookup ("gate" : Str) = some (1, 50) := by with_unfolding_all rfl
@[simp] theorem look_lift : v_BOUNDS.lookup ("lift" : Str) = some (-20, 20) := by with_unfolding_all rfl
@[simp] theorem look_steps : v_BOUNDS.lookup ("steps" : Str) = some (2, 5) := by with_unfolding_all rfl
@[simp] theorem look_late : v_BOUNDS.lookup ("late" : Str) = some (1, 5) := by with_unfolding_all rfl
@[simp] theorem look_turn : v_BOUNDS.lookup ("turn" : Str) = none := by with_unfolding_all rfl
@[simp] theorem look_fold : v_BOUNDS.lookup ("fold" : Str) = none := by with_unfolding_all rfl
@[simp] theorem inTab_s (n : Bool) (z : Str) : inTabW n v_BOUNDS (.d (.str z)) μ = .ok (.d (.bool (if n then !(v_BOUNDS.lookup z).isSome else (v_BOUNDS.lookup z).isSome))) μ := rfl
@[simp] theorem inPlain (z : Str) : inKW false v_PLAIN (.d (.str z)) μ = .ok (.d (.bool (decide (z = "turn" ∨ z = "fold")))) μ := by
  show (if flatD (.str z) = true ∧ v_PLAIN.all flatD = true then Rs.ok (Wv.d (.bool (if false = true then !(v_PLAIN.any fun y => PyData.eqv y (.str z)) else v_PLAIN.any fun y => PyData.eqv y (.str z)))) μ else Rs.no) = _
  rw [if_pos ⟨rfl, rfl⟩, if_neg Bool.false_ne_true]
  congr 3
  unfold v_PLAIN
  simp only [List.map_cons, List.map_nil, List.any_cons, List.any_nil, eqv_str, Bool.or_false]
  by_cases h1 : z = "turn" <;> by_cases h2 : z = "fold" <;> simp [h1, h2, eq_comm]
theorem is_pedal_ok {p : Pd} (h : p.ok) : g_is_pedal [.d p.toD] μ = .ok (.d (.bool true)) μ := by
  unfold g_is_pedal
  refine run_0 ?_
  unfold B_is_pedal
  have hs := eq_dd (μ := μ) false ((shp_pd p).shaped (by decide)) shp_nil
  cases p <;> simp [Pd.ok] at h <;> simp [Pd.toD] at hs <;> simp [startE, Pd.toD, eq_int, hs, sTab, h, PyData.eqv, PyData.eqvAll] <;> omega
theorem toD_tuple (p : Pd) : ∃ ds, p.toD = .tuple ds := by cases p <;> exact ⟨_, rfl⟩
theorem all_true {α : Type} (xs : List α) : (xs.map fun _ => PyData.bool true) = (List.replicate xs.length true).map PyData.bool := by
  induction xs with
  | nil => rfl
  | cons a r ih => simp [List.replicate_succ, ih]
theorem kAll_true {α : Type} (xs : List α) : kAll [.d (.list (xs.map fun _ => PyData.bool true))] μ = .ok (.d (.bool true)) μ := by
  rw [all_true, k_all_b]
  simp
theorem is_row_ok {r : List Pd} (h : rowOk r) (hl : r.length ≤ 6) : g_is_row [.d (rowD r)] μ = .ok (.d (.bool true)) μ := by
  unfold g_is_row
  refine run_0 ?_
  unfold B_is_row
  have e := comp_map (g := gVar 1) (e := fCall (callD 1 g_is_pedal) (fCons (fVar 1) (fNil))) (env := [some (.d (rowD r)), none]) (toD := Pd.toD) (φ := fun _ => .bool true) r μ [] (fun p hp => ⟨_, rfl, by simp [is_pedal_ok (h p hp)]⟩) (by simp [LIM]; omega)
  simp [startE, rowD] at e ⊢
  have hl' : (r.length : Int) ≤ 6 := by omega
  simp [hl', e, kAll_true]
theorem is_board_ok {b : List (List Pd)} (h : boardOk b) (hl : ∀ r ∈ b, r.length ≤ 6) (h1 : 1 ≤ b.length) (h3 : b.length ≤ 3) : g_is_board [.d (boardD b)] μ = .ok (.d (.bool true)) μ := by
  unfold g_is_board
  refine run_0 ?_
  unfold B_is_board
  have e := comp_map (g := gVar 1) (e := fCall (callD 1 g_is_row) (fCons (fVar 1) (fNil))) (env := [some (.d (boardD b)), none]) (toD := rowD) (φ := fun _ => .bool true) b μ [] (fun p hp => ⟨_, rfl, by simp [is_row_ok (h p hp) (hl p hp)]⟩) (by simp [LIM]; omega)
  simp [startE, boardD] at e ⊢
  have hl' : (b.length : Int) ≤ 3 := by omega
  have hl2 : 1 ≤ (b.length : Int) := by omega
  simp [hl', hl2, e, kAll_true]
theorem are_numbers_ok (ns : List Int) (hl : ns.length ≤ 1000000) : g_are_numbers [.d (numsD ns)] μ = .ok (.d (.bool true)) μ := by
  unfold g_are_numbers
  refine run_0 ?_
  unfold B_are_numbers
  have e := comp_map (g := gVar 1) (e := fCall (callD 1 g_is_number) (fCons (fVar 1) (fNil))) (env := [some (.d (numsD ns)), none]) (toD := PyData.int) (φ := fun _ => .bool true) ns μ [] (fun p hp => ⟨_, rfl, by simp⟩) (by simp [LIM]; omega)
  simp [startE, numsD] at e ⊢
  simp [e, kAll_true]
theorem is_sound_ok (ns : List Int) (hl : ns.length ≤ 40) : g_is_sound [.d (numsD ns)] μ = .ok (.d (.bool true)) μ := by
  unfold g_is_sound
  refine run_0 ?_
  unfold B_is_sound
  have hl' : (ns.length : Int) ≤ 40 := by omega
  have e := are_numbers_ok (μ := μ) ns (by omega)
  simp [numsD] at e
  simp [startE, e, numsD, hl']
theorem need_row_ok {r : List Pd} (h : rowOk r) (hl : r.length ≤ 6) : g_need_row [.d (rowD r)] μ = .ok (.d .none) μ := by
  unfold g_need_row
  refine run_n (env := [some (.d (rowD r))]) ?_
  unfold B_need_row
  simp [startE, is_row_ok h hl]
theorem need_board_ok {b : List (List Pd)} (h : boardOk b) (hl : ∀ r ∈ b, r.length ≤ 6) (h1 : 1 ≤ b.length) (h3 : b.length ≤ 3) : g_need_board [.d (boardD b)] μ = .ok (.d .none) μ := by
  unfold g_need_board
  refine run_n (env := [some (.d (boardD b))]) ?_
  unfold B_need_board
  simp [startE, is_board_ok h hl h1 h3]
theorem need_sound_ok (ns : List Int) (hl : ns.length ≤ 40) : g_need_sound [.d (numsD ns)] μ = .ok (.d .none) μ := by
  unfold g_need_sound
  refine run_n (env := [some (.d (numsD ns))]) ?_
  unfold B_need_sound
  simp [startE, is_sound_ok ns hl]
theorem need_number_ok (n : Int) : g_need_number [.d (.int n)] μ = .ok (.d .none) μ := by
  unfold g_need_number
  refine run_n (env := [some (.d (.int n))]) ?_
  unfold B_need_number
  simp [startE]
theorem pedal_shape_ok {p : Pd} (h : p.ok) (n : Int) : g_pedal_shape [.d p.toD, .d (.int n)] μ = .ok (.d (.int (shape p n))) μ := by
  unfold g_pedal_shape
  refine run_0 ?_
  unfold B_pedal_shape
  cases p with
  | louder k =>
    have c : CMul n k := cmul2 (by simp [Pd.ok] at h; omega)
    simp [startE, Pd.toD, eq_str, c, shape]
  | steps k =>
    have c : 0 < k := by simp [Pd.ok] at h; omega
    by_cases hn : 0 ≤ n <;> simp [startE, Pd.toD, eq_str, shape, o_mod c, hn]
  | gate k =>
    by_cases h1 : k ≤ n
    · simp [startE, Pd.toD, eq_str, shape, h1]
    · by_cases h2 : n ≤ -k <;> simp [startE, Pd.toD, eq_str, shape, h1, h2]
  | _ => simp [startE, Pd.toD, eq_str, shape]
theorem row_shape_ok {r : List Pd} (h : rowOk r) (n : Int) : g_row_shape [.d (rowD r), .d (.int n)] μ = .ok (.d (.int (rowShape r n))) μ := by
  unfold g_row_shape
  refine run_0 ?_
  unfold B_row_shape
  obtain ⟨env', e, t, rfl⟩ := for_fold (g := gVar 2) (b := sAsg (fCall (callD 2 g_pedal_shape) (fCons (fVar 2) (fCons (fVar 1) (fNil)))) (gVar 1)) (toD := Pd.toD) (E := fun n env => ∃ t, env = [some (.d (rowD r)), some (.d (.int n)), t]) (step := fun n p => shape p n) r n [some (.d (rowD r)), some (.d (.int n)), none] μ ⟨_, rfl⟩ (by
    rintro p hp n env ⟨t, rfl⟩
    exact ⟨_, _, rfl, by simp [pedal_shape_ok (h p hp)]; rfl, _, rfl⟩)
  simp [startE, rowD] at e ⊢
  rw [e]
  simp [rowShape]
@[simp] theorem k_sum_g {α : Type} (f : α → Int) (xs : List α) : kSum [.d (.list (xs.map fun x => .int (f x)))] μ = .ok (.d (.int (xs.map f).sum)) μ := by
  have := k_sum_i (μ := μ) (xs.map f)
  rw [List.map_map] at this
  exact this
theorem late_sum : ∀ r : List Pd, ((r.filter Pd.isLate).map lateK).sum = lateOf r
  | [] => rfl
  | p :: r => by
    have := late_sum r
    cases p <;> simp_all [List.filter_cons, Pd.isLate, lateK, lateOf]
theorem late_of_ok {r : List Pd} (hl : r.length ≤ 1000000) : g_late_of [.d (rowD r)] μ = .ok (.d (.int (lateOf r))) μ := by
  unfold g_late_of
  refine run_0 ?_
  unfold B_late_of
  have e := comp_filter (g := gVar 1) (t := fB (fOp (eqW false) (fOp ixW (fVar 1) (fC (.int 0))) (fC (.str "late")))) (e := fOp ixW (fVar 1) (fC (.int 1))) (env := [some (.d (rowD r)), none]) (toD := Pd.toD) (q := Pd.isLate) (φ := fun p => .int (lateK p)) r μ [] (by
    intro p hp
    refine ⟨_, rfl, ?_, ?_⟩
    · cases p <;> simp [Pd.toD, eq_str, Pd.isLate]
    · cases p <;> simp [Pd.toD, Pd.isLate, lateK]) (by simp [LIM]; omega)
  simp only [List.nil_append, rowD] at e
  simp [startE, rowD, e, late_sum]
end
end Ped

/-! PedS: what is heard; the law's own shaping and hearing -/
namespace Ped
open PySem L2 PyProof.Rows PySem.Spec
/-! ### data that is the same -/
mutual
theorem eqv_refl : ∀ d : D, d.canLay0 = true → PyData.eqv d d = true
  | .none, _ => rfl
  | .bool b, _ => by simp [PyData.eqv]
  | .int b, _ => by simp [PyData.eqv]
  | .str b, _ => by simp [PyData.eqv]
  | .list xs, h => eqvAll_refl xs h
  | .tuple xs, h => eqvAll_refl xs h
  | .dict _, h => by cases h
theorem eqvAll_refl : ∀ ds : List D, PyData.canLayAll0 ds = true → PyData.eqvAll ds ds = true
  | [], _ => rfl
  | d :: r, h => by
    have h : (d.canLay0 && PyData.canLayAll0 r) = true := h
    rw [Bool.and_eq_true] at h
    show (PyData.eqv d d && PyData.eqvAll r r) = true
    rw [eqv_refl d h.1, eqvAll_refl r h.2]
    rfl
end
section
variable {μ : Sto}
theorem ne_same {d : D} {n : Nat} (h : Shp n d) (hn : n ≤ 64) : eqW true (.d d) (.d d) μ = .ok (.d (.bool false)) μ := by
  rw [eq_dd true (h.shaped hn) (h.shaped hn), eqv_refl d h.1]
  rfl
theorem shp_ints (ns : List Int) : Shp 1 (.list (ns.map PyData.int)) := Shp.lst fun d hd => by
  obtain ⟨i, _, rfl⟩ := List.mem_map.mp hd
  exact .int i 0
theorem shp_nums (ns : List Int) : Shp 1 (numsD ns) := Shp.tup fun d hd => by
  obtain ⟨i, _, rfl⟩ := List.mem_map.mp hd
  exact .int i 0
end
/-! ### loops over names and store -/
theorem for_step {α σ : Type} {g : FG} {b : FS} {toD : α → D} {E : σ → Env → Sto → Prop} {step : σ → α → σ} : ∀ (xs : List α) (s : σ) (env : Env) (μ : Sto), E s env μ → (∀ x ∈ xs, ∀ s env μ, E s env μ → ∃ env1 μ1 env2 μ2, g (.d (toD x)) env μ = .ok env1 μ1 ∧ b env1 μ1 = .ok (.nx env2) μ2 ∧ E (step s x) env2 μ2) → ∃ env' μ', forF g b (xs.map toD) env μ = .ok (.nx env') μ' ∧ E (xs.foldl step s) env' μ'
  | [], s, env, μ, h, _ => ⟨env, μ, rfl, h⟩
  | x :: r, s, env, μ, h, hs => by
    obtain ⟨env1, μ1, env2, μ2, h1, h2, h3⟩ := hs x List.mem_cons_self s env μ h
    obtain ⟨env', μ', h4, h5⟩ := for_step r (step s x) env2 μ2 h3 fun y hy => hs y (List.mem_cons_of_mem _ hy)
    refine ⟨env', μ', ?_, h5⟩
    rw [List.map_cons]
    unfold forF
    rw [h1]
    simp only [noex_ok, Rs.bind_ok, h2, h4]
theorem rangeD_eq (n : Nat) : rangeD 0 n = (List.range n).map fun i => PyData.int (i : Nat) := by
  unfold rangeD
  simp
/-! ### the program's hearing -/
def numAt (ns : List Int) (t : Int) : Int := if 0 ≤ t ∧ t < ns.length then ns.getD t.toNat 0 else 0
def heardAt (B : List (List Pd)) (ns : List Int) (t : Int) : Int := (B.map fun r => rowShape r (numAt ns (t - lateOf r))).sum
def boardLate (B : List (List Pd)) : Int := (maxL (B.map lateOf)).getD 0
def allHeard (B : List (List Pd)) (ns : List Int) : List Int := (List.range (ns.length + (boardLate B).toNat)).map fun t => heardAt B ns (t : Nat)
theorem late_bound : ∀ {r : List Pd}, rowOk r → 0 ≤ lateOf r ∧ lateOf r ≤ 5 * r.length
  | [], _ => ⟨Int.le_refl _, Int.le_refl _⟩
  | p :: r, h => by
    have ih := late_bound (r := r) fun q hq => h q (List.mem_cons_of_mem _ hq)
    have hp := h p List.mem_cons_self
    have e : lateOf (p :: r) = lateK p + lateOf r := by simp [lateOf]
    have hk : 0 ≤ lateK p ∧ lateK p ≤ 5 := by
      cases p <;> simp [Pd.ok] at hp <;> simp [lateK] <;> omega
    rw [e, List.length_cons]
    omega
theorem maxL_bound : ∀ {xs : List Int} {a b : Int}, xs ≠ [] → (∀ x ∈ xs, a ≤ x ∧ x ≤ b) → ∃ m, maxL xs = some m ∧ a ≤ m ∧ m ≤ b
  | [], _, _, h, _ => absurd rfl h
  | x :: r, a, b, _, h => by
    obtain ⟨h1, h2, h3⟩ := foldl_max r x
    refine ⟨_, rfl, ?_, ?_⟩
    · have := h x List.mem_cons_self
      omega
    · rcases h1 with h1 | h1
      · rw [h1]; exact (h x List.mem_cons_self).2
      · exact (h _ (List.mem_cons_of_mem _ h1)).2
theorem boardLate_ok {B : List (List Pd)} (h : boardOk B) (hl : ∀ r ∈ B, r.length ≤ 6) (h1 : 1 ≤ B.length) : maxL (B.map lateOf) = some (boardLate B) ∧ 0 ≤ boardLate B ∧ boardLate B ≤ 30 := by
  obtain ⟨m, e, a, b⟩ := maxL_bound (xs := B.map lateOf) (a := 0) (b := 30) (by intro z; have := congrArg List.length z; simp at this; subst this; simp at h1) (by
    intro x hx
    obtain ⟨r, hr, rfl⟩ := List.mem_map.mp hx
    have := late_bound (h r hr)
    have := hl r hr
    omega)
  unfold boardLate
  rw [e]
  exact ⟨rfl, a, b⟩
section
variable {μ : Sto}
theorem k_max_g {α : Type} (f : α → Int) (xs : List α) {m : Int} (h : maxL (xs.map f) = some m) : kMax [.d (.list (xs.map fun x => .int (f x)))] μ = .ok (.d (.int m)) μ := by
  have := k_max_i (μ := μ) h
  rw [List.map_map] at this
  exact this
theorem number_at_ok (ns : List Int) (t : Int) : g_number_at [.d (numsD ns), .d (.int t)] μ = .ok (.d (.int (numAt ns t))) μ := by
  unfold g_number_at
  refine run_0 ?_
  unfold B_number_at numAt
  by_cases h1 : 0 ≤ t
  · by_cases h2 : t < ns.length
    · obtain ⟨k, rfl⟩ := Int.eq_ofNat_of_zero_le h1
      have hk : k < ns.length := by omega
      have e : ixW (.d (.tuple (ns.map PyData.int))) (.d (.int (k : Int))) μ = .ok (.d (.int ns[k])) μ := by
        show (match atI (ns.map PyData.int) (k : Int) with | some d => Rs.ok (Wv.d d) μ | none => Rs.no) = _
        rw [atI_nat, List.getElem?_map, List.getElem?_eq_getElem hk]
        rfl
      simp [startE, numsD, h2, hk, e]
    · simp [startE, numsD, h1, h2]
  · simp [startE, numsD, h1]
theorem heard_at_ok {B : List (List Pd)} (h : boardOk B) (hl : ∀ r ∈ B, r.length ≤ 1000000) (hB : B.length ≤ 1000000) (ns : List Int) (t : Int) : g_heard_at [.d (boardD B), .d (numsD ns), .d (.int t)] μ = .ok (.d (.int (heardAt B ns t))) μ := by
  unfold g_heard_at
  refine run_0 ?_
  unfold B_heard_at
  have e := comp_map (g := gVar 3) (e := fCall (callD 2 g_row_shape) (fCons (fVar 3) (fCons (fCall (callD 2 g_number_at) (fCons (fVar 1) (fCons (fOp (opI fun i j => some (.int (i - j))) (fVar 2) (fCall (callD 1 g_late_of) (fCons (fVar 3) (fNil)))) (fNil)))) (fNil)))) (env := [some (.d (boardD B)), some (.d (numsD ns)), some (.d (.int t)), none]) (toD := rowD) (φ := fun r => .int (rowShape r (numAt ns (t - lateOf r)))) B μ [] (fun r hr => ⟨_, rfl, by simp [late_of_ok (hl r hr), number_at_ok, row_shape_ok (h r hr)]⟩) (by simp [LIM]; omega)
  simp only [List.nil_append, boardD] at e
  simp [startE, boardD, e, heardAt]
theorem board_late_ok {B : List (List Pd)} (h : boardOk B) (hl : ∀ r ∈ B, r.length ≤ 6) (h1 : 1 ≤ B.length) (h3 : B.length ≤ 1000000) : g_board_late [.d (boardD B)] μ = .ok (.d (.int (boardLate B))) μ := by
  unfold g_board_late
  refine run_0 ?_
  unfold B_board_late
  have e := comp_map (g := gVar 1) (e := fCall (callD 1 g_late_of) (fCons (fVar 1) (fNil))) (env := [some (.d (boardD B)), none]) (toD := rowD) (φ := fun r => .int (lateOf r)) B μ [] (fun r hr => ⟨_, rfl, by have := hl r hr; simp [late_of_ok (show r.length ≤ 1000000 by omega)]⟩) (by simp [LIM]; omega)
  simp only [List.nil_append, boardD] at e
  simp [startE, boardD, e, k_max_g lateOf B (boardLate_ok h hl h1).1]
theorem all_heard_ok {B : List (List Pd)} (h : boardOk B) (hl : ∀ r ∈ B, r.length ≤ 6) (h1 : 1 ≤ B.length) (h3 : B.length ≤ 1000000) (ns : List Int) (hn : ns.length ≤ 100000) : g_all_heard [.d (boardD B), .d (numsD ns)] μ = .ok (.d (.list ((allHeard B ns).map PyData.int))) μ := by
  unfold g_all_heard
  refine run_0 ?_
  unfold B_all_heard
  obtain ⟨_, b0, b30⟩ := boardLate_ok h hl h1
  obtain ⟨k, hk⟩ := Int.eq_ofNat_of_zero_le b0
  have e := comp_map (g := gVar 2) (e := fCall (callD 3 g_heard_at) (fCons (fVar 0) (fCons (fVar 1) (fCons (fVar 2) (fNil))))) (env := [some (.d (boardD B)), some (.d (numsD ns)), none]) (toD := fun i : Nat => .int (i : Int)) (φ := fun t => .int (heardAt B ns (t : Nat))) (List.range (ns.length + k)) μ [] (fun t ht => ⟨_, rfl, by simp [heard_at_ok h (fun r hr => by have := hl r hr; omega) h3]⟩) (by simp [LIM]; omega)
  rw [← rangeD_eq] at e
  have e2 := rg_l (μ := μ) (show ns.length + k ≤ 1000000 by omega)
  have e3 := board_late_ok (μ := μ) h hl h1 h3
  simp only [List.nil_append, boardD, numsD] at e e3
  rw [Int.natCast_add] at e2
  simp [startE, boardD, numsD, hk, e3, e2, e, allHeard]
theorem shaped_ok {r : List Pd} (h : rowOk r) (hl : r.length ≤ 6) (n : Int) : g_shaped [.d (rowD r), .d (.int n)] μ = .ok (.d (.int (rowShape r n))) μ := by
  unfold g_shaped
  refine run_0 ?_
  unfold B_shaped
  simp [startE, need_row_ok h hl, need_number_ok, row_shape_ok h]
theorem heard_ok {B : List (List Pd)} (h : boardOk B) (hl : ∀ r ∈ B, r.length ≤ 6) (h1 : 1 ≤ B.length) (h3 : B.length ≤ 3) (ns : List Int) (hn : ns.length ≤ 40) : g_heard [.d (boardD B), .d (numsD ns)] μ = .ok (.d (.list ((allHeard B ns).map PyData.int))) μ := by
  unfold g_heard
  refine run_0 ?_
  unfold B_heard
  simp [startE, need_board_ok h hl h1 h3, need_sound_ok ns hn, all_heard_ok h hl h1 (by omega) ns (by omega)]
theorem silence_ok {B : List (List Pd)} (h : boardOk B) (hl : ∀ r ∈ B, r.length ≤ 6) (h1 : 1 ≤ B.length) (h3 : B.length ≤ 3) : g_silence [.d (boardD B)] μ = .ok (.d (.int (heardAt B [] 0))) μ := by
  unfold g_silence
  refine run_0 ?_
  unfold B_silence
  have e := heard_at_ok (μ := μ) h (fun r hr => by have := hl r hr; omega) (show B.length ≤ 1000000 by omega) [] 0
  simp [numsD] at e
  simp [startE, need_board_ok h hl h1 h3, e]
end
end Ped

/-! PedT: the law's own shaping and hearing -/
namespace Ped
open PySem L2 PyProof.Rows PySem.Spec
def sgn (n : Int) : Int := if n < 0 then -1 else 1
def lshape : Pd → Int → Int
  | .louder k, n => k * n
  | .cut k, n => if sgn n * n > k then sgn n * k else n
  | .gate k, n => if sgn n * n < k then 0 else n
  | .turn, n => -n
  | .fold, n => sgn n * n
  | .lift k, n => n + k
  | .steps k, n => sgn n * (sgn n * n / k) * k
  | .late _, n => n
theorem lshape_eq {p : Pd} (h : p.ok) (n : Int) : lshape p n = shape p n := by
  unfold lshape shape sgn
  cases p with
  | louder k => exact Int.mul_comm _ _
  | cut k =>
    simp [Pd.ok] at h
    by_cases hn : n < 0 <;> simp only [hn, if_true, if_false] <;> repeat (first | omega | split)
  | gate k =>
    simp [Pd.ok] at h
    by_cases hn : n < 0 <;> simp only [hn, if_true, if_false] <;> repeat (first | omega | split)
  | turn => simp
  | fold => by_cases hn : n < 0 <;> simp only [hn, if_true, if_false] <;> repeat (first | omega | split)
  | lift k => rfl
  | late k => rfl
  | steps k =>
    simp [Pd.ok] at h
    by_cases hn : n < 0
    · have h1 : ¬ 0 ≤ n := by omega
      simp only [hn, h1, if_true, if_false]
      have e1 : -1 * n = 0 - n := by omega
      rw [e1]
      have e := Int.emod_add_mul_ediv (0 - n) k
      have e2 : -1 * ((0 - n) / k) * k = -(k * ((0 - n) / k)) := by
        rw [Int.neg_mul, Int.neg_mul, Int.one_mul, Int.mul_comm]
      rw [e2]
      omega
    · have h1 : 0 ≤ n := by omega
      simp only [hn, h1, if_true, if_false]
      have e := Int.emod_add_mul_ediv n k
      rw [Int.one_mul, Int.one_mul, Int.mul_comm]
      omega
section
variable {μ : Sto}
theorem law_shape_ok {r : List Pd} (h : rowOk r) (n : Int) : g__law_shape [.d (rowD r), .d (.int n)] μ = .ok (.d (.int (rowShape r n))) μ := by
  unfold g__law_shape
  refine run_0 ?_
  unfold B__law_shape
  obtain ⟨env', e, a, b, c, d, rfl⟩ := for_fold (g := gVar 2) (b := (sCons (sPar 4 5 (fCons (fOp ixW (fVar 2) (fC (.int 0))) (fCons (fIf (fB (fOp (cmpW fun i j => decide (i < j)) (fVar 1) (fC (.int 0)))) (fNeg (fC (.int 1))) (fC (.int 1))) (fNil)))) (sCons (sAsg (fOp mulW (fVar 5) (fVar 1)) (gVar 3)) (sIf (fB (fOp (eqW false) (fVar 4) (fC (.str "louder")))) (sAsg (fOp mulW (fOp ixW (fVar 2) (fC (.int 1))) (fVar 1)) (gVar 1)) (sIf (fB (fOp (eqW false) (fVar 4) (fC (.str "lift")))) (sAsg (fOp addW (fVar 1) (fOp ixW (fVar 2) (fC (.int 1)))) (gVar 1)) (sIf (fB (fOp (eqW false) (fVar 4) (fC (.str "turn")))) (sAsg (fNeg (fVar 1)) (gVar 1)) (sIf (fB (fOp (eqW false) (fVar 4) (fC (.str "fold")))) (sAsg (fVar 3) (gVar 1)) (sIf (fAnd (fB (fOp (eqW false) (fVar 4) (fC (.str "cut")))) (fB (fOp (cmpW fun i j => decide (j < i)) (fVar 3) (fOp ixW (fVar 2) (fC (.int 1)))))) (sAsg (fOp mulW (fVar 5) (fOp ixW (fVar 2) (fC (.int 1)))) (gVar 1)) (sIf (fAnd (fB (fOp (eqW false) (fVar 4) (fC (.str "gate")))) (fB (fOp (cmpW fun i j => decide (i < j)) (fVar 3) (fOp ixW (fVar 2) (fC (.int 1)))))) (sAsg (fC (.int 0)) (gVar 1)) (sIf (fB (fOp (eqW false) (fVar 4) (fC (.str "steps")))) (sAsg (fOp mulW (fOp mulW (fVar 5) (fOp (opI divI) (fVar 3) (fOp ixW (fVar 2) (fC (.int 1))))) (fOp ixW (fVar 2) (fC (.int 1)))) (gVar 1)) (sNil)))))))))))
    (toD := Pd.toD) (E := fun n env => ∃ a b c d, env = [some (.d (rowD r)), some (.d (.int n)), a, b, c, d]) (step := fun n p => shape p n) r n [some (.d (rowD r)), some (.d (.int n)), none, none, none, none] μ ⟨_, _, _, _, rfl⟩ (by
    rintro p hp n env ⟨a, b, c, d, rfl⟩
    have hok := h p hp
    refine ⟨_, [some (.d (rowD r)), some (.d (.int (shape p n))), some (.d p.toD), some (.d (.int (sgn n * n))), some (.d (.str (match p with | .louder _ => "louder" | .cut _ => "cut" | .gate _ => "gate" | .turn => "turn" | .fold => "fold" | .lift _ => "lift" | .steps _ => "steps" | .late _ => "late"))), some (.d (.int (sgn n)))], rfl, ?_, _, _, _, _, rfl⟩
    rw [← lshape_eq hok]
    have c1 : CMul (-1) n := cmul1 (by omega)
    have c2 : CMul 1 n := cmul1 (by omega)
    cases p with
    | louder k =>
      have c : CMul k n := cmul1 (by simp [Pd.ok] at hok; omega)
      by_cases hn : n < 0 <;> simp [hn, Pd.toD, eq_str, lshape, sgn, c, c1, c2]
    | cut k =>
      have c3 : CMul (-1) k := cmul1 (by omega)
      have c4 : CMul 1 k := cmul1 (by omega)
      by_cases hn : n < 0
      · by_cases hc : k < -n <;> simp [hn, hc, Pd.toD, eq_str, lshape, sgn, c1, c2, c3, c4]
      · by_cases hc : k < n <;> simp [hn, hc, Pd.toD, eq_str, lshape, sgn, c1, c2, c3, c4]
    | gate k =>
      by_cases hn : n < 0
      · by_cases hc : -n < k <;> simp [hn, hc, Pd.toD, eq_str, lshape, sgn, c1, c2]
      · by_cases hc : n < k <;> simp [hn, hc, Pd.toD, eq_str, lshape, sgn, c1, c2]
    | steps k =>
      have hk : 0 < k := by simp [Pd.ok] at hok; omega
      have hk2 : k < 2 ^ 100 := by simp [Pd.ok] at hok; omega
      have c5 : ∀ z, CMul (-1) z := fun z => cmul1 (by omega)
      have c6 : ∀ z, CMul 1 z := fun z => cmul1 (by omega)
      have c7 : ∀ z, CMul z k := fun z => cmul2 (by simp [Pd.ok] at hok; omega)
      by_cases hn : n < 0 <;> simp [hn, Pd.toD, eq_str, lshape, sgn, c5, c6, c7, o_div hk hk2]
    | _ => by_cases hn : n < 0 <;> simp [hn, Pd.toD, eq_str, lshape, sgn, c1, c2])
  simp [startE, rowD] at e ⊢
  rw [e]
  simp [rowShape]
theorem law_late_ok {r : List Pd} (hl : r.length ≤ 1000000) : g__law_lateness [.d (rowD r)] μ = .ok (.d (.int (lateOf r))) μ := by
  unfold g__law_lateness
  refine run_0 ?_
  unfold B__law_lateness
  have e := comp_filter (g := gVar 1) (t := fB (fOp (eqW false) (fOp ixW (fVar 1) (fC (.int 0))) (fC (.str "late")))) (e := fOp ixW (fVar 1) (fC (.int 1))) (env := [some (.d (rowD r)), none]) (toD := Pd.toD) (q := Pd.isLate) (φ := fun p => .int (lateK p)) r μ [] (by
    intro p hp
    refine ⟨_, rfl, ?_, ?_⟩
    · cases p <;> simp [Pd.toD, eq_str, Pd.isLate]
    · cases p <;> simp [Pd.toD, Pd.isLate, lateK]) (by simp [LIM]; omega)
  simp only [List.nil_append, rowD] at e
  simp [startE, rowD, e, late_sum]
/-! ### a list that is filled -/
def cells (m : Nat) (f : Nat → Int) : List Wv := (List.range m).map fun t => Wv.d (.int (f t))
theorem cells_len (m : Nat) (f : Nat → Int) : (cells m f).length = m := by simp [cells]
theorem cells_get {m : Nat} {f : Nat → Int} {i : Nat} (h : i < m) : (cells m f)[i]? = some (.d (.int (f i))) := by simp [cells, h]
theorem cells_set (m : Nat) (f : Nat → Int) (i : Nat) (z : Int) : (cells m f).set i (.d (.int z)) = cells m fun t => if t = i then z else f t := by
  refine List.ext_getElem? fun j => ?_
  unfold cells
  by_cases hj : j < m
  · by_cases e : i = j
    · subst e
      rw [List.getElem?_set_self (by simp [hj])]
      simp [hj]
    · rw [List.getElem?_set_ne e]
      have : ¬ j = i := fun z => e z.symm
      simp [hj, this]
  · rw [List.getElem?_eq_none (by simp; omega), List.getElem?_eq_none (by simp; omega)]
theorem ixN_nat {m i : Nat} (h : i < m) : ixN m (i : Int) = some i := by
  unfold ixN
  simp [h]
theorem ix_cells {μ : Sto} {n m i : Nat} {f : Nat → Int} (h : μ[n]? = some (.lst (cells m f))) (hi : i < m) : ixW (.l n) (.d (.int (i : Int))) μ = .ok (.d (.int (f i))) μ := by
  show (match μ[n]? with | some (.lst ws) => (match atI ws (i : Int) with | some w => Rs.ok w μ | none => Rs.no) | _ => Rs.no) = _
  rw [h]
  simp only
  rw [atI_nat, cells_get hi]
theorem lst_cells {μ : Sto} {n m : Nat} {f : Nat → Int} (h : μ[n]? = some (.lst (cells m f))) : lstAt μ n = some (cells m f) := by
  unfold lstAt
  rw [h]
theorem dats_cells (m : Nat) (f : Nat → Int) : dats (cells m f) = some ((List.range m).map fun t => PyData.int (f t)) := by
  have := dats_map ((List.range m).map fun t => PyData.int (f t))
  rw [List.map_map] at this
  exact this
theorem fill {m : Nat} (v : Nat → Int) (f : Nat → Int) : ∀ k, (List.range k).foldl (fun (f : Nat → Int) i => fun t => if t = i then f i + v i else f t) f = fun t => if t < k then f t + v t else f t
  | 0 => by simp
  | k + 1 => by
    rw [List.range_succ, List.foldl_append, fill (m := m) v f k]
    simp only [List.foldl_cons, List.foldl_nil]
    funext t
    by_cases h1 : t = k
    · subst h1
      simp
    · by_cases h2 : t < k
      · simp [h1, h2, show t < k + 1 by omega]
      · simp [h1, h2, show ¬ t < k + 1 by omega]
end
end Ped

/-! PedU: law 02 -/
namespace Ped
open PySem L2 PyProof.Rows PySem.Spec
def addRow (m : Nat) (ns : List Int) (f : Nat → Int) (r : List Pd) : Nat → Int := fun t => if t < m then f t + rowShape r (numAt ns ((t : Int) - lateOf r)) else f t
theorem fold_rows (m : Nat) (ns : List Int) : ∀ (B : List (List Pd)) (f : Nat → Int) (t : Nat), t < m → (B.foldl (addRow m ns) f) t = f t + heardAt B ns t
  | [], f, t, _ => by simp [heardAt]
  | r :: B, f, t, h => by
    rw [List.foldl_cons, fold_rows m ns B _ t h]
    unfold addRow heardAt
    simp [h]
    omega
theorem rep_cells (m : Nat) : (List.replicate m [PyData.int 0]).flatten.map Wv.d = cells m fun _ => 0 := by
  unfold cells
  refine List.ext_getElem (by simp) fun i h1 h2 => ?_
  simp
section
variable {μ : Sto}
theorem law_heard_ok {B : List (List Pd)} (h : boardOk B) (hl : ∀ r ∈ B, r.length ≤ 6) (h1 : 1 ≤ B.length) (h3 : B.length ≤ 1000) (ns : List Int) (hn : ns.length ≤ 100000) : g__law_heard [.d (boardD B), .d (numsD ns)] μ = .ok (.d (.list ((allHeard B ns).map PyData.int))) μ := by
  obtain ⟨mx, b0, b30⟩ := boardLate_ok h hl h1
  obtain ⟨k, hk⟩ := Int.eq_ofNat_of_zero_le b0
  have hlate : ∀ r ∈ B, 0 ≤ lateOf r ∧ lateOf r ≤ 30 := fun r hr => by
    have := late_bound (h r hr)
    have := hl r hr
    omega
  have e := comp_map (g := gVar 4) (e := fCall (callD 1 g__law_lateness) (fCons (fVar 4) (fNil))) (env := [some (.d (boardD B)), some (.d (numsD ns)), none, none, none, none, none, none, none]) (toD := rowD) (φ := fun r => .int (lateOf r)) B μ [] (fun r hr => ⟨_, rfl, by have := hl r hr; simp [law_late_ok (show r.length ≤ 1000000 by omega)]⟩) (by simp [LIM]; omega)
  obtain ⟨m, hm0⟩ : ∃ m, m = ns.length + k := ⟨_, rfl⟩
  have hm : m ≤ 1000000 := by omega
  obtain ⟨env', μ', e2, ⟨a, b, c, d, e', rfl⟩, rfl⟩ := for_step (g := gVar 4) (b := L__law_heard_2) (toD := rowD) (step := addRow m ns) (E := fun f env μ' => (∃ a b c d e, env = [some (.d (boardD B)), some (.d (numsD ns)), some (.d (.int (m : Nat))), some (.l μ.length), a, b, c, d, e]) ∧ μ' = μ ++ [Ob.lst (cells m f)]) B (fun _ => 0)
    [some (.d (boardD B)), some (.d (numsD ns)), some (.d (.int (m : Nat))), some (.l μ.length), none, none, none, none, none] (μ ++ [Ob.lst (cells m fun _ => 0)]) ⟨⟨_, _, _, _, _, rfl⟩, rfl⟩ (by
    rintro r hr f env μ' ⟨⟨a, b, c, d, e, rfl⟩, rfl⟩
    obtain ⟨l0, l30⟩ := hlate r hr
    obtain ⟨env3, μ3, e3, ⟨b', e', rfl⟩, rfl⟩ := for_step (g := gVar 5) (b := L__law_heard_1) (toD := fun i : Nat => PyData.int (i : Nat)) (step := fun (f : Nat → Int) i => fun t => if t = i then f i + rowShape r (numAt ns ((i : Int) - lateOf r)) else f t)
      (E := fun f env μ' => (∃ b e, env = [some (.d (boardD B)), some (.d (numsD ns)), some (.d (.int (m : Nat))), some (.l μ.length), some (.d (rowD r)), b, some (.d (.int (rowShape r 0))), some (.d (.int (lateOf r))), e]) ∧ μ' = μ ++ [Ob.lst (cells m f)]) (List.range m) f
      [some (.d (boardD B)), some (.d (numsD ns)), some (.d (.int (m : Nat))), some (.l μ.length), some (.d (rowD r)), b, some (.d (.int (rowShape r 0))), some (.d (.int (lateOf r))), e] (μ ++ [Ob.lst (cells m f)]) ⟨⟨_, _, rfl⟩, rfl⟩ (by
      rintro i hi f env μ' ⟨⟨b, e, rfl⟩, rfl⟩
      have hi : i < m := List.mem_range.mp hi
      have hc : (μ ++ [Ob.lst (cells m f)])[μ.length]? = some (.lst (cells m f)) := by simp
      have e4 := ix_cells hc hi
      have e5 := lst_cells hc
      have e6 : ixN (cells m f).length (i : Int) = some i := by rw [cells_len]; exact ixN_nat hi
      refine ⟨_, _, [some (.d (boardD B)), some (.d (numsD ns)), some (.d (.int (m : Nat))), some (.l μ.length), some (.d (rowD r)), some (.d (.int (i : Nat))), some (.d (.int (rowShape r 0))), some (.d (.int (lateOf r))), some (.d (.bool (decide (lateOf r ≤ (i : Int) ∧ (i : Int) < lateOf r + ns.length))))], μ ++ [Ob.lst (cells m fun t => if t = i then f i + rowShape r (numAt ns ((i : Int) - lateOf r)) else f t)], rfl, ?_, ⟨_, _, rfl⟩, rfl⟩
      have e7 : (μ ++ [Ob.lst (cells m f)]).set μ.length (.lst ((cells m f).set i (.d (.int (f i + rowShape r (numAt ns ((i : Int) - lateOf r))))))) = μ ++ [Ob.lst (cells m fun t => if t = i then f i + rowShape r (numAt ns ((i : Int) - lateOf r)) else f t)] := by
        rw [cells_set]
        simp
      rw [← e7]
      by_cases g1 : lateOf r ≤ (i : Int)
      · by_cases g2 : (i : Int) < lateOf r + ns.length
        · obtain ⟨j, hj⟩ := Int.eq_ofNat_of_zero_le (show 0 ≤ (i : Int) - lateOf r by omega)
          have hj2 : j < ns.length := by omega
          have e8 : ∀ μ, ixW (.d (.tuple (ns.map PyData.int))) (.d (.int ((i : Int) - lateOf r))) μ = .ok (.d (.int (numAt ns ((i : Int) - lateOf r)))) μ := fun μ => by
            rw [hj]
            show (match atI (ns.map PyData.int) (j : Int) with | some d => Rs.ok (Wv.d d) μ | none => Rs.no) = _
            rw [atI_nat, List.getElem?_map, List.getElem?_eq_getElem hj2]
            unfold numAt
            simp [hj2]
          simp [numsD, g1, g2, e8, law_shape_ok (h r hr), e4, e5, e6]
        · have e8 : numAt ns ((i : Int) - lateOf r) = 0 := by unfold numAt; rw [if_neg (by omega)]
          simp [numsD, g1, g2, e8, e4, e5, e6]
      · have e8 : numAt ns ((i : Int) - lateOf r) = 0 := by unfold numAt; rw [if_neg (by omega)]
        simp [numsD, g1, e8, e4, e5, e6])
    rw [← rangeD_eq] at e3
    have hle := hl r hr
    refine ⟨_, _, _, _, rfl, ?_, ⟨some (.d (rowD r)), b', some (.d (.int (rowShape r 0))), some (.d (.int (lateOf r))), e', rfl⟩, rfl⟩
    have ef : addRow m ns f r = (List.range m).foldl (fun (f : Nat → Int) i => fun t => if t = i then f i + rowShape r (numAt ns ((i : Int) - lateOf r)) else f t) f := (fill (m := m) (fun i => rowShape r (numAt ns ((i : Int) - lateOf r))) f m).symm
    rw [ef]
    simp [law_shape_ok (h r hr), law_late_ok (show r.length ≤ 1000000 by omega), rg_k hm]
    exact e3)
  have hfin : dats (cells m (B.foldl (addRow m ns) fun _ => 0)) = some ((allHeard B ns).map PyData.int) := by
    rw [dats_cells]
    unfold allHeard
    rw [hk, List.map_map, Int.toNat_natCast, ← hm0]
    congr 1
    refine List.map_congr_left fun t ht => ?_
    rw [fold_rows m ns B _ t (List.mem_range.mp ht)]
    simp
  have hlst : lstAt (μ ++ [Ob.lst (cells m (B.foldl (addRow m ns) fun _ => 0))]) μ.length = some (cells m (B.foldl (addRow m ns) fun _ => 0)) := lst_cells (by simp)
  unfold g__law_heard
  refine run_app (ν := [.dead]) ?_
  unfold B__law_heard
  simp only [List.nil_append, boardD, numsD] at e
  have em : mulN (.d (.list [.int 0])) (.d (.int (m : Nat))) μ = .ok (.l μ.length) (μ ++ [Ob.lst (cells m fun _ => 0)]) := by
    show (if -1000000 ≤ (m : Int) ∧ (m : Int) ≤ 1000000 ∧ [PyData.int 0].length * (m : Int).toNat ≤ LIM then Rs.ok (Wv.l μ.length) (μ ++ [.lst ((List.replicate (m : Int).toNat [PyData.int 0]).flatten.map Wv.d)]) else Rs.no) = _
    rw [if_pos ⟨by omega, by omega, by simp [LIM]; omega⟩, Int.toNat_natCast, rep_cells]
  have hmm : (ns.length : Int) + (k : Int) = (m : Nat) := by omega
  have mx2 := k_max_g (μ := μ) lateOf B mx
  rw [hk] at mx2
  simp only [boardD] at e2
  simp [startE, boardD, numsD, e, mx2, hmm, em]
  simp only [numsD] at e2
  simp [e2, frz, hlst, hfin]
end
/-! ### the law's own loop -/
theorem len1 {α : Type} {q : List α} (hq : q.length = 1) : ∃ a, q = [a] := by
  match q, hq with
  | [a], _ => exact ⟨a, rfl⟩
theorem len2 {α : Type} {q : List α} (hq : q.length = 2) : ∃ a b, q = [a, b] := by
  match q, hq with
  | [a, b], _ => exact ⟨a, b, rfl⟩
theorem len3 {α : Type} {q : List α} (hq : q.length = 3) : ∃ a b c, q = [a, b, c] := by
  match q, hq with
  | [a, b, c], _ => exact ⟨a, b, c, rfl⟩
theorem len4 {α : Type} {q : List α} (hq : q.length = 4) : ∃ a b c d, q = [a, b, c, d] := by
  match q, hq with
  | [a, b, c, d], _ => exact ⟨a, b, c, d, rfl⟩
theorem len5 {α : Type} {q : List α} (hq : q.length = 5) : ∃ a b c d e, q = [a, b, c, d, e] := by
  match q, hq with
  | [a, b, c, d, e], _ => exact ⟨a, b, c, d, e, rfl⟩
theorem len6 {α : Type} {q : List α} (hq : q.length = 6) : ∃ a b c d e f, q = [a, b, c, d, e, f] := by
  match q, hq with
  | [a, b, c, d, e, f], _ => exact ⟨a, b, c, d, e, f, rfl⟩
theorem len7 {α : Type} {q : List α} (hq : q.length = 7) : ∃ a b c d e f g, q = [a, b, c, d, e, f, g] := by
  match q, hq with
  | [a, b, c, d, e, f, g], _ => exact ⟨a, b, c, d, e, f, g, rfl⟩
theorem len8 {α : Type} {q : List α} (hq : q.length = 8) : ∃ a b c d e f g h, q = [a, b, c, d, e, f, g, h] := by
  match q, hq with
  | [a, b, c, d, e, f, g, h], _ => exact ⟨a, b, c, d, e, f, g, h, rfl⟩
theorem len9 {α : Type} {q : List α} (hq : q.length = 9) : ∃ a b c d e f g h i, q = [a, b, c, d, e, f, g, h, i] := by
  match q, hq with
  | [a, b, c, d, e, f, g, h, i], _ => exact ⟨a, b, c, d, e, f, g, h, i, rfl⟩
theorem len10 {α : Type} {q : List α} (hq : q.length = 10) : ∃ a b c d e f g h i j, q = [a, b, c, d, e, f, g, h, i, j] := by
  match q, hq with
  | [a, b, c, d, e, f, g, h, i, j], _ => exact ⟨a, b, c, d, e, f, g, h, i, j, rfl⟩
theorem len11 {α : Type} {q : List α} (hq : q.length = 11) : ∃ a b c d e f g h i j k, q = [a, b, c, d, e, f, g, h, i, j, k] := by
  match q, hq with
  | [a, b, c, d, e, f, g, h, i, j, k], _ => exact ⟨a, b, c, d, e, f, g, h, i, j, k, rfl⟩
theorem len12 {α : Type} {q : List α} (hq : q.length = 12) : ∃ a b c d e f g h i j k x, q = [a, b, c, d, e, f, g, h, i, j, k, x] := by
  match q, hq with
  | [a, b, c, d, e, f, g, h, i, j, k, x], _ => exact ⟨a, b, c, d, e, f, g, h, i, j, k, x, rfl⟩
theorem len13 {α : Type} {q : List α} (hq : q.length = 13) : ∃ a b c d e f g h i j k x m, q = [a, b, c, d, e, f, g, h, i, j, k, x, m] := by
  match q, hq with
  | [a, b, c, d, e, f, g, h, i, j, k, x, m], _ => exact ⟨a, b, c, d, e, f, g, h, i, j, k, x, m, rfl⟩
theorem len14 {α : Type} {q : List α} (hq : q.length = 14) : ∃ a b c d e f g h i j k x m y, q = [a, b, c, d, e, f, g, h, i, j, k, x, m, y] := by
  match q, hq with
  | [a, b, c, d, e, f, g, h, i, j, k, x, m, y], _ => exact ⟨a, b, c, d, e, f, g, h, i, j, k, x, m, y, rfl⟩
theorem cnt (a b z : Int) (h0 : 0 ≤ a) (h1 : a ≤ 20) (h2 : b ≤ 20) : ∃ c : Nat, (if (if z < b then z else b) > a then (if z < b then z else b) else a) = (c : Int) ∧ c ≤ 20 := by
  refine ⟨(if (if z < b then z else b) > a then (if z < b then z else b) else a).toNat, ?_, ?_⟩
  · rw [Int.toNat_of_nonneg]; repeat (first | omega | split)
  · repeat (first | omega | split)
theorem law_loop {m : Nat} {a b d : Int} {L : FS} (F : FS) (ns : List Int) (h0 : 0 ≤ a ∧ a ≤ 20 ∧ b ≤ 20) (hL : ∀ (k : Nat) (rest : Env) (μ : Sto), k < 100 → rest.length = m → ∃ rest' μ', L (some (.s ns) :: some (.d (.int (k : Nat))) :: rest) μ = .ok (.nx (some (.s ns) :: some (.d (.int (k : Nat))) :: rest')) μ' ∧ rest'.length = m) :
    ∃ (env' : Env) (μ' : Sto), env'.length = m + 1 ∧ (sCons (sFor (itR1 (fCall kMax2 (fCons (fC (.int a)) (fCons (fCall kMin2 (fCons (fC (.int b)) (fCons (fOp addW (fCall kLen (fCons (fVar 0) (fNil))) (fC (.int d))) (fNil)))) (fNil))))) (gVar 1) L) F) (some (.s ns) :: List.replicate (m + 1) none) [] = F (some (.s ns) :: env') μ' := by
  obtain ⟨c, hc1, hc2⟩ := cnt a b ((ns.length : Int) + d) h0.1 h0.2.1 h0.2.2
  obtain ⟨env', μ', e, r, rfl, hr⟩ := for_step (g := gVar 1) (b := L) (toD := fun i : Nat => PyData.int (i : Nat)) (σ := Unit) (step := fun _ _ => ()) (E := fun _ env μ' => ∃ r, env = some (.s ns) :: r ∧ r.length = m + 1) (List.range c) () (some (.s ns) :: List.replicate (m + 1) none) [] ⟨_, rfl, by simp⟩ (by
    rintro k hk _ env μ ⟨r, rfl, hr⟩
    have hk : k < c := List.mem_range.mp hk
    match r, hr with
    | x :: rest, hr =>
      obtain ⟨rest', μ', e, hr'⟩ := hL k rest μ (by omega) (by simpa using hr)
      exact ⟨_, _, _, _, rfl, e, _, rfl, by simp [hr']⟩)
  refine ⟨r, μ', hr, ?_⟩
  rw [← rangeD_eq] at e
  simp [hc1, rg_k (show c ≤ 1000000 by omega), e]
/-- .. that ends with True -/
theorem law_true {m : Nat} {a b d : Int} {L : FS} (ns : List Int) (h0 : 0 ≤ a ∧ a ≤ 20 ∧ b ≤ 20) (hL : ∀ (k : Nat) (rest : Env) (μ : Sto), k < 100 → rest.length = m → ∃ rest' μ', L (some (.s ns) :: some (.d (.int (k : Nat))) :: rest) μ = .ok (.nx (some (.s ns) :: some (.d (.int (k : Nat))) :: rest')) μ' ∧ rest'.length = m) :
    ∃ μ', runF (m + 2) (sCons (sFor (itR1 (fCall kMax2 (fCons (fC (.int a)) (fCons (fCall kMin2 (fCons (fC (.int b)) (fCons (fOp addW (fCall kLen (fCons (fVar 0) (fNil))) (fC (.int d))) (fNil)))) (fNil))))) (gVar 1) L) (sRet (fC (.bool true)))) [.s ns] [] = .ok (.d (.bool true)) μ' := by
  obtain ⟨env', μ', _, e⟩ := law_loop (sRet (fC (.bool true))) ns h0 hL
  refine ⟨_, run_app (ν := μ') ?_⟩
  show (sCons _ _) (some (.s ns) :: List.replicate (m + 2 - 1) none) [] = _
  rw [show m + 2 - 1 = m + 1 from rfl, e]
  rfl
/-- the start of a turn: the bag -/
theorem turn_bag (ns : List Int) (k : Nat) (hk : k < 100) (μ : Sto) : ∃ ν, g__law_bag [.s ns, .d (.int k)] μ = .ok (.l μ.length) ν ∧ Bg μ.length ν := by
  obtain ⟨x, y, e, ok⟩ := bag_ok ns k (by omega) μ
  exact ⟨_, e, bag_new ok⟩
/-! ### the law -/
theorem body02 (ns : List Int) (k : Nat) (hk : k < 100) (rest : Env) (μ : Sto) (hr : rest.length = 5) : ∃ rest' μ', L_law_2_4 (some (.s ns) :: some (.d (.int (k : Nat))) :: rest) μ = .ok (.nx (some (.s ns) :: some (.d (.int (k : Nat))) :: rest')) μ' ∧ rest'.length = 5 := by
  obtain ⟨b, c, d, e, f, rfl⟩ := len5 hr
  obtain ⟨ν, eb, B0⟩ := turn_bag ns k hk μ
  generalize μ.length = n at eb B0
  obtain ⟨B, μ1, e1, hB, hr, b1, b3, s1⟩ := board_ok B0 6 (by decide)
  -- the rows
  obtain ⟨env2, μ2, e2, ⟨r2, n2, rfl⟩, s2⟩ := for_step (g := gVar 4) (b := L_law_2_2) (toD := rowD) (σ := Unit) (step := fun _ _ => ()) (E := fun _ env μ' => (∃ r z, env = [some (.s ns), some (.d (.int (k : Nat))), some (.l n), some (.d (boardD B)), r, e, z]) ∧ Stp n ν μ') B () [some (.s ns), some (.d (.int (k : Nat))), some (.l n), some (.d (boardD B)), d, e, f] μ1 ⟨⟨_, _, rfl⟩, s1⟩ (by
    rintro r hrB _ env μ2 ⟨⟨r', n', rfl⟩, s2⟩
    obtain ⟨zs, μ3, e3, l3, b3', s3⟩ := numbers_ok (s2.bg B0) 20 (by decide)
    obtain ⟨env4, μ4, e4, ⟨⟨n4, rfl⟩, hm4⟩⟩ := for_step (g := gVar 6) (b := L_law_2_1) (toD := PyData.int) (σ := Unit) (step := fun _ _ => ()) (E := fun _ env μ' => (∃ z, env = [some (.s ns), some (.d (.int (k : Nat))), some (.l n), some (.d (boardD B)), some (.d (rowD r)), e, z]) ∧ μ' = μ3) (zs ++ [0, 1, -1]) () [some (.s ns), some (.d (.int (k : Nat))), some (.l n), some (.d (boardD B)), some (.d (rowD r)), e, n'] μ3 ⟨⟨_, rfl⟩, rfl⟩ (by
      rintro z hz _ env μ4 ⟨⟨n', rfl⟩, rfl⟩
      refine ⟨_, _, _, _, rfl, ?_, ⟨some (.d (.int z)), rfl⟩, rfl⟩
      simp [shaped_ok (hB r hrB) (hr r hrB), law_shape_ok (hB r hrB), eq_int])
    rw [hm4] at e4
    refine ⟨_, _, [some (.s ns), some (.d (.int (k : Nat))), some (.l n), some (.d (boardD B)), some (.d (rowD r)), e, n4], μ3, rfl, ?_, ⟨_, _, rfl⟩, s2.trans s3⟩
    simp [numsD] at e3
    have hl' : zs.length + 3 ≤ 16000000 := by omega
    simp at e4
    simp [e3, o_addT, LIM, hl', e4])
  -- the silence
  have e3 : ∀ μ r6, compF (gVar 4) fYes (fCall (callD 2 g__law_shape) (fCons (fVar 4) (fCons (fC (.int 0)) (fNil)))) [some (.s ns), some (.d (.int (k : Nat))), some (.l n), some (.d (boardD B)), none, e, r6] (B.map rowD) μ [] = .ok ([] ++ B.map fun r => PyData.int (rowShape r 0)) μ := fun μ r6 => comp_map B μ [] (fun r hr' => ⟨_, rfl, by simp [law_shape_ok (hB r hr')]⟩) (by simp [LIM]; omega)
  have e4 : heardAt B [] 0 = (B.map fun r => rowShape r 0).sum := by
    unfold heardAt numAt
    congr 1
    refine List.map_congr_left fun r hr => ?_
    rw [if_neg (by simp)]
  -- the sounds
  obtain ⟨zs, μ3, e5, l5, _, s3⟩ := numbers_ok (s2.bg B0) 5 (by decide)
  have s3' := s2.trans s3
  obtain ⟨ys, μ4, e6, l6, _, s4⟩ := numbers_ok (s3'.bg B0) 40 (by decide)
  obtain ⟨env7, μ7, e7, ⟨⟨d7, rfl⟩, hm7⟩⟩ := for_step (g := gVar 5) (b := L_law_2_3) (toD := numsD) (σ := Unit) (step := fun _ _ => ()) (E := fun _ env μ' => (∃ z, env = [some (.s ns), some (.d (.int (k : Nat))), some (.l n), some (.d (boardD B)), r2, z, n2]) ∧ μ' = μ4) [[], zs, ys] () [some (.s ns), some (.d (.int (k : Nat))), some (.l n), some (.d (boardD B)), r2, e, n2] μ4 ⟨⟨_, rfl⟩, rfl⟩ (by
    rintro z hz _ env μ4 ⟨⟨n', rfl⟩, rfl⟩
    have hz : z.length ≤ 40 := by
      simp at hz
      rcases hz with rfl | rfl | rfl <;> first | omega | simp
    refine ⟨_, _, _, _, rfl, ?_, ⟨some (.d (numsD z)), rfl⟩, rfl⟩
    simp [heard_ok hB hr b1 b3 z hz, law_heard_ok hB hr b1 (show B.length ≤ 1000 by omega) z (by omega), ne_same (shp_ints _) (by decide)])
  rw [hm7] at e7
  refine ⟨[some (.l n), some (.d (boardD B)), r2, d7, n2], μ4, ?_, rfl⟩
  simp [numsD] at e5 e6
  simp [boardD] at e1 e2 e3 e7
  have e8 := fun μ => silence_ok (μ := μ) hB hr b1 b3
  simp only [boardD] at e8
  simp [numsD] at e7
  simp [eb, e1, boardD, e2, e3, e4, e5, e6, e7, e8, eq_int]
theorem law02 (ns : List Int) : ∃ μ, g_law_2 [.s ns] [] = .ok (.d (.bool true)) μ :=
  law_true (m := 5) ns (by decide) fun k rest μ hk hr => body02 ns k hk rest μ hr
end Ped


namespace W02
open PySem L2 PyProof.Rows PySem.Spec Ped
def top (i : Nat) : Stmt := PySem.Challenge.pw_pedalrows_k02_whole_what_is_shaped_and_h.main.body.getD i (.Pass ⟨0, 0, 0, 0⟩)
abbrev s_is_number : Stmt := top 20
theorem sc_is_number : FnScope ["value"] ["value"] (defScope s_is_number) := ⟨rfl, rfl, rfl, by decide +kernel, rfl, by decide +kernel, by decide +kernel⟩
abbrev s_is_pedal : Stmt := top 21
theorem sc_is_pedal : FnScope ["value", "low", "high"] ["value"] (defScope s_is_pedal) := ⟨rfl, rfl, rfl, by decide +kernel, rfl, by decide +kernel, by decide +kernel⟩
abbrev s_is_row : Stmt := top 22
theorem sc_is_row : FnScope ["value", "pedal"] ["value"] (defScope s_is_row) := ⟨rfl, rfl, rfl, by decide +kernel, rfl, by decide +kernel, by decide +kernel⟩
abbrev s_is_board : Stmt := top 23
theorem sc_is_board : FnScope ["value", "row"] ["value"] (defScope s_is_board) := ⟨rfl, rfl, rfl, by decide +kernel, rfl, by decide +kernel, by decide +kernel⟩
abbrev s_are_numbers : Stmt := top 24
theorem sc_are_numbers : FnScope ["value", "number"] ["value"] (defScope s_are_numbers) := ⟨rfl, rfl, rfl, by decide +kernel, rfl, by decide +kernel, by decide +kernel⟩
abbrev s_is_sound : Stmt := top 25
theorem sc_is_sound : FnScope ["value"] ["value"] (defScope s_is_sound) := ⟨rfl, rfl, rfl, by decide +kernel, rfl, by decide +kernel, by decide +kernel⟩
abbrev s_need_row : Stmt := top 26
theorem sc_need_row : FnScope ["value"] ["value"] (defScope s_need_row) := ⟨rfl, rfl, rfl, by decide +kernel, rfl, by decide +kernel, by decide +kernel⟩
abbrev s_need_board : Stmt := top 27
theorem sc_need_board : FnScope ["value"] ["value"] (defScope s_need_board) := ⟨rfl, rfl, rfl, by decide +kernel, rfl, by decide +kernel, by decide +kernel⟩
abbrev s_need_sound : Stmt := top 28
theorem sc_need_sound : FnScope ["value"] ["value"] (defScope s_need_sound) := ⟨rfl, rfl, rfl, by decide +kernel, rfl, by decide +kernel, by decide +kernel⟩
abbrev s_need_number : Stmt := top 29
theorem sc_need_number : FnScope ["value"] ["value"] (defScope s_need_number) := ⟨rfl, rfl, rfl, by decide +kernel, rfl, by decide +kernel, by decide +kernel⟩
abbrev s_late_of : Stmt := top 30
theorem sc_late_of : FnScope ["row", "pedal"] ["row"] (defScope s_late_of) := ⟨rfl, rfl, rfl, by decide +kernel, rfl, by decide +kernel, by decide +kernel⟩
abbrev s_board_late : Stmt := top 31
theorem sc_board_late : FnScope ["board", "row"] ["board"] (defScope s_board_late) := ⟨rfl, rfl, rfl, by decide +kernel, rfl, by decide +kernel, by decide +kernel⟩
abbrev s_pedal_shape : Stmt := top 33
theorem sc_pedal_shape : FnScope ["pedal", "number", "word"] ["pedal", "number"] (defScope s_pedal_shape) := ⟨rfl, rfl, rfl, by decide +kernel, rfl, by decide +kernel, by decide +kernel⟩
abbrev s_row_shape : Stmt := top 34
theorem sc_row_shape : FnScope ["row", "number", "pedal"] ["row", "number"] (defScope s_row_shape) := ⟨rfl, rfl, rfl, by decide +kernel, rfl, by decide +kernel, by decide +kernel⟩
abbrev s_number_at : Stmt := top 35
theorem sc_number_at : FnScope ["sound", "tick"] ["sound", "tick"] (defScope s_number_at) := ⟨rfl, rfl, rfl, by decide +kernel, rfl, by decide +kernel, by decide +kernel⟩
abbrev s_heard_at : Stmt := top 36
theorem sc_heard_at : FnScope ["board", "sound", "tick", "row"] ["board", "sound", "tick"] (defScope s_heard_at) := ⟨rfl, rfl, rfl, by decide +kernel, rfl, by decide +kernel, by decide +kernel⟩
abbrev s_all_heard : Stmt := top 37
theorem sc_all_heard : FnScope ["board", "sound", "tick"] ["board", "sound"] (defScope s_all_heard) := ⟨rfl, rfl, rfl, by decide +kernel, rfl, by decide +kernel, by decide +kernel⟩
abbrev s_shaped : Stmt := top 38
theorem sc_shaped : FnScope ["row", "number"] ["row", "number"] (defScope s_shaped) := ⟨rfl, rfl, rfl, by decide +kernel, rfl, by decide +kernel, by decide +kernel⟩
abbrev s_heard : Stmt := top 39
theorem sc_heard : FnScope ["board", "sound"] ["board", "sound"] (defScope s_heard) := ⟨rfl, rfl, rfl, by decide +kernel, rfl, by decide +kernel, by decide +kernel⟩
abbrev s_silence : Stmt := top 40
theorem sc_silence : FnScope ["board"] ["board"] (defScope s_silence) := ⟨rfl, rfl, rfl, by decide +kernel, rfl, by decide +kernel, by decide +kernel⟩
abbrev s__law_bag : Stmt := top 42
theorem sc__law_bag : FnScope ["script", "k", "cell"] ["script", "k"] (defScope s__law_bag) := ⟨rfl, rfl, rfl, by decide +kernel, rfl, by decide +kernel, by decide +kernel⟩
abbrev s__law_take : Stmt := top 43
theorem sc__law_take : FnScope ["bag", "many", "ground", "found"] ["bag", "many"] (defScope s__law_take) := ⟨rfl, rfl, rfl, by decide +kernel, rfl, by decide +kernel, by decide +kernel⟩
abbrev s__law_of : Stmt := top 44
theorem sc__law_of : FnScope ["bag", "some"] ["bag", "some"] (defScope s__law_of) := ⟨rfl, rfl, rfl, by decide +kernel, rfl, by decide +kernel, by decide +kernel⟩
abbrev s__law_pedal : Stmt := top 45
theorem sc__law_pedal : FnScope ["bag", "lates", "some", "word"] ["bag", "lates"] (defScope s__law_pedal) := ⟨rfl, rfl, rfl, by decide +kernel, rfl, by decide +kernel, by decide +kernel⟩
abbrev s__law_pedals : Stmt := top 46
theorem sc__law_pedals : FnScope ["bag", "most", "lates", "turn"] ["bag", "most", "lates"] (defScope s__law_pedals) := ⟨rfl, rfl, rfl, by decide +kernel, rfl, by decide +kernel, by decide +kernel⟩
abbrev s__law_board : Stmt := top 47
theorem sc__law_board : FnScope ["bag", "most", "many", "turn"] ["bag", "most"] (defScope s__law_board) := ⟨rfl, rfl, rfl, by decide +kernel, rfl, by decide +kernel, by decide +kernel⟩
abbrev s__law_numbers : Stmt := top 48
theorem sc__law_numbers : FnScope ["bag", "most", "found", "turn", "size"] ["bag", "most"] (defScope s__law_numbers) := ⟨rfl, rfl, rfl, by decide +kernel, rfl, by decide +kernel, by decide +kernel⟩
abbrev s__law_shape : Stmt := top 49
theorem sc__law_shape : FnScope ["row", "number", "pedal", "size", "word", "sign"] ["row", "number"] (defScope s__law_shape) := ⟨rfl, rfl, rfl, by decide +kernel, rfl, by decide +kernel, by decide +kernel⟩
abbrev s__law_lateness : Stmt := top 50
theorem sc__law_lateness : FnScope ["row", "pedal"] ["row"] (defScope s__law_lateness) := ⟨rfl, rfl, rfl, by decide +kernel, rfl, by decide +kernel, by decide +kernel⟩
abbrev s__law_heard : Stmt := top 51
theorem sc__law_heard : FnScope ["board", "sound", "many", "found", "row", "tick", "still", "begin", "good"] ["board", "sound"] (defScope s__law_heard) := ⟨rfl, rfl, rfl, by decide +kernel, rfl, by decide +kernel, by decide +kernel⟩
abbrev s_law : Stmt := top 52
theorem sc_law : FnScope ["script", "k", "bag", "board", "row", "sound", "number"] ["script"] (defScope s_law) := ⟨rfl, rfl, rfl, by decide +kernel, rfl, by decide +kernel, by decide +kernel⟩
structure Txt (K : PySem.W.Frag) (w : World) (mg : Str → Option Value) (a_BOUNDS : Addr) (a_PLAIN : Addr) : Prop where
  n_abs : mg "abs" = none
  n_all : mg "all" = none
  n_bool : mg "bool" = none
  n_int : mg "int" = none
  n_isinstance : mg "isinstance" = none
  n_len : mg "len" = none
  n_list : mg "list" = none
  n_max : mg "max" = none
  n_min : mg "min" = none
  n_range : mg "range" = none
  n_str : mg "str" = none
  n_sum : mg "sum" = none
  n_tuple : mg "tuple" = none
  k_CUT : ∃ t, mg "CUT" = some (.str "cut" t)
  k_FOLD : ∃ t, mg "FOLD" = some (.str "fold" t)
  k_GATE : ∃ t, mg "GATE" = some (.str "gate" t)
  k_LATE : ∃ t, mg "LATE" = some (.str "late" t)
  k_LIFT : ∃ t, mg "LIFT" = some (.str "lift" t)
  k_LOUDER : ∃ t, mg "LOUDER" = some (.str "louder" t)
  k_MOST_NUMBERS : ∃ t, mg "MOST_NUMBERS" = some (.int 40 t)
  k_MOST_PEDALS : ∃ t, mg "MOST_PEDALS" = some (.int 6 t)
  k_MOST_ROWS : ∃ t, mg "MOST_ROWS" = some (.int 3 t)
  k_STEPS : ∃ t, mg "STEPS" = some (.str "steps" t)
  k_TURN : ∃ t, mg "TURN" = some (.str "turn" t)
  t_BOUNDS : KTab K w a_BOUNDS v_BOUNDS
  g_BOUNDS : mg "BOUNDS" = some (.ref a_BOUNDS)
  t_PLAIN : KTup K a_PLAIN v_PLAIN
  g_PLAIN : mg "PLAIN" = some (.ref a_PLAIN)
section
variable {P : Program} {w : World} {K : PySem.W.Frag} {mg : Str → Option Value} {base : Heap} {a_BOUNDS : Addr} {a_PLAIN : Addr}
theorem ok_is_number (T : Txt K w mg a_BOUNDS a_PLAIN) (F : DefAt K mg "is_number" s_is_number ["value"]) : OkAt P w K mg base 1 "is_number" ["value"] 1 g_is_number :=
  okAt_mk (B := B_is_number) F sc_is_number (fun f cdv A outer s H E hr => cb_one (cs_ret (c_and (c_isi (by decide +kernel) k_int (by rfl) T.n_isinstance (by decide +kernel) (by rfl) T.n_int (c_var 0)) (c_one (c_not (c_isi (by decide +kernel) k_bool (by rfl) T.n_isinstance (by decide +kernel) (by rfl) T.n_bool (c_var 0))))))) fun _ _ _ => .inr rfl
theorem ok_is_pedal (T : Txt K w mg a_BOUNDS a_PLAIN) (F : DefAt K mg "is_pedal" s_is_pedal ["value"]) (O_is_number : OkAt P w K mg base 1 "is_number" ["value"] 1 g_is_number) : OkAt P w K mg base 2 "is_pedal" ["value"] 1 g_is_pedal :=
  okAt_mk (B := B_is_pedal) F sc_is_pedal (fun f cdv A outer s H E hr => cb_cons (cs_if ((cw_or (ct_not (ct_val (c_isi (by decide +kernel) k_tuple (by rfl) T.n_isinstance (by decide +kernel) (by rfl) T.n_tuple (c_var 0)))) (cw_or (ct_eq (ru64 hr) (c_var 0) (c_tup (ca_nil))) (cw_or1 (ct_not (ct_val (c_isi (by decide +kernel) k_str (by rfl) T.n_isinstance (by decide +kernel) (by rfl) T.n_str (c_ix (c_var 0) (c_int)))))))).ct) (cb_one (cs_ret (c_bl))) (cb_nil)) (cb_cons (cs_if (ct_inK T.t_PLAIN (by rfl) T.g_PLAIN (c_ix (c_var 0) (c_int))) (cb_one (cs_ret (c_eq (ru64 hr) (c_callB call_len ok_len kLen_nx (by rfl) T.n_len (by decide +kernel) (ca_cons (c_var 0) (ca_nil))) (c_int)))) (cb_nil)) (cb_cons (cs_if ((cw_or (ct_notinTab T.t_BOUNDS (by rfl) T.g_BOUNDS (c_ix (c_var 0) (c_int))) (cw_or (ct_ne (ru64 hr) (c_callB call_len ok_len kLen_nx (by rfl) T.n_len (by decide +kernel) (ca_cons (c_var 0) (ca_nil))) (c_int)) (cw_or1 (ct_not (ct_val (c_fn O_is_number (hr.mono (by decide)) (by rfl) (ca_cons (c_ix (c_var 0) (c_int)) (ca_nil)))))))).ct) (cb_one (cs_ret (c_bl))) (cb_nil)) (cb_cons (cs_tab 1 2 T.t_BOUNDS rfl sc_is_pedal.nd rfl rfl (by first | exact Or.inl rfl | exact Or.inr rfl) (by first | exact Or.inl rfl | exact Or.inr rfl) (by rfl) T.g_BOUNDS (c_ix (c_var 0) (c_int))) (cb_one (cs_ret (c_and (c_lele (c_var 1) (c_ix (c_var 0) (c_int)) (c_var 2)) (c_one (c_ne (ru64 hr) (c_ix (c_var 0) (c_int)) (c_int)))))))))) fun _ _ _ => .inr rfl
theorem ok_is_row (T : Txt K w mg a_BOUNDS a_PLAIN) (F : DefAt K mg "is_row" s_is_row ["value"]) (O_is_pedal : OkAt P w K mg base 2 "is_pedal" ["value"] 1 g_is_pedal) : OkAt P w K mg base 3 "is_row" ["value"] 1 g_is_row :=
  okAt_mk (B := B_is_row) F sc_is_row (fun f cdv A outer s H E hr => cb_one (cs_ret (c_and (c_isi (by decide +kernel) k_tuple (by rfl) T.n_isinstance (by decide +kernel) (by rfl) T.n_tuple (c_var 0)) (c_and (c_le (c_callB call_len ok_len kLen_nx (by rfl) T.n_len (by decide +kernel) (ca_cons (c_var 0) (ca_nil))) (c_globI (by rfl) T.k_MOST_PEDALS)) (c_one (c_callB (cr_all rfl) ok_all (kBools_nx _) (by rfl) T.n_all (by decide +kernel) (ca_cons (c_comp rfl sc_is_row.nd (ci_seq (c_var 0)) (blkOk_by (own := [("pedal", 1)]) (N := ["value", "pedal"]) (sc := defScope s_is_row) (by decide +kernel)) (by decide) (fun _ _ _ _ _ => cg_name (i := 1) sc_is_row.nd rfl (by first | exact Or.inl rfl | exact Or.inr rfl)) (fun _ _ _ _ _ => cts_nil) (fun _ _ _ _ _ => c_fn O_is_pedal (hr.mono (by decide)) (by rfl) (ca_cons (c_var 1) (ca_nil)))) (ca_nil)))))))) fun _ _ _ => .inr rfl
theorem ok_is_board (T : Txt K w mg a_BOUNDS a_PLAIN) (F : DefAt K mg "is_board" s_is_board ["value"]) (O_is_row : OkAt P w K mg base 3 "is_row" ["value"] 1 g_is_row) : OkAt P w K mg base 4 "is_board" ["value"] 1 g_is_board :=
  okAt_mk (B := B_is_board) F sc_is_board (fun f cdv A outer s H E hr => cb_one (cs_ret (c_and (c_isi (by decide +kernel) k_tuple (by rfl) T.n_isinstance (by decide +kernel) (by rfl) T.n_tuple (c_var 0)) (c_and (c_lele (c_int) (c_callB call_len ok_len kLen_nx (by rfl) T.n_len (by decide +kernel) (ca_cons (c_var 0) (ca_nil))) (c_globI (by rfl) T.k_MOST_ROWS)) (c_one (c_callB (cr_all rfl) ok_all (kBools_nx _) (by rfl) T.n_all (by decide +kernel) (ca_cons (c_comp rfl sc_is_board.nd (ci_seq (c_var 0)) (blkOk_by (own := [("row", 1)]) (N := ["value", "row"]) (sc := defScope s_is_board) (by decide +kernel)) (by decide) (fun _ _ _ _ _ => cg_name (i := 1) sc_is_board.nd rfl (by first | exact Or.inl rfl | exact Or.inr rfl)) (fun _ _ _ _ _ => cts_nil) (fun _ _ _ _ _ => c_fn O_is_row (hr.mono (by decide)) (by rfl) (ca_cons (c_var 1) (ca_nil)))) (ca_nil)))))))) fun _ _ _ => .inr rfl
theorem ok_are_numbers (T : Txt K w mg a_BOUNDS a_PLAIN) (F : DefAt K mg "are_numbers" s_are_numbers ["value"]) (O_is_number : OkAt P w K mg base 1 "is_number" ["value"] 1 g_is_number) : OkAt P w K mg base 2 "are_numbers" ["value"] 1 g_are_numbers :=
  okAt_mk (B := B_are_numbers) F sc_are_numbers (fun f cdv A outer s H E hr => cb_one (cs_ret (c_and (c_isi (by decide +kernel) k_tuple (by rfl) T.n_isinstance (by decide +kernel) (by rfl) T.n_tuple (c_var 0)) (c_one (c_callB (cr_all rfl) ok_all (kBools_nx _) (by rfl) T.n_all (by decide +kernel) (ca_cons (c_comp rfl sc_are_numbers.nd (ci_seq (c_var 0)) (blkOk_by (own := [("number", 1)]) (N := ["value", "number"]) (sc := defScope s_are_numbers) (by decide +kernel)) (by decide) (fun _ _ _ _ _ => cg_name (i := 1) sc_are_numbers.nd rfl (by first | exact Or.inl rfl | exact Or.inr rfl)) (fun _ _ _ _ _ => cts_nil) (fun _ _ _ _ _ => c_fn O_is_number (hr.mono (by decide)) (by rfl) (ca_cons (c_var 1) (ca_nil)))) (ca_nil))))))) fun _ _ _ => .inr rfl
theorem ok_is_sound (T : Txt K w mg a_BOUNDS a_PLAIN) (F : DefAt K mg "is_sound" s_is_sound ["value"]) (O_are_numbers : OkAt P w K mg base 2 "are_numbers" ["value"] 1 g_are_numbers) : OkAt P w K mg base 3 "is_sound" ["value"] 1 g_is_sound :=
  okAt_mk (B := B_is_sound) F sc_is_sound (fun f cdv A outer s H E hr => cb_one (cs_ret (c_and (c_fn O_are_numbers (hr.mono (by decide)) (by rfl) (ca_cons (c_var 0) (ca_nil))) (c_one (c_le (c_callB call_len ok_len kLen_nx (by rfl) T.n_len (by decide +kernel) (ca_cons (c_var 0) (ca_nil))) (c_globI (by rfl) T.k_MOST_NUMBERS)))))) fun _ _ _ => .inr rfl
theorem ok_need_row (T : Txt K w mg a_BOUNDS a_PLAIN) (F : DefAt K mg "need_row" s_need_row ["value"]) (O_is_row : OkAt P w K mg base 3 "is_row" ["value"] 1 g_is_row) : OkAt P w K mg base 4 "need_row" ["value"] 1 g_need_row :=
  okAt_mk (B := B_need_row) F sc_need_row (fun f cdv A outer s H E hr => cb_one (cs_if (ct_not (ct_val (c_fn O_is_row (hr.mono (by decide)) (by rfl) (ca_cons (c_var 0) (ca_nil))))) (cb_one (cs_never)) (cb_nil))) fun _ _ _ => .inr rfl
theorem ok_need_board (T : Txt K w mg a_BOUNDS a_PLAIN) (F : DefAt K mg "need_board" s_need_board ["value"]) (O_is_board : OkAt P w K mg base 4 "is_board" ["value"] 1 g_is_board) : OkAt P w K mg base 5 "need_board" ["value"] 1 g_need_board :=
  okAt_mk (B := B_need_board) F sc_need_board (fun f cdv A outer s H E hr => cb_one (cs_if (ct_not (ct_val (c_fn O_is_board (hr.mono (by decide)) (by rfl) (ca_cons (c_var 0) (ca_nil))))) (cb_one (cs_never)) (cb_nil))) fun _ _ _ => .inr rfl
theorem ok_need_sound (T : Txt K w mg a_BOUNDS a_PLAIN) (F : DefAt K mg "need_sound" s_need_sound ["value"]) (O_is_sound : OkAt P w K mg base 3 "is_sound" ["value"] 1 g_is_sound) : OkAt P w K mg base 4 "need_sound" ["value"] 1 g_need_sound :=
  okAt_mk (B := B_need_sound) F sc_need_sound (fun f cdv A outer s H E hr => cb_one (cs_if (ct_not (ct_val (c_fn O_is_sound (hr.mono (by decide)) (by rfl) (ca_cons (c_var 0) (ca_nil))))) (cb_one (cs_never)) (cb_nil))) fun _ _ _ => .inr rfl
theorem ok_need_number (T : Txt K w mg a_BOUNDS a_PLAIN) (F : DefAt K mg "need_number" s_need_number ["value"]) (O_is_number : OkAt P w K mg base 1 "is_number" ["value"] 1 g_is_number) : OkAt P w K mg base 2 "need_number" ["value"] 1 g_need_number :=
  okAt_mk (B := B_need_number) F sc_need_number (fun f cdv A outer s H E hr => cb_one (cs_if (ct_not (ct_val (c_fn O_is_number (hr.mono (by decide)) (by rfl) (ca_cons (c_var 0) (ca_nil))))) (cb_one (cs_never)) (cb_nil))) fun _ _ _ => .inr rfl
theorem ok_late_of (T : Txt K w mg a_BOUNDS a_PLAIN) (F : DefAt K mg "late_of" s_late_of ["row"]) : OkAt P w K mg base 1 "late_of" ["row"] 1 g_late_of :=
  okAt_mk (B := B_late_of) F sc_late_of (fun f cdv A outer s H E hr => cb_one (cs_ret (c_callB (cr_sum rfl) ok_sum (kInts_nx _) (by rfl) T.n_sum (by decide +kernel) (ca_cons (c_comp rfl sc_late_of.nd (ci_seq (c_var 0)) (blkOk_by (own := [("pedal", 1)]) (N := ["row", "pedal"]) (sc := defScope s_late_of) (by decide +kernel)) (by decide) (fun _ _ _ _ _ => cg_name (i := 1) sc_late_of.nd rfl (by first | exact Or.inl rfl | exact Or.inr rfl)) (fun _ _ _ _ _ => cts_one (ct_eq (ru64 hr) (c_ix (c_var 1) (c_int)) (c_globS (by rfl) T.k_LATE))) (fun _ _ _ _ _ => c_ix (c_var 1) (c_int))) (ca_nil))))) fun _ _ _ => .inr rfl
theorem ok_board_late (T : Txt K w mg a_BOUNDS a_PLAIN) (F : DefAt K mg "board_late" s_board_late ["board"]) (O_late_of : OkAt P w K mg base 1 "late_of" ["row"] 1 g_late_of) : OkAt P w K mg base 2 "board_late" ["board"] 1 g_board_late :=
  okAt_mk (B := B_board_late) F sc_board_late (fun f cdv A outer s H E hr => cb_one (cs_ret (c_callB (cr_max rfl) ok_max (kInts_nx _) (by rfl) T.n_max (by decide +kernel) (ca_cons (c_comp rfl sc_board_late.nd (ci_seq (c_var 0)) (blkOk_by (own := [("row", 1)]) (N := ["board", "row"]) (sc := defScope s_board_late) (by decide +kernel)) (by decide) (fun _ _ _ _ _ => cg_name (i := 1) sc_board_late.nd rfl (by first | exact Or.inl rfl | exact Or.inr rfl)) (fun _ _ _ _ _ => cts_nil) (fun _ _ _ _ _ => c_fn O_late_of (hr.mono (by decide)) (by rfl) (ca_cons (c_var 1) (ca_nil)))) (ca_nil))))) fun _ _ _ => .inr rfl
theorem ok_pedal_shape (T : Txt K w mg a_BOUNDS a_PLAIN) (F : DefAt K mg "pedal_shape" s_pedal_shape ["pedal", "number"]) : OkAt P w K mg base 1 "pedal_shape" ["pedal", "number"] 2 g_pedal_shape :=
  okAt_mk (B := B_pedal_shape) F sc_pedal_shape (fun f cdv A outer s H E hr => cb_cons (cs_set 2 sc_pedal_shape.nd rfl (by first | exact Or.inl rfl | exact Or.inr rfl) (c_ix (c_var 0) (c_int))) (cb_cons (cs_if (ct_eq (ru64 hr) (c_var 2) (c_globS (by rfl) T.k_LOUDER)) (cb_one (cs_ret (c_mul (c_var 1) (c_ix (c_var 0) (c_int))))) (cb_nil)) (cb_cons (cs_if (ct_eq (ru64 hr) (c_var 2) (c_globS (by rfl) T.k_CUT)) (cb_one (cs_ret (c_callB (call_max2 rfl) ok_max2 (k2I_nx _) (by rfl) T.n_max (by decide +kernel) (ca_cons (c_sub (c_int) (c_ix (c_var 0) (c_int))) (ca_cons (c_callB (call_min2 rfl) ok_min2 (k2I_nx _) (by rfl) T.n_min (by decide +kernel) (ca_cons (c_ix (c_var 0) (c_int)) (ca_cons (c_var 1) (ca_nil)))) (ca_nil)))))) (cb_nil)) (cb_cons (cs_if (ct_eq (ru64 hr) (c_var 2) (c_globS (by rfl) T.k_GATE)) (cb_one (cs_ret (c_if ((cw_or (ct_ge (c_var 1) (c_ix (c_var 0) (c_int))) (cw_or1 (ct_le (c_var 1) (c_sub (c_int) (c_ix (c_var 0) (c_int)))))).ct) (c_var 1) (c_int)))) (cb_nil)) (cb_cons (cs_if (ct_eq (ru64 hr) (c_var 2) (c_globS (by rfl) T.k_TURN)) (cb_one (cs_ret (c_sub (c_int) (c_var 1)))) (cb_nil)) (cb_cons (cs_if (ct_eq (ru64 hr) (c_var 2) (c_globS (by rfl) T.k_FOLD)) (cb_one (cs_ret (c_callB (call_max2 rfl) ok_max2 (k2I_nx _) (by rfl) T.n_max (by decide +kernel) (ca_cons (c_var 1) (ca_cons (c_sub (c_int) (c_var 1)) (ca_nil)))))) (cb_nil)) (cb_cons (cs_if (ct_eq (ru64 hr) (c_var 2) (c_globS (by rfl) T.k_LIFT)) (cb_one (cs_ret (c_add (c_var 1) (c_ix (c_var 0) (c_int))))) (cb_nil)) (cb_cons (cs_if (ct_eq (ru64 hr) (c_var 2) (c_globS (by rfl) T.k_STEPS)) (cb_one (cs_ret (c_if (ct_ge (c_var 1) (c_int)) (c_sub (c_var 1) (c_mod (c_var 1) (c_ix (c_var 0) (c_int)))) (c_add (c_mod (c_sub (c_int) (c_var 1)) (c_ix (c_var 0) (c_int))) (c_var 1))))) (cb_nil)) (cb_one (cs_ret (c_var 1))))))))))) fun _ _ _ => .inr rfl
theorem ok_row_shape (T : Txt K w mg a_BOUNDS a_PLAIN) (F : DefAt K mg "row_shape" s_row_shape ["row", "number"]) (O_pedal_shape : OkAt P w K mg base 1 "pedal_shape" ["pedal", "number"] 2 g_pedal_shape) : OkAt P w K mg base 2 "row_shape" ["row", "number"] 2 g_row_shape :=
  okAt_mk (B := B_row_shape) F sc_row_shape (fun f cdv A outer s H E hr => cb_cons (cs_for PassesOwn.never rfl (ci_seq (c_var 0)) (cg_name (i := 2) sc_row_shape.nd rfl (by first | exact Or.inl rfl | exact Or.inr rfl)) (cb_one (cs_set 1 sc_row_shape.nd rfl (by first | exact Or.inl rfl | exact Or.inr rfl) (c_fn O_pedal_shape (hr.mono (by decide)) (by rfl) (ca_cons (c_var 2) (ca_cons (c_var 1) (ca_nil))))))) (cb_one (cs_ret (c_var 1)))) fun _ _ _ => .inr rfl
theorem ok_number_at (T : Txt K w mg a_BOUNDS a_PLAIN) (F : DefAt K mg "number_at" s_number_at ["sound", "tick"]) : OkAt P w K mg base 1 "number_at" ["sound", "tick"] 2 g_number_at :=
  okAt_mk (B := B_number_at) F sc_number_at (fun f cdv A outer s H E hr => cb_one (cs_ret (c_if (ct_lelt (c_int) (c_var 1) (c_callB call_len ok_len kLen_nx (by rfl) T.n_len (by decide +kernel) (ca_cons (c_var 0) (ca_nil)))) (c_ix (c_var 0) (c_var 1)) (c_int)))) fun _ _ _ => .inr rfl
theorem ok_heard_at (T : Txt K w mg a_BOUNDS a_PLAIN) (F : DefAt K mg "heard_at" s_heard_at ["board", "sound", "tick"]) (O_late_of : OkAt P w K mg base 1 "late_of" ["row"] 1 g_late_of) (O_number_at : OkAt P w K mg base 1 "number_at" ["sound", "tick"] 2 g_number_at) (O_row_shape : OkAt P w K mg base 2 "row_shape" ["row", "number"] 2 g_row_shape) : OkAt P w K mg base 3 "heard_at" ["board", "sound", "tick"] 3 g_heard_at :=
  okAt_mk (B := B_heard_at) F sc_heard_at (fun f cdv A outer s H E hr => cb_one (cs_ret (c_callB (cr_sum rfl) ok_sum (kInts_nx _) (by rfl) T.n_sum (by decide +kernel) (ca_cons (c_comp rfl sc_heard_at.nd (ci_seq (c_var 0)) (blkOk_by (own := [("row", 3)]) (N := ["board", "sound", "tick", "row"]) (sc := defScope s_heard_at) (by decide +kernel)) (by decide) (fun _ _ _ _ _ => cg_name (i := 3) sc_heard_at.nd rfl (by first | exact Or.inl rfl | exact Or.inr rfl)) (fun _ _ _ _ _ => cts_nil) (fun _ _ _ _ _ => c_fn O_row_shape (hr.mono (by decide)) (by rfl) (ca_cons (c_var 3) (ca_cons (c_fn O_number_at (hr.mono (by decide)) (by rfl) (ca_cons (c_var 1) (ca_cons (c_sub (c_var 2) (c_fn O_late_of (hr.mono (by decide)) (by rfl) (ca_cons (c_var 3) (ca_nil)))) (ca_nil)))) (ca_nil))))) (ca_nil))))) fun _ _ _ => .inr rfl
theorem ok_all_heard (T : Txt K w mg a_BOUNDS a_PLAIN) (F : DefAt K mg "all_heard" s_all_heard ["board", "sound"]) (O_board_late : OkAt P w K mg base 2 "board_late" ["board"] 1 g_board_late) (O_heard_at : OkAt P w K mg base 3 "heard_at" ["board", "sound", "tick"] 3 g_heard_at) : OkAt P w K mg base 4 "all_heard" ["board", "sound"] 2 g_all_heard :=
  okAt_mk (B := B_all_heard) F sc_all_heard (fun f cdv A outer s H E hr => cb_one (cs_ret (c_comp rfl sc_all_heard.nd (ci_seq (c_listRg1 rfl (by rfl) T.n_list (by rfl) T.n_range (c_add (c_callB call_len ok_len kLen_nx (by rfl) T.n_len (by decide +kernel) (ca_cons (c_var 1) (ca_nil))) (c_fn O_board_late (hr.mono (by decide)) (by rfl) (ca_cons (c_var 0) (ca_nil)))))) (blkOk_by (own := [("tick", 2)]) (N := ["board", "sound", "tick"]) (sc := defScope s_all_heard) (by decide +kernel)) (by decide) (fun _ _ _ _ _ => cg_name (i := 2) sc_all_heard.nd rfl (by first | exact Or.inl rfl | exact Or.inr rfl)) (fun _ _ _ _ _ => cts_nil) (fun _ _ _ _ _ => c_fn O_heard_at (hr.mono (by decide)) (by rfl) (ca_cons (c_var 0) (ca_cons (c_var 1) (ca_cons (c_var 2) (ca_nil)))))))) fun _ _ _ => .inr rfl
theorem ok_shaped (T : Txt K w mg a_BOUNDS a_PLAIN) (F : DefAt K mg "shaped" s_shaped ["row", "number"]) (O_need_number : OkAt P w K mg base 2 "need_number" ["value"] 1 g_need_number) (O_need_row : OkAt P w K mg base 4 "need_row" ["value"] 1 g_need_row) (O_row_shape : OkAt P w K mg base 2 "row_shape" ["row", "number"] 2 g_row_shape) : OkAt P w K mg base 5 "shaped" ["row", "number"] 2 g_shaped :=
  okAt_mk (B := B_shaped) F sc_shaped (fun f cdv A outer s H E hr => cb_cons (cs_expr (c_fn O_need_row (hr.mono (by decide)) (by rfl) (ca_cons (c_var 0) (ca_nil)))) (cb_cons (cs_expr (c_fn O_need_number (hr.mono (by decide)) (by rfl) (ca_cons (c_var 1) (ca_nil)))) (cb_one (cs_ret (c_fn O_row_shape (hr.mono (by decide)) (by rfl) (ca_cons (c_var 0) (ca_cons (c_var 1) (ca_nil)))))))) fun _ _ _ => .inr rfl
theorem ok_heard (T : Txt K w mg a_BOUNDS a_PLAIN) (F : DefAt K mg "heard" s_heard ["board", "sound"]) (O_all_heard : OkAt P w K mg base 4 "all_heard" ["board", "sound"] 2 g_all_heard) (O_need_board : OkAt P w K mg base 5 "need_board" ["value"] 1 g_need_board) (O_need_sound : OkAt P w K mg base 4 "need_sound" ["value"] 1 g_need_sound) : OkAt P w K mg base 6 "heard" ["board", "sound"] 2 g_heard :=
  okAt_mk (B := B_heard) F sc_heard (fun f cdv A outer s H E hr => cb_cons (cs_expr (c_fn O_need_board (hr.mono (by decide)) (by rfl) (ca_cons (c_var 0) (ca_nil)))) (cb_cons (cs_expr (c_fn O_need_sound (hr.mono (by decide)) (by rfl) (ca_cons (c_var 1) (ca_nil)))) (cb_one (cs_ret (c_fn O_all_heard (hr.mono (by decide)) (by rfl) (ca_cons (c_var 0) (ca_cons (c_var 1) (ca_nil)))))))) fun _ _ _ => .inr rfl
theorem ok_silence (T : Txt K w mg a_BOUNDS a_PLAIN) (F : DefAt K mg "silence" s_silence ["board"]) (O_heard_at : OkAt P w K mg base 3 "heard_at" ["board", "sound", "tick"] 3 g_heard_at) (O_need_board : OkAt P w K mg base 5 "need_board" ["value"] 1 g_need_board) : OkAt P w K mg base 6 "silence" ["board"] 1 g_silence :=
  okAt_mk (B := B_silence) F sc_silence (fun f cdv A outer s H E hr => cb_cons (cs_expr (c_fn O_need_board (hr.mono (by decide)) (by rfl) (ca_cons (c_var 0) (ca_nil)))) (cb_one (cs_ret (c_fn O_heard_at (hr.mono (by decide)) (by rfl) (ca_cons (c_var 0) (ca_cons (c_tup (ca_nil)) (ca_cons (c_int) (ca_nil)))))))) fun _ _ _ => .inr rfl
theorem ok__law_bag (T : Txt K w mg a_BOUNDS a_PLAIN) (F : DefAt K mg "_law_bag" s__law_bag ["script", "k"]) : OkAt P w K mg base 1 "_law_bag" ["script", "k"] 2 g__law_bag :=
  okAt_mk (B := B__law_bag) F sc__law_bag (fun f cdv A outer s H E hr => cb_cons (cs_set 2 sc__law_bag.nd rfl (by first | exact Or.inl rfl | exact Or.inr rfl) (c_if (ct_lt (c_var 1) (c_callB call_len ok_len kLen_nx (by rfl) T.n_len (by decide +kernel) (ca_cons (c_var 0) (ca_nil)))) (c_callB call_abs ok_abs (k1I_nx _) (by rfl) T.n_abs (by decide +kernel) (ca_cons (c_callTy call_int1 ok_int kInt_nx (by rfl) T.n_int (by decide +kernel) (ca_cons (c_ix (c_var 0) (c_var 1)) (ca_nil))) (ca_nil))) (c_add (c_mul (c_int) (c_var 1)) (c_int)))) (cb_one (cs_ret (c_lstN (ca_cons (c_if (ct_ge (c_var 2) (c_pow (c_int) (c_int))) (c_var 2) (c_int)) (ca_cons (c_mod (c_callTy call_int1 ok_int kInt_nx (by rfl) T.n_int (by decide +kernel) (ca_cons (c_add (c_add (c_mod (c_callTy call_int1 ok_int kInt_nx (by rfl) T.n_int (by decide +kernel) (ca_cons (c_var 2) (ca_nil))) (c_int)) (c_mul (c_int) (c_var 1))) (c_int)) (ca_nil))) (c_int)) (ca_nil))))))) fun _ _ _ => .inr rfl
theorem ok__law_take (T : Txt K w mg a_BOUNDS a_PLAIN) (F : DefAt K mg "_law_take" s__law_take ["bag", "many"]) : OkAt P w K mg base 1 "_law_take" ["bag", "many"] 2 g__law_take :=
  okAt_mk (B := B__law_take) F sc__law_take (fun f cdv A outer s H E hr => cb_cons (cs_if (ct_gt (c_ix (c_var 0) (c_int)) (c_int)) (cb_cons (cs_set 3 sc__law_take.nd rfl (by first | exact Or.inl rfl | exact Or.inr rfl) (c_mod (c_callTy call_int1 ok_int kInt_nx (by rfl) T.n_int (by decide +kernel) (ca_cons (c_ix (c_var 0) (c_int)) (ca_nil))) (c_var 1))) (cb_cons (cs_setix (c_div (c_callTy call_int1 ok_int kInt_nx (by rfl) T.n_int (by decide +kernel) (ca_cons (c_ix (c_var 0) (c_int)) (ca_nil))) (c_var 1)) (c_var 0) (c_int)) (cb_one (cs_ret (c_var 3))))) (cb_nil)) (cb_cons (cs_setix (c_mod (c_callTy call_int1 ok_int kInt_nx (by rfl) T.n_int (by decide +kernel) (ca_cons (c_add (c_mul (c_ix (c_var 0) (c_int)) (c_int)) (c_int)) (ca_nil))) (c_int)) (c_var 0) (c_int)) (cb_cons (cs_set 2 sc__law_take.nd rfl (by first | exact Or.inl rfl | exact Or.inr rfl) (c_mod (c_mul (c_callTy call_int1 ok_int kInt_nx (by rfl) T.n_int (by decide +kernel) (ca_cons (c_ix (c_var 0) (c_int)) (ca_nil))) (c_add (c_div (c_callTy call_int1 ok_int kInt_nx (by rfl) T.n_int (by decide +kernel) (ca_cons (c_ix (c_var 0) (c_int)) (ca_nil))) (c_int)) (c_int))) (c_int))) (cb_one (cs_ret (c_mod (c_callTy call_int1 ok_int kInt_nx (by rfl) T.n_int (by decide +kernel) (ca_cons (c_div (c_callTy call_int1 ok_int kInt_nx (by rfl) T.n_int (by decide +kernel) (ca_cons (c_var 2) (ca_nil))) (c_int)) (ca_nil))) (c_var 1))))))) fun _ _ _ => .inr rfl
theorem ok__law_of (T : Txt K w mg a_BOUNDS a_PLAIN) (F : DefAt K mg "_law_of" s__law_of ["bag", "some"]) (O__law_take : OkAt P w K mg base 1 "_law_take" ["bag", "many"] 2 g__law_take) : OkAt P w K mg base 2 "_law_of" ["bag", "some"] 2 g__law_of :=
  okAt_mk (B := B__law_of) F sc__law_of (fun f cdv A outer s H E hr => cb_one (cs_ret (c_ix (c_var 1) (c_fn O__law_take (hr.mono (by decide)) (by rfl) (ca_cons (c_var 0) (ca_cons (c_callB call_len ok_len kLen_nx (by rfl) T.n_len (by decide +kernel) (ca_cons (c_var 1) (ca_nil))) (ca_nil))))))) fun _ _ _ => .inr rfl
theorem ok__law_pedal (T : Txt K w mg a_BOUNDS a_PLAIN) (F : DefAt K mg "_law_pedal" s__law_pedal ["bag", "lates"]) (O__law_of : OkAt P w K mg base 2 "_law_of" ["bag", "some"] 2 g__law_of) (O__law_take : OkAt P w K mg base 1 "_law_take" ["bag", "many"] 2 g__law_take) : OkAt P w K mg base 3 "_law_pedal" ["bag", "lates"] 2 g__law_pedal :=
  okAt_mk (B := B__law_pedal) F sc__law_pedal (fun f cdv A outer s H E hr => cb_cons (cs_set 2 sc__law_pedal.nd rfl (by first | exact Or.inl rfl | exact Or.inr rfl) (c_lst (ca_cons (c_str) (ca_cons (c_str) (ca_cons (c_str) (ca_cons (c_str) (ca_cons (c_str) (ca_cons (c_str) (ca_cons (c_str) (ca_cons (c_str) (ca_cons (c_str) (ca_nil)))))))))))) (cb_cons (cs_set 3 sc__law_pedal.nd rfl (by first | exact Or.inl rfl | exact Or.inr rfl) (c_fn O__law_of (hr.mono (by decide)) (by rfl) (ca_cons (c_var 0) (ca_cons (c_add (c_var 2) (c_lst (ca_cons (c_if (ct_val (c_var 1)) (c_str) (c_str)) (ca_nil)))) (ca_nil))))) (cb_cons (cs_if (ct_in (ru65 hr) (c_var 3) (c_lst (ca_cons (c_str) (ca_cons (c_str) (ca_nil))))) (cb_one (cs_ret (c_tup (ca_cons (c_var 3) (ca_nil))))) (cb_nil)) (cb_cons (cs_if (ct_eq (ru64 hr) (c_var 3) (c_str)) (cb_one (cs_ret (c_tup (ca_cons (c_var 3) (ca_cons (c_add (c_int) (c_fn O__law_take (hr.mono (by decide)) (by rfl) (ca_cons (c_var 0) (ca_cons (c_int) (ca_nil))))) (ca_nil)))))) (cb_nil)) (cb_cons (cs_if (ct_eq (ru64 hr) (c_var 3) (c_str)) (cb_one (cs_ret (c_tup (ca_cons (c_var 3) (ca_cons (c_mul (c_fn O__law_of (hr.mono (by decide)) (by rfl) (ca_cons (c_var 0) (ca_cons (c_lst (ca_cons (c_neg (c_int)) (ca_cons (c_int) (ca_nil)))) (ca_nil)))) (c_add (c_int) (c_fn O__law_take (hr.mono (by decide)) (by rfl) (ca_cons (c_var 0) (ca_cons (c_fn O__law_of (hr.mono (by decide)) (by rfl) (ca_cons (c_var 0) (ca_cons (c_lst (ca_cons (c_int) (ca_cons (c_int) (ca_nil)))) (ca_nil)))) (ca_nil)))))) (ca_nil)))))) (cb_nil)) (cb_cons (cs_if (ct_eq (ru64 hr) (c_var 3) (c_str)) (cb_one (cs_ret (c_tup (ca_cons (c_var 3) (ca_cons (c_add (c_int) (c_fn O__law_take (hr.mono (by decide)) (by rfl) (ca_cons (c_var 0) (ca_cons (c_int) (ca_nil))))) (ca_nil)))))) (cb_nil)) (cb_one (cs_ret (c_tup (ca_cons (c_var 3) (ca_cons (c_add (c_int) (c_fn O__law_take (hr.mono (by decide)) (by rfl) (ca_cons (c_var 0) (ca_cons (c_if (ct_eq (ru64 hr) (c_var 3) (c_str)) (c_int) (c_fn O__law_of (hr.mono (by decide)) (by rfl) (ca_cons (c_var 0) (ca_cons (c_lst (ca_cons (c_int) (ca_cons (c_int) (ca_cons (c_int) (ca_nil))))) (ca_nil))))) (ca_nil))))) (ca_nil)))))))))))) fun _ _ _ => .inr rfl
theorem ok__law_pedals (T : Txt K w mg a_BOUNDS a_PLAIN) (F : DefAt K mg "_law_pedals" s__law_pedals ["bag", "most", "lates"]) (O__law_pedal : OkAt P w K mg base 3 "_law_pedal" ["bag", "lates"] 2 g__law_pedal) (O__law_take : OkAt P w K mg base 1 "_law_take" ["bag", "many"] 2 g__law_take) : OkAt P w K mg base 4 "_law_pedals" ["bag", "most", "lates"] 3 g__law_pedals :=
  okAt_mk (B := B__law_pedals) F sc__law_pedals (fun f cdv A outer s H E hr => cb_one (cs_ret (c_callTy call_tuple_of ok_tuple kTuple_nx (by rfl) T.n_tuple (by decide +kernel) (ca_cons (c_comp rfl sc__law_pedals.nd (ci_range1 (by rfl) T.n_range (c_fn O__law_take (hr.mono (by decide)) (by rfl) (ca_cons (c_var 0) (ca_cons (c_add (c_var 1) (c_int)) (ca_nil))))) (blkOk_by (own := [("turn", 3)]) (N := ["bag", "most", "lates", "turn"]) (sc := defScope s__law_pedals) (by decide +kernel)) (by decide) (fun _ _ _ _ _ => cg_name (i := 3) sc__law_pedals.nd rfl (by first | exact Or.inl rfl | exact Or.inr rfl)) (fun _ _ _ _ _ => cts_nil) (fun _ _ _ _ _ => c_fn O__law_pedal (hr.mono (by decide)) (by rfl) (ca_cons (c_var 0) (ca_cons (c_var 2) (ca_nil))))) (ca_nil))))) fun _ _ _ => .inr rfl
theorem ok__law_board (T : Txt K w mg a_BOUNDS a_PLAIN) (F : DefAt K mg "_law_board" s__law_board ["bag", "most"]) (O__law_of : OkAt P w K mg base 2 "_law_of" ["bag", "some"] 2 g__law_of) (O__law_pedals : OkAt P w K mg base 4 "_law_pedals" ["bag", "most", "lates"] 3 g__law_pedals) : OkAt P w K mg base 5 "_law_board" ["bag", "most"] 2 g__law_board :=
  okAt_mk (B := B__law_board) F sc__law_board (fun f cdv A outer s H E hr => cb_cons (cs_set 2 sc__law_board.nd rfl (by first | exact Or.inl rfl | exact Or.inr rfl) (c_fn O__law_of (hr.mono (by decide)) (by rfl) (ca_cons (c_var 0) (ca_cons (c_lst (ca_cons (c_int) (ca_cons (c_int) (ca_cons (c_int) (ca_cons (c_int) (ca_nil)))))) (ca_nil))))) (cb_one (cs_ret (c_callTy call_tuple_of ok_tuple kTuple_nx (by rfl) T.n_tuple (by decide +kernel) (ca_cons (c_comp rfl sc__law_board.nd (ci_range1 (by rfl) T.n_range (c_var 2)) (blkOk_by (own := [("turn", 3)]) (N := ["bag", "most", "many", "turn"]) (sc := defScope s__law_board) (by decide +kernel)) (by decide) (fun _ _ _ _ _ => cg_name (i := 3) sc__law_board.nd rfl (by first | exact Or.inl rfl | exact Or.inr rfl)) (fun _ _ _ _ _ => cts_nil) (fun _ _ _ _ _ => c_fn O__law_pedals (hr.mono (by decide)) (by rfl) (ca_cons (c_var 0) (ca_cons (c_var 1) (ca_cons (c_bl) (ca_nil)))))) (ca_nil)))))) fun _ _ _ => .inr rfl
theorem ok__law_numbers (T : Txt K w mg a_BOUNDS a_PLAIN) (F : DefAt K mg "_law_numbers" s__law_numbers ["bag", "most"]) (O__law_of : OkAt P w K mg base 2 "_law_of" ["bag", "some"] 2 g__law_of) (O__law_take : OkAt P w K mg base 1 "_law_take" ["bag", "many"] 2 g__law_take) : OkAt P w K mg base 3 "_law_numbers" ["bag", "most"] 2 g__law_numbers :=
  okAt_mk (B := B__law_numbers) F sc__law_numbers (fun f cdv A outer s H E hr => cb_cons (cs_set 2 sc__law_numbers.nd rfl (by first | exact Or.inl rfl | exact Or.inr rfl) (c_tup (ca_nil))) (cb_cons (cs_for PassesOwn.never rfl (ci_range1 (by rfl) T.n_range (c_fn O__law_take (hr.mono (by decide)) (by rfl) (ca_cons (c_var 0) (ca_cons (c_add (c_var 1) (c_int)) (ca_nil))))) (cg_name (i := 3) sc__law_numbers.nd rfl (by first | exact Or.inl rfl | exact Or.inr rfl)) (cb_cons (cs_set 4 sc__law_numbers.nd rfl (by first | exact Or.inl rfl | exact Or.inr rfl) (c_fn O__law_of (hr.mono (by decide)) (by rfl) (ca_cons (c_var 0) (ca_cons (c_lst (ca_cons (c_int) (ca_cons (c_int) (ca_cons (c_int) (ca_cons (c_int) (ca_cons (c_pow (c_int) (c_int)) (ca_nil))))))) (ca_nil))))) (cb_one (cs_set 2 sc__law_numbers.nd rfl (by first | exact Or.inl rfl | exact Or.inr rfl) (c_add (c_var 2) (c_tup (ca_cons (c_sub (c_fn O__law_take (hr.mono (by decide)) (by rfl) (ca_cons (c_var 0) (ca_cons (c_add (c_mul (c_int) (c_var 4)) (c_int)) (ca_nil)))) (c_var 4)) (ca_nil)))))))) (cb_one (cs_ret (c_var 2))))) fun _ _ _ => .inr rfl
theorem ok__law_shape (T : Txt K w mg a_BOUNDS a_PLAIN) (F : DefAt K mg "_law_shape" s__law_shape ["row", "number"]) : OkAt P w K mg base 1 "_law_shape" ["row", "number"] 2 g__law_shape :=
  okAt_mk (B := B__law_shape) F sc__law_shape (fun f cdv A outer s H E hr => cb_cons (cs_for PassesOwn.never rfl (ci_seq (c_var 0)) (cg_name (i := 2) sc__law_shape.nd rfl (by first | exact Or.inl rfl | exact Or.inr rfl)) (cb_cons (cs_par 4 5 rfl sc__law_shape.nd rfl rfl (by decide) rfl rfl (ca_cons (c_ix (c_var 2) (c_int)) (ca_cons (c_if (ct_lt (c_var 1) (c_int)) (c_neg (c_int)) (c_int)) (ca_nil)))) (cb_cons (cs_set 3 sc__law_shape.nd rfl (by first | exact Or.inl rfl | exact Or.inr rfl) (c_mul (c_var 5) (c_var 1))) (cb_one (cs_if (ct_eq (ru64 hr) (c_var 4) (c_str)) (cb_one (cs_set 1 sc__law_shape.nd rfl (by first | exact Or.inl rfl | exact Or.inr rfl) (c_mul (c_ix (c_var 2) (c_int)) (c_var 1)))) (cb_one (cs_if (ct_eq (ru64 hr) (c_var 4) (c_str)) (cb_one (cs_set 1 sc__law_shape.nd rfl (by first | exact Or.inl rfl | exact Or.inr rfl) (c_add (c_var 1) (c_ix (c_var 2) (c_int))))) (cb_one (cs_if (ct_eq (ru64 hr) (c_var 4) (c_str)) (cb_one (cs_set 1 sc__law_shape.nd rfl (by first | exact Or.inl rfl | exact Or.inr rfl) (c_neg (c_var 1)))) (cb_one (cs_if (ct_eq (ru64 hr) (c_var 4) (c_str)) (cb_one (cs_set 1 sc__law_shape.nd rfl (by first | exact Or.inl rfl | exact Or.inr rfl) (c_var 3))) (cb_one (cs_if ((cw_and (ct_eq (ru64 hr) (c_var 4) (c_str)) (cw_and1 (ct_gt (c_var 3) (c_ix (c_var 2) (c_int))))).ct) (cb_one (cs_set 1 sc__law_shape.nd rfl (by first | exact Or.inl rfl | exact Or.inr rfl) (c_mul (c_var 5) (c_ix (c_var 2) (c_int))))) (cb_one (cs_if ((cw_and (ct_eq (ru64 hr) (c_var 4) (c_str)) (cw_and1 (ct_lt (c_var 3) (c_ix (c_var 2) (c_int))))).ct) (cb_one (cs_set 1 sc__law_shape.nd rfl (by first | exact Or.inl rfl | exact Or.inr rfl) (c_int))) (cb_one (cs_if (ct_eq (ru64 hr) (c_var 4) (c_str)) (cb_one (cs_set 1 sc__law_shape.nd rfl (by first | exact Or.inl rfl | exact Or.inr rfl) (c_mul (c_mul (c_var 5) (c_div (c_var 3) (c_ix (c_var 2) (c_int)))) (c_ix (c_var 2) (c_int))))) (cb_nil)))))))))))))))))) (cb_one (cs_ret (c_var 1)))) fun _ _ _ => .inr rfl
theorem ok__law_lateness (T : Txt K w mg a_BOUNDS a_PLAIN) (F : DefAt K mg "_law_lateness" s__law_lateness ["row"]) : OkAt P w K mg base 1 "_law_lateness" ["row"] 1 g__law_lateness :=
  okAt_mk (B := B__law_lateness) F sc__law_lateness (fun f cdv A outer s H E hr => cb_one (cs_ret (c_callB (cr_sum rfl) ok_sum (kInts_nx _) (by rfl) T.n_sum (by decide +kernel) (ca_cons (c_comp rfl sc__law_lateness.nd (ci_seq (c_var 0)) (blkOk_by (own := [("pedal", 1)]) (N := ["row", "pedal"]) (sc := defScope s__law_lateness) (by decide +kernel)) (by decide) (fun _ _ _ _ _ => cg_name (i := 1) sc__law_lateness.nd rfl (by first | exact Or.inl rfl | exact Or.inr rfl)) (fun _ _ _ _ _ => cts_one (ct_eq (ru64 hr) (c_ix (c_var 1) (c_int)) (c_str))) (fun _ _ _ _ _ => c_ix (c_var 1) (c_int))) (ca_nil))))) fun _ _ _ => .inr rfl
theorem ok__law_heard (T : Txt K w mg a_BOUNDS a_PLAIN) (F : DefAt K mg "_law_heard" s__law_heard ["board", "sound"]) (O__law_lateness : OkAt P w K mg base 1 "_law_lateness" ["row"] 1 g__law_lateness) (O__law_shape : OkAt P w K mg base 1 "_law_shape" ["row", "number"] 2 g__law_shape) : OkAt P w K mg base 2 "_law_heard" ["board", "sound"] 2 g__law_heard :=
  okAt_mk (B := B__law_heard) F sc__law_heard (fun f cdv A outer s H E hr => cb_cons (cs_set 2 sc__law_heard.nd rfl (by first | exact Or.inl rfl | exact Or.inr rfl) (c_add (c_callB call_len ok_len kLen_nx (by rfl) T.n_len (by decide +kernel) (ca_cons (c_var 1) (ca_nil))) (c_callB (cr_max rfl) ok_max (kInts_nx _) (by rfl) T.n_max (by decide +kernel) (ca_cons (c_comp rfl sc__law_heard.nd (ci_seq (c_var 0)) (blkOk_by (own := [("row", 4)]) (N := ["board", "sound", "many", "found", "row", "tick", "still", "begin", "good"]) (sc := defScope s__law_heard) (by decide +kernel)) (by decide) (fun _ _ _ _ _ => cg_name (i := 4) sc__law_heard.nd rfl (by first | exact Or.inl rfl | exact Or.inr rfl)) (fun _ _ _ _ _ => cts_nil) (fun _ _ _ _ _ => c_fn O__law_lateness (hr.mono (by decide)) (by rfl) (ca_cons (c_var 4) (ca_nil)))) (ca_nil))))) (cb_cons (cs_set 3 sc__law_heard.nd rfl (by first | exact Or.inl rfl | exact Or.inr rfl) (c_mulN (c_lst (ca_cons (c_int) (ca_nil))) (c_var 2))) (cb_cons (cs_for PassesOwn.never rfl (ci_seq (c_var 0)) (cg_name (i := 4) sc__law_heard.nd rfl (by first | exact Or.inl rfl | exact Or.inr rfl)) (cb_cons (cs_par 6 7 rfl sc__law_heard.nd rfl rfl (by decide) rfl rfl (ca_cons (c_fn O__law_shape (hr.mono (by decide)) (by rfl) (ca_cons (c_var 4) (ca_cons (c_int) (ca_nil)))) (ca_cons (c_fn O__law_lateness (hr.mono (by decide)) (by rfl) (ca_cons (c_var 4) (ca_nil))) (ca_nil)))) (cb_one (cs_for PassesOwn.never rfl (ci_range1 (by rfl) T.n_range (c_var 2)) (cg_name (i := 5) sc__law_heard.nd rfl (by first | exact Or.inl rfl | exact Or.inr rfl)) (cb_cons (cs_set 8 sc__law_heard.nd rfl (by first | exact Or.inl rfl | exact Or.inr rfl) (c_lelt (c_var 7) (c_var 5) (c_add (c_var 7) (c_callB call_len ok_len kLen_nx (by rfl) T.n_len (by decide +kernel) (ca_cons (c_var 1) (ca_nil)))))) (cb_one (cs_setix (c_add (c_ix (c_var 3) (c_var 5)) (c_if (ct_val (c_var 8)) (c_fn O__law_shape (hr.mono (by decide)) (by rfl) (ca_cons (c_var 4) (ca_cons (c_ix (c_var 1) (c_sub (c_var 5) (c_var 7))) (ca_nil)))) (c_var 6))) (c_var 3) (c_var 5)))))))) (cb_frz 3 (cb_one (cs_ret (c_var 3))))))) fun _ _ _ => .inr rfl
theorem ok_law (T : Txt K w mg a_BOUNDS a_PLAIN) (O__law_bag : OkAt P w K mg base 1 "_law_bag" ["script", "k"] 2 g__law_bag) (O__law_board : OkAt P w K mg base 5 "_law_board" ["bag", "most"] 2 g__law_board) (O__law_heard : OkAt P w K mg base 2 "_law_heard" ["board", "sound"] 2 g__law_heard) (O__law_numbers : OkAt P w K mg base 3 "_law_numbers" ["bag", "most"] 2 g__law_numbers) (O__law_shape : OkAt P w K mg base 1 "_law_shape" ["row", "number"] 2 g__law_shape) (O_heard : OkAt P w K mg base 6 "heard" ["board", "sound"] 2 g_heard) (O_shaped : OkAt P w K mg base 5 "shaped" ["row", "number"] 2 g_shaped) (O_silence : OkAt P w K mg base 6 "silence" ["board"] 1 g_silence) {f : Addr} {fd : FuncData} (F : Fun K "law" "law" s_law f fd) : FnOk P w K mg base CX0 7 f fd ["script"] (spD K 1 fun ws μ => noex (g_law_2 ws μ)) :=
  ok_def (B := B_law_2) F sc_law (fun cdv A outer s H E hr => cb_cons (cs_for PassesOwn.never rfl (ci_range1 (by rfl) T.n_range (c_callB (call_max2 rfl) ok_max2 (k2I_nx _) (by rfl) T.n_max (by decide +kernel) (ca_cons (c_int) (ca_cons (c_callB (call_min2 rfl) ok_min2 (k2I_nx _) (by rfl) T.n_min (by decide +kernel) (ca_cons (c_int) (ca_cons (c_add (c_callB call_len ok_len kLen_nx (by rfl) T.n_len (by decide +kernel) (ca_cons (c_var 0) (ca_nil))) (c_int)) (ca_nil)))) (ca_nil))))) (cg_name (i := 1) sc_law.nd rfl (by first | exact Or.inl rfl | exact Or.inr rfl)) (cb_cons (cs_set 2 sc_law.nd rfl (by first | exact Or.inl rfl | exact Or.inr rfl) (c_fn O__law_bag (hr.mono (by decide)) (by rfl) (ca_cons (c_var 0) (ca_cons (c_var 1) (ca_nil))))) (cb_cons (cs_set 3 sc_law.nd rfl (by first | exact Or.inl rfl | exact Or.inr rfl) (c_fn O__law_board (hr.mono (by decide)) (by rfl) (ca_cons (c_var 2) (ca_cons (c_int) (ca_nil))))) (cb_cons (cs_for PassesOwn.never rfl (ci_seq (c_var 3)) (cg_name (i := 4) sc_law.nd rfl (by first | exact Or.inl rfl | exact Or.inr rfl)) (cb_one (cs_for PassesOwn.never rfl (ci_seq (c_add (c_fn O__law_numbers (hr.mono (by decide)) (by rfl) (ca_cons (c_var 2) (ca_cons (c_int) (ca_nil)))) (c_tup (ca_cons (c_int) (ca_cons (c_int) (ca_cons (c_neg (c_int)) (ca_nil))))))) (cg_name (i := 6) sc_law.nd rfl (by first | exact Or.inl rfl | exact Or.inr rfl)) (cb_one (cs_if (ct_ne (ru64 hr) (c_fn O_shaped (hr.mono (by decide)) (by rfl) (ca_cons (c_var 4) (ca_cons (c_var 6) (ca_nil)))) (c_fn O__law_shape (hr.mono (by decide)) (by rfl) (ca_cons (c_var 4) (ca_cons (c_var 6) (ca_nil))))) (cb_one (cs_ret (c_bl))) (cb_nil)))))) (cb_cons (cs_if (ct_ne (ru64 hr) (c_fn O_silence (hr.mono (by decide)) (by rfl) (ca_cons (c_var 3) (ca_nil))) (c_callB (cr_sum rfl) ok_sum (kInts_nx _) (by rfl) T.n_sum (by decide +kernel) (ca_cons (c_comp rfl sc_law.nd (ci_seq (c_var 3)) (blkOk_by (own := [("row", 4)]) (N := ["script", "k", "bag", "board", "row", "sound", "number"]) (sc := defScope s_law) (by decide +kernel)) (by decide) (fun _ _ _ _ _ => cg_name (i := 4) sc_law.nd rfl (by first | exact Or.inl rfl | exact Or.inr rfl)) (fun _ _ _ _ _ => cts_nil) (fun _ _ _ _ _ => c_fn O__law_shape (hr.mono (by decide)) (by rfl) (ca_cons (c_var 4) (ca_cons (c_int) (ca_nil))))) (ca_nil)))) (cb_one (cs_ret (c_bl))) (cb_nil)) (cb_one (cs_for PassesOwn.never rfl (ci_seq (c_lst (ca_cons (c_tup (ca_nil)) (ca_cons (c_fn O__law_numbers (hr.mono (by decide)) (by rfl) (ca_cons (c_var 2) (ca_cons (c_int) (ca_nil)))) (ca_cons (c_fn O__law_numbers (hr.mono (by decide)) (by rfl) (ca_cons (c_var 2) (ca_cons (c_int) (ca_nil)))) (ca_nil)))))) (cg_name (i := 5) sc_law.nd rfl (by first | exact Or.inl rfl | exact Or.inr rfl)) (cb_one (cs_if (ct_ne (ru64 hr) (c_fn O_heard (hr.mono (by decide)) (by rfl) (ca_cons (c_var 3) (ca_cons (c_var 5) (ca_nil)))) (c_fn O__law_heard (hr.mono (by decide)) (by rfl) (ca_cons (c_var 3) (ca_cons (c_var 5) (ca_nil))))) (cb_one (cs_ret (c_bl))) (cb_nil)))))))))) (cb_one (cs_ret (c_bl)))) fun _ _ _ => .inr rfl
end
theorem all_mk {P : Program} {w : World} {K : PySem.W.Frag} {h : Heap} {mg : Str → Option Value} {fa f0 f1 f2 f3 f4 f5 f6 f7 f8 f9 f10 f11 f12 f13 f14 f15 f16 f17 f18 f19 f20 f21 f22 f23 f24 f25 f26 f27 f28 f29 f30 a_BOUNDS a_PLAIN : Addr} (X : K.In h) (G : h.Ns mainGlobals mg) (hfa : mg "law" = some (.ref fa)) {od0 an0 od1 an1 od2 an2 od3 an3 od4 an4 od5 an5 od6 an6 od7 an7 od8 an8 od9 an9 od10 an10 od11 an11 od12 an12 od13 an13 od14 an14 od15 an15 od16 an16 od17 an17 od18 an18 od19 an19 od20 an20 od21 an21 od22 an22 od23 an23 od24 an24 od25 an25 od26 an26 od27 an27 od28 an28 od29 an29 od30 an30 : Option Addr} {sl0 sl1 sl2 sl3 sl4 sl5 sl6 sl7 sl8 sl9 sl10 sl11 sl12 sl13 sl14 sl15 sl16 sl17 sl18 sl19 sl20 sl21 sl22 sl23 sl24 sl25 sl26 sl27 sl28 sl29 sl30 : Array (Option Value)} {oc0 kV0 dc0 pm0 cd0 ct0 oc1 kV1 dc1 pm1 cd1 ct1 oc2 kV2 dc2 pm2 cd2 ct2 oc3 kV3 dc3 pm3 cd3 ct3 oc4 kV4 dc4 pm4 cd4 ct4 oc5 kV5 dc5 pm5 cd5 ct5 oc6 kV6 dc6 pm6 cd6 ct6 oc7 kV7 dc7 pm7 cd7 ct7 oc8 kV8 dc8 pm8 cd8 ct8 oc9 kV9 dc9 pm9 cd9 ct9 oc10 kV10 dc10 pm10 cd10 ct10 oc11 kV11 dc11 pm11 cd11 ct11 oc12 kV12 dc12 pm12 cd12 ct12 oc13 kV13 dc13 pm13 cd13 ct13 oc14 kV14 dc14 pm14 cd14 ct14 oc15 kV15 dc15 pm15 cd15 ct15 oc16 kV16 dc16 pm16 cd16 ct16 oc17 kV17 dc17 pm17 cd17 ct17 oc18 kV18 dc18 pm18 cd18 ct18 oc19 kV19 dc19 pm19 cd19 ct19 oc20 kV20 dc20 pm20 cd20 ct20 oc21 kV21 dc21 pm21 cd21 ct21 oc22 kV22 dc22 pm22 cd22 ct22 oc23 kV23 dc23 pm23 cd23 ct23 oc24 kV24 dc24 pm24 cd24 ct24 oc25 kV25 dc25 pm25 cd25 ct25 oc26 kV26 dc26 pm26 cd26 ct26 oc27 kV27 dc27 pm27 cd27 ct27 oc28 kV28 dc28 pm28 cd28 ct28 oc29 kV29 dc29 pm29 cd29 ct29 oc30 kV30 dc30 pm30 cd30 ct30 : Value} {q_CUT q_FOLD q_GATE q_LATE q_LIFT q_LOUDER q_MOST_NUMBERS q_MOST_PEDALS q_MOST_ROWS q_STEPS q_TURN : Value} {c_BOUNDS : Value} {dd_BOUNDS : Option Addr} {i_BOUNDS : Array DictEntry} {n_BOUNDS : Nat} {sl_BOUNDS : Array (Option Value)} {c_PLAIN : Value} {dd_PLAIN : Option Addr} {i_PLAIN : Array Value} {n_PLAIN : Nat} {sl_PLAIN : Array (Option Value)}
    (a0 : PySem.W.nsIn K mainGlobals "is_number" = some (some (.ref f0)))
    (l0 : K.lookup f0 = some ⟨oc0, od0, .func (PySem.W.fnOf "is_number" "is_number" (defArgs s_is_number) (defBody s_is_number) (defScope s_is_number) .none kV0 dc0 pm0 an0 cd0 ct0), sl0⟩)
    (c0 : PySem.W.codeIn K cd0 "is_number" = true)
    (k0 : PySem.W.keepIn K (.ref f0) = true)
    (a1 : PySem.W.nsIn K mainGlobals "is_pedal" = some (some (.ref f1)))
    (l1 : K.lookup f1 = some ⟨oc1, od1, .func (PySem.W.fnOf "is_pedal" "is_pedal" (defArgs s_is_pedal) (defBody s_is_pedal) (defScope s_is_pedal) .none kV1 dc1 pm1 an1 cd1 ct1), sl1⟩)
    (c1 : PySem.W.codeIn K cd1 "is_pedal" = true)
    (k1 : PySem.W.keepIn K (.ref f1) = true)
    (a2 : PySem.W.nsIn K mainGlobals "is_row" = some (some (.ref f2)))
    (l2 : K.lookup f2 = some ⟨oc2, od2, .func (PySem.W.fnOf "is_row" "is_row" (defArgs s_is_row) (defBody s_is_row) (defScope s_is_row) .none kV2 dc2 pm2 an2 cd2 ct2), sl2⟩)
    (c2 : PySem.W.codeIn K cd2 "is_row" = true)
    (k2 : PySem.W.keepIn K (.ref f2) = true)
    (a3 : PySem.W.nsIn K mainGlobals "is_board" = some (some (.ref f3)))
    (l3 : K.lookup f3 = some ⟨oc3, od3, .func (PySem.W.fnOf "is_board" "is_board" (defArgs s_is_board) (defBody s_is_board) (defScope s_is_board) .none kV3 dc3 pm3 an3 cd3 ct3), sl3⟩)
    (c3 : PySem.W.codeIn K cd3 "is_board" = true)
    (k3 : PySem.W.keepIn K (.ref f3) = true)
    (a4 : PySem.W.nsIn K mainGlobals "are_numbers" = some (some (.ref f4)))
    (l4 : K.lookup f4 = some ⟨oc4, od4, .func (PySem.W.fnOf "are_numbers" "are_numbers" (defArgs s_are_numbers) (defBody s_are_numbers) (defScope s_are_numbers) .none kV4 dc4 pm4 an4 cd4 ct4), sl4⟩)
    (c4 : PySem.W.codeIn K cd4 "are_numbers" = true)
    (k4 : PySem.W.keepIn K (.ref f4) = true)
    (a5 : PySem.W.nsIn K mainGlobals "is_sound" = some (some (.ref f5)))
    (l5 : K.lookup f5 = some ⟨oc5, od5, .func (PySem.W.fnOf "is_sound" "is_sound" (defArgs s_is_sound) (defBody s_is_sound) (defScope s_is_sound) .none kV5 dc5 pm5 an5 cd5 ct5), sl5⟩)
    (c5 : PySem.W.codeIn K cd5 "is_sound" = true)
    (k5 : PySem.W.keepIn K (.ref f5) = true)
    (a6 : PySem.W.nsIn K mainGlobals "need_row" = some (some (.ref f6)))
    (l6 : K.lookup f6 = some ⟨oc6, od6, .func (PySem.W.fnOf "need_row" "need_row" (defArgs s_need_row) (defBody s_need_row) (defScope s_need_row) .none kV6 dc6 pm6 an6 cd6 ct6), sl6⟩)
    (c6 : PySem.W.codeIn K cd6 "need_row" = true)
    (k6 : PySem.W.keepIn K (.ref f6) = true)
    (a7 : PySem.W.nsIn K mainGlobals "need_board" = some (some (.ref f7)))
    (l7 : K.lookup f7 = some ⟨oc7, od7, .func (PySem.W.fnOf "need_board" "need_board" (defArgs s_need_board) (defBody s_need_board) (defScope s_need_board) .none kV7 dc7 pm7 an7 cd7 ct7), sl7⟩)
    (c7 : PySem.W.codeIn K cd7 "need_board" = true)
    (k7 : PySem.W.keepIn K (.ref f7) = true)
    (a8 : PySem.W.nsIn K mainGlobals "need_sound" = some (some (.ref f8)))
    (l8 : K.lookup f8 = some ⟨oc8, od8, .func (PySem.W.fnOf "need_sound" "need_sound" (defArgs s_need_sound) (defBody s_need_sound) (defScope s_need_sound) .none kV8 dc8 pm8 an8 cd8 ct8), sl8⟩)
    (c8 : PySem.W.codeIn K cd8 "need_sound" = true)
    (k8 : PySem.W.keepIn K (.ref f8) = true)
    (a9 : PySem.W.nsIn K mainGlobals "need_number" = some (some (.ref f9)))
    (l9 : K.lookup f9 = some ⟨oc9, od9, .func (PySem.W.fnOf "need_number" "need_number" (defArgs s_need_number) (defBody s_need_number) (defScope s_need_number) .none kV9 dc9 pm9 an9 cd9 ct9), sl9⟩)
    (c9 : PySem.W.codeIn K cd9 "need_number" = true)
    (k9 : PySem.W.keepIn K (.ref f9) = true)
    (a10 : PySem.W.nsIn K mainGlobals "late_of" = some (some (.ref f10)))
    (l10 : K.lookup f10 = some ⟨oc10, od10, .func (PySem.W.fnOf "late_of" "late_of" (defArgs s_late_of) (defBody s_late_of) (defScope s_late_of) .none kV10 dc10 pm10 an10 cd10 ct10), sl10⟩)
    (c10 : PySem.W.codeIn K cd10 "late_of" = true)
    (k10 : PySem.W.keepIn K (.ref f10) = true)
    (a11 : PySem.W.nsIn K mainGlobals "board_late" = some (some (.ref f11)))
    (l11 : K.lookup f11 = some ⟨oc11, od11, .func (PySem.W.fnOf "board_late" "board_late" (defArgs s_board_late) (defBody s_board_late) (defScope s_board_late) .none kV11 dc11 pm11 an11 cd11 ct11), sl11⟩)
    (c11 : PySem.W.codeIn K cd11 "board_late" = true)
    (k11 : PySem.W.keepIn K (.ref f11) = true)
    (a12 : PySem.W.nsIn K mainGlobals "pedal_shape" = some (some (.ref f12)))
    (l12 : K.lookup f12 = some ⟨oc12, od12, .func (PySem.W.fnOf "pedal_shape" "pedal_shape" (defArgs s_pedal_shape) (defBody s_pedal_shape) (defScope s_pedal_shape) .none kV12 dc12 pm12 an12 cd12 ct12), sl12⟩)
    (c12 : PySem.W.codeIn K cd12 "pedal_shape" = true)
    (k12 : PySem.W.keepIn K (.ref f12) = true)
    (a13 : PySem.W.nsIn K mainGlobals "row_shape" = some (some (.ref f13)))
    (l13 : K.lookup f13 = some ⟨oc13, od13, .func (PySem.W.fnOf "row_shape" "row_shape" (defArgs s_row_shape) (defBody s_row_shape) (defScope s_row_shape) .none kV13 dc13 pm13 an13 cd13 ct13), sl13⟩)
    (c13 : PySem.W.codeIn K cd13 "row_shape" = true)
    (k13 : PySem.W.keepIn K (.ref f13) = true)
    (a14 : PySem.W.nsIn K mainGlobals "number_at" = some (some (.ref f14)))
    (l14 : K.lookup f14 = some ⟨oc14, od14, .func (PySem.W.fnOf "number_at" "number_at" (defArgs s_number_at) (defBody s_number_at) (defScope s_number_at) .none kV14 dc14 pm14 an14 cd14 ct14), sl14⟩)
    (c14 : PySem.W.codeIn K cd14 "number_at" = true)
    (k14 : PySem.W.keepIn K (.ref f14) = true)
    (a15 : PySem.W.nsIn K mainGlobals "heard_at" = some (some (.ref f15)))
    (l15 : K.lookup f15 = some ⟨oc15, od15, .func (PySem.W.fnOf "heard_at" "heard_at" (defArgs s_heard_at) (defBody s_heard_at) (defScope s_heard_at) .none kV15 dc15 pm15 an15 cd15 ct15), sl15⟩)
    (c15 : PySem.W.codeIn K cd15 "heard_at" = true)
    (k15 : PySem.W.keepIn K (.ref f15) = true)
    (a16 : PySem.W.nsIn K mainGlobals "all_heard" = some (some (.ref f16)))
    (l16 : K.lookup f16 = some ⟨oc16, od16, .func (PySem.W.fnOf "all_heard" "all_heard" (defArgs s_all_heard) (defBody s_all_heard) (defScope s_all_heard) .none kV16 dc16 pm16 an16 cd16 ct16), sl16⟩)
    (c16 : PySem.W.codeIn K cd16 "all_heard" = true)
    (k16 : PySem.W.keepIn K (.ref f16) = true)
    (a17 : PySem.W.nsIn K mainGlobals "shaped" = some (some (.ref f17)))
    (l17 : K.lookup f17 = some ⟨oc17, od17, .func (PySem.W.fnOf "shaped" "shaped" (defArgs s_shaped) (defBody s_shaped) (defScope s_shaped) .none kV17 dc17 pm17 an17 cd17 ct17), sl17⟩)
    (c17 : PySem.W.codeIn K cd17 "shaped" = true)
    (k17 : PySem.W.keepIn K (.ref f17) = true)
    (a18 : PySem.W.nsIn K mainGlobals "heard" = some (some (.ref f18)))
    (l18 : K.lookup f18 = some ⟨oc18, od18, .func (PySem.W.fnOf "heard" "heard" (defArgs s_heard) (defBody s_heard) (defScope s_heard) .none kV18 dc18 pm18 an18 cd18 ct18), sl18⟩)
    (c18 : PySem.W.codeIn K cd18 "heard" = true)
    (k18 : PySem.W.keepIn K (.ref f18) = true)
    (a19 : PySem.W.nsIn K mainGlobals "silence" = some (some (.ref f19)))
    (l19 : K.lookup f19 = some ⟨oc19, od19, .func (PySem.W.fnOf "silence" "silence" (defArgs s_silence) (defBody s_silence) (defScope s_silence) .none kV19 dc19 pm19 an19 cd19 ct19), sl19⟩)
    (c19 : PySem.W.codeIn K cd19 "silence" = true)
    (k19 : PySem.W.keepIn K (.ref f19) = true)
    (a20 : PySem.W.nsIn K mainGlobals "_law_bag" = some (some (.ref f20)))
    (l20 : K.lookup f20 = some ⟨oc20, od20, .func (PySem.W.fnOf "_law_bag" "_law_bag" (defArgs s__law_bag) (defBody s__law_bag) (defScope s__law_bag) .none kV20 dc20 pm20 an20 cd20 ct20), sl20⟩)
    (c20 : PySem.W.codeIn K cd20 "_law_bag" = true)
    (k20 : PySem.W.keepIn K (.ref f20) = true)
    (a21 : PySem.W.nsIn K mainGlobals "_law_take" = some (some (.ref f21)))
    (l21 : K.lookup f21 = some ⟨oc21, od21, .func (PySem.W.fnOf "_law_take" "_law_take" (defArgs s__law_take) (defBody s__law_take) (defScope s__law_take) .none kV21 dc21 pm21 an21 cd21 ct21), sl21⟩)
    (c21 : PySem.W.codeIn K cd21 "_law_take" = true)
    (k21 : PySem.W.keepIn K (.ref f21) = true)
    (a22 : PySem.W.nsIn K mainGlobals "_law_of" = some (some (.ref f22)))
    (l22 : K.lookup f22 = some ⟨oc22, od22, .func (PySem.W.fnOf "_law_of" "_law_of" (defArgs s__law_of) (defBody s__law_of) (defScope s__law_of) .none kV22 dc22 pm22 an22 cd22 ct22), sl22⟩)
    (c22 : PySem.W.codeIn K cd22 "_law_of" = true)
    (k22 : PySem.W.keepIn K (.ref f22) = true)
    (a23 : PySem.W.nsIn K mainGlobals "_law_pedal" = some (some (.ref f23)))
    (l23 : K.lookup f23 = some ⟨oc23, od23, .func (PySem.W.fnOf "_law_pedal" "_law_pedal" (defArgs s__law_pedal) (defBody s__law_pedal) (defScope s__law_pedal) .none kV23 dc23 pm23 an23 cd23 ct23), sl23⟩)
    (c23 : PySem.W.codeIn K cd23 "_law_pedal" = true)
    (k23 : PySem.W.keepIn K (.ref f23) = true)
    (a24 : PySem.W.nsIn K mainGlobals "_law_pedals" = some (some (.ref f24)))
    (l24 : K.lookup f24 = some ⟨oc24, od24, .func (PySem.W.fnOf "_law_pedals" "_law_pedals" (defArgs s__law_pedals) (defBody s__law_pedals) (defScope s__law_pedals) .none kV24 dc24 pm24 an24 cd24 ct24), sl24⟩)
    (c24 : PySem.W.codeIn K cd24 "_law_pedals" = true)
    (k24 : PySem.W.keepIn K (.ref f24) = true)
    (a25 : PySem.W.nsIn K mainGlobals "_law_board" = some (some (.ref f25)))
    (l25 : K.lookup f25 = some ⟨oc25, od25, .func (PySem.W.fnOf "_law_board" "_law_board" (defArgs s__law_board) (defBody s__law_board) (defScope s__law_board) .none kV25 dc25 pm25 an25 cd25 ct25), sl25⟩)
    (c25 : PySem.W.codeIn K cd25 "_law_board" = true)
    (k25 : PySem.W.keepIn K (.ref f25) = true)
    (a26 : PySem.W.nsIn K mainGlobals "_law_numbers" = some (some (.ref f26)))
    (l26 : K.lookup f26 = some ⟨oc26, od26, .func (PySem.W.fnOf "_law_numbers" "_law_numbers" (defArgs s__law_numbers) (defBody s__law_numbers) (defScope s__law_numbers) .none kV26 dc26 pm26 an26 cd26 ct26), sl26⟩)
    (c26 : PySem.W.codeIn K cd26 "_law_numbers" = true)
    (k26 : PySem.W.keepIn K (.ref f26) = true)
    (a27 : PySem.W.nsIn K mainGlobals "_law_shape" = some (some (.ref f27)))
    (l27 : K.lookup f27 = some ⟨oc27, od27, .func (PySem.W.fnOf "_law_shape" "_law_shape" (defArgs s__law_shape) (defBody s__law_shape) (defScope s__law_shape) .none kV27 dc27 pm27 an27 cd27 ct27), sl27⟩)
    (c27 : PySem.W.codeIn K cd27 "_law_shape" = true)
    (k27 : PySem.W.keepIn K (.ref f27) = true)
    (a28 : PySem.W.nsIn K mainGlobals "_law_lateness" = some (some (.ref f28)))
    (l28 : K.lookup f28 = some ⟨oc28, od28, .func (PySem.W.fnOf "_law_lateness" "_law_lateness" (defArgs s__law_lateness) (defBody s__law_lateness) (defScope s__law_lateness) .none kV28 dc28 pm28 an28 cd28 ct28), sl28⟩)
    (c28 : PySem.W.codeIn K cd28 "_law_lateness" = true)
    (k28 : PySem.W.keepIn K (.ref f28) = true)
    (a29 : PySem.W.nsIn K mainGlobals "_law_heard" = some (some (.ref f29)))
    (l29 : K.lookup f29 = some ⟨oc29, od29, .func (PySem.W.fnOf "_law_heard" "_law_heard" (defArgs s__law_heard) (defBody s__law_heard) (defScope s__law_heard) .none kV29 dc29 pm29 an29 cd29 ct29), sl29⟩)
    (c29 : PySem.W.codeIn K cd29 "_law_heard" = true)
    (k29 : PySem.W.keepIn K (.ref f29) = true)
    (a30 : PySem.W.nsIn K mainGlobals "law" = some (some (.ref f30)))
    (l30 : K.lookup f30 = some ⟨oc30, od30, .func (PySem.W.fnOf "law" "law" (defArgs s_law) (defBody s_law) (defScope s_law) .none kV30 dc30 pm30 an30 cd30 ct30), sl30⟩)
    (c30 : PySem.W.codeIn K cd30 "law" = true)
    (k30 : PySem.W.keepIn K (.ref f30) = true)
    (z_abs : PySem.W.nsIn K mainGlobals "abs" = some none)
    (z_all : PySem.W.nsIn K mainGlobals "all" = some none)
    (z_bool : PySem.W.nsIn K mainGlobals "bool" = some none)
    (z_int : PySem.W.nsIn K mainGlobals "int" = some none)
    (z_isinstance : PySem.W.nsIn K mainGlobals "isinstance" = some none)
    (z_len : PySem.W.nsIn K mainGlobals "len" = some none)
    (z_list : PySem.W.nsIn K mainGlobals "list" = some none)
    (z_max : PySem.W.nsIn K mainGlobals "max" = some none)
    (z_min : PySem.W.nsIn K mainGlobals "min" = some none)
    (z_range : PySem.W.nsIn K mainGlobals "range" = some none)
    (z_str : PySem.W.nsIn K mainGlobals "str" = some none)
    (z_sum : PySem.W.nsIn K mainGlobals "sum" = some none)
    (z_tuple : PySem.W.nsIn K mainGlobals "tuple" = some none)
    (y_CUT : PySem.W.nsIn K mainGlobals "CUT" = some (some q_CUT))
    (e_CUT : ∃ t, q_CUT = .str "cut" t)
    (y_FOLD : PySem.W.nsIn K mainGlobals "FOLD" = some (some q_FOLD))
    (e_FOLD : ∃ t, q_FOLD = .str "fold" t)
    (y_GATE : PySem.W.nsIn K mainGlobals "GATE" = some (some q_GATE))
    (e_GATE : ∃ t, q_GATE = .str "gate" t)
    (y_LATE : PySem.W.nsIn K mainGlobals "LATE" = some (some q_LATE))
    (e_LATE : ∃ t, q_LATE = .str "late" t)
    (y_LIFT : PySem.W.nsIn K mainGlobals "LIFT" = some (some q_LIFT))
    (e_LIFT : ∃ t, q_LIFT = .str "lift" t)
    (y_LOUDER : PySem.W.nsIn K mainGlobals "LOUDER" = some (some q_LOUDER))
    (e_LOUDER : ∃ t, q_LOUDER = .str "louder" t)
    (y_MOST_NUMBERS : PySem.W.nsIn K mainGlobals "MOST_NUMBERS" = some (some q_MOST_NUMBERS))
    (e_MOST_NUMBERS : ∃ t, q_MOST_NUMBERS = .int 40 t)
    (y_MOST_PEDALS : PySem.W.nsIn K mainGlobals "MOST_PEDALS" = some (some q_MOST_PEDALS))
    (e_MOST_PEDALS : ∃ t, q_MOST_PEDALS = .int 6 t)
    (y_MOST_ROWS : PySem.W.nsIn K mainGlobals "MOST_ROWS" = some (some q_MOST_ROWS))
    (e_MOST_ROWS : ∃ t, q_MOST_ROWS = .int 3 t)
    (y_STEPS : PySem.W.nsIn K mainGlobals "STEPS" = some (some q_STEPS))
    (e_STEPS : ∃ t, q_STEPS = .str "steps" t)
    (y_TURN : PySem.W.nsIn K mainGlobals "TURN" = some (some q_TURN))
    (e_TURN : ∃ t, q_TURN = .str "turn" t)
    (y_BOUNDS : PySem.W.nsIn K mainGlobals "BOUNDS" = some (some (.ref a_BOUNDS)))
    (l_BOUNDS : K.lookup a_BOUNDS = some ⟨c_BOUNDS, dd_BOUNDS, .dict i_BOUNDS n_BOUNDS, sl_BOUNDS⟩)
    (cc_BOUNDS : c_BOUNDS = .type "dict")
    (cd_BOUNDS : dd_BOUNDS = none)
    (cs_BOUNDS : sl_BOUNDS = #[])
    (cy_BOUNDS : (a_BOUNDS == sysModules) = false)
    (ce_BOUNDS : TabE K w.params i_BOUNDS.toList v_BOUNDS)
    (y_PLAIN : PySem.W.nsIn K mainGlobals "PLAIN" = some (some (.ref a_PLAIN)))
    (l_PLAIN : K.lookup a_PLAIN = some ⟨c_PLAIN, dd_PLAIN, .seq i_PLAIN n_PLAIN, sl_PLAIN⟩)
    (cc_PLAIN : c_PLAIN = .type "tuple")
    (cz_PLAIN : i_PLAIN.size ≤ sizeLine)
    (cv_PLAIN : ValS i_PLAIN.toList ["turn", "fold"])
    : ∃ fd : FuncData, (∀ (s : Shared) (u : Value), BindsTo s fd ⟨[u], []⟩ [("script", u)]) ∧ ∀ base : Heap, K.In base → base.Ns mainGlobals mg → FnOk P w K mg base CX0 7 fa fd ["script"] (spD K 1 fun ws μ => noex (g_law_2 ws μ)) := by
  have T : Txt K w mg a_BOUNDS a_PLAIN := ⟨PySem.W.mg_none_of X G z_abs, PySem.W.mg_none_of X G z_all, PySem.W.mg_none_of X G z_bool, PySem.W.mg_none_of X G z_int, PySem.W.mg_none_of X G z_isinstance, PySem.W.mg_none_of X G z_len, PySem.W.mg_none_of X G z_list, PySem.W.mg_none_of X G z_max, PySem.W.mg_none_of X G z_min, PySem.W.mg_none_of X G z_range, PySem.W.mg_none_of X G z_str, PySem.W.mg_none_of X G z_sum, PySem.W.mg_none_of X G z_tuple, globS_mk X G y_CUT e_CUT, globS_mk X G y_FOLD e_FOLD, globS_mk X G y_GATE e_GATE, globS_mk X G y_LATE e_LATE, globS_mk X G y_LIFT e_LIFT, globS_mk X G y_LOUDER e_LOUDER, globI_mk X G y_MOST_NUMBERS e_MOST_NUMBERS, globI_mk X G y_MOST_PEDALS e_MOST_PEDALS, globI_mk X G y_MOST_ROWS e_MOST_ROWS, globS_mk X G y_STEPS e_STEPS, globS_mk X G y_TURN e_TURN, ktab_mk l_BOUNDS cc_BOUNDS cd_BOUNDS cs_BOUNDS cy_BOUNDS ce_BOUNDS, PySem.W.mg_of X G y_BOUNDS, ktupS_mk l_PLAIN cc_PLAIN cz_PLAIN cv_PLAIN, PySem.W.mg_of X G y_PLAIN⟩
  have D_is_number : DefAt K mg "is_number" s_is_number ["value"] := defAt_mk X G a0 l0 c0 k0 fun _ _ _ _ _ _ us hl => match us, hl with | [_], _ => rfl
  have D_is_pedal : DefAt K mg "is_pedal" s_is_pedal ["value"] := defAt_mk X G a1 l1 c1 k1 fun _ _ _ _ _ _ us hl => match us, hl with | [_], _ => rfl
  have D_is_row : DefAt K mg "is_row" s_is_row ["value"] := defAt_mk X G a2 l2 c2 k2 fun _ _ _ _ _ _ us hl => match us, hl with | [_], _ => rfl
  have D_is_board : DefAt K mg "is_board" s_is_board ["value"] := defAt_mk X G a3 l3 c3 k3 fun _ _ _ _ _ _ us hl => match us, hl with | [_], _ => rfl
  have D_are_numbers : DefAt K mg "are_numbers" s_are_numbers ["value"] := defAt_mk X G a4 l4 c4 k4 fun _ _ _ _ _ _ us hl => match us, hl with | [_], _ => rfl
  have D_is_sound : DefAt K mg "is_sound" s_is_sound ["value"] := defAt_mk X G a5 l5 c5 k5 fun _ _ _ _ _ _ us hl => match us, hl with | [_], _ => rfl
  have D_need_row : DefAt K mg "need_row" s_need_row ["value"] := defAt_mk X G a6 l6 c6 k6 fun _ _ _ _ _ _ us hl => match us, hl with | [_], _ => rfl
  have D_need_board : DefAt K mg "need_board" s_need_board ["value"] := defAt_mk X G a7 l7 c7 k7 fun _ _ _ _ _ _ us hl => match us, hl with | [_], _ => rfl
  have D_need_sound : DefAt K mg "need_sound" s_need_sound ["value"] := defAt_mk X G a8 l8 c8 k8 fun _ _ _ _ _ _ us hl => match us, hl with | [_], _ => rfl
  have D_need_number : DefAt K mg "need_number" s_need_number ["value"] := defAt_mk X G a9 l9 c9 k9 fun _ _ _ _ _ _ us hl => match us, hl with | [_], _ => rfl
  have D_late_of : DefAt K mg "late_of" s_late_of ["row"] := defAt_mk X G a10 l10 c10 k10 fun _ _ _ _ _ _ us hl => match us, hl with | [_], _ => rfl
  have D_board_late : DefAt K mg "board_late" s_board_late ["board"] := defAt_mk X G a11 l11 c11 k11 fun _ _ _ _ _ _ us hl => match us, hl with | [_], _ => rfl
  have D_pedal_shape : DefAt K mg "pedal_shape" s_pedal_shape ["pedal", "number"] := defAt_mk X G a12 l12 c12 k12 fun _ _ _ _ _ _ us hl => match us, hl with | [_, _], _ => rfl
  have D_row_shape : DefAt K mg "row_shape" s_row_shape ["row", "number"] := defAt_mk X G a13 l13 c13 k13 fun _ _ _ _ _ _ us hl => match us, hl with | [_, _], _ => rfl
  have D_number_at : DefAt K mg "number_at" s_number_at ["sound", "tick"] := defAt_mk X G a14 l14 c14 k14 fun _ _ _ _ _ _ us hl => match us, hl with | [_, _], _ => rfl
  have D_heard_at : DefAt K mg "heard_at" s_heard_at ["board", "sound", "tick"] := defAt_mk X G a15 l15 c15 k15 fun _ _ _ _ _ _ us hl => match us, hl with | [_, _, _], _ => rfl
  have D_all_heard : DefAt K mg "all_heard" s_all_heard ["board", "sound"] := defAt_mk X G a16 l16 c16 k16 fun _ _ _ _ _ _ us hl => match us, hl with | [_, _], _ => rfl
  have D_shaped : DefAt K mg "shaped" s_shaped ["row", "number"] := defAt_mk X G a17 l17 c17 k17 fun _ _ _ _ _ _ us hl => match us, hl with | [_, _], _ => rfl
  have D_heard : DefAt K mg "heard" s_heard ["board", "sound"] := defAt_mk X G a18 l18 c18 k18 fun _ _ _ _ _ _ us hl => match us, hl with | [_, _], _ => rfl
  have D_silence : DefAt K mg "silence" s_silence ["board"] := defAt_mk X G a19 l19 c19 k19 fun _ _ _ _ _ _ us hl => match us, hl with | [_], _ => rfl
  have D__law_bag : DefAt K mg "_law_bag" s__law_bag ["script", "k"] := defAt_mk X G a20 l20 c20 k20 fun _ _ _ _ _ _ us hl => match us, hl with | [_, _], _ => rfl
  have D__law_take : DefAt K mg "_law_take" s__law_take ["bag", "many"] := defAt_mk X G a21 l21 c21 k21 fun _ _ _ _ _ _ us hl => match us, hl with | [_, _], _ => rfl
  have D__law_of : DefAt K mg "_law_of" s__law_of ["bag", "some"] := defAt_mk X G a22 l22 c22 k22 fun _ _ _ _ _ _ us hl => match us, hl with | [_, _], _ => rfl
  have D__law_pedal : DefAt K mg "_law_pedal" s__law_pedal ["bag", "lates"] := defAt_mk X G a23 l23 c23 k23 fun _ _ _ _ _ _ us hl => match us, hl with | [_, _], _ => rfl
  have D__law_pedals : DefAt K mg "_law_pedals" s__law_pedals ["bag", "most", "lates"] := defAt_mk X G a24 l24 c24 k24 fun _ _ _ _ _ _ us hl => match us, hl with | [_, _, _], _ => rfl
  have D__law_board : DefAt K mg "_law_board" s__law_board ["bag", "most"] := defAt_mk X G a25 l25 c25 k25 fun _ _ _ _ _ _ us hl => match us, hl with | [_, _], _ => rfl
  have D__law_numbers : DefAt K mg "_law_numbers" s__law_numbers ["bag", "most"] := defAt_mk X G a26 l26 c26 k26 fun _ _ _ _ _ _ us hl => match us, hl with | [_, _], _ => rfl
  have D__law_shape : DefAt K mg "_law_shape" s__law_shape ["row", "number"] := defAt_mk X G a27 l27 c27 k27 fun _ _ _ _ _ _ us hl => match us, hl with | [_, _], _ => rfl
  have D__law_lateness : DefAt K mg "_law_lateness" s__law_lateness ["row"] := defAt_mk X G a28 l28 c28 k28 fun _ _ _ _ _ _ us hl => match us, hl with | [_], _ => rfl
  have D__law_heard : DefAt K mg "_law_heard" s__law_heard ["board", "sound"] := defAt_mk X G a29 l29 c29 k29 fun _ _ _ _ _ _ us hl => match us, hl with | [_, _], _ => rfl
  refine law_fd hfa X G a30 l30 c30 k30 (fun _ _ _ _ _ _ _ => rfl) fun base hX hG f fd FL => ?_
  have O_is_number : OkAt P w K mg base 1 "is_number" ["value"] 1 g_is_number := ok_is_number T D_is_number 
  have O_is_pedal : OkAt P w K mg base 2 "is_pedal" ["value"] 1 g_is_pedal := ok_is_pedal T D_is_pedal O_is_number
  have O_is_row : OkAt P w K mg base 3 "is_row" ["value"] 1 g_is_row := ok_is_row T D_is_row O_is_pedal
  have O_is_board : OkAt P w K mg base 4 "is_board" ["value"] 1 g_is_board := ok_is_board T D_is_board O_is_row
  have O_are_numbers : OkAt P w K mg base 2 "are_numbers" ["value"] 1 g_are_numbers := ok_are_numbers T D_are_numbers O_is_number
  have O_is_sound : OkAt P w K mg base 3 "is_sound" ["value"] 1 g_is_sound := ok_is_sound T D_is_sound O_are_numbers
  have O_need_row : OkAt P w K mg base 4 "need_row" ["value"] 1 g_need_row := ok_need_row T D_need_row O_is_row
  have O_need_board : OkAt P w K mg base 5 "need_board" ["value"] 1 g_need_board := ok_need_board T D_need_board O_is_board
  have O_need_sound : OkAt P w K mg base 4 "need_sound" ["value"] 1 g_need_sound := ok_need_sound T D_need_sound O_is_sound
  have O_need_number : OkAt P w K mg base 2 "need_number" ["value"] 1 g_need_number := ok_need_number T D_need_number O_is_number
  have O_late_of : OkAt P w K mg base 1 "late_of" ["row"] 1 g_late_of := ok_late_of T D_late_of 
  have O_board_late : OkAt P w K mg base 2 "board_late" ["board"] 1 g_board_late := ok_board_late T D_board_late O_late_of
  have O_pedal_shape : OkAt P w K mg base 1 "pedal_shape" ["pedal", "number"] 2 g_pedal_shape := ok_pedal_shape T D_pedal_shape 
  have O_row_shape : OkAt P w K mg base 2 "row_shape" ["row", "number"] 2 g_row_shape := ok_row_shape T D_row_shape O_pedal_shape
  have O_number_at : OkAt P w K mg base 1 "number_at" ["sound", "tick"] 2 g_number_at := ok_number_at T D_number_at 
  have O_heard_at : OkAt P w K mg base 3 "heard_at" ["board", "sound", "tick"] 3 g_heard_at := ok_heard_at T D_heard_at O_late_of O_number_at O_row_shape
  have O_all_heard : OkAt P w K mg base 4 "all_heard" ["board", "sound"] 2 g_all_heard := ok_all_heard T D_all_heard O_board_late O_heard_at
  have O_shaped : OkAt P w K mg base 5 "shaped" ["row", "number"] 2 g_shaped := ok_shaped T D_shaped O_need_number O_need_row O_row_shape
  have O_heard : OkAt P w K mg base 6 "heard" ["board", "sound"] 2 g_heard := ok_heard T D_heard O_all_heard O_need_board O_need_sound
  have O_silence : OkAt P w K mg base 6 "silence" ["board"] 1 g_silence := ok_silence T D_silence O_heard_at O_need_board
  have O__law_bag : OkAt P w K mg base 1 "_law_bag" ["script", "k"] 2 g__law_bag := ok__law_bag T D__law_bag 
  have O__law_take : OkAt P w K mg base 1 "_law_take" ["bag", "many"] 2 g__law_take := ok__law_take T D__law_take 
  have O__law_of : OkAt P w K mg base 2 "_law_of" ["bag", "some"] 2 g__law_of := ok__law_of T D__law_of O__law_take
  have O__law_pedal : OkAt P w K mg base 3 "_law_pedal" ["bag", "lates"] 2 g__law_pedal := ok__law_pedal T D__law_pedal O__law_of O__law_take
  have O__law_pedals : OkAt P w K mg base 4 "_law_pedals" ["bag", "most", "lates"] 3 g__law_pedals := ok__law_pedals T D__law_pedals O__law_pedal O__law_take
  have O__law_board : OkAt P w K mg base 5 "_law_board" ["bag", "most"] 2 g__law_board := ok__law_board T D__law_board O__law_of O__law_pedals
  have O__law_numbers : OkAt P w K mg base 3 "_law_numbers" ["bag", "most"] 2 g__law_numbers := ok__law_numbers T D__law_numbers O__law_of O__law_take
  have O__law_shape : OkAt P w K mg base 1 "_law_shape" ["row", "number"] 2 g__law_shape := ok__law_shape T D__law_shape 
  have O__law_lateness : OkAt P w K mg base 1 "_law_lateness" ["row"] 1 g__law_lateness := ok__law_lateness T D__law_lateness 
  have O__law_heard : OkAt P w K mg base 2 "_law_heard" ["board", "sound"] 2 g__law_heard := ok__law_heard T D__law_heard O__law_lateness O__law_shape
  exact ok_law T O__law_bag O__law_board O__law_heard O__law_numbers O__law_shape O_heard O_shaped O_silence FL
end W02


open PySem PySem.W PyProof.Rows
set_option maxRecDepth 100000 in
set_option maxHeartbeats 0 in
theorem PySem.Challenge.cw_pedalrows_k02_whole_what_is_shaped_and_h_holds : PySem.Challenge.rw_pedalrows_k02_whole_what_is_shaped_and_h.Holds := by
  w_on; o_law; k_head; (case hw => w_witness2)
  k_fill
  refine Ped.walk (l := PySem.Challenge.rw_pedalrows_k02_whole_what_is_shaped_and_h) (k := 7) (g := Ped.g_law_2) rfl rfl ⟨rfl, by decide, by decide⟩ (fun w h Y => PySem.W.kIn_of Y) (fun ns _ _ => Ped.law02 ns) ?F
  case F =>
    intro w mg fa h KX G hmg
    refine' W02.all_mk KX G hmg ?a0 ?l0 ?c0 ?k0 ?a1 ?l1 ?c1 ?k1 ?a2 ?l2 ?c2 ?k2 ?a3 ?l3 ?c3 ?k3 ?a4 ?l4 ?c4 ?k4 ?a5 ?l5 ?c5 ?k5 ?a6 ?l6 ?c6 ?k6 ?a7 ?l7 ?c7 ?k7 ?a8 ?l8 ?c8 ?k8 ?a9 ?l9 ?c9 ?k9 ?a10 ?l10 ?c10 ?k10 ?a11 ?l11 ?c11 ?k11 ?a12 ?l12 ?c12 ?k12 ?a13 ?l13 ?c13 ?k13 ?a14 ?l14 ?c14 ?k14 ?a15 ?l15 ?c15 ?k15 ?a16 ?l16 ?c16 ?k16 ?a17 ?l17 ?c17 ?k17 ?a18 ?l18 ?c18 ?k18 ?a19 ?l19 ?c19 ?k19 ?a20 ?l20 ?c20 ?k20 ?a21 ?l21 ?c21 ?k21 ?a22 ?l22 ?c22 ?k22 ?a23 ?l23 ?c23 ?k23 ?a24 ?l24 ?c24 ?k24 ?a25 ?l25 ?c25 ?k25 ?a26 ?l26 ?c26 ?k26 ?a27 ?l27 ?c27 ?k27 ?a28 ?l28 ?c28 ?k28 ?a29 ?l29 ?c29 ?k29 ?a30 ?l30 ?c30 ?k30 ?z_abs ?z_all ?z_bool ?z_int ?z_isinstance ?z_len ?z_list ?z_max ?z_min ?z_range ?z_str ?z_sum ?z_tuple ?y_CUT ?e_CUT ?y_FOLD ?e_FOLD ?y_GATE ?e_GATE ?y_LATE ?e_LATE ?y_LIFT ?e_LIFT ?y_LOUDER ?e_LOUDER ?y_MOST_NUMBERS ?e_MOST_NUMBERS ?y_MOST_PEDALS ?e_MOST_PEDALS ?y_MOST_ROWS ?e_MOST_ROWS ?y_STEPS ?e_STEPS ?y_TURN ?e_TURN ?y_BOUNDS ?l_BOUNDS ?cc_BOUNDS ?cd_BOUNDS ?cs_BOUNDS ?cy_BOUNDS ?ce_BOUNDS ?y_PLAIN ?l_PLAIN ?cc_PLAIN ?cz_PLAIN ?cv_PLAIN
    (case a0 => k_is)
    (case l0 => k_is)
    (case c0 => k_is)
    (case k0 => k_is)
    (case a1 => k_is)
    (case l1 => k_is)
    (case c1 => k_is)
    (case k1 => k_is)
    (case a2 => k_is)
    (case l2 => k_is)
    (case c2 => k_is)
    (case k2 => k_is)
    (case a3 => k_is)
    (case l3 => k_is)
    (case c3 => k_is)
    (case k3 => k_is)
    (case a4 => k_is)
    (case l4 => k_is)
    (case c4 => k_is)
    (case k4 => k_is)
    (case a5 => k_is)
    (case l5 => k_is)
    (case c5 => k_is)
    (case k5 => k_is)
    (case a6 => k_is)
    (case l6 => k_is)
    (case c6 => k_is)
    (case k6 => k_is)
    (case a7 => k_is)
    (case l7 => k_is)
    (case c7 => k_is)
    (case k7 => k_is)
    (case a8 => k_is)
    (case l8 => k_is)
    (case c8 => k_is)
    (case k8 => k_is)
    (case a9 => k_is)
    (case l9 => k_is)
    (case c9 => k_is)
    (case k9 => k_is)
    (case a10 => k_is)
    (case l10 => k_is)
    (case c10 => k_is)
    (case k10 => k_is)
    (case a11 => k_is)
    (case l11 => k_is)
    (case c11 => k_is)
    (case k11 => k_is)
    (case a12 => k_is)
    (case l12 => k_is)
    (case c12 => k_is)
    (case k12 => k_is)
    (case a13 => k_is)
    (case l13 => k_is)
    (case c13 => k_is)
    (case k13 => k_is)
    (case a14 => k_is)
    (case l14 => k_is)
    (case c14 => k_is)
    (case k14 => k_is)
    (case a15 => k_is)
    (case l15 => k_is)
    (case c15 => k_is)
    (case k15 => k_is)
    (case a16 => k_is)
    (case l16 => k_is)
    (case c16 => k_is)
    (case k16 => k_is)
    (case a17 => k_is)
    (case l17 => k_is)
    (case c17 => k_is)
    (case k17 => k_is)
    (case a18 => k_is)
    (case l18 => k_is)
    (case c18 => k_is)
    (case k18 => k_is)
    (case a19 => k_is)
    (case l19 => k_is)
    (case c19 => k_is)
    (case k19 => k_is)
    (case a20 => k_is)
    (case l20 => k_is)
    (case c20 => k_is)
    (case k20 => k_is)
    (case a21 => k_is)
    (case l21 => k_is)
    (case c21 => k_is)
    (case k21 => k_is)
    (case a22 => k_is)
    (case l22 => k_is)
    (case c22 => k_is)
    (case k22 => k_is)
    (case a23 => k_is)
    (case l23 => k_is)
    (case c23 => k_is)
    (case k23 => k_is)
    (case a24 => k_is)
    (case l24 => k_is)
    (case c24 => k_is)
    (case k24 => k_is)
    (case a25 => k_is)
    (case l25 => k_is)
    (case c25 => k_is)
    (case k25 => k_is)
    (case a26 => k_is)
    (case l26 => k_is)
    (case c26 => k_is)
    (case k26 => k_is)
    (case a27 => k_is)
    (case l27 => k_is)
    (case c27 => k_is)
    (case k27 => k_is)
    (case a28 => k_is)
    (case l28 => k_is)
    (case c28 => k_is)
    (case k28 => k_is)
    (case a29 => k_is)
    (case l29 => k_is)
    (case c29 => k_is)
    (case k29 => k_is)
    (case a30 => k_is)
    (case l30 => k_is)
    (case c30 => k_is)
    (case k30 => k_is)
    (case z_abs => k_is)
    (case z_all => k_is)
    (case z_bool => k_is)
    (case z_int => k_is)
    (case z_isinstance => k_is)
    (case z_len => k_is)
    (case z_list => k_is)
    (case z_max => k_is)
    (case z_min => k_is)
    (case z_range => k_is)
    (case z_str => k_is)
    (case z_sum => k_is)
    (case z_tuple => k_is)
    (case y_CUT => k_is)
    (case e_CUT => exact ⟨_, rfl⟩)
    (case y_FOLD => k_is)
    (case e_FOLD => exact ⟨_, rfl⟩)
    (case y_GATE => k_is)
    (case e_GATE => exact ⟨_, rfl⟩)
    (case y_LATE => k_is)
    (case e_LATE => exact ⟨_, rfl⟩)
    (case y_LIFT => k_is)
    (case e_LIFT => exact ⟨_, rfl⟩)
    (case y_LOUDER => k_is)
    (case e_LOUDER => exact ⟨_, rfl⟩)
    (case y_MOST_NUMBERS => k_is)
    (case e_MOST_NUMBERS => exact ⟨_, rfl⟩)
    (case y_MOST_PEDALS => k_is)
    (case e_MOST_PEDALS => exact ⟨_, rfl⟩)
    (case y_MOST_ROWS => k_is)
    (case e_MOST_ROWS => exact ⟨_, rfl⟩)
    (case y_STEPS => k_is)
    (case e_STEPS => exact ⟨_, rfl⟩)
    (case y_TURN => k_is)
    (case e_TURN => exact ⟨_, rfl⟩)
    (case y_BOUNDS => k_is)
    (case l_BOUNDS => k_is)
    (case cc_BOUNDS => exact rfl)
    (case cd_BOUNDS => exact rfl)
    (case cs_BOUNDS => exact rfl)
    (case cy_BOUNDS => decide)
    (case ce_BOUNDS => repeat (first | exact .nil | refine .cons rfl (by k_is) rfl (by show _ ≤ _; rw [sizeLine_eq]; decide) (.cons ⟨_, rfl⟩ (.cons ⟨_, rfl⟩ .nil)) ?_))
    (case y_PLAIN => k_is)
    (case l_PLAIN => k_is)
    (case cc_PLAIN => exact rfl)
    (case cz_PLAIN => show _ ≤ _; rw [sizeLine_eq]; decide)
    (case cv_PLAIN => exact .cons (.cons (.nil)))
