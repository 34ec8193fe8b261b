import PyProof.Rows.All
import Wide.All
import OpenK.AllK
import Wide.FinOn
import PyProof.ListOps
import PyProof.CompFree
import PyProof.Cells
import PyProof.DictWalks
import PyProof.Rows.News
import PyProof.DictKinds
import PyProof.DictStraight
import PyProof.Rows.NameDeclared
import PyProof.Rules2
import PyProof.Rules3
import PyProof.PureInt
import PyProof.Rows.IntRules
import PyProof.Rows.RuleB_mod
import PyProof.NeData
import PyProof.P3In
import PyProof.TupleOps
import PyProof.NoPylong
import PyProof.Rows.RuleB_floordiv
import PyProof.Rows.RuleB_small
import PyProof.RulesAssignMore
import PyProof.EvalArms
import PyProof.TupleIter
import PyProof.Raises
import PyProof.Rows.TupAssign
import KE.KTurns
import PyProof.CompMap
import PyProof.WalksMore
import PyProof.RangeFor
import PyProof.EnumMake
import PyProof.WalksEnum
import PyProof.CallType
import PyProof.CompUse
import PyProof.PlainList
import PyProof.ListCopy
import PyProof.ConsumeWalk
import PyProof.ListRange
import PyProof.Rows.SortWalk
import PyProof.Rows.TupSub
import PyProof.IsiHeapPairs
import PyProof.IsiPairs
import PyProof.Rows.DictMade
import KE.KDictSum
import PyProof.SetRoads
import PyProof.Rows.SetFrom
import KE.RegLcTurns
import KE.KEqDat
import PySem.Challenge.RW_uf020008_01
set_option Elab.async false
set_option linter.unusedVariables false
set_option linter.unusedSimpArgs false
set_option maxRecDepth 100000
set_option maxHeartbeats 8000000
namespace Mine
open PySem PySem.Spec

inductive AV where
  | none
  | bool (b : Bool)
  | int (i : Int)
  | str (s : String)
  | tup (xs : List AV)
  | lst (xs : List AV)
  | emp
  | inst (c : Addr) (fs : List (String × AV))
  | ref (a : Addr)


inductive AO where
  | list (xs : List AV)
  | dict (es : List (Int × AV))


abbrev Own := List (Addr × AO)
abbrev Fz := Addr → Option Obj
abbrev addrs (own : Own) : List Addr := own.map (·.1)

abbrev sq (T : String) (vs : List Value) (n : Nat) : Obj := { cls := .type T, data := .seq vs.toArray n }
abbrev dq (es : List DictEntry) (n : Nat) : Obj := { cls := .type "dict", data := .dict es.toArray n }

mutual
noncomputable def RelV (f : Fz) : AV → Value → Prop
  | .none, v => v = .none
  | .bool b, v => v = .bool b
  | .int i, v => ∃ t, v = .int i t
  | .str s, v => ∃ t, v = .str (Str.ofString s) t
  | .tup xs, v => ∃ a vs n, v = .ref a ∧ f a = some (sq "tuple" vs n) ∧ RelVs f xs vs
  | .lst xs, v => ∃ a vs n, v = .ref a ∧ f a = some (sq "list" vs n) ∧ RelVs f xs vs
  | .emp, v => ∃ a n, v = .ref a ∧ f a = some (dq [] n)
  | .inst c fs, v => ∃ a d es n, v = .ref a ∧ f a = some ⟨.ref c, some d, .plain, #[]⟩ ∧ f d = some (dq es n) ∧ RelF f fs es
  | .ref a, v => v = .ref a
noncomputable def RelVs (f : Fz) : List AV → List Value → Prop
  | [], vs => vs = []
  | x :: xs, vs => ∃ v r, vs = v :: r ∧ RelV f x v ∧ RelVs f xs r
noncomputable def RelF (f : Fz) : List (String × AV) → List DictEntry → Prop
  | [], es => es = []
  | (n, x) :: fs, es => ∃ e r, es = e :: r ∧ (∃ t, e.key = .str (Str.ofString n) t) ∧ RelV f x e.val ∧ RelF f fs r
end

noncomputable def Fz.le (f g : Fz) : Prop := ∀ b o, f b = some o → g b = some o
theorem Fz.le.refl (f : Fz) : f.le f := fun _ _ h => h
theorem Fz.le.trans {f g h : Fz} (a : f.le g) (b : g.le h) : f.le h := fun _ _ x => b _ _ (a _ _ x)

mutual
theorem RelV.mono {f g : Fz} (hm : f.le g) : ∀ (x : AV) (v : Value), RelV f x v → RelV g x v
  | .none, _, h => by simpa [RelV] using h
  | .bool _, _, h => by simpa [RelV] using h
  | .int _, _, h => by simpa [RelV] using h
  | .str _, _, h => by simpa [RelV] using h
  | .tup xs, _, h => by
    simp only [RelV] at h ⊢
    obtain ⟨a, vs, n, e, ha, hr⟩ := h
    exact ⟨a, vs, n, e, hm _ _ ha, RelVs.mono hm xs vs hr⟩
  | .lst xs, _, h => by
    simp only [RelV] at h ⊢
    obtain ⟨a, vs, n, e, ha, hr⟩ := h
    exact ⟨a, vs, n, e, hm _ _ ha, RelVs.mono hm xs vs hr⟩
  | .emp, _, h => by
    simp only [RelV] at h ⊢
    obtain ⟨a, n, e, ha⟩ := h
    exact ⟨a, n, e, hm _ _ ha⟩
  | .inst c fs, _, h => by
    simp only [RelV] at h ⊢
    obtain ⟨a, d, es, n, e, ha, hd, hr⟩ := h
    exact ⟨a, d, es, n, e, hm _ _ ha, hm _ _ hd, RelF.mono hm fs es hr⟩
  | .ref _, _, h => by simpa [RelV] using h
theorem RelVs.mono {f g : Fz} (hm : f.le g) : ∀ (xs : List AV) (vs : List Value), RelVs f xs vs → RelVs g xs vs
  | [], _, h => by simpa [RelVs] using h
  | x :: xs, _, h => by
    simp only [RelVs] at h ⊢
    obtain ⟨v, r, e, hv, hr⟩ := h
    exact ⟨v, r, e, RelV.mono hm x v hv, RelVs.mono hm xs r hr⟩
theorem RelF.mono {f g : Fz} (hm : f.le g) : ∀ (xs : List (String × AV)) (vs : List DictEntry), RelF f xs vs → RelF g xs vs
  | [], _, h => by simpa [RelF] using h
  | (n, x) :: xs, _, h => by
    simp only [RelF] at h ⊢
    obtain ⟨v, r, e, hk, hv, hr⟩ := h
    exact ⟨v, r, e, hk, RelV.mono hm x _ hv, RelF.mono hm xs r hr⟩
end

theorem RelVs.length {f : Fz} : ∀ {xs : List AV} {vs : List Value}, RelVs f xs vs → vs.length = xs.length
  | [], _, h => by simp only [RelVs] at h; simp [h]
  | x :: xs, _, h => by
    simp only [RelVs] at h
    obtain ⟨v, r, rfl, _, hr⟩ := h
    simp [RelVs.length hr]
theorem RelVs.nil {f : Fz} : RelVs f [] [] := by simp [RelVs]
theorem RelVs.cons {f : Fz} {x : AV} {xs : List AV} {v : Value} {vs : List Value} (h : RelV f x v) (r : RelVs f xs vs) : RelVs f (x :: xs) (v :: vs) := by
  simp only [RelVs]; exact ⟨v, vs, rfl, h, r⟩
theorem RelVs.get {f : Fz} : ∀ {xs : List AV} {vs : List Value}, RelVs f xs vs → ∀ (i : Nat) (x : AV), xs[i]? = some x → ∃ v, vs[i]? = some v ∧ RelV f x v
  | [], _, _, _, _, hi => by simp at hi
  | y :: xs, _, h, i, x, hi => by
    simp only [RelVs] at h
    obtain ⟨v, r, rfl, hv, hr⟩ := h
    cases i with
    | zero => simp at hi; subst hi; exact ⟨v, by simp, hv⟩
    | succ i => simpa using RelVs.get hr i x (by simpa using hi)
theorem RelVs.append {f : Fz} : ∀ {xs ys : List AV} {vs ws : List Value}, RelVs f xs vs → RelVs f ys ws → RelVs f (xs ++ ys) (vs ++ ws)
  | [], _, _, _, h, k => by simp only [RelVs] at h; subst h; simpa using k
  | x :: xs, _, _, _, h, k => by
    simp only [RelVs] at h
    obtain ⟨v, r, rfl, hv, hr⟩ := h
    exact RelVs.cons hv (RelVs.append hr k)
end Mine

namespace Mine
open PySem PySem.Spec

structure Amb where
  prog : Program
  w : World
  s0 : Shared
  mg : Str → Option Value
  mb : Str → Option Value

abbrev Amb.M (B : Amb) : Model := model B.prog B.w

noncomputable def RelO (B : Amb) (f : Fz) : AO → Obj → Prop
  | .list xs, o => ∃ vs n, o = sq "list" vs n ∧ RelVs f xs vs
  | .dict es, o => ∃ kvs : List (Int × Value), o.IsDictOf (intKind B.prog B.w) kvs ∧ kvs.map (·.1) = es.map (·.1) ∧ RelVs f (es.map (·.2)) (kvs.map (·.2))

theorem RelO.mono {B : Amb} {f g : Fz} (hm : f.le g) {x : AO} {o : Obj} (h : RelO B f x o) : RelO B g x o := by
  cases x with
  | list xs => obtain ⟨vs, n, e, hr⟩ := h; exact ⟨vs, n, e, hr.mono hm⟩
  | dict es => obtain ⟨kvs, e, hk, hr⟩ := h; exact ⟨kvs, e, hk, hr.mono hm⟩

structure Inv (B : Amb) (f : Fz) (own : Own) (s : Shared) : Prop where
  same : ∃ h tk dr, s = { B.s0 with heap := h, toks := tk, drawn := dr }
  base : ∀ b o, B.s0.heap.get? b = some o → f b = some o
  sub : ∀ b o, f b = some o → s.heap.get? b = some o
  led : ∀ p ∈ own, f p.1 = none ∧ ∃ o, s.heap.get? p.1 = some o ∧ RelO B f p.2 o
  nodup : (addrs own).Nodup

theorem Inv.keep {B f own s} (i : Inv B f own s) : ∀ b o, B.s0.heap.get? b = some o → s.heap.get? b = some o :=
  fun b o h => i.sub b o (i.base b o h)

structure Step (ex : List Addr) (f : Fz) (own : Own) (s : Shared) (f' : Fz) (own' : Own) (s' : Shared) : Prop where
  mono : f.le f'
  newf : ∀ a o, f' a = some o → f a = some o ∨ a ∈ addrs own ∨ s.heap.get? a = none
  keep : ∀ b o, s.heap.get? b = some o → b ∉ addrs own → b ∉ ex → s'.heap.get? b = some o
  new : ∀ a ∈ addrs own', a ∈ addrs own ∨ s.heap.get? a = none
  live : ∀ b o, s.heap.get? b = some o → ∃ o', s'.heap.get? b = some o'

theorem Step.refl (ex : List Addr) (f : Fz) (own : Own) (s : Shared) : Step ex f own s f own s :=
  ⟨.refl f, fun _ _ h => .inl h, fun _ _ h _ _ => h, fun _ h => .inl h, fun _ o h => ⟨o, h⟩⟩

theorem Step.back {ex f own s f' own' s'} (x : Step ex f own s f' own' s') {a : Addr} (h : s'.heap.get? a = none) : s.heap.get? a = none := by
  cases hs : s.heap.get? a with
  | none => rfl
  | some o => obtain ⟨o', h'⟩ := x.live a o hs; rw [h] at h'; cases h'

theorem Step.trans {ex f own s f₁ own₁ s₁ f₂ own₂ s₂} (x : Step ex f own s f₁ own₁ s₁) (y : Step ex f₁ own₁ s₁ f₂ own₂ s₂) : Step ex f own s f₂ own₂ s₂ where
  mono := x.mono.trans y.mono
  newf := fun a o h => by
    rcases y.newf a o h with h | h | h
    · exact x.newf a o h
    · exact .inr (x.new a h)
    · exact .inr (.inr (x.back h))
  keep := fun b o h h1 h2 => y.keep b o (x.keep b o h h1 h2) (fun hm => (x.new b hm).elim h1 fun hn => by rw [h] at hn; cases hn) h2
  new := fun a h => (y.new a h).elim (fun h => x.new a h) fun h => .inr (x.back h)
  live := fun b o h => let ⟨o', h'⟩ := x.live b o h; y.live b o' h'

theorem Step.wide {ex ex' f own s f' own' s'} (x : Step ex f own s f' own' s') (h : ∀ b ∈ ex, b ∈ ex') : Step ex' f own s f' own' s' :=
  { x with keep := fun b o hb h1 h2 => x.keep b o hb h1 fun hm => h2 (h b hm) }

abbrev Loc := List (String × AV)

structure Fra (env : Env) (mc : Str → Option Value) (h : Heap) : Prop where
  ns : ∃ ml, h.Ns env.locals ml ∧ ∀ x, env.kindOf x = some .local → ml x = mc x
  cell : ∀ x, (env.kindOf x = some .cell ∨ env.kindOf x = some .free) → ∃ c, env.cells.lookup x = some c ∧ h.IsCell c (mc x)

structure EnvOk (env : Env) : Prop where
  kind : env.scope.kind = .function
  glob : env.globals = mainGlobals
  blt : env.builtins = builtinsNs
  apart : ∀ x y c, env.cells.lookup x = some c → env.cells.lookup y = some c → x = y

abbrev exOf (env : Env) : List Addr := env.locals :: env.cells.map (·.2)

structure Cfg (B : Amb) (env : Env) (loc : Loc) (mc : Str → Option Value) (f : Fz) (own : Own) (s : Shared) : Prop where
  inv : Inv B f own s
  fra : Fra env mc s.heap
  rel : ∀ x v, loc.lookup x = some v → ∃ c, mc (Str.ofString x) = some c ∧ RelV f v c
  apart : ∀ a ∈ exOf env, a ∉ addrs own ∧ f a = none ∧ ∃ o, s.heap.get? a = some o
  cells : ∀ p ∈ env.cells, p.2 ≠ env.locals

noncomputable def IsExc (_B : Amb) (_f : Fz) (_own : Own) (_s : Shared) (_c : Addr) (_v : Value) : Prop := False

abbrev XP := Addr → Loc → Own → Prop
noncomputable def noX : XP := fun _ _ _ => False

noncomputable def PostE (B : Amb) (env : Env) (loc : Loc) (mc : Str → Option Value) (f : Fz) (own : Own) (s : Shared) (Q : AV → Own → Prop) : Value → Shared → Prop :=
  fun v s' => ∃ f' own' x, Step (exOf env) f own s f' own' s' ∧ Cfg B env loc mc f' own' s' ∧ RelV f' x v ∧ Q x own'

noncomputable def EPost (B : Amb) (env : Env) (f : Fz) (own : Own) (s : Shared) (X : XP) : Value → Shared → Prop :=
  fun v s' => ∃ f' own' loc' mc' c, Step (exOf env) f own s f' own' s' ∧ Cfg B env loc' mc' f' own' s' ∧ IsExc B f' own' s' c v ∧ X c loc' own'

theorem PostE.trans {B env loc mc f own s f₁ own₁ s₁ Q v s'} (x : Step (exOf env) f own s f₁ own₁ s₁) (h : PostE B env loc mc f₁ own₁ s₁ Q v s') : PostE B env loc mc f own s Q v s' :=
  let ⟨f', own', a, st, c, r, q⟩ := h; ⟨f', own', a, x.trans st, c, r, q⟩
theorem EPost.trans {B env f own s f₁ own₁ s₁ X v s'} (x : Step (exOf env) f own s f₁ own₁ s₁) (h : EPost B env f₁ own₁ s₁ X v s') : EPost B env f own s X v s' :=
  let ⟨f', own', l, m, a, st, c, r, q⟩ := h; ⟨f', own', l, m, a, x.trans st, c, r, q⟩

structure OkA (d : Nat) (A : Around) : Prop where
  handled : A.handled = none
  depth : A.depth + 10 * d + 10 < recursionLimit
  units : A.units + 10 * d + 100 < cLine

noncomputable def EvE (B : Amb) (d : Nat) (env : Env) (t : Sem Value) (loc : Loc) (own : Own) (Q : AV → Own → Prop) (X : XP) : Prop :=
  ∀ A mc f s, OkA d A → Cfg B env loc mc f own s → wpAny B.M A t (PostE B env loc mc f own s Q) (EPost B env f own s X) s

noncomputable def PostT (B : Amb) (env : Env) (loc : Loc) (mc : Str → Option Value) (f : Fz) (own : Own) (s : Shared) (Q : Bool → Own → Prop) : Bool → Shared → Prop :=
  fun b s' => ∃ f' own', Step (exOf env) f own s f' own' s' ∧ Cfg B env loc mc f' own' s' ∧ Q b own'
noncomputable def EvT (B : Amb) (d : Nat) (env : Env) (t : Sem Bool) (loc : Loc) (own : Own) (Q : Bool → Own → Prop) (X : XP) : Prop :=
  ∀ A mc f s, OkA d A → Cfg B env loc mc f own s → wpAny B.M A t (PostT B env loc mc f own s Q) (EPost B env f own s X) s
theorem PostT.trans {B env loc mc f own s f₁ own₁ s₁ Q v s'} (x : Step (exOf env) f own s f₁ own₁ s₁) (h : PostT B env loc mc f₁ own₁ s₁ Q v s') : PostT B env loc mc f own s Q v s' :=
  let ⟨f', own', st, c, q⟩ := h; ⟨f', own', x.trans st, c, q⟩

noncomputable def PostEs (B : Amb) (env : Env) (loc : Loc) (mc : Str → Option Value) (f : Fz) (own : Own) (s : Shared) (Q : List AV → Own → Prop) : List Value → Shared → Prop :=
  fun vs s' => ∃ f' own' xs, Step (exOf env) f own s f' own' s' ∧ Cfg B env loc mc f' own' s' ∧ RelVs f' xs vs ∧ Q xs own'
noncomputable def EvEs (B : Amb) (d : Nat) (env : Env) (t : Sem (List Value)) (loc : Loc) (own : Own) (Q : List AV → Own → Prop) (X : XP) : Prop :=
  ∀ A mc f s, OkA d A → Cfg B env loc mc f own s → wpAny B.M A t (PostEs B env loc mc f own s Q) (EPost B env f own s X) s

inductive AFlow where
  | next | brk | cont
  | ret (v : AV)

noncomputable def RelFl (f : Fz) : AFlow → Flow → Prop
  | .next, w => w = .next
  | .brk, w => w = .brk
  | .cont, w => w = .cont
  | .ret v, w => ∃ c, w = .ret c ∧ RelV f v c

noncomputable def PostS (B : Amb) (env : Env) (f : Fz) (own : Own) (s : Shared) (R : AFlow → Loc → Own → Prop) : Flow → Shared → Prop :=
  fun w s' => ∃ f' own' loc' mc' fl, Step (exOf env) f own s f' own' s' ∧ Cfg B env loc' mc' f' own' s' ∧ RelFl f' fl w ∧ R fl loc' own'
noncomputable def EvS (B : Amb) (d : Nat) (env : Env) (t : Sem Flow) (loc : Loc) (own : Own) (R : AFlow → Loc → Own → Prop) (X : XP) : Prop :=
  ∀ A mc f s, OkA d A → Cfg B env loc mc f own s → wpAny B.M A t (PostS B env f own s R) (EPost B env f own s X) s
noncomputable def PostU (B : Amb) (env : Env) (mc : Str → Option Value) (W : List String) (f : Fz) (own : Own) (s : Shared) (R : Loc → Own → Prop) : Unit → Shared → Prop :=
  fun _ s' => ∃ f' own' loc' mc', Step (exOf env) f own s f' own' s' ∧ Cfg B env loc' mc' f' own' s' ∧ (∀ y, (∀ x ∈ W, y ≠ Str.ofString x) → mc' y = mc y) ∧ R loc' own'
theorem PostU.trans {B env mc W f own s f₁ own₁ s₁ R v s'} (x : Step (exOf env) f own s f₁ own₁ s₁) (h : PostU B env mc W f₁ own₁ s₁ R v s') : PostU B env mc W f own s R v s' :=
  let ⟨f', own', l, m, st, c, e, q⟩ := h; ⟨f', own', l, m, x.trans st, c, e, q⟩

section
variable {B : Amb} {env : Env} {loc : Loc} {mc : Str → Option Value} {f : Fz} {own : Own} {s : Shared}

theorem Cfg.toks (c : Cfg B env loc mc f own s) (t : Nat) : Cfg B env loc mc f own { s with toks := t } :=
  ⟨⟨let ⟨h, _, dr, e⟩ := c.inv.same; ⟨h, t, dr, by rw [e]⟩, c.inv.base, c.inv.sub, c.inv.led, c.inv.nodup⟩, c.fra, c.rel, c.apart, c.cells⟩
theorem Step.toks {ex f own s} (t : Nat) : Step ex f own s f own { s with toks := t } :=
  ⟨.refl f, fun _ _ h => .inl h, fun _ _ h _ _ => h, fun _ h => .inl h, fun _ o h => ⟨o, h⟩⟩

theorem Fra.keeps {h h' : Heap} (x : Fra env mc h) (k : ∀ a ∈ exOf env, ∀ o, h.get? a = some o → h'.get? a = some o) : Fra env mc h' := by
  obtain ⟨ml, hn, he⟩ := x.ns
  refine ⟨⟨ml, ?_, he⟩, fun y hy => ?_⟩
  · obtain ⟨o, es, ep, ho, r⟩ := hn
    exact ⟨o, es, ep, k _ (by simp [exOf]) o ho, r⟩
  · obtain ⟨c, hc, o, ho, hd⟩ := x.cell y hy
    exact ⟨c, hc, o, k c (by
      simp only [exOf, List.mem_cons, List.mem_map]
      exact .inr ⟨(y, c), mem_of_lookup hc, rfl⟩) o ho, hd⟩

theorem Cfg.grow (c : Cfg B env loc mc f own s) {h' : Heap} (t : Nat) (k : ∀ b o, s.heap.get? b = some o → h'.get? b = some o) :
    Cfg B env loc mc f own { s with heap := h', toks := t } where
  inv := ⟨let ⟨h, _, dr, e⟩ := c.inv.same; ⟨h', t, dr, by rw [e]⟩, c.inv.base, fun b o e => k b o (c.inv.sub b o e),
    fun p hp => let ⟨a, o, ho, r⟩ := c.inv.led p hp; ⟨a, o, k _ _ ho, r⟩, c.inv.nodup⟩
  fra := c.fra.keeps fun _ _ o e => k _ o e
  rel := c.rel
  apart := fun a ha => let ⟨x, y, o, z⟩ := c.apart a ha; ⟨x, y, o, k _ _ z⟩
  cells := c.cells
theorem Step.grow {ex f own s} {h' : Heap} (t : Nat) (k : ∀ b o, s.heap.get? b = some o → h'.get? b = some o) : Step ex f own s f own { s with heap := h', toks := t } :=
  ⟨.refl f, fun _ _ h => .inl h, fun b o h _ _ => k b o h, fun _ h => .inl h, fun b o h => ⟨o, k b o h⟩⟩

noncomputable def Fz.put (f : Fz) (a : Addr) (o : Obj) : Fz := fun b => if b = a then some o else f b
theorem Fz.put_self (f : Fz) (a : Addr) (o : Obj) : f.put a o a = some o := by simp [Fz.put]
theorem Fz.put_le {f : Fz} {a : Addr} (o : Obj) (h : f a = none) : f.le (f.put a o) := fun b o' e => by
  unfold Fz.put; split
  · subst_vars; rw [h] at e; cases e
  · exact e
theorem Inv.fresh (i : Inv B f own s) {a : Addr} (h : s.heap.get? a = none) : f a = none := by
  cases e : f a with
  | none => rfl
  | some o => rw [i.sub a o e] at h; cases h
theorem Inv.freshOwn (i : Inv B f own s) {a : Addr} (h : s.heap.get? a = none) : a ∉ addrs own := fun hm => by
  obtain ⟨p, hp, rfl⟩ := List.mem_map.mp hm
  obtain ⟨_, o, ho, _⟩ := i.led p hp
  rw [h] at ho; cases ho

theorem Cfg.freshF (c : Cfg B env loc mc f own s) {h' : Heap} (t : Nat) (k : ∀ b o, s.heap.get? b = some o → h'.get? b = some o) {a : Addr} {o : Obj} (hn : s.heap.get? a = none) (ho : h'.get? a = some o) :
    Cfg B env loc mc (f.put a o) own { s with heap := h', toks := t } where
  inv := ⟨let ⟨h, _, dr, e⟩ := c.inv.same; ⟨h', t, dr, by rw [e]⟩, fun b o' e => Fz.put_le o (c.inv.fresh hn) b o' (c.inv.base b o' e),
    fun b o' e => by
      unfold Fz.put at e; split at e
      · subst_vars; cases e; exact ho
      · exact k b o' (c.inv.sub b o' e),
    fun p hp => by
      obtain ⟨x, o', ho', r⟩ := c.inv.led p hp
      have hne : p.1 ≠ a := fun e => c.inv.freshOwn hn (e ▸ List.mem_map.mpr ⟨p, hp, rfl⟩)
      exact ⟨by simp [Fz.put, hne, x], o', k _ _ ho', r.mono (Fz.put_le o (c.inv.fresh hn))⟩,
    c.inv.nodup⟩
  fra := c.fra.keeps fun _ _ o e => k _ o e
  rel := fun x v e => let ⟨y, h1, h2⟩ := c.rel x v e; ⟨y, h1, h2.mono (Fz.put_le o (c.inv.fresh hn))⟩
  apart := fun b hb => by
    obtain ⟨x, y, o', z⟩ := c.apart b hb
    have hne : b ≠ a := fun e => by rw [e, hn] at z; cases z
    exact ⟨x, by simp [Fz.put, hne, y], o', k _ _ z⟩
  cells := c.cells
theorem Step.freshF {ex} (i : Inv B f own s) {h' : Heap} (t : Nat) (k : ∀ b o, s.heap.get? b = some o → h'.get? b = some o) {a : Addr} {o : Obj} (hn : s.heap.get? a = none) :
    Step ex f own s (f.put a o) own { s with heap := h', toks := t } :=
  ⟨Fz.put_le o (i.fresh hn), fun b o' e => by
      unfold Fz.put at e; split at e
      · subst_vars; exact .inr (.inr hn)
      · exact .inl e, fun b o h _ _ => k b o h, fun _ h => .inl h, fun b o h => ⟨o, k b o h⟩⟩

theorem Cfg.freshO (c : Cfg B env loc mc f own s) {h' : Heap} (t : Nat) (k : ∀ b o, s.heap.get? b = some o → h'.get? b = some o) {a : Addr} {o : Obj} {x : AO} (hn : s.heap.get? a = none) (ho : h'.get? a = some o) (hr : RelO B f x o) :
    Cfg B env loc mc f ((a, x) :: own) { s with heap := h', toks := t } where
  inv := ⟨let ⟨h, _, dr, e⟩ := c.inv.same; ⟨h', t, dr, by rw [e]⟩, c.inv.base, fun b o' e => k b o' (c.inv.sub b o' e),
    fun p hp => by
      rcases List.mem_cons.mp hp with rfl | hp
      · exact ⟨c.inv.fresh hn, o, ho, hr⟩
      · obtain ⟨y, o', ho', r⟩ := c.inv.led p hp; exact ⟨y, o', k _ _ ho', r⟩,
    List.nodup_cons.mpr ⟨c.inv.freshOwn hn, c.inv.nodup⟩⟩
  fra := c.fra.keeps fun _ _ o e => k _ o e
  rel := c.rel
  apart := fun b hb => by
    obtain ⟨x, y, o', z⟩ := c.apart b hb
    have hne : b ≠ a := fun e => by rw [e, hn] at z; cases z
    exact ⟨by simpa [hne] using x, y, o', k _ _ z⟩
  cells := c.cells
theorem Step.freshO {ex} {h' : Heap} (t : Nat) (k : ∀ b o, s.heap.get? b = some o → h'.get? b = some o) {a : Addr} {x : AO} (hn : s.heap.get? a = none) :
    Step ex f own s f ((a, x) :: own) { s with heap := h', toks := t } :=
  ⟨.refl f, fun _ _ h => .inl h, fun b o h _ _ => k b o h, fun b h => by
    rcases List.mem_cons.mp h with rfl | h
    · exact .inr hn
    · exact .inl h, fun b o h => ⟨o, k b o h⟩⟩

noncomputable def Own.put (own : Own) (a : Addr) (x : AO) : Own := own.map fun p => if p.1 = a then (a, x) else p
theorem Own.addrs_put (own : Own) (a : Addr) (x : AO) : addrs (own.put a x) = addrs own := by
  unfold addrs Own.put
  rw [List.map_map]
  refine List.map_congr_left fun p _ => ?_
  simp only [Function.comp]; split <;> simp_all

theorem Cfg.upd (c : Cfg B env loc mc f own s) {h' : Heap} (t : Nat) {a : Addr} (ha : a ∈ addrs own) (k : ∀ b o, b ≠ a → s.heap.get? b = some o → h'.get? b = some o) {o : Obj} {x : AO} (ho : h'.get? a = some o) (hr : RelO B f x o) :
    Cfg B env loc mc f (own.put a x) { s with heap := h', toks := t } where
  inv := ⟨let ⟨h, _, dr, e⟩ := c.inv.same; ⟨h', t, dr, by rw [e]⟩, c.inv.base, fun b o' e => k b o' (fun hb => by
        obtain ⟨p, hp, e1⟩ := List.mem_map.mp ha
        have e2 := (c.inv.led p hp).1
        rw [e1, ← hb, e] at e2; cases e2) (c.inv.sub b o' e),
    fun p hp => by
      obtain ⟨q, hq, rfl⟩ := List.mem_map.mp hp
      obtain ⟨y, o', ho', r⟩ := c.inv.led q hq
      split
      · rename_i e; exact ⟨e ▸ y, o, ho, hr⟩
      · rename_i e; exact ⟨y, o', k _ _ e ho', r⟩,
    by rw [Own.addrs_put]; exact c.inv.nodup⟩
  fra := c.fra.keeps fun b hb o e => k b o (fun e => (c.apart b hb).1 (e ▸ ha)) e
  rel := c.rel
  apart := fun b hb => by
    obtain ⟨x, y, o', z⟩ := c.apart b hb
    exact ⟨by rw [Own.addrs_put]; exact x, y, o', k _ _ (fun e => x (e ▸ ha)) z⟩
  cells := c.cells
theorem Step.upd {ex} {h' : Heap} (t : Nat) {a : Addr} (ha : a ∈ addrs own) (k : ∀ b o, b ≠ a → s.heap.get? b = some o → h'.get? b = some o) {o : Obj} {x : AO} (ho : h'.get? a = some o) :
    Step ex f own s f (own.put a x) { s with heap := h', toks := t } :=
  ⟨.refl f, fun _ _ h => .inl h, fun b o h h1 _ => k b o (fun e => h1 (e ▸ ha)) h, fun b h => by rw [Own.addrs_put] at h; exact .inl h, fun b o' h => by
    by_cases e : b = a
    · exact ⟨o, e ▸ ho⟩
    · exact ⟨o', k b o' e h⟩⟩

noncomputable def Own.del (own : Own) (a : Addr) : Own := own.filter fun p => p.1 ≠ a
theorem Own.mem_del {own : Own} {a : Addr} {p : Addr × AO} : p ∈ own.del a ↔ p ∈ own ∧ p.1 ≠ a := by simp [Own.del]
end
end Mine

namespace Mine
open PySem PySem.Spec

section
variable {B : Amb} {d : Nat} {env : Env} {loc : Loc} {mc : Str → Option Value} {f : Fz} {own : Own} {s : Shared} {A : Around} {X : XP}

theorem EvE.run {t : Sem Value} {Q : AV → Own → Prop} (h : EvE B d env t loc own Q X) (ok : OkA d A) (c : Cfg B env loc mc f own s) {R : Value → Shared → Prop} {E' : Value → Shared → Prop}
    (k : ∀ f₁ own₁ s₁ x v, Step (exOf env) f own s f₁ own₁ s₁ → Cfg B env loc mc f₁ own₁ s₁ → RelV f₁ x v → Q x own₁ → R v s₁)
    (hE : ∀ e s', EPost B env f own s X e s' → E' e s') : wpAny B.M A t R E' s :=
  wpAny_mono (h A mc f s ok c) (fun v s₁ ⟨f₁, own₁, x, st, c₁, r, q⟩ => k f₁ own₁ s₁ x v st c₁ r q) hE
theorem EvEs.run {t : Sem (List Value)} {Q : List AV → Own → Prop} (h : EvEs B d env t loc own Q X) (ok : OkA d A) (c : Cfg B env loc mc f own s) {R : List Value → Shared → Prop} {E' : Value → Shared → Prop}
    (k : ∀ f₁ own₁ s₁ x v, Step (exOf env) f own s f₁ own₁ s₁ → Cfg B env loc mc f₁ own₁ s₁ → RelVs f₁ x v → Q x own₁ → R v s₁)
    (hE : ∀ e s', EPost B env f own s X e s' → E' e s') : wpAny B.M A t R E' s :=
  wpAny_mono (h A mc f s ok c) (fun v s₁ ⟨f₁, own₁, x, st, c₁, r, q⟩ => k f₁ own₁ s₁ x v st c₁ r q) hE
theorem EvT.run {t : Sem Bool} {Q : Bool → Own → Prop} (h : EvT B d env t loc own Q X) (ok : OkA d A) (c : Cfg B env loc mc f own s) {R : Bool → Shared → Prop} {E' : Value → Shared → Prop}
    (k : ∀ f₁ own₁ s₁ b, Step (exOf env) f own s f₁ own₁ s₁ → Cfg B env loc mc f₁ own₁ s₁ → Q b own₁ → R b s₁)
    (hE : ∀ e s', EPost B env f own s X e s' → E' e s') : wpAny B.M A t R E' s :=
  wpAny_mono (h A mc f s ok c) (fun v s₁ ⟨f₁, own₁, st, c₁, q⟩ => k f₁ own₁ s₁ v st c₁ q) hE
theorem EvS.run {t : Sem Flow} {Q : AFlow → Loc → Own → Prop} (h : EvS B d env t loc own Q X) (ok : OkA d A) (c : Cfg B env loc mc f own s) {R : Flow → Shared → Prop} {E' : Value → Shared → Prop}
    (k : ∀ f₁ own₁ s₁ loc₁ mc₁ fl w, Step (exOf env) f own s f₁ own₁ s₁ → Cfg B env loc₁ mc₁ f₁ own₁ s₁ → RelFl f₁ fl w → Q fl loc₁ own₁ → R w s₁)
    (hE : ∀ e s', EPost B env f own s X e s' → E' e s') : wpAny B.M A t R E' s :=
  wpAny_mono (h A mc f s ok c) (fun v s₁ ⟨f₁, own₁, l₁, m₁, fl, st, c₁, r, q⟩ => k f₁ own₁ s₁ l₁ m₁ fl v st c₁ r q) hE

theorem PostE.now {Q : AV → Own → Prop} {x : AV} {v : Value} (c : Cfg B env loc mc f own s) (r : RelV f x v) (q : Q x own) : PostE B env loc mc f own s Q v s :=
  ⟨f, own, x, .refl .., c, r, q⟩
theorem PostE.tok {Q : AV → Own → Prop} {x : AV} {v : Value} (c : Cfg B env loc mc f own s) (r : RelV f x v) (q : Q x own) (t : Nat) : PostE B env loc mc f own s Q v { s with toks := t } :=
  ⟨f, own, x, Step.toks t, c.toks t, r, q⟩
theorem PostT.now {Q : Bool → Own → Prop} {b : Bool} (c : Cfg B env loc mc f own s) (q : Q b own) : PostT B env loc mc f own s Q b s :=
  ⟨f, own, .refl .., c, q⟩

theorem relV_int {i : Int} {t : Tok} : RelV f (.int i) (.int i t) := by simp [RelV]
theorem relV_bool {b : Bool} : RelV f (.bool b) (.bool b) := by simp [RelV]
theorem relV_none : RelV f .none .none := by simp [RelV]
theorem ev_name {x : String} {pos : Pos} {v : AV} {Q : AV → Own → Prop} (hk : env.scope.kind = .function) (hx : env.kindOf (Str.ofString x) = some .local ∨ env.kindOf (Str.ofString x) = some .cell ∨ env.kindOf (Str.ofString x) = some .free)
    (hd : ((Str.ofString x) == ("__debug__" : Str)) = false) (hc : ((Str.ofString x) == ("__classdict__" : Str)) = false) (hl : loc.lookup x = some v) (hq : Q v own) : EvE B d env (eval (.Name (Str.ofString x) pos) env) loc own Q X := by
  intro A mc f s ok c
  obtain ⟨cv, hm, hr⟩ := c.rel x v hl
  refine wpAny_Name ?_ hd
  rcases hx with hx | hx | hx
  · obtain ⟨ml, hn, he⟩ := c.fra.ns
    exact wpAny_loadName_local hk hx hn ((he _ hx).trans hm) (PostE.now c hr hq)
  · obtain ⟨a, ha, hi⟩ := c.fra.cell _ (.inl hx)
    exact wpAny_loadName_cell hk hx ha (hm ▸ hi) (PostE.now c hr hq)
  · obtain ⟨a, ha, hi⟩ := c.fra.cell _ (.inr hx)
    exact wpAny_loadName_free hk hx ha (hm ▸ hi) (PostE.now c hr hq) hc

structure BaseOk (B : Amb) : Prop where
  g : B.s0.heap.Ns mainGlobals B.mg
  b : B.s0.heap.Ns builtinsNs B.mb
  lim : B.s0.heap.NoLimit

theorem load_global {x : Str} {pos : Pos} {v : Value} {R : Value → Shared → Prop} {E : Value → Shared → Prop} (hB : BaseOk B) (he : EnvOk env) (hx : env.kindOf x = some .globalImplicit) (hd : (x == ("__debug__" : Str)) = false)
    (hv : B.mg x = some v) (i : Inv B f own s) (h : R v s) : wpAny B.M A (eval (.Name x pos) env) R E s := by
  refine wpAny_Name ?_ hd
  rw [PyProof.Rows.loadName_read he.kind hx]
  exact Calls.loadGlobal_global (he.glob ▸ hB.g.keeps i.keep) hv h
theorem load_builtin {x : Str} {pos : Pos} {v : Value} {R : Value → Shared → Prop} {E : Value → Shared → Prop} (hB : BaseOk B) (he : EnvOk env) (hx : env.kindOf x = some .globalImplicit) (hd : (x == ("__debug__" : Str)) = false)
    (hn : B.mg x = none) (hv : B.mb x = some v) (i : Inv B f own s) (h : R v s) : wpAny B.M A (eval (.Name x pos) env) R E s := by
  refine wpAny_Name ?_ hd
  rw [PyProof.Rows.loadName_read he.kind hx]
  exact Calls.loadGlobal_builtin (he.glob ▸ hB.g.keeps i.keep) hn (he.blt ▸ hB.b.keeps i.keep) hv h

theorem ev_globInt {x : Str} {pos : Pos} {i : Int} {t : Tok} {Q : AV → Own → Prop} (hB : BaseOk B) (he : EnvOk env) (hx : env.kindOf x = some .globalImplicit) (hd : (x == ("__debug__" : Str)) = false)
    (hv : B.mg x = some (.int i t)) (hq : Q (.int i) own) : EvE B d env (eval (.Name x pos) env) loc own Q X := fun _ _ _ _ _ c =>
  load_global hB he hx hd hv c.inv (PostE.now c relV_int hq)

theorem ev_int {i : Int} {k : Nat} {pos : Pos} {Q : AV → Own → Prop} (hq : Q (.int i) own) : EvE B d env (eval (.Constant (.int i) k pos) env) loc own Q X :=
  fun _ _ _ _ _ c => wpAny_Constant_int (PostE.tok c relV_int hq _)
theorem ev_bool {b : Bool} {k : Nat} {pos : Pos} {Q : AV → Own → Prop} (hq : Q (.bool b) own) : EvE B d env (eval (.Constant (.bool b) k pos) env) loc own Q X :=
  fun _ _ _ _ _ c => wpAny_Constant_bool (PostE.now c relV_bool hq)

end
end Mine

namespace Mine
open PySem PySem.Spec

mutual
noncomputable def AV.py : AV → PyData
  | .none => .none
  | .bool b => .bool b
  | .int i => .int i
  | .str s => .str (Str.ofString s)
  | .tup xs => .tuple (AV.pys xs)
  | .lst xs => .list (AV.pys xs)
  | .emp => .none
  | .inst _ _ => .none
  | .ref _ => .none
noncomputable def AV.pys : List AV → List PyData
  | [] => []
  | x :: xs => x.py :: AV.pys xs
end

mutual
noncomputable def AV.dat : Nat → AV → Bool
  | _, .none => true
  | _, .bool _ => true
  | _, .int _ => true
  | _, .str _ => true
  | 0, .tup _ => false
  | n + 1, .tup xs => AV.dats n xs
  | 0, .lst _ => false
  | n + 1, .lst xs => AV.dats n xs
  | _, .emp => false
  | _, .inst _ _ => false
  | _, .ref _ => false
noncomputable def AV.dats : Nat → List AV → Bool
  | _, [] => true
  | n, x :: xs => x.dat n && AV.dats n xs
end

theorem AV.dats_iff {n : Nat} : ∀ {xs : List AV}, AV.dats n xs = true ↔ ∀ x ∈ xs, x.dat n = true
  | [] => by simp [AV.dats]
  | x :: xs => by simp [AV.dats, AV.dats_iff (xs := xs)]
theorem AV.pys_eq : ∀ (xs : List AV), AV.pys xs = xs.map AV.py
  | [] => rfl
  | x :: xs => by simp [AV.pys, AV.pys_eq xs]

noncomputable def AV.eqv (x y : AV) : Bool := PyData.eqv x.py y.py

mutual
theorem reads_of {f : Fz} {h : Heap} (hs : ∀ b o, f b = some o → h.get? b = some o) : ∀ (n : Nat) (x : AV) (v : Value), x.dat n = true → RelV f x v → ∃ as, Reads h v x.py as
  | _, .none, _, _, r => by simp only [RelV] at r; subst r; exact ⟨_, .none⟩
  | _, .bool b, _, _, r => by simp only [RelV] at r; subst r; exact ⟨_, .bool b⟩
  | _, .int i, _, _, r => by simp only [RelV] at r; obtain ⟨t, rfl⟩ := r; exact ⟨_, .int i t⟩
  | _, .str x, _, _, r => by simp only [RelV] at r; obtain ⟨t, rfl⟩ := r; exact ⟨_, .str _ t⟩
  | 0, .tup _, _, hd, _ => by simp [AV.dat] at hd
  | n + 1, .tup xs, _, hd, r => by
    simp only [RelV] at r
    obtain ⟨a, vs, k, rfl, ha, hr⟩ := r
    obtain ⟨as, q⟩ := readss_of hs n xs vs (by simpa [AV.dat] using hd) hr
    exact ⟨as, .tuple (hs _ _ ha) rfl rfl q⟩
  | 0, .lst _, _, hd, _ => by simp [AV.dat] at hd
  | n + 1, .lst xs, _, hd, r => by
    simp only [RelV] at r
    obtain ⟨a, vs, k, rfl, ha, hr⟩ := r
    obtain ⟨as, q⟩ := readss_of hs n xs vs (by simpa [AV.dat] using hd) hr
    exact ⟨_, .list (hs _ _ ha) rfl rfl q⟩
  | n, .emp, _, hd, _ => by cases n <;> simp [AV.dat] at hd
  | n, .inst _ _, _, hd, _ => by cases n <;> simp [AV.dat] at hd
  | n, .ref _, _, hd, _ => by cases n <;> simp [AV.dat] at hd
theorem readss_of {f : Fz} {h : Heap} (hs : ∀ b o, f b = some o → h.get? b = some o) : ∀ (n : Nat) (xs : List AV) (vs : List Value), AV.dats n xs = true → RelVs f xs vs → ∃ as, ReadsAll h vs (AV.pys xs) as
  | _, [], _, _, r => by simp only [RelVs] at r; subst r; exact ⟨_, .nil⟩
  | n, x :: xs, _, hd, r => by
    simp only [RelVs] at r
    obtain ⟨v, vs, rfl, hv, hr⟩ := r
    simp only [AV.dats, Bool.and_eq_true] at hd
    obtain ⟨as, q⟩ := reads_of hs n x v hd.1 hv
    obtain ⟨bs, p⟩ := readss_of hs n xs vs hd.2 hr
    exact ⟨_, .cons q p⟩
end

theorem strOk_ofString (x : String) : PyData.strOk (Str.ofString x) = true := by
  unfold PyData.strOk Str.ofString
  rw [cpsOfBytes_string]
  simp only [List.all_toArray, List.all_map, List.all_eq_true, Function.comp, decide_eq_true_eq]
  intro c _
  have h := c.valid
  simp only [UInt32.isValidChar, Nat.isValidChar] at h
  show c.val.toNat < _
  omega

theorem ofString_inj {x y : String} (h : Str.ofString x = Str.ofString y) : x = y := by
  unfold Str.ofString at h
  rw [cpsOfBytes_string, cpsOfBytes_string] at h
  have h2 : x.toList.map Char.toNat = y.toList.map Char.toNat := by simpa using h
  have h3 : x.toList = y.toList := by
    refine (List.map_inj_right (f := Char.toNat) fun a b e => ?_).mp h2
    exact Char.ext (UInt32.toNat_inj.mp e)
  rw [← String.ofList_toList (s := x), ← String.ofList_toList (s := y), h3]

mutual
theorem py_lay : ∀ (n : Nat) (x : AV), x.dat n = true → x.py.canLay0 = true ∧ x.py.depth ≤ n
  | _, .none, _ => by simp [AV.py, PyData.canLay0, PyData.depth]
  | _, .bool _, _ => by simp [AV.py, PyData.canLay0, PyData.depth]
  | _, .int _, _ => by simp [AV.py, PyData.canLay0, PyData.depth]
  | _, .str x, _ => by simp [AV.py, PyData.canLay0, PyData.depth, strOk_ofString]
  | 0, .tup _, h => by simp [AV.dat] at h
  | n + 1, .tup xs, h => by
    have := pys_lay n xs (by simpa [AV.dat] using h)
    simp only [AV.py, PyData.canLay0, PyData.depth, this.1, true_and]
    have := this.2
    omega
  | 0, .lst _, h => by simp [AV.dat] at h
  | n + 1, .lst xs, h => by
    have := pys_lay n xs (by simpa [AV.dat] using h)
    simp only [AV.py, PyData.canLay0, PyData.depth, this.1, true_and]
    have := this.2
    omega
  | n, .emp, h => by cases n <;> simp [AV.dat] at h
  | n, .inst _ _, h => by cases n <;> simp [AV.dat] at h
  | n, .ref _, h => by cases n <;> simp [AV.dat] at h
theorem pys_lay : ∀ (n : Nat) (xs : List AV), AV.dats n xs = true → PyData.canLayAll0 (AV.pys xs) = true ∧ PyData.depthAll (AV.pys xs) ≤ n
  | _, [], _ => by simp [AV.pys, PyData.canLayAll0, PyData.depthAll]
  | n, x :: xs, h => by
    simp only [AV.dats, Bool.and_eq_true] at h
    have h1 := py_lay n x h.1
    have h2 := pys_lay n xs h.2
    simp only [AV.pys, PyData.canLayAll0, PyData.depthAll, h1.1, h2.1, Bool.and_self, true_and]
    have := h1.2
    have := h2.2
    omega
end

mutual
noncomputable def AV.pure : AV → Bool
  | .none => true
  | .bool _ => false
  | .int _ => true
  | .str _ => true
  | .tup xs => AV.pures xs
  | .lst xs => AV.pures xs
  | .emp => false
  | .inst _ _ => false
  | .ref _ => false
noncomputable def AV.pures : List AV → Bool
  | [] => true
  | x :: xs => x.pure && AV.pures xs
end

mutual
theorem eqv_iff : ∀ (x y : AV), x.pure = true → y.pure = true → (x.eqv y = true ↔ x = y)
  | .none, y, _, hy => by cases y <;> simp_all [AV.eqv, AV.py, PyData.eqv, AV.pure]
  | .bool _, _, h, _ => by simp [AV.pure] at h
  | .int i, y, _, hy => by cases y <;> simp_all [AV.eqv, AV.py, PyData.eqv, AV.pure]
  | .str x, y, _, hy => by
    cases y <;> simp_all [AV.eqv, AV.py, PyData.eqv, AV.pure]
    exact ⟨ofString_inj, fun h => h ▸ rfl⟩
  | .tup xs, y, hx, hy => by
    cases y <;> simp_all [AV.eqv, AV.py, PyData.eqv, AV.pure]
    exact eqvs_iff xs _ hx hy
  | .lst xs, y, hx, hy => by
    cases y <;> simp_all [AV.eqv, AV.py, PyData.eqv, AV.pure]
    exact eqvs_iff xs _ hx hy
  | .emp, _, h, _ => by simp [AV.pure] at h
  | .inst _ _, _, h, _ => by simp [AV.pure] at h
  | .ref _, _, h, _ => by simp [AV.pure] at h
theorem eqvs_iff : ∀ (xs ys : List AV), AV.pures xs = true → AV.pures ys = true → (PyData.eqvAll (AV.pys xs) (AV.pys ys) = true ↔ xs = ys)
  | [], ys, _, _ => by cases ys <;> simp [AV.pys, PyData.eqvAll]
  | x :: xs, ys, hx, hy => by
    cases ys with
    | nil => simp [AV.pys, PyData.eqvAll]
    | cons y ys =>
      simp only [AV.pures, Bool.and_eq_true] at hx hy
      have h1 := eqv_iff x y hx.1 hy.1
      have h2 := eqvs_iff xs ys hx.2 hy.2
      simp only [AV.eqv] at h1
      simp only [AV.pys, PyData.eqvAll, Bool.and_eq_true, h1, h2, List.cons.injEq]
end

noncomputable def view (own : Own) : AV → Option AV
  | .ref a => match own.lookup a with
    | some (.list xs) => some (.lst xs)
    | _ => none
  | x => some x

section
variable {B : Amb} {d : Nat} {env : Env} {loc : Loc} {mc : Str → Option Value} {f : Fz} {own : Own} {s : Shared} {A : Around} {X : XP}

theorem mem_of_lookup' {α : Type} {l : List (Addr × α)} {a : Addr} {x : α} (h : l.lookup a = some x) : (a, x) ∈ l := by
  induction l with
  | nil => simp at h
  | cons p r ih =>
    obtain ⟨b, y⟩ := p
    rw [List.lookup_cons] at h
    cases hb : a == b with
    | true => rw [hb] at h; cases h; rw [beq_iff_eq.mp hb]; exact List.mem_cons_self
    | false => rw [hb] at h; exact List.mem_cons_of_mem _ (ih h)

theorem view_list (i : Inv B f own s) {x : AV} {v : Value} {xs : List AV} (r : RelV f x v) (h : view own x = some (.lst xs)) :
    ∃ a vs n, v = .ref a ∧ s.heap.get? a = some (sq "list" vs n) ∧ RelVs f xs vs := by
  cases x with
  | lst ys =>
    simp only [view, Option.some.injEq, AV.lst.injEq] at h; subst h
    simp only [RelV] at r
    obtain ⟨a, vs, n, e, ha, hr⟩ := r
    exact ⟨a, vs, n, e, i.sub _ _ ha, hr⟩
  | ref a =>
    simp only [RelV] at r
    simp only [view] at h
    split at h
    · rename_i ys e
      simp only [Option.some.injEq, AV.lst.injEq] at h; subst h
      obtain ⟨_, o, ho, vs, n, rfl, hr⟩ := i.led _ (mem_of_lookup' e)
      exact ⟨a, vs, n, r, ho, hr⟩
    · cases h
  | _ => simp [view] at h

theorem view_tup (i : Inv B f own s) {x : AV} {v : Value} {xs : List AV} (r : RelV f x v) (h : view own x = some (.tup xs)) :
    ∃ a vs n, v = .ref a ∧ s.heap.get? a = some (sq "tuple" vs n) ∧ RelVs f xs vs := by
  cases x with
  | tup ys =>
    simp only [view, Option.some.injEq, AV.tup.injEq] at h; subst h
    simp only [RelV] at r
    obtain ⟨a, vs, n, e, ha, hr⟩ := r
    exact ⟨a, vs, n, e, i.sub _ _ ha, hr⟩
  | ref a => simp only [view] at h; split at h <;> simp at h
  | _ => simp [view] at h

theorem view_reads (i : Inv B f own s) {n : Nat} {x y : AV} {v : Value} (r : RelV f x v) (h : view own x = some y) (hd : y.dat n = true) : ∃ as, Reads s.heap v y.py as := by
  cases x with
  | ref a =>
    have h' := h
    simp only [view] at h
    split at h
    · rename_i ys e
      cases h
      obtain ⟨b, vs, k, rfl, hb, hr⟩ := view_list i r h'
      cases n with
      | zero => simp [AV.dat] at hd
      | succ n =>
        obtain ⟨as, q⟩ := readss_of i.sub n ys vs (by simpa [AV.dat] using hd) hr
        exact ⟨_, .list hb rfl rfl q⟩
    · cases h
  | _ => simp only [view, Option.some.injEq] at h; subst h; exact reads_of i.sub n _ v hd r

end
end Mine

namespace Mine
open PySem PySem.Spec

inductive Cp where
  | lt | le | gt | ge | eq | ne | is_ | isNot | in_ | notIn


noncomputable def Cp.op : Cp → CmpOp
  | .lt => .Lt | .le => .LtE | .gt => .Gt | .ge => .GtE | .eq => .Eq | .ne => .NotEq | .is_ => .Is | .isNot => .IsNot | .in_ => .In | .notIn => .NotIn

noncomputable def isNoneB : AV → Bool
  | .none => true
  | _ => false

noncomputable def eqV (own : Own) (x y : AV) : Option Bool := match view own x, view own y with
  | some a, some b => if a.dat 8 && b.dat 8 then some (a.eqv b) else none
  | _, _ => none

noncomputable def inSeq (ys : List AV) (x : AV) : Option Bool := if x.dat 8 && AV.dats 8 ys then some (ys.any (·.eqv x)) else none

noncomputable def inV (own : Own) (x y : AV) : Option Bool := match y with
  | .lst ys => inSeq ys x
  | .tup ys => inSeq ys x
  | .ref a => match own.lookup a with
    | some (.list ys) => inSeq ys x
    | some (.dict es) => match x with
      | .int i => if a == sysModules then none else some (es.any (·.1 == i))
      | _ => none
    | none => none
  | _ => none

noncomputable def ordV (p : Int → Int → Bool) : AV → AV → Option Bool
  | .int i, .int j => some (p i j)
  | _, _ => none

noncomputable def cmpV (own : Own) (op : Cp) (x y : AV) : Option Bool := match op with
  | .lt => ordV (fun i j => decide (i < j)) x y
  | .le => ordV (fun i j => decide (i ≤ j)) x y
  | .gt => ordV (fun i j => decide (j < i)) x y
  | .ge => ordV (fun i j => decide (j ≤ i)) x y
  | .eq => eqV own x y
  | .ne => (eqV own x y).map (!·)
  | .is_ => if isNoneB y then some (isNoneB x) else none
  | .isNot => if isNoneB y then some (!isNoneB x) else none
  | .in_ => inV own x y
  | .notIn => (inV own x y).map (!·)

section
variable {B : Amb} {d : Nat} {env : Env} {loc : Loc} {mc : Str → Option Value} {f : Fz} {own : Own} {s : Shared} {A : Around} {X : XP}

theorem ordV_eq {p : Int → Int → Bool} {x y : AV} {a b : Value} {r : Bool} (hx : RelV f x a) (hy : RelV f y b) (h : ordV p x y = some r) : ∃ i t j u, a = .int i t ∧ b = .int j u ∧ r = p i j := by
  cases x <;> cases y <;> simp only [ordV, Option.some.injEq, reduceCtorEq] at h
  simp only [RelV] at hx hy
  obtain ⟨t, rfl⟩ := hx
  obtain ⟨u, rfl⟩ := hy
  exact ⟨_, t, _, u, rfl, rfl, h.symm⟩

theorem isNone_rel {x : AV} {a : Value} (hx : RelV f x a) : (a == .none) = isNoneB x := by
  cases x <;> simp only [RelV] at hx
  case none => subst hx; rfl
  case bool => subst hx; rfl
  case ref => subst hx; rfl
  case int => obtain ⟨t, rfl⟩ := hx; rfl
  case str => obtain ⟨t, rfl⟩ := hx; rfl
  case tup => obtain ⟨a, _, _, rfl, _⟩ := hx; rfl
  case lst => obtain ⟨a, _, _, rfl, _⟩ := hx; rfl
  case emp => obtain ⟨a, _, rfl, _⟩ := hx; rfl
  case inst => obtain ⟨a, _, _, _, rfl, _⟩ := hx; rfl

theorem find_keys {V W : Type} (k : Int) : ∀ (es : List (Int × V)) (kvs : List (Int × W)), kvs.map (·.1) = es.map (·.1) → ((kvs.find? fun kv => kv.1 = k).map (·.2)).isSome = es.any (·.1 == k)
  | [], [], _ => rfl
  | [], _ :: _, h => by simp at h
  | _ :: _, [], h => by simp at h
  | e :: es, p :: kvs, h => by
    simp only [List.map_cons, List.cons.injEq] at h
    rw [List.find?_cons, List.any_cons, ← h.1]
    by_cases hk : p.1 = k
    · simp [hk]
    · have hk2 : (p.1 == k) = false := by simp [hk]
      simp only [hk, decide_false, hk2, Bool.false_or]
      exact find_keys k es kvs h.2

theorem compare_of {op : Cp} {x y : AV} {a b : Value} {r : Bool} {R : Value → Shared → Prop} {E : Value → Shared → Prop} (hs : True) (hu : A.units + 20 < cLine) (i : Inv B f own s)
    (hx : RelV f x a) (hy : RelV f y b) (h : cmpV own op x y = some r) (k : ∀ t, R (.bool r) { s with toks := t }) : wpAny B.M A (compareOp op.op a b) R E s := by
  have k0 : R (.bool r) s := k s.toks
  have hin : ∀ {ys : List AV} {q : Bool}, inSeq ys x = some q → (∃ as, Reads s.heap a x.py as) ∧ x.py.canLay0 = true ∧ PyData.canLayAll0 (AV.pys ys) = true ∧ x.py.depth ≤ 8 ∧ q = (AV.pys ys).any (fun z => PyData.eqv z x.py) ∧ AV.dats 8 ys = true := by
    intro ys q hq
    unfold inSeq at hq
    split at hq
    · rename_i hd
      simp only [Bool.and_eq_true] at hd
      cases hq
      refine ⟨reads_of i.sub 8 x a hd.1 hx, (py_lay 8 x hd.1).1, (pys_lay 8 ys hd.2).1, (py_lay 8 x hd.1).2, ?_, hd.2⟩
      rw [AV.pys_eq, List.any_map]; rfl
    · cases hq
  have inn : ∀ {q : Bool}, inV own x y = some q → (∀ t, R (.bool q) { s with toks := t }) → wpAny B.M A (compareOp .In a b) R E s := by
    intro q hq k
    have k0 : R (.bool q) s := k s.toks
    cases y <;> simp only [inV, reduceCtorEq] at hq
    case lst ys =>
      obtain ⟨⟨as, rx⟩, h1, h2, h3, rfl, h4⟩ := hin hq
      obtain ⟨bs, ry⟩ := reads_of i.sub 9 (.lst ys) b (by simpa [AV.dat] using h4) hy
      exact SeqAt.in_list_reads ry rx h2 h1 (by omega) k0
    case tup ys =>
      obtain ⟨⟨as, rx⟩, h1, h2, h3, rfl, h4⟩ := hin hq
      obtain ⟨bs, ry⟩ := reads_of i.sub 9 (.tup ys) b (by simpa [AV.dat] using h4) hy
      exact SeqAt.in_tuple_reads ry rx h2 h1 (by omega) k0
    case ref l =>
      split at hq
      · rename_i ys e
        obtain ⟨⟨as, rx⟩, h1, h2, h3, rfl, h4⟩ := hin hq
        obtain ⟨bs, ry⟩ := view_reads (n := 9) (x := .ref l) (y := .lst ys) i hy (by simp [view, e]) (by simpa [AV.dat] using h4)
        exact SeqAt.in_list_reads ry rx h2 h1 (by omega) k0
      · rename_i es e
        split at hq
        · rename_i n
          split at hq
          · cases hq
          rename_i hns
          cases hq
          simp only [RelV] at hx hy
          obtain ⟨t, rfl⟩ := hx
          subst hy
          obtain ⟨_, o, ho, kvs, hd, hk, hr⟩ := i.led _ (mem_of_lookup' e)
          have hm := (Heap.dictOf_iff.mpr ⟨o, ho, hd⟩).mapOf
          refine wpAny_in_of (knd := intKind B.prog B.w) (k := n) (by simp [intKind, Value.isInt]) (by simpa using hns) hm ?_
          rw [show (valueAt kvs n).isSome = es.any (·.1 == n) from find_keys n es kvs hk]
          exact k _
        · cases hq
      · cases hq
  have notInn : ∀ {q : Bool}, inV own x y = some q → (∀ t, R (.bool !q) { s with toks := t }) → wpAny B.M A (compareOp .NotIn a b) R E s := by
    intro q hq k
    have k0 : R (.bool !q) s := k s.toks
    cases y <;> simp only [inV, reduceCtorEq] at hq
    case lst ys =>
      obtain ⟨⟨as, rx⟩, h1, h2, h3, rfl, h4⟩ := hin hq
      obtain ⟨bs, ry⟩ := reads_of i.sub 9 (.lst ys) b (by simpa [AV.dat] using h4) hy
      exact SeqAt.notIn_list_reads ry rx h2 h1 (by omega) k0
    case tup ys =>
      obtain ⟨⟨as, rx⟩, h1, h2, h3, rfl, h4⟩ := hin hq
      obtain ⟨bs, ry⟩ := reads_of i.sub 9 (.tup ys) b (by simpa [AV.dat] using h4) hy
      exact SeqAt.notIn_tuple_reads ry rx h2 h1 (by omega) k0
    case ref l =>
      split at hq
      · rename_i ys e
        obtain ⟨⟨as, rx⟩, h1, h2, h3, rfl, h4⟩ := hin hq
        obtain ⟨bs, ry⟩ := view_reads (n := 9) (x := .ref l) (y := .lst ys) i hy (by simp [view, e]) (by simpa [AV.dat] using h4)
        exact SeqAt.notIn_list_reads ry rx h2 h1 (by omega) k0
      · rename_i es e
        split at hq
        · rename_i n
          split at hq
          · cases hq
          rename_i hns
          cases hq
          simp only [RelV] at hx hy
          obtain ⟨t, rfl⟩ := hx
          subst hy
          obtain ⟨_, o, ho, kvs, hd, hk, hr⟩ := i.led _ (mem_of_lookup' e)
          have hm := (Heap.dictOf_iff.mpr ⟨o, ho, hd⟩).mapOf
          refine wpAny_notIn_of (knd := intKind B.prog B.w) (k := n) (by simp [intKind, Value.isInt]) (by simpa using hns) hm ?_
          rw [show (valueAt kvs n).isSome = es.any (·.1 == n) from find_keys n es kvs hk]
          exact k _
        · cases hq
      · cases hq
  have eqq : ∀ {q : Bool}, eqV own x y = some q → ∃ da db as bs, Reads s.heap a da as ∧ Reads s.heap b db bs ∧ da.canLay0 = true ∧ db.canLay0 = true ∧ da.depth ≤ 8 ∧ q = PyData.eqv da db := by
    intro q hq
    unfold eqV at hq
    split at hq
    · rename_i a' b' e1 e2
      split at hq
      · rename_i hd
        simp only [Bool.and_eq_true] at hd
        cases hq
        obtain ⟨as, r1⟩ := view_reads i hx e1 hd.1
        obtain ⟨bs, r2⟩ := view_reads i hy e2 hd.2
        exact ⟨_, _, as, bs, r1, r2, (py_lay 8 _ hd.1).1, (py_lay 8 _ hd.2).1, (py_lay 8 _ hd.1).2, rfl⟩
      · cases hq
    · cases hq
  cases op <;> simp only [cmpV] at h
  case lt => obtain ⟨i, t, j, u, rfl, rfl, rfl⟩ := ordV_eq hx hy h; exact P.lt_int k0
  case le => obtain ⟨i, t, j, u, rfl, rfl, rfl⟩ := ordV_eq hx hy h; exact P.le_int k0
  case gt => obtain ⟨i, t, j, u, rfl, rfl, rfl⟩ := ordV_eq hx hy h; exact P.gt_int k0
  case ge => obtain ⟨i, t, j, u, rfl, rfl, rfl⟩ := ordV_eq hx hy h; exact P.ge_int k0
  case eq =>
    obtain ⟨da, db, as, bs, r1, r2, c1, c2, hd, rfl⟩ := eqq h
    exact SeqAt.compareEq_reads r1 r2 c1 c2 (by omega) k0
  case ne =>
    simp only [Option.map_eq_some_iff] at h
    obtain ⟨q, hq, rfl⟩ := h
    obtain ⟨da, db, as, bs, r1, r2, c1, c2, hd, rfl⟩ := eqq hq
    exact SeqAt.compareNe_reads r1 r2 c1 c2 (by omega) k0
  case is_ =>
    split at h
    · rename_i hn
      cases h
      have : b = .none := by have := isNone_rel hy; rw [hn] at this; exact beq_iff_eq.mp this
      subst this
      exact is_none (by rw [isNone_rel hx]; exact k0)
    · cases h
  case isNot =>
    split at h
    · rename_i hn
      cases h
      have : b = .none := by have := isNone_rel hy; rw [hn] at this; exact beq_iff_eq.mp this
      subst this
      exact isNot_none (by rw [isNone_rel hx]; exact k0)
    · cases h
  case in_ => exact inn h k
  case notIn =>
    simp only [Option.map_eq_some_iff] at h
    obtain ⟨q, hq, rfl⟩ := h
    exact notInn hq k

end
end Mine

namespace Mine
open PySem PySem.Spec

inductive Op where
  | add | sub | mul | fdiv | mod | pow

noncomputable def Op.op : Op → Operator
  | .add => .Add | .sub => .Sub | .mul => .Mult | .fdiv => .FloorDiv | .mod => .Mod | .pow => .Pow

noncomputable def mkL (o : Bool) (xs : List AV) (own : Own) (Q : AV → Own → Prop) : Prop :=
  if o then ∀ a, a ∉ addrs own → Q (.ref a) ((a, .list xs) :: own) else Q (.lst xs) own

noncomputable def binS (o : Bool) (op : Op) (x y : AV) (own : Own) (Q : AV → Own → Prop) : Prop :=
  match op, x, y with
  | .add, .int i, .int j => Q (.int (i + j)) own
  | .sub, .int i, .int j => Q (.int (i - j)) own
  | .mul, .int i, .int j => (i.natAbs < 2 ^ 63 ∨ j.natAbs < 2 ^ 63) ∧ Q (.int (i * j)) own
  | .fdiv, .int i, .int j => (0 < j ∧ j < 1000000000) ∧ Q (.int (i / j)) own
  | .mod, .int i, .int j => 0 < j ∧ Q (.int (i % j)) own
  | .pow, .int i, .int j => (i.natAbs < 2 ^ 63 ∧ 0 ≤ j ∧ j ≤ 100000) ∧ Q (.int (i ^ j.toNat)) own
  | .add, x, y => match view own x, view own y with
    | some (.lst xs), some (.lst ys) => xs.length + ys.length ≤ 100000 ∧ mkL o (xs ++ ys) own Q
    | some (.tup xs), some (.tup ys) => xs.length + ys.length ≤ 100000 ∧ xs ≠ [] ∧ ys ≠ [] ∧ Q (.tup (xs ++ ys)) own
    | _, _ => False
  | _, _, _ => False

theorem get?_size (h : Heap) : h.get? h.objs.size = none := by
  unfold Heap.get?
  simp
theorem push_keeps (h : Heap) (o : Obj) : ∀ b o', h.get? b = some o' → (h.push o).get? b = some o' := fun _ _ e => Heap.get?_push_of_some o e
theorem sizeLine_is : sizeLine = 16777216 := by decide

section
variable {B : Amb} {d : Nat} {env : Env} {loc : Loc} {mc : Str → Option Value} {f : Fz} {own : Own} {s : Shared} {A : Around} {X : XP}

theorem mkL_post {o : Bool} {xs : List AV} {vs : List Value} {n : Nat} {Q : AV → Own → Prop} {h' : Heap} {a : Addr} (c : Cfg B env loc mc f own s) (t : Nat) (k : ∀ b o, s.heap.get? b = some o → h'.get? b = some o)
    (hn : s.heap.get? a = none) (ho : h'.get? a = some (sq "list" vs n)) (r : RelVs f xs vs) (h : mkL o xs own Q) : PostE B env loc mc f own s Q (.ref a) { s with heap := h', toks := t } := by
  cases o with
  | true =>
    simp only [mkL, if_true] at h
    exact ⟨f, _, .ref a, Step.freshO t k hn, c.freshO (x := .list xs) t k hn ho ⟨vs, n, rfl, r⟩, by simp [RelV], h a (c.inv.freshOwn hn)⟩
  | false =>
    simp only [mkL, Bool.false_eq_true, if_false] at h
    refine ⟨f.put a (sq "list" vs n), own, .lst xs, Step.freshF c.inv t k hn, c.freshF t k hn ho, ?_, h⟩
    simp only [RelV]
    exact ⟨a, vs, n, rfl, Fz.put_self .., r.mono (Fz.put_le _ (c.inv.fresh hn))⟩
theorem mkT_post {xs : List AV} {vs : List Value} {n : Nat} {Q : AV → Own → Prop} {h' : Heap} {a : Addr} (c : Cfg B env loc mc f own s) (t : Nat) (k : ∀ b o, s.heap.get? b = some o → h'.get? b = some o)
    (hn : s.heap.get? a = none) (ho : h'.get? a = some (sq "tuple" vs n)) (r : RelVs f xs vs) (h : Q (.tup xs) own) : PostE B env loc mc f own s Q (.ref a) { s with heap := h', toks := t } := by
  refine ⟨f.put a (sq "tuple" vs n), own, .tup xs, Step.freshF c.inv t k hn, c.freshF t k hn ho, ?_, h⟩
  simp only [RelV]
  exact ⟨a, vs, n, rfl, Fz.put_self .., r.mono (Fz.put_le _ (c.inv.fresh hn))⟩

theorem intBits_le {a : Int} (h : a.natAbs < 2 ^ 63) : Builtin.Int.intBits a ≤ 64 := by
  unfold Builtin.Int.intBits
  split
  · omega
  · rename_i h0
    have : a.natAbs.log2 < 63 := (Nat.log2_lt (by simpa using h0)).mpr h
    omega

theorem bin_of {o : Bool} {op : Op} {x y : AV} {a b : Value} {Q : AV → Own → Prop} {E : Value → Shared → Prop} (c : Cfg B env loc mc f own s) (hx : RelV f x a) (hy : RelV f y b) (h : binS o op x y own Q) :
    wpAny B.M A (binaryOp op.op a b) (PostE B env loc mc f own s Q) E s := by
  have seqs : op = .add → (match view own x, view own y with
    | some (.lst xs), some (.lst ys) => xs.length + ys.length ≤ 100000 ∧ mkL o (xs ++ ys) own Q
    | some (.tup xs), some (.tup ys) => xs.length + ys.length ≤ 100000 ∧ xs ≠ [] ∧ ys ≠ [] ∧ Q (.tup (xs ++ ys)) own
    | _, _ => False) → wpAny B.M A (binaryOp op.op a b) (PostE B env loc mc f own s Q) E s := by
    rintro rfl h
    split at h
    · rename_i xs ys e1 e2
      obtain ⟨l, vs, n, rfl, hl, r1⟩ := view_list c.inv hx e1
      obtain ⟨m, ws, k, rfl, hm, r2⟩ := view_list c.inv hy e2
      have e : vs.toArray ++ ws.toArray = (vs ++ ws).toArray := by simp
      refine P.add_list hl hm ?_ (by rw [sizeLine_is]; have := r1.length; have := r2.length; simp; omega)
      rw [e]
      exact mkL_post (n := 0) c s.toks (push_keeps _ _) (get?_size _) (Heap.get?_push_size _ rfl) (r1.append r2) h.2
    · rename_i xs ys e1 e2
      obtain ⟨l, vs, n, rfl, hl, r1⟩ := view_tup c.inv hx e1
      obtain ⟨m, ws, k, rfl, hm, r2⟩ := view_tup c.inv hy e2
      have e : vs.toArray ++ ws.toArray = (vs ++ ws).toArray := by simp
      have l1 := r1.length
      have l2 := r2.length
      refine P.add_tuple hl hm ?_ ?_ ?_ (by rw [sizeLine_is]; simp; omega)
      · intro e; have : vs = [] := by simpa using e
        subst this; exact h.2.1 (List.length_eq_zero_iff.mp l1.symm)
      · intro e; have : ws = [] := by simpa using e
        subst this; exact h.2.2.1 (List.length_eq_zero_iff.mp l2.symm)
      · rw [e]
        exact mkT_post (n := 0) c s.toks (push_keeps _ _) (get?_size _) (Heap.get?_push_size _ rfl) (r1.append r2) h.2.2.2
    · exact h.elim
  unfold binS at h
  split at h
  · simp only [RelV] at hx hy
    obtain ⟨t, rfl⟩ := hx
    obtain ⟨u, rfl⟩ := hy
    exact P.add_int (PostE.tok c relV_int h _)
  · simp only [RelV] at hx hy
    obtain ⟨t, rfl⟩ := hx
    obtain ⟨u, rfl⟩ := hy
    exact P.sub_int (PostE.tok c relV_int h _)
  · simp only [RelV] at hx hy
    obtain ⟨t, rfl⟩ := hx
    obtain ⟨u, rfl⟩ := hy
    refine P.mul_int (PostE.tok c relV_int h.2 _) ?_
    rcases h.1 with h1 | h1
    · exact IntMulOk.of_left (intBits_le h1)
    · exact IntMulOk.of_right (intBits_le h1)
  · rename_i i j
    simp only [RelV] at hx hy
    obtain ⟨t, rfl⟩ := hx
    obtain ⟨u, rfl⟩ := hy
    refine PyProof.Rows.floordiv_int (by omega) ?_ (.inl (PyProof.noPylong_small (by omega)))
    rw [Int.fdiv_eq_ediv_of_nonneg _ (by omega)]
    exact PostE.tok c relV_int h.2 _
  · rename_i i j
    simp only [RelV] at hx hy
    obtain ⟨t, rfl⟩ := hx
    obtain ⟨u, rfl⟩ := hy
    refine PyProof.Rows.mod_int' (by omega) ?_
    rw [Int.fmod_eq_emod_of_nonneg _ (by omega)]
    exact PostE.tok c relV_int h.2 _
  · rename_i i j
    simp only [RelV] at hx hy
    obtain ⟨t, rfl⟩ := hx
    obtain ⟨u, rfl⟩ := hy
    exact PyProof.Rows.pow_int_small h.1.2.1 (by omega) (by omega) (PostE.tok c relV_int h.2 _)
  · exact seqs rfl h
  · exact h.elim

theorem evs_nil {pos : Pos} {Q : List AV → Own → Prop} (hq : Q [] own) : EvEs B d env (spliced (backTo pos (starEach [] env))) loc own Q X :=
  fun _ _ f s _ c => wpAny_items_nil ⟨f, own, [], .refl .., c, .nil, hq⟩
theorem evs_cons {e : Expr} {rest : List Expr} {pos : Pos} {Q : List AV → Own → Prop} (he : starEach (e :: rest) env = (false, eval e env) :: starEach rest env)
    (h : EvE B d env (eval e env) loc own (fun x own₁ => EvEs B d env (spliced (backTo pos (starEach rest env))) loc own₁ (fun xs own₂ => Q (x :: xs) own₂) X) X) :
    EvEs B d env (spliced (backTo pos (starEach (e :: rest) env))) loc own Q X := by
  intro A mc f s ok c
  refine wpAny_items_cons (h.run ok c (fun f₁ own₁ s₁ x v st c₁ r q => ?_) fun _ _ e => e) he
  refine q.run ok c₁ (fun f₂ own₂ s₂ xs vs st₂ c₂ r₂ q₂ => ?_) fun _ _ e => e.trans st
  exact ⟨f₂, own₂, x :: xs, st.trans st₂, c₂, .cons (r.mono st₂.mono) r₂, q₂⟩

theorem ev_tuple {elts : List Expr} {k : Nat} {pos : Pos} {Q : AV → Own → Prop}
    (h : EvEs B d env (spliced (backTo pos (starEach elts env))) loc own (fun xs own₁ => xs.length ≤ 100000 ∧ Q (.tup xs) own₁) X) : EvE B d env (eval (.Tuple elts k pos) env) loc own Q X := by
  intro A mc f s ok c
  refine wpAny_Tuple (h.run ok c (fun f₁ own₁ s₁ xs vs st c₁ r q => ⟨?_, PostE.trans st ?_⟩) fun _ _ e => e)
  · have := r.length; rw [sizeLine_is]; omega
  · exact mkT_post (n := 0) c₁ s₁.toks (push_keeps _ _) (get?_size _) (Heap.get?_push_size _ rfl) r q.2
theorem ev_list {o : Bool} {elts : List Expr} {pos : Pos} {Q : AV → Own → Prop}
    (h : EvEs B d env (spliced (backTo pos (starEach elts env))) loc own (fun xs own₁ => xs.length ≤ 100000 ∧ mkL o xs own₁ Q) X) : EvE B d env (eval (.List elts pos) env) loc own Q X := by
  intro A mc f s ok c
  refine wpAny_List (h.run ok c (fun f₁ own₁ s₁ xs vs st c₁ r q => ⟨?_, PostE.trans st ?_⟩) fun _ _ e => e)
  · have := r.length; rw [sizeLine_is]; omega
  · exact mkL_post (n := 0) c₁ s₁.toks (push_keeps _ _) (get?_size _) (Heap.get?_push_size _ rfl) r q.2

theorem ev_bin {o : Bool} {l r : Expr} {op : Op} {pos : Pos} {Q : AV → Own → Prop}
    (h : EvE B d env (eval l env) loc own (fun x own₁ => EvE B d env (eval r env) loc own₁ (fun y own₂ => binS o op x y own₂ Q) X) X) : EvE B d env (eval (.BinOp l op.op r pos) env) loc own Q X := by
  intro A mc f s ok c
  refine wpAny_BinOp (h.run ok c (fun f₁ own₁ s₁ x a st c₁ r₁ q => ?_) fun _ _ e => e)
  refine q.run ok c₁ (fun f₂ own₂ s₂ y b st₂ c₂ r₂ q₂ => ?_) fun _ _ e => e.trans st
  exact wpAny_mono (bin_of c₂ (r₁.mono st₂.mono) r₂ q₂) (fun _ _ p => p.trans (st.trans st₂)) fun _ _ e => e
end
end Mine

namespace Mine
open PySem PySem.Spec

noncomputable def asB (Q : Bool → Own → Prop) : AV → Own → Prop := fun v own => ∃ b, v = .bool b ∧ Q b own

section
variable {B : Amb} {d : Nat} {env : Env} {loc : Loc} {mc : Str → Option Value} {f : Fz} {own : Own} {s : Shared} {A : Around} {X : XP}

theorem evT_value {e : Expr} {Q : Bool → Own → Prop} (h : EvE B d env (eval e env) loc own (asB Q) X)
    (he : isTrue e env (eval e env) = (do let v ← eval e env; standAt e.pos; holding [v] (truthy v))) : EvT B d env (isTrue e env (eval e env)) loc own Q X := by
  intro A mc f s ok c
  refine wpAny_isTrue_value (h.run ok c (fun f₁ own₁ s₁ x v st c₁ r q => ?_) fun _ _ e => e) he
  obtain ⟨b, rfl, q⟩ := q
  simp only [RelV] at r; subst r
  exact wpAny_truthy_bool ⟨f₁, own₁, st, c₁, q⟩

theorem ev_not {e : Expr} {pos : Pos} {Q : AV → Own → Prop} (h : EvE B d env (eval e env) loc own (asB fun b o => Q (.bool !b) o) X) : EvE B d env (eval (.UnaryOp .Not e pos) env) loc own Q X := by
  intro A mc f s ok c
  refine wpAny_UnaryOp (h.run ok c (fun f₁ own₁ s₁ x v st c₁ r q => ?_) fun _ _ e => e)
  obtain ⟨b, rfl, q⟩ := q
  simp only [RelV] at r; subst r
  exact not_value (wpAny_truthy_bool ⟨f₁, own₁, _, st, c₁, relV_bool, q⟩)
theorem evT_not {e : Expr} {pos : Pos} {whole : Sem Value} {Q : Bool → Own → Prop} (h : EvT B d env (isTrue e env (eval e env)) loc own (fun b o => Q (!b) o) X) : EvT B d env (isTrue (.UnaryOp .Not e pos) env whole) loc own Q X :=
  fun A mc f s ok c => wpAny_isTrue_Not (h.run ok c (fun f₁ own₁ s₁ b st c₁ q => ⟨f₁, own₁, st, c₁, q⟩) fun _ _ e => e)
noncomputable def opB (isAnd : Bool) : BoolOp := if isAnd then .And else .Or

theorem ev_bool1 {e : Expr} {isAnd : Bool} {pos : Pos} {Q : AV → Own → Prop} (h : EvE B d env (eval e env) loc own Q X) : EvE B d env (boolOp pos (opB isAnd) (evalEach [e] env)) loc own Q X := h
theorem ev_boolN {e e' : Expr} {rest : List Expr} {isAnd : Bool} {pos : Pos} {Q : AV → Own → Prop}
    (h : EvE B d env (eval e env) loc own (asB fun b own₁ => if b = isAnd then EvE B d env (boolOp pos (opB isAnd) (evalEach (e' :: rest) env)) loc own₁ Q X else Q (.bool b) own₁) X) :
    EvE B d env (boolOp pos (opB isAnd) (evalEach (e :: e' :: rest) env)) loc own Q X := by
  intro A mc f s ok c
  show wpAny B.M A (do
    let v ← eval e env
    standAt pos
    let t ← holding [v] (truthy v)
    match opB isAnd, t with
    | .And, false | .Or, true => pure v
    | _, _ => boolOp pos (opB isAnd) (evalEach (e' :: rest) env)) _ _ s
  refine wpAny_bind (h.run ok c (fun f₁ own₁ s₁ x v st c₁ r q => ?_) fun _ _ e => e)
  obtain ⟨b, rfl, q⟩ := q
  simp only [RelV] at r; subst r
  refine wpAny_bind (wpAny_standAt (wpAny_bind (wpAny_holding (wpAny_truthy_bool ?_))))
  cases isAnd <;> cases b <;> simp only [opB, if_true, Bool.false_eq_true, if_false, reduceCtorEq] at q ⊢
  · exact q.run ok c₁ (fun f₂ own₂ s₂ y w st₂ c₂ r₂ q₂ => ⟨f₂, own₂, y, st.trans st₂, c₂, r₂, q₂⟩) fun _ _ e => e.trans st
  · exact wpAny_pure ⟨f₁, own₁, _, st, c₁, relV_bool, q⟩
  · exact wpAny_pure ⟨f₁, own₁, _, st, c₁, relV_bool, q⟩
  · exact q.run ok c₁ (fun f₂ own₂ s₂ y w st₂ c₂ r₂ q₂ => ⟨f₂, own₂, y, st.trans st₂, c₂, r₂, q₂⟩) fun _ _ e => e.trans st
theorem ev_boolop {values : List Expr} {isAnd : Bool} {pos : Pos} {Q : AV → Own → Prop} (h : EvE B d env (boolOp pos (opB isAnd) (evalEach values env)) loc own Q X) : EvE B d env (eval (.BoolOp (opB isAnd) values pos) env) loc own Q X := h

theorem evT_all1 {e : Expr} {isAnd : Bool} {Q : Bool → Own → Prop} (h : EvT B d env (isTrue e env (eval e env)) loc own Q X) : EvT B d env (allTrue (opB isAnd) [e] env) loc own Q X := by
  intro A mc f s ok c
  cases isAnd
  · refine wpAny_allTrue_Or_cons (h.run ok c (fun f₁ own₁ s₁ b st c₁ q => ?_) fun _ _ e => e)
    cases b
    · exact wpAny_allTrue_Or_nil ⟨f₁, own₁, st, c₁, q⟩
    · exact ⟨f₁, own₁, st, c₁, q⟩
  · refine wpAny_allTrue_And_cons (h.run ok c (fun f₁ own₁ s₁ b st c₁ q => ?_) fun _ _ e => e)
    cases b
    · exact ⟨f₁, own₁, st, c₁, q⟩
    · exact wpAny_allTrue_And_nil ⟨f₁, own₁, st, c₁, q⟩
theorem evT_allN {e : Expr} {rest : List Expr} {isAnd : Bool} {Q : Bool → Own → Prop}
    (h : EvT B d env (isTrue e env (eval e env)) loc own (fun b own₁ => if b = isAnd then EvT B d env (allTrue (opB isAnd) rest env) loc own₁ Q X else Q b own₁) X) : EvT B d env (allTrue (opB isAnd) (e :: rest) env) loc own Q X := by
  intro A mc f s ok c
  cases isAnd
  · refine wpAny_allTrue_Or_cons (h.run ok c (fun f₁ own₁ s₁ b st c₁ q => ?_) fun _ _ e => e)
    cases b
    · simp only [if_true, Bool.false_eq_true, if_false] at q ⊢
      exact q.run ok c₁ (fun f₂ own₂ s₂ b st₂ c₂ q₂ => ⟨f₂, own₂, st.trans st₂, c₂, q₂⟩) fun _ _ e => e.trans st
    · simp only [reduceCtorEq, if_true, if_false] at q ⊢
      exact ⟨f₁, own₁, st, c₁, q⟩
  · refine wpAny_allTrue_And_cons (h.run ok c (fun f₁ own₁ s₁ b st c₁ q => ?_) fun _ _ e => e)
    cases b
    · simp only [reduceCtorEq, Bool.false_eq_true, if_false] at q ⊢
      exact ⟨f₁, own₁, st, c₁, q⟩
    · simp only [if_true] at q ⊢
      exact q.run ok c₁ (fun f₂ own₂ s₂ b st₂ c₂ q₂ => ⟨f₂, own₂, st.trans st₂, c₂, q₂⟩) fun _ _ e => e.trans st
theorem evT_boolop {values : List Expr} {isAnd : Bool} {pos : Pos} {whole : Sem Value} {Q : Bool → Own → Prop} (h : EvT B d env (allTrue (opB isAnd) values env) loc own Q X) : EvT B d env (isTrue (.BoolOp (opB isAnd) values pos) env whole) loc own Q X :=
  fun A mc f s ok c => wpAny_isTrue_BoolOp (h A mc f s ok c)

theorem wpAny_release' {M : Model} {E : Value → Shared → Prop} {vs keep : List Value} {Q : Unit → Shared → Prop} (h : Q () s) : wpAny M A (release vs keep) Q E s :=
  fun Γ p _ => by rw [Sem.wp_release]; exact h
theorem OkA.u20 (ok : OkA d A) : A.units + 20 < cLine := by have := ok.units; omega
variable (hs : True)
include hs

noncomputable def EvC (B : Amb) (d : Nat) (env : Env) (x : AV) (t : Value → Sem Value) (loc : Loc) (own : Own) (Q : AV → Own → Prop) (X : XP) : Prop :=
  ∀ A mc f s v, OkA d A → Cfg B env loc mc f own s → RelV f x v → wpAny B.M A (t v) (PostE B env loc mc f own s Q) (EPost B env f own s X) s

theorem evC_one {x : AV} {op : Cp} {r : Sem Value} {pos : Pos} {Q : AV → Own → Prop} (h : EvE B d env r loc own (fun y own₁ => ∃ b, cmpV own₁ op x y = some b ∧ Q (.bool b) own₁) X) :
    EvC B d env x (fun v => compareChain pos v [op.op] [r]) loc own Q X := by
  intro A mc f s v ok c hv
  show wpAny B.M A (do let rv ← holding [v] r; standAt pos; operate [v, rv] (compareOp op.op v rv)) _ _ s
  refine wpAny_bind (wpAny_holding (h.run ok c (fun f₁ own₁ s₁ y w st c₁ r₁ q => ?_) fun _ _ e => e))
  obtain ⟨b, hb, q⟩ := q
  refine wpAny_bind (wpAny_standAt (wpAny_operateT ?_))
  exact compare_of hs ok.u20 c₁.inv (hv.mono st.mono) r₁ hb fun t => PostE.trans st (PostE.tok c₁ relV_bool q t)
theorem evC_more {x : AV} {op op' : Cp} {ops : List CmpOp} {r r' : Sem Value} {rs : List (Sem Value)} {pos : Pos} {Q : AV → Own → Prop}
    (h : EvE B d env r loc own (fun y own₁ => ∃ b, cmpV own₁ op x y = some b ∧ if b then EvC B d env y (fun v => compareChain pos v (op'.op :: ops) (r' :: rs)) loc own₁ Q X else Q (.bool false) own₁) X) :
    EvC B d env x (fun v => compareChain pos v (op.op :: op'.op :: ops) (r :: r' :: rs)) loc own Q X := by
  intro A mc f s v ok c hv
  show wpAny B.M A (do
    let rv ← holding [v] r
    standAt pos
    let c ← holding [v, rv] (compareOp op.op v rv)
    release [v, rv] [c]
    if ← holding [c, rv] (truthy c) then compareChain pos rv (op'.op :: ops) (r' :: rs) else pure c) _ _ s
  refine wpAny_bind (wpAny_holding (h.run ok c (fun f₁ own₁ s₁ y w st c₁ r₁ q => ?_) fun _ _ e => e))
  obtain ⟨b, hb, q⟩ := q
  refine wpAny_bind (wpAny_standAt (wpAny_bind (wpAny_holding ?_)))
  refine compare_of hs ok.u20 c₁.inv (hv.mono st.mono) r₁ hb fun t => ?_
  refine wpAny_bind (wpAny_release' ?_)
  refine wpAny_bind (wpAny_holding (wpAny_truthy_bool ?_))
  · have st' : Step (exOf env) f own s f₁ own₁ { s₁ with toks := t } := st.trans (Step.toks t)
    cases b
    · simp only [Bool.false_eq_true, if_false] at q ⊢
      exact wpAny_pure ⟨f₁, own₁, _, st', c₁.toks t, relV_bool, q⟩
    · simp only [if_true] at q ⊢
      exact wpAny_mono (q A mc f₁ _ w ok (c₁.toks t) r₁) (fun _ _ p => p.trans st') fun _ _ e => e.trans st'

noncomputable def EvCT (B : Amb) (d : Nat) (env : Env) (x : AV) (t : Value → Sem Bool) (loc : Loc) (own : Own) (Q : Bool → Own → Prop) (X : XP) : Prop :=
  ∀ A mc f s v, OkA d A → Cfg B env loc mc f own s → RelV f x v → wpAny B.M A (t v) (PostT B env loc mc f own s Q) (EPost B env f own s X) s
theorem evCT_one {x : AV} {op : Cp} {r : Sem Value} {pos : Pos} {Q : Bool → Own → Prop} (h : EvE B d env r loc own (fun y own₁ => ∃ b, cmpV own₁ op x y = some b ∧ Q b own₁) X) :
    EvCT B d env x (fun v => testChain pos v [op.op] [r]) loc own Q X := by
  intro A mc f s v ok c hv
  show wpAny B.M A (do let rv ← holding [v] r; standAt pos; let c ← operate [v, rv] (compareOp op.op v rv); holding [c] (truthy c)) _ _ s
  refine wpAny_bind (wpAny_holding (h.run ok c (fun f₁ own₁ s₁ y w st c₁ r₁ q => ?_) fun _ _ e => e))
  obtain ⟨b, hb, q⟩ := q
  refine wpAny_bind (wpAny_standAt (wpAny_bind (wpAny_operateT ?_)))
  exact compare_of hs ok.u20 c₁.inv (hv.mono st.mono) r₁ hb fun t => wpAny_holding (wpAny_truthy_bool ⟨f₁, own₁, st.trans (Step.toks t), c₁.toks t, q⟩)
omit hs

theorem ev_compare {l : Expr} {ops : List CmpOp} {cs : List Expr} {pos : Pos} {Q : AV → Own → Prop} (hm : markedEach ops cs (evalEach cs env) = evalEach cs env)
    (h : EvE B d env (eval l env) loc own (fun x own₁ => EvC B d env x (fun v => compareChain pos v ops (evalEach cs env)) loc own₁ Q X) X) : EvE B d env (eval (.Compare l ops cs pos) env) loc own Q X := by
  intro A mc f s ok c
  show wpAny B.M A (do compareChain pos (← eval l env) ops (markedEach ops cs (evalEach cs env))) _ _ s
  rw [hm]
  refine wpAny_bind (h.run ok c (fun f₁ own₁ s₁ x v st c₁ r q => ?_) fun _ _ e => e)
  exact wpAny_mono (q A mc f₁ s₁ v ok c₁ r) (fun _ _ p => p.trans st) fun _ _ e => e.trans st
theorem evT_compare {l : Expr} {ops : List CmpOp} {cs : List Expr} {pos : Pos} {whole : Sem Value} {Q : Bool → Own → Prop} (hm : markedEach ops cs (evalEach cs env) = evalEach cs env)
    (h : EvE B d env (eval l env) loc own (fun x own₁ => EvCT B d env x (fun v => testChain pos v ops (evalEach cs env)) loc own₁ Q X) X) : EvT B d env (isTrue (.Compare l ops cs pos) env whole) loc own Q X := by
  intro A mc f s ok c
  show wpAny B.M A (do testChain pos (← eval l env) ops (markedEach ops cs (evalEach cs env))) _ _ s
  rw [hm]
  refine wpAny_bind (h.run ok c (fun f₁ own₁ s₁ x v st c₁ r q => ?_) fun _ _ e => e)
  exact wpAny_mono (q A mc f₁ s₁ v ok c₁ r) (fun _ _ p => p.trans st) fun _ _ e => e.trans st
end
end Mine

namespace Mine
open PySem PySem.Spec

noncomputable def Loc.upd (x : String) (v : AV) : Loc → Loc
  | [] => [(x, v)]
  | (y, w) :: r => if y = x then (x, v) :: r else (y, w) :: Loc.upd x v r
theorem Loc.lookup_upd (x : String) (v : AV) : ∀ (l : Loc) (y : String), (Loc.upd x v l).lookup y = if y = x then some v else l.lookup y
  | [], y => by
    simp only [Loc.upd, List.lookup_cons, List.lookup_nil]
    by_cases h : y = x
    · simp [h]
    · have hb : (y == x) = false := by simp [h]
      simp [hb, h]
  | (z, w) :: r, y => by
    simp only [Loc.upd]
    by_cases hz : z = x
    · subst hz
      simp only [if_true, List.lookup_cons]
      by_cases h : y = z
      · simp [h]
      · have hb : (y == z) = false := by simp [h]
        simp [hb, h]
    · simp only [if_neg hz, List.lookup_cons, Loc.lookup_upd x v r y]
      by_cases h : y = z
      · subst h; simp [hz]
      · have hb : (y == z) = false := by simp [h]
        simp [hb]
noncomputable def Loc.upds : List String → List AV → Loc → Loc
  | x :: xs, v :: vs, l => Loc.upds xs vs (Loc.upd x v l)
  | _, _, l => l

section
variable {B : Amb} {d : Nat} {env : Env} {loc : Loc} {mc : Str → Option Value} {f : Fz} {own : Own} {s : Shared} {A : Around} {X : XP}

noncomputable def EvU (B : Amb) (d : Nat) (env : Env) (W : List String) (t : Value → Sem Unit) (x : AV) (loc : Loc) (own : Own) (R : Loc → Own → Prop) (X : XP) : Prop :=
  ∀ A mc f s v, OkA d A → Cfg B env loc mc f own s → RelV f x v → wpAny B.M A (t v) (PostU B env mc W f own s R) (EPost B env f own s X) s

theorem sameBut_live {a : Addr} {h h' : Heap} (hs : Heap.SameBut a h h') (ha : ∃ o, h'.get? a = some o) : ∀ b o, h.get? b = some o → ∃ o', h'.get? b = some o' := fun b o e => by
  by_cases hb : b = a
  · subst hb; exact ha
  · exact ⟨o, (hs.2 b hb).trans e⟩

theorem store_name {x : String} {v : AV} {cv : Value} {E : Value → Shared → Prop} {R : Unit → Shared → Prop} (he : EnvOk env) (hx : env.kindOf (Str.ofString x) = some .local ∨ env.kindOf (Str.ofString x) = some .cell)
    (c : Cfg B env loc mc f own s) (r : RelV f v cv) (k : ∀ mc' s', Step (exOf env) f own s f own s' → Cfg B env (Loc.upd x v loc) mc' f own s' → (∀ y, y ≠ Str.ofString x → mc' y = mc y) → R () s') : wpAny B.M A (storeName env (Str.ofString x) cv) R E s := by
  have rel : ∀ y w, (Loc.upd x v loc).lookup y = some w → ∃ c', (fun z => if z = Str.ofString x then some cv else mc z) (Str.ofString y) = some c' ∧ RelV f w c' := by
    intro y w hy
    rw [Loc.lookup_upd] at hy
    by_cases h : y = x
    · subst h; simp only [if_true, Option.some.injEq] at hy; subst hy
      exact ⟨cv, by simp, r⟩
    · rw [if_neg h] at hy
      obtain ⟨c', h1, h2⟩ := c.rel y w hy
      exact ⟨c', by simp only [if_neg (fun e => h (ofString_inj e))]; exact h1, h2⟩
  rcases hx with hx | hx
  · obtain ⟨ml, hn, hml⟩ := c.fra.ns
    refine wpAny_storeName_local hx hn (fun h' hn' hs' => ?_) (by rw [he.kind]; rfl)
    have hL : ∃ o, h'.get? env.locals = some o := let ⟨o, _, _, ho, _⟩ := hn'; ⟨o, ho⟩
    have kp : ∀ b o, b ≠ env.locals → s.heap.get? b = some o → h'.get? b = some o := fun b o hb e => (hs'.2 b hb).trans e
    have hfL : f env.locals = none := (c.apart env.locals (by simp)).2.1
    have hoL : env.locals ∉ addrs own := (c.apart env.locals (by simp)).1
    refine k (fun z => if z = Str.ofString x then some cv else mc z) _ ⟨.refl f, fun _ _ h => .inl h, fun b o e _ h2 => kp b o (fun h => h2 (by simp [h])) e, fun _ h => .inl h, sameBut_live hs' hL⟩ ⟨⟨?_, c.inv.base, fun b o e => kp b o (fun h => by rw [h, hfL] at e; cases e) (c.inv.sub b o e),
      fun p hp => ?_, c.inv.nodup⟩, ⟨⟨_, hn', fun y hy => ?_⟩, fun y hy => ?_⟩, rel, fun a ha => ?_, c.cells⟩ fun y hy => by simp [hy]
    · obtain ⟨h, t, dr, e⟩ := c.inv.same; exact ⟨h', s.toks + 1, dr, by rw [e]⟩
    · obtain ⟨z, o, ho, q⟩ := c.inv.led p hp
      exact ⟨z, o, kp _ _ (fun h => hoL (h ▸ List.mem_map.mpr ⟨p, hp, rfl⟩)) ho, q⟩
    · by_cases h : y = Str.ofString x <;> simp [h, hml y hy]
    · obtain ⟨a, ha, o, ho, hd⟩ := c.fra.cell y hy
      refine ⟨a, ha, o, kp _ _ (c.cells (y, a) (mem_of_lookup ha)) ho, ?_⟩
      have hyx : y ≠ Str.ofString x := fun h => by
        subst h; rw [hx] at hy; rcases hy with h | h <;> cases h
      simp [hyx, hd]
    · obtain ⟨z1, z2, o, z3⟩ := c.apart a ha
      by_cases h : a = env.locals
      · subst h; exact ⟨z1, z2, hL⟩
      · exact ⟨z1, z2, o, kp _ _ h z3⟩
  · obtain ⟨a, ha, hi⟩ := c.fra.cell _ (.inl hx)
    have hm : (Str.ofString x, a) ∈ env.cells := mem_of_lookup ha
    have hex : a ∈ exOf env := by simp only [exOf, List.mem_cons, List.mem_map]; exact .inr ⟨_, hm, rfl⟩
    refine wpAny_storeName_cell he.kind hx ha hi fun h' hi' hs' => ?_
    have hA : ∃ o, h'.get? a = some o := let ⟨o, ho, _⟩ := hi'; ⟨o, ho⟩
    have kp : ∀ b o, b ≠ a → s.heap.get? b = some o → h'.get? b = some o := fun b o hb e => (hs'.2 b hb).trans e
    have hfA : f a = none := (c.apart a hex).2.1
    have hoA : a ∉ addrs own := (c.apart a hex).1
    have hne : a ≠ env.locals := c.cells _ hm
    refine k (fun z => if z = Str.ofString x then some cv else mc z) _ ⟨.refl f, fun _ _ h => .inl h, fun b o e _ h2 => kp b o (fun h => h2 (h ▸ hex)) e, fun _ h => .inl h, sameBut_live hs' hA⟩ ⟨⟨?_, c.inv.base, fun b o e => kp b o (fun h => by rw [h, hfA] at e; cases e) (c.inv.sub b o e),
      fun p hp => ?_, c.inv.nodup⟩, ⟨?_, fun y hy => ?_⟩, rel, fun b hb => ?_, c.cells⟩ fun y hy => by simp [hy]
    · obtain ⟨h, t, dr, e⟩ := c.inv.same; exact ⟨h', s.toks, dr, by rw [e]⟩
    · obtain ⟨z, o, ho, q⟩ := c.inv.led p hp
      exact ⟨z, o, kp _ _ (fun h => hoA (h ▸ List.mem_map.mpr ⟨p, hp, rfl⟩)) ho, q⟩
    · obtain ⟨ml, hn, hml⟩ := c.fra.ns
      refine ⟨ml, hn.sameBut hs' (fun h => hne h.symm), fun y hy => ?_⟩
      have hyx : y ≠ Str.ofString x := fun h => by subst h; rw [hx] at hy; cases hy
      simp [hyx, hml y hy]
    · by_cases h : y = Str.ofString x
      · subst h; exact ⟨a, ha, by simpa using hi'⟩
      · obtain ⟨b, hb, o, ho, hd⟩ := c.fra.cell y hy
        exact ⟨b, hb, o, kp _ _ (fun e => h (he.apart _ _ _ (e ▸ hb) ha)) ho, by simp [h, hd]⟩
    · obtain ⟨z1, z2, o, z3⟩ := c.apart b hb
      by_cases h : b = a
      · subst h; exact ⟨z1, z2, hA⟩
      · exact ⟨z1, z2, o, kp _ _ h z3⟩

theorem evU_names {R : Loc → Own → Prop} (he : EnvOk env) : ∀ (xs : List String) (ps : List Pos) (vs : List AV) (loc : Loc) (mc : Str → Option Value) (s : Shared) (ws : List Value), xs.length = ps.length → xs.length = vs.length →
    (∀ x ∈ xs, env.kindOf (Str.ofString x) = some .local ∨ env.kindOf (Str.ofString x) = some .cell) → Cfg B env loc mc f own s → RelVs f vs ws → R (Loc.upds xs vs loc) own →
    wpAny B.M A (assignInOrder ((assignEach ((xs.zip ps).map fun q => .Name (Str.ofString q.1) q.2) env).map (·.2)) ws) (PostU B env mc xs f own s R) (EPost B env f own s X) s
  | [], ps, vs, loc, mc, s, ws, _, h2, _, c, r, h => by
    have hv : vs = [] := by simpa using h2.symm
    subst hv
    simp only [RelVs] at r; subst r
    exact wpAny_pure ⟨f, own, loc, mc, .refl .., c, fun _ _ => rfl, h⟩
  | x :: xs, [], _, _, _, _, _, h1, _, _, _, _, _ => by simp at h1
  | x :: xs, p :: ps, [], _, _, _, _, _, h2, _, _, _, _ => by simp at h2
  | x :: xs, p :: ps, v :: vs, loc, mc, s, ws, h1, h2, hk, c, r, h => by
    simp only [RelVs] at r
    obtain ⟨w, ws', rfl, rv, rs⟩ := r
    show wpAny B.M A (do holding ws' (assign (.Name (Str.ofString x) p) env w); assignInOrder ((assignEach ((xs.zip ps).map fun q => .Name (Str.ofString q.1) q.2) env).map (·.2)) ws') _ _ s
    refine wpAny_bind (wpAny_holding ?_)
    rw [assign_Name]
    refine wpAny_bind (wpAny_standAt (wpAny_bindName (store_name he (hk x (by simp)) c rv fun mc' s' st c' hm => ?_)))
    refine wpAny_mono (evU_names he xs ps vs _ mc' s' ws' (by simpa using h1) (by simpa using h2) (fun y hy => hk y (by simp [hy])) c' rs h) (fun _ _ p => ?_) fun _ _ e => e.trans st
    obtain ⟨f₂, own₂, l₂, m₂, st₂, c₂, e₂, q₂⟩ := p
    exact ⟨f₂, own₂, l₂, m₂, st.trans st₂, c₂, fun y hy => (e₂ y fun z hz => hy z (by simp [hz])).trans (hm y (hy x (by simp))), q₂⟩

theorem assignEach_plain {xs : List String} {ps : List Pos} : (assignEach ((xs.zip ps).map fun q => Expr.Name (Str.ofString q.1) q.2) env).findIdx? (·.1) = none ∧ (assignEach ((xs.zip ps).map fun q => Expr.Name (Str.ofString q.1) q.2) env).length = (xs.zip ps).length := by
  generalize xs.zip ps = l
  induction l with
  | nil => exact ⟨rfl, rfl⟩
  | cons q l ih =>
    have e : assignEach ((q :: l).map fun q => Expr.Name (Str.ofString q.1) q.2) env = (false, assign (.Name (Str.ofString q.1) q.2) env) :: assignEach (l.map fun q => Expr.Name (Str.ofString q.1) q.2) env := rfl
    rw [e]
    exact ⟨by simp [List.findIdx?_cons, ih.1], by simp [ih.2]⟩

theorem isTuple_of {T : Addr} {ws : List Value} {n : Nat} {h : Heap} (e : h.get? T = some (sq "tuple" ws n)) : h.IsTuple T ws.toArray := ⟨_, e, rfl, n, rfl⟩
theorem isList_of {T : Addr} {ws : List Value} {n : Nat} {h : Heap} (e : h.get? T = some (sq "list" ws n)) : h.IsList T ws.toArray := ⟨_, e, rfl, n, rfl⟩

theorem evS_nil {R : AFlow → Loc → Own → Prop} (h : R .next loc own) : EvS B d env (execs [] env) loc own R X :=
  fun _ mc f s _ c => wpAny_execs_nil ⟨f, own, loc, mc, .next, .refl .., c, rfl, h⟩
theorem evS_cons {st : Stmt} {rest : List Stmt} {R : AFlow → Loc → Own → Prop}
    (h : EvS B d env (exec st env) loc own (fun fl loc₁ own₁ => match fl with | .next => EvS B d env (execs rest env) loc₁ own₁ R X | fl => R fl loc₁ own₁) X) : EvS B d env (execs (st :: rest) env) loc own R X := by
  intro A mc f s ok c
  refine wpAny_execs_cons (h.run ok c (fun f₁ own₁ s₁ loc₁ mc₁ fl w st c₁ r q => ?_) fun _ _ e => e)
  cases fl with
  | next =>
    simp only [RelFl] at r; subst r
    exact q.run ok c₁ (fun f₂ own₂ s₂ loc₂ mc₂ fl w st₂ c₂ r₂ q₂ => ⟨f₂, own₂, loc₂, mc₂, fl, st.trans st₂, c₂, r₂, q₂⟩) fun _ _ e => e.trans st
  | brk => simp only [RelFl] at r; subst r; exact ⟨f₁, own₁, loc₁, mc₁, .brk, st, c₁, rfl, q⟩
  | cont => simp only [RelFl] at r; subst r; exact ⟨f₁, own₁, loc₁, mc₁, .cont, st, c₁, rfl, q⟩
  | ret v =>
    have r' := r
    simp only [RelFl] at r
    obtain ⟨c', rfl, rv⟩ := r
    exact ⟨f₁, own₁, loc₁, mc₁, .ret v, st, c₁, r', q⟩
theorem evS_ret {e : Expr} {pos : Pos} {R : AFlow → Loc → Own → Prop} (h : EvE B d env (eval e env) loc own (fun v own₁ => R (.ret v) loc own₁) X) : EvS B d env (exec (.Return (some e) pos) env) loc own R X :=
  fun A mc f s ok c => wpAny_Return_some (h.run ok c (fun f₁ own₁ s₁ x v st c₁ r q => ⟨f₁, own₁, loc, mc, .ret x, st, c₁, ⟨v, rfl, r⟩, q⟩) fun _ _ e => e)
theorem evS_if {test : Expr} {body orelse : List Stmt} {pos : Pos} {R : AFlow → Loc → Own → Prop}
    (h : EvT B d env (isTrue test env (eval test env)) loc own (fun b own₁ => if b then EvS B d env (execs body env) loc own₁ R X else EvS B d env (execs orelse env) loc own₁ R X) X) :
    EvS B d env (exec (.If test body orelse pos) env) loc own R X := by
  intro A mc f s ok c
  refine wpAny_If (h.run ok c (fun f₁ own₁ s₁ b st c₁ q => ?_) fun _ _ e => e)
  cases b <;> simp only [if_true, Bool.false_eq_true, if_false] at q ⊢ <;>
  exact q.run ok c₁ (fun f₂ own₂ s₂ loc₂ mc₂ fl w st₂ c₂ r₂ q₂ => ⟨f₂, own₂, loc₂, mc₂, fl, st.trans st₂, c₂, r₂, q₂⟩) fun _ _ e => e.trans st
theorem evS_expr {e : Expr} {pos : Pos} {R : AFlow → Loc → Own → Prop} (hk : env.scope.kind = .function) (hs : swapsWith e none pos.line env = pure false) (h : EvE B d env (eval e env) loc own (fun _ own₁ => R .next loc own₁) X) :
    EvS B d env (exec (.Expr e pos) env) loc own R X :=
  fun A mc f s ok c => wpAny_Expr_any (h.run ok c (fun f₁ own₁ s₁ x v st c₁ r q => ⟨f₁, own₁, loc, mc, .next, st, c₁, rfl, q⟩) fun _ _ e => e) (by unfold interactive; rw [hk]; rfl) hs
theorem evS_assign {x : String} {px : Pos} {value : Expr} {pos : Pos} {R : AFlow → Loc → Own → Prop} (he : EnvOk env) (hx : env.kindOf (Str.ofString x) = some .local ∨ env.kindOf (Str.ofString x) = some .cell)
    (hs : swapsWith value (some (.Name (Str.ofString x) px)) pos.line env = pure false) (h : EvE B d env (eval value env) loc own (fun v own₁ => R .next (Loc.upd x v loc) own₁) X) :
    EvS B d env (exec (.Assign [.Name (Str.ofString x) px] value pos) env) loc own R X := by
  intro A mc f s ok c
  refine wpAny_Assign_Name (h.run ok c (fun f₁ own₁ s₁ v cv st c₁ r q => ?_) fun _ _ e => e) hs
  exact store_name he hx c₁ r fun mc' s' st' c' _ => ⟨f₁, own₁, _, mc', .next, st.trans st', c', rfl, q⟩
end
end Mine

namespace Mine
open PySem PySem.Spec

structure FnAt (B : Amb) (a : Addr) (ps : List String) (body : List Stmt) (scope : Scope) : Prop where
  at_ : ∃ o fd, B.s0.heap.get? a = some o ∧ o.data = .func fd ∧ fd.body = .stmts body ∧ fd.scope = scope ∧ fd.globals = mainGlobals ∧ fd.builtins = builtinsNs ∧ fd.closure = [] ∧
    B.s0.heap.CodeRec fd.code fd.qualname ∧ ∀ vals : List Value, vals.length = ps.length → bindArgs fd ⟨vals, []⟩ = pure ((ps.map Str.ofString).zip vals)
  kind : scope.kind = .function
  co : scope.isCoroutine = false
  gen : scope.isGenerator = false
  free : ∀ p ∈ scope.names, p.2 ≠ .free
  nodup : (scope.names.map (·.1)).Nodup
  psNodup : ps.Nodup
  psIn : ∀ p ∈ ps, scope.names.lookup (Str.ofString p) = some .local ∨ scope.names.lookup (Str.ofString p) = some .cell

noncomputable def PostC (B : Amb) (f : Fz) (own : Own) (s : Shared) (Q : AV → Own → Prop) : Value → Shared → Prop :=
  fun v s' => ∃ f' own' x, Step [] f own s f' own' s' ∧ Inv B f' own' s' ∧ RelV f' x v ∧ Q x own'
noncomputable def EPostC (B : Amb) (f : Fz) (own : Own) (s : Shared) (E : Addr → Own → Prop) : Value → Shared → Prop :=
  fun v s' => ∃ f' own' c, Step [] f own s f' own' s' ∧ Inv B f' own' s' ∧ IsExc B f' own' s' c v ∧ E c own'

noncomputable def CallA (B : Amb) (d : Nat) (a : Addr) (vs : List AV) (own : Own) (Q : AV → Own → Prop) (E : Addr → Own → Prop) : Prop :=
  ∀ A f s args, OkA d A → Inv B f own s → RelVs f vs args →
    codeAny B.M A (.call (.ref a) ⟨args, []⟩) (fun r s' => match r with | .ok (.ret v) => PostC B f own s Q v s' | .ok _ => False | .error e => EPostC B f own s E e s') s

theorem OkA.deeper {d : Nat} {A : Around} (ok : OkA (d + 1) A) (env : Env) : OkA d (A.deeper env) := by
  obtain ⟨h, a, b⟩ := ok
  refine ⟨h, ?_, ?_⟩
  · show A.depth + 1 + 10 * d + 10 < recursionLimit; omega
  · show A.units + 3 + 10 * d + 100 < cLine; omega

theorem lookup_of_nodup {α β : Type} [BEq α] [LawfulBEq α] : ∀ {l : List (α × β)} {n : α} {c : β}, (l.map (·.1)).Nodup → (n, c) ∈ l → l.lookup n = some c
  | (k, v) :: r, n, c, hn, hm => by
    simp only [List.map_cons, List.nodup_cons] at hn
    rw [List.lookup_cons]
    rcases List.mem_cons.mp hm with e | hm
    · cases e; simp
    · have hne : (n == k) = false := by
        cases hb : n == k with
        | false => rfl
        | true => rw [beq_iff_eq.mp hb] at hm; exact absurd (List.mem_map.mpr ⟨_, hm, rfl⟩) hn.1
      rw [hne]; exact lookup_of_nodup hn.2 hm

theorem cellsFrom_keys : ∀ (names : List (Str × NameKind)) (n : Nat) (acc : List (Str × Addr)), ∀ x, x ∈ (cellsFrom n names acc).map (·.1) ↔ x ∈ acc.map (·.1) ∨ (x, NameKind.cell) ∈ names
  | [], n, acc, x => by simp [cellsFrom]
  | (m, k) :: r, n, acc, x => by
    unfold cellsFrom
    by_cases hk : k = .cell
    · subst hk
      simp only [beq_self_eq_true, if_true]
      rw [cellsFrom_keys r (n + 1) _ x]
      simp only [List.map_cons, List.mem_cons, Prod.mk.injEq, and_true]
      constructor
      · rintro ((rfl | h) | h)
        · exact .inr (.inl rfl)
        · exact .inl h
        · exact .inr (.inr h)
      · rintro (h | rfl | h)
        · exact .inl (.inr h)
        · exact .inl (.inl rfl)
        · exact .inr h
    · have hb : (k == NameKind.cell) = false := by simpa using hk
      simp only [hb, Bool.false_eq_true, if_false]
      rw [cellsFrom_keys r n acc x]
      simp only [List.mem_cons, Prod.mk.injEq]
      constructor
      · rintro (h | h)
        · exact .inl h
        · exact .inr (.inr h)
      · rintro (h | ⟨_, h⟩ | h)
        · exact .inl h
        · exact absurd h.symm hk
        · exact .inr h
theorem cellsFrom_nodup : ∀ (names : List (Str × NameKind)) (n : Nat) (acc : List (Str × Addr)), (names.map (·.1)).Nodup → (acc.map (·.1)).Nodup → (∀ x ∈ names.map (·.1), x ∉ acc.map (·.1)) → ((cellsFrom n names acc).map (·.1)).Nodup
  | [], n, acc, _, h, _ => by simpa [cellsFrom] using h
  | (m, k) :: r, n, acc, h1, h2, h3 => by
    simp only [List.map_cons, List.nodup_cons] at h1
    unfold cellsFrom
    split
    · refine cellsFrom_nodup r (n + 1) _ h1.2 ?_ ?_
      · simp only [List.map_cons, List.nodup_cons]; exact ⟨h3 m (by simp), h2⟩
      · intro x hx
        simp only [List.map_cons, List.mem_cons, not_or]
        exact ⟨fun e => h1.1 (e ▸ hx), h3 x (by simp only [List.map_cons, List.mem_cons]; exact .inr hx)⟩
    · exact cellsFrom_nodup r n acc h1.2 h2 fun x hx => h3 x (by simp only [List.map_cons, List.mem_cons]; exact .inr hx)

theorem lookup_isSome {α β : Type} [BEq α] [LawfulBEq α] : ∀ {l : List (α × β)} {n : α}, n ∈ l.map (·.1) → ∃ c, l.lookup n = some c
  | (k, v) :: r, n, h => by
    rw [List.lookup_cons]
    cases hb : n == k with
    | true => exact ⟨v, rfl⟩
    | false =>
      simp only [List.map_cons, List.mem_cons] at h
      rcases h with e | h
      · rw [e] at hb; simp at hb
      · exact lookup_isSome h

section
variable {kf : Str → Option NameKind}
theorem bindL_other : ∀ (binds : List (Str × Value)) (m : Str → Option Value) (y : Str), y ∉ binds.map (·.1) → bindL kf binds m y = m y
  | [], _, _, _ => rfl
  | (n, v) :: r, m, y, h => by
    simp only [List.map_cons, List.mem_cons, not_or] at h
    unfold bindL
    rw [bindL_other r _ y h.2]
    split
    · simp [h.1]
    · rfl
theorem bindL_at : ∀ (binds : List (Str × Value)) (m : Str → Option Value) (y : Str) (v : Value), (binds.map (·.1)).Nodup → (y, v) ∈ binds → kf y = some .local → bindL kf binds m y = some v
  | (n, w) :: r, m, y, v, hn, hm, hk => by
    simp only [List.map_cons, List.nodup_cons] at hn
    unfold bindL
    rcases List.mem_cons.mp hm with e | hm
    · cases e
      rw [bindL_other r _ _ hn.1, if_pos hk]; simp
    · exact bindL_at r _ y v hn.2 hm hk
theorem bindC_other : ∀ (binds : List (Str × Value)) (m : Str → Option Value) (y : Str), y ∉ binds.map (·.1) → bindC kf binds m y = m y
  | [], _, _, _ => rfl
  | (n, v) :: r, m, y, h => by
    simp only [List.map_cons, List.mem_cons, not_or] at h
    unfold bindC
    rw [bindC_other r _ y h.2]
    split
    · rfl
    · simp [h.1]
theorem bindC_at : ∀ (binds : List (Str × Value)) (m : Str → Option Value) (y : Str) (v : Value), (binds.map (·.1)).Nodup → (y, v) ∈ binds → kf y = some .cell → bindC kf binds m y = some v
  | (n, w) :: r, m, y, v, hn, hm, hk => by
    simp only [List.map_cons, List.nodup_cons] at hn
    unfold bindC
    rcases List.mem_cons.mp hm with e | hm
    · cases e
      rw [bindC_other r _ _ hn.1, if_neg (by rw [hk]; decide)]; simp
    · exact bindC_at r _ y v hn.2 hm hk
end

theorem zip_mem {f : Fz} : ∀ {ps : List String} {vs : List AV} {ws : List Value} {x : String} {v : AV}, RelVs f vs ws → (ps.zip vs).lookup x = some v → ∃ c, (Str.ofString x, c) ∈ (ps.map Str.ofString).zip ws ∧ RelV f v c ∧ x ∈ ps
  | [], _, _, _, _, _, h => by simp at h
  | p :: ps, [], _, _, _, _, h => by simp at h
  | p :: ps, u :: vs, _, x, v, r, h => by
    simp only [RelVs] at r
    obtain ⟨w, ws, rfl, hu, hr⟩ := r
    rw [List.zip_cons_cons, List.lookup_cons] at h
    cases hb : x == p with
    | true =>
      rw [hb] at h; cases h
      rw [beq_iff_eq.mp hb]
      exact ⟨w, by simp, hu, by simp⟩
    | false =>
      rw [hb] at h
      obtain ⟨c, h1, h2, h3⟩ := zip_mem hr h
      exact ⟨c, by simp only [List.map_cons, List.zip_cons_cons]; exact List.mem_cons_of_mem _ h1, h2, List.mem_cons_of_mem _ h3⟩

section
variable {B : Amb} {d : Nat} {f : Fz} {own : Own} {s : Shared} {A : Around}

theorem Inv.grow (i : Inv B f own s) {h' : Heap} (t : Nat) (k : ∀ b o, s.heap.get? b = some o → h'.get? b = some o) : Inv B f own { s with heap := h', toks := t } :=
  ⟨let ⟨h, _, dr, e⟩ := i.same; ⟨h', t, dr, by rw [e]⟩, i.base, fun b o e => k b o (i.sub b o e), fun p hp => let ⟨a, o, ho, r⟩ := i.led p hp; ⟨a, o, k _ _ ho, r⟩, i.nodup⟩

theorem call_intro {a : Addr} {ps : List String} {body : List Stmt} {scope : Scope} {vs : List AV} {Q : AV → Own → Prop} {E : Addr → Own → Prop} (hB : BaseOk B) (hf : FnAt B a ps body scope) (hlen : vs.length = ps.length)
    (h : ∀ env, EnvOk env → env.scope = scope → EvS B d env (execs body env) (ps.zip vs) own (fun fl _ own' => match fl with | .ret v => Q v own' | .next => Q .none own' | _ => False) (fun c _ own' => E c own')) :
    CallA B (d + 1) a vs own Q E := by
  intro A f s args ok i r
  obtain ⟨o, fd, ho, hd, hbody, hsc, hgl, hbl, hcl, hcr, hbind⟩ := hf.at_
  subst hsc
  have hal : args.length = ps.length := by rw [r.length, hlen]
  have hlt : ∀ b o, s.heap.get? b = some o → b < s.heap.objs.size := fun b o e => Heap.lt_size e
  have hb := hbind args hal
  have keysP : ((ps.map Str.ofString).zip args).map (·.1) = ps.map Str.ofString := by rw [List.map_fst_zip]; simp [hal]
  have keysNd : (((ps.map Str.ofString).zip args).map (·.1)).Nodup := by
    rw [keysP]; exact List.Pairwise.map Str.ofString (fun a b hab e => hab (ofString_inj e)) hf.psNodup
  refine codeAny_call_cells (by have := ok.depth; omega) (i.keep _ _ ho) hd (hB.lim.keeps i.keep) (hcr.keeps i.keep) hbody hb hcl (fun x hx => ?_) (fun s₁ hc => ?_) hf.co hf.gen hf.kind
  · have hx1 : x.1 ∈ ps.map Str.ofString := by rw [← keysP]; exact List.mem_map.mpr ⟨x, hx, rfl⟩
    obtain ⟨p, hp, e⟩ := List.mem_map.mp hx1
    rw [← e]
    rcases hf.psIn p hp with h1 | h1
    · exact .inl h1
    · refine .inr ⟨h1, ?_⟩
      obtain ⟨c, hc⟩ := lookup_isSome (l := cellsFrom (s.heap.objs.size + 1) fd.scope.names []) ((cellsFrom_keys _ _ _ _).mpr (.inr (mem_of_lookup h1)))
      rw [hc]; rfl
  · -- the frame
    generalize henv : callEnvC fd s.heap.objs.size a = env at hc ⊢
    have e1 : env.scope = fd.scope := by rw [← henv]; rfl
    have e2 : env.locals = s.heap.objs.size := by rw [← henv]; rfl
    have e3 : env.cells = cellsFrom (s.heap.objs.size + 1) fd.scope.names [] := by rw [← henv]; rfl
    have e4 : env.globals = mainGlobals := by rw [← henv]; exact hgl
    have e5 : env.builtins = builtinsNs := by rw [← henv]; exact hbl
    have nd : (env.cells.map (·.1)).Nodup := by rw [e3]; exact cellsFrom_nodup _ _ _ hf.nodup (by simp) (by simp)
    have hk : ∀ x, env.kindOf x = fd.scope.names.lookup x := fun x => by unfold Env.kindOf; rw [e1]
    have he : EnvOk env := ⟨by rw [e1]; exact hf.kind, e4, e5, fun x y c h1 h2 => name_of_addr hc.apart (mem_of_lookup h1) (mem_of_lookup h2)⟩
    obtain ⟨⟨⟨h₁, tk₁, hs₁⟩, hns, hkeep, hfr⟩, hcell, hap, habove⟩ := hc
    subst hs₁
    let mc : Str → Option Value := fun x => if env.kindOf x = some .local then bindL env.kindOf ((ps.map Str.ofString).zip args) (fun _ => none) x else bindC env.kindOf ((ps.map Str.ofString).zip args) (fun _ => none) x
    have inex : ∀ b ∈ exOf env, s.heap.objs.size ≤ b := by
      intro b hb
      simp only [exOf, List.mem_cons, List.mem_map] at hb
      rcases hb with rfl | ⟨p, hp, rfl⟩
      · exact hfr
      · exact Nat.le_of_lt (Nat.lt_of_le_of_lt hfr (habove p.1 p.2 hp))
    have hc1 : Cfg B env (ps.zip vs) mc f own { s with heap := h₁, toks := tk₁ } := by
      refine ⟨i.grow tk₁ hkeep, ⟨⟨_, hns, fun x hx => ?_⟩, fun x hx => ?_⟩, fun x v hl => ?_, fun b hb => ⟨fun hm => ?_, ?_, ?_⟩, fun p hp => ?_⟩
      · show _ = mc x; simp only [mc, if_pos hx]
      · have hxc : env.kindOf x = some .cell := by
          rcases hx with hx | hx
          · exact hx
          · rw [hk] at hx; exact absurd rfl (hf.free _ (mem_of_lookup hx))
        obtain ⟨c, hc⟩ := lookup_isSome (l := env.cells) (n := x) (by rw [e3, cellsFrom_keys]; exact .inr (mem_of_lookup ((hk x).symm.trans hxc)))
        refine ⟨c, hc, ?_⟩
        have := hcell x c hc
        show Heap.IsCell _ c (mc x)
        simp only [mc, if_neg (show ¬ env.kindOf x = some .local by rw [hxc]; decide)]
        exact this
      · obtain ⟨c, hm, rv, hp⟩ := zip_mem r hl
        refine ⟨c, ?_, rv⟩
        rcases hf.psIn x hp with h1 | h1
        · have h1' : env.kindOf (Str.ofString x) = some .local := (hk _).trans h1
          show mc (Str.ofString x) = _
          simp only [mc, if_pos h1']; exact bindL_at _ _ _ _ keysNd hm h1'
        · have h1' : env.kindOf (Str.ofString x) = some .cell := (hk _).trans h1
          show mc (Str.ofString x) = _
          simp only [mc, if_neg (show ¬ env.kindOf (Str.ofString x) = some .local by rw [h1']; decide)]; exact bindC_at _ _ _ _ keysNd hm h1'
      · obtain ⟨p, hp, e⟩ := List.mem_map.mp hm
        obtain ⟨_, o', ho', _⟩ := i.led p hp
        exact Nat.not_le.mpr (hlt _ _ ho') (e ▸ inex b hb)
      · cases e : f b with
        | none => rfl
        | some o' => exact absurd (inex b hb) (Nat.not_le.mpr (hlt _ _ (i.sub _ _ e)))
      · simp only [exOf, List.mem_cons, List.mem_map] at hb
        rcases hb with rfl | ⟨p, hp, rfl⟩
        · obtain ⟨o', _, _, ho', _⟩ := hns; exact ⟨o', ho'⟩
        · obtain ⟨o', ho', _⟩ := hcell p.1 p.2 (lookup_of_nodup nd hp); exact ⟨o', ho'⟩
      · exact Nat.ne_of_gt (habove p.1 p.2 hp)
    have stp : ∀ {f' own' s'}, Step (exOf env) f own { s with heap := h₁, toks := tk₁ } f' own' s' → Step [] f own s f' own' s' := by
      intro f' own' s' st
      refine ⟨st.mono, fun b o' e => ?_, fun b o' e hb _ => st.keep b o' (hkeep b o' e) hb fun hm => ?_, fun b hb => ?_, fun b o' e => st.live b o' (hkeep b o' e)⟩
      · rcases st.newf b o' e with h | h | h
        · exact .inl h
        · exact .inr (.inl h)
        · refine .inr (.inr ?_)
          cases hq : s.heap.get? b with
          | none => rfl
          | some o'' => have h' : h₁.get? b = none := h; rw [hkeep b o'' hq] at h'; cases h'
      · exact Nat.not_le.mpr (hlt _ _ e) (inex b hm)
      · rcases st.new b hb with h | h
        · exact .inl h
        · refine .inr ?_
          cases hq : s.heap.get? b with
          | none => rfl
          | some o'' => have h' : h₁.get? b = none := h; rw [hkeep b o'' hq] at h'; cases h'
    refine (h env he e1).run (ok.deeper env) hc1 (fun f₂ own₂ s₂ loc₂ mc₂ fl w st c₂ rf q => ?_) fun e s' hE => ?_
    · cases fl with
      | next => simp only [RelFl] at rf; subst rf; exact ⟨f₂, own₂, .none, stp st, c₂.inv, relV_none, q⟩
      | brk => exact q.elim
      | cont => exact q.elim
      | ret v => simp only [RelFl] at rf; obtain ⟨cv, rfl, rv⟩ := rf; exact ⟨f₂, own₂, v, stp st, c₂.inv, rv, q⟩
    · obtain ⟨_, _, _, _, _, _, _, hx, _⟩ := hE; exact hx.elim

end

section
variable {B : Amb} {d : Nat} {env : Env} {loc : Loc} {mc : Str → Option Value} {f : Fz} {own : Own} {s : Shared} {A : Around} {X : XP}

theorem evalArgs_of {g : Value} {args : List Expr} {pos : Pos} {R : Args → Shared → Prop} {E : Value → Shared → Prop} {M : Model} (hp : (starEach args env).all (fun q => !q.1) = true)
    (h : wpAny M A (spliced (backTo pos (starEach args env))) (fun vs s' => R ⟨vs, []⟩ s') E s) : wpAny M A (evalArgs g true (backTo pos (starEach args env)) []) R E s := by
  cases hs : starEach args env with
  | nil => rw [hs] at h; exact fun Γ p hΓ => (evalArgs_none (h Γ p hΓ) : wpAny M A (evalArgs g true [] []) R E s) Γ p hΓ
  | cons p r =>
    obtain ⟨b, t⟩ := p
    rw [hs] at h hp
    have hb : b = false := by simp at hp; exact hp.1
    subst hb
    exact Calls.evalArgs_plain h
theorem backTo_plain {args : List (Bool × Sem Value)} {pos : Pos} (hp : args.all (fun q => !q.1) = true) : (backTo pos args).any (·.1) = false := by
  induction args with
  | nil => rfl
  | cons p r ih =>
    simp only [List.all_cons, Bool.and_eq_true, Bool.not_eq_true'] at hp
    show (p.1 || (backTo pos r).any (·.1)) = false
    rw [hp.1, ih hp.2]; rfl

theorem Cfg.back (c : Cfg B env loc mc f own s) {f' own' s'} (st : Step [] f own s f' own' s') (i : Inv B f' own' s') : Cfg B env loc mc f' own' s' where
  inv := i
  fra := c.fra.keeps fun a ha o e => st.keep a o e (c.apart a ha).1 (by simp)
  rel := fun x v e => let ⟨y, h1, h2⟩ := c.rel x v e; ⟨y, h1, h2.mono st.mono⟩
  apart := fun a ha => by
    obtain ⟨h1, h2, o, h3⟩ := c.apart a ha
    refine ⟨fun hm => (st.new a hm).elim h1 fun hn => (by rw [h3] at hn; cases hn), ?_, o, st.keep a o h3 h1 (by simp)⟩
    cases e : f' a with
    | none => rfl
    | some o' =>
      rcases st.newf a o' e with h | h | h
      · rw [h2] at h; cases h
      · exact absurd h h1
      · rw [h3] at h; cases h
  cells := c.cells

theorem evalCall_name (n : Str) (np : Pos) (args : List Expr) (pos : Pos) : eval (.Call (.Name n np) args [] pos) env = (do callWith pos (← eval (.Name n np) env) [] (backTo pos (starEach args env)) []) := by
  rfl

theorem ev_call {x : Str} {np pos : Pos} {a : Addr} {args : List Expr} {ps : List String} {body : List Stmt} {scope : Scope} {Q : AV → Own → Prop} (hB : BaseOk B) (he : EnvOk env) (hx : env.kindOf x = some .globalImplicit) (hd : (x == ("__debug__" : Str)) = false)
    (hv : B.mg x = some (.ref a)) (hf : FnAt B a ps body scope) (hp : (starEach args env).all (fun q => !q.1) = true)
    (h : EvEs B d env (spliced (backTo pos (starEach args env))) loc own (fun vs own₁ => CallA B d a vs own₁ Q (fun c own₂ => X c loc own₂)) X) : EvE B d env (eval (.Call (.Name x np) args [] pos) env) loc own Q X := by
  intro A mc f s ok c
  rw [evalCall_name]
  refine wpAny_bind (load_global hB he hx hd hv c.inv ?_)
  obtain ⟨o, fd, ho, hdt, _⟩ := hf.at_
  refine Calls.callWith_function (o := o) (fd := fd) (evalArgs_of hp (h.run ok c (fun f₁ own₁ s₁ xs vs st c₁ r q => ⟨⟨c₁.inv.keep _ _ ho, hdt⟩, ?_⟩) fun _ _ e => e))
  refine wpAny_call (codeAny_mono (q A f₁ s₁ vs ok c₁.inv r) fun res s' hr => ?_)
  cases res with
  | ok w =>
    cases w with
    | ret v =>
      obtain ⟨f₂, own₂, y, st₂, i₂, rv, q₂⟩ := hr
      exact ⟨f₂, own₂, y, st.trans (st₂.wide (by simp)), c₁.back st₂ i₂, rv, q₂⟩
    | next => exact hr
    | brk => exact hr
    | cont => exact hr
  | error e =>
    obtain ⟨f₂, own₂, cl, st₂, i₂, hx, q₂⟩ := hr
    exact ⟨f₂, own₂, loc, mc, cl, st.trans (st₂.wide (by simp)), c₁.back st₂ i₂, hx, q₂⟩
end
end Mine

namespace Mine
open PySem PySem.Spec

inductive Tgt where
  | name (x : String)
  | tup (xs : List String)
noncomputable def Tgt.names : Tgt → List String
  | .name x => [x]
  | .tup xs => xs

noncomputable def tgtS : Tgt → AV → Loc → Own → (Loc → Own → Prop) → Prop
  | .name x, v, loc, own, R => R (Loc.upd x v loc) own
  | .tup xs, v, loc, own, R => ∃ vs, v = .tup vs ∧ xs.length = vs.length ∧ R (Loc.upds xs vs loc) own

noncomputable def TgtOk (env : Env) : Expr → Tgt → Prop
  | e, .name x => (∃ pos, e = .Name (Str.ofString x) pos) ∧ (env.kindOf (Str.ofString x) = some .local ∨ env.kindOf (Str.ofString x) = some .cell)
  | e, .tup xs => (∃ ps k pos, xs.length = ps.length ∧ e = .Tuple ((xs.zip ps).map fun q => .Name (Str.ofString q.1) q.2) k pos) ∧ ∀ x ∈ xs, env.kindOf (Str.ofString x) = some .local ∨ env.kindOf (Str.ofString x) = some .cell

section
variable {B : Amb} {d : Nat} {env : Env} {loc : Loc} {mc : Str → Option Value} {f : Fz} {own : Own} {s : Shared} {A : Around} {X : XP}

theorem noE {v : Value} {s' : Shared} (h : EPost B env f own s X v s') : False := by
  obtain ⟨_, _, _, _, _, _, _, hx, _⟩ := h; exact hx

theorem Cfg.other (c : Cfg B env loc mc f own s) {h' : Heap} (t : Nat) {wr : List Addr} (k : ∀ b o, b ∉ wr → s.heap.get? b = some o → h'.get? b = some o) (hw : ∀ b ∈ wr, b ∉ addrs own ∧ b ∉ exOf env ∧ f b = none) :
    Cfg B env loc mc f own { s with heap := h', toks := t } where
  inv := ⟨let ⟨h, _, dr, e⟩ := c.inv.same; ⟨h', t, dr, by rw [e]⟩, c.inv.base, fun b o e => k b o (fun hb => by rw [(hw b hb).2.2] at e; cases e) (c.inv.sub b o e),
    fun p hp => let ⟨a, o, ho, r⟩ := c.inv.led p hp; ⟨a, o, k _ _ (fun hb => (hw _ hb).1 (List.mem_map.mpr ⟨p, hp, rfl⟩)) ho, r⟩, c.inv.nodup⟩
  fra := c.fra.keeps fun b hb o e => k _ o (fun hw' => (hw b hw').2.1 hb) e
  rel := c.rel
  apart := fun a ha => let ⟨x, y, o, z⟩ := c.apart a ha; ⟨x, y, o, k _ _ (fun hb => (hw _ hb).2.1 ha) z⟩
  cells := c.cells
theorem Step.other {ex f own s₀ f' own' s} (x : Step ex f own s₀ f' own' s) {h' : Heap} (t : Nat) {wr : List Addr} (k : ∀ b o, b ∉ wr → s.heap.get? b = some o → h'.get? b = some o) (hw : ∀ b ∈ wr, s₀.heap.get? b = none) :
    Step ex f own s₀ f' own' { s with heap := h', toks := t } where
  mono := x.mono
  newf := x.newf
  keep := fun b o e h1 h2 => k b o (fun hb => by rw [hw b hb] at e; cases e) (x.keep b o e h1 h2)
  new := x.new
  live := fun b o e => let ⟨o', h⟩ := x.live b o e; ⟨o', k b o' (fun hb => by rw [hw b hb] at e; cases e) h⟩

structure Src (B : Amb) (A : Around) (target : Expr) (tg : Tgt) (xs : List AV) (f : Fz) (I : Addr) (fp wr : List Addr) (P Md : Nat → Value → Heap → Prop) (St : Nat → Heap → Prop) : Prop where
  turns : PySem.W.KTurns B.prog B.w A target I fp wr xs.length P Md St
  alive : ∀ i h, St i h → ∀ b ∈ fp, ∃ o, h.get? b = some o
  self : ∀ i (s : Shared) (Q : Value → Shared → Prop) (E : Value → Shared → Prop), St i s.heap → Q (.ref I) s → wpAny B.M A (pyIter (.ref I)) Q E s
  asg : ∀ i v env loc own mc f' (s : Shared) R X x, EnvOk env → TgtOk env target tg → xs[i]? = some x → f.le f' → Cfg B env loc mc f' own s → P i v s.heap → tgtS tg x loc own R → wpAny B.M A (assign target env v) (PostU B env mc tg.names f' own s R) (EPost B env f' own s X) s

theorem for_rule {target : Expr} {tg : Tgt} {xs : List AV} {I : Addr} {fp wr : List Addr} {P Md : Nat → Value → Heap → Prop} {St : Nat → Heap → Prop} {body : List Stmt} {R : AFlow → Loc → Own → Prop} {s₀ : Shared}
    {f₀ : Fz} {own₀ : Own} (ok : OkA d A) (hst0 : Step (exOf env) f₀ own₀ s₀ f own s) (c : Cfg B env loc mc f own s) (he : EnvOk env) (ht : TgtOk env target tg) (S : Src B A target tg xs f I fp wr P Md St) (hSt : St 0 s.heap)
    (hfp : ∀ b ∈ fp, b ∉ addrs own ∧ b ∉ exOf env) (hwr : ∀ b ∈ wr, s₀.heap.get? b = none ∧ f b = none) (J : List AV → Loc → Own → Prop) (h0 : J xs loc own)
    (step : ∀ x rest loc own, J (x :: rest) loc own → tgtS tg x loc own (fun loc₁ own₁ => EvS B d env (execs body env) loc₁ own₁
      (fun fl loc₂ own₂ => match fl with | .next => J rest loc₂ own₂ | .cont => J rest loc₂ own₂ | .brk => R .next loc₂ own₂ | .ret v => R (.ret v) loc₂ own₂) X))
    (done : ∀ loc own, J [] loc own → R .next loc own) :
    codeAny B.M A (.forLoop target (.ref I) body [] env) (fun r s' => match r with | .ok w => PostS B env f₀ own₀ s₀ R w s' | .error e => False) s := by
  refine codeAny_forLoop_any (fun k s' => ∃ i f' own' loc' mc', k = xs.length + 1 - i ∧ i ≤ xs.length ∧ Step (exOf env) f₀ own₀ s₀ f' own' s' ∧ f.le f' ∧ Cfg B env loc' mc' f' own' s' ∧ St i s'.heap ∧
    (∀ b ∈ fp, b ∉ addrs own' ∧ b ∉ exOf env) ∧ (∀ b ∈ wr, s₀.heap.get? b = none ∧ f' b = none) ∧ J (xs.drop i) loc' own') ?_ (xs.length + 1)
    ⟨0, f, own, loc, mc, by simp, Nat.zero_le _, hst0, .refl f, c, hSt, hfp, hwr, by simpa using h0⟩
  rintro k s' ⟨i, f', own', loc', mc', rfl, hi, hstep, hle, c', hSt', hfp', hwr', hJ⟩
  have hww : ∀ b ∈ wr, b ∉ addrs own' ∧ b ∉ exOf env ∧ f' b = none := fun b hb => ⟨(hfp' b (S.turns.sub b hb)).1, (hfp' b (S.turns.sub b hb)).2, (hwr' b hb).2⟩
  have hw0 : ∀ b ∈ wr, s₀.heap.get? b = none := fun b hb => (hwr' b hb).1
  by_cases hlt : i < xs.length
  · have hx : xs[i]? = some xs[i] := by simp [hlt]
    have hdr : xs.drop i = xs[i] :: xs.drop (i + 1) := List.drop_eq_getElem_cons hlt
    rw [hdr] at hJ
    refine S.turns.item i s' _ _ hlt hSt' fun v h₁ tk₁ hMd hk₁ => ?_
    refine S.turns.go i v _ _ _ hMd fun h₂ hP hSt₂ hk₂ => ?_
    have kk : ∀ b o, b ∉ wr → s'.heap.get? b = some o → h₂.get? b = some o := fun b o hb e => hk₂ b o hb (hk₁ b o hb e)
    have c₂ := c'.other tk₁ kk hww
    have st₂ := hstep.other tk₁ kk hw0
    refine wpAny_mono (S.asg i v env loc' own' mc' f' _ _ X xs[i] he ht hx hle c₂ hP (step _ _ _ _ hJ)) (fun _ s₃ p => ?_) fun _ _ e => (noE e).elim
    obtain ⟨f₃, own₃, loc₃, mc₃, st₃, c₃, _, ev⟩ := p
    refine ev.run ok c₃ (fun f₄ own₄ s₄ loc₄ mc₄ fl w st₄ c₄ r q => ?_) fun _ _ e => (noE e).elim
    have st34 := st₃.trans st₄
    have stA := st₂.trans st34
    have next : J (xs.drop (i + 1)) loc₄ own₄ → ∃ m, m < xs.length + 1 - i ∧ ∃ i f' own' loc' mc', m = xs.length + 1 - i ∧ i ≤ xs.length ∧ Step (exOf env) f₀ own₀ s₀ f' own' s₄ ∧ f.le f' ∧ Cfg B env loc' mc' f' own' s₄ ∧ St i s₄.heap ∧
        (∀ b ∈ fp, b ∉ addrs own' ∧ b ∉ exOf env) ∧ (∀ b ∈ wr, s₀.heap.get? b = none ∧ f' b = none) ∧ J (xs.drop i) loc' own' := by
      intro hj
      refine ⟨xs.length + 1 - (i + 1), by omega, i + 1, f₄, own₄, loc₄, mc₄, rfl, hlt, stA, hle.trans st34.mono, c₄, ?_, fun b hb => ⟨fun hm => ?_, (hfp' b hb).2⟩, fun b hb => ⟨hw0 b hb, ?_⟩, hj⟩
      · exact S.turns.frame _ _ _ hSt₂ fun b hb o e => st34.keep b o e (hfp' b hb).1 (hfp' b hb).2
      · obtain ⟨o, ho⟩ := S.alive _ _ hSt₂ b hb
        rcases st34.new b hm with h | h
        · exact (hfp' b hb).1 h
        · have h' : h₂.get? b = none := h
          rw [ho] at h'; cases h'
      · have hb' := S.turns.sub b hb
        cases e : f₄ b with
        | none => rfl
        | some o' =>
          rcases st34.newf b o' e with h | h | h
          · rw [(hwr' b hb).2] at h; cases h
          · exact absurd h (hfp' b hb').1
          · obtain ⟨o, ho⟩ := S.alive _ _ hSt₂ b hb'
            have h' : h₂.get? b = none := h
            rw [ho] at h'; cases h'
    cases fl with
    | next => simp only [RelFl] at r; subst r; exact next q
    | cont => simp only [RelFl] at r; subst r; exact next q
    | brk => simp only [RelFl] at r; subst r; exact ⟨f₄, own₄, loc₄, mc₄, .next, stA, c₄, rfl, q⟩
    | ret v => simp only [RelFl] at r; obtain ⟨cv, rfl, rv⟩ := r; exact ⟨f₄, own₄, loc₄, mc₄, .ret v, stA, c₄, ⟨cv, rfl, rv⟩, q⟩
  · have hin : i = xs.length := by omega
    subst hin
    refine S.turns.done s' _ _ hSt' fun h₁ tk₁ hk₁ => ?_
    refine wpAny_execs_nil ?_
    rw [List.drop_length] at hJ
    exact ⟨f', own', loc', mc', .next, hstep.other tk₁ hk₁ hw0, c'.other tk₁ hk₁ hww, rfl, done _ _ hJ⟩

end
end Mine

namespace Mine
open PySem PySem.Spec

section
variable {B : Amb} {d : Nat} {env : Env} {loc : Loc} {mc : Str → Option Value} {f : Fz} {own : Own} {s : Shared} {A : Around} {X : XP}

theorem asg_of {target : Expr} {tg : Tgt} {x : AV} {v : Value} {R : Loc → Own → Prop} (ok : A.handled = none) (he : EnvOk env) (ht : TgtOk env target tg) (c : Cfg B env loc mc f own s) (r : RelV f x v) (h : tgtS tg x loc own R) :
    wpAny B.M A (assign target env v) (PostU B env mc tg.names f own s R) (EPost B env f own s X) s := by
  cases tg with
  | name y =>
    obtain ⟨⟨pos, rfl⟩, hk⟩ := ht
    rw [assign_Name]
    exact wpAny_bind (wpAny_standAt (wpAny_bindName (store_name he hk c r fun mc' s' st c' hm => ⟨f, own, _, mc', st, c', fun z hz => hm z (hz y (by simp [Tgt.names])), h⟩)))
  | tup ys =>
    obtain ⟨⟨ps, k, pos, hp, rfl⟩, hk⟩ := ht
    obtain ⟨vs, rfl, hn, h⟩ := h
    simp only [RelV] at r
    obtain ⟨T, ws, n, rfl, hT, rs⟩ := r
    rw [arm_assign_Tuple]
    have hl := rs.length
    refine wpAny_bind (wpAny_standAt (wpAny_unpack_tuple ok (isTuple_of (c.inv.sub _ _ hT)) ?_ assignEach_plain.1 fun h' hx => ?_))
    · rw [assignEach_plain.2]; simp; omega
    · have kp : ∀ b o, s.heap.get? b = some o → h'.get? b = some o := fun b o e => hx b o (fun hb => by rw [hb, get?_size] at e; cases e) e
      exact wpAny_mono (evU_names he ys ps vs loc mc _ ws hp hn hk (c.grow s.toks kp) rs h) (fun _ _ p => p.trans (Step.grow s.toks kp)) fun _ _ e => e.trans (Step.grow s.toks kp)

theorem go_plain {M : Model} {target : Expr} {I : Addr} {v : Value} {T : String} {dd : Option Addr} {vs : Array Value} {sl : Array (Option Value)} {Q : Unit → Shared → Prop} {E : Value → Shared → Prop} (h : s.heap.get? I = some ⟨.type T, dd, .fields vs, sl⟩)
    (hT : (["enumerate", "zip", "dict_itemiterator", "dict_reverseitemiterator", "odict_iterator", "itertools.zip_longest", "itertools.pairwise"].contains T) = false) (q : Q () s) : wpAny M A (letOwnedTupleGo target (.ref I) v) Q E s := by
  unfold letOwnedTupleGo
  split
  · split
    · rename_i r a e
      cases e
      refine wpAny_bind (wpAny_load h ?_)
      simp only [hT, Bool.false_and, Bool.false_eq_true, if_false]
      exact wpAny_pure q
    · exact wpAny_pure q
  · split
    · rename_i r a e
      cases e
      refine wpAny_bind (wpAny_load h ?_)
      simp only [hT, Bool.false_and, Bool.false_eq_true, if_false]
      exact wpAny_pure q
    · exact wpAny_pure q
  · exact wpAny_pure q

theorem src_list {target : Expr} {tg : Tgt} {xs : List AV} {vs : List Value} {l I : Addr} (hh : A.handled = none) (r : RelVs f xs vs) (hne : l ≠ I) :
    Src B A target tg xs f I [I, l] [I] (fun i v _ => vs.toArray[i]? = some v) (fun i v h => vs.toArray[i]? = some v ∧ h.IsListIter I l (i + 1) ∧ h.IsList l vs.toArray) (fun i h => h.IsListIter I l i ∧ h.IsList l vs.toArray) where
  turns := by
    have hl : vs.toArray.size = xs.length := by simp [r.length]
    rw [← hl]
    refine PySem.W.KTurns.ofWalks (Walks.list hh I l hne vs.toArray) fun i v s Q E st q => ?_
    obtain ⟨⟨o, ho, hc, hd⟩, _⟩ := st
    obtain ⟨c, dd, dt, sl⟩ := o
    simp only at hc hd
    subst hc hd
    exact go_plain ho (by decide) q
  alive := fun i h st b hb => by
    obtain ⟨⟨o, ho, _⟩, ⟨o', ho', _⟩⟩ := st
    simp only [List.mem_cons, List.not_mem_nil, or_false] at hb
    rcases hb with rfl | rfl
    · exact ⟨o, ho⟩
    · exact ⟨o', ho'⟩
  self := (Walks.list hh I l hne vs.toArray).self
  asg := fun i v env loc own mc f' s R X x he ht hx hle c hP h => by
    obtain ⟨w, hw, rw⟩ := r.get i x hx
    have : v = w := by simpa [hw] using hP.symm
    subst this
    exact asg_of hh he ht c (rw.mono hle) h

noncomputable def rangeL (a : Int) (n : Nat) : List AV := (List.range n).map fun i => .int (a + (i : Nat))

theorem src_range {target : Expr} {tg : Tgt} {a : Int} {n : Nat} {I : Addr} (hh : A.handled = none) :
    Src B A target tg (rangeL a n) f I [I] [I] (fun i v _ => ∃ t, v = .int (a + i * 1) t) (fun i v h => (∃ t, v = .int (a + i * 1) t) ∧ IsRangeIter h I (a + ((i + 1 : Nat) : Nat) * 1) ((n : Int) - ((i + 1 : Nat) : Nat)) 1) (fun i h => IsRangeIter h I (a + (i : Nat) * 1) ((n : Int) - (i : Nat)) 1) where
  turns := by
    have hl : (rangeL a n).length = n := by simp [rangeL]
    rw [hl]
    refine PySem.W.KTurns.ofWalks (Walks.range hh I a 1 n) fun i v s Q E st q => ?_
    exact go_plain st (by decide) q
  alive := fun i h st b hb => by
    simp only [List.mem_cons, List.not_mem_nil, or_false] at hb
    subst hb
    exact ⟨_, st⟩
  self := (Walks.range hh I a 1 n).self
  asg := fun i v env loc own mc f' s R X x he ht hx hle c hP h => by
    obtain ⟨t, rfl⟩ := hP
    have hx' : x = .int (a + i * 1) := by
      unfold rangeL at hx
      rw [List.getElem?_map, Option.map_eq_some_iff] at hx
      obtain ⟨j, hj, rfl⟩ := hx
      have : j = i := by
        rw [List.getElem?_eq_some_iff] at hj; obtain ⟨_, hj⟩ := hj; simpa using hj.symm
      subst this; simp
    subst hx'
    exact asg_of hh he ht c relV_int h

noncomputable def enumL (xs : List AV) : List AV := xs.zipIdx.map fun p => .tup [.int (p.2 : Nat), p.1]

theorem src_enum {target : Expr} {x1 x2 : String} {xs : List AV} {vs : List Value} {l it e : Addr} (hh : A.handled = none) (htt : ∃ elts k pos, target = .Tuple elts k pos) (r : RelVs f xs vs) (hei : e ≠ it) (hle : l ≠ e) (hli : l ≠ it) :
    Src B A target (.tup [x1, x2]) (enumL xs) f e [e, it, l] [e, it] (fun i v h => ∃ T vals, v = .ref T ∧ (∃ t x, vs.toArray[i]? = some x ∧ vals = #[.int i t, x]) ∧ h.IsTuple T vals)
      (fun i v h => ∃ T vals, v = .ref T ∧ (∃ t x, vs.toArray[i]? = some x ∧ vals = #[.int i t, x]) ∧ h.IsTuple T vals ∧ ((∃ x, IsEnumOut h e it ((i : Int) + 1) x T) ∧ h.IsListIter it l (i + 1) ∧ h.IsList l vs.toArray ∧ T ≠ e ∧ T ≠ it))
      (fun i h => (∃ old, IsEnum h e it i old) ∧ h.IsListIter it l i ∧ h.IsList l vs.toArray) where
  turns := by
    obtain ⟨elts, k, pos, rfl⟩ := htt
    have hl : vs.toArray.size = (enumL xs).length := by simp [r.length, enumL]
    rw [← hl]
    exact PySem.W.KTurns.ofWalksU (WalksT.enumerate hh e it l hei hle hli vs.toArray).toU
  alive := fun i h st b hb => by
    obtain ⟨⟨old, h1⟩, ⟨o, ho, _⟩, ⟨o', ho', _⟩⟩ := st
    simp only [List.mem_cons, List.not_mem_nil, or_false] at hb
    rcases hb with rfl | rfl | rfl
    · exact ⟨_, h1⟩
    · exact ⟨o, ho⟩
    · exact ⟨o', ho'⟩
  self := (WalksT.enumerate hh e it l hei hle hli vs.toArray).self
  asg := fun i v env loc own mc f' s R X x he ht hx hle c hP h => by
    obtain ⟨T, vals, rfl, ⟨t, w, hw, rfl⟩, hT⟩ := hP
    obtain ⟨⟨ps, k, pos, hp, rfl⟩, hk⟩ := ht
    have hxx : ∃ y, xs[i]? = some y ∧ x = .tup [.int (i : Nat), y] := by
      unfold enumL at hx
      rw [List.getElem?_map, Option.map_eq_some_iff] at hx
      obtain ⟨p, hp', rfl⟩ := hx
      rw [List.getElem?_zipIdx, Option.map_eq_some_iff] at hp'
      obtain ⟨y, hy, rfl⟩ := hp'
      exact ⟨y, hy, by simp⟩
    obtain ⟨y, hy, rfl⟩ := hxx
    obtain ⟨w', hw', rw⟩ := r.get i y hy
    have : w = w' := by
      have : vs[i]? = some w := by simpa using hw
      rw [this] at hw'; cases hw'; rfl
    subst this
    obtain ⟨us, hus, hn, h⟩ := h
    cases hus
    rw [arm_assign_Tuple]
    refine wpAny_bind (wpAny_standAt (wpAny_unpack_tuple hh hT ?_ assignEach_plain.1 fun h' hx => ?_))
    · rw [assignEach_plain.2]; simp; simp at hp; omega
    · have kp : ∀ b o, s.heap.get? b = some o → h'.get? b = some o := fun b o e => hx b o (fun hb => by rw [hb, get?_size] at e; cases e) e
      exact wpAny_mono (evU_names he [x1, x2] ps _ loc mc _ _ hp hn hk (c.grow s.toks kp) (.cons relV_int (.cons (rw.mono hle) .nil)) h) (fun _ _ p => p.trans (Step.grow s.toks kp)) fun _ _ e => e.trans (Step.grow s.toks kp)

noncomputable def PostI (B : Amb) (A : Around) (env : Env) (target : Expr) (tg : Tgt) (loc : Loc) (mc : Str → Option Value) (f : Fz) (own : Own) (s : Shared) (Q : List AV → Own → Prop) : Value → Shared → Prop :=
  fun v s' => ∃ f' own' I fp wr P Md St xs, v = .ref I ∧ Step (exOf env) f own s f' own' s' ∧ Cfg B env loc mc f' own' s' ∧ Src B A target tg xs f' I fp wr P Md St ∧ St 0 s'.heap ∧
    (∀ b ∈ fp, b ∉ addrs own' ∧ b ∉ exOf env) ∧ (∀ b ∈ wr, s.heap.get? b = none ∧ f' b = none) ∧ xs.length ≤ 100000 ∧ Q xs own'
noncomputable def EvI (B : Amb) (d : Nat) (env : Env) (iter target : Expr) (tg : Tgt) (loc : Loc) (own : Own) (Q : List AV → Own → Prop) (X : XP) : Prop :=
  ∀ A mc f s, OkA d A → Cfg B env loc mc f own s → wpAny B.M A (eval iter env) (fun x s₁ => wpAny B.M A (pyIter x) (PostI B A env target tg loc mc f own s Q) (EPost B env f own s X) s₁) (EPost B env f own s X) s

theorem Step.fresh {ex f own s f' own' s'} (st : Step ex f own s f' own' s') : s.heap.get? s'.heap.objs.size = none := st.back (get?_size _)

theorem frozen_apart (c : Cfg B env loc mc f own s) {l : Addr} {o : Obj} (h : f l = some o) : l ∉ addrs own ∧ l ∉ exOf env :=
  ⟨fun hm => (by obtain ⟨p, hp, rfl⟩ := List.mem_map.mp hm; rw [(c.inv.led p hp).1] at h; cases h), fun hm => (by rw [(c.apart l hm).2.1] at h; cases h)⟩
theorem fresh_apart (c : Cfg B env loc mc f own s) {l : Addr} (h : s.heap.get? l = none) : l ∉ addrs own ∧ l ∉ exOf env :=
  ⟨c.inv.freshOwn h, fun hm => by obtain ⟨_, _, o, ho⟩ := c.apart l hm; rw [h] at ho; cases ho⟩

theorem evI_list {iter target : Expr} {tg : Tgt} {Q : List AV → Own → Prop} (h : EvE B d env (eval iter env) loc own (fun x own₁ => ∃ xs, x = .lst xs ∧ xs.length ≤ 100000 ∧ Q xs own₁) X) : EvI B d env iter target tg loc own Q X := by
  intro A mc f s ok c
  refine h.run ok c (fun f₁ own₁ s₁ x v st c₁ r q => ?_) fun _ _ e => e
  obtain ⟨xs, rfl, hn, q⟩ := q
  simp only [RelV] at r
  obtain ⟨l, vs, n, rfl, hl, rs⟩ := r
  have hl' := c₁.inv.sub _ _ hl
  refine wpAny_pyIter_list (isList_of hl') ?_
  have kp := push_keeps s₁.heap { cls := .type "list_iterator", data := .fields #[.ref l, .int 0 0] }
  have hne : l ≠ s₁.heap.objs.size := fun e => by rw [e, get?_size] at hl'; cases hl'
  refine ⟨f₁, own₁, _, _, _, _, _, _, xs, rfl, st.trans (Step.grow s₁.toks kp), c₁.grow s₁.toks kp, src_list ok.handled rs hne, ⟨⟨_, Heap.get?_push_size _ rfl, rfl, rfl⟩, isList_of (kp _ _ hl')⟩, ?_, ?_, hn, q⟩
  · intro b hb
    simp only [List.mem_cons, List.not_mem_nil, or_false] at hb
    rcases hb with rfl | rfl
    · exact fresh_apart c₁ (get?_size _)
    · exact frozen_apart c₁ hl
  · intro b hb
    simp only [List.mem_cons, List.not_mem_nil, or_false] at hb
    subst hb
    exact ⟨st.fresh, c₁.inv.fresh (get?_size _)⟩
theorem callWith_type {M : Model} {T : String} {pos : Pos} {args : List (Bool × Sem Value)} {Q : Value → Shared → Prop} {E : Value → Shared → Prop} (hplain : args.any (·.1) = false)
    (h : wpAny M A (evalArgs (.type T) true args []) (fun a s₁ => wpAny M A (call (.type T) a.pos a.kw) Q E s₁) E s) : wpAny M A (callWith pos (.type T) [] args []) Q E s := by
  unfold callWith
  refine wpAny_bind (wpAny_holding (wpAny_mono h (fun a s₁ h₁ => wpAny_bind (wpAny_standAt ?_)) fun _ _ x => x))
  simp only [hplain, List.any_nil, Bool.or_false]
  refine wpAny_bind (m := keeperOf (.type T)) ?_
  refine wpAny_pure ?_
  exact wpAny_bind (wpAny_mono h₁ (fun r s₂ hr => wpAny_bind (wpAny_holding (wpAny_point (wpAny_pure hr)))) fun _ _ x => x)

theorem call_type {x : Str} {np pos : Pos} {T : String} {args : List Expr} {Qa : List AV → Own → Prop} {R : Value → Shared → Prop} {E : Value → Shared → Prop} (hB : BaseOk B) (he : EnvOk env) (hx : env.kindOf x = some .globalImplicit) (hd : (x == ("__debug__" : Str)) = false)
    (hn : B.mg x = none) (hv : B.mb x = some (.type T)) (hp : (starEach args env).all (fun q => !q.1) = true) (ok : OkA d A) (c : Cfg B env loc mc f own s)
    (h : EvEs B d env (spliced (backTo pos (starEach args env))) loc own Qa X)
    (k : ∀ f₁ own₁ s₁ xs vs, Step (exOf env) f own s f₁ own₁ s₁ → Cfg B env loc mc f₁ own₁ s₁ → RelVs f₁ xs vs → Qa xs own₁ → wpAny B.M A (call (.type T) vs []) R E s₁)
    (hE : ∀ e s', EPost B env f own s X e s' → E e s') : wpAny B.M A (eval (.Call (.Name x np) args [] pos) env) R E s := by
  rw [evalCall_name]
  refine wpAny_bind (load_builtin hB he hx hd hn hv c.inv ?_)
  exact callWith_type (backTo_plain hp) (evalArgs_of hp (h.run ok c (fun f₁ own₁ s₁ xs vs st c₁ r q => k f₁ own₁ s₁ xs vs st c₁ r q) hE))
theorem call_bltn {x : Str} {np pos : Pos} {id : String} {args : List Expr} {Qa : List AV → Own → Prop} {R : Value → Shared → Prop} {E : Value → Shared → Prop} (hB : BaseOk B) (he : EnvOk env) (hx : env.kindOf x = some .globalImplicit) (hd : (x == ("__debug__" : Str)) = false)
    (hn : B.mg x = none) (hv : B.mb x = some (.builtin id)) (hp : (starEach args env).all (fun q => !q.1) = true) (ok : OkA d A) (c : Cfg B env loc mc f own s)
    (h : EvEs B d env (spliced (backTo pos (starEach args env))) loc own Qa X)
    (k : ∀ f₁ own₁ s₁ xs vs, Step (exOf env) f own s f₁ own₁ s₁ → Cfg B env loc mc f₁ own₁ s₁ → RelVs f₁ xs vs → Qa xs own₁ → wpAny B.M A (call (.builtin id) vs []) R E s₁)
    (hE : ∀ e s', EPost B env f own s X e s' → E e s') : wpAny B.M A (eval (.Call (.Name x np) args [] pos) env) R E s := by
  rw [evalCall_name]
  refine wpAny_bind (load_builtin hB he hx hd hn hv c.inv ?_)
  exact Calls.callWith_builtin (backTo_plain hp) (evalArgs_of hp (h.run ok c (fun f₁ own₁ s₁ xs vs st c₁ r q => k f₁ own₁ s₁ xs vs st c₁ r q) hE))

noncomputable def rangeA : List AV → Option (Int × Int)
  | [.int n] => some (0, n)
  | [.int a, .int b] => some (a, b)
  | _ => none
noncomputable def rangeX (a b : Int) : List AV := rangeL a (b - a).toNat

theorem evI_range {np pos : Pos} {args : List Expr} {target : Expr} {tg : Tgt} {Q : List AV → Own → Prop} (hB : BaseOk B) (he : EnvOk env) (hx : env.kindOf (Str.ofString "range") = some .globalImplicit)
    (hn : B.mg (Str.ofString "range") = none) (hv : B.mb (Str.ofString "range") = some (.type "range")) (hp : (starEach args env).all (fun q => !q.1) = true)
    (h : EvEs B d env (spliced (backTo pos (starEach args env))) loc own (fun xs own₁ => ∃ a b, rangeA xs = some (a, b) ∧ (-100000 ≤ a ∧ a ≤ 100000 ∧ -100000 ≤ b ∧ b ≤ 100000 ∧ b - a ≤ 100000) ∧ Q (rangeX a b) own₁) X) :
    EvI B d env (.Call (.Name (Str.ofString "range") np) args [] pos) target tg loc own Q X := by
  intro A mc f s ok c
  refine call_type hB he hx (by decide) hn hv hp ok c h (fun f₁ own₁ s₁ xs vs st c₁ r q => ?_) fun _ _ e => e
  obtain ⟨a, b, hab, hbd, q⟩ := q
  have key : ∀ (h' : Heap) (tk : Nat) (t u v : Tok), (∀ b o, s₁.heap.get? b = some o → h'.get? b = some o) → IsRange h' s₁.heap.objs.size a b 1 t u v → h'.objs.size = s₁.heap.objs.size + 1 →
      wpAny B.M A (pyIter (.ref s₁.heap.objs.size)) (PostI B A env target tg loc mc f own s Q) (EPost B env f own s X) { s₁ with heap := h', toks := tk } := by
    intro h' tk t u v kp hr hsz
    refine wpAny_pyIter_range hr (small_one (by omega) (by omega) (by omega) (by omega)) ?_
    have kp2 := push_keeps h' { cls := .type "range_iterator", data := .fields #[rawInt a, rawInt (Builtin.Range.rangeSize a b 1), rawInt 1] }
    have kk : ∀ z o, s₁.heap.get? z = some o → (h'.push { cls := .type "range_iterator", data := .fields #[rawInt a, rawInt (Builtin.Range.rangeSize a b 1), rawInt 1] }).get? z = some o := fun z o e => kp2 z o (kp z o e)
    have hnone : s₁.heap.get? h'.objs.size = none := by
      cases e : s₁.heap.get? h'.objs.size with
      | none => rfl
      | some o => have hq : h'.objs.size < s₁.heap.objs.size := Heap.lt_size e; omega
    refine ⟨f₁, own₁, h'.objs.size, _, _, _, _, _, rangeX a b, rfl, st.trans (Step.grow tk kk), c₁.grow tk kk, src_range ok.handled, ?_, ?_, ?_, ?_, q⟩
    · show IsRangeIter _ _ _ _ _
      have e1 : Builtin.Range.rangeSize a b 1 = (((b - a).toNat : Nat) : Int) := by rw [rangeSize_one]; split <;> omega
      have hp := Heap.get?_push_size h' (o := { cls := .type "range_iterator", data := .fields #[rawInt a, rawInt (Builtin.Range.rangeSize a b 1), rawInt 1] }) rfl
      rw [e1] at hp ⊢
      simpa using hp
    · intro b hb
      simp only [List.mem_cons, List.not_mem_nil, or_false] at hb
      subst hb
      exact fresh_apart c₁ hnone
    · intro b hb
      simp only [List.mem_cons, List.not_mem_nil, or_false] at hb
      subst hb
      exact ⟨st.back hnone, c₁.inv.fresh hnone⟩
    · simp only [rangeX, rangeL, List.length_map, List.length_range]; omega
  unfold rangeA at hab
  split at hab
  · cases hab
    simp only [RelVs] at r
    obtain ⟨v, r', rfl, hv, rfl⟩ := r
    simp only [RelV] at hv
    obtain ⟨t, rfl⟩ := hv
    exact call_range_1 (key _ _ _ _ _ (push_keeps _ _) (IsRange.new ..) (by simp [Heap.push]))
  · cases hab
    simp only [RelVs] at r
    obtain ⟨v, r', rfl, hv, v', r'', rfl, hv', rfl⟩ := r
    simp only [RelV] at hv hv'
    obtain ⟨t, rfl⟩ := hv
    obtain ⟨t', rfl⟩ := hv'
    exact call_range_2 (key _ _ _ _ _ (push_keeps _ _) (IsRange.new ..) (by simp [Heap.push]))
  · cases hab

theorem evI_enum {np pos : Pos} {args : List Expr} {target : Expr} {x1 x2 : String} {Q : List AV → Own → Prop} (hB : BaseOk B) (he : EnvOk env) (hx : env.kindOf (Str.ofString "enumerate") = some .globalImplicit)
    (hn : B.mg (Str.ofString "enumerate") = none) (hv : B.mb (Str.ofString "enumerate") = some (.type "enumerate")) (hp : (starEach args env).all (fun q => !q.1) = true) (htt : ∃ elts k pos, target = .Tuple elts k pos)
    (h : EvEs B d env (spliced (backTo pos (starEach args env))) loc own (fun xs own₁ => ∃ ys, xs = [.lst ys] ∧ ys.length ≤ 100000 ∧ Q (enumL ys) own₁) X) :
    EvI B d env (.Call (.Name (Str.ofString "enumerate") np) args [] pos) target (.tup [x1, x2]) loc own Q X := by
  intro A mc f s ok c
  refine call_type hB he hx (by decide) hn hv hp ok c h (fun f₁ own₁ s₁ xs vs st c₁ r q => ?_) fun _ _ e => e
  obtain ⟨ys, rfl, hlen, q⟩ := q
  simp only [RelVs] at r
  obtain ⟨v, r', rfl, hv, rfl⟩ := r
  simp only [RelV] at hv
  obtain ⟨l, ws, n, rfl, hl, rs⟩ := hv
  have hl' := c₁.inv.sub _ _ hl
  refine call_enumerate_list (isList_of hl') fun h' h1 h2 h3 kp => ?_
  have hl2 := kp _ _ hl'
  have n0 := get?_size s₁.heap
  have n1 : s₁.heap.get? (s₁.heap.objs.size + 1) = none := by
    cases e : s₁.heap.get? (s₁.heap.objs.size + 1) with
    | none => rfl
    | some o => have hq : s₁.heap.objs.size + 1 < s₁.heap.objs.size := Heap.lt_size e; omega
  have e1 : l ≠ s₁.heap.objs.size := fun e => by rw [e, n0] at hl'; cases hl'
  have e2 : l ≠ s₁.heap.objs.size + 1 := fun e => by rw [e, n1] at hl'; cases hl'
  have S := src_enum (B := B) (f := f₁) (x1 := x1) (x2 := x2) ok.handled htt rs (show s₁.heap.objs.size + 1 ≠ s₁.heap.objs.size by omega) e2 e1
  have hSt : (∃ old, IsEnum h' (s₁.heap.objs.size + 1) s₁.heap.objs.size ((0 : Nat) : Int) old) ∧ h'.IsListIter s₁.heap.objs.size l 0 ∧ h'.IsList l ws.toArray := ⟨⟨_, h1⟩, h2, isList_of hl2⟩
  refine S.self 0 _ _ _ hSt ?_
  refine ⟨f₁, own₁, _, _, _, _, _, _, enumL ys, rfl, st.trans (Step.grow s₁.toks kp), c₁.grow s₁.toks kp, S, hSt, ?_, ?_, by simpa [enumL] using hlen, q⟩
  · intro b hb
    simp only [List.mem_cons, List.not_mem_nil, or_false] at hb
    rcases hb with rfl | rfl | rfl
    · exact fresh_apart c₁ n1
    · exact fresh_apart c₁ n0
    · exact frozen_apart c₁ hl
  · intro b hb
    simp only [List.mem_cons, List.not_mem_nil, or_false] at hb
    rcases hb with rfl | rfl
    · exact ⟨st.back n1, c₁.inv.fresh n1⟩
    · exact ⟨st.back n0, c₁.inv.fresh n0⟩

theorem evS_for {target iter : Expr} {tg : Tgt} {body : List Stmt} {pos : Pos} {R : AFlow → Loc → Own → Prop} (he : EnvOk env) (ht : TgtOk env target tg) (hs : ∀ x, foldedSetIterable iter env x = pure x)
    (h : EvI B d env iter target tg loc own (fun xs own₁ => ∃ J : List AV → Loc → Own → Prop, J xs loc own₁ ∧
      (∀ x rest loc own, J (x :: rest) loc own → tgtS tg x loc own (fun loc₁ own₁ => EvS B d env (execs body env) loc₁ own₁
        (fun fl loc₂ own₂ => match fl with | .next => J rest loc₂ own₂ | .cont => J rest loc₂ own₂ | .brk => R .next loc₂ own₂ | .ret v => R (.ret v) loc₂ own₂) X)) ∧
      ∀ loc own, J [] loc own → R .next loc own) X) : EvS B d env (exec (.For target iter body [] pos) env) loc own R X := by
  intro A mc f s ok c
  refine wpAny_For (wpAny_mono (h A mc f s ok c) (fun x s₁ h₁ => wpAny_mono h₁ (fun it s₂ h₂ => ?_) fun _ _ e => e) fun _ _ e => e) hs
  obtain ⟨f', own', I, fp, wr, P, Md, St, xs, rfl, st, c', S, hSt, hfp, hwr, hlen, J, h0, hstep, hdone⟩ := h₂
  exact codeAny_mono (for_rule ok st c' he ht S hSt hfp hwr J h0 hstep hdone) fun r s' h => by cases r <;> first | exact h | exact h.elim
end
end Mine

namespace Mine
open PySem PySem.Spec

theorem closure_aux {env : Env} : ∀ (names : List (Str × NameKind)) (acc : List (Str × Addr)), (∀ n, (n, NameKind.free) ∈ names → ∃ c, env.cells.lookup n = some c) →
    ∃ cl, (forIn names acc fun x r => (if x.2 == .free then (do let a ← cellOf env x.1; pure (ForInStep.yield ((x.1, a) :: r))) else pure (ForInStep.yield r) : Sem (ForInStep (List (Str × Addr))))) = pure cl ∧
      (∀ n c, (n, c) ∈ cl → (n, c) ∈ acc ∨ ((n, NameKind.free) ∈ names ∧ env.cells.lookup n = some c)) ∧ (∀ p ∈ acc, p ∈ cl) ∧ (∀ n, (n, NameKind.free) ∈ names → ∃ c, (n, c) ∈ cl)
  | [], acc, _ => ⟨acc, rfl, fun _ _ h => .inl h, fun _ h => h, by simp⟩
  | (m, k) :: r, acc, h => by
    have hr : ∀ n, (n, NameKind.free) ∈ r → ∃ c, env.cells.lookup n = some c := fun n hn => h n (List.mem_cons_of_mem _ hn)
    by_cases hk : k = .free
    · subst hk
      obtain ⟨c, hc⟩ := h m List.mem_cons_self
      obtain ⟨cl, e, h1, h2, h3⟩ := closure_aux r ((m, c) :: acc) hr
      refine ⟨cl, ?_, fun n c' hm => ?_, fun p hp => h2 p (List.mem_cons_of_mem _ hp), fun n hn => ?_⟩
      · rw [List.forIn_cons]
        have hco : cellOf env m = pure c := by unfold cellOf; rw [hc]
        simp only [beq_self_eq_true, if_true, hco]
        exact e
      · rcases h1 n c' hm with h | ⟨h, h'⟩
        · rcases List.mem_cons.mp h with e | h
          · cases e; exact .inr ⟨List.mem_cons_self, hc⟩
          · exact .inl h
        · exact .inr ⟨List.mem_cons_of_mem _ h, h'⟩
      · rcases List.mem_cons.mp hn with e | hn
        · cases e; exact ⟨c, h2 _ List.mem_cons_self⟩
        · exact h3 n hn
    · obtain ⟨cl, e, h1, h2, h3⟩ := closure_aux r acc hr
      refine ⟨cl, ?_, fun n c' hm => ?_, h2, fun n hn => ?_⟩
      · rw [List.forIn_cons]
        have hb : (k == NameKind.free) = false := by simpa using hk
        simp only [hb, Bool.false_eq_true, if_false]
        exact e
      · rcases h1 n c' hm with h | ⟨h, h'⟩
        · exact .inl h
        · exact .inr ⟨List.mem_cons_of_mem _ h, h'⟩
      · rcases List.mem_cons.mp hn with e | hn
        · cases e; exact absurd rfl hk
        · exact h3 n hn
theorem closure_ok {env : Env} {scope : Scope} (h : ∀ n, (n, NameKind.free) ∈ scope.names → ∃ c, env.cells.lookup n = some c) :
    ∃ cl, closureFor scope env = pure cl ∧ (∀ n c, (n, c) ∈ cl → (n, NameKind.free) ∈ scope.names ∧ env.cells.lookup n = some c) ∧ (∀ n, (n, NameKind.free) ∈ scope.names → ∃ c, (n, c) ∈ cl) := by
  obtain ⟨cl, e, h1, _, h3⟩ := closure_aux (env := env) scope.names [] h
  refine ⟨cl, ?_, fun n c hm => ?_, h3⟩
  · unfold closureFor
    show (forIn scope.names [] _ >>= _) = _
    have e2 : (forIn scope.names [] fun x r => (match x with | (name, kind) => if kind == .free then (do let a ← cellOf env name; pure (ForInStep.yield ((name, a) :: r))) else pure (ForInStep.yield r) : Sem (ForInStep (List (Str × Addr))))) = pure cl := e
    exact (congrArg (fun m => m >>= fun cs => pure cs) e2).trans rfl
  · rcases h1 n c hm with h | h
    · cases h
    · exact h

theorem cellsFrom_append : ∀ (names : List (Str × NameKind)) (n : Nat) (acc : List (Str × Addr)), cellsFrom n names acc = cellsFrom n names [] ++ acc
  | [], _, _ => rfl
  | (m, k) :: r, n, acc => by
    unfold cellsFrom
    split
    · rw [cellsFrom_append r (n + 1) ((m, n) :: acc), cellsFrom_append r (n + 1) [(m, n)]]; simp
    · exact cellsFrom_append r n acc

section
variable {B : Amb} {d : Nat} {env : Env} {loc : Loc} {mc : Str → Option Value} {f : Fz} {own : Own} {s : Shared} {A : Around} {X : XP}

theorem newCompEnv {M : Model} {scope : Scope} {globals : Addr} {cl : List (Str × Addr)} {qual : Str} {Q : Env → Shared → Prop} {E : Value → Shared → Prop}
    (h : Q { scope := scope, locals := s.heap.objs.size, globals := globals, cells := cellsFrom (s.heap.objs.size + 1) scope.names cl, qual := qual, func := none, code := env.code, frame := env.frame, builtins := env.builtins }
      { s with heap := pushCells (s.heap.push { cls := .type "dict", data := .dict #[] }) scope.names }) :
    wpAny M A (newFunctionEnv scope globals cl [] qual none .none (some env)) Q E s := by
  simp only [newFunctionEnv, Option.isSome_some, if_true]
  refine wpAny_bind (wpAny_alloc ?_)
  refine wpAny_bind (wpAny_layCells _ (fun name kind cells => by cases hkc : kind == NameKind.cell <;> simp [hkc]) _ _ _ _ ?_)
  rw [show ({ s with heap := s.heap.push { cls := .type "dict", data := .dict #[] } } : Shared).heap.objs.size = s.heap.objs.size + 1 from Heap.size_push ..]
  exact wpAny_bind (wpAny_pure (wpAny_pure h))

noncomputable def tests (ifs : List Expr) (env : Env) (b : Bool) : Sem Bool := forIn ifs b fun c r => if r = true then do let ok ← isTrue c env (eval c env); pure (ForInStep.yield ok) else pure (ForInStep.yield r)
theorem tests_false : ∀ (ifs : List Expr) (env : Env), tests ifs env false = pure false
  | [], _ => rfl
  | c :: r, env => by
    unfold tests
    rw [List.forIn_cons]
    simp only [Bool.false_eq_true, if_false]
    exact tests_false r env
noncomputable def EvTs (B : Amb) (d : Nat) (env : Env) (ifs : List Expr) (loc : Loc) (own : Own) (Q : Bool → Own → Prop) (X : XP) : Prop := EvT B d env (tests ifs env true) loc own Q X
theorem evTs_nil {Q : Bool → Own → Prop} (h : Q true own) : EvTs B d env [] loc own Q X := fun _ mc f s _ c => wpAny_pure (PostT.now c h)
theorem evTs_cons {e : Expr} {rest : List Expr} {Q : Bool → Own → Prop} (h : EvT B d env (isTrue e env (eval e env)) loc own (fun b own₁ => if b then EvTs B d env rest loc own₁ Q X else Q false own₁) X) : EvTs B d env (e :: rest) loc own Q X := by
  intro A mc f s ok c
  unfold tests
  rw [List.forIn_cons]
  simp only [if_true]
  refine wpAny_bind (wpAny_bind (h.run ok c (fun f₁ own₁ s₁ b st c₁ q => wpAny_pure ?_) fun _ _ e => e))
  cases b with
  | true =>
    simp only [if_true] at q
    exact q.run ok c₁ (fun f₂ own₂ s₂ b st₂ c₂ q₂ => ⟨f₂, own₂, st.trans st₂, c₂, q₂⟩) fun _ _ e => e.trans st
  | false =>
    simp only [Bool.false_eq_true, if_false] at q
    exact wpAny_of_eq (tests_false rest env) ⟨f₁, own₁, st, c₁, q⟩

theorem codeAny_compLoop_any {prog : Program} {w : World} {R : Result → Shared → Prop} {elt target iter : Expr} {ifs : List Expr} {scope : Scope} {pos : Pos} {it acc : Value} {env : Env} (I : Nat → Shared → Prop)
    (turn : ∀ n s, I n s → wpAny (model prog w) A (pyNext it) (fun r s₁ => match r with
      | none => R (.ok .next) s₁
      | some v => wpAny (model prog w) A (letOwnedTupleGo target it v) (fun _ s₁' => wpAny (model prog w) A (assign target env v) (fun _ s₂ =>
          wpAny (model prog w) A (tests ifs env true) (fun ok s₃ =>
            if ok = true then wpAny (model prog w) A (eval elt env) (fun x s₄ =>
              wpAny (model prog w) A (call (.builtin "list.append") [acc, x]) (fun _ s₅ => ∃ m, m < n ∧ I m s₅) (fun _ _ => False) s₄) (fun _ _ => False) s₃
            else ∃ m, m < n ∧ I m s₃) (fun _ _ => False) s₂) (fun _ _ => False) s₁') (fun _ _ => False) s₁) (fun _ _ => False) s)
    (n : Nat) (h : I n s) :
    codeAny (model prog w) A (.compLoop (.ListComp elt [⟨target, iter, ifs, 0⟩] scope pos) 0 it acc env) R s := by
  refine codeAny_loop rfl I (fun n s hI => ?_) n h
  show wpAny _ A ((compTurn (.ListComp elt [⟨target, iter, ifs, 0⟩] scope pos) 0 it acc env).onRaise (fun x => do noteFrame x env; theTreesLotGoes x)) _ _ s
  refine wpAny_noted ?_
  rw [compTurn_list]
  refine wpAny_bind (wpAny_standAt (wpAny_bind (wpAny_mono (turn n s hI) (fun r s₁ h₁ => ?_) fun _ _ h' => h'.elim)))
  cases r with
  | none => exact wpAny_pure h₁
  | some v =>
    refine wpAny_bind (wpAny_mono h₁ (fun _ s₁' h₁' => ?_) fun _ _ h' => h'.elim)
    refine wpAny_bind (wpAny_mono h₁' (fun _ s₂ h₂ => wpAny_bind (wpAny_mono h₂ (fun ok s₃ h₃ => ?_) fun _ _ h' => h'.elim)) fun _ _ h' => h'.elim)
    cases ok with
    | false => exact wpAny_pure ⟨rfl, h₃⟩
    | true =>
      exact wpAny_bind (wpAny_bind (wpAny_mono h₃ (fun x s₄ h₄ => wpAny_bind (wpAny_mono h₄ (fun _ s₅ h₅ => wpAny_pure (wpAny_pure ⟨rfl, h₅⟩)) fun _ _ h' => h'.elim)) fun _ _ h' => h'.elim))

theorem Cfg.weak (c : Cfg B env loc mc f own s) {loc' : Loc} (h : ∀ x v, loc'.lookup x = some v → loc.lookup x = some v) : Cfg B env loc' mc f own s := { c with rel := fun x v e => c.rel x v (h x v e) }

noncomputable def inner (fv : List String) (loc : Loc) : Loc := loc.filter fun p => fv.contains p.1
theorem inner_lookup {fv : List String} : ∀ {loc : Loc} {x : String} {v : AV}, (inner fv loc).lookup x = some v → loc.lookup x = some v ∧ x ∈ fv
  | [], _, _, h => by simp [inner] at h
  | (y, w) :: r, x, v, h => by
    unfold inner at h
    rw [List.filter_cons] at h
    rw [List.lookup_cons]
    by_cases hy : fv.contains y = true
    · simp only [hy, if_true, List.lookup_cons] at h
      cases hb : x == y with
      | true =>
        rw [hb] at h
        exact ⟨h, by rw [beq_iff_eq.mp hb]; simpa using hy⟩
      | false => rw [hb] at h; exact inner_lookup h
    · simp only [Bool.not_eq_true] at hy
      simp only [hy, Bool.false_eq_true, if_false] at h
      obtain ⟨h1, h2⟩ := inner_lookup h
      have hb : (x == y) = false := by
        cases hb : x == y with
        | false => rfl
        | true => rw [beq_iff_eq.mp hb] at h2; simp [List.contains_iff_mem] at hy; exact absurd h2 hy
      rw [hb]; exact ⟨h1, h2⟩

theorem upd_lookup_none {x : String} {v : AV} {loc : Loc} {y : String} {w : AV} (hn : loc.lookup x = none) (h : loc.lookup y = some w) : (Loc.upd x v loc).lookup y = some w := by
  rw [Loc.lookup_upd]
  have : y ≠ x := fun e => by rw [e, hn] at h; cases h
  rw [if_neg this]; exact h
theorem upds_lookup_none : ∀ {xs : List String} {vs : List AV} {loc : Loc} {y : String} {w : AV}, y ∉ xs → loc.lookup y = some w → (Loc.upds xs vs loc).lookup y = some w
  | [], _, _, _, _, _, h => h
  | x :: xs, [], _, _, _, _, h => h
  | x :: xs, v :: vs, loc, y, w, hn, h => by
    simp only [List.mem_cons, not_or] at hn
    unfold Loc.upds
    refine upds_lookup_none hn.2 ?_
    rw [Loc.lookup_upd, if_neg hn.1]; exact h

theorem mkL_adopt {o : Bool} {xs : List AV} {vs : List Value} {n : Nat} {Q : AV → Own → Prop} {D : Addr} {f' : Fz} {own' : Own} {s' : Shared} (c : Cfg B env loc mc f' own' s') (st : Step (exOf env) f own s f' own' s')
    (hD : s'.heap.get? D = some (sq "list" vs n)) (h1 : D ∉ addrs own') (h2 : f' D = none) (h3 : D ∉ exOf env) (h4 : s.heap.get? D = none) (r : RelVs f' xs vs) (h : mkL o xs own' Q) :
    ∃ f'' own'' x, Step (exOf env) f own s f'' own'' s' ∧ Cfg B env loc mc f'' own'' s' ∧ RelV f'' x (.ref D) ∧ f'.le f'' ∧ (∀ b, b ≠ D → (f'' b = f' b) ∧ (b ∈ addrs own'' ↔ b ∈ addrs own')) ∧ Q x own'' := by
  cases o with
  | true =>
    simp only [mkL, if_true] at h
    refine ⟨f', (D, .list xs) :: own', .ref D, ⟨st.mono, st.newf, st.keep, fun a ha => ?_, st.live⟩, ⟨⟨c.inv.same, c.inv.base, c.inv.sub, fun p hp => ?_, List.nodup_cons.mpr ⟨h1, c.inv.nodup⟩⟩, c.fra, c.rel, fun b hb => ?_, c.cells⟩, by simp [RelV], .refl _, fun b hb => ⟨rfl, by simp [hb]⟩, h D h1⟩
    · rcases List.mem_cons.mp ha with rfl | ha
      · exact .inr h4
      · exact st.new a ha
    · rcases List.mem_cons.mp hp with rfl | hp
      · exact ⟨h2, _, hD, vs, n, rfl, r⟩
      · exact c.inv.led p hp
    · obtain ⟨x, y, z⟩ := c.apart b hb
      exact ⟨by simp only [List.map_cons, List.mem_cons, not_or]; exact ⟨fun e => h3 (e ▸ hb), x⟩, y, z⟩
  | false =>
    simp only [mkL, Bool.false_eq_true, if_false] at h
    have hle := Fz.put_le (sq "list" vs n) h2
    refine ⟨f'.put D (sq "list" vs n), own', .lst xs, ⟨st.mono.trans hle, fun b o' e => ?_, st.keep, st.new, st.live⟩, ⟨⟨c.inv.same, fun b o' e => hle b o' (c.inv.base b o' e), fun b o' e => ?_, fun p hp => ?_, c.inv.nodup⟩, c.fra,
      fun x v e => let ⟨y, h1, h2⟩ := c.rel x v e; ⟨y, h1, h2.mono hle⟩, fun b hb => ?_, c.cells⟩, ?_, hle, fun b hb => ⟨by simp [Fz.put, hb], Iff.rfl⟩, h⟩
    · unfold Fz.put at e; split at e
      · subst_vars; exact .inr (.inr h4)
      · exact st.newf b o' e
    · unfold Fz.put at e; split at e
      · subst_vars; cases e; exact hD
      · exact c.inv.sub b o' e
    · obtain ⟨y, o', ho', q⟩ := c.inv.led p hp
      have hne : p.1 ≠ D := fun e => h1 (e ▸ List.mem_map.mpr ⟨p, hp, rfl⟩)
      exact ⟨by simp [Fz.put, hne, y], o', ho', q.mono hle⟩
    · obtain ⟨x, y, z⟩ := c.apart b hb
      have hne : b ≠ D := fun e => h3 (e ▸ hb)
      exact ⟨x, by simp [Fz.put, hne, y], z⟩
    · simp only [RelV]; exact ⟨D, vs, n, rfl, Fz.put_self .., r.mono hle⟩
end
end Mine

namespace Mine
open PySem PySem.Spec

structure Mid (ex wr : List Addr) (f : Fz) (own : Own) (s : Shared) (f' : Fz) (own' : Own) (s' : Shared) : Prop where
  mono : f.le f'
  newf : ∀ a o, f' a = some o → f a = some o ∨ a ∈ addrs own ∨ s.heap.get? a = none
  keep : ∀ b o, s.heap.get? b = some o → b ∉ addrs own → b ∉ ex → b ∉ wr → s'.heap.get? b = some o
  new : ∀ a ∈ addrs own', a ∈ addrs own ∨ s.heap.get? a = none
  live : ∀ b o, s.heap.get? b = some o → b ∉ wr → ∃ o', s'.heap.get? b = some o'

theorem Mid.step {ex wr f own s f₁ own₁ s₁ f₂ own₂ s₂} (x : Mid ex wr f own s f₁ own₁ s₁) (y : Step ex f₁ own₁ s₁ f₂ own₂ s₂) (hw : ∀ b ∈ wr, ∃ o, s₁.heap.get? b = some o) : Mid ex wr f own s f₂ own₂ s₂ := by
  have back : ∀ a, s₁.heap.get? a = none → s.heap.get? a = none := fun a h => by
    cases hs : s.heap.get? a with
    | none => rfl
    | some o =>
      by_cases hm : a ∈ wr
      · obtain ⟨o', h'⟩ := hw a hm; rw [h] at h'; cases h'
      · obtain ⟨o', h'⟩ := x.live a o hs hm; rw [h] at h'; cases h'
  exact {
    mono := x.mono.trans y.mono
    newf := fun a o h => by
      rcases y.newf a o h with h | h | h
      · exact x.newf a o h
      · exact .inr (x.new a h)
      · exact .inr (.inr (back a h))
    keep := fun b o h h1 h2 h3 => y.keep b o (x.keep b o h h1 h2 h3) (fun hm => (x.new b hm).elim h1 fun hn => by rw [h] at hn; cases hn) h2
    new := fun a h => (y.new a h).elim (fun h => x.new a h) fun h => .inr (back a h)
    live := fun b o h hb => let ⟨o', h'⟩ := x.live b o h hb; y.live b o' h' }
theorem Mid.other {ex wr f own s f' own' s'} (x : Mid ex wr f own s f' own' s') {h' : Heap} (t : Nat) {wr' : List Addr} (k : ∀ b o, b ∉ wr' → s'.heap.get? b = some o → h'.get? b = some o) (hw : ∀ b ∈ wr', b ∈ wr ∨ s.heap.get? b = none) :
    Mid ex wr f own s f' own' { s' with heap := h', toks := t } where
  mono := x.mono
  newf := x.newf
  keep := fun b o e h1 h2 h3 => k b o (fun hb => (hw b hb).elim h3 fun hn => by rw [hn] at e; cases e) (x.keep b o e h1 h2 h3)
  new := x.new
  live := fun b o e h3 => let ⟨o', h⟩ := x.live b o e h3; ⟨o', k b o' (fun hb => (hw b hb).elim h3 fun hn => by rw [hn] at e; cases e) h⟩
theorem Mid.toStep {ex ex' wr f own s f₁ own₁ s₁ f₂ own₂ s₂} (x : Step ex f own s f₁ own₁ s₁) (y : Mid ex' wr f₁ own₁ s₁ f₂ own₂ s₂) (he : ∀ b ∈ ex', b ∈ ex ∨ s.heap.get? b = none) (hw : ∀ b ∈ wr, s.heap.get? b = none) : Step ex f own s f₂ own₂ s₂ where
  mono := x.mono.trans y.mono
  newf := fun a o h => by
    rcases y.newf a o h with h | h | h
    · exact x.newf a o h
    · exact .inr (x.new a h)
    · exact .inr (.inr (x.back h))
  keep := fun b o h h1 h2 => y.keep b o (x.keep b o h h1 h2) (fun hm => (x.new b hm).elim h1 fun hn => by rw [h] at hn; cases hn) (fun hm => (he b hm).elim h2 fun hn => by rw [h] at hn; cases hn) fun hm => by rw [hw b hm] at h; cases h
  new := fun a h => (y.new a h).elim (fun h => x.new a h) fun h => .inr (x.back h)
  live := fun b o h => let ⟨o', h'⟩ := x.live b o h; y.live b o' h' fun hm => by rw [hw b hm] at h; cases h

structure ScOk (env : Env) (scope : Scope) (fv : List String) (tg : Tgt) : Prop where
  kind : scope.kind = .function
  nodup : (scope.names.map (·.1)).Nodup
  free : ∀ n, (n, NameKind.free) ∈ scope.names → env.kindOf n = some .cell ∨ env.kindOf n = some .free
  fv : ∀ x ∈ fv, scope.names.lookup (Str.ofString x) = some .free
  tg : ∀ x ∈ tg.names, scope.names.lookup (Str.ofString x) = some .local ∨ scope.names.lookup (Str.ofString x) = some .cell

noncomputable def TgtShape (e : Expr) : Tgt → Prop
  | .name x => ∃ pos, e = .Name (Str.ofString x) pos
  | .tup xs => ∃ ps k pos, xs.length = ps.length ∧ e = .Tuple ((xs.zip ps).map fun q => .Name (Str.ofString q.1) q.2) k pos
theorem tgtOk_of {env : Env} {e : Expr} {tg : Tgt} (h : TgtShape e tg) (hk : ∀ x ∈ tg.names, env.kindOf (Str.ofString x) = some .local ∨ env.kindOf (Str.ofString x) = some .cell) : TgtOk env e tg := by
  cases tg with
  | name x => exact ⟨h, hk x (by simp [Tgt.names])⟩
  | tup xs => exact ⟨h, hk⟩

theorem relabel_lookup {env : Env} (y : Str) : ∀ (names : List (Str × NameKind)),
    (names.map fun (n, k) => if (k == NameKind.free && env.scope.kind == .function && env.kindOf n == some .cell) then (n, NameKind.cell) else (n, k)).lookup y =
      (names.lookup y).map fun k => if (k == NameKind.free && env.scope.kind == .function && env.kindOf y == some .cell) then NameKind.cell else k
  | [] => rfl
  | (n, k) :: r => by
    have ih := relabel_lookup (env := env) y r
    have e : (if (k == NameKind.free && env.scope.kind == .function && env.kindOf n == some .cell) then (n, NameKind.cell) else (n, k)) = (n, if (k == NameKind.free && env.scope.kind == .function && env.kindOf n == some .cell) then NameKind.cell else k) := by split <;> rfl
    rw [List.map_cons]
    simp only [e]
    rw [List.lookup_cons, List.lookup_cons]
    cases hb : y == n with
    | true => rw [beq_iff_eq.mp hb]; rfl
    | false => exact ih

theorem lookup_append' {α : Type} (y : Str) : ∀ (l r : List (Str × α)), (l ++ r).lookup y = match l.lookup y with | some c => some c | none => r.lookup y
  | [], _ => rfl
  | (n, c) :: l, r => by
    rw [List.cons_append, List.lookup_cons, List.lookup_cons]
    cases hb : y == n with
    | true => rfl
    | false => exact lookup_append' y l r

section
variable {B : Amb} {d : Nat} {env : Env} {loc : Loc} {mc : Str → Option Value} {f : Fz} {own : Own} {s : Shared} {A : Around} {X : XP}

theorem inner_notin {scope : Scope} {fv : List String} {tg : Tgt} (sc : ScOk env scope fv tg) {x : String} (hx : x ∈ tg.names) : x ∉ fv := fun h => by
  have h1 := sc.fv x h
  rcases sc.tg x hx with h2 | h2 <;> (rw [h1] at h2; cases h2)

theorem tgtS_keep {tg : Tgt} {x : AV} {loc : Loc} {own : Own} {R : Loc → Own → Prop} (hn : ∀ x ∈ tg.names, loc.lookup x = none) (h : tgtS tg x loc own R) : tgtS tg x loc own (fun l o => R l o ∧ ∀ y w, loc.lookup y = some w → l.lookup y = some w) := by
  cases tg with
  | name z => exact ⟨h, fun y w hy => upd_lookup_none (hn z (by simp [Tgt.names])) hy⟩
  | tup zs =>
    obtain ⟨vs, e, hl, h⟩ := h
    exact ⟨vs, e, hl, h, fun y w hy => upds_lookup_none (fun hm => by rw [hn y hm] at hy; cases hy) hy⟩

theorem comp_core {elt target iter : Expr} {ifs : List Expr} {scope : Scope} {pos : Pos} {tg : Tgt} {fv : List String} {cl : List (Str × Addr)} {f₁ : Fz} {own₁ : Own} {s₂ : Shared} {I : Addr} {fp wr : List Addr} {P Md : Nat → Value → Heap → Prop} {St : Nat → Heap → Prop}
    {xs : List AV} {E : Value → Shared → Prop} {RR : Value → Addr → Result → Shared → Prop} (ok : OkA d A) (he : EnvOk env) (sc : ScOk env scope fv tg) (hts : TgtShape target tg)
    (hcl1 : ∀ n c, (n, c) ∈ cl → (n, NameKind.free) ∈ scope.names ∧ env.cells.lookup n = some c) (hcl2 : ∀ n, (n, NameKind.free) ∈ scope.names → ∃ c, (n, c) ∈ cl)
    (st : Step (exOf env) f own s f₁ own₁ s₂) (c₁ : Cfg B env loc mc f₁ own₁ s₂) (S : Src B A target tg xs f₁ I fp wr P Md St) (hSt : St 0 s₂.heap) (hfp : ∀ b ∈ fp, b ∉ addrs own₁ ∧ b ∉ exOf env) (hwr : ∀ b ∈ wr, s.heap.get? b = none ∧ f₁ b = none)
    (J : List AV → List AV → Own → Prop) (h0 : J xs [] own₁)
    (step : ∀ cenv, EnvOk cenv → cenv.scope = relabel scope env → ∀ x rest acc own, J (x :: rest) acc own → tgtS tg x (inner fv loc) own (fun loc₁ own₁ => EvTs B d cenv ifs loc₁ own₁ (fun b own₂ =>
      if b then EvE B d cenv (eval elt cenv) loc₁ own₂ (fun y own₃ => acc.length ≤ 100000 ∧ J rest (acc ++ [y]) own₃) noX else J rest acc own₂) noX))
    (hRR : ∀ D C s' f' own' accs vs n m, Step (exOf env) f own s f' own' s' → Cfg B env loc mc f' own' s' → s'.heap.get? D = some (sq "list" vs n) → RelVs f' accs vs → D ∉ addrs own' → f' D = none → D ∉ exOf env → s.heap.get? D = none →
      s'.heap.Ns C m → C ∉ addrs own' → f' C = none → C ∉ exOf env → s.heap.get? C = none → C ≠ D → J [] accs own' → RR (.ref D) C (.ok .next) s') :
    wpAny B.M A (newList []) (fun acc s₃ => wpAny B.M A (newFunctionEnv scope env.globals cl [] env.qual none .none (some env)) (fun cenv s₄ =>
      codeAny B.M A (.compStart (.ListComp elt [⟨target, iter, ifs, 0⟩] scope pos) 0 (.ref I) acc { cenv with scope := relabel scope env }) (RR acc cenv.locals) s₄) E s₃) E s₂ := by
  refine wpAny_newObj_type ?_ (by size_fits)
  refine newCompEnv ?_
  -- the addresses
  generalize hDd : s₂.heap.objs.size = D
  have hsz3 : (s₂.heap.push { cls := .type "list", data := .seq #[] }).objs.size = D + 1 := by rw [Heap.size_push, hDd]
  simp only [hsz3]
  generalize hh4 : pushCells ((s₂.heap.push { cls := .type "list", data := .seq (List.toArray []) }).push { cls := .type "dict", data := .dict #[] }) scope.names = h₄
  have nD : s₂.heap.get? D = none := by rw [← hDd]; exact get?_size _
  have nge : ∀ b, @LE.le Nat instLENat D b → s₂.heap.get? b = none := fun b hb => by
    cases e : s₂.heap.get? b with
    | none => rfl
    | some o => have hq : @LT.lt Nat instLTNat b s₂.heap.objs.size := Heap.lt_size e; omega
  have kp3 := push_keeps s₂.heap { cls := .type "list", data := .seq (List.toArray []) }
  have kp4 := push_keeps (s₂.heap.push { cls := .type "list", data := .seq (List.toArray []) }) { cls := .type "dict", data := .dict #[] }
  have kp5 := pushCells_keeps scope.names ((s₂.heap.push { cls := .type "list", data := .seq (List.toArray []) }).push { cls := .type "dict", data := .dict #[] })
  have kp : ∀ b o, s₂.heap.get? b = some o → h₄.get? b = some o := fun b o e => hh4 ▸ kp5 b o (kp4 b o (kp3 b o e))
  have hD4 : h₄.get? D = some (sq "list" [] 0) := by
    rw [← hh4]; refine kp5 _ _ (kp4 _ _ ?_)
    rw [← hDd]; exact Heap.get?_push_size _ rfl
  have hC4 : h₄.Ns (D + 1) fun _ => none := by
    rw [← hh4]
    refine Heap.Ns.keeps ?_ kp5
    have := Heap.Ns.new (s₂.heap.push { cls := .type "list", data := .seq (List.toArray []) }) (.type "dict")
    rw [hsz3] at this; exact this
  have okc := cellsFrom_ok scope.names ((s₂.heap.push { cls := .type "list", data := .seq (List.toArray []) }).push { cls := .type "dict", data := .dict #[] }) (D + 1 + 1) [] ⟨fun _ _ hm => (nomatch hm), List.Pairwise.nil⟩ (by rw [Heap.size_push, hsz3]; exact Nat.le_refl _)
  rw [Heap.size_push, hsz3, hh4] at okc
  have hcells : cellsFrom (D + 1 + 1) scope.names cl = cellsFrom (D + 1 + 1) scope.names [] ++ cl := cellsFrom_append ..
  generalize hoc : cellsFrom (D + 1 + 1) scope.names [] = oc at okc hcells
  rw [hcells]
  generalize henv : ({ scope := relabel scope env, locals := D + 1, globals := env.globals, cells := oc ++ cl, qual := env.qual, func := none, code := env.code, frame := env.frame, builtins := env.builtins } : Env) = cenv
  have e1 : cenv.scope = relabel scope env := by rw [← henv]
  have e2 : cenv.locals = D + 1 := by rw [← henv]
  have e3 : cenv.cells = oc ++ cl := by rw [← henv]
  have hk : ∀ y, cenv.kindOf y = (scope.names.lookup y).map fun k => if (k == NameKind.free && env.scope.kind == .function && env.kindOf y == some .cell) then NameKind.cell else k := fun y => by
    unfold Env.kindOf; rw [e1]; exact relabel_lookup y scope.names
  have ockeys : ∀ y, y ∈ oc.map (·.1) ↔ (y, NameKind.cell) ∈ scope.names := fun y => by rw [← hoc, cellsFrom_keys]; simp
  have clkey : ∀ y c, cl.lookup y = some c → (y, NameKind.free) ∈ scope.names ∧ env.cells.lookup y = some c := fun y c h => hcl1 y c (mem_of_lookup h)
  have uniq : ∀ {y : Str} {k k' : NameKind}, (y, k) ∈ scope.names → (y, k') ∈ scope.names → k = k' := fun h h' => by
    have a := lookup_of_nodup sc.nodup h; have b := lookup_of_nodup sc.nodup h'; rw [a] at b; cases b; rfl
  have lkfree : ∀ y, (y, NameKind.free) ∈ scope.names → ∃ c, cenv.cells.lookup y = some c ∧ env.cells.lookup y = some c := fun y hy => by
    obtain ⟨c, hc⟩ := hcl2 y hy
    obtain ⟨c', hc'⟩ := lookup_isSome (l := cl) (n := y) (List.mem_map.mpr ⟨_, hc, rfl⟩)
    refine ⟨c', ?_, (clkey y c' hc').2⟩
    rw [e3, lookup_append']
    cases ho : oc.lookup y with
    | none => exact hc'
    | some z =>
      have : (y, NameKind.cell) ∈ scope.names := (ockeys y).mp (List.mem_map.mpr ⟨_, mem_of_lookup ho, rfl⟩)
      cases uniq hy this
  have lkcell : ∀ y c, oc.lookup y = some c → @LE.le Nat instLENat (D + 1 + 1) c ∧ h₄.IsCell c none := fun y c h => ⟨(okc.empty y c (mem_of_lookup h)).2, (okc.empty y c (mem_of_lookup h)).1⟩
  have cellAlive : ∀ y c, env.cells.lookup y = some c → ∃ o, s₂.heap.get? c = some o := fun y c h => (c₁.apart c (by simp only [exOf, List.mem_cons, List.mem_map]; exact .inr ⟨_, mem_of_lookup h, rfl⟩)).2.2
  have cellLt : ∀ y c, env.cells.lookup y = some c → @LT.lt Nat instLTNat c D := fun y c h => by
    obtain ⟨o, ho⟩ := cellAlive y c h
    have hq : @LT.lt Nat instLTNat c s₂.heap.objs.size := Heap.lt_size ho
    omega
  have hce : EnvOk cenv := by
    refine ⟨by rw [e1]; exact sc.kind, by rw [← henv]; exact he.glob, by rw [← henv]; exact he.blt, fun x y c hx hy => ?_⟩
    rw [e3, lookup_append'] at hx hy
    cases hox : oc.lookup x with
    | some a =>
      rw [hox] at hx; cases hx
      cases hoy : oc.lookup y with
      | some b =>
        rw [hoy] at hy; cases hy
        exact name_of_addr okc.apart (mem_of_lookup hox) (mem_of_lookup hoy)
      | none =>
        rw [hoy] at hy
        have h1 := (lkcell x _ hox).1
        have h2 := cellLt y _ (clkey y _ hy).2
        omega
    | none =>
      rw [hox] at hx
      cases hoy : oc.lookup y with
      | some b =>
        rw [hoy] at hy; cases hy
        have h1 := (lkcell y _ hoy).1
        have h2 := cellLt x _ (clkey x _ hx).2
        omega
      | none => rw [hoy] at hy; exact he.apart x y c (clkey x c hx).2 (clkey y c hy).2
  have exC : ∀ b ∈ exOf cenv, (@LT.lt Nat instLTNat D b) ∨ (b ∈ exOf env ∧ b ≠ env.locals) := fun b hb => by
    simp only [exOf, List.mem_cons, List.mem_map, e2, e3, List.mem_append] at hb
    rcases hb with rfl | ⟨p, hp | hp, rfl⟩
    · exact .inl (by omega)
    · have hz : @LE.le Nat instLENat (D + 1 + 1) p.2 := (okc.empty p.1 p.2 hp).2
      exact .inl (by omega)
    · have h := hcl1 p.1 p.2 hp
      exact .inr ⟨by simp only [exOf, List.mem_cons, List.mem_map]; exact .inr ⟨_, mem_of_lookup h.2, rfl⟩, c₁.cells _ (mem_of_lookup h.2)⟩
  let mcI : Str → Option Value := fun y => if scope.names.lookup y = some .free then mc y else none
  have hc4 : Cfg B cenv (inner fv loc) mcI f₁ own₁ { s₂ with heap := h₄ } := by
    have g := c₁.inv.grow s₂.toks kp
    refine ⟨g, ⟨⟨fun _ => none, e2 ▸ hC4, fun y hy => ?_⟩, fun y hy => ?_⟩, fun x v hl => ?_, fun b hb => ?_, fun p hp => ?_⟩
    · rw [hk] at hy
      show none = mcI y
      simp only [mcI]
      split
      · rename_i hfr
        rw [hfr] at hy
        simp only [Option.map_some, Option.some.injEq] at hy
        split at hy <;> cases hy
      · rfl
    · rw [hk] at hy
      cases hl : scope.names.lookup y with
      | none => rw [hl] at hy; simp at hy
      | some k =>
        rw [hl] at hy
        have hm := mem_of_lookup hl
        by_cases hkf : k = .free
        · subst hkf
          obtain ⟨c, h1, h2⟩ := lkfree y hm
          refine ⟨c, h1, ?_⟩
          show Heap.IsCell _ c (mcI y)
          simp only [mcI, hl, if_true]
          obtain ⟨c', h3, h4⟩ := c₁.fra.cell y (sc.free y hm)
          rw [h2] at h3; cases h3
          exact h4.keeps kp
        · by_cases hkc : k = .cell
          · subst hkc
            obtain ⟨c, hc⟩ := lookup_isSome (l := oc) (n := y) ((ockeys y).mpr hm)
            refine ⟨c, ?_, ?_⟩
            · rw [e3, lookup_append', hc]
            · show Heap.IsCell _ c (mcI y)
              simp only [mcI, hl]
              exact (lkcell y c hc).2
          · have hb : (k == NameKind.free) = false := by simpa using hkf
            simp only [Option.map_some, hb, Bool.false_and, Bool.false_eq_true, if_false, Option.some.injEq] at hy
            rcases hy with h | h
            · exact absurd h hkc
            · exact absurd h hkf
    · obtain ⟨h1, h2⟩ := inner_lookup hl
      obtain ⟨w, h3, h4⟩ := c₁.rel x v h1
      refine ⟨w, ?_, h4⟩
      show mcI (Str.ofString x) = _
      simp only [mcI, sc.fv x h2, if_true]; exact h3
    · rcases exC b hb with h | ⟨h, _⟩
      · have hn := nge b (by omega)
        refine ⟨c₁.inv.freshOwn hn, c₁.inv.fresh hn, ?_⟩
        simp only [exOf, List.mem_cons, List.mem_map, e2, e3, List.mem_append] at hb
        rcases hb with rfl | ⟨p, hp | hp, rfl⟩
        · obtain ⟨o, _, _, ho, _⟩ := hC4; exact ⟨o, ho⟩
        · obtain ⟨o, ho, _⟩ := (okc.empty p.1 p.2 hp).1; exact ⟨o, ho⟩
        · have := cellLt p.1 p.2 (hcl1 p.1 p.2 hp).2; omega
      · obtain ⟨h1, h2, o, h3⟩ := c₁.apart b h
        exact ⟨h1, h2, o, kp _ _ h3⟩
    · rw [e3] at hp
      rw [e2]
      rcases List.mem_append.mp hp with hp | hp
      · have hz : @LE.le Nat instLENat (D + 1 + 1) p.2 := (okc.empty p.1 p.2 hp).2
        intro e; have e' : @Eq Nat p.2 (D + 1) := e; omega
      · have := cellLt p.1 p.2 (hcl1 p.1 p.2 hp).2
        intro e; have e' : @Eq Nat p.2 (D + 1) := e; omega
  have fpx : ∀ b ∈ fp, b ∉ exOf cenv ∧ b ≠ D := fun b hb => by
    obtain ⟨o, ho⟩ := S.alive _ _ hSt b hb
    have hq : @LT.lt Nat instLTNat b s₂.heap.objs.size := Heap.lt_size ho
    refine ⟨fun hm => ?_, fun e => by have e' : @Eq Nat b D := e; omega⟩
    rcases exC b hm with h | ⟨h, _⟩
    · omega
    · exact (hfp b hb).2 h
  have hDx : D ∉ exOf cenv := fun hm => by
    rcases exC D hm with h | ⟨h, _⟩
    · omega
    · obtain ⟨_, _, o, ho⟩ := c₁.apart D h; rw [nD] at ho; cases ho
  have tgk : ∀ x ∈ tg.names, cenv.kindOf (Str.ofString x) = some .local ∨ cenv.kindOf (Str.ofString x) = some .cell := fun x hx => by
    rw [hk]
    rcases sc.tg x hx with h | h <;> (rw [h]; simp)
  have ht := tgtOk_of hts tgk
  have hinn : ∀ x ∈ tg.names, (inner fv loc).lookup x = none := fun x hx => by
    cases e : (inner fv loc).lookup x with
    | none => rfl
    | some v => exact absurd (inner_lookup e).2 (inner_notin sc hx)
  have mid0 : Mid (exOf cenv) wr f₁ own₁ s₂ f₁ own₁ { s₂ with heap := h₄ } := ⟨.refl _, fun _ _ h => .inl h, fun b o h _ _ _ => kp b o h, fun _ h => .inl h, fun b o h _ => ⟨o, kp b o h⟩⟩
  -- the loop
  have loop : codeAny B.M A (.compLoop (.ListComp elt [⟨target, iter, ifs, 0⟩] scope pos) 0 (.ref I) (.ref D) cenv) (RR (.ref D) (D + 1)) { s₂ with heap := h₄ } := by
    refine codeAny_compLoop_any (fun k s' => ∃ i f' own' mc' accs vs nn, k = xs.length + 1 - i ∧ i ≤ xs.length ∧ Mid (exOf cenv) wr f₁ own₁ s₂ f' own' s' ∧ Cfg B cenv (inner fv loc) mc' f' own' s' ∧
      (∀ y, (∀ x ∈ tg.names, y ≠ Str.ofString x) → mc' y = mcI y) ∧ St i s'.heap ∧ s'.heap.get? D = some (sq "list" vs nn) ∧ RelVs f' accs vs ∧ D ∉ addrs own' ∧ f' D = none ∧
      (∀ b ∈ fp, b ∉ addrs own') ∧ (∀ b ∈ wr, f' b = none) ∧ J (xs.drop i) accs own') ?_ (xs.length + 1)
      ⟨0, f₁, own₁, mcI, [], [], 0, by simp, Nat.zero_le _, mid0, hc4, fun _ _ => rfl, S.turns.frame _ _ _ hSt (fun b _ o e => kp b o e), hD4, .nil, c₁.inv.freshOwn nD, c₁.inv.fresh nD, fun b hb => (hfp b hb).1, fun b hb => (hwr b hb).2, by simpa using h0⟩
    rintro k s' ⟨i, f', own', mc', accs, vs, nn, rfl, hi, hmid, c', hmc, hSt', hD, hacc, hDo, hDf, hfpo, hwrf, hJ⟩
    have hww : ∀ b ∈ wr, b ∉ addrs own' ∧ b ∉ exOf cenv ∧ f' b = none := fun b hb => ⟨hfpo b (S.turns.sub b hb), (fpx b (S.turns.sub b hb)).1, hwrf b hb⟩
    have hDw : D ∉ wr := fun hm => (fpx D (S.turns.sub D hm)).2 rfl
    by_cases hlt : i < xs.length
    · have hx : xs[i]? = some xs[i] := by simp [hlt]
      have hdr : xs.drop i = xs[i] :: xs.drop (i + 1) := List.drop_eq_getElem_cons hlt
      rw [hdr] at hJ
      refine S.turns.item i s' _ _ hlt hSt' fun v h₁ tk₁ hMd hk₁ => ?_
      refine S.turns.go i v _ _ _ hMd fun h₂ hP hSt₂ hk₂ => ?_
      have kk : ∀ b o, b ∉ wr → s'.heap.get? b = some o → h₂.get? b = some o := fun b o hb e => hk₂ b o hb (hk₁ b o hb e)
      have c₂ := c'.other tk₁ kk hww
      have mid₂ := hmid.other tk₁ kk fun b hb => .inl hb
      have hD2 : h₂.get? D = some (sq "list" vs nn) := kk _ _ hDw hD
      refine wpAny_mono (S.asg i v cenv (inner fv loc) own' mc' f' _ _ noX xs[i] hce ht hx hmid.mono c₂ hP (tgtS_keep hinn (step cenv hce e1 _ _ _ _ hJ))) (fun _ s₃ p => ?_) fun _ _ e => (noE e).elim
      obtain ⟨f₃, own₃, loc₃, mc₃, st₃, c₃, hmc₃, ev, hlk⟩ := p
      refine ev.run ok c₃ (fun f₄ own₄ s₄ b st₄ c₄ q => ?_) fun _ _ e => (noE e).elim
      have al2 : ∀ b ∈ wr, ∃ o, h₂.get? b = some o := fun b hb => S.alive _ _ hSt₂ b (S.turns.sub b hb)
      -- what each further step keeps
      have keepsD : ∀ {fa owna sa}, Step (exOf cenv) f' own' { s' with heap := h₂, toks := tk₁ } fa owna sa → sa.heap.get? D = some (sq "list" vs nn) ∧ D ∉ addrs owna ∧ fa D = none ∧ St (i + 1) sa.heap ∧ (∀ b ∈ fp, b ∉ addrs owna) ∧ (∀ b ∈ wr, fa b = none) := by
        intro fa owna sa stx
        have nn1 : ∀ b, (∃ o, h₂.get? b = some o) → b ∉ addrs own' → b ∉ addrs owna := fun b ⟨o, ho⟩ h1 hm => (stx.new b hm).elim h1 fun h => by have h' : h₂.get? b = none := h; rw [ho] at h'; cases h'
        have nn2 : ∀ b, (∃ o, h₂.get? b = some o) → b ∉ addrs own' → f' b = none → fa b = none := fun b ⟨o, ho⟩ h1 h2 => by
          cases e : fa b with
          | none => rfl
          | some o' =>
            rcases stx.newf b o' e with h | h | h
            · rw [h2] at h; cases h
            · exact absurd h h1
            · have h' : h₂.get? b = none := h; rw [ho] at h'; cases h'
        refine ⟨stx.keep D _ hD2 hDo hDx, nn1 D ⟨_, hD2⟩ hDo, nn2 D ⟨_, hD2⟩ hDo hDf, ?_, fun b hb => nn1 b (S.alive _ _ hSt₂ b hb) (hfpo b hb), fun b hb => nn2 b (al2 b hb) (hfpo b (S.turns.sub b hb)) (hwrf b hb)⟩
        exact S.turns.frame _ _ _ hSt₂ fun b hb o e => stx.keep b o e (hfpo b hb) (fpx b hb).1
      have wk : ∀ {mcx fa owna sa}, Cfg B cenv loc₃ mcx fa owna sa → Cfg B cenv (inner fv loc) mcx fa owna sa := by
        intro mcx fa owna sa cx
        exact cx.weak hlk
      cases b with
      | false =>
        simp only [Bool.false_eq_true, if_false] at q ⊢
        have st34 := st₃.trans st₄
        obtain ⟨k1, k2, k3, k4, k5, k6⟩ := keepsD st34
        exact ⟨xs.length + 1 - (i + 1), by omega, i + 1, f₄, own₄, mc₃, accs, vs, nn, rfl, hlt, mid₂.step st34 al2, wk c₄, fun y hy => (hmc₃ y hy).trans (hmc y hy), k4, k1, hacc.mono st34.mono, k2, k3, k5, k6, q⟩
      | true =>
        simp only [if_true] at q ⊢
        refine q.run ok c₄ (fun f₅ own₅ s₅ y w st₅ c₅ ry q₅ => ?_) fun _ _ e => (noE e).elim
        have st35 := (st₃.trans st₄).trans st₅
        obtain ⟨k1, k2, k3, k4, k5, k6⟩ := keepsD st35
        refine wpAny_list_append_plain (items := vs.toArray) ⟨nn, k1⟩ (fun h₆ hp₆ hs₆ => ?_) (by have := hacc.length; rw [sizeLine_is]; simp; omega)
        obtain ⟨nn', hp₆⟩ := hp₆
        have ek : ∀ b o, b ∉ [D] → s₅.heap.get? b = some o → h₆.get? b = some o := fun b o hb e => (hs₆.2 b (by simpa using hb)).trans e
        have cw := c₅.other (wr := [D]) s₅.toks ek (fun b hb => by simp only [List.mem_cons, List.not_mem_nil, or_false] at hb; subst hb; exact ⟨k2, hDx, k3⟩)
        have al5 : ∀ b ∈ wr, ∃ o, h₂.get? b = some o := al2
        have mw := (mid₂.step st35 al2).other (wr' := [D]) s₅.toks ek (fun b hb => by simp only [List.mem_cons, List.not_mem_nil, or_false] at hb; subst hb; exact .inr nD)
        refine ⟨xs.length + 1 - (i + 1), by omega, i + 1, f₅, own₅, mc₃, accs ++ [y], vs ++ [w], nn', rfl, hlt, mw, wk cw, fun y hy => (hmc₃ y hy).trans (hmc y hy), ?_, ?_, (hacc.mono st35.mono).append (.cons ry .nil), k2, k3, k5, k6, q₅.2⟩
        · exact S.turns.frame _ _ _ k4 fun b hb o e => ek b o (by simpa using (fpx b hb).2) e
        · rw [hp₆]; simp [sq]
    · have hin : i = xs.length := by omega
      subst hin
      refine S.turns.done s' _ _ hSt' fun h₁ tk₁ hk₁ => ?_
      rw [List.drop_length] at hJ
      have c₂ := c'.other tk₁ hk₁ hww
      have mid₂ := hmid.other tk₁ hk₁ fun b hb => .inl hb
      have hD2 : h₁.get? D = some (sq "list" vs nn) := hk₁ _ _ hDw hD
      have hwr0 : ∀ b ∈ wr, s.heap.get? b = none := fun b hb => (hwr b hb).1
      have stF : Step (exOf env) f own s f' own' { s' with heap := h₁, toks := tk₁ } := Mid.toStep st mid₂ (fun b hb => by
        rcases exC b hb with h | ⟨h, _⟩
        · exact .inr (st.back (nge b (by omega)))
        · exact .inl h) hwr0
      have cF : Cfg B env loc mc f' own' { s' with heap := h₁, toks := tk₁ } := by
        have kpE : ∀ a ∈ exOf env, a ∉ exOf cenv → ∀ o, s₂.heap.get? a = some o → h₁.get? a = some o := fun a ha hna o ho =>
          mid₂.keep a o ho (c₁.apart a ha).1 hna fun hm => (hfp a (S.turns.sub a hm)).2 ha
        have hLn : env.locals ∉ exOf cenv := fun hm => by
          rcases exC _ hm with h | ⟨_, h⟩
          · obtain ⟨_, _, o, ho⟩ := c₁.apart env.locals (by simp)
            have := nge env.locals (by omega)
            rw [this] at ho; cases ho
          · exact h rfl
        refine ⟨c₂.inv, ⟨?_, fun y hy => ?_⟩, fun x v e => let ⟨w, h1, h2⟩ := c₁.rel x v e; ⟨w, h1, h2.mono hmid.mono⟩, fun a ha => ?_, c₁.cells⟩
        · obtain ⟨ml, ⟨o, es, ep, ho, r⟩, hml⟩ := c₁.fra.ns
          exact ⟨ml, ⟨o, es, ep, kpE _ (by simp) hLn o ho, r⟩, hml⟩
        · obtain ⟨a, ha, o, ho, hd⟩ := c₁.fra.cell y hy
          have hae : a ∈ exOf env := by simp only [exOf, List.mem_cons, List.mem_map]; exact .inr ⟨_, mem_of_lookup ha, rfl⟩
          by_cases hac : a ∈ exOf cenv
          · have hmcl : ∃ y', (y', a) ∈ cl := by
              simp only [exOf, List.mem_cons, List.mem_map, e2, e3, List.mem_append] at hac
              rcases hac with h | ⟨p, hp | hp, rfl⟩
              · have := cellLt y a ha; have h' : @Eq Nat a (D + 1) := h.symm ▸ rfl; omega
              · have h1 : @LE.le Nat instLENat (D + 1 + 1) p.2 := (okc.empty p.1 p.2 hp).2
                have h2 := cellLt y _ ha; omega
              · exact ⟨p.1, hp⟩
            obtain ⟨y', hy'⟩ := hmcl
            have h1 := hcl1 y' a hy'
            have hyy : y' = y := he.apart _ _ _ h1.2 ha
            subst hyy
            have hlf : scope.names.lookup y' = some .free := lookup_of_nodup sc.nodup h1.1
            have hkk : cenv.kindOf y' = some .cell ∨ cenv.kindOf y' = some .free := by
              rw [hk, hlf]; simp only [Option.map_some, Option.some.injEq]; split <;> simp
            obtain ⟨a', ha', hi'⟩ := c₂.fra.cell y' hkk
            obtain ⟨a'', h2, h3⟩ := lkfree y' h1.1
            rw [h2] at ha'; cases ha'
            rw [ha] at h3; cases h3
            refine ⟨a, ha, ?_⟩
            have e4 : mc' y' = mc y' := by
              rw [hmc y' fun x hx e => ?_]
              · simp only [mcI, hlf, if_true]
              · subst e
                rcases sc.tg x hx with h | h <;> (rw [hlf] at h; cases h)
            rw [← e4]; exact hi'
          · exact ⟨a, ha, o, kpE a hae hac o ho, hd⟩
        · obtain ⟨h1, h2, o, h3⟩ := c₁.apart a ha
          have haw : a ∉ wr := fun hm => (hfp a (S.turns.sub a hm)).2 ha
          refine ⟨fun hm => (mid₂.new a hm).elim h1 fun hn => (by rw [h3] at hn; cases hn), ?_, mid₂.live a o h3 haw⟩
          cases e : f' a with
          | none => rfl
          | some o' =>
            rcases mid₂.newf a o' e with h | h | h
            · rw [h2] at h; cases h
            · exact absurd h h1
            · rw [h3] at h; cases h
      have hDe : D ∉ exOf env := fun hm => by obtain ⟨_, _, o, ho⟩ := c₁.apart D hm; rw [nD] at ho; cases ho
      have nC := nge (D + 1) (by omega)
      have hCe : D + 1 ∉ exOf env := fun hm => by obtain ⟨_, _, o, ho⟩ := c₁.apart (D + 1) hm; rw [nC] at ho; cases ho
      have hCin : D + 1 ∈ exOf cenv := by simp [exOf, e2]
      obtain ⟨ml, hns, _⟩ := c₂.fra.ns
      rw [e2] at hns
      exact hRR D (D + 1) _ f' own' accs vs nn ml stF cF hD2 hacc hDo hDf hDe (st.back nD) hns (c₂.apart _ hCin).1 (c₂.apart _ hCin).2.1 hCe (st.back nC) (Nat.succ_ne_self D) hJ
  exact codeAny_compStart_list loop (S.self 0 _ _ _ (S.turns.frame _ _ _ hSt fun b _ o e => kp b o e) loop)
end
end Mine

namespace Mine
open PySem PySem.Spec

section
variable {B : Amb} {d : Nat} {env : Env} {loc : Loc} {mc : Str → Option Value} {f : Fz} {own : Own} {s : Shared} {A : Around} {X : XP}

noncomputable def CompJ (B : Amb) (d : Nat) (env : Env) (scope : Scope) (elt : Expr) (ifs : List Expr) (tg : Tgt) (loc : Loc) (xs : List AV) (own : Own) (K : List AV → Own → Prop) : Prop :=
  ∃ J : List AV → List AV → Own → Prop, J xs [] own ∧
    (∀ cenv, EnvOk cenv → cenv.scope = relabel scope env → ∀ x rest acc own, J (x :: rest) acc own → tgtS tg x loc own (fun loc₁ own₁ => EvTs B d cenv ifs loc₁ own₁ (fun b own₂ =>
      if b then EvE B d cenv (eval elt cenv) loc₁ own₂ (fun y own₃ => acc.length ≤ 100000 ∧ J rest (acc ++ [y]) own₃) noX else J rest acc own₂) noX)) ∧
    ∀ acc own, J [] acc own → K acc own

theorem ev_comp {elt target iter : Expr} {ifs : List Expr} {scope : Scope} {pos : Pos} {tg : Tgt} {fv : List String} {o : Bool} {Q : AV → Own → Prop} (he : EnvOk env) (sc : ScOk env scope fv tg) (hts : TgtShape target tg)
    (hs : ∀ x, foldedSetIterable iter env x = pure x)
    (h : EvI B d env iter target tg loc own (fun xs own₁ => CompJ B d env scope elt ifs tg (inner fv loc) xs own₁ (fun acc own₂ => mkL o acc own₂ Q)) X) :
    EvE B d env (eval (.ListComp elt [⟨target, iter, ifs, 0⟩] scope pos) env) loc own Q X := by
  intro A mc f s ok c
  obtain ⟨cl, hcl, hcl1, hcl2⟩ := closure_ok (env := env) (scope := scope) fun n hn => let ⟨cc, h1, _⟩ := c.fra.cell n (sc.free n hn); ⟨cc, h1⟩
  rw [eval_ListComp]
  refine wpAny_comprehension_free (g := ⟨target, iter, ifs, 0⟩) (gs := []) (use := none) rfl hs hcl sc.kind (fun x hx hl => ?_) ?_
  · obtain ⟨n, k⟩ := x; simp only at hl; subst hl; exact lookup_of_nodup sc.nodup hx
  refine wpAny_mono (h A mc f s ok c) (fun x s₁ h₁ => wpAny_mono h₁ (fun it s₂ h₂ => ?_) fun _ _ e => e) fun _ _ e => e
  obtain ⟨f', own', I, fp, wr, P, Md, St, xs, rfl, st, c', S, hSt, hfp, hwr, hlen, J, h0, hstep, hdone⟩ := h₂
  refine comp_core ok he sc hts hcl1 hcl2 st c' S hSt hfp hwr J h0 hstep fun D C s' f'' own'' accs vs n m stF cF hD hacc hDo hDf hDe hDs hC hCo hCf hCe hCs hCD hJ => ?_
  refine ⟨m, hC, fun h' hsb => ?_⟩
  have ek : ∀ b o, b ∉ [C] → s'.heap.get? b = some o → h'.get? b = some o := fun b o hb e => (hsb.2 b (by simpa using hb)).trans e
  have cF' := cF.other (wr := [C]) s'.toks ek (fun b hb => by simp only [List.mem_cons, List.not_mem_nil, or_false] at hb; subst hb; exact ⟨hCo, hCe, hCf⟩)
  have stF' := stF.other (wr := [C]) s'.toks ek (fun b hb => by simp only [List.mem_cons, List.not_mem_nil, or_false] at hb; subst hb; exact hCs)
  have hD' : h'.get? D = some (sq "list" vs n) := ek _ _ (by simpa using hCD.symm) hD
  obtain ⟨f3, own3, x, st3, c3, r3, _, _, q3⟩ := mkL_adopt cF' stF' hD' hDo hDf hDe hDs hacc (hdone _ _ hJ)
  exact ⟨f3, own3, x, st3, c3, r3, q3⟩

theorem evS_assignComp {elt target iter : Expr} {ifs : List Expr} {scope : Scope} {cpos : Pos} {tg : Tgt} {fv : List String} {o : Bool} {x : String} {px pos : Pos} {R : AFlow → Loc → Own → Prop} (he : EnvOk env) (sc : ScOk env scope fv tg) (hts : TgtShape target tg)
    (hs : ∀ x, foldedSetIterable iter env x = pure x) (hx : env.kindOf (Str.ofString x) = some .local ∨ env.kindOf (Str.ofString x) = some .cell)
    (hsw : swapsWith (.ListComp elt [⟨target, iter, ifs, 0⟩] scope cpos) (some (.Name (Str.ofString x) px)) pos.line env = pure true)
    (h : EvI B d env iter target tg loc own (fun xs own₁ => CompJ B d env scope elt ifs tg (inner fv loc) xs own₁ (fun acc own₂ => mkL o acc own₂ (fun v own₃ => R .next (Loc.upd x v loc) own₃))) X) :
    EvS B d env (exec (.Assign [.Name (Str.ofString x) px] (.ListComp elt [⟨target, iter, ifs, 0⟩] scope cpos) pos) env) loc own R X := by
  intro A mc f s ok c
  obtain ⟨cl, hcl, hcl1, hcl2⟩ := closure_ok (env := env) (scope := scope) fun n hn => let ⟨cc, h1, _⟩ := c.fra.cell n (sc.free n hn); ⟨cc, h1⟩
  rw [exec_Assign_Name_used _ _ _ _ hsw]
  refine wpAny_bind (wpAny_standAt (wpAny_bind ?_))
  show wpAny B.M A (do
    let _ ← comprehension (.ListComp elt [⟨target, iter, ifs, 0⟩] scope cpos) scope env (firstIterPos [⟨target, iter, ifs, 0⟩] cpos) (newList []) (firstAsync [⟨target, iter, ifs, 0⟩]) (firstIter [⟨target, iter, ifs, 0⟩] env) (some (assign (.Name (Str.ofString x) px) env))) _ _ s
  refine wpAny_bind ?_
  refine wpAny_comprehension_free (g := ⟨target, iter, ifs, 0⟩) (gs := []) rfl hs hcl sc.kind (fun x hx hl => ?_) ?_
  · obtain ⟨n, k⟩ := x; simp only at hl; subst hl; exact lookup_of_nodup sc.nodup hx
  refine wpAny_mono (h A mc f s ok c) (fun xv s₁ h₁ => wpAny_mono h₁ (fun it s₂ h₂ => ?_) fun _ _ e => e) fun _ _ e => e
  obtain ⟨f', own', I, fp, wr, P, Md, St, xs, rfl, st, c', S, hSt, hfp, hwr, hlen, J, h0, hstep, hdone⟩ := h₂
  refine comp_core ok he sc hts hcl1 hcl2 st c' S hSt hfp hwr J h0 hstep fun D C s' f'' own'' accs vs n m stF cF hD hacc hDo hDf hDe hDs hC hCo hCf hCe hCs hCD hJ => ?_
  obtain ⟨f3, own3, v, st3, c3, r3, le3, same3, q3⟩ := mkL_adopt cF stF hD hDo hDf hDe hDs hacc (hdone _ _ hJ)
  show wpAny B.M A (assign (.Name (Str.ofString x) px) env (.ref D)) _ _ s'
  rw [assign_Name]
  refine wpAny_bind (wpAny_standAt (wpAny_bindName (store_name he hx c3 r3 fun mc' s4 st4 c4 _ => ?_)))
  have hCo3 : C ∉ addrs own3 := fun hm => hCo ((same3 C hCD).2.mp hm)
  have hCf3 : f3 C = none := (same3 C hCD).1.trans hCf
  have hC4 : s4.heap.Ns C m := by
    obtain ⟨oo, es, ep, ho, r⟩ := hC
    exact ⟨oo, es, ep, st4.keep C oo ho hCo3 hCe, r⟩
  refine ⟨m, hC4, fun h' hsb => ?_⟩
  have ek : ∀ b o, b ∉ [C] → s4.heap.get? b = some o → h'.get? b = some o := fun b o hb e => (hsb.2 b (by simpa using hb)).trans e
  have cF' := c4.other (wr := [C]) s4.toks ek (fun b hb => by simp only [List.mem_cons, List.not_mem_nil, or_false] at hb; subst hb; exact ⟨hCo3, hCe, hCf3⟩)
  have stF' := (st3.trans st4).other (wr := [C]) s4.toks ek (fun b hb => by simp only [List.mem_cons, List.not_mem_nil, or_false] at hb; subst hb; exact hCs)
  exact wpAny_pure (wpAny_pure ⟨f3, own3, _, mc', .next, stF', cF', rfl, q3⟩)
end
end Mine

namespace Mine
open PySem PySem.Spec

section
variable {B : Amb} {d : Nat} {env : Env} {loc : Loc} {mc : Str → Option Value} {f : Fz} {own : Own} {s : Shared} {A : Around} {X : XP}

noncomputable def subS (x y : AV) (own : Own) (Q : AV → Own → Prop) : Prop :=
  match y with
  | .int i => match view own x with
    | some (.lst xs) => 0 ≤ i ∧ xs.length ≤ 100000 ∧ ∃ v, xs[i.toNat]? = some v ∧ Q v own
    | some (.tup xs) => 0 ≤ i ∧ xs.length ≤ 100000 ∧ ∃ v, xs[i.toNat]? = some v ∧ Q v own
    | some _ => False
    | none => match x with
      | .ref a => match own.lookup a with
        | some (.dict es) => ∃ v, es.lookup i = some v ∧ Q v own
        | _ => False
      | _ => False
  | _ => False

theorem dict_find {f : Fz} : ∀ {es : List (Int × AV)} {kvs : List (Int × Value)} {k : Int} {v : AV}, kvs.map (·.1) = es.map (·.1) → RelVs f (es.map (·.2)) (kvs.map (·.2)) → es.lookup k = some v → ∃ w, valueAt kvs k = some w ∧ RelV f v w
  | [], _, _, _, _, _, h => by simp at h
  | (j, u) :: es, [], _, _, hk, _, _ => by simp at hk
  | (j, u) :: es, (j', w) :: kvs, k, v, hk, r, h => by
    simp only [List.map_cons, List.cons.injEq] at hk
    simp only [List.map_cons, RelVs] at r
    obtain ⟨w', r', e, hu, hr⟩ := r
    simp only [List.cons.injEq] at e
    obtain ⟨rfl, rfl⟩ := e
    have hk1 : j' = j := hk.1
    subst hk1
    rw [List.lookup_cons] at h
    unfold valueAt
    rw [List.find?_cons]
    cases hb : k == j' with
    | true =>
      rw [hb] at h; cases h
      have : j' = k := (beq_iff_eq.mp hb).symm
      simp only [this, decide_true]
      exact ⟨w, rfl, hu⟩
    | false =>
      rw [hb] at h
      have : ¬ j' = k := fun e => by rw [e] at hb; simp at hb
      simp only [this, decide_false]
      exact dict_find hk.2 hr h

theorem sub_of {value slice : Expr} {x y : AV} {a b : Value} {ops : List Value} {Q : AV → Own → Prop} {E : Value → Shared → Prop} (c : Cfg B env loc mc f own s) (hx : RelV f x a) (hy : RelV f y b) (h : subS x y own Q)
    (hsl : subscripted slice false a b = operate ops (getItem a b)) :
    wpAny B.M A (PyProof.Rows.subscriptTail value slice a b) (PostE B env loc mc f own s Q) E s := by
  unfold subS at h
  split at h
  · rename_i i
    simp only [RelV] at hy
    obtain ⟨u, rfl⟩ := hy
    split at h
    · rename_i xs e
      obtain ⟨h0, hn, v, hv, q⟩ := h
      obtain ⟨l, vs, n, rfl, hl, rs⟩ := view_list c.inv hx e
      obtain ⟨w, hw, rw⟩ := rs.get _ _ hv
      have hlt : i.toNat < xs.length := by rw [List.getElem?_eq_some_iff] at hv; exact hv.1
      exact PyProof.Rows.tail_any (T := "list") ⟨_, hl, rfl⟩ PySem.slot_list_getitem.lookup (wpAny_getItem_list (isList_of hl) h0 (by omega) (by simpa using hw) (PostE.now c rw q)) hsl
    · rename_i xs e
      obtain ⟨h0, hn, v, hv, q⟩ := h
      obtain ⟨l, vs, n, rfl, hl, rs⟩ := view_tup c.inv hx e
      obtain ⟨w, hw, rw⟩ := rs.get _ _ hv
      have hlt : i.toNat < xs.length := by rw [List.getElem?_eq_some_iff] at hv; exact hv.1
      have hl2 := rs.length
      refine PyProof.Rows.tail_any (T := "tuple") ⟨_, hl, rfl⟩ F.slot_tuple_getitem.lookup (P.getItem_tuple (k := i.toNat) hl (by omega) (by omega) ?_ (by simpa using hw) (PostE.now c rw q)) hsl
      have e1 : ¬ (i < 0) := by omega
      have e2 : 0 ≤ i ∧ i < ((xs.length : Nat) : Int) := by omega
      simp [seqIndex?, hl2, e1, e2.1, e2.2]
    · exact h.elim
    · split at h
      · rename_i l
        split at h
        · rename_i es e
          obtain ⟨v, hv, q⟩ := h
          simp only [RelV] at hx; subst hx
          obtain ⟨_, o, ho, kvs, hd, hk, hr⟩ := c.inv.led _ (mem_of_lookup' e)
          obtain ⟨w, hw, rw⟩ := dict_find hk hr hv
          have hm := (Heap.dictOf_iff.mpr ⟨o, ho, hd⟩)
          exact PyProof.Rows.tail_any (T := "dict") hm.typeIs PySem.slot_dict_getitem.lookup (wpAny_getItem_of (knd := intKind B.prog B.w) (k := i) (by simp [intKind, Value.isInt]) hm.mapOf hw (PostE.tok c rw q _)) hsl
        · exact h.elim
      · exact h.elim
  · exact h.elim

theorem ev_sub {value slice : Expr} {pos : Pos} {Q : AV → Own → Prop} (hsl : ∀ o i, ∃ ops, subscripted slice false o i = operate ops (getItem o i))
    (h : EvE B d env (eval value env) loc own (fun x own₁ => EvE B d env (eval slice env) loc own₁ (fun y own₂ => subS x y own₂ Q) X) X) : EvE B d env (eval (.Subscript value slice pos) env) loc own Q X := by
  intro A mc f s ok c
  refine PyProof.Rows.Subscript_ (h.run ok c (fun f₁ own₁ s₁ x a st c₁ r₁ q => ?_) fun _ _ e => e)
  refine q.run ok c₁ (fun f₂ own₂ s₂ y b st₂ c₂ r₂ q₂ => ?_) fun _ _ e => e.trans st
  obtain ⟨ops, hops⟩ := hsl a b
  exact wpAny_mono (sub_of c₂ (r₁.mono st₂.mono) r₂ q₂ hops) (fun _ _ p => p.trans (st.trans st₂)) fun _ _ e => e

noncomputable def lenS (x : AV) (own : Own) (Q : AV → Own → Prop) : Prop := match view own x with
  | some (.lst xs) => xs.length ≤ 100000 ∧ Q (.int xs.length) own
  | some (.tup xs) => xs.length ≤ 100000 ∧ Q (.int xs.length) own
  | _ => False
theorem len_of {x : AV} {a : Value} {Q : AV → Own → Prop} {E : Value → Shared → Prop} (c : Cfg B env loc mc f own s) (hx : RelV f x a) (h : lenS x own Q) : wpAny B.M A (call (.builtin "len") [a]) (PostE B env loc mc f own s Q) E s := by
  unfold lenS at h
  split at h
  · rename_i xs e
    obtain ⟨l, vs, n, rfl, hl, rs⟩ := view_list c.inv hx e
    have hl2 := rs.length
    refine Calls.call_len_list (isList_of hl) (by simp; omega) ?_
    have : ((vs.toArray.size : Nat) : Int) = xs.length := by simp [hl2]
    rw [this]
    exact PostE.tok c relV_int h.2 _
  · rename_i xs e
    obtain ⟨l, vs, n, rfl, hl, rs⟩ := view_tup c.inv hx e
    have hl2 := rs.length
    refine P.len_tuple hl (by simp; omega) ?_
    have : ((vs.toArray.size : Nat) : Int) = xs.length := by simp [hl2]
    rw [this]
    exact PostE.tok c relV_int h.2 _
  · exact h.elim

noncomputable def boolsOf : List AV → Option (List Bool)
  | [] => some []
  | .bool b :: r => (boolsOf r).map (b :: ·)
  | _ => none
theorem boolsOf_rel {f : Fz} : ∀ {xs : List AV} {bs : List Bool} {vs : List Value}, boolsOf xs = some bs → RelVs f xs vs → vs = bs.map Value.bool
  | [], _, _, h, r => by simp only [boolsOf, Option.some.injEq] at h; subst h; simpa [RelVs] using r
  | x :: xs, bs, vs, h, r => by
    cases x with
    | bool b =>
      simp only [boolsOf, Option.map_eq_some_iff] at h
      obtain ⟨bs', h', rfl⟩ := h
      simp only [RelVs, RelV] at r
      obtain ⟨v, r', rfl, rfl, hr⟩ := r
      rw [boolsOf_rel h' hr]; rfl
    | _ => simp [boolsOf] at h

noncomputable def allS (x : AV) (own : Own) (Q : AV → Own → Prop) : Prop := ∃ xs bs, x = .lst xs ∧ boolsOf xs = some bs ∧ Q (.bool (bs.all id)) own
theorem all_of {x : AV} {a : Value} {Q : AV → Own → Prop} {E : Value → Shared → Prop} (hh : A.handled = none) (c : Cfg B env loc mc f own s) (hx : RelV f x a) (h : allS x own Q) : wpAny B.M A (call (.builtin "all") [a]) (PostE B env loc mc f own s Q) E s := by
  obtain ⟨xs, bs, rfl, hb, q⟩ := h
  simp only [RelV] at hx
  obtain ⟨l, vs, n, rfl, hl, rs⟩ := hx
  have hl' := c.inv.sub _ _ hl
  have hv := boolsOf_rel hb rs
  refine call_all_walk (wpAny_pyIter_list (isList_of hl') ?_)
  have kp := push_keeps s.heap { cls := .type "list_iterator", data := .fields #[.ref l, .int 0 0] }
  have hne : l ≠ s.heap.objs.size := fun e => by rw [e, get?_size] at hl'; cases hl'
  refine ⟨s.heap.objs.size, _, _, _, _, _, fun i => bs.getD i true, rfl, Walks.list (A := A.in1) hh _ l hne vs.toArray, ⟨⟨_, Heap.get?_push_size _ rfl, rfl, rfl⟩, isList_of (kp _ _ hl')⟩, ?_, fun h' tk hk => ?_⟩
  · intro i v s' Q' E' hi hq
    subst hv
    have : v = .bool (bs.getD i true) := by
      have hi' : (bs.map Value.bool)[i]? = some v := by simpa using hi
      rw [List.getElem?_map, Option.map_eq_some_iff] at hi'
      obtain ⟨b, hb, rfl⟩ := hi'
      simp [List.getD, hb]
    subst this
    exact wpAny_truthy_bool hq
  · have e : (List.range vs.toArray.size).all (fun i => bs.getD i true) = bs.all id := by
      subst hv
      rw [Bool.eq_iff_iff]
      simp only [List.all_eq_true, List.mem_range, List.size_toArray, List.length_map, id]
      constructor
      · intro h x hx
        obtain ⟨i, hi, rfl⟩ := List.mem_iff_getElem.mp hx
        have := h i hi
        simpa [List.getD, hi] using this
      · intro h i hi
        have := h _ (List.getElem_mem hi)
        simpa [List.getD, hi] using this
    rw [e]
    have kk : ∀ b o, s.heap.get? b = some o → h'.get? b = some o := fun b o eb => hk b o (by simp; intro e; rw [e, get?_size] at eb; cases eb) (kp b o eb)
    exact ⟨f, own, _, Step.grow tk kk, c.grow tk kk, relV_bool, q⟩

noncomputable def listS (o : Bool) (x : AV) (own : Own) (Q : AV → Own → Prop) : Prop := match view own x with
  | some (.lst xs) => xs.length ≤ 100000 ∧ mkL o xs own Q
  | some (.tup xs) => xs.length ≤ 100000 ∧ mkL o xs own Q
  | _ => False
theorem list_of {o : Bool} {x : AV} {a : Value} {Q : AV → Own → Prop} {E : Value → Shared → Prop} (c : Cfg B env loc mc f own s) (hx : RelV f x a) (h : listS o x own Q) : wpAny B.M A (call (.type "list") [a]) (PostE B env loc mc f own s Q) E s := by
  unfold listS at h
  have key : ∀ {T : String} {l : Addr} {vs : List Value} {n : Nat} {xs : List AV}, T = "list" ∨ T = "tuple" → s.heap.get? l = some (sq T vs n) → RelVs f xs vs → xs.length ≤ 100000 → mkL o xs own Q → wpAny B.M A (call (.type "list") [.ref l]) (PostE B env loc mc f own s Q) E s := by
    intro T l vs n xs hT hl rs hn hm
    have hl2 := rs.length
    refine call_list_seq l hT hl rfl rfl (fun h' c' kp hD => ?_) (by simp [sizeLine_is]; omega)
    have hD' : h'.get? s.heap.objs.size = some (sq "list" vs c') := hD
    exact mkL_post c s.toks kp (get?_size _) hD' rs hm
  split at h
  · rename_i xs e
    obtain ⟨l, vs, n, rfl, hl, rs⟩ := view_list c.inv hx e
    exact key (.inl rfl) hl rs h.1 h.2
  · rename_i xs e
    obtain ⟨l, vs, n, rfl, hl, rs⟩ := view_tup c.inv hx e
    exact key (.inr rfl) hl rs h.1 h.2
  · exact h.elim
end
end Mine

namespace Mine
open PySem PySem.Spec

section
variable {B : Amb} {d : Nat} {env : Env} {loc : Loc} {mc : Str → Option Value} {f : Fz} {own : Own} {s : Shared} {A : Around} {X : XP}

inductive TyN where
  | int | bool | list | tuple | str
  deriving DecidableEq

noncomputable def TyN.name : TyN → String
  | .int => "int" | .bool => "bool" | .list => "list" | .tuple => "tuple" | .str => "str"
noncomputable def kindB (own : Own) : AV → Option (List TyN)
  | .none => some []
  | .bool _ => some [.int, .bool]
  | .int _ => some [.int]
  | .str _ => some [.str]
  | .tup _ => some [.tuple]
  | .lst _ => some [.list]
  | .emp => some []
  | .inst _ _ => none
  | .ref a => match own.lookup a with
    | some (.list _) => some [.list]
    | _ => none
noncomputable def isiV (own : Own) (x : AV) (T : TyN) : Option Bool := (kindB own x).map (·.contains T)

theorem isi_of {x : AV} {a : Value} {T : TyN} {b : Bool} {R : Value → Shared → Prop} {E : Value → Shared → Prop} (i : Inv B f own s) (hx : RelV f x a) (h : isiV own x T = some b) (k : ∀ t, R (.bool b) { s with toks := t }) :
    wpAny B.M A (call (.builtin "isinstance") [a, .type T.name]) R E s := by
  have k0 : R (.bool b) s := k s.toks
  have k1 : R (.bool b) { s with toks := s.toks + 1 } := k _
  cases x with
  | none =>
    simp only [RelV] at hx; subst hx
    simp only [isiV, kindB, Option.map_some, Option.some.injEq] at h; subst h
    cases T
    · exact IsiPair.NoneType_int k1
    · exact IsiPair.NoneType_bool k1
    · exact IsiPair.NoneType_list k1
    · exact IsiPair.NoneType_tuple k1
    · exact IsiPair.NoneType_str k1
  | bool v =>
    simp only [RelV] at hx; subst hx
    simp only [isiV, kindB, Option.map_some, Option.some.injEq] at h; subst h
    cases T
    · exact IsiPair.bool_int k0
    · exact IsiPair.bool_bool k0
    · exact IsiPair.bool_list k1
    · exact IsiPair.bool_tuple k1
    · exact IsiPair.bool_str k1
  | int v =>
    simp only [RelV] at hx; obtain ⟨t, rfl⟩ := hx
    simp only [isiV, kindB, Option.map_some, Option.some.injEq] at h; subst h
    cases T
    · exact IsiPair.int_int k0
    · exact IsiPair.int_bool k1
    · exact IsiPair.int_list k1
    · exact IsiPair.int_tuple k1
    · exact IsiPair.int_str k1
  | str v =>
    simp only [RelV] at hx; obtain ⟨t, rfl⟩ := hx
    simp only [isiV, kindB, Option.map_some, Option.some.injEq] at h; subst h
    cases T
    · exact IsiPair.str_int k1
    · exact IsiPair.str_bool k1
    · exact IsiPair.str_list k1
    · exact IsiPair.str_tuple k1
    · exact IsiPair.str_str k0
  | tup xs =>
    simp only [RelV] at hx; obtain ⟨l, vs, n, rfl, hl, _⟩ := hx
    simp only [isiV, kindB, Option.map_some, Option.some.injEq] at h; subst h
    have hl' := i.sub _ _ hl
    cases T
    · exact IsiPair.tuple_int hl' rfl k1
    · exact IsiPair.tuple_bool hl' rfl k1
    · exact IsiPair.tuple_list hl' rfl k1
    · exact IsiPair.tuple_tuple hl' rfl k0
    · exact IsiPair.tuple_str hl' rfl k1
  | lst xs =>
    simp only [RelV] at hx; obtain ⟨l, vs, n, rfl, hl, _⟩ := hx
    simp only [isiV, kindB, Option.map_some, Option.some.injEq] at h; subst h
    have hl' := i.sub _ _ hl
    cases T
    · exact IsiPair.list_int hl' rfl k1
    · exact IsiPair.list_bool hl' rfl k1
    · exact IsiPair.list_list hl' rfl k0
    · exact IsiPair.list_tuple hl' rfl k1
    · exact IsiPair.list_str hl' rfl k1
  | emp =>
    simp only [RelV] at hx; obtain ⟨l, n, rfl, hl⟩ := hx
    simp only [isiV, kindB, Option.map_some, Option.some.injEq] at h; subst h
    have hl' := i.sub _ _ hl
    cases T
    · exact IsiPair.dict_int hl' rfl k1
    · exact IsiPair.dict_bool hl' rfl k1
    · exact IsiPair.dict_list hl' rfl k1
    · exact IsiPair.dict_tuple hl' rfl k1
    · exact IsiPair.dict_str hl' rfl k1
  | inst _ _ => simp [isiV, kindB] at h
  | ref a' =>
    simp only [RelV] at hx; subst hx
    simp only [isiV, kindB] at h
    split at h
    · rename_i xs e
      simp only [Option.map_some, Option.some.injEq] at h; subst h
      obtain ⟨_, o, ho, vs, n, rfl, _⟩ := i.led _ (mem_of_lookup' e)
      cases T
      · exact IsiPair.list_int ho rfl k1
      · exact IsiPair.list_bool ho rfl k1
      · exact IsiPair.list_list ho rfl k0
      · exact IsiPair.list_tuple ho rfl k1
      · exact IsiPair.list_str ho rfl k1
    · simp at h

theorem ev_isi {np tp pos : Pos} {e : Expr} {T : TyN} {Q : AV → Own → Prop} (hB : BaseOk B) (he : EnvOk env) (hx : env.kindOf (Str.ofString "isinstance") = some .globalImplicit) (hxt : env.kindOf (Str.ofString T.name) = some .globalImplicit)
    (hn : B.mg (Str.ofString "isinstance") = none) (hv : B.mb (Str.ofString "isinstance") = some (.builtin "isinstance")) (hnt : B.mg (Str.ofString T.name) = none) (hvt : B.mb (Str.ofString T.name) = some (.type T.name))
    (hst : starEach [e, .Name (Str.ofString T.name) tp] env = [(false, eval e env), (false, eval (.Name (Str.ofString T.name) tp) env)])
    (h : EvE B d env (eval e env) loc own (fun x own₁ => ∃ b, isiV own₁ x T = some b ∧ Q (.bool b) own₁) X) :
    EvE B d env (eval (.Call (.Name (Str.ofString "isinstance") np) [e, .Name (Str.ofString T.name) tp] [] pos) env) loc own Q X := by
  intro A mc f s ok c
  rw [evalCall_name]
  refine wpAny_bind (load_builtin hB he hx (by decide) hn hv c.inv ?_)
  refine Calls.callWith_builtin (by rw [hst]; rfl) (evalArgs_of (by rw [hst]; rfl) ?_)
  refine wpAny_items_cons (h.run ok c (fun f₁ own₁ s₁ x v st c₁ r q => ?_) fun _ _ e => e) (by rw [hst]; rfl)
  refine wpAny_items_cons (load_builtin hB he hxt (by cases T <;> decide) hnt hvt c₁.inv ?_) rfl
  refine wpAny_items_nil ?_
  obtain ⟨b, hb, q⟩ := q
  exact isi_of c₁.inv r hb fun t => PostE.trans st (PostE.tok c₁ relV_bool q t)

theorem put_list {a : Addr} {xs xs' : List AV} {vs' : List Value} {n' : Nat} {r : AV} {rv : Value} {Q : AV → Own → Prop} (c : Cfg B env loc mc f own s) (ha : (a, AO.list xs) ∈ own)
    {h' : Heap} (t : Nat) (kp : ∀ b o, b ≠ a → s.heap.get? b = some o → h'.get? b = some o) (ho : h'.get? a = some (sq "list" vs' n')) (hr : RelVs f xs' vs') (hrr : RelV f r rv) (q : Q r (own.put a (.list xs'))) :
    PostE B env loc mc f own s Q rv { s with heap := h', toks := t } := by
  have hm : a ∈ addrs own := List.mem_map.mpr ⟨_, ha, rfl⟩
  exact ⟨f, _, r, Step.upd t hm kp ho, c.upd (x := .list xs') t hm kp ho ⟨vs', n', rfl, hr⟩, hrr, q⟩

noncomputable def methS (m : String) (x : AV) (args : List AV) (own : Own) (Q : AV → Own → Prop) : Prop :=
  match x with
  | .ref a => match own.lookup a with
    | some (.list xs) => xs.length ≤ 100000 ∧ (match m, args with
      | "append", [v] => Q .none (own.put a (.list (xs ++ [v])))
      | "pop", [] => ∃ v, xs.getLast? = some v ∧ Q v (own.put a (.list xs.dropLast))
      | "pop", [.int i] => 0 ≤ i ∧ ∃ v, xs[i.toNat]? = some v ∧ Q v (own.put a (.list (xs.eraseIdx i.toNat)))
      | "insert", [.int i, v] => 0 ≤ i ∧ i ≤ (xs.length : Int) ∧ Q .none (own.put a (.list (xs.take i.toNat ++ v :: xs.drop i.toNat)))
      | "clear", [] => Q .none (own.put a (.list []))
      | _, _ => False)
    | _ => False
  | _ => False

theorem update_other {h : Heap} {a : Addr} {g : Obj → Obj} : ∀ b o, b ≠ a → h.get? b = some o → (h.update a g).get? b = some o := fun b o hb e => (Heap.get?_update_other h g (Ne.symm hb)).trans e

theorem ev_meth {o : Expr} {m : String} {id : String} {apos pos : Pos} {args : List Expr} {Q : AV → Own → Prop} (slot : Slot "list" (Str.ofString m) id) (hty : typeOf (.builtin id) = pure (.type "method_descriptor"))
    (hbase : attributeBase o (Str.ofString m) env (eval o env) = eval o env) (hp : (starEach args env).all (fun q => !q.1) = true) (hlen : args.length < 30) (hline : (apos.endLine == pos.line) = true)
    (call : ∀ {A : Around} {mc : Str → Option Value} {f : Fz} {own : Own} {s : Shared} {a : Addr} {xs : List AV} {vs : List Value} {E : Value → Shared → Prop}, Cfg B env loc mc f own s → RelVs f xs vs → methS m (.ref a) xs own Q → wpAny B.M A (call (.builtin id) (.ref a :: vs)) (PostE B env loc mc f own s Q) E s)
    (h : EvE B d env (eval o env) loc own (fun x own₁ => ∃ a xs, x = .ref a ∧ own₁.lookup a = some (.list xs) ∧ EvEs B d env (spliced (backTo pos (starEach args env))) loc own₁ (fun ys own₂ => methS m (.ref a) ys own₂ Q) X) X) :
    EvE B d env (eval (.Call (.Attribute o (Str.ofString m) apos) args [] pos) env) loc own Q X := by
  intro A mc f s ok c
  rw [arm_eval_Call, hbase]
  refine wpAny_bind (h.run ok c (fun f₁ own₁ s₁ x v st c₁ r q => ?_) fun _ _ e => e)
  obtain ⟨a, xs, rfl, hl, q⟩ := q
  simp only [RelV] at r; subst r
  obtain ⟨_, ob, hob, vs, n, rfl, rs⟩ := c₁.inv.led _ (mem_of_lookup' hl)
  refine wpAny_bind (wpAny_standAt ?_)
  have hfew : methodCallForm (args.length + ([] : List Keyword).length) (backTo pos (starEach args env)) (backToKw pos (keywordEach [] env)) = true := by
    unfold methodCallForm
    have h1 : (backTo pos (starEach args env)).all (fun x => !x.1) = true := by
      have := backTo_plain (pos := pos) hp
      rw [List.any_eq_false] at this
      rw [List.all_eq_true]
      intro x hx
      simpa using this x hx
    rw [h1]
    simp only [show backToKw pos (keywordEach [] env) = [] from rfl, List.all_nil, List.isEmpty_nil, if_true, Bool.true_and, Bool.and_self, List.length_nil, Nat.add_zero]
    exact decide_eq_true hlen
  unfold methodCall
  rw [hfew]
  refine wpAny_bind (wpAny_holding ?_)
  unfold calleeOf
  simp only [if_true]
  refine getMethod_builtin (T := "list") ⟨_, hob, rfl⟩ F.plainAttrs_list slot hty (fun a' e => by cases e; exact ⟨_, hob, rfl⟩) ?_
  unfold methodCallPos
  simp only [hline, Bool.not_true, Bool.false_or, if_true]
  refine wpAny_bind (wpAny_pure ?_)
  refine Calls.callWith_builtin (backTo_plain hp) (evalArgs_of hp (q.run ok c₁ (fun f₂ own₂ s₂ ys ws st₂ c₂ r₂ q₂ => ?_) fun _ _ e => e.trans st))
  exact wpAny_mono (call c₂ r₂ q₂) (fun _ _ p => p.trans (st.trans st₂)) fun _ _ e => e

theorem call_append {a : Addr} {xs : List AV} {vs : List Value} {Q : AV → Own → Prop} {E : Value → Shared → Prop} (c : Cfg B env loc mc f own s) (r : RelVs f xs vs) (h : methS "append" (.ref a) xs own Q) :
    wpAny B.M A (call (.builtin "list.append") (.ref a :: vs)) (PostE B env loc mc f own s Q) E s := by
  simp only [methS] at h
  split at h
  · rename_i ys e
    obtain ⟨hn, h⟩ := h
    split at h <;> try (exact h.elim)
    all_goals try (rename_i hh; simp at hh)
    rename_i v
    simp only [RelVs] at r
    obtain ⟨w, r', rfl, rw', rfl⟩ := r
    have hm := mem_of_lookup' e
    obtain ⟨_, ob, hob, us, n, rfl, rs⟩ := c.inv.led _ hm
    have hl2 := rs.length
    refine call_meets F.slot_list_append ⟨_, hob, rfl⟩ F.entry_list_append (F.args_list_append_2 _ _) (list_append a us.toArray n w (by simp [sizeLine_is]; omega)) ⟨hob, ?_⟩
    have ho' : (s.heap.update a (Obj.mapSeq fun x => x.push w)).get? a = some (sq "list" (us ++ [w]) (if (us.toArray.push w).size == us.toArray.size then n else n + 1)) := by
      have := Heap.get?_update_self (Obj.mapSeq fun x => x.push w) hob rfl
      rw [this]; simp [Obj.mapSeq, sq]
    exact put_list c hm s.toks update_other ho' (rs.append (.cons rw' .nil)) relV_none h
  · exact h.elim

end
end Mine

namespace Mine
open PySem PySem.Spec

noncomputable def dput (es : List (Int × AV)) (k : Int) (v : AV) : List (Int × AV) :=
  if es.any (fun e => e.1 = k) then es.map (fun e => if e.1 = k then (e.1, v) else e) else es ++ [(k, v)]

theorem dput_keys {es : List (Int × AV)} {kvs : List (Int × Value)} {k : Int} {v : AV} {w : Value} (hk : kvs.map (·.1) = es.map (·.1)) : (stored kvs k w).map (·.1) = (dput es k v).map (·.1) := by
  have ha : kvs.any (fun kv => kv.1 = k) = es.any (fun e => e.1 = k) := by
    have h1 : kvs.any (fun kv => decide (kv.1 = k)) = (kvs.map (·.1)).any (fun j => decide (j = k)) := by rw [List.any_map]; rfl
    have h2 : es.any (fun kv => decide (kv.1 = k)) = (es.map (·.1)).any (fun j => decide (j = k)) := by rw [List.any_map]; rfl
    rw [h1, h2, hk]
  unfold stored dput
  rw [ha]
  split
  · rw [List.map_map, List.map_map]
    have e1 : ((fun x : Int × Value => x.1) ∘ fun kv => if kv.1 = k then (kv.1, w) else kv) = fun kv => kv.1 := by funext kv; simp only [Function.comp]; split <;> rfl
    have e2 : ((fun x : Int × AV => x.1) ∘ fun e => if e.1 = k then (e.1, v) else e) = fun e => e.1 := by funext e; simp only [Function.comp]; split <;> rfl
    rw [e1, e2]; exact hk
  · simp [hk]
theorem dput_rel {f : Fz} {k : Int} {v : AV} {w : Value} (hv : RelV f v w) : ∀ {es : List (Int × AV)} {kvs : List (Int × Value)}, kvs.map (·.1) = es.map (·.1) → RelVs f (es.map (·.2)) (kvs.map (·.2)) →
    RelVs f ((es.map (fun e => if e.1 = k then (e.1, v) else e)).map (·.2)) ((kvs.map (fun kv => if kv.1 = k then (kv.1, w) else kv)).map (·.2))
  | [], [], _, _ => by simp [RelVs]
  | [], _ :: _, h, _ => by simp at h
  | _ :: _, [], h, _ => by simp at h
  | (j, u) :: es, (j', x) :: kvs, hk, r => by
    simp only [List.map_cons, List.cons.injEq] at hk
    simp only [List.map_cons, RelVs] at r
    obtain ⟨w', r', e, hu, hr⟩ := r
    simp only [List.cons.injEq] at e
    obtain ⟨rfl, rfl⟩ := e
    have hk1 : j' = j := hk.1
    subst hk1
    have ih := dput_rel (k := k) hv hk.2 hr
    simp only [List.map_cons]
    by_cases h : j' = k
    · simp only [h, if_true]; exact .cons hv (by simpa [h] using ih)
    · simp only [h, if_false]; exact .cons hu ih

section
variable {B : Amb} {d : Nat} {env : Env} {loc : Loc} {mc : Str → Option Value} {f : Fz} {own : Own} {s : Shared} {A : Around} {X : XP}

theorem ev_dict0 {pos : Pos} {Q : AV → Own → Prop} (hB : BaseOk B) (h : ∀ a, a ∉ addrs own → (a == sysModules) = false → Q (.ref a) ((a, .dict []) :: own)) : EvE B d env (eval (.Dict [] [] pos) env) loc own Q X := by
  intro A mc f s ok c
  show wpAny B.M A (do standAt pos; dictDisplay []) _ _ s
  refine wpAny_bind (wpAny_standAt ?_)
  show wpAny B.M A (newDict) _ _ s
  refine wpAny_newObj_type ?_ (by size_fits)
  have hn := get?_size s.heap
  obtain ⟨o, ho, hd⟩ := Heap.dictOf_iff.mp (Heap.DictOf.new (knd := intKind B.prog B.w) s.heap)
  refine ⟨f, _, .ref s.heap.objs.size, Step.freshO s.toks (push_keeps _ _) hn, c.freshO (x := .dict []) s.toks (push_keeps _ _) hn ho ⟨[], hd, rfl, by simp [RelVs]⟩, by simp [RelV], h _ (c.inv.freshOwn hn) (beq_eq_false_iff_ne.mpr (Nat.ne_of_gt (PyProof.Rows.modules_low (hB.lim.keeps c.inv.keep))))⟩
noncomputable def setS (x i v : AV) (own : Own) (R : Own → Prop) : Prop := match x, i with
  | .ref a, .int k => match own.lookup a with
    | some (.dict es) => es.length ≤ 100000 ∧ R (own.put a (.dict (dput es k v)))
    | _ => False
  | _, _ => False

theorem set_of {x i v : AV} {a b w : Value} {R : Own → Prop} {E : Value → Shared → Prop} (c : Cfg B env loc mc f own s) (hx : RelV f x a) (hi : RelV f i b) (hv : RelV f v w) (h : setS x i v own R) :
    wpAny B.M A (setItem a b w) (fun _ s' => ∃ own', Step (exOf env) f own s f own' s' ∧ Cfg B env loc mc f own' s' ∧ R own') E s := by
  unfold setS at h
  split at h
  · rename_i l k
    split at h
    · rename_i es e
      simp only [RelV] at hx hi
      subst hx
      obtain ⟨t, rfl⟩ := hi
      have hm := mem_of_lookup' e
      obtain ⟨_, o, ho, kvs, hd, hk, hr⟩ := c.inv.led _ hm
      have hlen : kvs.length = es.length := by have := congrArg List.length hk; simpa using this
      refine wpAny_setItem_pairs (knd := intKind B.prog B.w) (k := k) (by simp [intKind, Value.isInt]) (Heap.dictOf_iff.mpr ⟨o, ho, hd⟩) (fun h' hd' hs' => ?_) (by rw [sizeLine_is]; omega)
      obtain ⟨o', ho', hd''⟩ := Heap.dictOf_iff.mp hd'
      have ha : l ∈ addrs own := List.mem_map.mpr ⟨_, hm, rfl⟩
      have kp : ∀ b o, b ≠ l → s.heap.get? b = some o → h'.get? b = some o := fun b o hb e => (hs'.2 b hb).trans e
      refine ⟨_, Step.upd (s.toks + 1) ha kp ho', c.upd (x := .dict (dput es k v)) (s.toks + 1) ha kp ho' ⟨stored kvs k w, hd'', dput_keys hk, ?_⟩, h.2⟩
      have haa : kvs.any (fun kv => kv.1 = k) = es.any (fun e => e.1 = k) := by
        have h1 : kvs.any (fun kv => decide (kv.1 = k)) = (kvs.map (·.1)).any (fun j => decide (j = k)) := by rw [List.any_map]; rfl
        have h2 : es.any (fun kv => decide (kv.1 = k)) = (es.map (·.1)).any (fun j => decide (j = k)) := by rw [List.any_map]; rfl
        rw [h1, h2, hk]
      unfold stored dput
      rw [haa]
      split
      · exact dput_rel hv hk hr
      · simpa using hr.append (.cons hv .nil)
    · exact h.elim
  · exact h.elim

theorem evS_setSub {o i value : Expr} {tpos pos : Pos} {R : AFlow → Loc → Own → Prop} (hs : swapsWith value (some (.Subscript o i tpos)) pos.line env = pure false)
    (h : EvE B d env (eval value env) loc own (fun v own₁ => EvE B d env (eval o env) loc own₁ (fun x own₂ => EvE B d env (eval i env) loc own₂ (fun k own₃ => setS x k v own₃ (fun own₄ => R .next loc own₄)) X) X) X) :
    EvS B d env (exec (.Assign [.Subscript o i tpos] value pos) env) loc own R X := by
  intro A mc f s ok c
  refine wpAny_Assign_Subscript (h.run ok c (fun f₁ own₁ s₁ v w st c₁ r₁ q => ?_) fun _ _ e => e) hs
  refine q.run ok c₁ (fun f₂ own₂ s₂ x a st₂ c₂ r₂ q₂ => ?_) fun _ _ e => e.trans st
  refine q₂.run ok c₂ (fun f₃ own₃ s₃ k b st₃ c₃ r₃ q₃ => ?_) fun _ _ e => e.trans (st.trans st₂)
  refine wpAny_mono (set_of c₃ (r₂.mono st₃.mono) r₃ (r₁.mono (st₂.trans st₃).mono) q₃) (fun _ s' p => ?_) fun _ _ e => e
  obtain ⟨own', st₄, c₄, q₄⟩ := p
  exact ⟨f₃, own', loc, mc, .next, ((st.trans st₂).trans st₃).trans st₄, c₄, rfl, q₄⟩

noncomputable def intsOf : List AV → Option (List Int)
  | [] => some []
  | .int i :: r => (intsOf r).map (i :: ·)
  | _ => none
theorem intsOf_map (ns : List Int) : intsOf (ns.map AV.int) = some ns := by
  induction ns with
  | nil => rfl
  | cons b r ih => simp [intsOf, ih]
theorem intsOf_rel {f : Fz} : ∀ {xs : List AV} {ns : List Int} {vs : List Value}, intsOf xs = some ns → RelVs f xs vs → PyProof.Rows.IntsAre vs ns
  | [], _, _, h, r => by simp only [intsOf, Option.some.injEq] at h; subst h; simp only [RelVs] at r; subst r; exact .nil
  | x :: xs, ns, vs, h, r => by
    cases x with
    | int i =>
      simp only [intsOf, Option.map_eq_some_iff] at h
      obtain ⟨ns', h', rfl⟩ := h
      simp only [RelVs, RelV] at r
      obtain ⟨v, r', rfl, ⟨t, rfl⟩, hr⟩ := r
      exact .cons _ _ (intsOf_rel h' hr)
    | _ => simp [intsOf] at h
theorem ints_rel {f : Fz} : ∀ {vs : List Value} {ns : List Int}, PyProof.Rows.IntsAre vs ns → RelVs f (ns.map AV.int) vs
  | _, _, .nil => by simp [RelVs]
  | _, _, .cons n t h => .cons relV_int (ints_rel h)

noncomputable def sortS (o : Bool) (x : AV) (own : Own) (Q : AV → Own → Prop) : Prop := ∃ xs ns, view own x = some (.lst xs) ∧ intsOf xs = some ns ∧ xs.length < 64 ∧ ∀ ns' : List Int, ns'.Perm ns → ns'.Pairwise (· ≤ ·) → mkL o (ns'.map AV.int) own Q
end
end Mine

namespace Mine
open PySem PySem.Spec

noncomputable def fnB (p : Program) (i : Nat) : List Stmt := match p.main.body[i]? with
  | some (.FunctionDef _ _ body _ _ _ _ _ _ _) => body
  | _ => []
noncomputable def fnSc (p : Program) (i : Nat) : Scope := match p.main.body[i]? with
  | some (.FunctionDef _ _ _ _ _ _ scope _ _ _) => scope
  | _ => default

noncomputable def blts : List (String × Value) := [("len", .builtin "len"), ("all", .builtin "all"), ("sorted", .builtin "sorted"), ("isinstance", .builtin "isinstance"), ("min", .builtin "min"), ("max", .builtin "max"),
  ("list", .type "list"), ("range", .type "range"), ("enumerate", .type "enumerate"), ("int", .type "int"), ("bool", .type "bool"), ("tuple", .type "tuple"), ("str", .type "str"), ("set", .type "set"), ("reversed", .type "reversed")]

structure Gl (B : Amb) (names : List String) : Prop where
  base : BaseOk B
  sys : True
  mg : ∀ x ∈ names, B.mg (Str.ofString x) = none
  mb : ∀ p ∈ blts, B.mb (Str.ofString p.1) = some p.2

section
variable {B : Amb} {d : Nat} {env : Env} {loc : Loc} {mc : Str → Option Value} {f : Fz} {own : Own} {s : Shared} {A : Around} {X : XP}

theorem kind_of {sc : Scope} {x : Str} {k : NameKind} (h : env.scope = sc) (e : sc.names.lookup x = some k) : env.kindOf x = some k := by
  unfold Env.kindOf; rw [h]; exact e
theorem ckind {scope : Scope} {cenv : Env} {x : Str} {k : NameKind} (h : cenv.scope = relabel scope env) (e : scope.names.lookup x = some k) (hk : k ≠ .free) : cenv.kindOf x = some k := by
  unfold Env.kindOf
  rw [h]
  show (List.map _ scope.names).lookup x = some k
  rw [relabel_lookup (env := env) x scope.names, e]
  cases k <;> first | rfl | exact absurd rfl hk
theorem ckind_free {scope : Scope} {cenv : Env} {x : Str} (h : cenv.scope = relabel scope env) (e : scope.names.lookup x = some .free) : cenv.kindOf x = some .cell ∨ cenv.kindOf x = some .free := by
  unfold Env.kindOf
  rw [h]
  have : (relabel scope env).names.lookup x = (scope.names.lookup x).map fun k => if (k == NameKind.free && env.scope.kind == .function && env.kindOf x == some .cell) then NameKind.cell else k := relabel_lookup (env := env) x scope.names
  rw [this, e, Option.map_some]
  split
  · exact .inl rfl
  · exact .inr rfl

theorem ev_len {np pos : Pos} {args : List Expr} {ns : List String} {Q : AV → Own → Prop} (G : Gl B ns) (he : EnvOk env) (hm : "len" ∈ ns) (hx : env.kindOf (Str.ofString "len") = some .globalImplicit) (hp : (starEach args env).all (fun q => !q.1) = true)
    (h : EvEs B d env (spliced (backTo pos (starEach args env))) loc own (fun xs own₁ => ∃ x, xs = [x] ∧ lenS x own₁ Q) X) : EvE B d env (eval (.Call (.Name (Str.ofString "len") np) args [] pos) env) loc own Q X := by
  intro A mc f s ok c
  refine call_bltn G.base he hx (by decide) (G.mg _ hm) (G.mb ("len", .builtin "len") (by simp [blts])) hp ok c h (fun f₁ own₁ s₁ xs vs st c₁ r q => ?_) fun _ _ e => e
  obtain ⟨x, rfl, q⟩ := q
  simp only [RelVs] at r
  obtain ⟨v, r', rfl, hv, rfl⟩ := r
  exact wpAny_mono (len_of c₁ hv q) (fun _ _ p => p.trans st) fun _ _ e => e
theorem ev_all {np pos : Pos} {args : List Expr} {ns : List String} {Q : AV → Own → Prop} (G : Gl B ns) (he : EnvOk env) (hm : "all" ∈ ns) (hx : env.kindOf (Str.ofString "all") = some .globalImplicit) (hp : (starEach args env).all (fun q => !q.1) = true)
    (h : EvEs B d env (spliced (backTo pos (starEach args env))) loc own (fun xs own₁ => ∃ x, xs = [x] ∧ allS x own₁ Q) X) : EvE B d env (eval (.Call (.Name (Str.ofString "all") np) args [] pos) env) loc own Q X := by
  intro A mc f s ok c
  refine call_bltn G.base he hx (by decide) (G.mg _ hm) (G.mb ("all", .builtin "all") (by simp [blts])) hp ok c h (fun f₁ own₁ s₁ xs vs st c₁ r q => ?_) fun _ _ e => e
  obtain ⟨x, rfl, q⟩ := q
  simp only [RelVs] at r
  obtain ⟨v, r', rfl, hv, rfl⟩ := r
  exact wpAny_mono (all_of ok.handled c₁ hv q) (fun _ _ p => p.trans st) fun _ _ e => e
theorem ev_listc {o : Bool} {np pos : Pos} {args : List Expr} {ns : List String} {Q : AV → Own → Prop} (G : Gl B ns) (he : EnvOk env) (hm : "list" ∈ ns) (hx : env.kindOf (Str.ofString "list") = some .globalImplicit) (hp : (starEach args env).all (fun q => !q.1) = true)
    (h : EvEs B d env (spliced (backTo pos (starEach args env))) loc own (fun xs own₁ => ∃ x, xs = [x] ∧ listS o x own₁ Q) X) : EvE B d env (eval (.Call (.Name (Str.ofString "list") np) args [] pos) env) loc own Q X := by
  intro A mc f s ok c
  refine call_type G.base he hx (by decide) (G.mg _ hm) (G.mb ("list", .type "list") (by simp [blts])) hp ok c h (fun f₁ own₁ s₁ xs vs st c₁ r q => ?_) fun _ _ e => e
  obtain ⟨x, rfl, q⟩ := q
  simp only [RelVs] at r
  obtain ⟨v, r', rfl, hv, rfl⟩ := r
  exact wpAny_mono (list_of c₁ hv q) (fun _ _ p => p.trans st) fun _ _ e => e
theorem ev_isi' {np tp pos : Pos} {e : Expr} {T : TyN} {ns : List String} {Q : AV → Own → Prop} (G : Gl B ns) (he : EnvOk env) (hm : "isinstance" ∈ ns) (hmt : T.name ∈ ns) (hx : env.kindOf (Str.ofString "isinstance") = some .globalImplicit) (hxt : env.kindOf (Str.ofString T.name) = some .globalImplicit)
    (hst : starEach [e, .Name (Str.ofString T.name) tp] env = [(false, eval e env), (false, eval (.Name (Str.ofString T.name) tp) env)])
    (h : EvE B d env (eval e env) loc own (fun x own₁ => ∃ b, isiV own₁ x T = some b ∧ Q (.bool b) own₁) X) :
    EvE B d env (eval (.Call (.Name (Str.ofString "isinstance") np) [e, .Name (Str.ofString T.name) tp] [] pos) env) loc own Q X :=
  ev_isi G.base he hx hxt (G.mg _ hm) (G.mb ("isinstance", .builtin "isinstance") (by simp [blts])) (G.mg _ hmt) (by cases T <;> exact G.mb (_, _) (by simp [blts, TyN.name])) hst h
theorem evI_range' {np pos : Pos} {args : List Expr} {target : Expr} {tg : Tgt} {ns : List String} {Q : List AV → Own → Prop} (G : Gl B ns) (he : EnvOk env) (hm : "range" ∈ ns) (hx : env.kindOf (Str.ofString "range") = some .globalImplicit)
    (hp : (starEach args env).all (fun q => !q.1) = true)
    (h : EvEs B d env (spliced (backTo pos (starEach args env))) loc own (fun xs own₁ => ∃ a b, rangeA xs = some (a, b) ∧ (-100000 ≤ a ∧ a ≤ 100000 ∧ -100000 ≤ b ∧ b ≤ 100000 ∧ b - a ≤ 100000) ∧ Q (rangeX a b) own₁) X) :
    EvI B d env (.Call (.Name (Str.ofString "range") np) args [] pos) target tg loc own Q X := evI_range G.base he hx (G.mg _ hm) (G.mb ("range", .type "range") (by simp [blts])) hp h
theorem evI_enum' {np pos : Pos} {args : List Expr} {target : Expr} {x1 x2 : String} {ns : List String} {Q : List AV → Own → Prop} (G : Gl B ns) (he : EnvOk env) (hm : "enumerate" ∈ ns) (hx : env.kindOf (Str.ofString "enumerate") = some .globalImplicit)
    (hp : (starEach args env).all (fun q => !q.1) = true) (htt : ∃ elts k pos, target = .Tuple elts k pos)
    (h : EvEs B d env (spliced (backTo pos (starEach args env))) loc own (fun xs own₁ => ∃ ys, xs = [.lst ys] ∧ ys.length ≤ 100000 ∧ Q (enumL ys) own₁) X) :
    EvI B d env (.Call (.Name (Str.ofString "enumerate") np) args [] pos) target (.tup [x1, x2]) loc own Q X := evI_enum G.base he hx (G.mg _ hm) (G.mb ("enumerate", .type "enumerate") (by simp [blts])) hp htt h

noncomputable def frz (Q : AV → Own → Prop) (v : AV) (own : Own) : Prop := ∃ l xs, v = .ref l ∧ own.lookup l = some (.list xs) ∧ Q (.lst xs) (own.del l)
theorem EvE.mono {t : Sem Value} {Q Q' : AV → Own → Prop} (h : EvE B d env t loc own Q X) (k : ∀ v o, Q v o → Q' v o) : EvE B d env t loc own Q' X := fun A mc f s ok c =>
  wpAny_mono (h A mc f s ok c) (fun v s' ⟨f', own', x, st, c', r, q⟩ => ⟨f', own', x, st, c', r, k _ _ q⟩) fun _ _ e => e
theorem EvTs.mono {ifs : List Expr} {Q Q' : Bool → Own → Prop} (h : EvTs B d env ifs loc own Q X) (k : ∀ v o, Q v o → Q' v o) : EvTs B d env ifs loc own Q' X := fun A mc f s ok c =>
  wpAny_mono (h A mc f s ok c) (fun v s' ⟨f', own', st, c', q⟩ => ⟨f', own', st, c', k _ _ q⟩) fun _ _ e => e
theorem tgtS_mono {tg : Tgt} {v : AV} {R R' : Loc → Own → Prop} (h : tgtS tg v loc own R) (k : ∀ l o, R l o → R' l o) : tgtS tg v loc own R' := by
  cases tg with
  | name x => exact k _ _ h
  | tup xs => obtain ⟨vs, h1, h2, h3⟩ := h; exact ⟨vs, h1, h2, k _ _ h3⟩

theorem compJ_fm {scope : Scope} {elt : Expr} {ifs : List Expr} {tg : Tgt} {xs : List AV} {K : List AV → Own → Prop} (p : AV → Bool) (g : AV → AV) (hlen : xs.length ≤ 100000)
    (step : ∀ cenv, EnvOk cenv → cenv.scope = relabel scope env → ∀ x ∈ xs, tgtS tg x loc own (fun loc₁ own₁ => own₁ = own ∧ EvTs B d cenv ifs loc₁ own (fun b own₂ => b = p x ∧ own₂ = own ∧
      (p x = true → EvE B d cenv (eval elt cenv) loc₁ own (fun y own₃ => y = g x ∧ own₃ = own) noX)) noX))
    (h : K ((xs.filter p).map g) own) : CompJ B d env scope elt ifs tg loc xs own K := by
  refine ⟨fun rest acc o => o = own ∧ ∃ pre, xs = pre ++ rest ∧ acc = (pre.filter p).map g, ⟨rfl, [], rfl, rfl⟩, ?_, ?_⟩
  · rintro cenv he hc x rest acc o ⟨rfl, pre, hxs, rfl⟩
    have hx : x ∈ xs := by rw [hxs]; simp
    refine tgtS_mono (step cenv he hc x hx) fun loc₁ own₁ ⟨e, q⟩ => ?_
    subst e
    refine q.mono fun b o₂ ⟨hb, e, q⟩ => ?_
    subst e
    subst hb
    cases hp : p x with
    | true =>
      simp only [if_true]
      refine (q hp).mono fun y o₃ ⟨hy, e⟩ => ⟨?_, e, pre ++ [x], by rw [hxs]; simp, by simp [hp, hy]⟩
      have h1 : ((pre.filter p).map g).length ≤ pre.length := by rw [List.length_map]; exact List.length_filter_le _ _
      have h2 : pre.length ≤ xs.length := by rw [hxs]; simp
      omega
    | false =>
      simp only [Bool.false_eq_true, if_false]
      exact ⟨trivial, pre ++ [x], by rw [hxs]; simp, by simp [hp]⟩
  · rintro acc o ⟨rfl, pre, hxs, rfl⟩
    simp only [List.append_nil] at hxs
    subst hxs; exact h
end
end Mine

namespace Mine
open PySem PySem.Spec
section
variable {B : Amb} {d : Nat} {env : Env} {loc : Loc} {mc : Str → Option Value} {f : Fz} {own : Own} {s : Shared} {A : Around} {X : XP}

theorem ev_add {l r : Expr} {pos : Pos} {Q : AV → Own → Prop} (h : EvE B d env (eval l env) loc own (fun x own₁ => EvE B d env (eval r env) loc own₁ (fun y own₂ => binS false .add x y own₂ Q) X) X) :
    EvE B d env (eval (.BinOp l .Add r pos) env) loc own Q X := ev_bin (op := .add) h
theorem ev_minus {l r : Expr} {pos : Pos} {Q : AV → Own → Prop} (h : EvE B d env (eval l env) loc own (fun x own₁ => EvE B d env (eval r env) loc own₁ (fun y own₂ => binS false .sub x y own₂ Q) X) X) :
    EvE B d env (eval (.BinOp l .Sub r pos) env) loc own Q X := ev_bin (op := .sub) h
theorem ev_mul {l r : Expr} {pos : Pos} {Q : AV → Own → Prop} (h : EvE B d env (eval l env) loc own (fun x own₁ => EvE B d env (eval r env) loc own₁ (fun y own₂ => binS false .mul x y own₂ Q) X) X) :
    EvE B d env (eval (.BinOp l .Mult r pos) env) loc own Q X := ev_bin (op := .mul) h
theorem ev_fdiv {l r : Expr} {pos : Pos} {Q : AV → Own → Prop} (h : EvE B d env (eval l env) loc own (fun x own₁ => EvE B d env (eval r env) loc own₁ (fun y own₂ => binS false .fdiv x y own₂ Q) X) X) :
    EvE B d env (eval (.BinOp l .FloorDiv r pos) env) loc own Q X := ev_bin (op := .fdiv) h
theorem ev_mod {l r : Expr} {pos : Pos} {Q : AV → Own → Prop} (h : EvE B d env (eval l env) loc own (fun x own₁ => EvE B d env (eval r env) loc own₁ (fun y own₂ => binS false .mod x y own₂ Q) X) X) :
    EvE B d env (eval (.BinOp l .Mod r pos) env) loc own Q X := ev_bin (op := .mod) h
theorem binS_add {o : Bool} {i j : Int} {Q : AV → Own → Prop} (h : Q (.int (i + j)) own) : binS o .add (.int i) (.int j) own Q := h
theorem binS_sub {o : Bool} {i j : Int} {Q : AV → Own → Prop} (h : Q (.int (i - j)) own) : binS o .sub (.int i) (.int j) own Q := h
theorem binS_mul {o : Bool} {i j : Int} {Q : AV → Own → Prop} (hb : i.natAbs < 2 ^ 63 ∨ j.natAbs < 2 ^ 63) (h : Q (.int (i * j)) own) : binS o .mul (.int i) (.int j) own Q := ⟨hb, h⟩
theorem binS_fdiv {o : Bool} {i j : Int} {Q : AV → Own → Prop} (hb : 0 < j ∧ j < 1000000000) (h : Q (.int (i / j)) own) : binS o .fdiv (.int i) (.int j) own Q := ⟨hb, h⟩
theorem binS_mod {o : Bool} {i j : Int} {Q : AV → Own → Prop} (hb : 0 < j) (h : Q (.int (i % j)) own) : binS o .mod (.int i) (.int j) own Q := ⟨hb, h⟩
theorem ev_and {values : List Expr} {pos : Pos} {Q : AV → Own → Prop} (h : EvE B d env (boolOp pos .And (evalEach values env)) loc own Q X) : EvE B d env (eval (.BoolOp .And values pos) env) loc own Q X := ev_boolop (isAnd := true) h
theorem ev_and1 {e : Expr} {pos : Pos} {Q : AV → Own → Prop} (h : EvE B d env (eval e env) loc own Q X) : EvE B d env (boolOp pos .And (evalEach [e] env)) loc own Q X := ev_bool1 (isAnd := true) h
theorem ev_andN {e e' : Expr} {rest : List Expr} {pos : Pos} {Q : AV → Own → Prop}
    (h : EvE B d env (eval e env) loc own (asB fun b own₁ => (b = true → EvE B d env (boolOp pos .And (evalEach (e' :: rest) env)) loc own₁ Q X) ∧ (b = false → Q (.bool false) own₁)) X) :
    EvE B d env (boolOp pos .And (evalEach (e :: e' :: rest) env)) loc own Q X := ev_boolN (isAnd := true) (h.mono fun v o ⟨b, e, h⟩ => ⟨b, e, by cases b <;> simp only [Bool.false_eq_true, if_false, if_true, reduceCtorEq] <;> first | exact h.1 rfl | exact h.2 rfl⟩)
theorem EvT.mono {t : Sem Bool} {Q Q' : Bool → Own → Prop} (h : EvT B d env t loc own Q X) (k : ∀ v o, Q v o → Q' v o) : EvT B d env t loc own Q' X := fun A mc f s ok c =>
  wpAny_mono (h A mc f s ok c) (fun v s' ⟨f', own', st, c', q⟩ => ⟨f', own', st, c', k _ _ q⟩) fun _ _ e => e
theorem evT_and {values : List Expr} {pos : Pos} {whole : Sem Value} {Q : Bool → Own → Prop} (h : EvT B d env (allTrue .And values env) loc own Q X) : EvT B d env (isTrue (.BoolOp .And values pos) env whole) loc own Q X := evT_boolop (isAnd := true) h
theorem evT_or {values : List Expr} {pos : Pos} {whole : Sem Value} {Q : Bool → Own → Prop} (h : EvT B d env (allTrue .Or values env) loc own Q X) : EvT B d env (isTrue (.BoolOp .Or values pos) env whole) loc own Q X := evT_boolop (isAnd := false) h
theorem evT_and1 {e : Expr} {Q : Bool → Own → Prop} (h : EvT B d env (isTrue e env (eval e env)) loc own Q X) : EvT B d env (allTrue .And [e] env) loc own Q X := evT_all1 (isAnd := true) h
theorem evT_or1 {e : Expr} {Q : Bool → Own → Prop} (h : EvT B d env (isTrue e env (eval e env)) loc own Q X) : EvT B d env (allTrue .Or [e] env) loc own Q X := evT_all1 (isAnd := false) h
theorem evT_andN {e e' : Expr} {rest : List Expr} {Q : Bool → Own → Prop}
    (h : EvT B d env (isTrue e env (eval e env)) loc own (fun b own₁ => (b = true → EvT B d env (allTrue .And (e' :: rest) env) loc own₁ Q X) ∧ (b = false → Q false own₁)) X) : EvT B d env (allTrue .And (e :: e' :: rest) env) loc own Q X :=
  evT_allN (isAnd := true) (h.mono fun b o h => by cases b <;> simp only [Bool.false_eq_true, if_false, if_true, reduceCtorEq] <;> first | exact h.1 rfl | exact h.2 rfl)
theorem evT_orN {e e' : Expr} {rest : List Expr} {Q : Bool → Own → Prop}
    (h : EvT B d env (isTrue e env (eval e env)) loc own (fun b own₁ => (b = false → EvT B d env (allTrue .Or (e' :: rest) env) loc own₁ Q X) ∧ (b = true → Q true own₁)) X) : EvT B d env (allTrue .Or (e :: e' :: rest) env) loc own Q X :=
  evT_allN (isAnd := false) (h.mono fun b o h => by cases b <;> simp only [Bool.false_eq_true, if_false, if_true, reduceCtorEq] <;> first | exact h.1 rfl | exact h.2 rfl)
theorem evS_iff {test : Expr} {body orelse : List Stmt} {pos : Pos} {R : AFlow → Loc → Own → Prop}
    (h : EvT B d env (isTrue test env (eval test env)) loc own (fun b own₁ => (b = true → EvS B d env (execs body env) loc own₁ R X) ∧ (b = false → EvS B d env (execs orelse env) loc own₁ R X)) X) :
    EvS B d env (exec (.If test body orelse pos) env) loc own R X := evS_if (h.mono fun b o h => by cases b <;> simp only [Bool.false_eq_true, if_false, if_true, reduceCtorEq] <;> first | exact h.1 rfl | exact h.2 rfl)
theorem asB_at {Q : Bool → Own → Prop} {b : Bool} (h : Q b own) : asB Q (.bool b) own := ⟨b, rfl, h⟩
theorem tt_and {A B : Prop} (h : A) : (true = true → A) ∧ (true = false → B) := ⟨fun _ => h, fun e => by cases e⟩
theorem ff_and {A B : Prop} (h : A) : (false = false → A) ∧ (false = true → B) := ⟨fun _ => h, fun e => by cases e⟩
theorem ft_and {A B : Prop} (h : B) : (false = true → A) ∧ (false = false → B) := ⟨fun e => (by cases e), fun _ => h⟩

theorem evCT_lt (hsys : True) {x : AV} {e : Expr} {pos : Pos} {Q : Bool → Own → Prop} (h : EvE B d env (eval e env) loc own (fun y own₁ => ∃ b, cmpV own₁ .lt x y = some b ∧ Q b own₁) X) :
    EvCT B d env x (fun v => testChain pos v [.Lt] (evalEach [e] env)) loc own Q X := evCT_one hsys (op := .lt) h
theorem evC_le (hsys : True) {x : AV} {e : Expr} {pos : Pos} {Q : AV → Own → Prop} (h : EvE B d env (eval e env) loc own (fun y own₁ => ∃ b, cmpV own₁ .le x y = some b ∧ Q (.bool b) own₁) X) :
    EvC B d env x (fun v => compareChain pos v [.LtE] (evalEach [e] env)) loc own Q X := evC_one hsys (op := .le) h
theorem evCT_gt (hsys : True) {x : AV} {e : Expr} {pos : Pos} {Q : Bool → Own → Prop} (h : EvE B d env (eval e env) loc own (fun y own₁ => ∃ b, cmpV own₁ .gt x y = some b ∧ Q b own₁) X) :
    EvCT B d env x (fun v => testChain pos v [.Gt] (evalEach [e] env)) loc own Q X := evCT_one hsys (op := .gt) h
theorem evC_eq (hsys : True) {x : AV} {e : Expr} {pos : Pos} {Q : AV → Own → Prop} (h : EvE B d env (eval e env) loc own (fun y own₁ => ∃ b, cmpV own₁ .eq x y = some b ∧ Q (.bool b) own₁) X) :
    EvC B d env x (fun v => compareChain pos v [.Eq] (evalEach [e] env)) loc own Q X := evC_one hsys (op := .eq) h
theorem evCT_eq (hsys : True) {x : AV} {e : Expr} {pos : Pos} {Q : Bool → Own → Prop} (h : EvE B d env (eval e env) loc own (fun y own₁ => ∃ b, cmpV own₁ .eq x y = some b ∧ Q b own₁) X) :
    EvCT B d env x (fun v => testChain pos v [.Eq] (evalEach [e] env)) loc own Q X := evCT_one hsys (op := .eq) h
theorem evC_ne (hsys : True) {x : AV} {e : Expr} {pos : Pos} {Q : AV → Own → Prop} (h : EvE B d env (eval e env) loc own (fun y own₁ => ∃ b, cmpV own₁ .ne x y = some b ∧ Q (.bool b) own₁) X) :
    EvC B d env x (fun v => compareChain pos v [.NotEq] (evalEach [e] env)) loc own Q X := evC_one hsys (op := .ne) h
theorem evCT_ne (hsys : True) {x : AV} {e : Expr} {pos : Pos} {Q : Bool → Own → Prop} (h : EvE B d env (eval e env) loc own (fun y own₁ => ∃ b, cmpV own₁ .ne x y = some b ∧ Q b own₁) X) :
    EvCT B d env x (fun v => testChain pos v [.NotEq] (evalEach [e] env)) loc own Q X := evCT_one hsys (op := .ne) h
theorem evCT_in_ (hsys : True) {x : AV} {e : Expr} {pos : Pos} {Q : Bool → Own → Prop} (h : EvE B d env (eval e env) loc own (fun y own₁ => ∃ b, cmpV own₁ .in_ x y = some b ∧ Q b own₁) X) :
    EvCT B d env x (fun v => testChain pos v [.In] (evalEach [e] env)) loc own Q X := evCT_one hsys (op := .in_) h
theorem evC_le_le (hsys : True) {x : AV} {e e' : Expr} {pos : Pos} {Q : AV → Own → Prop} (h : EvE B d env (eval e env) loc own (fun y own₁ => ∃ b, cmpV own₁ .le x y = some b ∧
      (b = true → EvC B d env y (fun v => compareChain pos v [.LtE] (evalEach [e'] env)) loc own₁ Q X) ∧ (b = false → Q (.bool false) own₁)) X) :
    EvC B d env x (fun v => compareChain pos v [.LtE, .LtE] (evalEach [e, e'] env)) loc own Q X :=
  evC_more hsys (op := .le) (op' := .le) (h.mono fun y o ⟨b, e, h⟩ => ⟨b, e, by cases b <;> simp only [Bool.false_eq_true, if_false, if_true, reduceCtorEq] <;> first | exact h.1 rfl | exact h.2 rfl⟩)
theorem ev_isi_int {np tp pos : Pos} {e : Expr} {ns : List String} {Q : AV → Own → Prop} (G : Gl B ns) (he : EnvOk env) (hm : "isinstance" ∈ ns) (hmt : "int" ∈ ns) (hx : env.kindOf (Str.ofString "isinstance") = some .globalImplicit) (hxt : env.kindOf (Str.ofString "int") = some .globalImplicit)
    (hst : starEach [e, .Name (Str.ofString "int") tp] env = [(false, eval e env), (false, eval (.Name (Str.ofString "int") tp) env)])
    (h : EvE B d env (eval e env) loc own (fun x own₁ => ∃ b, isiV own₁ x .int = some b ∧ Q (.bool b) own₁) X) :
    EvE B d env (eval (.Call (.Name (Str.ofString "isinstance") np) [e, .Name (Str.ofString "int") tp] [] pos) env) loc own Q X := ev_isi' (T := .int) G he hm hmt hx hxt hst h
theorem ev_isi_bool {np tp pos : Pos} {e : Expr} {ns : List String} {Q : AV → Own → Prop} (G : Gl B ns) (he : EnvOk env) (hm : "isinstance" ∈ ns) (hmt : "bool" ∈ ns) (hx : env.kindOf (Str.ofString "isinstance") = some .globalImplicit) (hxt : env.kindOf (Str.ofString "bool") = some .globalImplicit)
    (hst : starEach [e, .Name (Str.ofString "bool") tp] env = [(false, eval e env), (false, eval (.Name (Str.ofString "bool") tp) env)])
    (h : EvE B d env (eval e env) loc own (fun x own₁ => ∃ b, isiV own₁ x .bool = some b ∧ Q (.bool b) own₁) X) :
    EvE B d env (eval (.Call (.Name (Str.ofString "isinstance") np) [e, .Name (Str.ofString "bool") tp] [] pos) env) loc own Q X := ev_isi' (T := .bool) G he hm hmt hx hxt hst h
theorem ev_isi_list {np tp pos : Pos} {e : Expr} {ns : List String} {Q : AV → Own → Prop} (G : Gl B ns) (he : EnvOk env) (hm : "isinstance" ∈ ns) (hmt : "list" ∈ ns) (hx : env.kindOf (Str.ofString "isinstance") = some .globalImplicit) (hxt : env.kindOf (Str.ofString "list") = some .globalImplicit)
    (hst : starEach [e, .Name (Str.ofString "list") tp] env = [(false, eval e env), (false, eval (.Name (Str.ofString "list") tp) env)])
    (h : EvE B d env (eval e env) loc own (fun x own₁ => ∃ b, isiV own₁ x .list = some b ∧ Q (.bool b) own₁) X) :
    EvE B d env (eval (.Call (.Name (Str.ofString "isinstance") np) [e, .Name (Str.ofString "list") tp] [] pos) env) loc own Q X := ev_isi' (T := .list) G he hm hmt hx hxt hst h
theorem ev_isi_tuple {np tp pos : Pos} {e : Expr} {ns : List String} {Q : AV → Own → Prop} (G : Gl B ns) (he : EnvOk env) (hm : "isinstance" ∈ ns) (hmt : "tuple" ∈ ns) (hx : env.kindOf (Str.ofString "isinstance") = some .globalImplicit) (hxt : env.kindOf (Str.ofString "tuple") = some .globalImplicit)
    (hst : starEach [e, .Name (Str.ofString "tuple") tp] env = [(false, eval e env), (false, eval (.Name (Str.ofString "tuple") tp) env)])
    (h : EvE B d env (eval e env) loc own (fun x own₁ => ∃ b, isiV own₁ x .tuple = some b ∧ Q (.bool b) own₁) X) :
    EvE B d env (eval (.Call (.Name (Str.ofString "isinstance") np) [e, .Name (Str.ofString "tuple") tp] [] pos) env) loc own Q X := ev_isi' (T := .tuple) G he hm hmt hx hxt hst h
end
end Mine
namespace Mine
open PySem PySem.Spec
noncomputable def seqR (K : Loc → Own → Prop) (R : AFlow → Loc → Own → Prop) : AFlow → Loc → Own → Prop
  | .next, loc, own => K loc own
  | fl, loc, own => R fl loc own
noncomputable def fnR (Q : AV → Own → Prop) : AFlow → Loc → Own → Prop
  | .ret v, _, own => Q v own
  | .next, _, own => Q .none own
  | _, _, _ => False
noncomputable def loopR (J : Loc → Own → Prop) (R : AFlow → Loc → Own → Prop) : AFlow → Loc → Own → Prop
  | .next, loc, own => J loc own
  | .cont, loc, own => J loc own
  | .brk, loc, own => R .next loc own
  | .ret v, loc, own => R (.ret v) loc own
section
variable {loc : Loc} {own : Own}
theorem seq_next {K : Loc → Own → Prop} {R : AFlow → Loc → Own → Prop} (h : K loc own) : seqR K R .next loc own := h
theorem seq_ret {K : Loc → Own → Prop} {R : AFlow → Loc → Own → Prop} {v : AV} (h : R (.ret v) loc own) : seqR K R (.ret v) loc own := h
theorem fn_ret {Q : AV → Own → Prop} {v : AV} (h : Q v own) : fnR Q (.ret v) loc own := h
theorem fn_next {Q : AV → Own → Prop} (h : Q .none own) : fnR Q .next loc own := h
theorem loop_next {K : Loc → Own → Prop} {R : AFlow → Loc → Own → Prop} (h : K loc own) : loopR K R .next loc own := h
end
section
variable {B : Amb} {d : Nat} {env : Env} {loc : Loc} {mc : Str → Option Value} {f : Fz} {own : Own} {s : Shared} {A : Around} {X : XP}
theorem EvS.mono {t : Sem Flow} {R R' : AFlow → Loc → Own → Prop} (h : EvS B d env t loc own R X) (k : ∀ w l o, R w l o → R' w l o) : EvS B d env t loc own R' X := fun A mc f s ok c =>
  wpAny_mono (h A mc f s ok c) (fun v s' ⟨f', own', loc', mc', fl, st, c', r, q⟩ => ⟨f', own', loc', mc', fl, st, c', r, k _ _ _ q⟩) fun _ _ e => e
theorem evS_seq {st : Stmt} {rest : List Stmt} {R : AFlow → Loc → Own → Prop}
    (h : EvS B d env (exec st env) loc own (seqR (fun loc₁ own₁ => EvS B d env (execs rest env) loc₁ own₁ R X) R) X) : EvS B d env (execs (st :: rest) env) loc own R X :=
  evS_cons (h.mono fun w l o q => by cases w <;> exact q)
theorem call_in {a : Addr} {ps : List String} {body : List Stmt} {scope : Scope} {vs : List AV} {Q : AV → Own → Prop} {E : Addr → Own → Prop} (hB : BaseOk B) (hf : FnAt B a ps body scope) (hlen : vs.length = ps.length)
    (h : ∀ env, EnvOk env → env.scope = scope → EvS B d env (execs body env) (ps.zip vs) own (fnR Q) (fun c _ own' => E c own')) : CallA B (d + 1) a vs own Q E :=
  call_intro hB hf hlen fun env he hsc => (h env he hsc).mono fun w l o q => by cases w <;> exact q
theorem evS_forJ {target iter : Expr} {tg : Tgt} {body : List Stmt} {pos : Pos} {R : AFlow → Loc → Own → Prop} (he : EnvOk env) (ht : TgtOk env target tg) (hs : ∀ x, foldedSetIterable iter env x = pure x)
    (h : EvI B d env iter target tg loc own (fun xs own₁ => ∃ J : List AV → Loc → Own → Prop, J xs loc own₁ ∧
      (∀ x rest loc own, J (x :: rest) loc own → tgtS tg x loc own (fun loc₁ own₁ => EvS B d env (execs body env) loc₁ own₁ (loopR (J rest) R) X)) ∧
      ∀ loc own, J [] loc own → R .next loc own) X) : EvS B d env (exec (.For target iter body [] pos) env) loc own R X := by
  refine evS_for he ht hs fun A mc f s ok c => wpAny_mono (h A mc f s ok c) (fun x s₁ h₁ => wpAny_mono h₁ (fun it s₂ h₂ => ?_) fun _ _ e => e) fun _ _ e => e
  obtain ⟨f', own', I, fp, wr, P, Md, St, xs, e, st, c', S, hSt, hfp, hwr, hlen, J, h0, hstep, hdone⟩ := h₂
  exact ⟨f', own', I, fp, wr, P, Md, St, xs, e, st, c', S, hSt, hfp, hwr, hlen, J, h0, fun x rest l o hj => tgtS_mono (hstep x rest l o hj) fun l o q => q.mono fun w l o q => by cases w <;> exact q, hdone⟩
theorem cmp_lt {i j : Int} {P : Bool → Prop} (h : P (decide (i < j))) : ∃ b, cmpV own .lt (.int i) (.int j) = some b ∧ P b := ⟨_, rfl, h⟩
theorem cmp_le {i j : Int} {P : Bool → Prop} (h : P (decide (i ≤ j))) : ∃ b, cmpV own .le (.int i) (.int j) = some b ∧ P b := ⟨_, rfl, h⟩
theorem cmp_gt {i j : Int} {P : Bool → Prop} (h : P (decide (j < i))) : ∃ b, cmpV own .gt (.int i) (.int j) = some b ∧ P b := ⟨_, rfl, h⟩
theorem eqV_ints (i j : Int) : eqV own (.int i) (.int j) = some (decide (i = j)) := by
  have : AV.eqv (.int i) (.int j) = decide (i = j) := by
    cases h : AV.eqv (.int i) (.int j) with
    | true => have := (eqv_iff (.int i) (.int j) rfl rfl).mp h; simp at this; simp [this]
    | false =>
      by_cases e : i = j
      · have := (eqv_iff (.int i) (.int j) rfl rfl).mpr (by rw [e]); rw [h] at this; cases this
      · simp [e]
  simp [eqV, view, AV.dat, this]
theorem cmp_eq {i j : Int} {P : Bool → Prop} (h : P (decide (i = j))) : ∃ b, cmpV own .eq (.int i) (.int j) = some b ∧ P b := ⟨_, eqV_ints (own := own) i j, h⟩
theorem cmp_ne {i j : Int} {P : Bool → Prop} (h : P (!decide (i = j))) : ∃ b, cmpV own .ne (.int i) (.int j) = some b ∧ P b := ⟨_, by simp only [cmpV, eqV_ints]; rfl, h⟩
theorem eqV_pure {x y a b : AV} (hx : view own x = some a) (hy : view own y = some b) (pa : a.pure = true) (pb : b.pure = true) (da : a.dat 8 = true) (db : b.dat 8 = true) :
    ∃ r : Bool, eqV own x y = some r ∧ (r = true ↔ a = b) := ⟨a.eqv b, by simp [eqV, hx, hy, da, db], eqv_iff a b pa pb⟩
theorem cmp_eqP {x y a b : AV} {P : Bool → Prop} (hx : view own x = some a) (hy : view own y = some b) (pa : a.pure = true) (pb : b.pure = true) (da : a.dat 8 = true) (db : b.dat 8 = true)
    (h1 : a = b → P true) (h2 : a ≠ b → P false) : ∃ r, cmpV own .eq x y = some r ∧ P r := by
  obtain ⟨r, hr, hi⟩ := eqV_pure hx hy pa pb da db
  refine ⟨r, hr, ?_⟩
  cases r with
  | true => exact h1 (hi.mp rfl)
  | false => exact h2 fun e => by have := hi.mpr e; cases this
theorem cmp_neP {x y a b : AV} {P : Bool → Prop} (hx : view own x = some a) (hy : view own y = some b) (pa : a.pure = true) (pb : b.pure = true) (da : a.dat 8 = true) (db : b.dat 8 = true)
    (h1 : a = b → P false) (h2 : a ≠ b → P true) : ∃ r, cmpV own .ne x y = some r ∧ P r := by
  obtain ⟨r, hr, hi⟩ := eqV_pure hx hy pa pb da db
  refine ⟨!r, by simp only [cmpV, hr]; rfl, ?_⟩
  cases r with
  | true => exact h1 (hi.mp rfl)
  | false => exact h2 fun e => by have := hi.mpr e; cases this
theorem inSeq_pure {ys : List AV} {x : AV} (px : x.pure = true) (py : ∀ y ∈ ys, y.pure = true) (dx : x.dat 8 = true) (dy : ∀ y ∈ ys, y.dat 8 = true) : ∃ r : Bool, inSeq ys x = some r ∧ (r = true ↔ x ∈ ys) := by
  refine ⟨ys.any (·.eqv x), by simp [inSeq, dx, AV.dats_iff.mpr dy], ?_⟩
  rw [List.any_eq_true]
  constructor
  · rintro ⟨y, hy, e⟩; exact ((eqv_iff y x (py y hy) px).mp e) ▸ hy
  · intro h; exact ⟨x, h, (eqv_iff x x px px).mpr rfl⟩
theorem cmp_inP {x y : AV} {ys : List AV} {P : Bool → Prop} (hy : view own y = some (.lst ys) ∨ view own y = some (.tup ys)) (px : x.pure = true) (py : ∀ y ∈ ys, y.pure = true) (dx : x.dat 8 = true) (dy : ∀ y ∈ ys, y.dat 8 = true)
    (h1 : x ∈ ys → P true) (h2 : x ∉ ys → P false) : ∃ r, cmpV own .in_ x y = some r ∧ P r := by
  obtain ⟨r, hr, hi⟩ := inSeq_pure px py dx dy
  have e : inV own x y = some r := by
    cases y with
    | lst zs => rcases hy with h | h <;> simp [view] at h; subst h; exact hr
    | tup zs => rcases hy with h | h <;> simp [view] at h; subst h; exact hr
    | ref l =>
      simp only [view] at hy
      cases hl : own.lookup l with
      | none => rw [hl] at hy; simp at hy
      | some o =>
        rw [hl] at hy
        cases o with
        | list zs => simp at hy; subst hy; simp [inV, hl, hr]
        | dict es => simp at hy
    | _ => rcases hy with h | h <;> simp [view] at h
  refine ⟨r, e, ?_⟩
  cases r with
  | true => exact h1 (hi.mp rfl)
  | false => exact h2 fun e => by have := hi.mpr e; cases this
theorem lookup_head {a : Addr} {x : AO} : List.lookup a ((a, x) :: own) = some x := by simp
theorem len_lst {xs : List AV} {Q : AV → Own → Prop} (hl : xs.length ≤ 100000) (h : Q (.int xs.length) own) : ∃ x, [AV.lst xs] = [x] ∧ lenS x own Q := ⟨_, rfl, by simpa [lenS, view] using ⟨hl, h⟩⟩
theorem len_tup {xs : List AV} {Q : AV → Own → Prop} (hl : xs.length ≤ 100000) (h : Q (.int xs.length) own) : ∃ x, [AV.tup xs] = [x] ∧ lenS x own Q := ⟨_, rfl, by simpa [lenS, view] using ⟨hl, h⟩⟩
theorem sub_lst {xs : List AV} {i : Int} {v : AV} {Q : AV → Own → Prop} (hi : 0 ≤ i) (hl : xs.length ≤ 100000) (hv : xs[i.toNat]? = some v) (h : Q v own) : subS (.lst xs) (.int i) own Q := by
  simp only [subS, view]; exact ⟨hi, hl, v, hv, h⟩
theorem sub_tup {xs : List AV} {i : Int} {v : AV} {Q : AV → Own → Prop} (hi : 0 ≤ i) (hl : xs.length ≤ 100000) (hv : xs[i.toNat]? = some v) (h : Q v own) : subS (.tup xs) (.int i) own Q := by
  simp only [subS, view]; exact ⟨hi, hl, v, hv, h⟩
theorem tup0 {x : AV} {xs : List AV} {Q : AV → Own → Prop} (hl : (x :: xs).length ≤ 100000) (h : Q x own) : subS (.tup (x :: xs)) (.int 0) own Q := sub_tup (by decide) hl rfl h
theorem tup1 {x y : AV} {xs : List AV} {Q : AV → Own → Prop} (hl : (x :: y :: xs).length ≤ 100000) (h : Q y own) : subS (.tup (x :: y :: xs)) (.int 1) own Q := sub_tup (by decide) hl rfl h
theorem isi_int_int {i : Int} {P : Bool → Prop} (h : P true) : ∃ b, isiV own (.int i) .int = some b ∧ P b := ⟨_, rfl, h⟩
theorem isi_int_bool {i : Int} {P : Bool → Prop} (h : P false) : ∃ b, isiV own (.int i) .bool = some b ∧ P b := ⟨_, rfl, h⟩
theorem isi_tup_tuple {xs : List AV} {P : Bool → Prop} (h : P true) : ∃ b, isiV own (.tup xs) .tuple = some b ∧ P b := ⟨_, rfl, h⟩
theorem isi_lst_list {xs : List AV} {P : Bool → Prop} (h : P true) : ∃ b, isiV own (.lst xs) .list = some b ∧ P b := ⟨_, rfl, h⟩
theorem isi_ref_list {a : Addr} {xs : List AV} {P : Bool → Prop} (ha : own.lookup a = some (.list xs)) (h : P true) : ∃ b, isiV own (.ref a) .list = some b ∧ P b := ⟨true, by simp only [isiV, kindB, ha]; rfl, h⟩
end
end Mine

namespace Mine
open PySem PySem.Spec
section
variable {B : Amb} {d : Nat} {env : Env} {loc : Loc} {mc : Str → Option Value} {f : Fz} {own : Own} {s : Shared} {A : Around} {X : XP}
theorem ev_not' {e : Expr} {pos : Pos} {Q : AV → Own → Prop} (h : EvE B d env (eval e env) loc own (asB fun b o => (b = true → Q (.bool false) o) ∧ (b = false → Q (.bool true) o)) X) : EvE B d env (eval (.UnaryOp .Not e pos) env) loc own Q X :=
  ev_not (h.mono fun v o ⟨b, e, q⟩ => ⟨b, e, by cases b <;> first | exact q.1 rfl | exact q.2 rfl⟩)
theorem evT_not' {e : Expr} {pos : Pos} {whole : Sem Value} {Q : Bool → Own → Prop} (h : EvT B d env (isTrue e env (eval e env)) loc own (fun b o => (b = true → Q false o) ∧ (b = false → Q true o)) X) : EvT B d env (isTrue (.UnaryOp .Not e pos) env whole) loc own Q X :=
  evT_not (h.mono fun b o q => by cases b <;> first | exact q.1 rfl | exact q.2 rfl)
theorem len_and {n : Nat} {P : Prop} (h : n ≤ 100000) (p : P) : n ≤ 100000 ∧ P := ⟨h, p⟩
theorem dec_and {p : Prop} [Decidable p] {A B : Prop} (h : p → A) (k : ¬p → B) : (decide p = true → A) ∧ (decide p = false → B) := ⟨fun e => h (of_decide_eq_true e), fun e => k (of_decide_eq_false e)⟩
theorem yes_and {p : Prop} [Decidable p] {A B : Prop} (e : p) (h : A) : (decide p = true → A) ∧ (decide p = false → B) := ⟨fun _ => h, fun x => absurd e (of_decide_eq_false x)⟩
theorem no_and' {p : Prop} [Decidable p] {A B : Prop} (e : ¬p) (h : A) : (decide p = false → A) ∧ (decide p = true → B) := ⟨fun _ => h, fun x => absurd (of_decide_eq_true x) e⟩
theorem mkL_own {xs : List AV} {Q : AV → Own → Prop} (h : ∀ a, a ∉ addrs own → Q (.ref a) ((a, .list xs) :: own)) : mkL true xs own Q := h
theorem mkL_frz {xs : List AV} {Q : AV → Own → Prop} (h : Q (.lst xs) own) : mkL false xs own Q := h
theorem tgt_name {x : String} {v : AV} {R : Loc → Own → Prop} (h : R (Loc.upd x v loc) own) : tgtS (.name x) v loc own R := h
theorem list_lst {o : Bool} {xs : List AV} {Q : AV → Own → Prop} (hl : xs.length ≤ 100000) (h : mkL o xs own Q) : ∃ x, [AV.lst xs] = [x] ∧ listS o x own Q := ⟨_, rfl, by simpa [listS, view] using ⟨hl, h⟩⟩
end
end Mine

namespace Mine
open PySem PySem.Spec
theorem str_beq {a b : String} (h : a ≠ b) : (Str.ofString a == Str.ofString b) = false := by
  cases e : Str.ofString a == Str.ofString b with
  | false => rfl
  | true => exact absurd (ofString_inj (beq_iff_eq.mp e)) h
noncomputable def NmL (env : Env) (x : String) : Prop := (env.kindOf (Str.ofString x) = some .local ∨ env.kindOf (Str.ofString x) = some .cell ∨ env.kindOf (Str.ofString x) = some .free) ∧ x ≠ "__debug__" ∧ x ≠ "__classdict__"
noncomputable def NmS (env : Env) (x : String) : Prop := env.kindOf (Str.ofString x) = some .local ∨ env.kindOf (Str.ofString x) = some .cell
noncomputable def NmG (env : Env) (x : String) : Prop := env.kindOf (Str.ofString x) = some .globalImplicit ∧ x ≠ "__debug__"
section
variable {B : Amb} {d : Nat} {env : Env} {loc : Loc} {own : Own} {X : XP}
theorem NmG.k {x : String} (h : NmG env x) : env.kindOf (Str.ofString x) = some .globalImplicit := h.1
theorem NmG.db {x : String} (h : NmG env x) : (Str.ofString x == ("__debug__" : Str)) = false := str_beq h.2
theorem nm_local {sc : Scope} {x : String} (h : env.scope = sc) (e : sc.names.lookup (Str.ofString x) = some .local) (h1 : x ≠ "__debug__") (h2 : x ≠ "__classdict__") : NmL env x ∧ NmS env x := ⟨⟨.inl (kind_of h e), h1, h2⟩, .inl (kind_of h e)⟩
theorem nm_cell {sc : Scope} {x : String} (h : env.scope = sc) (e : sc.names.lookup (Str.ofString x) = some .cell) (h1 : x ≠ "__debug__") (h2 : x ≠ "__classdict__") : NmL env x ∧ NmS env x := ⟨⟨.inr (.inl (kind_of h e)), h1, h2⟩, .inr (kind_of h e)⟩
theorem nm_glob {sc : Scope} {x : String} (h : env.scope = sc) (e : sc.names.lookup (Str.ofString x) = some .globalImplicit) (h1 : x ≠ "__debug__") : NmG env x := ⟨kind_of h e, h1⟩
theorem nmc_local {scope : Scope} {cenv : Env} {x : String} (h : cenv.scope = relabel scope env) (e : scope.names.lookup (Str.ofString x) = some .local) (h1 : x ≠ "__debug__") (h2 : x ≠ "__classdict__") : NmL cenv x := ⟨.inl (ckind h e (by decide)), h1, h2⟩
theorem nmc_cell {scope : Scope} {cenv : Env} {x : String} (h : cenv.scope = relabel scope env) (e : scope.names.lookup (Str.ofString x) = some .cell) (h1 : x ≠ "__debug__") (h2 : x ≠ "__classdict__") : NmL cenv x := ⟨.inr (.inl (ckind h e (by decide))), h1, h2⟩
theorem nmc_free {scope : Scope} {cenv : Env} {x : String} (h : cenv.scope = relabel scope env) (e : scope.names.lookup (Str.ofString x) = some .free) (h1 : x ≠ "__debug__") (h2 : x ≠ "__classdict__") : NmL cenv x := ⟨.inr (ckind_free h e), h1, h2⟩
theorem nmc_glob {scope : Scope} {cenv : Env} {x : String} (h : cenv.scope = relabel scope env) (e : scope.names.lookup (Str.ofString x) = some .globalImplicit) (h1 : x ≠ "__debug__") : NmG cenv x := ⟨ckind h e (by decide), h1⟩
theorem ev_nm {x : String} {pos : Pos} {v : AV} {Q : AV → Own → Prop} (he : EnvOk env) (hn : NmL env x) (hl : loc.lookup x = some v) (hq : Q v own) : EvE B d env (eval (.Name (Str.ofString x) pos) env) loc own Q X :=
  ev_name he.kind hn.1 (str_beq hn.2.1) (str_beq hn.2.2) hl hq
theorem ev_gi {x : String} {pos : Pos} {i : Int} {t : Tok} {Q : AV → Own → Prop} (hB : BaseOk B) (he : EnvOk env) (hn : NmG env x) (hv : B.mg (Str.ofString x) = some (.int i t)) (hq : Q (.int i) own) : EvE B d env (eval (.Name (Str.ofString x) pos) env) loc own Q X :=
  ev_globInt hB he hn.k hn.db hv hq
theorem ev_fn {x : String} {np pos : Pos} {a : Addr} {args : List Expr} {ps : List String} {body : List Stmt} {scope : Scope} {Q : AV → Own → Prop} (hB : BaseOk B) (he : EnvOk env) (hn : NmG env x)
    (hv : B.mg (Str.ofString x) = some (.ref a)) (hf : FnAt B a ps body scope) (hp : (starEach args env).all (fun q => !q.1) = true)
    (h : EvEs B d env (spliced (backTo pos (starEach args env))) loc own (fun vs own₁ => CallA B d a vs own₁ Q (fun c own₂ => X c loc own₂)) X) : EvE B d env (eval (.Call (.Name (Str.ofString x) np) args [] pos) env) loc own Q X :=
  ev_call hB he hn.k hn.db hv hf hp h
theorem evS_set {x : String} {px : Pos} {value : Expr} {pos : Pos} {R : AFlow → Loc → Own → Prop} (he : EnvOk env) (hn : NmS env x)
    (hs : swapsWith value (some (.Name (Str.ofString x) px)) pos.line env = pure false) (h : EvE B d env (eval value env) loc own (fun v own₁ => R .next (Loc.upd x v loc) own₁) X) :
    EvS B d env (exec (.Assign [.Name (Str.ofString x) px] value pos) env) loc own R X := evS_assign he hn hs h
end
end Mine

namespace Mine
open PySem PySem.Spec
section
variable {B : Amb} {d : Nat} {env : Env} {loc : Loc} {own : Own} {X : XP}
theorem gE {t : Sem Value} {Q : AV → Own → Prop} (h : EvE B d env t loc own Q X) : EvE B d env t loc own Q X := h
theorem gN {x : Str} {pos : Pos} {Q : AV → Own → Prop} (h : EvE B d env (eval (.Name x pos) env) loc own Q X) : EvE B d env (eval (.Name x pos) env) loc own Q X := h
theorem gK {c : Const} {k : Nat} {pos : Pos} {Q : AV → Own → Prop} (h : EvE B d env (eval (.Constant c k pos) env) loc own Q X) : EvE B d env (eval (.Constant c k pos) env) loc own Q X := h
theorem gCall {f : Expr} {args : List Expr} {kw : List Keyword} {pos : Pos} {Q : AV → Own → Prop} (h : EvE B d env (eval (.Call f args kw pos) env) loc own Q X) : EvE B d env (eval (.Call f args kw pos) env) loc own Q X := h
theorem gIsi {np : Pos} {args : List Expr} {kw : List Keyword} {pos : Pos} {Q : AV → Own → Prop} (h : EvE B d env (eval (.Call (.Name (Str.ofString "isinstance") np) args kw pos) env) loc own Q X) : EvE B d env (eval (.Call (.Name (Str.ofString "isinstance") np) args kw pos) env) loc own Q X := h
theorem gBin {l r : Expr} {op : Operator} {pos : Pos} {Q : AV → Own → Prop} (h : EvE B d env (eval (.BinOp l op r pos) env) loc own Q X) : EvE B d env (eval (.BinOp l op r pos) env) loc own Q X := h
theorem gT {t : Sem Bool} {Q : Bool → Own → Prop} (h : EvT B d env t loc own Q X) : EvT B d env t loc own Q X := h
theorem gS {t : Sem Flow} {R : AFlow → Loc → Own → Prop} (h : EvS B d env t loc own R X) : EvS B d env t loc own R X := h
theorem gC {x : AV} {t : Value → Sem Value} {Q : AV → Own → Prop} (h : EvC B d env x t loc own Q X) : EvC B d env x t loc own Q X := h
theorem gCT {x : AV} {t : Value → Sem Bool} {Q : Bool → Own → Prop} (h : EvCT B d env x t loc own Q X) : EvCT B d env x t loc own Q X := h
theorem gEs {t : Sem (List Value)} {Q : List AV → Own → Prop} (h : EvEs B d env t loc own Q X) : EvEs B d env t loc own Q X := h
theorem gcmp {op : Cp} {x y : AV} {P : Bool → Prop} (h : ∃ b, cmpV own op x y = some b ∧ P b) : ∃ b, cmpV own op x y = some b ∧ P b := h
theorem gisi {x : AV} {T : TyN} {P : Bool → Prop} (h : ∃ b, isiV own x T = some b ∧ P b) : ∃ b, isiV own x T = some b ∧ P b := h
theorem gbin {o : Bool} {op : Op} {x y : AV} {Q : AV → Own → Prop} (h : binS o op x y own Q) : binS o op x y own Q := h
theorem gsub {x y : AV} {Q : AV → Own → Prop} (h : subS x y own Q) : subS x y own Q := h
end
end Mine

namespace Mine
open PySem PySem.Spec
theorem upd_same {x : String} {v : AV} {loc : Loc} : (Loc.upd x v loc).lookup x = some v := by simp [Loc.lookup_upd]
theorem upd_other {x y : String} {v w : AV} {loc : Loc} (h : x ≠ y) (e : loc.lookup x = some w) : (Loc.upd y v loc).lookup x = some w := by simp [Loc.lookup_upd, h, e]
theorem rangeL_cons {a : Int} {n : Nat} : rangeL a (n + 1) = .int a :: rangeL (a + 1) n := by
  unfold rangeL
  rw [List.range_succ_eq_map, List.map_cons, List.map_map]
  congr 1
  · simp
  · refine List.map_congr_left fun i _ => ?_
    simp only [Function.comp, AV.int.injEq]; push_cast; omega
theorem rangeX_nil {a b : Int} (h : b ≤ a) : rangeX a b = [] := by
  unfold rangeX; rw [show (b - a).toNat = 0 by omega]; rfl
theorem rangeX_cons {a b : Int} (h : a < b) : rangeX a b = .int a :: rangeX (a + 1) b := by
  unfold rangeX; rw [show (b - a).toNat = (b - (a + 1)).toNat + 1 by omega, rangeL_cons]
theorem rangeX_eq {a b : Int} {x : AV} {r : List AV} (h : rangeX a b = x :: r) : a < b ∧ x = .int a ∧ r = rangeX (a + 1) b := by
  rcases Int.lt_or_le a b with h' | h'
  · rw [rangeX_cons h'] at h; cases h; exact ⟨h', rfl, rfl⟩
  · rw [rangeX_nil h'] at h; cases h
theorem rangeX_end {a b : Int} (h : rangeX a b = []) : b ≤ a := by
  rcases Int.lt_or_le a b with h' | h'
  · rw [rangeX_cons h'] at h; cases h
  · exact h'
theorem rangeX_length {a b : Int} : (rangeX a b).length = (b - a).toNat := by simp [rangeX, rangeL]
section
variable {B : Amb} {d : Nat} {env : Env} {loc : Loc} {mc : Str → Option Value} {f : Fz} {own : Own} {s : Shared} {A : Around} {X : XP}
theorem ev_append {o : Expr} {apos pos : Pos} {args : List Expr} {Q : AV → Own → Prop}
    (hbase : attributeBase o (Str.ofString "append") env (eval o env) = eval o env) (hp : (starEach args env).all (fun q => !q.1) = true) (hlen : args.length < 30) (hline : (apos.endLine == pos.line) = true)
    (h : EvE B d env (eval o env) loc own (fun x own₁ => ∃ a xs, x = .ref a ∧ own₁.lookup a = some (.list xs) ∧ EvEs B d env (spliced (backTo pos (starEach args env))) loc own₁ (fun ys own₂ => methS "append" (.ref a) ys own₂ Q) X) X) :
    EvE B d env (eval (.Call (.Attribute o (Str.ofString "append") apos) args [] pos) env) loc own Q X :=
  ev_meth F.slot_list_append (by rfl) hbase hp hlen hline (fun c r h => call_append c r h) h
theorem meth_at {a : Addr} {xs : List AV} {P : Addr → Prop} (ha : own.lookup a = some (.list xs)) (h : P a) : ∃ b ys, AV.ref a = .ref b ∧ own.lookup b = some (.list ys) ∧ P b := ⟨a, xs, rfl, ha, h⟩
theorem append_at {a : Addr} {xs : List AV} {v : AV} {Q : AV → Own → Prop} (ha : own.lookup a = some (.list xs)) (hl : xs.length ≤ 100000) (h : Q .none (own.put a (.list (xs ++ [v])))) : methS "append" (.ref a) [v] own Q := by
  simp only [methS, ha]; exact ⟨hl, h⟩
theorem put_head {a : Addr} {x y : AO} (h : a ∉ addrs own) : Own.put ((a, x) :: own) a y = (a, y) :: own := by
  unfold Own.put
  simp only [List.map_cons, if_true, List.cons.injEq, true_and]
  refine (List.map_congr_left fun p hp => ?_).trans (List.map_id _)
  have : p.1 ≠ a := fun e => h (e ▸ List.mem_map.mpr ⟨p, hp, rfl⟩)
  simp [this]
theorem del_head {a : Addr} {x : AO} (h : a ∉ addrs own) : Own.del ((a, x) :: own) a = own := by
  unfold Own.del
  simp only [List.filter_cons, ne_eq, not_true_eq_false, decide_false, Bool.false_eq_true, if_false]
  refine List.filter_eq_self.mpr fun p hp => ?_
  have : p.1 ≠ a := fun e => h (e ▸ List.mem_map.mpr ⟨p, hp, rfl⟩)
  simp [this]

theorem CallA.drop {a : Addr} {vs : List AV} {Q : AV → Own → Prop} {E : Addr → Own → Prop} (h : CallA B d a vs own (fun v o => ∃ o', List.Sublist o' o ∧ Q v o') E) : CallA B d a vs own Q E := fun A f s args ok i r =>
  codeAny_mono (h A f s args ok i r) fun res s' p => by
    cases res with
    | ok w => cases w with
      | ret v =>
        obtain ⟨f', own', x, st, i', r', o', hs, q⟩ := p
        refine ⟨f', o', x, { st with new := fun b hb => st.new b ((hs.map _).subset hb) }, ⟨i'.same, i'.base, i'.sub, fun p hp => i'.led p (hs.subset hp), (hs.map _).nodup i'.nodup⟩, r', q⟩
      | _ => exact p.elim
    | error e => exact p

noncomputable def sortD (o : Bool) (x : AV) (own : Own) (Q : AV → Own → Prop) : Prop := ∃ a es, x = .ref a ∧ own.lookup a = some (.dict es) ∧ (a == sysModules) = false ∧ es.length < 64 ∧ ∀ ns' : List Int, ns'.Perm (es.map (·.1)) → ns'.Pairwise (· ≤ ·) → mkL o (ns'.map AV.int) own Q
end
end Mine

namespace Mine
open PySem PySem.Spec
theorem sortedHeap_old {h : Heap} {a : Addr} {vs : List Value} {out : Array Value} {b : Addr} {o : Obj} (hb : b ≠ a) (e : h.get? b = some o) : (PyProof.Rows.sortedHeap h a vs out).get? b = some o := by
  unfold PyProof.Rows.sortedHeap
  rw [Heap.get?_update_other _ _ (Ne.symm hb)]
  refine Heap.get?_push_of_some _ (Heap.get?_push_of_some _ ?_)
  rw [Heap.get?_update_other _ _ (Ne.symm hb)]; exact e
theorem sortedHeap_at {h : Heap} {a : Addr} {vs xs : List Value} {n : Nat} {out : Array Value} (e : h.get? a = some (sq "list" xs n)) : ∃ m, (PyProof.Rows.sortedHeap h a vs out).get? a = some (sq "list" out.toList m) := by
  unfold PyProof.Rows.sortedHeap
  have h1 : (h.update a (Obj.mapSeq fun _ => #[])).get? a = some (PyProof.Rows.seqObj "list" #[] _) := PyProof.Rows.get?_update_seq e (fun _ => #[])
  have h2 := Heap.get?_push_of_some (PyProof.Rows.seqObj "list" #[] 0) (Heap.get?_push_of_some (PyProof.Rows.seqObj "tuple" vs.toArray 0) h1)
  have h3 := PyProof.Rows.get?_update_seq h2 (fun _ => out)
  exact ⟨_, h3⟩

section
variable {prog : Program} {w : World} {A : Around} {E : Value → Shared → Prop} {s : Shared}
theorem sorted_src {r : Value} {ns : List Int} {Q : Value → Shared → Prop} (h64 : ns.length < 64)
    (hcol : ∀ R : List Value → Shared → Prop, (∀ (s' : Shared) (acc : List Value), (∀ b o, s.heap.get? b = some o → s'.heap.get? b = some o) → (∃ h tk dr, s' = { s with heap := h, toks := tk, drawn := dr }) → PyProof.Rows.IntsAre acc ns → R acc s') → wpAny (model prog w) A.in1 (collect r) R E s)
    (h : ∀ (D : Addr) (s' : Shared) (out : List Value) (ns' : List Int) (m : Nat), s.heap.get? D = none → (∀ b o, s.heap.get? b = some o → s'.heap.get? b = some o) → (∃ h tk dr, s' = { s with heap := h, toks := tk, drawn := dr }) →
      s'.heap.get? D = some (sq "list" out m) → PyProof.Rows.IntsAre out ns' → ns'.Perm ns → ns'.Pairwise (· ≤ ·) → Q (.ref D) s') :
    wpAny (model prog w) A (call (.builtin "sorted") [r]) Q E s := by
  refine Calls.call_function_entry PyProof.Rows.kind_sorted PyProof.Rows.plain_sorted PyProof.Rows.entry_sorted (PyProof.Rows.args_sorted1 _) ?_
  unfold Builtin.«sorted»
  refine wpAny_bind (m := checkCount "sorted" 1 1 _) (wpAny_pure ?_)
  refine wpAny_bind (hcol _ fun s₁ acc hk hs hI => ?_)
  have hlen : acc.length = ns.length := hI.length
  refine wpAny_bind (wpAny_newList ?_ (by rw [hlen, sizeLine_is]; omega))
  have hoL : (s₁.heap.push (PyProof.Rows.seqObj "list" acc.toArray 0)).get? s₁.heap.objs.size = some (PyProof.Rows.seqObj "list" acc.toArray 0) := Heap.get?_push_size _ rfl
  have hnew : s.heap.get? s₁.heap.objs.size = none := by
    cases hq : s.heap.get? s₁.heap.objs.size with
    | none => rfl
    | some o => have h1 := hk _ _ hq; rw [get?_size] at h1; cases h1
  refine wpAny_bind (wpAny_holding (wpAny_call_entry PyProof.Rows.slot_list_sort (s := { s₁ with heap := s₁.heap.push (PyProof.Rows.seqObj "list" acc.toArray 0) }) ⟨_, hoL, rfl⟩ PyProof.Rows.entry_list_sort
    (PyProof.Rows.list_sort_tree hoL hI (by rw [hlen]; exact h64) fun out ns' a1 a2 a3 => ⟨_, rfl, ?_⟩) (PyProof.Rows.args_list_sort _)))
  obtain ⟨m, hm⟩ := sortedHeap_at (vs := acc) (out := out) hoL
  have hk2 : ∀ b o, s.heap.get? b = some o → (PyProof.Rows.sortedHeap (s₁.heap.push (PyProof.Rows.seqObj "list" acc.toArray 0)) s₁.heap.objs.size acc out).get? b = some o := by
    intro b o e
    refine sortedHeap_old (fun hb => ?_) (Heap.get?_push_of_some _ (hk b o e))
    rw [hb, hnew] at e; cases e
  have hs2 : ∃ h tk dr, ({ s₁ with heap := PyProof.Rows.sortedHeap (s₁.heap.push (PyProof.Rows.seqObj "list" acc.toArray 0)) s₁.heap.objs.size acc out } : Shared) = { s with heap := h, toks := tk, drawn := dr } := by
    obtain ⟨h0, tk, dr, e⟩ := hs
    exact ⟨_, tk, dr, by rw [e]⟩
  exact wpAny_pure ⟨_, rfl, h s₁.heap.objs.size { s₁ with heap := PyProof.Rows.sortedHeap (s₁.heap.push (PyProof.Rows.seqObj "list" acc.toArray 0)) s₁.heap.objs.size acc out } out.toList ns' m hnew hk2 hs2 hm a1 a2 a3⟩
end
section
variable {B : Amb} {d : Nat} {env : Env} {loc : Loc} {mc : Str → Option Value} {f : Fz} {own : Own} {s : Shared} {A : Around} {X : XP}
theorem Cfg.drawn (c : Cfg B env loc mc f own s) (dr : Drawn) : Cfg B env loc mc f own { s with drawn := dr } :=
  ⟨⟨let ⟨h, t, _, e⟩ := c.inv.same; ⟨h, t, dr, by rw [e]⟩, c.inv.base, c.inv.sub, c.inv.led, c.inv.nodup⟩, c.fra, c.rel, c.apart, c.cells⟩
theorem mkL_post' {o : Bool} {xs : List AV} {vs : List Value} {n : Nat} {a : Addr} {s' : Shared} {Q : AV → Own → Prop} (c : Cfg B env loc mc f own s) (hs : ∃ h tk dr, s' = { s with heap := h, toks := tk, drawn := dr })
    (k : ∀ b o, s.heap.get? b = some o → s'.heap.get? b = some o) (hn : s.heap.get? a = none) (ho : s'.heap.get? a = some (sq "list" vs n)) (r : RelVs f xs vs) (h : mkL o xs own Q) : PostE B env loc mc f own s Q (.ref a) s' := by
  obtain ⟨h', tk, dr, rfl⟩ := hs
  obtain ⟨f', own', x, st, c', r', q⟩ := mkL_post (Q := Q) (o := o) (c.drawn dr) tk k hn ho r h
  exact ⟨f', own', x, ⟨st.mono, st.newf, st.keep, st.new, st.live⟩, c', r', q⟩

theorem intKind_val {prog : Program} {w : World} {k : Int} {v : Value} (h : (intKind prog w).is k v = true) : ∃ t, v = Value.int k t := by
  cases v <;> simp [intKind, Value.isInt] at h
  rename_i i t; exact ⟨t, by rw [h]⟩
theorem intsAre_of {ns : List Int} : ∀ {vs : List Value}, vs.length = ns.length → (∀ (j : Nat) (v : Value), vs[j]? = some v → ∃ (k : Int) (t : Tok), ns[j]? = some k ∧ v = Value.int k t) → PyProof.Rows.IntsAre vs ns := by
  induction ns with
  | nil => intro vs hl _; cases vs with
    | nil => exact .nil
    | cons _ _ => simp at hl
  | cons n r ih =>
    intro vs hl h
    cases vs with
    | nil => simp at hl
    | cons v vs =>
      obtain ⟨k, t, hk, rfl⟩ := h 0 v rfl
      simp only [List.getElem?_cons_zero, Option.some.injEq] at hk
      subst hk
      exact .cons _ _ (ih (by simpa using hl) fun j v e => h (j + 1) v (by simpa using e))

theorem sortD_of {o : Bool} {x : AV} {a : Value} {Q : AV → Own → Prop} {E : Value → Shared → Prop} (hh : A.handled = none) (c : Cfg B env loc mc f own s) (hx : RelV f x a) (h : sortD o x own Q) :
    wpAny B.M A (call (.builtin "sorted") [a]) (PostE B env loc mc f own s Q) E s := by
  obtain ⟨l, es, rfl, hl, hns, h64, h⟩ := h
  simp only [RelV] at hx
  subst hx
  have hm := mem_of_lookup' hl
  obtain ⟨hfn, ob, ho, kvs, hd, hk, hr⟩ := c.inv.led _ hm
  obtain ⟨ep, hat⟩ := (Heap.dictOf_iff.mpr ⟨ob, ho, hd⟩).dictAt
  have hlen : kvs.length = es.length := by have := congrArg List.length hk; simpa using this
  refine sorted_src (ns := es.map (·.1)) (by simpa using h64) (fun R hR => ?_) fun D s' out ns' m hn kp hs hD hI hp hs' => ?_
  · refine W.kdu_collect (W.kdl_dict (knd := intKind B.prog B.w) (kvs := kvs) (ep := ep) hns) hh hat (by rw [sizeLine_is]; omega) fun h' tk acc kp hacc => ?_
    refine hR _ _ kp ⟨h', tk, s.drawn, rfl⟩ (intsAre_of (by rw [Array.length_toList, hacc.1, List.length_map, hlen]) fun j v e => ?_)
    obtain ⟨k, w, hkv, hi⟩ := hacc.2 j v (by rw [← Array.getElem?_toList]; exact e)
    obtain ⟨t, rfl⟩ := intKind_val hi
    refine ⟨k, t, ?_, rfl⟩
    rw [← hk, List.getElem?_map, hkv]; rfl
  · exact mkL_post' c hs kp hn hD (ints_rel hI) (h ns' hp hs')
theorem ev_sortedD {o : Bool} {np pos : Pos} {args : List Expr} {ns : List String} {Q : AV → Own → Prop} (G : Gl B ns) (he : EnvOk env) (hm : "sorted" ∈ ns) (hx : env.kindOf (Str.ofString "sorted") = some .globalImplicit) (hp : (starEach args env).all (fun q => !q.1) = true)
    (h : EvEs B d env (spliced (backTo pos (starEach args env))) loc own (fun xs own₁ => ∃ x, xs = [x] ∧ sortD o x own₁ Q) X) : EvE B d env (eval (.Call (.Name (Str.ofString "sorted") np) args [] pos) env) loc own Q X := by
  intro A mc f s ok c
  refine call_bltn G.base he hx (by decide) (G.mg _ hm) (G.mb ("sorted", .builtin "sorted") (by simp [blts])) hp ok c h (fun f₁ own₁ s₁ xs vs st c₁ r q => ?_) fun _ _ e => e
  obtain ⟨x, rfl, q⟩ := q
  simp only [RelVs] at r
  obtain ⟨v, r', rfl, hv, rfl⟩ := r
  exact wpAny_mono (sortD_of ok.handled c₁ hv q) (fun _ _ p => p.trans st) fun _ _ e => e
end
end Mine

namespace Mine
open PySem PySem.Spec
abbrev Rises (xs : Array Nat) : Prop := xs.toList.Pairwise (· < ·)
theorem Rises.lt {xs : Array Nat} (h : Rises xs) {i k : Nat} {a b : Nat} (hik : i < k) (ha : xs[i]? = some a) (hb : xs[k]? = some b) : a < b := by
  have h' := List.pairwise_iff_getElem.mp h
  obtain ⟨hi, rfl⟩ := Array.getElem?_eq_some_iff.mp ha
  obtain ⟨hk, rfl⟩ := Array.getElem?_eq_some_iff.mp hb
  have := h' i k (by simpa using hi) (by simpa using hk) hik
  simpa using this
theorem getD_some {xs : Array Nat} {i d a : Nat} (h : xs[i]? = some a) : xs.getD i d = a := by
  rw [Array.getD_eq_getD_getElem?, h]; rfl
theorem below_go (xs : Array Nat) (j : Nat) (hr : Rises xs) : ∀ (fuel lo hi : Nat), lo ≤ hi → hi ≤ xs.size → hi - lo ≤ fuel → (∀ i a, i < lo → xs[i]? = some a → a < j) → (∀ i a, hi ≤ i → xs[i]? = some a → j ≤ a) →
    (SetTable.below.go xs j fuel lo hi ≤ xs.size ∧ (∀ i a, i < SetTable.below.go xs j fuel lo hi → xs[i]? = some a → a < j) ∧ ∀ i a, SetTable.below.go xs j fuel lo hi ≤ i → xs[i]? = some a → j ≤ a)
  | 0, lo, hi, h1, h2, h3, h4, h5 => by
    have : lo = hi := by omega
    subst this
    unfold SetTable.below.go
    exact ⟨h2, h4, h5⟩
  | fuel + 1, lo, hi, h1, h2, h3, h4, h5 => by
    unfold SetTable.below.go
    split
    · rename_i hlt
      dsimp only
      have hm : (lo + hi) / 2 < xs.size := by omega
      obtain ⟨m, hmm⟩ : ∃ m, xs[(lo + hi) / 2]? = some m := ⟨_, Array.getElem?_eq_getElem hm⟩
      rw [getD_some hmm]
      split
      · rename_i hc
        refine below_go xs j hr fuel _ _ (by omega) h2 (by omega) (fun i a hi' ha => ?_) h5
        rcases Nat.lt_or_ge i ((lo + hi) / 2) with h | h
        · exact Nat.lt_trans (hr.lt h ha hmm) hc
        · have : i = (lo + hi) / 2 := by omega
          subst this; rw [hmm] at ha; cases ha; exact hc
      · rename_i hc
        refine below_go xs j hr fuel _ _ (by omega) (by omega) (by omega) h4 (fun i a hi' ha => ?_)
        rcases Nat.lt_or_ge ((lo + hi) / 2) i with h | h
        · have := hr.lt h hmm ha; omega
        · have : i = (lo + hi) / 2 := by omega
          subst this; rw [hmm] at ha; cases ha; omega
    · have : lo = hi := by omega
      subst this
      exact ⟨h2, h4, h5⟩
theorem below_spec {xs : Array Nat} (hr : Rises xs) (j : Nat) : SetTable.below xs j ≤ xs.size ∧ (∀ i a, i < SetTable.below xs j → xs[i]? = some a → a < j) ∧ ∀ i a, SetTable.below xs j ≤ i → xs[i]? = some a → j ≤ a :=
  below_go xs j hr xs.size 0 xs.size (Nat.zero_le _) (Nat.le_refl _) (by omega) (fun i a h => by omega) fun i a h e => by
    rw [Array.getElem?_eq_none h] at e; cases e
theorem below_first {xs : Array Nat} (hr : Rises xs) : SetTable.below xs 0 = 0 := by
  obtain ⟨h1, h2, _⟩ := below_spec hr 0
  cases h : SetTable.below xs 0 with
  | zero => rfl
  | succ n =>
    rw [h] at h1 h2
    obtain ⟨a, ha⟩ : ∃ a, xs[0]? = some a := ⟨_, Array.getElem?_eq_getElem (by omega)⟩
    exact absurd (h2 0 a (by omega) ha) (by omega)
theorem below_next {xs : Array Nat} (hr : Rises xs) {i a : Nat} (ha : xs[i]? = some a) : SetTable.below xs (a + 1) = i + 1 := by
  obtain ⟨h1, h2, h3⟩ := below_spec hr (a + 1)
  have hi : i < xs.size := (Array.getElem?_eq_some_iff.mp ha).1
  have hge : i < SetTable.below xs (a + 1) := by
    rcases Nat.lt_or_ge i (SetTable.below xs (a + 1)) with h | h
    · exact h
    · have := h3 i a h ha; omega
  rcases Nat.lt_or_ge (i + 1) (SetTable.below xs (a + 1)) with h | h
  · obtain ⟨b, hb⟩ : ∃ b, xs[i + 1]? = some b := ⟨_, Array.getElem?_eq_getElem (by omega)⟩
    have := h2 (i + 1) b h hb
    have := hr.lt (Nat.lt_succ_self i) ha hb
    omega
  · omega
theorem notMem_of_slot {t : SetTable} (hr : Rises t.place) {j : Nat} (h : t.place[SetTable.below t.place j]? ≠ some j) : j ∉ t.place.toList := by
  intro hm
  obtain ⟨i, hi⟩ := List.mem_iff_getElem?.mp hm
  rw [Array.getElem?_toList] at hi
  obtain ⟨_, h2, h3⟩ := below_spec hr j
  have hsz : i < t.place.size := (Array.getElem?_eq_some_iff.mp hi).1
  have hge : SetTable.below t.place j ≤ i := by
    rcases Nat.lt_or_ge i (SetTable.below t.place j) with h' | h'
    · have := h2 i j h' hi; omega
    · exact h'
  rcases Nat.lt_or_ge (SetTable.below t.place j) i with h' | h'
  · obtain ⟨b, hb⟩ : ∃ b, t.place[SetTable.below t.place j]? = some b := ⟨_, Array.getElem?_eq_getElem (by omega)⟩
    have := h3 _ b (Nat.le_refl _) hb
    have := hr.lt h' hb hi
    omega
  · have : SetTable.below t.place j = i := by omega
    rw [this] at h; exact h hi
theorem insert_rises {xs : Array Nat} (hr : Rises xs) {j : Nat} (hj : j ∉ xs.toList) : Rises (SetTable.insertAt xs (SetTable.below xs j) j) := by
  obtain ⟨h1, h2, h3⟩ := below_spec hr j
  unfold Rises
  rw [SetTable.toList_insertAt]
  have hr' : (xs.toList.take (SetTable.below xs j) ++ xs.toList.drop (SetTable.below xs j)).Pairwise (· < ·) := by rw [List.take_append_drop]; exact hr
  rw [List.pairwise_append] at hr' ⊢
  have hlt : ∀ a ∈ xs.toList.take (SetTable.below xs j), a < j := by
    intro a ha
    obtain ⟨i, hi⟩ := List.mem_iff_getElem?.mp ha
    rw [List.getElem?_take] at hi
    split at hi
    · rename_i hc; exact h2 i a hc (by rw [← Array.getElem?_toList]; exact hi)
    · cases hi
  have hgt : ∀ a ∈ xs.toList.drop (SetTable.below xs j), j < a := by
    intro a ha
    obtain ⟨i, hi⟩ := List.mem_iff_getElem?.mp ha
    rw [List.getElem?_drop] at hi
    have := h3 _ a (Nat.le_add_right _ i) (by rw [← Array.getElem?_toList]; exact hi)
    rcases Nat.lt_or_ge j a with h | h
    · exact h
    · have : a = j := by omega
      subst this; exact absurd (List.mem_of_mem_drop ha) hj
  refine ⟨hr'.1, List.pairwise_cons.mpr ⟨hgt, hr'.2.1⟩, fun a ha b hb => ?_⟩
  rcases List.mem_cons.mp hb with rfl | hb
  · exact hlt a ha
  · exact Nat.lt_trans (hlt a ha) (hgt b hb)

structure TabI (led : Bool) (n : Nat) (t : SetTable) : Prop where
  rise : Rises t.place
  dum : t.dummies = #[]
  ledIs : t.led = led
  fits : t.fits n = true
theorem has_nil (j : Nat) : SetTable.has #[] j = false := by simp [SetTable.has]
theorem probe_go {t : SetTable} (hd : t.dummies = #[]) (h : Int) : ∀ (fuel : Nat) (p : SetTable.Probe) (m : SetTable.Met), p.dummy = none → SetTable.probe.go t (fun _ => h + 1) h fuel p = some m → ∃ j, m = .empty j none ∧ t.slot j = .empty
  | 0, p, m, _, e => by simp [SetTable.probe.go] at e
  | fuel + 1, p, m, hp, e => by
    unfold SetTable.probe.go at e
    have hadv : ∀ p : SetTable.Probe, p.dummy = none → (t.advance p).dummy = none := by
      intro p hp; unfold SetTable.advance; split <;> exact hp
    cases hs : t.slot p.j with
    | empty => rw [hs] at e; simp only [Option.some.injEq] at e; subst e; exact ⟨p.j, by rw [hp], hs⟩
    | dummy =>
      exfalso
      unfold SetTable.slot at hs
      simp only [hd, has_nil, Bool.false_eq_true, if_false] at hs
      split at hs <;> cases hs
    | live i =>
      rw [hs] at e
      have hne : (h + 1 == h) = false := by simp; omega
      simp only [hne, Bool.false_eq_true, if_false] at e
      exact probe_go hd h fuel _ m (hadv p hp) e
theorem freeSlot_free {t : SetTable} (hd : t.dummies = #[]) {h : Int} {j : Nat} {b : Bool} (e : t.freeSlot h = some (j, b)) : t.slot j = .empty ∧ b = false := by
  unfold SetTable.freeSlot at e
  cases hp : t.probe (fun _ => h + 1) h (t.probeStart h) with
  | none => rw [hp] at e; cases e
  | some m =>
    obtain ⟨k, rfl, hk⟩ := probe_go hd h _ _ m rfl hp
    rw [hp] at e
    simp only [Option.getD_none, Option.isSome_none, Option.some.injEq, Prod.mk.injEq] at e
    obtain ⟨rfl, rfl⟩ := e
    exact ⟨hk, rfl⟩
theorem standIn_inv {led : Bool} {t : SetTable} (hl : t.led = led) (n : Nat) : TabI led n (t.standIn n) :=
  ⟨by unfold Rises SetTable.standIn; simp only [Array.toList_range]; exact List.pairwise_lt_range, rfl, hl, SetTable.standIn_fits t n⟩
theorem layNew_inv {led : Bool} {es : Array (Int × Value)} {t : SetTable} (I : TabI led es.size t) (h : Int) (x : Value) : TabI led (layNew t es h x).1.size (layNew t es h x).2.1 := by
  have hf := layNew_fits t es h x
  unfold layNew at hf ⊢
  cases hs : t.freeSlot h with
  | none =>
    simp only [hs] at hf ⊢
    have := standIn_inv (t := t) I.ledIs (es.size + 1)
    simpa using this
  | some q =>
    obtain ⟨j, b⟩ := q
    obtain ⟨hj, rfl⟩ := freeSlot_free I.dum hs
    simp only [hs] at hf ⊢
    unfold SetTable.orStandIn at hf ⊢
    split
    · rename_i hc
      refine ⟨?_, ?_, I.ledIs, hc⟩
      · refine insert_rises I.rise (notMem_of_slot I.rise fun e => ?_)
        unfold SetTable.slot at hj
        simp [e] at hj
      · simp [SetTable.put, I.dum, has_nil]
    · exact standIn_inv (t := (t.put j).1) I.ledIs _
theorem live_sub {β : Type} (g : Nat → Option β) : ∀ l : List Nat, List.Sublist ((l.filterMap fun j => (g j).map (j, ·)).map (·.1)) l
  | [] => by simp
  | j :: l => by
    rw [List.filterMap_cons]
    cases h : g j with
    | none => simp only [Option.map_none]; exact (live_sub g l).cons j
    | some b => simp only [Option.map_some, List.map_cons]; exact (live_sub g l).cons_cons j
theorem relayAll_inv {led : Bool} {es : Array (Int × Value)} {t : SetTable} (I : TabI led es.size t) (n : Nat) : TabI led (relayAll t es n).1.size (relayAll t es n).2.1 := by
  have hf := relayAll_fits t es n
  unfold relayAll at hf ⊢
  cases hr : t.relaid (es.map (·.1)) n with
  | none => simp only [hr] at hf ⊢; exact standIn_inv I.ledIs _
  | some q =>
    obtain ⟨t', order⟩ := q
    simp only [hr] at hf ⊢
    split
    · rename_i hc
      rw [if_pos hc] at hf
      unfold SetTable.relaid SetTable.laid at hr
      simp only [bind, Option.bind] at hr
      split at hr
      · cases hr
      · simp only [pure, Option.some.injEq, Prod.mk.injEq] at hr
        obtain ⟨rfl, rfl⟩ := hr
        refine ⟨?_, rfl, I.ledIs, hf⟩
        exact List.Pairwise.sublist (live_sub _ _) List.pairwise_lt_range
    · exact standIn_inv I.ledIs _
theorem TabI.fresh (led : Bool) : TabI led 0 (.fresh 0 0 led) := ⟨List.Pairwise.nil, rfl, rfl, rfl⟩
end Mine

namespace Mine
open PySem PySem.Spec
noncomputable def intOf : Value → Int
  | .int k _ => k
  | _ => 0
noncomputable def keysOf (es : List (Int × Value)) : List Int := es.map fun e => intOf e.2
section
variable {prog : Program} {w : World} {A : Around} {E : Value → Shared → Prop} {s : Shared}
noncomputable def SetX (prog : Program) (w : World) (led : Bool) (h : Heap) (a : Addr) (ks : List Int) (n : Nat) : Prop :=
  ∃ o es ep t, h.get? a = some o ∧ o.ExactSet ∧ o.data = .set es ep t ∧ ElemsOf (intKind prog w) es.toList ∧ TabI led es.size t ∧ es.size ≤ n ∧ (keysOf es.toList).Nodup ∧ ∀ k, k ∈ keysOf es.toList ↔ k ∈ ks
theorem SetX.at' {led : Bool} {h h' : Heap} {a : Addr} {ks : List Int} {n : Nat} (x : SetX prog w led h a ks n) (e : ∀ o, h.get? a = some o → h'.get? a = some o) : SetX prog w led h' a ks n :=
  let ⟨o, es, ep, t, ho, r⟩ := x; ⟨o, es, ep, t, e _ ho, r⟩
theorem key_mem {es : List (Int × Value)} (h : ElemsOf (intKind prog w) es) {k : Int} : k ∈ keysOf es ↔ ∃ e ∈ es, (intKind prog w).is k e.2 = true := by
  unfold keysOf
  rw [List.mem_map]
  constructor
  · rintro ⟨e, he, rfl⟩
    obtain ⟨⟨k', hk, _⟩, _⟩ := h e he
    obtain ⟨t, ht⟩ := intKind_val hk
    exact ⟨e, he, by rw [ht] at hk ⊢; exact hk⟩
  · rintro ⟨e, he, hk⟩
    obtain ⟨t, ht⟩ := intKind_val hk
    exact ⟨e, he, by rw [ht]; rfl⟩
theorem setStore {led : Bool} {h : Heap} {a : Addr} {o : Obj} {es : Array (Int × Value)} {ep : Nat} {t : SetTable} (ho : h.get? a = some o) (hex : o.ExactSet) (hd : o.data = .set es ep t) {es' : Array (Int × Value)} {t' : SetTable} {ks : List Int} {n : Nat}
    (hel : ElemsOf (intKind prog w) es'.toList) (I : TabI led es'.size t') (hn : es'.size ≤ n) (hnd : (keysOf es'.toList).Nodup) (hm : ∀ k, k ∈ keysOf es'.toList ↔ k ∈ ks) :
    (h.update a (Obj.putSet es' t')).get? a = some { o with data := .set es' (ep + 1) t' } ∧ SetX prog w led (h.update a (Obj.putSet es' t')) a ks n := by
  have hg : (h.update a (Obj.putSet es' t')).get? a = some { o with data := .set es' (ep + 1) t' } := by
    have := Heap.get?_update_self (Obj.putSet es' t') ho (by rw [putSet_of es' t' hd]; rfl)
    rw [putSet_of es' t' hd] at this; exact this
  exact ⟨hg, _, es', ep + 1, t', hg, hex, rfl, hel, I, hn, hnd, hm⟩

theorem setAdd_x {led : Bool} {a : Addr} {ks : List Int} {n : Nat} {k : Int} {tok : Tok} {Q : Bool → Shared → Prop} (hS : SetX prog w led s.heap a ks n) (hroom : n + 1 < scanBound)
    (h : ∀ b h', Heap.SameBut a s.heap h' → SetX prog w led h' a (k :: ks) (n + 1) → Q b { s with heap := h', toks := s.toks + 1 }) : wpAny (model prog w) A (setAdd a (.int k tok)) Q E s := by
  obtain ⟨o, es, ep, t, ho, hex, hd, hel, I, hsz, hnd, hm⟩ := hS
  have hb : es.size < scanBound := by omega
  unfold setAdd
  refine wpAny_holding (wpAny_bind ((intKind prog w).pyHash (k := k) (intKind_is _ _ _ _) ?_))
  unfold setAddHashed setAddHashedIn
  refine wpAny_holding (wpAny_bind (wpAny_setState_of (s := { s with toks := s.toks + 1 }) ho hd I.fits ?_))
  dsimp only
  rw [byScan_of (knd := intKind prog w) rfl hb hel]
  simp only [↓reduceIte]
  unfold setAddByScan
  refine wpAny_bind (wpAny_bind (wpAny_rule ?_))
  refine wpAny_bind (wpAny_setScan_of (knd := intKind prog w) (k := k) (intKind_is _ _ _ _) ho hd I.fits hel ?_)
  have hk := key_mem hel (k := k)
  cases hr : List.findIdx? (fun e => (intKind prog w).is k e.2) es.toList with
  | some j =>
    dsimp only
    obtain ⟨hj, hpj, _⟩ := List.findIdx?_eq_some_iff_getElem.mp hr
    have hin : k ∈ ks := (hm k).mp (hk.mpr ⟨_, List.getElem_mem hj, hpj⟩)
    refine wpAny_pure (wpAny_pure ?_)
    refine h _ s.heap (Heap.SameBut.refl a s.heap) ⟨o, es, ep, t, ho, hex, hd, hel, I, by omega, hnd, fun k' => ?_⟩
    rw [hm k', List.mem_cons]
    exact ⟨.inr, fun h => h.elim (fun e => e ▸ hin) id⟩
  | none =>
    dsimp only
    have hout : k ∉ keysOf es.toList := fun hc => by
      obtain ⟨e, he, hp⟩ := hk.mp hc
      have := List.findIdx?_eq_none_iff.mp hr e he
      rw [hp] at this; cases this
    have hperm := layNew_perm t es ((intKind prog w).hash k) (.int k tok)
    have I1 := layNew_inv I ((intKind prog w).hash k) (.int k tok)
    generalize hL : layNew t es ((intKind prog w).hash k) (.int k tok) = L at hperm I1 ⊢
    obtain ⟨es1, t1, wasDummy, gave⟩ := L
    dsimp only at hperm I1 ⊢
    rw [Array.toList_push] at hperm
    have hel1 : ElemsOf (intKind prog w) es1.toList := (hel.push (intKind_is _ _ _ _) rfl).perm hperm
    have hkeys : (keysOf es1.toList).Perm (keysOf es.toList ++ [k]) := by
      have := hperm.map fun e : Int × Value => intOf e.2
      simpa [keysOf, intOf] using this
    have hlen1 : es1.size = es.size + 1 := by
      have := hperm.length_eq
      simpa using this
    have hnd1 : (keysOf es1.toList).Nodup := hkeys.nodup_iff.mpr (List.nodup_append.mpr ⟨hnd, by simp, fun x hx y hy => by
      rw [List.mem_singleton] at hy; subst hy; exact fun e => hout (e ▸ hx)⟩)
    have hm1 : ∀ k', k' ∈ keysOf es1.toList ↔ k' ∈ k :: ks := fun k' => by
      rw [hkeys.mem_iff, List.mem_append, List.mem_singleton, List.mem_cons, hm k']; exact Or.comm
    have hgw : ∀ (b : Bool) {s₁ : Shared} {Q' : Unit → Shared → Prop}, Q' () s₁ → wpAny (model prog w) A (match b with | true => rule "set.scan.the-table-gave-way" | false => pure ()) Q' E s₁ :=
      fun b s₁ Q' hq => by cases b <;> first | exact wpAny_pure hq | exact wpAny_rule hq
    refine wpAny_bind (hgw _ ?_)
    have key : ∀ (t2 : SetTable), TabI led es1.size t2 → wpAny (model prog w) A (do
        storeSet a es1 t2
        if (!wasDummy && t2.tooFull) = true then do
            (match (relayAll t2 es1 (SetTable.grown es1.size)).2.2 with | true => rule "set.scan.the-table-gave-way" | false => pure ())
            storeSet a (relayAll t2 es1 (SetTable.grown es1.size)).1 (relayAll t2 es1 (SetTable.grown es1.size)).2.1
            pure (some true)
          else pure (some true)) (fun r s' => wpAny (model prog w) A (match r with | some added => pure added | none => setAddHashedIn a (.int k tok) ((intKind prog w).hash k) 99999) (fun b s'' => Q b s'') E s') E { s with toks := s.toks + 1 } := by
      intro t2 I2
      refine wpAny_bind (wpAny_storeSet_of (s := { s with toks := s.toks + 1 }) ho hd ?_ (fits_of_scanBound (by omega)))
      obtain ⟨ho1, hS1⟩ := setStore (prog := prog) (w := w) ho hex hd hel1 I2 (n := n + 1) (by omega) hnd1 hm1
      have hsb1 := Heap.SameBut.update s.heap a (Obj.putSet es1 t2)
      split
      · have hp := relayAll_perm t2 es1 (SetTable.grown es1.size)
        have I3 := relayAll_inv I2 (SetTable.grown es1.size)
        generalize hRl : relayAll t2 es1 (SetTable.grown es1.size) = Rl at hp I3 ⊢
        obtain ⟨es2, t3, gave2⟩ := Rl
        dsimp only at hp I3 ⊢
        have hsz2 : es2.size = es1.size := by have := hp.length_eq; simpa using this
        have hkp : (keysOf es2.toList).Perm (keysOf es1.toList) := hp.map _
        refine wpAny_bind (hgw _ ?_)
        refine wpAny_bind (wpAny_storeSet_of (s := { s with heap := s.heap.update a (Obj.putSet es1 t2), toks := s.toks + 1 }) ho1 rfl ?_ (fits_of_scanBound (by omega)))
        obtain ⟨_, hS2⟩ := setStore (prog := prog) (w := w) ho1 hex rfl (hel1.perm hp) I3 (n := n + 1) (by omega) (hkp.nodup_iff.mpr hnd1) fun k' => hkp.mem_iff.trans (hm1 k')
        exact wpAny_pure (wpAny_pure (h _ _ (hsb1.trans (Heap.SameBut.update _ a _)) hS2))
      · exact wpAny_pure (wpAny_pure (h _ _ hsb1 hS1))
    split
    · refine wpAny_bind ?_
      rw [hashByValue_scannable 8 rfl]
      refine wpAny_pure ?_
      simp only [plainKind, if_true]
      exact key t1 I1
    · refine wpAny_bind (wpAny_pure ?_)
      simp only [if_true]
      exact key t1 I1
end
end Mine

namespace Mine
open PySem PySem.Spec
section
variable {prog : Program} {w : World} {A : Around} {E : Value → Shared → Prop} {s : Shared} {R : Result → Shared → Prop}
theorem SetX.congr {led : Bool} {h : Heap} {a : Addr} {ks ks' : List Int} {n n' : Nat} (x : SetX prog w led h a ks n) (e : ∀ k, k ∈ ks ↔ k ∈ ks') (hn : n ≤ n') : SetX prog w led h a ks' n' :=
  let ⟨o, es, ep, t, ho, h1, h2, h3, h4, h5, h6, h7⟩ := x; ⟨o, es, ep, t, ho, h1, h2, h3, h4, by omega, h6, fun k => (h7 k).trans (e k)⟩

theorem update_loop {led : Bool} {I l S : Addr} {items : Array Value} {ns : List Int} (hh : A.handled = none) (hne : l ≠ I) (hSI : S ≠ I) (hSl : S ≠ l) (hI : PyProof.Rows.IntsAre items.toList ns) (hb : items.size + 1 < scanBound) :
    ∀ (k i : Nat) (s : Shared), items.size - i = k → i ≤ items.size → s.heap.IsListIter I l i → s.heap.IsList l items → SetX prog w led s.heap S (ns.take i) i →
      (∀ h' tk, (∀ b o, b ≠ S → b ≠ I → s.heap.get? b = some o → h'.get? b = some o) → SetX prog w led h' S ns items.size → R (.ok (.ret .none)) { s with heap := h', toks := tk }) →
      codeAny (model prog w) A (.builtin "set.update.loop" ⟨[.ref S, .ref I], []⟩) R s := by
  have W : Walks prog w A.in1 I [I, l] [I] items.size (fun i v => items[i]? = some v) (fun i h => h.IsListIter I l i ∧ h.IsList l items) := Walks.list (A := A.in1) hh I l hne items
  have hnl : ns.length = items.size := by have := hI.length; simpa using this.symm
  intro k
  induction k with
  | zero =>
    intro i s hk hi h1 h2 hS hR
    have hin : i = items.size := by omega
    subst hin
    refine codeAny_builtin PyProof.Rows.F.entry_set_update_loop ?_
    rw [Around.under_plainId PyProof.Rows.F.plain_set_update_loop _]
    show wpAny _ A.in1 (pyNext (.ref I) >>= _) _ _ s
    refine wpAny_bind (W.done s _ _ ⟨h1, h2⟩ fun h' tk kp => ?_)
    show wpAny _ A.in1 (ret Value.none) _ _ _
    refine wpAny_pure (hR h' tk (fun b o hb hbI e => kp b o (by simpa using hbI) e) ((hS.at' fun o e => kp S o (by simpa using hSI) e).congr (fun k => ?_) (Nat.le_refl _)))
    rw [List.take_of_length_le (by omega)]
  | succ k ih =>
    intro i s hk hi h1 h2 hS hR
    have hlt : i < items.size := by omega
    refine codeAny_builtin PyProof.Rows.F.entry_set_update_loop ?_
    rw [Around.under_plainId PyProof.Rows.F.plain_set_update_loop _]
    show wpAny _ A.in1 (pyNext (.ref I) >>= _) _ _ s
    refine wpAny_bind (W.item i s _ _ hlt ⟨h1, h2⟩ fun v h' tk hv st kp => ?_)
    obtain ⟨t, rfl⟩ := PyProof.Rows.IntsAre.int_at hI i v (by rw [Array.getElem?_toList]; exact hv)
    show wpAny _ A.in1 (holding [Value.int (ns.getD i 0) t] (setAdd S (.int (ns.getD i 0) t)) >>= _) _ _ _
    refine wpAny_bind (wpAny_holding ?_)
    have hS' : SetX prog w led h' S (ns.take i) i := hS.at' fun o e => kp S o (by simpa using hSI) e
    refine setAdd_x (s := { s with heap := h', toks := tk }) hS' (by omega) fun b h'' hsb hS2 => ?_
    refine wpAny_pure ⟨plainId_quiet PyProof.Rows.F.plain_set_update_loop _, ih (i + 1) _ (by omega) hlt ?_ ?_ (hS2.congr (fun k => ?_) (Nat.le_refl _)) fun h3 tk3 kp3 hS3 => ?_⟩
    · exact st.1.at fun o e => (hsb.2 I (Ne.symm hSI)).trans e
    · exact st.2.at fun o e => (hsb.2 l (Ne.symm hSl)).trans e
    · have hi' : i < ns.length := by omega
      rw [List.take_succ_eq_append_getElem hi', List.mem_append, List.mem_singleton, List.mem_cons]
      have : ns.getD i 0 = ns[i] := by simp [List.getD_eq_getElem?_getD, List.getElem?_eq_getElem hi']
      rw [this]; exact Or.comm
    · exact hR h3 tk3 (fun b o hb hbI e => kp3 b o hb hbI ((hsb.2 b hb).trans (kp b o (by simpa using hbI) e))) hS3

theorem set_new_1 (a : Value) {Q₁ : Value → Shared → Prop}
    (h : Q₁ (.ref s.heap.objs.size) { s with heap := s.heap.push { cls := .type "set", dict := none, data := .set #[] 0 (.fresh 0 0 (!w.params.followText "set-order")) } }) :
    codeAny (model prog w) A (.call (.builtin "set.__new__") ⟨[.type "set", a], []⟩) (wants Q₁ E) s := by
  refine codeAny_of_tree ?_
  show wpAny _ A.in1 (do checkBuiltinCall "set.__new__" ⟨[.type "set", a], []⟩; again (.builtin "set.__new__" ⟨[.type "set", a], []⟩)) _ _ s
  refine wpAny_bind (wpAny_of_eq (F.newCall_set_1 a) (wpAny_pure ⟨plainId_quiet F.plain_set_new _, codeAny_builtin F.entry_set_new ?_⟩))
  rw [Around.under_plainId F.plain_set_new _]
  unfold Builtin.«set.__new__» Builtin.Frozenset.newClass
  have hsub := sub_set_self
  obtain ⟨hp, g, d, tk, os⟩ := s
  dsimp only
  wp_walk
  refine wpAny_askSetting (wpAny_pure ?_)
  dsimp only
  simp only [newObj]
  refine wpAny_bind (wpAny_alloc (wpAny_pure ?_))
  exact wpAny_pure h
end
end Mine

namespace Mine
open PySem PySem.Spec
section
variable {prog : Program} {w : World} {A : Around} {E : Value → Shared → Prop} {s : Shared}
theorem call_setx {l : Addr} {items : Array Value} {ns : List Int} {Q : Value → Shared → Prop}
    (hh : A.handled = none) (hl : s.heap.IsList l items) (hi : PyProof.Rows.IntsAre items.toList ns) (hb : items.size + 1 < scanBound)
    (h : ∀ (h' : Heap) (tk : Nat), SetX prog w (!w.params.followText "set-order") h' s.heap.objs.size ns items.size → (∀ b o, s.heap.get? b = some o → h'.get? b = some o) → Q (.ref s.heap.objs.size) { s with heap := h', toks := tk }) :
    wpAny (model prog w) A (call (.type "set") [.ref l]) Q E s := by
  obtain ⟨c, tl, hmro⟩ := F.called_set.mro
  have hmade := F.called_set.made
  have hsub := F.called_set.sub
  refine wpAny_call (codeAny_of_tree ?_)
  show wpAny _ _ (callAny (.type "set") _) _ _ _
  refine wpAny_pure ⟨Code.quiet_builtin _ (by decide +kernel), codeAny_builtin F.entry_type_call ?_⟩
  rw [Around.under_plain (weight_type_call_type "set" [.ref l] []) rfl]
  have h1 := F.called_set.notType
  have h2 := F.called_set.canCreate
  have hct := F.typeCall_set_1 (.ref l)
  repeat (any_goals (first | assumption | wp_step))
  generalize hso : ({ cls := .type "set", dict := none, data := .set #[] 0 (.fresh 0 0 (!w.params.followText "set-order")) } : Obj) = so at *
  refine codeAny_mono (set_new_1 (.ref l) (E := E) (Q₁ := fun obj s₁ => obj = .ref s.heap.objs.size ∧ s₁ = { s with heap := s.heap.push so }) ⟨rfl, by rw [hso]⟩) fun r s₁ hr => ?_
  cases r with
  | error e => exact hr
  | ok fl =>
    cases fl with
    | ret obj =>
      obtain ⟨rfl, rfl⟩ := hr
      have hfr : so.isFreed = false := by rw [← hso]; rfl
      have hS : (s.heap.push so).get? s.heap.objs.size = some so := Heap.get?_push_size _ hfr
      have hT : Shared.TypeIs { s with heap := s.heap.push so } (.ref s.heap.objs.size) "set" := ⟨_, hS, by rw [← hso]⟩
      have hli := F.called_set.init.lookup
      have hbi := F.called_set.init.bind (.ref s.heap.objs.size)
      repeat (any_goals (first | assumption | wp_step))
      refine codeAny_mono (codeAny_call_builtin (R := wants (fun r s₂ => r = .none ∧ ∃ h' tk, s₂ = { s with heap := h', toks := tk } ∧
          SetX prog w (!w.params.followText "set-order") h' s.heap.objs.size ns items.size ∧ (∀ b o, s.heap.get? b = some o → h'.get? b = some o)) E) F.called_set.init.plain F.entry_set_init (check_set_init_1 hT ?_)) fun r₂ s₂ hr₂ => ?_
      · have hol := hl
        obtain ⟨ol, hol, hcl, nl, hdl⟩ := hol
        obtain ⟨ocls, odict, odata, oslots⟩ := ol
        simp only at hcl hdl
        subst hcl; subst hdl
        have hol' : (s.heap.push so).get? l = some { cls := .type "list", dict := odict, data := .seq items nl, slots := oslots } := Heap.get?_push_of_some _ hol
        have hsls := F.sub_list_set
        have hslf := F.sub_list_frozenset
        have hne : (Value.type "list" == Value.type "dict") = false := by decide
        have hl1 : (s.heap.push so).IsList l items := ⟨_, hol', rfl, nl, rfl⟩
        unfold Builtin.«set.__init__» noKeywords Builtin.Frozenset.updateFrom
        subst hso
        generalize hPI : pyIter = PI
        wp_walk
        subst hPI
        refine wpAny_pyIter_list hl1 ?_
        refine wpAny_bind (wpAny_runValue ?_)
        have hlS : l < s.heap.objs.size := Heap.lt_size hol
        have hszp : ∀ o : Obj, (s.heap.push o).objs.size = s.heap.objs.size + 1 := fun o => Heap.size_push ..
        refine update_loop (led := !w.params.followText "set-order") (by simp [hh]) (by rw [hszp]; exact Nat.ne_of_lt (Nat.lt_succ_of_lt hlS)) (by rw [hszp]; exact Nat.ne_of_lt (Nat.lt_succ_self _)) (Nat.ne_of_gt hlS) hi hb
          items.size 0 _ (by omega) (Nat.zero_le _) ⟨_, Heap.get?_push_size _ rfl, rfl, rfl⟩ (hl1.push _) ?_ fun h' tk kp hS' => ?_
        · exact ⟨_, #[], 0, _, Heap.get?_push_of_some _ hS, ⟨rfl, rfl, rfl⟩, rfl, fun e he => by simp at he, TabI.fresh _, by simp, by simp [keysOf], fun k => by simp [keysOf]⟩
        · show wpAny _ _ _ _ _ _
          refine wpAny_pure ?_
          show wpAny _ _ (ret Value.none) _ _ _
          refine wpAny_pure ⟨rfl, h', tk, rfl, hS', fun b o e => ?_⟩
          have hlt : b < s.heap.objs.size := Heap.lt_size e
          exact kp b o (Nat.ne_of_lt hlt) (by rw [hszp]; exact Nat.ne_of_lt (Nat.lt_succ_of_lt hlt)) (Heap.get?_push_of_some _ (Heap.get?_push_of_some _ e))
      · cases r₂ with
        | error e => exact hr₂
        | ok fl₂ =>
          cases fl₂ with
          | ret r =>
            obtain ⟨rfl, h', tk, rfl, hS', hk'⟩ := hr₂
            repeat (any_goals (first | assumption | wp_step))
            exact h _ _ hS' hk'
          | _ => exact hr₂.elim
    | _ => exact hr.elim
end
end Mine

namespace Mine
open PySem PySem.Spec
theorem slot_si_next : Slot "set_iterator" "__next__" "set_iterator.__next__" :=
  .of (owner := "set_iterator") (n := "__next__") (by rw [typeLookup_type, builtinLookup_eq_fast]; kernel_rfl) (by decide +kernel) (by decide +kernel) (by decide +kernel)
    (by first | exact .inl (by decide +kernel) | exact .inr (by decide +kernel)) (by rw [isSubtype_type]; kernel_rfl)
theorem entry_si_next : entryFor table "set_iterator.__next__" = some Builtin.«set_iterator.__next__» := entryFor_of_tree (by kernel_rfl)
theorem owner_si : Manifest.owners.lookup (String.ofList ['r', 'o', 't', 'a', 'r', 'e', 't', 'i', '_', 't', 'e', 's'].reverse) = some Manifest.sig_set_iterator := by kernel_rfl
theorem args_si_next (a : Value) : argsOk "set_iterator.__next__" ⟨[a], []⟩ := by
  unfold argsOk; rw [signature?_of (id := "set_iterator.__next__") (n := ['_', '_', 't', 'x', 'e', 'n', '_', '_']) (o := ['r', 'o', 't', 'a', 'r', 'e', 't', 'i', '_', 't', 'e', 's']) (by kernel_rfl) owner_si]; kernel_rfl
theorem slot_si_iter : Slot "set_iterator" "__iter__" "set_iterator.__iter__" :=
  .of (owner := "set_iterator") (n := "__iter__") (by rw [typeLookup_type, builtinLookup_eq_fast]; kernel_rfl) (by decide +kernel) (by decide +kernel) (by decide +kernel)
    (by first | exact .inl (by decide +kernel) | exact .inr (by decide +kernel)) (by rw [isSubtype_type]; kernel_rfl)
theorem entry_si_iter : entryFor table "set_iterator.__iter__" = some Builtin.«dict_keyiterator.__iter__» :=
  entryFor_alias (id' := "dict_keyiterator.__iter__") (by kernel_rfl) rfl (by decide +kernel) (by kernel_rfl)
theorem args_si_iter (a : Value) : argsOk "set_iterator.__iter__" ⟨[a], []⟩ := by
  unfold argsOk; rw [signature?_of (id := "set_iterator.__iter__") (n := ['_', '_', 'r', 'e', 't', 'i', '_', '_']) (o := ['r', 'o', 't', 'a', 'r', 'e', 't', 'i', '_', 't', 'e', 's']) (by kernel_rfl) owner_si]; kernel_rfl
theorem entry_set_iter : entryFor table "set.__iter__" = some Builtin.«frozenset.__iter__» :=
  entryFor_alias (id' := "frozenset.__iter__") (by kernel_rfl) rfl (by decide +kernel) (by kernel_rfl)

noncomputable def IsSetIt (h : Heap) (I : Addr) (first : Value) (i : Nat) (a : Addr) (n ep : Nat) : Prop :=
  ∃ o, h.get? I = some o ∧ o.cls = .type "set_iterator" ∧ o.data = .fields #[first, .int i 0, .ref a, .int n 0, .int ep 0]
theorem IsSetIt.at' {h h' : Heap} {I first i a n ep} (x : IsSetIt h I first i a n ep) (e : ∀ o, h.get? I = some o → h'.get? I = some o) : IsSetIt h' I first i a n ep := let ⟨o, ho, r⟩ := x; ⟨o, e _ ho, r⟩
theorem IsSetIt.typeIs {s : Shared} {I first i a n ep} (x : IsSetIt s.heap I first i a n ep) : s.TypeIs (.ref I) "set_iterator" := let ⟨o, ho, hc, _⟩ := x; ⟨o, ho, hc⟩
section
variable {prog : Program} {w : World} {A : Around} {E : Value → Shared → Prop} {s : Shared}
theorem setField_it {I a : Addr} {first x : Value} {i n ep k : Nat} {Q : Unit → Shared → Prop} {vs : Array Value} {o : Obj} (ho : s.heap.get? I = some o) (hc : o.cls = .type "set_iterator") (hd : o.data = .fields vs) (hk : k < vs.size)
    (h : ∀ h' o', h'.get? I = some o' → o'.cls = .type "set_iterator" → o'.data = .fields (vs.setIfInBounds k x) → Heap.SameBut I s.heap h' → Q () { s with heap := h' }) : wpAny (model prog w) A (setField (.ref I) k x) Q E s :=
  wpAny_setField ho hd hk (h _ _ (Heap.get?_update_self _ ho (Obj.isFreed_of_fields (Obj.data_mapFields hd _))) ((Obj.cls_mapFields ..).trans hc) (by rw [Obj.data_mapFields hd]) (Heap.SameBut.update ..))

theorem next_item {I a : Addr} {slot nx i ep : Nat} {x : Value} {o : Obj} {es : Array (Int × Value)} {t : SetTable} {Q : Option Value → Shared → Prop} (hit : IsSetIt s.heap I (.int slot 0) i a es.size ep)
    (ho : s.heap.get? a = some o) (hd : o.data = .set es ep t) (hf : t.fits es.size = true)
    (hnx : ∀ (A : Around) (E : Value → Shared → Prop) (Q : Option (Value × Nat) → Shared → Prop), Q (some (x, nx)) s → wpAny (model prog w) A (setNext a slot i ep) Q E s)
    (hQ : ∀ h', IsSetIt h' I (.int nx 0) (i + 1) a es.size ep → Heap.SameBut I s.heap h' → Q (some x) { s with heap := h' }) : wpAny (model prog w) A (pyNext (.ref I)) Q E s := by
  obtain ⟨oi, hoi, hci, hdi⟩ := id hit
  unfold pyNext
  refine wpAny_bind (wpAny_attempt (wpAny_callSpecial?_slot (name := Str.ofString "__next__") hit.typeIs slot_si_next (wpAny_call_entry slot_si_next hit.typeIs entry_si_next ?_ (args_si_next _))))
  show wpAny _ _ (fieldsOf (.ref I) >>= _) _ _ s
  refine wpAny_bind (wpAny_fieldsOf hoi hdi ?_)
  show wpAny _ _ (setEntries a >>= _) _ _ s
  refine wpAny_bind (wpAny_setEntries_of ho hd hf ?_)
  rw [if_neg (by simp)]
  show wpAny _ _ (setNext a slot i ep >>= _) _ _ s
  refine wpAny_bind (hnx _ _ _ ?_)
  dsimp only
  refine wpAny_bind (setField_it (i := i) (n := 0) (ep := ep) (a := a) (first := x) hoi hci hdi (by simp) fun h1 o1 ho1 hc1 hd1 sb1 => ?_)
  refine wpAny_bind (setField_it (i := i) (n := 0) (ep := ep) (a := a) (first := x) (s := { s with heap := h1 }) ho1 hc1 hd1 (by simp) fun h2 o2 ho2 hc2 hd2 sb2 => ?_)
  exact wpAny_pure ⟨_, rfl, wpAny_pure (hQ h2 ⟨o2, ho2, hc2, by rw [hd2]; simp [rawInt]⟩ (sb1.trans sb2))⟩
theorem stop_now {I : Addr} {h0 : Heap} {Q : Option Value → Shared → Prop} (hh : A.handled = none) (sb : Heap.SameBut I h0 s.heap) (hQ : ∀ h', Heap.ExtBut I h0 h' → Q none { s with heap := h' }) :
    wpAny (model prog w) A.in1 (do raiseNew (← newExc (.type "StopIteration") []) : Sem Fin) (fun _ _ => False) (fun e s' => wpAny (model prog w) A (do if ← isInstance e (.type "StopIteration") then pure none else throw e) Q E s') s := by
  refine wpAny_bind ?_
  simp only [newExc, newTuple]
  refine wpAny_bind (wpAny_newObj_type ?_ (by size_fits))
  refine wpAny_bind (m := firstArgMember _ _) (wpAny_of_eq (a := Value.none) (by first | rfl | (simp only [firstArgMember]; rfl)) ?_)
  refine wpAny_newObj_type ?_ (by size_fits)
  simp only [raiseNew]
  refine wpAny_bind (wpAny_handled ?_)
  rw [show A.in1.handled = none from hh]
  refine wpAny_bind (wpAny_pure (wpAny_throw ?_))
  refine wpAny_bind (wpAny_isInstance (T := "StopIteration") (b := true) ⟨_, Heap.get?_push_size _ rfl, rfl⟩ isSubtype_stop ?_)
  exact wpAny_pure (hQ _ ((sb.extBut.push _).push _))
end
end Mine

namespace Mine
open PySem PySem.Spec
section
variable {prog : Program} {w : World} {A : Around} {E : Value → Shared → Prop} {s : Shared}
theorem next_end {I a : Addr} {slot i ep : Nat} {o : Obj} {es : Array (Int × Value)} {t : SetTable} {Q : Option Value → Shared → Prop} (hh : A.handled = none) (hit : IsSetIt s.heap I (.int slot 0) i a es.size ep)
    (ho : s.heap.get? a = some o) (hd : o.data = .set es ep t) (hf : t.fits es.size = true)
    (hnx : ∀ (A : Around) (E : Value → Shared → Prop) (Q : Option (Value × Nat) → Shared → Prop), Q none s → wpAny (model prog w) A (setNext a slot i ep) Q E s)
    (hQ : ∀ h', Heap.ExtBut I s.heap h' → Q none { s with heap := h' }) : wpAny (model prog w) A (pyNext (.ref I)) Q E s := by
  obtain ⟨oi, hoi, hci, hdi⟩ := id hit
  unfold pyNext
  refine wpAny_bind (wpAny_attempt (wpAny_callSpecial?_slot (name := Str.ofString "__next__") hit.typeIs slot_si_next (wpAny_call_entry slot_si_next hit.typeIs entry_si_next ?_ (args_si_next _))))
  show wpAny _ _ (fieldsOf (.ref I) >>= _) _ _ s
  refine wpAny_bind (wpAny_fieldsOf hoi hdi ?_)
  show wpAny _ _ (setEntries a >>= _) _ _ s
  refine wpAny_bind (wpAny_setEntries_of ho hd hf ?_)
  rw [if_neg (by simp)]
  show wpAny _ _ (setNext a slot i ep >>= _) _ _ s
  refine wpAny_bind (hnx _ _ _ ?_)
  dsimp only
  refine wpAny_bind (setField_it (i := i) (n := 0) (ep := ep) (a := a) (first := .none) hoi hci hdi (by simp) fun h1 o1 ho1 hc1 hd1 sb1 => ?_)
  exact wpAny_mono (stop_now (s := { s with heap := h1 }) (E := E) (Q := Q) hh sb1 hQ) (fun _ _ h => h.elim) fun _ _ h => h
theorem nextD_item {I a P : Addr} {i ep p : Nat} {pt : Tok} {x : Value} {o : Obj} {es : Array (Int × Value)} {t : SetTable} {ps : List Value} {k : Int} {Q : Option Value → Shared → Prop} (hit : IsSetIt s.heap I (.ref P) i a es.size ep)
    (ho : s.heap.get? a = some o) (hd : o.data = .set es ep t) (hf : t.fits es.size = true) (hP : s.heap.get? P = some (sq "tuple" ps 0)) (hp : ps[i]? = some (.int p pt)) (hx : es[p]? = some (k, x))
    (hQ : ∀ h', IsSetIt h' I (.ref P) (i + 1) a es.size ep → Heap.SameBut I s.heap h' → Q (some x) { s with heap := h' }) : wpAny (model prog w) A (pyNext (.ref I)) Q E s := by
  obtain ⟨oi, hoi, hci, hdi⟩ := id hit
  unfold pyNext
  refine wpAny_bind (wpAny_attempt (wpAny_callSpecial?_slot (name := Str.ofString "__next__") hit.typeIs slot_si_next (wpAny_call_entry slot_si_next hit.typeIs entry_si_next ?_ (args_si_next _))))
  show wpAny _ _ (fieldsOf (.ref I) >>= _) _ _ s
  refine wpAny_bind (wpAny_fieldsOf hoi hdi ?_)
  show wpAny _ _ (setEntries a >>= _) _ _ s
  refine wpAny_bind (wpAny_setEntries_of ho hd hf ?_)
  rw [if_neg (by simp)]
  show wpAny _ _ (seqItems? (.ref P) >>= _) _ _ s
  refine wpAny_bind (wpAny_seqItems hP rfl ?_)
  have hpi : ps.toArray[(i : Int).toNat]? = some (.int p pt) := by simpa using hp
  dsimp only
  rw [hpi]
  show wpAny _ _ (setNextDrawn a p ep >>= _) _ _ s
  refine wpAny_bind ?_
  unfold setNextDrawn
  refine wpAny_bind (wpAny_setState_of ho hd hf ?_)
  dsimp only
  rw [if_neg (by simp)]
  rw [hx]
  refine wpAny_pure ?_
  refine wpAny_bind (setField_it (i := i) (n := 0) (ep := ep) (a := a) (first := x) hoi hci hdi (by simp) fun h1 o1 ho1 hc1 hd1 sb1 => ?_)
  exact wpAny_pure ⟨_, rfl, wpAny_pure (hQ h1 ⟨o1, ho1, hc1, by rw [hd1]; simp [rawInt]⟩ sb1)⟩
theorem nextD_end {I a P : Addr} {i ep : Nat} {o : Obj} {es : Array (Int × Value)} {t : SetTable} {ps : List Value} {Q : Option Value → Shared → Prop} (hh : A.handled = none) (hit : IsSetIt s.heap I (.ref P) i a es.size ep)
    (ho : s.heap.get? a = some o) (hd : o.data = .set es ep t) (hf : t.fits es.size = true) (hP : s.heap.get? P = some (sq "tuple" ps 0)) (hp : ps[i]? = none)
    (hQ : ∀ h', Heap.ExtBut I s.heap h' → Q none { s with heap := h' }) : wpAny (model prog w) A (pyNext (.ref I)) Q E s := by
  obtain ⟨oi, hoi, hci, hdi⟩ := id hit
  unfold pyNext
  refine wpAny_bind (wpAny_attempt (wpAny_callSpecial?_slot (name := Str.ofString "__next__") hit.typeIs slot_si_next (wpAny_call_entry slot_si_next hit.typeIs entry_si_next ?_ (args_si_next _))))
  show wpAny _ _ (fieldsOf (.ref I) >>= _) _ _ s
  refine wpAny_bind (wpAny_fieldsOf hoi hdi ?_)
  show wpAny _ _ (setEntries a >>= _) _ _ s
  refine wpAny_bind (wpAny_setEntries_of ho hd hf ?_)
  rw [if_neg (by simp)]
  show wpAny _ _ (seqItems? (.ref P) >>= _) _ _ s
  refine wpAny_bind (wpAny_seqItems hP rfl ?_)
  have hpi : ps.toArray[(i : Int).toNat]? = none := by simpa using hp
  dsimp only
  rw [hpi]
  dsimp only
  refine wpAny_bind (setField_it (i := i) (n := 0) (ep := ep) (a := a) (first := .none) hoi hci hdi (by simp) fun h1 o1 ho1 hc1 hd1 sb1 => ?_)
  refine wpAny_bind (setField_it (i := i) (n := 0) (ep := ep) (a := a) (first := .none) (s := { s with heap := h1 }) ho1 hc1 hd1 (by simp) fun h2 o2 ho2 hc2 hd2 sb2 => ?_)
  exact wpAny_mono (stop_now (s := { s with heap := h2 }) (E := E) (Q := Q) hh (sb1.trans sb2) hQ) (fun _ _ h => h.elim) fun _ _ h => h
theorem iter_self {I a : Addr} {first : Value} {i n ep : Nat} {Q : Value → Shared → Prop} (hit : IsSetIt s.heap I first i a n ep) (h : Q (.ref I) s) : wpAny (model prog w) A (pyIter (.ref I)) Q E s := by
  refine wpAny_pyIter_slot hit.typeIs slot_si_iter (wpAny_call_entry slot_si_iter hit.typeIs entry_si_iter ?_ (args_si_iter _))
  show wpAny _ _ (ret (.ref I)) _ _ s
  exact wpAny_pure ⟨_, rfl, "set_iterator", _, hit.typeIs, slot_si_next.lookup, h⟩

theorem erase_perm {α : Type} : ∀ {l : List α} {i : Nat} (h : i < l.length), List.Perm (l[i] :: l.eraseIdx i) l
  | x :: l, 0, _ => by simp
  | x :: l, i + 1, h => by
    have ih := erase_perm (l := l) (i := i) (by simpa using h)
    simp only [List.getElem_cons_succ, List.eraseIdx_cons_succ]
    exact (List.Perm.swap _ _ _).trans (ih.cons x)
theorem pick_go {α : Type} (next : Nat → Nat) : ∀ (fuel k : Nat) (left : List α) (out : Array α), left.length = fuel → List.Perm (pickOrder.go next fuel k left out).toList (out.toList ++ left)
  | 0, k, left, out, h => by
    have : left = [] := List.length_eq_zero_iff.mp h
    subst this; unfold pickOrder.go; simp
  | fuel + 1, k, left, out, h => by
    unfold pickOrder.go
    have hlt : next k % left.length < left.length := Nat.mod_lt _ (by omega)
    rw [List.getElem?_eq_getElem hlt]
    dsimp only
    refine (pick_go next fuel (k + 1) _ _ (by rw [List.length_eraseIdx_of_lt hlt]; omega)).trans ?_
    rw [Array.toList_push, List.append_assoc]
    refine List.Perm.append_left _ ?_
    exact erase_perm hlt
theorem pick_perm {α : Type} (next : Nat → Nat) (xs : Array α) : List.Perm (pickOrder next xs).toList xs.toList := by
  have := pick_go next xs.size 0 xs.toList #[] (by simp)
  simpa [pickOrder] using this

theorem wpAny_choose {M : Model} {src : Source} {n : Nat} {Q : Nat → Shared → Prop} (hn : n ≠ 0) (h : ∀ i, i < n → Q i { s with drawn := s.drawn.bump src }) : wpAny M A (choose src n) Q E s := by
  intro Γ p hΓ
  exact ⟨hn, h _ (Nat.mod_lt _ (by omega))⟩
theorem draw_order {M : Model} {α : Type} : ∀ (n : Nat) (xs : List α) (s : Shared) (Q : List α → Shared → Prop), xs.length = n → (∀ ys dr, ys.Perm xs → Q ys { s with drawn := dr }) → wpAny M A (drawOrder n xs) Q E s
  | 0, xs, s, Q, hn, h => by
    have : xs = [] := List.length_eq_zero_iff.mp hn
    subst this
    exact wpAny_pure (h [] s.drawn (.refl _))
  | n + 1, [], s, Q, hn, h => by simp at hn
  | n + 1, x :: xs, s, Q, hn, h => by
    show wpAny M A (do
      let i ← choose .order (x :: xs).length
      match (x :: xs)[i]? with
      | some x' => return x' :: (← drawOrder n ((x :: xs).eraseIdx i))
      | none => unsupported "internal:drawOrder") Q E s
    refine wpAny_bind (wpAny_choose (by simp) fun i hi => ?_)
    rw [List.getElem?_eq_getElem hi]
    dsimp only
    refine wpAny_bind (draw_order n _ _ _ (by rw [List.length_eraseIdx_of_lt hi]; omega) fun ys dr hp => wpAny_pure ?_)
    exact h _ dr ((hp.cons _).trans (erase_perm hi))
end
end Mine

namespace Mine
open PySem PySem.Spec
section
variable {prog : Program} {w : World} {A : Around} {E : Value → Shared → Prop} {s : Shared}
theorem wpAny_setsByText {Q : Bool → Shared → Prop} (h : Q (w.params.followText "set-order") s) : wpAny (model prog w) A setsByText Q E s := by
  unfold setsByText
  exact wpAny_bind (wpAny_askSetting (wpAny_pure h))
theorem setNext_text {a : Addr} {o : Obj} {es : Array (Int × Value)} {ep : Nat} {t : SetTable} {slot i : Nat} {Q : Option (Value × Nat) → Shared → Prop} (hb : w.params.followText "set-order" = true) (ho : s.heap.get? a = some o) (hd : o.data = .set es ep t) (hf : t.fits es.size = true)
    (h : Q (((pickOrder (w.params.setOrder a ep) es)[i]?).map fun e => (e.2, slot)) s) : wpAny (model prog w) A (setNext a slot i ep) Q E s := by
  unfold setNext
  refine wpAny_bind (wpAny_setState_of ho hd hf ?_)
  dsimp only
  refine wpAny_bind (wpAny_setsByText ?_)
  rw [hb]
  simp only [if_true]
  rw [if_neg (by simp)]
  refine wpAny_bind ?_
  unfold setWalk
  refine wpAny_bind (wpAny_setState_of ho hd hf ?_)
  dsimp only
  refine wpAny_bind (wpAny_setsByText ?_)
  rw [hb]
  simp only [if_true]
  refine wpAny_bind (wpAny_askSetting (wpAny_pure (wpAny_pure ?_)))
  exact h
theorem setNext_plain {a : Addr} {o : Obj} {es : Array (Int × Value)} {ep : Nat} {t : SetTable} {slot i : Nat} {Q : Option (Value × Nat) → Shared → Prop} (hb : w.params.followText "set-order" = false) (ho : s.heap.get? a = some o) (hd : o.data = .set es ep t) (hf : t.fits es.size = true)
    (hp : (!t.plain && decide (es.size > 1)) = false) (hl : t.led = true)
    (h : Q (match es[SetTable.below t.place slot]?, t.place[SetTable.below t.place slot]? with | some (_, x), some j => some (x, j + 1) | _, _ => none) s) : wpAny (model prog w) A (setNext a slot i ep) Q E s := by
  unfold setNext
  refine wpAny_bind (wpAny_setState_of ho hd hf ?_)
  dsimp only
  refine wpAny_bind (wpAny_setsByText ?_)
  rw [hb]
  simp only [Bool.false_eq_true, if_false]
  refine wpAny_ite_split (fun hc => ?_) (fun _ => ?_)
  · have hc' : (!t.plain && decide (es.size > 1)) = true := hc
    rw [hp] at hc'; cases hc'
  · have hm : ∀ {Q' : Unit → Shared → Prop}, Q' () s → wpAny (model prog w) A (do if (!t.led && !es.isEmpty) = true then unsupported "set:maker-not-led" : Sem Unit) Q' E s := by
      intro Q' hq
      rw [if_neg (by rw [hl]; simp)]
      exact wpAny_pure hq
    refine wpAny_bind (hm ?_)
    exact wpAny_pure h

theorem walks_text (hb : w.params.followText "set-order" = true) (hh : A.handled = none) {I a : Addr} (hne : a ≠ I) {o : Obj} {es : Array (Int × Value)} {ep : Nat} {t : SetTable} (hd : o.data = .set es ep t) (hf : t.fits es.size = true) :
    Walks prog w A I [I, a] [I] (pickOrder (w.params.setOrder a ep) es).toList.length (fun i v => ∃ e, (pickOrder (w.params.setOrder a ep) es).toList[i]? = some e ∧ v = e.2) (fun i h => (∃ slot : Nat, IsSetIt h I (.int slot 0) i a es.size ep) ∧ h.get? a = some o) where
  sub := fun b hb => by simp at hb; simp [hb]
  frame := fun i h h' st hk => ⟨let ⟨sl, x⟩ := st.1; ⟨sl, x.at' fun o e => hk I (by simp) o e⟩, hk a (by simp) _ st.2⟩
  item := fun i s Q E hi st hQ => by
    obtain ⟨⟨sl, hit⟩, ho⟩ := st
    obtain ⟨e, he⟩ : ∃ e, (pickOrder (w.params.setOrder a ep) es).toList[i]? = some e := ⟨_, List.getElem?_eq_getElem hi⟩
    refine next_item (nx := sl) (x := e.2) hit ho hd hf (fun A E Q h => setNext_text hb ho hd hf ?_) fun h' hit' sb => ?_
    · rw [← Array.getElem?_toList, he]; exact h
    · exact hQ e.2 h' s.toks ⟨e, he, rfl⟩ ⟨⟨sl, hit'⟩, (sb.2 a hne).trans ho⟩ fun b o' hb' e' => (sb.2 b (by simpa using hb')).trans e'
  done := fun s Q E st hQ => by
    obtain ⟨⟨sl, hit⟩, ho⟩ := st
    refine next_end hh hit ho hd hf (fun A E Q h => setNext_text hb ho hd hf ?_) fun h' he => hQ h' s.toks fun b o' hb' e' => he b o' (by simpa using hb') e'
    rw [← Array.getElem?_toList, List.getElem?_eq_none (Nat.le_refl _)]; exact h
  self := fun i s Q E st hQ => let ⟨⟨sl, hit⟩, _⟩ := st; iter_self hit hQ
noncomputable def slotAt (t : SetTable) : Nat → Nat
  | 0 => 0
  | i + 1 => t.place.getD i 0 + 1
theorem below_slotAt {t : SetTable} (hr : Rises t.place) {i : Nat} (hi : i ≤ t.place.size) : SetTable.below t.place (slotAt t i) = i := by
  cases i with
  | zero => exact below_first hr
  | succ i =>
    have hx : t.place[i]? = some (t.place[i]'(by omega)) := Array.getElem?_eq_getElem (by omega)
    simp only [slotAt, getD_some hx]
    exact below_next hr hx
theorem walks_plain (hb : w.params.followText "set-order" = false) (hh : A.handled = none) {I a : Addr} (hne : a ≠ I) {o : Obj} {es : Array (Int × Value)} {ep : Nat} {t : SetTable} (hd : o.data = .set es ep t) (T : TabI true es.size t) (hp : (!t.plain && decide (es.size > 1)) = false) :
    Walks prog w A I [I, a] [I] es.toList.length (fun i v => ∃ e, es.toList[i]? = some e ∧ v = e.2) (fun i h => IsSetIt h I (.int (slotAt t i : Nat) 0) i a es.size ep ∧ h.get? a = some o) := by
  have hsz : t.place.size = es.size := by
    have := T.fits
    simp only [SetTable.fits, Bool.and_eq_true, beq_iff_eq] at this
    exact this.1
  exact {
    sub := fun b hb => by simp at hb; simp [hb]
    frame := fun i h h' st hk => ⟨st.1.at' fun o e => hk I (by simp) o e, hk a (by simp) _ st.2⟩
    item := fun i s Q E hi st hQ => by
      obtain ⟨hit, ho⟩ := st
      have hi' : i < es.size := by simpa using hi
      have he : es[i]? = some es[i] := Array.getElem?_eq_getElem hi'
      have hpl : t.place[i]? = some (t.place[i]'(by omega)) := Array.getElem?_eq_getElem (by omega)
      refine next_item (nx := slotAt t (i + 1)) (x := (es[i]).2) hit ho hd T.fits (fun A E Q h => setNext_plain hb ho hd T.fits hp T.ledIs ?_) fun h' hit' sb => ?_
      · rw [below_slotAt T.rise (by omega), he, hpl]
        simp only [slotAt, getD_some hpl] at h
        exact h
      · exact hQ _ h' s.toks ⟨es[i], by rw [Array.getElem?_toList]; exact he, rfl⟩ ⟨hit', (sb.2 a hne).trans ho⟩ fun b o' hb' e' => (sb.2 b (by simpa using hb')).trans e'
    done := fun s Q E st hQ => by
      obtain ⟨hit, ho⟩ := st
      have hl : es.toList.length = es.size := by simp
      rw [hl] at hit
      refine next_end hh hit ho hd T.fits (fun A E Q h => setNext_plain hb ho hd T.fits hp T.ledIs ?_) fun h' he => hQ h' s.toks fun b o' hb' e' => he b o' (by simpa using hb') e'
      rw [below_slotAt T.rise (by omega), Array.getElem?_eq_none (Nat.le_refl _)]; exact h
    self := fun i s Q E st hQ => iter_self st.1 hQ }
theorem walks_drawn (hh : A.handled = none) {I a P : Addr} (hne : a ≠ I) (hPI : P ≠ I) {o : Obj} {es : Array (Int × Value)} {ep : Nat} {t : SetTable} (hd : o.data = .set es ep t) (hf : t.fits es.size = true) {ix : List Nat} (hix : ix.Perm (List.range es.size)) :
    Walks prog w A I [I, a, P] [I] (ix.filterMap (es[·]?)).length (fun i v => ∃ e, (ix.filterMap (es[·]?))[i]? = some e ∧ v = e.2) (fun i h => IsSetIt h I (.ref P) i a es.size ep ∧ h.get? a = some o ∧ h.get? P = some (sq "tuple" (ix.map fun (j : Nat) => rawInt j) 0)) := by
  have hlt : ∀ j ∈ ix, j < es.size := fun j hj => by simpa using hix.mem_iff.mp hj
  have hfm : ∀ (l : List Nat), (∀ j ∈ l, j < es.size) → ∀ i : Nat, (l.filterMap (es[·]?))[i]? = (l[i]?).bind (es[·]?) := by
    intro l
    induction l with
    | nil => intro _ i; simp
    | cons j l ih =>
      intro hl i
      have hj : es[j]? = some (es[j]'(hl j (by simp))) := Array.getElem?_eq_getElem _
      rw [List.filterMap_cons_some hj]
      cases i with
      | zero => simp [hj]
      | succ i => simpa using ih (fun k hk => hl k (by simp [hk])) i
  have hlen : (ix.filterMap (es[·]?)).length = ix.length := by
    have : ∀ l : List Nat, (∀ j ∈ l, j < es.size) → (l.filterMap (es[·]?)).length = l.length := by
      intro l
      induction l with
      | nil => intro _; rfl
      | cons j l ih =>
        intro hl
        have hj : es[j]? = some (es[j]'(hl j (by simp))) := Array.getElem?_eq_getElem _
        rw [List.filterMap_cons_some hj]
        simp [ih fun k hk => hl k (by simp [hk])]
    exact this ix hlt
  exact {
    sub := fun b hb => by simp at hb; simp [hb]
    frame := fun i h h' st hk => ⟨st.1.at' fun o e => hk I (by simp) o e, hk a (by simp) _ st.2.1, hk P (by simp) _ st.2.2⟩
    item := fun i s Q E hi st hQ => by
      obtain ⟨hit, ho, hP⟩ := st
      have hi' : i < ix.length := by omega
      have h1 : ix[i]? = some ix[i] := List.getElem?_eq_getElem hi'
      have h2 : es[ix[i]]? = some (es[ix[i]]'(hlt _ (List.getElem_mem hi'))) := Array.getElem?_eq_getElem _
      refine nextD_item (p := ix[i]) (pt := 0) (x := (es[ix[i]]'(hlt _ (List.getElem_mem hi'))).2) hit ho hd hf hP (by rw [List.getElem?_map, h1]; rfl) h2 fun h' hit' sb => ?_
      exact hQ _ h' s.toks ⟨_, by rw [hfm ix hlt i, h1]; exact h2, rfl⟩ ⟨hit', (sb.2 a hne).trans ho, (sb.2 P hPI).trans hP⟩ fun b o' hb' e' => (sb.2 b (by simpa using hb')).trans e'
    done := fun s Q E st hQ => by
      obtain ⟨hit, ho, hP⟩ := st
      rw [hlen] at hit
      exact nextD_end hh hit ho hd hf hP (by rw [List.getElem?_map, List.getElem?_eq_none (Nat.le_refl _)]; rfl) fun h' he => hQ h' s.toks fun b o' hb' e' => he b o' (by simpa using hb') e'
    self := fun i s Q E st hQ => iter_self st.1 hQ }
end
end Mine

namespace Mine
open PySem PySem.Spec
section
variable {prog : Program} {w : World} {A : Around} {E : Value → Shared → Prop} {s : Shared}
theorem iter_set {a : Addr} {ks : List Int} {n : Nat} {Q : Value → Shared → Prop} (hS : SetX prog w (!w.params.followText "set-order") s.heap a ks n) (hn : n ≤ 100000)
    (hQ : ∀ (I : Addr) (fp : List Addr) (L : List (Int × Value)) (St : Nat → Heap → Prop) (s₂ : Shared), (∀ A' : Around, A'.handled = none → Walks prog w A' I fp [I] L.length (fun i v => ∃ e, L[i]? = some e ∧ v = e.2) St) → St 0 s₂.heap →
      (∀ e ∈ L, ∃ t, e.2 = .int (intOf e.2) t) → (keysOf L).Nodup → (∀ k, k ∈ keysOf L ↔ k ∈ ks) → L.length ≤ n →
      (∀ b o, s.heap.get? b = some o → s₂.heap.get? b = some o) → (∃ h tk dr, s₂ = { s with heap := h, toks := tk, drawn := dr }) → (∀ b ∈ fp, b = a ∨ s.heap.get? b = none) → s.heap.get? I = none → Q (.ref I) s₂) :
    wpAny (model prog w) A (pyIter (.ref a)) Q E s := by
  obtain ⟨o, es, ep, t, ho, hex, hd, hel, T, hsz, hnd, hm⟩ := hS
  have hT : s.TypeIs (.ref a) "set" := ⟨o, ho, hex.1⟩
  have hints : ∀ {L : List (Int × Value)}, L.Perm es.toList → ∀ e ∈ L, ∃ t, e.2 = .int (intOf e.2) t := fun hp e he => by
    obtain ⟨⟨k, hk, _⟩, _⟩ := hel e (hp.mem_iff.mp he)
    obtain ⟨t, ht⟩ := intKind_val hk
    exact ⟨t, by rw [ht]; rfl⟩
  have hkp : ∀ {L : List (Int × Value)}, L.Perm es.toList → (keysOf L).Perm (keysOf es.toList) := fun hp => hp.map _
  have hll : ∀ {L : List (Int × Value)}, L.Perm es.toList → L.length ≤ n := fun hp => by have := hp.length_eq; simp at this; omega
  have hnew := get?_size s.heap
  have hlt : a < s.heap.objs.size := Heap.lt_size ho
  refine wpAny_pyIter_slot hT F.slot_set_iter (wpAny_call_entry F.slot_set_iter hT entry_set_iter ?_ (F.args_set_iter_1 _))
  show wpAny _ _ (Builtin.Frozenset.sizeOf a >>= _) _ _ s
  refine wpAny_bind ?_
  unfold Builtin.Frozenset.sizeOf
  refine wpAny_bind (wpAny_setEntries_of ho hd T.fits (wpAny_pure ?_))
  refine wpAny_bind ?_
  unfold setDrawn
  refine wpAny_bind (wpAny_setState_of ho hd T.fits ?_)
  dsimp only
  refine wpAny_bind (wpAny_setsByText (wpAny_pure ?_))
  refine wpAny_ite_split (fun hc => ?_) (fun hc => ?_)
  · -- drawn
    refine wpAny_bind (draw_order es.size (List.range es.size) s _ (by simp) fun ix dr hix => ?_)
    refine wpAny_bind (wpAny_newTuple (s := { s with drawn := dr }) ?_ (by have := hix.length_eq; simp at this; rw [List.length_map, this, sizeLine_is]; omega))
    have hk1 : ∀ b ob, s.heap.get? b = some ob → (s.heap.push (sq "tuple" (ix.map fun (j : Nat) => rawInt j) 0)).get? b = some ob := fun b ob e => Heap.get?_push_of_some _ e
    refine wpAny_bind (wpAny_setEpoch_of (s := { s with heap := s.heap.push (sq "tuple" (ix.map fun (j : Nat) => rawInt j) 0), drawn := dr }) (hk1 _ _ ho) hd T.fits ?_)
    refine wpAny_bind (wpAny_newObj_type (wpAny_pure ⟨_, rfl, "set_iterator", _, ⟨_, Heap.get?_push_size _ rfl, rfl⟩, slot_si_next.lookup, ?_⟩))
    have hsz1 : (s.heap.push (sq "tuple" (ix.map fun (j : Nat) => rawInt j) 0)).objs.size = s.heap.objs.size + 1 := Heap.size_push ..
    have hperm : (ix.filterMap (es[·]?)).Perm es.toList := (hix.filterMap _).trans (by rw [filterMap_getElem?_range])
    have hIn : s.heap.get? (s.heap.push (sq "tuple" (ix.map fun (j : Nat) => rawInt j) 0)).objs.size = none := by
      rw [hsz1]
      cases hq : s.heap.get? (s.heap.objs.size + 1) with
      | none => rfl
      | some ob => have : @LT.lt Nat instLTNat (s.heap.objs.size + 1) s.heap.objs.size := Heap.lt_size hq; omega
    refine hQ _ _ (ix.filterMap (es[·]?)) _ _ (fun A' hh => walks_drawn (P := s.heap.objs.size) hh ?_ ?_ hd T.fits hix) ⟨⟨_, Heap.get?_push_size _ rfl, rfl, by simp [rawInt]⟩, Heap.get?_push_of_some _ (hk1 _ _ ho), Heap.get?_push_of_some _ (Heap.get?_push_size _ rfl)⟩
      (hints hperm) ((hkp hperm).nodup_iff.mpr hnd) (fun k => (hkp hperm).mem_iff.trans (hm k)) (hll hperm) (fun b ob e => Heap.get?_push_of_some _ (hk1 _ _ e)) ⟨_, s.toks, dr, rfl⟩ (fun b hb => ?_) hIn
    · exact Nat.ne_of_lt (by rw [hsz1]; exact Nat.lt_succ_of_lt hlt)
    · exact Nat.ne_of_lt (by rw [hsz1]; exact Nat.lt_succ_self _)
    · simp only [List.mem_cons, List.not_mem_nil, or_false] at hb
      rcases hb with rfl | rfl | rfl
      · exact .inr hIn
      · exact .inl rfl
      · exact .inr hnew
  · refine wpAny_bind (wpAny_pure ?_)
    refine wpAny_bind (wpAny_setEpoch_of ho hd T.fits ?_)
    refine wpAny_bind (wpAny_newObj_type (wpAny_pure ⟨_, rfl, "set_iterator", _, ⟨_, Heap.get?_push_size _ rfl, rfl⟩, slot_si_next.lookup, ?_⟩))
    have hfp : ∀ b ∈ [s.heap.objs.size, a], b = a ∨ s.heap.get? b = none := fun b hb => by
      simp only [List.mem_cons, List.not_mem_nil, or_false] at hb
      rcases hb with rfl | rfl
      · exact .inr hnew
      · exact .inl rfl
    have hne : a ≠ s.heap.objs.size := Nat.ne_of_lt hlt
    cases hb : w.params.followText "set-order" with
    | true =>
      have hperm := pick_perm (w.params.setOrder a ep) es
      exact hQ _ _ _ _ _ (fun A' hh => walks_text hb hh hne hd T.fits) ⟨⟨0, _, Heap.get?_push_size _ rfl, rfl, by simp [rawInt]⟩, Heap.get?_push_of_some _ ho⟩
        (hints hperm) ((hkp hperm).nodup_iff.mpr hnd) (fun k => (hkp hperm).mem_iff.trans (hm k)) (hll hperm) (fun b ob e => Heap.get?_push_of_some _ e) ⟨_, s.toks, s.drawn, rfl⟩ hfp hnew
    | false =>
      have hp : (!t.plain && decide (es.size > 1)) = false := by
        have hc' : ¬ ((!w.params.followText "set-order" && (!t.plain && decide (es.size > 1))) = true) := hc
        rw [hb] at hc'; simpa using hc'
      rw [hb] at T
      exact hQ _ _ _ _ _ (fun A' hh => walks_plain hb hh hne hd T hp) ⟨⟨_, Heap.get?_push_size _ rfl, rfl, by simp [rawInt, slotAt]⟩, Heap.get?_push_of_some _ ho⟩
        (hints (.refl _)) hnd hm (hll (.refl _)) (fun b ob e => Heap.get?_push_of_some _ e) ⟨_, s.toks, s.drawn, rfl⟩ hfp hnew
theorem hint_set {r : Addr} {Q : Bool → Shared → Prop} (hT : s.TypeIs (.ref r) "set") (h : Q false s) : wpAny (model prog w) A (Builtin.List.listLengthHint (.ref r)) Q E s := by
  unfold Builtin.List.listLengthHint
  refine wpAny_bind (wpAny_specialOf hT F.slot_set_len.lookup ?_)
  generalize hid : ("set.__len__" : String) = id0
  wp_delta
  rw [show splitId id0 = some ("set", "__len__") from by subst hid; decide +kernel]
  subst hid
  refine wpAny_bind (wpAny_isInstance (T := "set") (b := true) hT sub_set_self ?_)
  refine wpAny_ite_split (fun hab => absurd hab (by decide)) (fun _ => ?_)
  refine wpAny_ite_split (fun _ => ?_) (fun hab => absurd (by decide +kernel) hab)
  refine wpAny_bind (wpAny_typeOf hT ?_)
  exact wpAny_pure h
end
end Mine

namespace Mine
open PySem PySem.Spec
section
variable {prog : Program} {w : World} {A : Around} {E : Value → Shared → Prop} {s : Shared}
theorem intsAre_keys : ∀ {L : List (Int × Value)}, (∀ e ∈ L, ∃ t, e.2 = .int (intOf e.2) t) → PyProof.Rows.IntsAre (L.map (·.2)) (keysOf L)
  | [], _ => .nil
  | e :: L, h => by
    obtain ⟨t, ht⟩ := h e (by simp)
    have ih := intsAre_keys (L := L) fun x hx => h x (by simp [hx])
    simp only [keysOf, List.map_cons] at ih ⊢
    rw [ht]
    exact .cons _ _ ih
theorem collect_set {a : Addr} {ks : List Int} {n : Nat} {R : List Value → Shared → Prop} (hh : A.handled = none) (hS : SetX prog w (!w.params.followText "set-order") s.heap a ks n) (hn : n ≤ 100000)
    (h : ∀ (s' : Shared) (acc : List Value) (ns : List Int), (∀ b o, s.heap.get? b = some o → s'.heap.get? b = some o) → (∃ h tk dr, s' = { s with heap := h, toks := tk, drawn := dr }) → PyProof.Rows.IntsAre acc ns → ns.Nodup → (∀ k, k ∈ ns ↔ k ∈ ks) → ns.length ≤ n → R acc s') :
    wpAny (model prog w) A (collect (.ref a)) R E s := by
  have hTo : ∃ o, s.heap.get? a = some o ∧ o.cls = .type "set" := let ⟨o, es, ep, t, ho, hex, _⟩ := hS; ⟨o, ho, hex.1⟩
  obtain ⟨oa, hoa, hca⟩ := hTo
  have hlt : a < s.heap.objs.size := Heap.lt_size hoa
  unfold collect
  refine wpAny_bind (wpAny_runValue (codeAny_builtin F.entry_proto_collect ?_))
  rw [Around.under_plainId F.plain_proto_collect _]
  show wpAny _ A.in1 (newList [] >>= fun l => again (.builtin "list.__iadd__" ⟨[l, .ref a], []⟩)) _ _ s
  refine wpAny_bind (wpAny_newObj_type ?_)
  refine wpAny_pure ⟨plainId_quiet F.plain_list_iadd _, codeAny_builtin F.entry_list_iadd ?_⟩
  rw [Around.under_plainId F.plain_list_iadd _]
  generalize hlo : ({ cls := .type "list", data := .seq ([] : List Value).toArray } : Obj) = lo
  have hfr : lo.isFreed = false := by rw [← hlo]; rfl
  have hk1 : ∀ b o, s.heap.get? b = some o → (s.heap.push lo).get? b = some o := fun b o e => Heap.get?_push_of_some _ e
  have hSl : (s.heap.push lo).get? s.heap.objs.size = some lo := Heap.get?_push_size _ hfr
  have hne : s.heap.objs.size ≠ a := fun e => Nat.lt_irrefl _ (e ▸ hlt)
  show wpAny _ A.in1 (Builtin.List.listExtendWith (.ref s.heap.objs.size) (.ref a) (.ref s.heap.objs.size)) _ _ _
  unfold Builtin.List.listExtendWith
  refine wpAny_bind (wpAny_typeOf (T := "set") ⟨oa, hk1 _ _ hoa, hca⟩ ?_)
  have h1 : Builtin.List.listSameRef (.ref s.heap.objs.size) (.ref a) = false := by simp [Builtin.List.listSameRef, hne]
  have h2 : (Value.type "set" == Value.type "list") = false := by decide
  have h3 : (Value.type "set" == Value.type "tuple") = false := by decide
  simp only [h1, h2, h3, Bool.or_false, Bool.false_eq_true, if_false]
  refine wpAny_bind (iter_set (s := { s with heap := s.heap.push lo }) (hS.at' fun o e => hk1 _ _ e) hn fun I fp L St s₂ W st hint hnd hm hl hk2 hs2 hfp hI => ?_)
  have hSf : s.heap.objs.size ∉ fp := fun hc => by
    rcases hfp _ hc with e | e
    · exact hne e
    · rw [hSl] at e; cases e
  have hS2 := hk2 _ _ hSl
  refine wpAny_bind (wpAny_holding (hint_set ⟨oa, hk2 _ _ (hk1 _ _ hoa), hca⟩ ?_))
  obtain ⟨hp2, tk2, dr2, rfl⟩ := hs2
  dsimp only at st hk2 hS2
  subst hlo
  show wpAny _ A.in1 (rule "list.extend.makes-room" >>= fun _ => Builtin.List.listTouch (.ref s.heap.objs.size) >>= fun _ =>
    again (.builtin "list.extend.loop" ⟨[.ref s.heap.objs.size, .ref I, .ref s.heap.objs.size], []⟩)) _ _ _
  refine wpAny_bind (wpAny_rule ?_)
  refine wpAny_bind ?_
  show wpAny _ A.in1 (updateSeq s.heap.objs.size (·.push .none) >>= fun _ => updateSeq s.heap.objs.size (·.pop)) _ _ _
  refine wpAny_bind (wpAny_updateSeq hS2 rfl ?_)
  have hS3 := Heap.get?_update_self (Obj.mapSeq (·.push Value.none)) hS2 rfl
  refine wpAny_updateSeq hS3 rfl ?_
  have hS4 := Heap.get?_update_self (Obj.mapSeq (·.pop)) hS3 rfl
  have oth : ∀ b o, b ≠ s.heap.objs.size → hp2.get? b = some o → ((hp2.update s.heap.objs.size (Obj.mapSeq (·.push Value.none))).update s.heap.objs.size (Obj.mapSeq (·.pop))).get? b = some o :=
    fun b o hb e => (Heap.get?_update_other _ _ (Ne.symm hb)).trans ((Heap.get?_update_other _ _ (Ne.symm hb)).trans e)
  have W1 := (W A.in1 hh).toS
  refine wpAny_pure ⟨plainId_quiet F.plain_extend_loop _, codeAny_extend_loopS W1 (by rw [sizeLine_is]; omega) _ hSf _ L.length 0 _ _ _ rfl (Nat.zero_le _)
    ((W A.in1 hh).frame 0 _ _ st fun b hb o e => oth b o (fun hc => hSf (hc ▸ hb)) e) hS4 (ItemsOf.nil _) fun s' acc' c' hm' hS' hacc => ?_⟩
  show wpAny _ A (load s.heap.objs.size >>= _) _ _ s'
  refine wpAny_bind (wpAny_load hS' ?_)
  refine wpAny_pure (h s' acc'.toList (keysOf L) (fun b o e => ?_) ?_ ?_ hnd hm (by simp [keysOf]; exact hl))
  · have hb : b ≠ s.heap.objs.size := Nat.ne_of_lt (Heap.lt_size e)
    refine hm'.heap b o (fun hc => ?_) (oth b o hb (hk2 _ _ (hk1 _ _ e)))
    rcases List.mem_cons.mp hc with e' | hc
    · exact hb e'
    · rw [List.mem_singleton] at hc
      have := hk1 _ _ e
      rw [hc, hI] at this; cases this
  · obtain ⟨h', g', d', tk', os'⟩ := s'
    have eg : g' = s.gens := hm'.gens
    have ed : d' = dr2 := hm'.drawn
    have eo : os' = s.os := hm'.os
    subst eg; subst ed; subst eo
    exact ⟨h', tk', _, rfl⟩
  · have e : acc'.toList = L.map (·.2) := by
      apply List.ext_getElem?
      intro i
      rw [Array.getElem?_toList, List.getElem?_map]
      rcases Nat.lt_or_ge i acc'.size with hi | hi
      · obtain ⟨e, he, hv⟩ := hacc.2 i _ (Array.getElem?_eq_getElem hi)
        rw [Array.getElem?_eq_getElem hi, he, hv]; rfl
      · rw [Array.getElem?_eq_none hi, List.getElem?_eq_none (by rw [← hacc.1]; exact hi)]; rfl
    rw [e]; exact intsAre_keys hint
end
end Mine

namespace Mine
open PySem PySem.Spec
section
variable {prog : Program} {w : World} {A : Around} {E : Value → Shared → Prop} {s : Shared}
theorem sorted_srcC {r : Value} (C : List Int → Prop) {Q : Value → Shared → Prop} (h64 : ∀ ns, C ns → ns.length < 64)
    (hcol : ∀ R : List Value → Shared → Prop, (∀ (s' : Shared) (acc : List Value) (ns : List Int), C ns → (∀ b o, s.heap.get? b = some o → s'.heap.get? b = some o) → (∃ h tk dr, s' = { s with heap := h, toks := tk, drawn := dr }) → PyProof.Rows.IntsAre acc ns → R acc s') → wpAny (model prog w) A.in1 (collect r) R E s)
    (h : ∀ (D : Addr) (s' : Shared) (out : List Value) (ns ns' : List Int) (m : Nat), C ns → s.heap.get? D = none → (∀ b o, s.heap.get? b = some o → s'.heap.get? b = some o) → (∃ h tk dr, s' = { s with heap := h, toks := tk, drawn := dr }) →
      s'.heap.get? D = some (sq "list" out m) → PyProof.Rows.IntsAre out ns' → ns'.Perm ns → ns'.Pairwise (· ≤ ·) → Q (.ref D) s') :
    wpAny (model prog w) A (call (.builtin "sorted") [r]) Q E s := by
  refine Calls.call_function_entry PyProof.Rows.kind_sorted PyProof.Rows.plain_sorted PyProof.Rows.entry_sorted (PyProof.Rows.args_sorted1 _) ?_
  unfold Builtin.«sorted»
  refine wpAny_bind (m := checkCount "sorted" 1 1 _) (wpAny_pure ?_)
  refine wpAny_bind (hcol _ fun s₁ acc ns hC hk hs hI => ?_)
  have hlen : acc.length = ns.length := hI.length
  refine wpAny_bind (wpAny_newList ?_ (by have := h64 ns hC; rw [hlen, sizeLine_is]; omega))
  have hoL : (s₁.heap.push (PyProof.Rows.seqObj "list" acc.toArray 0)).get? s₁.heap.objs.size = some (PyProof.Rows.seqObj "list" acc.toArray 0) := Heap.get?_push_size _ rfl
  have hnew : s.heap.get? s₁.heap.objs.size = none := by
    cases hq : s.heap.get? s₁.heap.objs.size with
    | none => rfl
    | some o => have h1 := hk _ _ hq; rw [get?_size] at h1; cases h1
  refine wpAny_bind (wpAny_holding (wpAny_call_entry PyProof.Rows.slot_list_sort (s := { s₁ with heap := s₁.heap.push (PyProof.Rows.seqObj "list" acc.toArray 0) }) ⟨_, hoL, rfl⟩ PyProof.Rows.entry_list_sort
    (PyProof.Rows.list_sort_tree hoL hI (by rw [hlen]; exact h64 ns hC) fun out ns' a1 a2 a3 => ⟨_, rfl, ?_⟩) (PyProof.Rows.args_list_sort _)))
  obtain ⟨m, hm⟩ := sortedHeap_at (vs := acc) (out := out) hoL
  have hk2 : ∀ b o, s.heap.get? b = some o → (PyProof.Rows.sortedHeap (s₁.heap.push (PyProof.Rows.seqObj "list" acc.toArray 0)) s₁.heap.objs.size acc out).get? b = some o := by
    intro b o e
    refine sortedHeap_old (fun hb => ?_) (Heap.get?_push_of_some _ (hk b o e))
    rw [hb, hnew] at e; cases e
  have hs2 : ∃ h tk dr, ({ s₁ with heap := PyProof.Rows.sortedHeap (s₁.heap.push (PyProof.Rows.seqObj "list" acc.toArray 0)) s₁.heap.objs.size acc out } : Shared) = { s with heap := h, toks := tk, drawn := dr } := by
    obtain ⟨h0, tk, dr, e⟩ := hs
    exact ⟨_, tk, dr, by rw [e]⟩
  exact wpAny_pure ⟨_, rfl, h s₁.heap.objs.size { s₁ with heap := PyProof.Rows.sortedHeap (s₁.heap.push (PyProof.Rows.seqObj "list" acc.toArray 0)) s₁.heap.objs.size acc out } out.toList ns ns' m hC hnew hk2 hs2 hm a1 a2 a3⟩
end
section
variable {B : Amb} {d : Nat} {env : Env} {loc : Loc} {mc : Str → Option Value} {f : Fz} {own : Own} {s : Shared} {A : Around} {X : XP}
noncomputable def sortSetS (o : Bool) (x : AV) (own : Own) (Q : AV → Own → Prop) : Prop := ∃ ys ns, view own x = some (.lst ys) ∧ intsOf ys = some ns ∧ ys.length < 64 ∧
  ∀ ns' : List Int, ns'.Pairwise (· < ·) → (∀ k, k ∈ ns' ↔ k ∈ ns) → mkL o (ns'.map AV.int) own Q
theorem strict_of {l : List Int} (h : l.Pairwise (· ≤ ·)) (hn : l.Nodup) : l.Pairwise (· < ·) := by
  induction l with
  | nil => exact .nil
  | cons x l ih =>
    rw [List.pairwise_cons] at h ⊢
    rw [List.nodup_cons] at hn
    refine ⟨fun y hy => ?_, ih h.2 hn.2⟩
    have := h.1 y hy
    have hne : x ≠ y := fun e => hn.1 (e ▸ hy)
    omega
theorem ev_sortedSet {o : Bool} {np np2 p2 pos : Pos} {e : Expr} {ns : List String} {Q : AV → Own → Prop} (G : Gl B ns) (he : EnvOk env) (hm1 : "sorted" ∈ ns) (hm2 : "set" ∈ ns) (hx1 : env.kindOf (Str.ofString "sorted") = some .globalImplicit) (hx2 : env.kindOf (Str.ofString "set") = some .globalImplicit)
    (hst : starEach [.Call (.Name (Str.ofString "set") np2) [e] [] p2] env = (false, eval (.Call (.Name (Str.ofString "set") np2) [e] [] p2) env) :: starEach [] env) (hp : (starEach [e] env).all (fun q => !q.1) = true)
    (h : EvEs B d env (spliced (backTo p2 (starEach [e] env))) loc own (fun xs own₁ => ∃ x, xs = [x] ∧ sortSetS o x own₁ Q) X) :
    EvE B d env (eval (.Call (.Name (Str.ofString "sorted") np) [.Call (.Name (Str.ofString "set") np2) [e] [] p2] [] pos) env) loc own Q X := by
  intro A mc f s ok c
  have hpl : (starEach [.Call (.Name (Str.ofString "set") np2) [e] [] p2] env).all (fun q => !q.1) = true := by rw [hst]; rfl
  rw [evalCall_name]
  refine wpAny_bind (load_builtin G.base he hx1 (by decide) (G.mg _ hm1) (G.mb ("sorted", .builtin "sorted") (by simp [blts])) c.inv ?_)
  refine Calls.callWith_builtin (backTo_plain hpl) (evalArgs_of hpl (wpAny_items_cons ?_ hst))
  refine call_type G.base he hx2 (by decide) (G.mg _ hm2) (G.mb ("set", .type "set") (by simp [blts])) hp ok c h (fun f₁ own₁ s₁ xs vs st c₁ r q => ?_) fun _ _ e => e
  obtain ⟨x, rfl, ys, ms, hv, hi, hlen, q⟩ := q
  simp only [RelVs] at r
  obtain ⟨v, r', rfl, hxv, rfl⟩ := r
  obtain ⟨l, us, n, rfl, hl, rs⟩ := view_list c₁.inv hxv hv
  have hul := rs.length
  have hms := (intsOf_rel hi rs)
  refine call_setx (ns := ms) ok.handled (isList_of hl) (by simpa using hms) (by simp; unfold scanBound; omega) fun h' tk hS kp => ?_
  refine wpAny_items_nil ?_
  have hsz : us.toArray.size = us.length := by simp
  have hml : ms.length = us.length := hms.length.symm
  refine wpAny_mono (Q := fun v s' => PostE B env loc mc f₁ own₁ s₁ Q v s') ?_ (fun _ _ p => p.trans st) fun _ _ e => e
  have c₂ := c₁.grow (h' := h') tk kp
  have st₂ : Step (exOf env) f₁ own₁ s₁ f₁ own₁ { s₁ with heap := h', toks := tk } := Step.grow tk kp
  refine sorted_srcC (s := { s₁ with heap := h', toks := tk }) (fun ns => ns.Nodup ∧ (∀ k, k ∈ ns ↔ k ∈ ms) ∧ ns.length ≤ us.toArray.size) (fun ns hC => by have := hC.2.2; omega)
    (fun R hR => collect_set (A := A.in1) (s := { s₁ with heap := h', toks := tk }) ok.handled hS (by rw [hsz]; omega) fun s' acc ns hk hs hI hnd hm hl => hR s' acc ns ⟨hnd, hm, hl⟩ hk hs hI) fun D s' out ns' ns'' m hC hn hk hs hD hI hp hs' => ?_
  refine PostE.trans st₂ (mkL_post' c₂ hs hk hn hD (ints_rel hI) (q ns'' (strict_of hs' (hp.nodup_iff.mpr hC.1)) fun k => hp.mem_iff.trans (hC.2.1 k)))
end
end Mine

namespace Mine
open PySem PySem.Spec
noncomputable def rangeS (xs : List AV) (own : Own) (Q : List AV → Own → Prop) : Prop := ∃ a b, rangeA xs = some (a, b) ∧ (-100000 ≤ a ∧ a ≤ 100000 ∧ -100000 ≤ b ∧ b ≤ 100000 ∧ b - a ≤ 100000) ∧ Q (rangeX a b) own
noncomputable def forL (x : AV) (own : Own) (Q : List AV → Own → Prop) : Prop := ∃ xs, x = .lst xs ∧ xs.length ≤ 100000 ∧ Q xs own
noncomputable def forT (x : AV) (own : Own) (Q : List AV → Own → Prop) : Prop := ∃ xs, x = .tup xs ∧ xs.length ≤ 100000 ∧ Q xs own
noncomputable def enumS (xs : List AV) (own : Own) (Q : List AV → Own → Prop) : Prop := ∃ ys, xs = [.lst ys] ∧ ys.length ≤ 100000 ∧ Q (enumL ys) own
section
variable {B : Amb} {d : Nat} {env : Env} {loc : Loc} {mc : Str → Option Value} {f : Fz} {own : Own} {s : Shared} {A : Around} {X : XP}
theorem rangeS_one {n : Int} {Q : List AV → Own → Prop} (hl : -100000 ≤ n ∧ n ≤ 100000) (h : Q (rangeX 0 n) own) : rangeS [.int n] own Q := ⟨0, n, rfl, ⟨by omega, by omega, by omega, by omega, by omega⟩, h⟩
theorem forL_lst {xs : List AV} {Q : List AV → Own → Prop} (hl : xs.length ≤ 100000) (h : Q xs own) : forL (.lst xs) own Q := ⟨xs, rfl, hl, h⟩
theorem enumS_lst {xs : List AV} {Q : List AV → Own → Prop} (hl : xs.length ≤ 100000) (h : Q (enumL xs) own) : enumS [.lst xs] own Q := ⟨xs, rfl, hl, h⟩
theorem evI_r {np pos : Pos} {args : List Expr} {target : Expr} {tg : Tgt} {ns : List String} {Q : List AV → Own → Prop} (G : Gl B ns) (he : EnvOk env) (hm : "range" ∈ ns) (hx : env.kindOf (Str.ofString "range") = some .globalImplicit)
    (hp : (starEach args env).all (fun q => !q.1) = true) (h : EvEs B d env (spliced (backTo pos (starEach args env))) loc own (fun xs own₁ => rangeS xs own₁ Q) X) :
    EvI B d env (.Call (.Name (Str.ofString "range") np) args [] pos) target tg loc own Q X := evI_range' G he hm hx hp h
theorem evI_e {np pos : Pos} {args : List Expr} {target : Expr} {x1 x2 : String} {ns : List String} {Q : List AV → Own → Prop} (G : Gl B ns) (he : EnvOk env) (hm : "enumerate" ∈ ns) (hx : env.kindOf (Str.ofString "enumerate") = some .globalImplicit)
    (hp : (starEach args env).all (fun q => !q.1) = true) (htt : ∃ elts k pos, target = .Tuple elts k pos) (h : EvEs B d env (spliced (backTo pos (starEach args env))) loc own (fun xs own₁ => enumS xs own₁ Q) X) :
    EvI B d env (.Call (.Name (Str.ofString "enumerate") np) args [] pos) target (.tup [x1, x2]) loc own Q X := evI_enum' G he hm hx hp htt h
theorem evI_l {iter target : Expr} {tg : Tgt} {Q : List AV → Own → Prop} (h : EvE B d env (eval iter env) loc own (fun x own₁ => forL x own₁ Q) X) : EvI B d env iter target tg loc own Q X := evI_list h
end
end Mine

namespace Mine
open PySem PySem.Spec
theorem nodup_below : ∀ (n : Nat) (l : List Int), l.Nodup → (∀ x ∈ l, 0 ≤ x ∧ x < n) → l.length ≤ n
  | 0, l, _, h => by
    cases l with
    | nil => simp
    | cons x l => have := h x (by simp); omega
  | n + 1, l, hn, h => by
    have hlen : l.length ≤ (l.filter (· ≠ (n : Int))).length + 1 := by
      clear h
      induction l with
      | nil => simp
      | cons x l ih =>
        rw [List.nodup_cons] at hn
        by_cases e : x = (n : Int)
        · subst e
          have : l.filter (· ≠ (n : Int)) = l := List.filter_eq_self.mpr fun y hy => by
            have : y ≠ (n : Int) := fun e => hn.1 (e ▸ hy)
            simp [this]
          rw [List.filter_cons]
          simp only [ne_eq, not_true_eq_false, decide_false, Bool.false_eq_true, if_false] at this ⊢
          rw [this]; simp
        · have := ih hn.2
          simp only [List.filter_cons, ne_eq, e, not_false_eq_true, decide_true, if_true, List.length_cons] at this ⊢
          omega
    have := nodup_below n (l.filter (· ≠ (n : Int))) (hn.filter _) fun x hx => by
      rw [List.mem_filter] at hx
      have h1 := h x hx.1
      have h2 : x ≠ (n : Int) := by simpa using hx.2
      omega
    omega
theorem sorted_unique : ∀ {l m : List Int}, l.Pairwise (· < ·) → m.Pairwise (· < ·) → (∀ k, k ∈ l ↔ k ∈ m) → l = m
  | [], [], _, _, _ => rfl
  | [], y :: m, _, _, h => by have := (h y).mpr (by simp); cases this
  | x :: l, [], _, _, h => by have := (h x).mp (by simp); cases this
  | x :: l, y :: m, h1, h2, h => by
    rw [List.pairwise_cons] at h1 h2
    have hxy : x = y := by
      rcases List.mem_cons.mp ((h x).mp (by simp)) with e | hx
      · exact e
      · rcases List.mem_cons.mp ((h y).mpr (by simp)) with e | hy
        · exact e.symm
        · have a1 := h1.1 y hy; have a2 := h2.1 x hx; omega
    subst hxy
    congr 1
    refine sorted_unique h1.2 h2.2 fun k => ?_
    constructor
    · intro hk
      rcases List.mem_cons.mp ((h k).mp (by simp [hk])) with e | e
      · subst e; have := h1.1 k hk; omega
      · exact e
    · intro hk
      rcases List.mem_cons.mp ((h k).mpr (by simp [hk])) with e | e
      · subst e; have := h2.1 k hk; omega
      · exact e
theorem dput_key {es : List (Int × AV)} {j : Int} {v : AV} (k : Int) : k ∈ (dput es j v).map (·.1) ↔ k = j ∨ k ∈ es.map (·.1) := by
  unfold dput
  split
  · rename_i h
    have e : ((fun x : Int × AV => x.1) ∘ fun e => if e.1 = j then (e.1, v) else e) = fun e => e.1 := by funext e; simp only [Function.comp]; split <;> rfl
    rw [List.map_map, e]
    constructor
    · exact .inr
    · rintro (rfl | h')
      · rw [List.any_eq_true] at h
        obtain ⟨e, he, hk⟩ := h
        exact List.mem_map.mpr ⟨e, he, by simpa using hk⟩
      · exact h'
  · simp [or_comm]
theorem dput_nodup {es : List (Int × AV)} {j : Int} {v : AV} (h : (es.map (·.1)).Nodup) : ((dput es j v).map (·.1)).Nodup := by
  unfold dput
  split
  · have e : ((fun x : Int × AV => x.1) ∘ fun e => if e.1 = j then (e.1, v) else e) = fun e => e.1 := by funext e; simp only [Function.comp]; split <;> rfl
    rw [List.map_map, e]; exact h
  · rename_i hc
    rw [List.map_append, List.nodup_append]
    refine ⟨h, by simp, fun x hx y hy => ?_⟩
    simp only [List.map_cons, List.map_nil, List.mem_singleton] at hy
    subst hy
    intro e
    subst e
    obtain ⟨e, he, rfl⟩ := List.mem_map.mp hx
    exact hc (List.any_eq_true.mpr ⟨e, he, by simp⟩)
section
variable {B : Amb} {d : Nat} {env : Env} {loc : Loc} {mc : Str → Option Value} {f : Fz} {own : Own} {s : Shared} {A : Around} {X : XP}
theorem set_dict {a : Addr} {es : List (Int × AV)} {k : Int} {v : AV} {R : Own → Prop} (ha : own.lookup a = some (.dict es)) (hl : es.length ≤ 100000) (h : R (own.put a (.dict (dput es k v)))) : setS (.ref a) (.int k) v own R := by
  simp only [setS, ha]; exact ⟨hl, h⟩
theorem boolsOf_mapP {α : Type} (l : List α) (p : α → Bool) : boolsOf (l.map fun x => AV.bool (p x)) = some (l.map p) := by
  induction l with
  | nil => rfl
  | cons x l ih => simp [boolsOf, ih]
theorem all_map {α : Type} {l : List α} {p : α → Bool} {Q : AV → Own → Prop} (h : Q (.bool (l.all p)) own) : ∃ x, [AV.lst (l.map fun x => AV.bool (p x))] = [x] ∧ allS x own Q :=
  ⟨_, rfl, _, l.map p, rfl, boolsOf_mapP l p, by simpa [List.all_map, Function.comp_def] using h⟩
theorem ScOk.of {scope : Scope} {fv : List String} {tg : Tgt} (hk : scope.kind = .function) (hn : (scope.names.map (·.1)).Nodup) (hf : (scope.names.filter (·.2 == .free)).map (·.1) = fv.map Str.ofString)
    (hv : ∀ x ∈ fv, env.kindOf (Str.ofString x) = some .cell ∨ env.kindOf (Str.ofString x) = some .free) (ht : ∀ x ∈ tg.names, scope.names.lookup (Str.ofString x) = some .local ∨ scope.names.lookup (Str.ofString x) = some .cell) : ScOk env scope fv tg where
  kind := hk
  nodup := hn
  free := fun n hm => by
    have : n ∈ (scope.names.filter (·.2 == .free)).map (·.1) := List.mem_map.mpr ⟨(n, .free), List.mem_filter.mpr ⟨hm, by rfl⟩, rfl⟩
    rw [hf] at this
    obtain ⟨x, hx, rfl⟩ := List.mem_map.mp this
    exact hv x hx
  fv := fun x hx => by
    have : Str.ofString x ∈ (scope.names.filter (·.2 == .free)).map (·.1) := by rw [hf]; exact List.mem_map.mpr ⟨x, hx, rfl⟩
    obtain ⟨q, hq, e⟩ := List.mem_map.mp this
    rw [List.mem_filter] at hq
    have h2 : q.2 = .free := by have := hq.2; cases q2 : q.2 <;> simp [q2] at this <;> first | rfl | (exact absurd this (by decide))
    have h3 : (Str.ofString x, NameKind.free) ∈ scope.names := by
      have := hq.1
      rw [show q = (Str.ofString x, NameKind.free) from Prod.ext e h2] at this
      exact this
    exact lookup_of_nodup hn h3
  tg := ht
theorem pure_ints {l : List Int} : AV.pure (.lst (l.map AV.int)) = true := by
  unfold AV.pure
  induction l with
  | nil => rfl
  | cons x l ih => simpa [AV.pures, AV.pure] using ih
theorem dat_ints {l : List Int} : AV.dat 8 (.lst (l.map AV.int)) = true := by
  simp only [AV.dat]; rw [AV.dats_iff]; intro x hx; obtain ⟨i, _, rfl⟩ := List.mem_map.mp hx; rfl
end
end Mine

namespace Mine
open PySem PySem.Spec
section
variable {B : Amb} {d : Nat} {env : Env} {loc : Loc} {mc : Str → Option Value} {f : Fz} {own : Own} {s : Shared} {A : Around} {X : XP}
theorem Inv.freeze (i : Inv B f own s) {a : Addr} {xs : List AV} (ha : (a, AO.list xs) ∈ own) {ex : List Addr} :
    ∃ f', Step ex f own s f' (own.del a) s ∧ Inv B f' (own.del a) s ∧ RelV f' (.lst xs) (.ref a) := by
  obtain ⟨hf, o, ho, vs, n, rfl, hr⟩ := i.led _ ha
  have hle := Fz.put_le (sq "list" vs n) hf
  refine ⟨f.put a (sq "list" vs n), ⟨hle, fun b o' e => ?_, fun _ _ h _ _ => h, fun b hb => ?_, fun _ o h => ⟨o, h⟩⟩, ⟨i.same, fun b o' e => hle b o' (i.base b o' e), fun b o' e => ?_, fun p hp => ?_, ?_⟩, ?_⟩
  · unfold Fz.put at e; split at e
    · subst_vars; exact .inr (.inl (List.mem_map.mpr ⟨_, ha, rfl⟩))
    · exact .inl e
  · obtain ⟨p, hp, rfl⟩ := List.mem_map.mp hb
    exact .inl (List.mem_map.mpr ⟨p, (Own.mem_del.mp hp).1, rfl⟩)
  · unfold Fz.put at e; split at e
    · subst_vars; cases e; exact ho
    · exact i.sub b o' e
  · obtain ⟨h1, h2⟩ := Own.mem_del.mp hp
    obtain ⟨y, o', ho', r⟩ := i.led p h1
    exact ⟨by simp [Fz.put, h2, y], o', ho', r.mono hle⟩
  · exact i.nodup.sublist (List.filter_sublist.map _)
  · simp only [RelV]
    exact ⟨a, vs, n, rfl, Fz.put_self .., hr.mono hle⟩
theorem CallA.frz {a : Addr} {vs : List AV} {Q : AV → Own → Prop} {E : Addr → Own → Prop} (h : CallA B d a vs own (Mine.frz Q) E) : CallA B d a vs own Q E := fun A f s args ok i r =>
  codeAny_mono (h A f s args ok i r) fun res s' p => by
    cases res with
    | ok w => cases w with
      | ret v =>
        obtain ⟨f', own', x, st, i', r', l, xs, rfl, hl, q⟩ := p
        simp only [RelV] at r'
        subst r'
        obtain ⟨f'', st', i'', r''⟩ := i'.freeze (mem_of_lookup' hl)
        exact ⟨f'', _, _, st.trans st', i'', r'', q⟩
      | _ => exact p.elim
    | error e => exact p
theorem frz_head {a : Addr} {xs : List AV} {Q : AV → Own → Prop} (ha : a ∉ addrs own) (h : Q (.lst xs) own) : Mine.frz Q (.ref a) ((a, .list xs) :: own) := ⟨a, xs, rfl, lookup_head, by rw [del_head ha]; exact h⟩
theorem evS_seqP {st : Stmt} {rest : List Stmt} {R : AFlow → Loc → Own → Prop} (P : Loc → Own → Prop) (h1 : EvS B d env (exec st env) loc own (seqR P R) X) (h2 : ∀ l o, P l o → EvS B d env (execs rest env) l o R X) :
    EvS B d env (execs (st :: rest) env) loc own R X := evS_seq (h1.mono fun w l o q => by cases w <;> first | exact q | exact h2 _ _ q)
theorem swaps_cell {elt : Expr} {gens : List Comprehension} {sc : Scope} {cp px : Pos} {x : Str} {l : Nat} (h : env.kindOf x = some .cell) : swapsWith (.ListComp elt gens sc cp) (some (.Name x px)) l env = pure false := by
  show (pure (env.blockKind == .function && env.kindOf x == some .local && px.line == cp.line && !(sc.names.any fun (n, k) => n == x && (k == .local || k == .cell))) : Sem Bool) = _
  rw [h]
  have : ((some NameKind.cell : Option NameKind) == some NameKind.local) = false := by decide
  rw [this]; simp
theorem swaps_local {elt : Expr} {gens : List Comprehension} {sc : Scope} {cp px : Pos} {x : Str} {l : Nat} (he : EnvOk env) (h : env.kindOf x = some .local) (hl : (px.line == cp.line) = true) (hn : (sc.names.any fun (n, k) => n == x && (k == .local || k == .cell)) = false) :
    swapsWith (.ListComp elt gens sc cp) (some (.Name x px)) l env = pure true := by
  show (pure (env.blockKind == .function && env.kindOf x == some .local && px.line == cp.line && !(sc.names.any fun (n, k) => n == x && (k == .local || k == .cell))) : Sem Bool) = _
  rw [h, hl, hn]
  have hb : env.blockKind = .function := by unfold Env.blockKind; rw [he.kind]; rfl
  rw [hb]; rfl
end
end Mine

namespace Mine
open PySem PySem.Spec
local macro_rules | `(tactic| lcg_sub) => `(tactic| first
  | exact .inl (kind_of (by assumption) (by with_unfolding_all rfl)) | exact .inr (kind_of (by assumption) (by with_unfolding_all rfl)) | exact .inr (.inl (kind_of (by assumption) (by with_unfolding_all rfl)))
  | exact .inl (ckind (by assumption) (by with_unfolding_all rfl) (by decide)) | exact .inr (ckind (by assumption) (by with_unfolding_all rfl) (by decide)) | exact .inr (.inl (ckind (by assumption) (by with_unfolding_all rfl) (by decide)))
  | exact .inr (ckind_free (by assumption) (by with_unfolding_all rfl)))
local macro_rules | `(tactic| lcg_off) => `(tactic| first | exact NmG.k (by assumption) | exact kind_of (by assumption) (by with_unfolding_all rfl) | exact ckind (by assumption) (by with_unfolding_all rfl) (by decide))
local macro_rules | `(tactic| lcg_src) => `(tactic| first | assumption | decide | omega | (simp; done) | (simp; omega))
local macro_rules | `(tactic| kqd_sub) => `(tactic| first | assumption | exact lookup_head | (simp [*]; done))
local macro_rules | `(tactic| kqd_in) => `(tactic| first
  | (with_reducible apply gE; first
      | (with_reducible apply gN; first
      | (with_reducible apply ev_nm; (case he => assumption); (case hn => assumption); (case hl => first | with_unfolding_all rfl | assumption | ((repeat (apply upd_other; (case h => decide))); first | exact upd_same | assumption)))
      | (with_reducible apply ev_gi; (case hB => exact Gl.base (by assumption)); (case he => assumption); (case hn => assumption); (case hv => assumption))
      | (with_reducible apply ev_name; (case hk => exact EnvOk.kind (by assumption)); (case hx => lcg_sub); (case hd => decide); (case hc => decide); (case hl => first | with_unfolding_all rfl | assumption | ((repeat (apply upd_other; (case h => decide))); first | exact upd_same | assumption)))
      | (with_reducible apply ev_globInt; (case hB => exact Gl.base (by assumption)); (case he => assumption); (case hx => lcg_off); (case hd => decide); (case hv => assumption)))
      | (with_reducible apply gK; first
      | (with_reducible apply ev_int)
      | (with_reducible apply ev_bool)
      | (with_reducible apply ev_none)
      | (with_reducible apply ev_str))
      | (with_reducible apply gCall; first
      | (with_reducible apply ev_fn; (case hB => exact Gl.base (by assumption)); (case he => assumption); (case hn => assumption); (case hv => assumption); (case hf => assumption); (case hp => with_unfolding_all rfl))
      | (with_reducible apply ev_len; (case G => assumption); (case he => assumption); (case hm => decide); (case hx => lcg_off); (case hp => with_unfolding_all rfl))
      | (with_reducible apply gIsi; first
      | (with_reducible apply ev_isi_int; (case G => assumption); (case he => assumption); (case hm => decide); (case hmt => decide); (case hx => lcg_off); (case hxt => lcg_off); (case hst => with_unfolding_all rfl))
      | (with_reducible apply ev_isi_list; (case G => assumption); (case he => assumption); (case hm => decide); (case hmt => decide); (case hx => lcg_off); (case hxt => lcg_off); (case hst => with_unfolding_all rfl))
      | (with_reducible apply ev_isi_tuple; (case G => assumption); (case he => assumption); (case hm => decide); (case hmt => decide); (case hx => lcg_off); (case hxt => lcg_off); (case hst => with_unfolding_all rfl))
      | (with_reducible apply ev_isi_bool; (case G => assumption); (case he => assumption); (case hm => decide); (case hmt => decide); (case hx => lcg_off); (case hxt => lcg_off); (case hst => with_unfolding_all rfl))
      | (with_reducible apply ev_isi_str; (case G => assumption); (case he => assumption); (case hm => decide); (case hmt => decide); (case hx => lcg_off); (case hxt => lcg_off); (case hst => with_unfolding_all rfl)))
      | (with_reducible apply ev_all; (case G => assumption); (case he => assumption); (case hm => decide); (case hx => lcg_off); (case hp => with_unfolding_all rfl))
      | (with_reducible apply ev_call; (case hB => exact Gl.base (by assumption)); (case he => assumption); (case hx => lcg_off); (case hd => decide); (case hv => assumption); (case hf => assumption); (case hp => with_unfolding_all rfl))
      | (with_reducible apply ev_append; (case hbase => with_unfolding_all rfl); (case hp => with_unfolding_all rfl); (case hlen => decide); (case hline => with_unfolding_all rfl)))
      | (with_reducible apply gBin; first
      | (with_reducible apply ev_add)
      | (with_reducible apply ev_minus)
      | (with_reducible apply ev_mul)
      | (with_reducible apply ev_fdiv)
      | (with_reducible apply ev_mod)
      | (with_reducible apply ev_pow))
      | (with_reducible apply ev_compare; (case hm => with_unfolding_all rfl))
      | (with_reducible apply ev_sub; (case hsl => intro _ _; exact ⟨_, by with_unfolding_all rfl⟩))
      | (with_reducible apply ev_not')
      | (with_reducible apply ev_and)
      | (with_reducible apply ev_or)
      | (with_reducible apply ev_andN)
      | (with_reducible apply ev_orN)
      | (with_reducible apply ev_and1)
      | (with_reducible apply ev_or1)
      | (with_reducible apply ev_tuple)
      | (with_reducible apply ev_neg))
  | (with_reducible apply gS; first
      | (with_reducible apply evS_seq)
      | (with_reducible apply evS_nil)
      | (with_reducible apply evS_ret)
      | (with_reducible apply evS_iff)
      | (with_reducible apply evS_set; (case he => assumption); (case hn => assumption); (case hs => with_unfolding_all rfl))
      | (with_reducible apply evS_expr; (case hk => exact EnvOk.kind (by assumption)); (case hs => with_unfolding_all rfl))
      | (with_reducible apply evS_pass)
      | (with_reducible apply evS_cont))
  | (with_reducible apply gT; first
      | (with_reducible apply evT_compare; (case hm => with_unfolding_all rfl))
      | (with_reducible apply evT_not')
      | (with_reducible apply evT_and)
      | (with_reducible apply evT_or)
      | (with_reducible apply evT_andN)
      | (with_reducible apply evT_orN)
      | (with_reducible apply evT_and1)
      | (with_reducible apply evT_or1)
      | (with_reducible apply evT_value; (case he => with_unfolding_all rfl)))
  | (with_reducible apply gEs; first
      | (with_reducible apply evs_cons; (case he => with_unfolding_all rfl))
      | (with_reducible apply evs_nil))
  | (with_reducible apply gC; first
      | (with_reducible apply evC_lt; (case hsys => exact Gl.sys (by assumption)))
      | (with_reducible apply evC_le; (case hsys => exact Gl.sys (by assumption)))
      | (with_reducible apply evC_gt; (case hsys => exact Gl.sys (by assumption)))
      | (with_reducible apply evC_ge; (case hsys => exact Gl.sys (by assumption)))
      | (with_reducible apply evC_eq; (case hsys => exact Gl.sys (by assumption)))
      | (with_reducible apply evC_ne; (case hsys => exact Gl.sys (by assumption)))
      | (with_reducible apply evC_is_; (case hsys => exact Gl.sys (by assumption)))
      | (with_reducible apply evC_isNot; (case hsys => exact Gl.sys (by assumption)))
      | (with_reducible apply evC_in_; (case hsys => exact Gl.sys (by assumption)))
      | (with_reducible apply evC_notIn; (case hsys => exact Gl.sys (by assumption)))
      | (with_reducible apply evC_le_le; (case hsys => exact Gl.sys (by assumption)))
      | (with_reducible apply evC_le_lt; (case hsys => exact Gl.sys (by assumption)))
      | (with_reducible apply evC_lt_lt; (case hsys => exact Gl.sys (by assumption)))
      | (with_reducible apply evC_lt_le; (case hsys => exact Gl.sys (by assumption))))
  | (with_reducible apply gCT; first
      | (with_reducible apply evCT_lt; (case hsys => exact Gl.sys (by assumption)))
      | (with_reducible apply evCT_le; (case hsys => exact Gl.sys (by assumption)))
      | (with_reducible apply evCT_gt; (case hsys => exact Gl.sys (by assumption)))
      | (with_reducible apply evCT_ge; (case hsys => exact Gl.sys (by assumption)))
      | (with_reducible apply evCT_eq; (case hsys => exact Gl.sys (by assumption)))
      | (with_reducible apply evCT_ne; (case hsys => exact Gl.sys (by assumption)))
      | (with_reducible apply evCT_is_; (case hsys => exact Gl.sys (by assumption)))
      | (with_reducible apply evCT_isNot; (case hsys => exact Gl.sys (by assumption)))
      | (with_reducible apply evCT_in_; (case hsys => exact Gl.sys (by assumption)))
      | (with_reducible apply evCT_notIn; (case hsys => exact Gl.sys (by assumption)))
      | (with_reducible apply evCT_le_le; (case hsys => exact Gl.sys (by assumption)))
      | (with_reducible apply evCT_le_lt; (case hsys => exact Gl.sys (by assumption)))
      | (with_reducible apply evCT_lt_lt; (case hsys => exact Gl.sys (by assumption)))
      | (with_reducible apply evCT_lt_le; (case hsys => exact Gl.sys (by assumption))))
  | (with_reducible apply gcmp; first
      | (with_reducible apply cmp_lt)
      | (with_reducible apply cmp_le)
      | (with_reducible apply cmp_gt)
      | (with_reducible apply cmp_ge)
      | (with_reducible apply cmp_eq)
      | (with_reducible apply cmp_ne))
  | (with_reducible apply gisi; first
      | (with_reducible apply isi_none_int)
      | (with_reducible apply isi_none_bool)
      | (with_reducible apply isi_none_list)
      | (with_reducible apply isi_none_tuple)
      | (with_reducible apply isi_none_str)
      | (with_reducible apply isi_bool_int)
      | (with_reducible apply isi_bool_bool)
      | (with_reducible apply isi_bool_list)
      | (with_reducible apply isi_bool_tuple)
      | (with_reducible apply isi_bool_str)
      | (with_reducible apply isi_int_int)
      | (with_reducible apply isi_int_bool)
      | (with_reducible apply isi_int_list)
      | (with_reducible apply isi_int_tuple)
      | (with_reducible apply isi_int_str)
      | (with_reducible apply isi_str_int)
      | (with_reducible apply isi_str_bool)
      | (with_reducible apply isi_str_list)
      | (with_reducible apply isi_str_tuple)
      | (with_reducible apply isi_str_str)
      | (with_reducible apply isi_tup_int)
      | (with_reducible apply isi_tup_bool)
      | (with_reducible apply isi_tup_list)
      | (with_reducible apply isi_tup_tuple)
      | (with_reducible apply isi_tup_str)
      | (with_reducible apply isi_lst_int)
      | (with_reducible apply isi_lst_bool)
      | (with_reducible apply isi_lst_list)
      | (with_reducible apply isi_lst_tuple)
      | (with_reducible apply isi_lst_str)
      | (with_reducible apply isi_emp_int)
      | (with_reducible apply isi_emp_bool)
      | (with_reducible apply isi_emp_list)
      | (with_reducible apply isi_emp_tuple)
      | (with_reducible apply isi_emp_str)
      | (with_reducible apply isi_ref_int; (case ha => kqd_sub))
      | (with_reducible apply isi_ref_bool; (case ha => kqd_sub))
      | (with_reducible apply isi_ref_list; (case ha => kqd_sub))
      | (with_reducible apply isi_ref_tuple; (case ha => kqd_sub))
      | (with_reducible apply isi_ref_str; (case ha => kqd_sub)))
  | (with_reducible apply gbin; first
      | (with_reducible apply binS_add)
      | (with_reducible apply binS_sub)
      | (with_reducible apply binS_mul; (case hb => lcg_src))
      | (with_reducible apply binS_fdiv; (case hb => lcg_src))
      | (with_reducible apply binS_mod; (case hb => lcg_src))
      | (with_reducible apply binS_pow; (case hb => lcg_src)))
  | (with_reducible apply gsub; first
      | (with_reducible apply tup0; (case hl => lcg_src))
      | (with_reducible apply tup1; (case hl => lcg_src)))
  | (with_reducible apply asB_at)
  | (with_reducible apply seq_next)
  | (with_reducible apply seq_ret)
  | (with_reducible apply fn_ret)
  | (with_reducible apply fn_next)
  | (with_reducible apply tt_and)
  | (with_reducible apply ff_and)
  | (with_reducible apply tf_and)
  | (with_reducible apply ft_and)
  | (with_reducible apply seq_cont)
  | (with_reducible apply seq_brk)
  | (with_reducible apply loop_next)
  | (with_reducible apply loop_cont)
  | (with_reducible apply loop_ret)
  | (with_reducible apply loop_brk)
  | (with_reducible apply tgt_name)
  | (with_reducible apply tgt_tup; (case hl => with_unfolding_all rfl))
  | (with_reducible apply len_lst; (case hl => lcg_src))
  | (with_reducible apply len_tup; (case hl => lcg_src))
  | (with_reducible apply len_ref; (case ha => kqd_sub); (case hl => lcg_src))
  | (with_reducible apply len_and; (case h => lcg_src))
  | (with_reducible apply meth_at; (case ha => kqd_sub))
  | (with_reducible apply append_at; (case ha => kqd_sub); (case hl => lcg_src)))
local macro_rules | `(tactic| kqd_all) => `(tactic| repeat kqd_in)
abbrev pw := PySem.Challenge.pw_uf020008_01
noncomputable def ns01 : List String := ["len", "all", "sorted", "isinstance", "list", "range", "enumerate", "int", "bool", "tuple", "set"]
structure P01 (B : Amb) : Prop where
  G : Gl B ns01
  m58 : B.mg (Str.ofString "is_among") = some (.ref 58)
  f58 : FnAt B 58 ["thing", "least", "most"] (fnB pw 7) (fnSc pw 7)
  m65 : B.mg (Str.ofString "need_count") = some (.ref 65)
  f65 : FnAt B 65 ["count"] (fnB pw 8) (fnSc pw 8)
  m72 : B.mg (Str.ofString "are_two") = some (.ref 72)
  f72 : FnAt B 72 ["count", "one", "other"] (fnB pw 9) (fnSc pw 9)
  m79 : B.mg (Str.ofString "is_bar") = some (.ref 79)
  f79 : FnAt B 79 ["count", "thing"] (fnB pw 10) (fnSc pw 10)
  m84 : B.mg (Str.ofString "checked") = some (.ref 84)
  f84 : FnAt B 84 ["count", "bars"] (fnB pw 11) (fnSc pw 11)
  m91 : B.mg (Str.ofString "joints_of") = some (.ref 91)
  f91 : FnAt B 91 ["bars"] (fnB pw 12) (fnSc pw 12)
  m96 : B.mg (Str.ofString "among") = some (.ref 96)
  f96 : FnAt B 96 ["bars", "joints"] (fnB pw 13) (fnSc pw 13)
  m103 : B.mg (Str.ofString "_law_cell_at") = some (.ref 103)
  f103 : FnAt B 103 ["_law_script", "_law_k"] (fnB pw 15) (fnSc pw 15)
  m110 : B.mg (Str.ofString "_law_whole") = some (.ref 110)
  f110 : FnAt B 110 ["_law_found"] (fnB pw 16) (fnSc pw 16)
  m117 : B.mg (Str.ofString "_law_mixed") = some (.ref 117)
  f117 : FnAt B 117 ["_law_cell", "_law_k"] (fnB pw 17) (fnSc pw 17)
  m124 : B.mg (Str.ofString "_law_free") = some (.ref 124)
  f124 : FnAt B 124 ["_law_script", "_law_first", "_law_count", "_law_many"] (fnB pw 18) (fnSc pw 18)
  m129 : B.mg (Str.ofString "_law_rising") = some (.ref 129)
  f129 : FnAt B 129 ["_law_found", "_law_least", "_law_most"] (fnB pw 19) (fnSc pw 19)
  m134 : B.mg (Str.ofString "law") = some (.ref 134)
  f134 : FnAt B 134 ["_law_script"] (fnB pw 20) (fnSc pw 20)
  gMJ : ∃ t, B.mg (Str.ofString "MOST_JOINTS") = some (.int 16 t)
  gMB : ∃ t, B.mg (Str.ofString "MOST_BARS") = some (.int 60 t)
section
variable {B : Amb} {d : Nat} {own : Own} {Q : AV → Own → Prop} {E : Addr → Own → Prop}
theorem s_is_among (P : P01 B) (hd : 1 ≤ d) (i lo hi : Int) (h : Q (.bool (decide (lo ≤ i ∧ i ≤ hi))) own) : CallA B d 58 [.int i, .int lo, .int hi] own Q E := by
  obtain ⟨G, m58, f58, m65, f65, m72, f72, m79, f79, m84, f84, m91, f91, m96, f96, m103, f103, m110, f110, m117, f117, m124, f124, m129, f129, m134, f134, ⟨_, gMJ⟩, ⟨_, gMB⟩⟩ := P
  obtain ⟨d, rfl⟩ : ∃ e, d = e + 1 := ⟨d - 1, by omega⟩
  refine call_in G.base f58 rfl fun env he hsc => ?_
  obtain ⟨klthing, ksthing⟩ := nm_local (x := "thing") hsc (by kernel_rfl) (by decide) (by decide)
  obtain ⟨klleast, ksleast⟩ := nm_local (x := "least") hsc (by kernel_rfl) (by decide) (by decide)
  obtain ⟨klmost, ksmost⟩ := nm_local (x := "most") hsc (by kernel_rfl) (by decide) (by decide)
  have kgisinstance := nm_glob (x := "isinstance") hsc (by kernel_rfl) (by decide)
  have kgint := nm_glob (x := "int") hsc (by kernel_rfl) (by decide)
  have kgbool := nm_glob (x := "bool") hsc (by kernel_rfl) (by decide)
  conv in (fnB _ _) => whnf
  kqd_all
  refine dec_and (fun h1 => ?_) (fun h1 => ?_)
  · kqd_all
    simpa [h1] using h
  · kqd_all
    simpa [h1] using h
theorem s_need_count (P : P01 B) (hd : 2 ≤ d) (n : Int) (hn : 1 ≤ n ∧ n ≤ 16) (h : Q .none own) : CallA B d 65 [.int n] own Q E := by
  have P' := P
  obtain ⟨G, m58, f58, m65, f65, m72, f72, m79, f79, m84, f84, m91, f91, m96, f96, m103, f103, m110, f110, m117, f117, m124, f124, m129, f129, m134, f134, ⟨_, gMJ⟩, ⟨_, gMB⟩⟩ := P
  obtain ⟨d, rfl⟩ : ∃ e, d = e + 1 := ⟨d - 1, by omega⟩
  refine call_in G.base f65 rfl fun env he hsc => ?_
  obtain ⟨klcount, kscount⟩ := nm_local (x := "count") hsc (by kernel_rfl) (by decide) (by decide)
  have kgis_among := nm_glob (x := "is_among") hsc (by kernel_rfl) (by decide)
  have kgMOST_JOINTS := nm_glob (x := "MOST_JOINTS") hsc (by kernel_rfl) (by decide)
  have kgBadCount := nm_glob (x := "BadCount") hsc (by kernel_rfl) (by decide)
  conv in (fnB _ _) => whnf
  kqd_all
  refine s_is_among P' (by omega) _ _ _ ?_
  kqd_all
  refine yes_and hn ?_
  kqd_all
theorem s_are_two (P : P01 B) (hd : 2 ≤ d) (n i j : Int) (h : Q (.bool (decide (0 ≤ i ∧ i ≤ n - 1 ∧ 0 ≤ j ∧ j ≤ n - 1 ∧ i ≠ j))) own) : CallA B d 72 [.int n, .int i, .int j] own Q E := by
  have P' := P
  obtain ⟨G, m58, f58, m65, f65, m72, f72, m79, f79, m84, f84, m91, f91, m96, f96, m103, f103, m110, f110, m117, f117, m124, f124, m129, f129, m134, f134, ⟨_, gMJ⟩, ⟨_, gMB⟩⟩ := P
  obtain ⟨d, rfl⟩ : ∃ e, d = e + 1 := ⟨d - 1, by omega⟩
  refine call_in G.base f72 rfl fun env he hsc => ?_
  obtain ⟨klcount, kscount⟩ := nm_local (x := "count") hsc (by kernel_rfl) (by decide) (by decide)
  obtain ⟨klone, ksone⟩ := nm_local (x := "one") hsc (by kernel_rfl) (by decide) (by decide)
  obtain ⟨klother, ksother⟩ := nm_local (x := "other") hsc (by kernel_rfl) (by decide) (by decide)
  have kgis_among := nm_glob (x := "is_among") hsc (by kernel_rfl) (by decide)
  conv in (fnB _ _) => whnf
  kqd_all
  refine s_is_among P' (by omega) _ _ _ ?_
  kqd_all
  refine dec_and (fun h1 => ?_) (fun h1 => ?_)
  · kqd_all
    refine s_is_among P' (by omega) _ _ _ ?_
    kqd_all
    refine dec_and (fun h2 => ?_) (fun h2 => ?_)
    · kqd_all
      simpa [h1, h2] using h
    · kqd_all
      have e : ¬ (0 ≤ i ∧ i ≤ n - 1 ∧ 0 ≤ j ∧ j ≤ n - 1 ∧ i ≠ j) := by omega
      simpa only [e, decide_false] using h
  · kqd_all
    have e : ¬ (0 ≤ i ∧ i ≤ n - 1 ∧ 0 ≤ j ∧ j ≤ n - 1 ∧ i ≠ j) := by omega
    simpa only [e, decide_false] using h
theorem s_is_bar (P : P01 B) (hd : 3 ≤ d) (n i j : Int) (h : Q (.bool (decide (0 ≤ i ∧ i ≤ n - 1 ∧ 0 ≤ j ∧ j ≤ n - 1 ∧ i ≠ j))) own) : CallA B d 79 [.int n, .tup [.int i, .int j]] own Q E := by
  have P' := P
  obtain ⟨G, m58, f58, m65, f65, m72, f72, m79, f79, m84, f84, m91, f91, m96, f96, m103, f103, m110, f110, m117, f117, m124, f124, m129, f129, m134, f134, ⟨_, gMJ⟩, ⟨_, gMB⟩⟩ := P
  obtain ⟨d, rfl⟩ : ∃ e, d = e + 1 := ⟨d - 1, by omega⟩
  refine call_in G.base f79 rfl fun env he hsc => ?_
  obtain ⟨klcount, kscount⟩ := nm_local (x := "count") hsc (by kernel_rfl) (by decide) (by decide)
  obtain ⟨klthing, ksthing⟩ := nm_local (x := "thing") hsc (by kernel_rfl) (by decide) (by decide)
  have kgisinstance := nm_glob (x := "isinstance") hsc (by kernel_rfl) (by decide)
  have kgtuple := nm_glob (x := "tuple") hsc (by kernel_rfl) (by decide)
  have kglen := nm_glob (x := "len") hsc (by kernel_rfl) (by decide)
  have kgare_two := nm_glob (x := "are_two") hsc (by kernel_rfl) (by decide)
  conv in (fnB _ _) => whnf
  kqd_all
  refine yes_and rfl ?_
  kqd_all
  exact s_are_two P' (by omega) _ _ _ h
end

open PySem PySem.Spec
noncomputable def cellI (xs : List Int) (k : Int) : Int := if k < xs.length then xs.getD k.toNat 0 else 0
noncomputable def mixedI (c k : Int) : Int := ((c % 1000000007 + 7919 * k + 11) * 48271 % 2147483647) * (((c % 1000000007 + 7919 * k + 11) * 48271 % 2147483647) % 65521 + 3) % 2147483629
noncomputable def barV (p : Int × Int) : AV := .tup [.int p.1, .int p.2]
noncomputable def freeBar (xs : List Int) (first count : Int) (k : Nat) : Int × Int :=
  let c := mixedI (cellI xs (first + (k : Int) % 5)) k
  (c % count, (c % count + 1 + c / 97 % (count - 1)) % count)
section
variable {B : Amb} {d : Nat} {own : Own} {Q : AV → Own → Prop} {E : Addr → Own → Prop}
theorem s_cell_at (P : P01 B) (hd : 1 ≤ d) (xs : List Int) (hxs : xs.length ≤ 63) (k : Int) (hk : 0 ≤ k) (h : Q (.int (cellI xs k)) own) : CallA B d 103 [.lst (xs.map .int), .int k] own Q E := by
  have P' := P
  obtain ⟨G, m58, f58, m65, f65, m72, f72, m79, f79, m84, f84, m91, f91, m96, f96, m103, f103, m110, f110, m117, f117, m124, f124, m129, f129, m134, f134, ⟨_, gMJ⟩, ⟨_, gMB⟩⟩ := P
  obtain ⟨d, rfl⟩ : ∃ e, d = e + 1 := ⟨d - 1, by omega⟩
  refine call_in G.base f103 rfl fun env he hsc => ?_
  obtain ⟨kllaw_script, kslaw_script⟩ := nm_local (x := "_law_script") hsc (by kernel_rfl) (by decide) (by decide)
  obtain ⟨kllaw_k, kslaw_k⟩ := nm_local (x := "_law_k") hsc (by kernel_rfl) (by decide) (by decide)
  have kglen := nm_glob (x := "len") hsc (by kernel_rfl) (by decide)
  conv in (fnB _ _) => whnf
  kqd_all
  refine dec_and (fun h1 => ?_) (fun h1 => ?_)
  · kqd_all
    have h2 : k.toNat < xs.length := by simp at h1; omega
    refine sub_lst hk (by simp; omega) (v := .int xs[k.toNat]) (by simp [h2]) ?_
    kqd_all
    have : cellI xs k = xs[k.toNat] := by
      unfold cellI; rw [if_pos (by simpa using h1)]; simp [List.getD_eq_getElem?_getD, h2]
    rw [this] at h; exact h
  · kqd_all
    have : cellI xs k = 0 := by unfold cellI; rw [if_neg (by simpa using h1)]
    rw [this] at h; exact h
theorem s_whole (P : P01 B) (hd : 1 ≤ d) (i : Int) (h : Q (.bool true) own) : CallA B d 110 [.int i] own Q E := by
  have P' := P
  obtain ⟨G, m58, f58, m65, f65, m72, f72, m79, f79, m84, f84, m91, f91, m96, f96, m103, f103, m110, f110, m117, f117, m124, f124, m129, f129, m134, f134, ⟨_, gMJ⟩, ⟨_, gMB⟩⟩ := P
  obtain ⟨d, rfl⟩ : ∃ e, d = e + 1 := ⟨d - 1, by omega⟩
  refine call_in G.base f110 rfl fun env he hsc => ?_
  obtain ⟨kllaw_found, kslaw_found⟩ := nm_local (x := "_law_found") hsc (by kernel_rfl) (by decide) (by decide)
  have kgisinstance := nm_glob (x := "isinstance") hsc (by kernel_rfl) (by decide)
  have kgint := nm_glob (x := "int") hsc (by kernel_rfl) (by decide)
  have kgbool := nm_glob (x := "bool") hsc (by kernel_rfl) (by decide)
  conv in (fnB _ _) => whnf
  kqd_all
theorem s_mixed (P : P01 B) (hd : 1 ≤ d) (c k : Int) (h : Q (.int (mixedI c k)) own) : CallA B d 117 [.int c, .int k] own Q E := by
  have P' := P
  obtain ⟨G, m58, f58, m65, f65, m72, f72, m79, f79, m84, f84, m91, f91, m96, f96, m103, f103, m110, f110, m117, f117, m124, f124, m129, f129, m134, f134, ⟨_, gMJ⟩, ⟨_, gMB⟩⟩ := P
  obtain ⟨d, rfl⟩ : ∃ e, d = e + 1 := ⟨d - 1, by omega⟩
  refine call_in G.base f117 rfl fun env he hsc => ?_
  obtain ⟨kllaw_cell, kslaw_cell⟩ := nm_local (x := "_law_cell") hsc (by kernel_rfl) (by decide) (by decide)
  obtain ⟨kllaw_k, kslaw_k⟩ := nm_local (x := "_law_k") hsc (by kernel_rfl) (by decide) (by decide)
  obtain ⟨kllaw_found, kslaw_found⟩ := nm_local (x := "_law_found") hsc (by kernel_rfl) (by decide) (by decide)
  conv in (fnB _ _) => whnf
  kqd_all
  exact h
theorem s_free (P : P01 B) (hd : 2 ≤ d) (xs : List Int) (hxs : xs.length ≤ 63) (first count : Int) (many : Nat) (hf : 0 ≤ first) (hc : 2 ≤ count) (hm : many ≤ 100)
    (h : ∀ a, a ∉ addrs own → Q (.ref a) ((a, .list ((List.range many).map fun k => barV (freeBar xs first count k))) :: own)) : CallA B d 124 [.lst (xs.map .int), .int first, .int count, .int many] own Q E := by
  have P' := P
  obtain ⟨G, m58, f58, m65, f65, m72, f72, m79, f79, m84, f84, m91, f91, m96, f96, m103, f103, m110, f110, m117, f117, m124, f124, m129, f129, m134, f134, ⟨_, gMJ⟩, ⟨_, gMB⟩⟩ := P
  obtain ⟨d, rfl⟩ : ∃ e, d = e + 1 := ⟨d - 1, by omega⟩
  refine call_in G.base f124 rfl fun env he hsc => ?_
  obtain ⟨kllaw_script, kslaw_script⟩ := nm_local (x := "_law_script") hsc (by kernel_rfl) (by decide) (by decide)
  obtain ⟨kllaw_first, kslaw_first⟩ := nm_local (x := "_law_first") hsc (by kernel_rfl) (by decide) (by decide)
  obtain ⟨kllaw_count, kslaw_count⟩ := nm_local (x := "_law_count") hsc (by kernel_rfl) (by decide) (by decide)
  obtain ⟨kllaw_many, kslaw_many⟩ := nm_local (x := "_law_many") hsc (by kernel_rfl) (by decide) (by decide)
  obtain ⟨kllaw_bars, kslaw_bars⟩ := nm_local (x := "_law_bars") hsc (by kernel_rfl) (by decide) (by decide)
  obtain ⟨kllaw_k, kslaw_k⟩ := nm_local (x := "_law_k") hsc (by kernel_rfl) (by decide) (by decide)
  obtain ⟨kllaw_cell, kslaw_cell⟩ := nm_local (x := "_law_cell") hsc (by kernel_rfl) (by decide) (by decide)
  obtain ⟨kllaw_one, kslaw_one⟩ := nm_local (x := "_law_one") hsc (by kernel_rfl) (by decide) (by decide)
  have kgrange := nm_glob (x := "range") hsc (by kernel_rfl) (by decide)
  have kglaw_mixed := nm_glob (x := "_law_mixed") hsc (by kernel_rfl) (by decide)
  have kglaw_cell_at := nm_glob (x := "_law_cell_at") hsc (by kernel_rfl) (by decide)
  conv in (fnB _ _) => whnf
  kqd_all
  refine ev_list (o := true) ?_
  kqd_all
  refine mkL_own fun a ha => ?_
  kqd_all
  refine evS_forJ he (tg := .name "_law_k") ⟨⟨_, rfl⟩, kslaw_k⟩ (fun _ => rfl) ?_
  refine evI_r G he (by decide) kgrange.k rfl ?_
  kqd_all
  refine rangeS_one (by omega) ?_
  refine ⟨fun rest loc o => ∃ k : Nat, k ≤ many ∧ rest = rangeX k many ∧ loc.lookup "_law_script" = some (.lst (xs.map .int)) ∧ loc.lookup "_law_first" = some (.int first) ∧ loc.lookup "_law_count" = some (.int count) ∧ loc.lookup "_law_bars" = some (.ref a) ∧
    o = (a, .list ((List.range k).map fun k => barV (freeBar xs first count k))) :: own, ⟨0, Nat.zero_le _, rfl, rfl, rfl, rfl, rfl, rfl⟩, ?_, ?_⟩
  · rintro x rest loc o ⟨k, hk, hr, l1, l2, l3, l4, rfl⟩
    obtain ⟨hlt, rfl, rfl⟩ := rangeX_eq hr.symm
    kqd_all
    refine s_cell_at P' (by omega) _ hxs _ (by omega) ?_
    kqd_all
    refine s_mixed P' (by omega) _ _ ?_
    kqd_all
    refine ⟨k + 1, by omega, by simp, ?_, ?_, ?_, ?_, ?_⟩
    · simp [Loc.lookup_upd, l1]
    · simp [Loc.lookup_upd, l2]
    · simp [Loc.lookup_upd, l3]
    · simp [Loc.lookup_upd, l4]
    · rw [put_head ha, List.range_succ, List.map_append]; rfl
  · rintro loc o ⟨k, hk, hr, l1, l2, l3, l4, rfl⟩
    have := rangeX_end hr.symm
    have hkm : k = many := by omega
    subst hkm
    kqd_all
    exact h a ha
end

open PySem PySem.Spec
noncomputable def okBar (n : Int) (b : Int × Int) : Prop := 0 ≤ b.1 ∧ b.1 ≤ n - 1 ∧ 0 ≤ b.2 ∧ b.2 ≤ n - 1 ∧ b.1 ≠ b.2
section
variable {B : Amb} {d : Nat} {own : Own} {Q : AV → Own → Prop} {E : Addr → Own → Prop}
theorem s_checked (P : P01 B) (hd : 5 ≤ d) (n : Int) (bs : List (Int × Int)) (hn : 1 ≤ n ∧ n ≤ 16) (hl : bs.length ≤ 60) (hv : ∀ b ∈ bs, okBar n b)
    (h : ∀ a, a ∉ addrs own → Q (.ref a) ((a, .list (bs.map barV)) :: own)) : CallA B d 84 [.int n, .lst (bs.map barV)] own Q E := by
  have P' := P
  obtain ⟨G, m58, f58, m65, f65, m72, f72, m79, f79, m84, f84, m91, f91, m96, f96, m103, f103, m110, f110, m117, f117, m124, f124, m129, f129, m134, f134, ⟨_, gMJ⟩, ⟨_, gMB⟩⟩ := P
  obtain ⟨d, rfl⟩ : ∃ e, d = e + 1 := ⟨d - 1, by omega⟩
  refine call_in G.base f84 rfl fun env he hsc => ?_
  obtain ⟨klcount, kscount⟩ := nm_cell (x := "count") hsc (by kernel_rfl) (by decide) (by decide)
  obtain ⟨klbars, ksbars⟩ := nm_local (x := "bars") hsc (by kernel_rfl) (by decide) (by decide)
  have kgneed_count := nm_glob (x := "need_count") hsc (by kernel_rfl) (by decide)
  have kgisinstance := nm_glob (x := "isinstance") hsc (by kernel_rfl) (by decide)
  have kglist := nm_glob (x := "list") hsc (by kernel_rfl) (by decide)
  have kglen := nm_glob (x := "len") hsc (by kernel_rfl) (by decide)
  have kgMOST_BARS := nm_glob (x := "MOST_BARS") hsc (by kernel_rfl) (by decide)
  have kgall := nm_glob (x := "all") hsc (by kernel_rfl) (by decide)
  have kgBadBar := nm_glob (x := "BadBar") hsc (by kernel_rfl) (by decide)
  conv in (fnB _ _) => whnf
  kqd_all
  refine s_need_count P' (by omega) _ hn ?_
  kqd_all
  refine no_and' (by simp; omega) ?_
  kqd_all
  refine ev_comp (o := false) (tg := .name "bar") (fv := ["count"]) he (ScOk.of rfl (by decide +kernel) (by kernel_rfl) (fun x hx => by simp at hx; subst hx; exact .inl (kind_of hsc (by kernel_rfl))) (fun x hx => by simp [Tgt.names] at hx; subst hx; exact .inl (by kernel_rfl))) ⟨_, rfl⟩ (fun _ => rfl) ?_
  refine evI_l ?_
  kqd_all
  refine forL_lst (by simp; omega) ?_
  refine compJ_fm (fun _ => true) (fun _ => .bool true) (by simp; omega) (fun cenv hce hcs x hx => ?_) ?_
  · obtain ⟨b, hb, rfl⟩ := List.mem_map.mp hx
    have k1 := nmc_free (x := "count") hcs (by kernel_rfl) (by decide) (by decide)
    have k2 := nmc_local (x := "bar") hcs (by kernel_rfl) (by decide) (by decide)
    have k3 := nmc_glob (x := "is_bar") hcs (by kernel_rfl) (by decide)
    kqd_all
    refine ⟨rfl, evTs_nil ⟨rfl, rfl, fun _ => ?_⟩⟩
    kqd_all
    refine s_is_bar P' (by omega) n b.1 b.2 ⟨?_, rfl⟩
    have := hv b hb
    simp only [okBar] at this
    simp [this]
  · have e : ((bs.map barV).filter (fun _ => true)).map (fun _ => AV.bool true) = bs.map (fun _ => AV.bool true) := by rw [List.filter_eq_self.mpr (fun _ _ => rfl), List.map_map]; rfl
    rw [e]
    refine mkL_frz ?_
    kqd_all
    refine all_map (p := fun _ => true) ?_
    have e2 : bs.all (fun _ => true) = true := by simp
    rw [e2]
    kqd_all
    refine ev_listc (o := true) G he (by decide) kglist.k rfl ?_
    kqd_all
    refine list_lst (by simp; omega) (mkL_own fun a ha => ?_)
    kqd_all
    exact h a ha
end

open PySem PySem.Spec
noncomputable def insideI (bs : List (Int × Int)) (js : List Int) : List Int := (bs.zipIdx.filter fun q => decide (q.1.1 ∈ js) && decide (q.1.2 ∈ js)).map fun q => ((q.2 : Nat) : Int)
noncomputable def barOf : AV → Int × Int
  | .tup [.int i, .int j] => (i, j)
  | _ => (0, 0)
noncomputable def pairN : AV → Int
  | .tup (.int k :: _) => k
  | _ => 0
noncomputable def pairB : AV → Int × Int
  | .tup [_, b] => barOf b
  | _ => (0, 0)
section
variable {B : Amb} {d : Nat} {own : Own} {Q : AV → Own → Prop} {E : Addr → Own → Prop}
theorem s_joints_of (P : P01 B) (hd : 1 ≤ d) (bs : List (Int × Int)) (hl : bs.length ≤ 60) (hv : ∀ b ∈ bs, 0 ≤ b.1 ∧ b.1 < 16 ∧ 0 ≤ b.2 ∧ b.2 < 16)
    (h : ∀ js : List Int, js.Pairwise (· < ·) → (∀ k, k ∈ js ↔ ∃ b ∈ bs, k = b.1 ∨ k = b.2) → Q (.lst (js.map .int)) own) : CallA B d 91 [.lst (bs.map barV)] own Q E := by
  refine CallA.drop ?_
  have P' := P
  obtain ⟨G, m58, f58, m65, f65, m72, f72, m79, f79, m84, f84, m91, f91, m96, f96, m103, f103, m110, f110, m117, f117, m124, f124, m129, f129, m134, f134, ⟨_, gMJ⟩, ⟨_, gMB⟩⟩ := P
  obtain ⟨d, rfl⟩ : ∃ e, d = e + 1 := ⟨d - 1, by omega⟩
  refine call_in G.base f91 rfl fun env he hsc => ?_
  obtain ⟨klbars, ksbars⟩ := nm_local (x := "bars") hsc (by kernel_rfl) (by decide) (by decide)
  obtain ⟨klfound, ksfound⟩ := nm_local (x := "found") hsc (by kernel_rfl) (by decide) (by decide)
  obtain ⟨klone, ksone⟩ := nm_local (x := "one") hsc (by kernel_rfl) (by decide) (by decide)
  obtain ⟨klother, ksother⟩ := nm_local (x := "other") hsc (by kernel_rfl) (by decide) (by decide)
  have kgsorted := nm_glob (x := "sorted") hsc (by kernel_rfl) (by decide)
  conv in (fnB _ _) => whnf
  kqd_all
  refine ev_dict0 G.base fun a ha hns => ?_
  kqd_all
  refine evS_forJ he (tg := .tup ["one", "other"]) ⟨⟨[_, _], _, _, rfl, rfl⟩, fun x hx => by rcases List.mem_cons.mp hx with rfl | hx; exact ksone; rcases List.mem_singleton.mp hx with rfl; exact ksother⟩ (fun _ => rfl) ?_
  refine evI_l ?_
  kqd_all
  refine forL_lst (by simp; omega) ?_
  refine ⟨fun rest loc o => ∃ pre post es, bs = pre ++ post ∧ rest = post.map barV ∧ loc.lookup "found" = some (.ref a) ∧ o = (a, .dict es) :: own ∧ (es.map (·.1)).Nodup ∧ ∀ k, k ∈ es.map (·.1) ↔ ∃ b ∈ pre, k = b.1 ∨ k = b.2,
    ⟨[], bs, [], rfl, rfl, rfl, rfl, by simp, by simp⟩, ?_, ?_⟩
  · rintro x rest loc o ⟨pre, post, es, hb, hr, l1, rfl, hnd, hk⟩
    cases post with
    | nil => simp at hr
    | cons b post =>
      simp only [List.map_cons, List.cons.injEq] at hr
      obtain ⟨rfl, rfl⟩ := hr
      have hes : es.length ≤ 16 := by
        have := nodup_below 16 (es.map (·.1)) hnd fun x hx => by
          obtain ⟨b, hb', e⟩ := (hk x).mp hx
          have := hv b (by rw [hb]; simp [hb'])
          rcases e with rfl | rfl <;> omega
        simpa using this
      refine ⟨[.int b.1, .int b.2], rfl, rfl, ?_⟩
      have l1' : (Loc.upds ["one", "other"] [.int b.1, .int b.2] loc).lookup "found" = some (.ref a) := by simp [Loc.upds, Loc.lookup_upd, l1]
      have l2' : (Loc.upds ["one", "other"] [.int b.1, .int b.2] loc).lookup "one" = some (.int b.1) := by simp [Loc.upds, Loc.lookup_upd]
      have l3' : (Loc.upds ["one", "other"] [.int b.1, .int b.2] loc).lookup "other" = some (.int b.2) := by simp [Loc.upds, Loc.lookup_upd]
      generalize Loc.upds ["one", "other"] [.int b.1, .int b.2] loc = loc' at l1' l2' l3' ⊢
      kqd_all
      refine evS_setSub rfl ?_
      kqd_all
      refine set_dict lookup_head (by omega) ?_
      rw [put_head ha]
      kqd_all
      refine evS_setSub rfl ?_
      kqd_all
      refine set_dict lookup_head ?_ ?_
      · have := List.length_map (as := dput es b.1 (.bool true)) (fun e => e.1)
        unfold dput; split <;> simp <;> omega
      rw [put_head ha]
      kqd_all
      refine ⟨pre ++ [b], post, _, by rw [hb]; simp, rfl, l1', rfl, dput_nodup (dput_nodup hnd), fun k => ?_⟩
      rw [dput_key, dput_key, hk k]
      constructor
      · rintro (rfl | rfl | ⟨b', hb', e⟩)
        · exact ⟨b, by simp, .inr rfl⟩
        · exact ⟨b, by simp, .inl rfl⟩
        · exact ⟨b', by simp [hb'], e⟩
      · rintro ⟨b', hb', e⟩
        rcases List.mem_append.mp hb' with hb' | hb'
        · exact .inr (.inr ⟨b', hb', e⟩)
        · rw [List.mem_singleton] at hb'; subst hb'
          rcases e with rfl | rfl
          · exact .inr (.inl rfl)
          · exact .inl rfl
  · rintro loc o ⟨pre, post, es, hb, hr, l1, rfl, hnd, hk⟩
    have hpo : post = [] := by cases post with
      | nil => rfl
      | cons _ _ => simp at hr
    subst hpo
    simp only [List.append_nil] at hb
    subst hb
    have hes : es.length ≤ 16 := by
      have := nodup_below 16 (es.map (·.1)) hnd fun x hx => by
        obtain ⟨b, hb', e⟩ := (hk x).mp hx
        have := hv b hb'
        rcases e with rfl | rfl <;> omega
      simpa using this
    kqd_all
    refine ev_sortedD (o := false) G he (by decide) kgsorted.k rfl ?_
    kqd_all
    refine ⟨_, rfl, a, es, rfl, lookup_head, hns, by omega, fun ns' hp hs => mkL_frz ?_⟩
    kqd_all
    exact ⟨own, List.sublist_cons_self _ _, h ns' (strict_of hs (hp.nodup_iff.mpr hnd)) fun k => hp.mem_iff.trans (hk k)⟩
end

open PySem PySem.Spec
section
variable {B : Amb} {d : Nat} {own : Own} {Q : AV → Own → Prop} {E : Addr → Own → Prop}
theorem enum_bars (bs : List (Int × Int)) : enumL (bs.map barV) = bs.zipIdx.map fun q => .tup [.int (q.2 : Nat), barV q.1] := by
  unfold enumL
  rw [List.zipIdx_map, List.map_map]
  rfl
theorem s_among (P : P01 B) (hd : 1 ≤ d) (bs : List (Int × Int)) (js : List Int) (hl : bs.length ≤ 60) (hj : js.length ≤ 100)
    (h : Q (.lst ((insideI bs js).map .int)) own) : CallA B d 96 [.lst (bs.map barV), .lst (js.map .int)] own Q E := by
  have P' := P
  obtain ⟨G, m58, f58, m65, f65, m72, f72, m79, f79, m84, f84, m91, f91, m96, f96, m103, f103, m110, f110, m117, f117, m124, f124, m129, f129, m134, f134, ⟨_, gMJ⟩, ⟨_, gMB⟩⟩ := P
  obtain ⟨d, rfl⟩ : ∃ e, d = e + 1 := ⟨d - 1, by omega⟩
  refine call_in G.base f96 rfl fun env he hsc => ?_
  obtain ⟨klbars, ksbars⟩ := nm_local (x := "bars") hsc (by kernel_rfl) (by decide) (by decide)
  obtain ⟨kljoints, ksjoints⟩ := nm_cell (x := "joints") hsc (by kernel_rfl) (by decide) (by decide)
  have kgenumerate := nm_glob (x := "enumerate") hsc (by kernel_rfl) (by decide)
  conv in (fnB _ _) => whnf
  kqd_all
  refine ev_comp (o := false) (tg := .tup ["number", "bar"]) (fv := ["joints"]) he (ScOk.of rfl (by decide +kernel) (by kernel_rfl) (fun x hx => by rcases List.mem_singleton.mp hx with rfl; exact .inl (kind_of hsc (by kernel_rfl)))
    (fun x hx => by rcases List.mem_cons.mp hx with rfl | hx; exact .inl (by kernel_rfl); rcases List.mem_singleton.mp hx with rfl; exact .inl (by kernel_rfl))) ⟨[_, _], _, _, rfl, rfl⟩ (fun _ => rfl) ?_
  refine evI_e G he (by decide) kgenumerate.k rfl ⟨_, _, _, rfl⟩ ?_
  kqd_all
  refine enumS_lst (by simp; omega) ?_
  rw [enum_bars]
  refine compJ_fm (fun x => decide ((pairB x).1 ∈ js) && decide ((pairB x).2 ∈ js)) (fun x => .int (pairN x)) (by simp; omega) (fun cenv hce hcs x hx => ?_) ?_
  · obtain ⟨q, hq, rfl⟩ := List.mem_map.mp hx
    have k1 := nmc_free (x := "joints") hcs (by kernel_rfl) (by decide) (by decide)
    have k2 := nmc_local (x := "bar") hcs (by kernel_rfl) (by decide) (by decide)
    have k3 := nmc_local (x := "number") hcs (by kernel_rfl) (by decide) (by decide)
    have hpi : ∀ y ∈ js.map AV.int, y.pure = true := fun y hy => by obtain ⟨i, _, rfl⟩ := List.mem_map.mp hy; rfl
    have hdi : ∀ y ∈ js.map AV.int, y.dat 8 = true := fun y hy => by obtain ⟨i, _, rfl⟩ := List.mem_map.mp hy; rfl
    have hin : ∀ i : Int, AV.int i ∈ js.map AV.int ↔ i ∈ js := fun i => by simp
    refine ⟨_, rfl, rfl, rfl, evTs_cons ?_⟩
    show EvT B d cenv _ _ own (fun b own₁ => if b = true then _ else _) _
    have hpb : pairB (.tup [.int (q.2 : Nat), barV q.1]) = q.1 := rfl
    kqd_all
    refine tup0 (x := .int q.1.1) (xs := [.int q.1.2]) (by simp) ?_
    kqd_all
    refine cmp_inP (ys := js.map AV.int) (.inl rfl) rfl hpi rfl hdi (fun h1 => ?_) (fun h1 => ?_)
    · rw [hin] at h1
      kqd_all
      refine tup1 (x := .int q.1.1) (y := .int q.1.2) (xs := []) (by simp) ?_
      kqd_all
      refine cmp_inP (ys := js.map AV.int) (.inl rfl) rfl hpi rfl hdi (fun h2 => ?_) (fun h2 => ?_)
      · rw [hin] at h2
        simp only [if_true]
        refine evTs_nil ⟨by rw [hpb]; simp [h1, h2], rfl, fun _ => ?_⟩
        kqd_all
        exact ⟨rfl, rfl⟩
      · rw [hin] at h2
        simp only [Bool.false_eq_true, if_false]
        refine ⟨by rw [hpb]; simp [h2], by trivial, fun hc => by rw [hpb] at hc; simp [h2] at hc⟩
    · rw [hin] at h1
      kqd_all
      simp only [Bool.false_eq_true, if_false]
      refine ⟨by rw [hpb]; simp [h1], by trivial, fun hc => by rw [hpb] at hc; simp [h1] at hc⟩
  · refine mkL_frz ?_
    kqd_all
    have e : ((bs.zipIdx.map fun q => AV.tup [.int (q.2 : Nat), barV q.1]).filter fun x => decide ((pairB x).1 ∈ js) && decide ((pairB x).2 ∈ js)).map (fun x => AV.int (pairN x)) = (insideI bs js).map .int := by
      rw [List.filter_map, List.map_map, insideI, List.map_map]; rfl
    rw [e]; exact h
theorem s_rising (P : P01 B) (hd : 2 ≤ d) (js : List Int) (lo hi : Int) (hl : js.length < 64) (hs : js.Pairwise (· < ·)) (hb : ∀ x ∈ js, lo ≤ x ∧ x ≤ hi)
    (h : Q (.bool true) own) : CallA B d 129 [.lst (js.map .int), .int lo, .int hi] own Q E := by
  have P' := P
  obtain ⟨G, m58, f58, m65, f65, m72, f72, m79, f79, m84, f84, m91, f91, m96, f96, m103, f103, m110, f110, m117, f117, m124, f124, m129, f129, m134, f134, ⟨_, gMJ⟩, ⟨_, gMB⟩⟩ := P
  obtain ⟨d, rfl⟩ : ∃ e, d = e + 1 := ⟨d - 1, by omega⟩
  refine call_in G.base f129 rfl fun env he hsc => ?_
  obtain ⟨kllaw_found, kslaw_found⟩ := nm_local (x := "_law_found") hsc (by kernel_rfl) (by decide) (by decide)
  obtain ⟨kllaw_least, kslaw_least⟩ := nm_cell (x := "_law_least") hsc (by kernel_rfl) (by decide) (by decide)
  obtain ⟨kllaw_most, kslaw_most⟩ := nm_cell (x := "_law_most") hsc (by kernel_rfl) (by decide) (by decide)
  have kgisinstance := nm_glob (x := "isinstance") hsc (by kernel_rfl) (by decide)
  have kglist := nm_glob (x := "list") hsc (by kernel_rfl) (by decide)
  have kgall := nm_glob (x := "all") hsc (by kernel_rfl) (by decide)
  have kgsorted := nm_glob (x := "sorted") hsc (by kernel_rfl) (by decide)
  have kgset := nm_glob (x := "set") hsc (by kernel_rfl) (by decide)
  conv in (fnB _ _) => whnf
  kqd_all
  refine ev_comp (o := false) (tg := .name "_law_one") (fv := ["_law_least", "_law_most"]) he (ScOk.of rfl (by decide +kernel) (by kernel_rfl) (fun x hx => by rcases List.mem_cons.mp hx with rfl | hx; exact .inl (kind_of hsc (by kernel_rfl)); rcases List.mem_singleton.mp hx with rfl; exact .inl (kind_of hsc (by kernel_rfl)))
    (fun x hx => by rcases List.mem_singleton.mp hx with rfl; exact .inl (by kernel_rfl))) ⟨_, rfl⟩ (fun _ => rfl) ?_
  refine evI_l ?_
  kqd_all
  refine forL_lst (by simp; omega) ?_
  refine compJ_fm (fun _ => true) (fun _ => .bool true) (by simp; omega) (fun cenv hce hcs x hx => ?_) ?_
  · obtain ⟨i, hi', rfl⟩ := List.mem_map.mp hx
    have k1 := nmc_free (x := "_law_least") hcs (by kernel_rfl) (by decide) (by decide)
    have k2 := nmc_free (x := "_law_most") hcs (by kernel_rfl) (by decide) (by decide)
    have k3 := nmc_local (x := "_law_one") hcs (by kernel_rfl) (by decide) (by decide)
    have k4 := nmc_glob (x := "_law_whole") hcs (by kernel_rfl) (by decide)
    have h2 := hb i hi'
    refine ⟨rfl, evTs_nil ⟨rfl, rfl, fun _ => ?_⟩⟩
    kqd_all
    refine s_whole P' (by omega) _ ?_
    kqd_all
    refine yes_and h2.1 ?_
    kqd_all
    exact ⟨by simp [h2.2], rfl⟩
  · have e : ((js.map AV.int).filter (fun _ => true)).map (fun _ => AV.bool true) = js.map (fun _ => AV.bool true) := by rw [List.filter_eq_self.mpr (fun _ _ => rfl), List.map_map]; rfl
    rw [e]
    refine mkL_frz ?_
    kqd_all
    refine all_map (p := fun _ => true) ?_
    have e2 : js.all (fun _ => true) = true := by simp
    rw [e2]
    kqd_all
    refine ev_sortedSet (o := false) G he (by decide) (by decide) kgsorted.k kgset.k rfl rfl ?_
    kqd_all
    refine ⟨_, rfl, js.map .int, js, rfl, intsOf_map js, by simp; omega, fun ns' h1 h2 => mkL_frz ?_⟩
    have e3 : ns' = js := sorted_unique h1 hs h2
    subst e3
    refine cmp_eqP rfl rfl pure_ints pure_ints dat_ints dat_ints (fun _ => ?_) (fun hc => absurd rfl hc)
    kqd_all
end

open PySem PySem.Spec
theorem mod_ne {o r n : Int} (h1 : 0 ≤ o) (h2 : o < n) (h3 : 0 ≤ r) (h4 : r < n - 1) : o ≠ (o + 1 + r) % n := by
  rcases Int.lt_or_le (o + 1 + r) n with h | h
  · rw [Int.emod_eq_of_lt (by omega) h]; omega
  · have e : (o + 1 + r) % n = (o + 1 + r - n) % n := by
      have := Int.add_mul_emod_self_left (o + 1 + r) n (-1)
      rw [← this]; congr 1; omega
    rw [e, Int.emod_eq_of_lt (by omega) (by omega)]; omega
theorem freeBar_ok (xs : List Int) (first n : Int) (hn : 2 ≤ n) (k : Nat) : okBar n (freeBar xs first n k) := by
  unfold freeBar okBar
  dsimp only
  generalize mixedI (cellI xs (first + (k : Int) % 5)) k = c
  have a1 := Int.emod_nonneg c (show n ≠ 0 by omega)
  have a2 := Int.emod_lt_of_pos c (show 0 < n by omega)
  have b1 := Int.emod_nonneg (c / 97) (show n - 1 ≠ 0 by omega)
  have b2 := Int.emod_lt_of_pos (c / 97) (show 0 < n - 1 by omega)
  have c1 := Int.emod_nonneg (c % n + 1 + c / 97 % (n - 1)) (show n ≠ 0 by omega)
  have c2 := Int.emod_lt_of_pos (c % n + 1 + c / 97 % (n - 1)) (show 0 < n by omega)
  exact ⟨a1, by omega, c1, by omega, mod_ne a1 a2 b1 b2⟩
theorem pure_bars (bs : List (Int × Int)) : AV.pure (.lst (bs.map barV)) = true := by
  unfold AV.pure
  induction bs with
  | nil => rfl
  | cons b bs ih => simpa [AV.pures, AV.pure, barV] using ih
theorem dat_bars (bs : List (Int × Int)) : AV.dat 8 (.lst (bs.map barV)) = true := by
  simp only [AV.dat]; rw [AV.dats_iff]; intro x hx; obtain ⟨b, _, rfl⟩ := List.mem_map.mp hx; rfl
noncomputable def intA : AV → Int
  | .int i => i
  | _ => 0
noncomputable def rangeI (a b : Int) : List Int := (List.range (b - a).toNat).map fun i => a + (i : Nat)
theorem rangeX_I (a b : Int) : rangeX a b = (rangeI a b).map AV.int := by
  unfold rangeX rangeL rangeI; rw [List.map_map]; rfl
theorem mem_rangeI {a b k : Int} : k ∈ rangeI a b ↔ a ≤ k ∧ k < b := by
  unfold rangeI
  rw [List.mem_map]
  constructor
  · rintro ⟨i, hi, rfl⟩; rw [List.mem_range] at hi; omega
  · intro h; exact ⟨(k - a).toNat, List.mem_range.mpr (by omega), by omega⟩
theorem rangeI_sorted (a b : Int) : (rangeI a b).Pairwise (· < ·) := by
  unfold rangeI
  rw [List.pairwise_map]
  exact List.pairwise_lt_range.imp fun h => by omega
theorem rangeI_length (a b : Int) : (rangeI a b).length = (b - a).toNat := by simp [rangeI]
theorem filter_ints (l : List Int) (p : AV → Bool) : ((l.map AV.int).filter p).map (fun x => x) = (l.filter fun i => p (.int i)).map AV.int := by
  rw [List.filter_map, List.map_id']; rfl
theorem inside_sorted (bs : List (Int × Int)) (js : List Int) : (insideI bs js).Pairwise (· < ·) := by
  unfold insideI
  rw [List.pairwise_map]
  have h1 : (bs.zipIdx.map (·.2)).Pairwise (· < ·) := by rw [List.zipIdx_map_snd]; exact List.pairwise_lt_range'
  have h2 : bs.zipIdx.Pairwise (fun x y => x.2 < y.2) := List.pairwise_map.mp h1
  exact (h2.filter _).imp fun h => by omega
theorem inside_bound (bs : List (Int × Int)) (js : List Int) : ∀ x ∈ insideI bs js, 0 ≤ x ∧ x < bs.length := by
  intro x hx
  unfold insideI at hx
  obtain ⟨q, hq, rfl⟩ := List.mem_map.mp hx
  have := List.snd_lt_of_mem_zipIdx (List.mem_filter.mp hq).1
  omega
theorem inside_length (bs : List (Int × Int)) (js : List Int) : (insideI bs js).length ≤ bs.length := by
  unfold insideI
  rw [List.length_map]
  exact Nat.le_trans (List.length_filter_le _ _) (by simp)
theorem mem_inside {bs : List (Int × Int)} {js : List Int} {k : Int} : k ∈ insideI bs js ↔ ∃ i b, k = ((i : Nat) : Int) ∧ bs[i]? = some b ∧ b.1 ∈ js ∧ b.2 ∈ js := by
  unfold insideI
  rw [List.mem_map]
  constructor
  · rintro ⟨⟨b, i⟩, hq, rfl⟩
    rw [List.mem_filter] at hq
    have h1 := List.mem_zipIdx_iff_getElem?.mp hq.1
    have h2 := hq.2
    simp only [Bool.and_eq_true, decide_eq_true_eq] at h2
    exact ⟨i, b, rfl, h1, h2⟩
  · rintro ⟨i, b, rfl, hb, h1, h2⟩
    exact ⟨(b, i), List.mem_filter.mpr ⟨List.mem_zipIdx_iff_getElem?.mpr hb, by simp [h1, h2]⟩, rfl⟩
section
variable {B : Amb} {d : Nat} {own : Own} {Q : AV → Own → Prop} {E : Addr → Own → Prop}
theorem s_law (P : P01 B) (hd : 8 ≤ d) (xs : List Int) (hxs : xs.length ≤ 63) (h : ∀ o, Q (.bool true) o) : CallA B d 134 [.lst (xs.map .int)] own Q E := by
  have P' := P
  obtain ⟨G, m58, f58, m65, f65, m72, f72, m79, f79, m84, f84, m91, f91, m96, f96, m103, f103, m110, f110, m117, f117, m124, f124, m129, f129, m134, f134, ⟨_, gMJ⟩, ⟨_, gMB⟩⟩ := P
  obtain ⟨d, rfl⟩ : ∃ e, d = e + 1 := ⟨d - 1, by omega⟩
  refine call_in G.base f134 rfl fun env he hsc => ?_
  obtain ⟨kllaw_script, kslaw_script⟩ := nm_cell (x := "_law_script") hsc (by kernel_rfl) (by decide) (by decide)
  obtain ⟨kllaw_count, kslaw_count⟩ := nm_local (x := "_law_count") hsc (by kernel_rfl) (by decide) (by decide)
  obtain ⟨kllaw_many, kslaw_many⟩ := nm_local (x := "_law_many") hsc (by kernel_rfl) (by decide) (by decide)
  obtain ⟨kllaw_bars, kslaw_bars⟩ := nm_cell (x := "_law_bars") hsc (by kernel_rfl) (by decide) (by decide)
  obtain ⟨kllaw_handed, kslaw_handed⟩ := nm_local (x := "_law_handed") hsc (by kernel_rfl) (by decide) (by decide)
  obtain ⟨kllaw_found, kslaw_found⟩ := nm_local (x := "_law_found") hsc (by kernel_rfl) (by decide) (by decide)
  obtain ⟨kllaw_some, kslaw_some⟩ := nm_cell (x := "_law_some") hsc (by kernel_rfl) (by decide) (by decide)
  obtain ⟨kllaw_told, kslaw_told⟩ := nm_local (x := "_law_told") hsc (by kernel_rfl) (by decide) (by decide)
  obtain ⟨kllaw_inside, kslaw_inside⟩ := nm_local (x := "_law_inside") hsc (by kernel_rfl) (by decide) (by decide)
  obtain ⟨kllaw_due, kslaw_due⟩ := nm_local (x := "_law_due") hsc (by kernel_rfl) (by decide) (by decide)
  have kglaw_cell_at := nm_glob (x := "_law_cell_at") hsc (by kernel_rfl) (by decide)
  have kglaw_free := nm_glob (x := "_law_free") hsc (by kernel_rfl) (by decide)
  have kglist := nm_glob (x := "list") hsc (by kernel_rfl) (by decide)
  have kgchecked := nm_glob (x := "checked") hsc (by kernel_rfl) (by decide)
  have kgisinstance := nm_glob (x := "isinstance") hsc (by kernel_rfl) (by decide)
  have kgMOST_JOINTS := nm_glob (x := "MOST_JOINTS") hsc (by kernel_rfl) (by decide)
  have kgMOST_BARS := nm_glob (x := "MOST_BARS") hsc (by kernel_rfl) (by decide)
  have kgrange := nm_glob (x := "range") hsc (by kernel_rfl) (by decide)
  have kgjoints_of := nm_glob (x := "joints_of") hsc (by kernel_rfl) (by decide)
  have kgamong := nm_glob (x := "among") hsc (by kernel_rfl) (by decide)
  have kglaw_rising := nm_glob (x := "_law_rising") hsc (by kernel_rfl) (by decide)
  conv in (fnB _ _) => whnf
  kqd_all
  refine s_cell_at P' (by omega) _ hxs _ (by omega) ?_
  kqd_all
  refine s_cell_at P' (by omega) _ hxs _ (by omega) ?_
  iterate 3 kqd_in
  generalize cellI xs 0 = c0
  generalize hc1 : cellI xs 1 = c1
  generalize hcn : 2 + c0 % 15 = n
  have hn : 2 ≤ n ∧ n ≤ 16 := by omega
  refine evS_seqP (fun l o => o = own ∧ ∃ many : Nat, many ≤ 60 ∧ l = [("_law_script", .lst (xs.map .int)), ("_law_count", .int n), ("_law_many", .int many)]) ?_ ?_
  · kqd_all
    refine s_cell_at P' (by omega) _ hxs _ (by omega) ?_
    rw [hc1]
    kqd_all
    refine dec_and (fun h1 => ?_) (fun h1 => ?_)
    · kqd_all
      refine s_cell_at P' (by omega) _ hxs _ (by omega) ?_
      rw [hc1]
      kqd_all
      refine ⟨rfl, (57 + c1 / 96 % 4).toNat, by omega, ?_⟩
      have : ((57 + c1 / 96 % 4).toNat : Int) = 57 + c1 / 96 % 4 := by omega
      rw [this]; rfl
    · kqd_all
      refine ⟨rfl, (c1 % 12).toNat, by omega, ?_⟩
      have : ((c1 % 12).toNat : Int) = c1 % 12 := by omega
      rw [this]; rfl
  rintro l o ⟨rfl, many, hmany, rfl⟩
  have hbars : ∀ k, okBar n (freeBar xs 3 n k) := freeBar_ok xs 3 n hn.1
  generalize hbs : (List.range many).map (freeBar xs 3 n) = bs
  have hbl : bs.length = many := by rw [← hbs]; simp
  have hbk : ∀ b ∈ bs, okBar n b := fun b hb => by rw [← hbs] at hb; obtain ⟨k, _, rfl⟩ := List.mem_map.mp hb; exact hbars k
  kqd_all
  refine CallA.frz (s_free P' (by omega) xs hxs 3 n many (by omega) (by omega) (by omega) fun a ha => frz_head ha ?_)
  have e1 : ((List.range many).map fun k => barV (freeBar xs 3 n k)) = bs.map barV := by rw [← hbs, List.map_map]; rfl
  rw [e1]
  kqd_all
  refine ev_listc (o := false) G he (by decide) kglist.k rfl ?_
  kqd_all
  refine list_lst (by simp; omega) (mkL_frz ?_)
  kqd_all
  refine s_checked P' (by omega) n bs (by omega) (by omega) hbk fun a1 ha1 => ?_
  kqd_all
  refine cmp_neP (a := .lst (bs.map barV)) (b := .lst (bs.map barV)) (by simp [view]) rfl (pure_bars _) (pure_bars _) (dat_bars _) (dat_bars _) (fun _ => ?_) (fun hc => absurd rfl hc)
  kqd_all
  refine ev_list (o := false) ?_
  kqd_all
  refine mkL_frz ?_
  kqd_all
  refine ev_list (o := false) ?_
  kqd_all
  refine mkL_frz ?_
  refine cmp_neP (a := .lst [.int 16, .int 60]) (b := .lst [.int 16, .int 60]) rfl rfl rfl rfl rfl rfl (fun _ => ?_) (fun hc => absurd rfl hc)
  kqd_all
  rw [put_head ha1]
  refine cmp_neP (a := .lst (bs.map barV)) (b := .lst (bs.map barV)) rfl rfl (pure_bars _) (pure_bars _) (dat_bars _) (dat_bars _) (fun _ => ?_) (fun hc => absurd rfl hc)
  kqd_all
  refine s_checked P' (by omega) n bs (by omega) (by omega) hbk fun a2 ha2 => ?_
  kqd_all
  refine cmp_neP (a := .lst (bs.map barV)) (b := .lst (bs.map barV)) (by simp [view]) rfl (pure_bars _) (pure_bars _) (dat_bars _) (dat_bars _) (fun _ => ?_) (fun hc => absurd rfl hc)
  kqd_all
  refine ev_list (o := false) ?_
  kqd_all
  refine mkL_frz ?_
  kqd_all
  refine s_checked P' (by omega) 1 [] (by omega) (by simp) (by simp) fun a3 ha3 => ?_
  kqd_all
  refine ev_list (o := false) ?_
  kqd_all
  refine mkL_frz ?_
  refine cmp_neP (a := .lst []) (b := .lst []) (by simp [view]) rfl rfl rfl rfl rfl (fun _ => ?_) (fun hc => absurd rfl hc)
  kqd_all
  refine evS_assign (x := "_law_some") he (.inr (kind_of hsc (by kernel_rfl))) (swaps_cell (kind_of hsc (by kernel_rfl))) ?_
  refine ev_comp (o := false) (tg := .name "_law_joint") (fv := ["_law_script"]) he (ScOk.of rfl (by decide +kernel) (by kernel_rfl) (fun x hx => by rcases List.mem_singleton.mp hx with rfl; exact .inl (kind_of hsc (by kernel_rfl)))
    (fun x hx => by rcases List.mem_singleton.mp hx with rfl; exact .inl (by kernel_rfl))) ⟨_, rfl⟩ (fun _ => rfl) ?_
  refine evI_r G he (by decide) kgrange.k rfl ?_
  kqd_all
  refine rangeS_one (by omega) ?_
  refine compJ_fm (fun x => decide (0 < mixedI (cellI xs 2) (intA x) % 3)) (fun x => x) (by rw [rangeX_length]; omega) (fun cenv hce hcs x hx => ?_) ?_
  · rw [rangeX_I] at hx
    obtain ⟨i, hi, rfl⟩ := List.mem_map.mp hx
    have k1 := nmc_free (x := "_law_script") hcs (by kernel_rfl) (by decide) (by decide)
    have k2 := nmc_local (x := "_law_joint") hcs (by kernel_rfl) (by decide) (by decide)
    have k3 := nmc_glob (x := "_law_mixed") hcs (by kernel_rfl) (by decide)
    have k4 := nmc_glob (x := "_law_cell_at") hcs (by kernel_rfl) (by decide)
    refine ⟨rfl, evTs_cons ?_⟩
    kqd_all
    refine s_cell_at P' (by omega) _ hxs _ (by omega) ?_
    kqd_all
    refine s_mixed P' (by omega) _ _ ?_
    kqd_all
    by_cases h1 : 0 < mixedI (cellI xs 2) i % 3
    · simp only [h1, decide_true, if_true]
      refine evTs_nil ⟨by simp [intA, h1], rfl, fun _ => ?_⟩
      kqd_all
      exact ⟨rfl, rfl⟩
    · simp only [h1, decide_false, Bool.false_eq_true, if_false]
      refine ⟨by simp [intA, h1], by trivial, fun hc => by simp [intA, h1] at hc⟩
  rw [rangeX_I, filter_ints]
  generalize hjs : ((rangeI 0 n).filter fun i => decide (0 < mixedI (cellI xs 2) (intA (.int i)) % 3)) = js
  have hjl : js.length ≤ 16 := by
    have := List.length_filter_le (fun i => decide (0 < mixedI (cellI xs 2) (intA (.int i)) % 3)) (rangeI 0 n)
    rw [hjs, rangeI_length] at this; omega
  refine mkL_frz ?_
  kqd_all
  have hb16 : ∀ b ∈ bs, 0 ≤ b.1 ∧ b.1 < 16 ∧ 0 ≤ b.2 ∧ b.2 < 16 := fun b hb => by have := hbk b hb; unfold okBar at this; omega
  refine s_joints_of P' (by omega) bs (by omega) hb16 fun ts hts htm => ?_
  have htb : ∀ x ∈ ts, 0 ≤ x ∧ x ≤ n - 1 := fun x hx => by
    obtain ⟨b, hb, e⟩ := (htm x).mp hx
    have := hbk b hb; unfold okBar at this
    rcases e with rfl | rfl <;> omega
  have htl : ts.length ≤ 16 := nodup_below 16 ts (hts.imp fun h => by omega) fun x hx => by have := htb x hx; omega
  kqd_all
  refine ev_listc (o := false) G he (by decide) kglist.k rfl ?_
  kqd_all
  refine list_lst (by simp; omega) (mkL_frz ?_)
  kqd_all
  refine s_among P' (by omega) bs js (by omega) (by omega) ?_
  kqd_all
  refine s_rising P' (by omega) ts 0 15 (by omega) hts (fun x hx => by have := htb x hx; omega) ?_
  kqd_all
  refine s_rising P' (by omega) (insideI bs js) 0 59 (by have := inside_length bs js; omega) (inside_sorted bs js) (fun x hx => by have := inside_bound bs js x hx; omega) ?_
  kqd_all
  refine evS_assignComp (o := false) (x := "_law_due") (tg := .name "_law_joint") (fv := ["_law_bars"]) he (ScOk.of rfl (by decide +kernel) (by kernel_rfl) (fun x hx => by rcases List.mem_singleton.mp hx with rfl; exact .inl (kind_of hsc (by kernel_rfl)))
    (fun x hx => by rcases List.mem_singleton.mp hx with rfl; exact .inr (by kernel_rfl))) ⟨_, rfl⟩ (fun _ => rfl) (.inl (kind_of hsc (by kernel_rfl))) (swaps_local he (kind_of hsc (by kernel_rfl)) rfl (by decide +kernel)) ?_
  refine evI_r G he (by decide) kgrange.k rfl ?_
  kqd_all
  refine rangeS_one (by omega) ?_
  refine compJ_fm (fun x => bs.any fun b => decide (intA x = b.1) || decide (intA x = b.2)) (fun x => x) (by rw [rangeX_length]; omega) (fun cenv hce hcs x hx => ?_) ?_
  · rw [rangeX_I] at hx
    obtain ⟨i, hi, rfl⟩ := List.mem_map.mp hx
    have k1 := nmc_free (x := "_law_bars") hcs (by kernel_rfl) (by decide) (by decide)
    have k2 := nmc_cell (x := "_law_joint") hcs (by kernel_rfl) (by decide) (by decide)
    refine ⟨rfl, evTs_cons ?_⟩
    kqd_all
    refine ev_comp (o := false) (tg := .name "_law_bar") (fv := ["_law_joint"]) hce (ScOk.of rfl (by decide +kernel) (by kernel_rfl) (fun x hx => by rcases List.mem_singleton.mp hx with rfl; exact .inl (ckind hcs (by kernel_rfl) (by decide)))
      (fun x hx => by rcases List.mem_singleton.mp hx with rfl; exact .inl (by kernel_rfl))) ⟨_, rfl⟩ (fun _ => rfl) ?_
    refine evI_l ?_
    kqd_all
    refine forL_lst (by simp; omega) ?_
    refine compJ_fm (fun y => decide (i = (barOf y).1) || decide (i = (barOf y).2)) (fun y => y) (by simp; omega) (fun cenv2 hce2 hcs2 y hy => ?_) ?_
    · obtain ⟨b, hb, rfl⟩ := List.mem_map.mp hy
      have k3 := nmc_free (x := "_law_joint") hcs2 (by kernel_rfl) (by decide) (by decide)
      have k4 := nmc_local (x := "_law_bar") hcs2 (by kernel_rfl) (by decide) (by decide)
      have hbo : barOf (barV b) = b := rfl
      refine ⟨rfl, evTs_cons ?_⟩
      kqd_all
      refine cmp_inP (ys := [.int b.1, .int b.2]) (.inr rfl) rfl (by simp [AV.pure]) rfl (by simp [AV.dat]) (fun h1 => ?_) (fun h1 => ?_)
      · simp only [List.mem_cons, AV.int.injEq, List.not_mem_nil, or_false] at h1
        simp only [if_true]
        refine evTs_nil ⟨by rw [hbo]; simp [h1], rfl, fun _ => ?_⟩
        kqd_all
        exact ⟨rfl, rfl⟩
      · simp only [List.mem_cons, AV.int.injEq, List.not_mem_nil, or_false, not_or] at h1
        simp only [Bool.false_eq_true, if_false]
        refine ⟨by rw [hbo]; simp [h1], by trivial, fun hc => by rw [hbo] at hc; simp [h1] at hc⟩
    have e4 : ((bs.map barV).filter fun y => decide (i = (barOf y).1) || decide (i = (barOf y).2)).map (fun y => y) = (bs.filter fun b => decide (i = b.1) || decide (i = b.2)).map barV := by
      rw [List.filter_map, List.map_id']; rfl
    rw [e4]
    refine mkL_frz ?_
    kqd_all
    refine ev_list (o := false) ?_
    kqd_all
    refine mkL_frz ?_
    refine cmp_neP (a := .lst ((bs.filter fun b => decide (i = b.1) || decide (i = b.2)).map barV)) (b := .lst []) rfl rfl (pure_bars _) rfl (dat_bars _) rfl (fun h1 => ?_) (fun h1 => ?_)
    · have h2 : bs.filter (fun b => decide (i = b.1) || decide (i = b.2)) = [] := by simpa using h1
      have h3 : bs.any (fun b => decide (i = b.1) || decide (i = b.2)) = false := by
        rw [List.any_eq_false]; intro b hb; have := List.filter_eq_nil_iff.mp h2 b hb; simpa using this
      simp only [Bool.false_eq_true, if_false]
      refine ⟨h3.symm, by trivial, fun hc => by have hc' : bs.any (fun b => decide (i = b.1) || decide (i = b.2)) = true := hc; rw [h3] at hc'; cases hc'⟩
    · have h3 : bs.any (fun b => decide (i = b.1) || decide (i = b.2)) = true := by
        cases hq : bs.any (fun b => decide (i = b.1) || decide (i = b.2)) with
        | true => rfl
        | false =>
          exfalso; apply h1
          have : bs.filter (fun b => decide (i = b.1) || decide (i = b.2)) = [] := List.filter_eq_nil_iff.mpr fun b hb => by
            have := List.any_eq_false.mp hq b hb; simpa using this
          rw [this]; rfl
      simp only [if_true]
      refine evTs_nil ⟨h3.symm, rfl, fun _ => ?_⟩
      kqd_all
      exact ⟨rfl, rfl⟩
  rw [rangeX_I, filter_ints]
  have e5 : ((rangeI 0 n).filter fun i => bs.any fun b => decide (intA (.int i) = b.1) || decide (intA (.int i) = b.2)) = ts := by
    refine sorted_unique ((rangeI_sorted 0 n).filter _) hts fun k => ?_
    rw [List.mem_filter, mem_rangeI, List.any_eq_true, htm k]
    constructor
    · rintro ⟨_, b, hb, e⟩
      have e' : (decide (k = b.1) || decide (k = b.2)) = true := e
      exact ⟨b, hb, by simpa using e'⟩
    · rintro ⟨b, hb, e⟩
      have e' : (decide (k = b.1) || decide (k = b.2)) = true := by simpa using e
      refine ⟨?_, b, hb, e'⟩
      have := hbk b hb; unfold okBar at this
      rcases e with rfl | rfl <;> omega
  rw [e5]
  refine mkL_frz ?_
  kqd_all
  refine cmp_neP (a := .lst (ts.map .int)) (b := .lst (ts.map .int)) rfl rfl pure_ints pure_ints dat_ints dat_ints (fun _ => ?_) (fun hc => absurd rfl hc)
  kqd_all
  refine cmp_neP (a := .lst (bs.map barV)) (b := .lst (bs.map barV)) rfl rfl (pure_bars _) (pure_bars _) (dat_bars _) (dat_bars _) (fun _ => ?_) (fun hc => absurd rfl hc)
  kqd_all
  refine ev_list (o := false) ?_
  kqd_all
  refine mkL_frz ?_
  kqd_all
  refine s_joints_of P' (by omega) [] (by simp) (by simp) fun zs _ hz => ?_
  have hz0 : zs = [] := by
    cases zs with
    | nil => rfl
    | cons z zs => have := (hz z).mp (by simp); simp at this
  subst hz0
  kqd_all
  refine ev_list (o := false) ?_
  kqd_all
  refine mkL_frz ?_
  refine cmp_neP (a := .lst []) (b := .lst []) rfl rfl rfl rfl rfl rfl (fun _ => ?_) (fun hc => absurd rfl hc)
  kqd_all
  refine ev_comp (o := false) (tg := .name "_law_k") (fv := ["_law_bars", "_law_some"]) he (ScOk.of rfl (by decide +kernel) (by kernel_rfl) (fun x hx => by rcases List.mem_cons.mp hx with rfl | hx; exact .inl (kind_of hsc (by kernel_rfl)); rcases List.mem_singleton.mp hx with rfl; exact .inl (kind_of hsc (by kernel_rfl)))
    (fun x hx => by rcases List.mem_singleton.mp hx with rfl; exact .inl (by kernel_rfl))) ⟨_, rfl⟩ (fun _ => rfl) ?_
  refine evI_r G he (by decide) kgrange.k rfl ?_
  kqd_all
  refine rangeS_one (by omega) ?_
  refine compJ_fm (fun x => decide ((bs.getD (intA x).toNat (0, 0)).1 ∈ js) && decide ((bs.getD (intA x).toNat (0, 0)).2 ∈ js)) (fun x => x) (by rw [rangeX_length]; omega) (fun cenv hce hcs x hx => ?_) ?_
  · rw [rangeX_I] at hx
    obtain ⟨i, hi, rfl⟩ := List.mem_map.mp hx
    rw [mem_rangeI] at hi
    have k1 := nmc_free (x := "_law_bars") hcs (by kernel_rfl) (by decide) (by decide)
    have k2 := nmc_free (x := "_law_some") hcs (by kernel_rfl) (by decide) (by decide)
    have k3 := nmc_local (x := "_law_k") hcs (by kernel_rfl) (by decide) (by decide)
    have hil : i.toNat < bs.length := by omega
    have hg : bs.getD (intA (.int i)).toNat (0, 0) = bs[i.toNat] := by simp [intA, List.getD_eq_getElem?_getD, hil]
    generalize hbi : bs[i.toNat] = b at hg
    have hsub : (bs.map barV)[i.toNat]? = some (barV b) := by rw [List.getElem?_map, List.getElem?_eq_getElem hil, hbi]; rfl
    have hpi : ∀ y ∈ js.map AV.int, y.pure = true := fun y hy => by obtain ⟨i, _, rfl⟩ := List.mem_map.mp hy; rfl
    have hdi : ∀ y ∈ js.map AV.int, y.dat 8 = true := fun y hy => by obtain ⟨i, _, rfl⟩ := List.mem_map.mp hy; rfl
    have hin : ∀ i : Int, AV.int i ∈ js.map AV.int ↔ i ∈ js := fun i => by simp
    refine ⟨rfl, evTs_cons ?_⟩
    kqd_all
    refine sub_lst (by omega) (by simp; omega) hsub ?_
    kqd_all
    refine tup0 (x := .int b.1) (xs := [.int b.2]) (by simp) ?_
    kqd_all
    refine cmp_inP (ys := js.map AV.int) (.inl rfl) rfl hpi rfl hdi (fun h1 => ?_) (fun h1 => ?_)
    · rw [hin] at h1
      kqd_all
      refine sub_lst (by omega) (by simp; omega) hsub ?_
      kqd_all
      refine tup1 (x := .int b.1) (y := .int b.2) (xs := []) (by simp) ?_
      kqd_all
      refine cmp_inP (ys := js.map AV.int) (.inl rfl) rfl hpi rfl hdi (fun h2 => ?_) (fun h2 => ?_)
      · rw [hin] at h2
        simp only [if_true]
        refine evTs_nil ⟨by rw [hg]; simp [h1, h2], rfl, fun _ => ?_⟩
        kqd_all
        exact ⟨rfl, rfl⟩
      · rw [hin] at h2
        simp only [Bool.false_eq_true, if_false]
        refine ⟨by rw [hg]; simp [h2], by trivial, fun hc => by rw [hg] at hc; simp [h2] at hc⟩
    · rw [hin] at h1
      kqd_all
      simp only [Bool.false_eq_true, if_false]
      refine ⟨by rw [hg]; simp [h1], by trivial, fun hc => by rw [hg] at hc; simp [h1] at hc⟩
  rw [rangeX_I, filter_ints]
  have e6 : ((rangeI 0 many).filter fun i => decide ((bs.getD (intA (.int i)).toNat (0, 0)).1 ∈ js) && decide ((bs.getD (intA (.int i)).toNat (0, 0)).2 ∈ js)) = insideI bs js := by
    refine sorted_unique ((rangeI_sorted 0 many).filter _) (inside_sorted bs js) fun k => ?_
    rw [List.mem_filter, mem_rangeI, mem_inside]
    constructor
    · rintro ⟨hk, e⟩
      have hkl : k.toNat < bs.length := by omega
      simp only [intA, List.getD_eq_getElem?_getD, List.getElem?_eq_getElem hkl, Option.getD_some, Bool.and_eq_true, decide_eq_true_eq] at e
      exact ⟨k.toNat, bs[k.toNat], by omega, List.getElem?_eq_getElem hkl, e⟩
    · rintro ⟨i, b, rfl, hb, h1, h2⟩
      have hil : i < bs.length := (List.getElem?_eq_some_iff.mp hb).1
      refine ⟨by omega, ?_⟩
      simp [intA, List.getD_eq_getElem?_getD, hb, h1, h2]
  rw [e6]
  refine mkL_frz ?_
  refine cmp_eqP (a := .lst ((insideI bs js).map .int)) (b := .lst ((insideI bs js).map .int)) rfl rfl pure_ints pure_ints dat_ints dat_ints (fun _ => ?_) (fun hc => absurd rfl hc)
  kqd_all
  exact h _
end
end Mine

open PySem PySem.W PyProof.Rows
namespace Mine
open PySem
theorem fnAt_of {B : Amb} {a : Addr} {o : Obj} {fd : FuncData} {ps : List String} {body : List Stmt} {scope : Scope} (ho : B.s0.heap.get? a = some o) (hd : o.data = .func fd) (hb : fd.body = .stmts body) (hsc : fd.scope = scope) (hg : fd.globals = mainGlobals) (hbl : fd.builtins = builtinsNs) (hcl : fd.closure = [])
    (hcd : B.s0.heap.CodeRec fd.code fd.qualname) (hba : ∀ vals : List Value, vals.length = ps.length → bindArgs fd ⟨vals, []⟩ = pure ((ps.map Str.ofString).zip vals))
    (h1 : scope.kind = .function) (h2 : scope.isCoroutine = false) (h3 : scope.isGenerator = false) (h4 : ∀ p ∈ scope.names, p.2 ≠ .free) (h5 : (scope.names.map (·.1)).Nodup) (h6 : ps.Nodup)
    (h7 : ∀ p ∈ ps, scope.names.lookup (Str.ofString p) = some .local ∨ scope.names.lookup (Str.ofString p) = some .cell) : FnAt B a ps body scope :=
  ⟨⟨o, fd, ho, hd, hb, hsc, hg, hbl, hcl, hcd, hba⟩, h1, h2, h3, h4, h5, h6, h7⟩
end Mine
namespace Mine
theorem mb_of {p : Program} {loose : List Str} {mean : ExcName → Option Value} {mg mb : Str → Option Value} {h : Heap} (T : Top p loose mean mg mb h) : ∀ q ∈ Mine.blts, mb (Str.ofString q.1) = some q.2 := by
  have e : ∀ q ∈ Mine.blts, bootBuiltins (Str.ofString q.1) = some q.2 ∧ Str.ofString q.1 ≠ Str.ofString "__name__" := by decide +kernel
  intro q hq
  rw [T.builtins _ (e q hq).2]; exact (e q hq).1
end Mine

theorem PySem.Challenge.cw_uf020008_01_holds : PySem.Challenge.rw_uf020008_01.Holds := by
  w_on
  o_law
  k_head
  (case hw => w_witness2)
  k_fill
  intro w s₀ s₁ mg mb G Y fa o pm cd doc dV kV ho hd hcd hD hmg hg args vals as hpre hlay hrd hwl hlo
  have KX := kIn_of Y
  refine Ground.open G ?_
  intro T B D TE TW
  wrow_args hpre hlay hrd hwl hlo
  rename_i xs _ _ _ _ _ _ _ l vs _ hL _ w1 _ hI _ hlen _
  refine enter_call ?_
  have hlaw : mg (Str.ofString "law") = some (Value.ref 134) := mg_of KX T.g (by k_is)
  have hfa : fa = 134 := by
    have h1 : mg (Str.ofString "law") = some (Value.ref fa) := hmg
    rw [hlaw] at h1
    simpa using h1.symm
  subst hfa
  clear ho hd hcd hD hmg
  have P : Mine.P01 ⟨PySem.Challenge.rw_uf020008_01.row.prog, w, s₁, mg, mb⟩ := by
    refine ⟨⟨⟨T.g, T.b, T.nolimit⟩, trivial, ?_, Mine.mb_of T⟩, ?_, ?_, ?_, ?_, ?_, ?_, ?_, ?_, ?_, ?_, ?_, ?_, ?_, ?_, ?_, ?_, ?_, ?_, ?_, ?_, ?_, ?_, ?_, ?_, ?_, ?_, ⟨_, mg_of KX T.g (by k_is)⟩, ⟨_, mg_of KX T.g (by k_is)⟩⟩
    · intro x hx
      simp only [Mine.ns01, List.mem_cons, List.not_mem_nil, or_false] at hx
      rcases hx with rfl | rfl | rfl | rfl | rfl | rfl | rfl | rfl | rfl | rfl | rfl <;> exact mg_none_of KX T.g (by k_is)
    · exact mg_of KX T.g (by k_is)
    · refine Mine.fnAt_of (KX 58 _ (by k_is)) rfl rfl rfl rfl rfl rfl (codeRec_of KX (by k_is)) ?_ rfl rfl rfl (by decide +kernel) (by decide +kernel) (by decide) (by decide +kernel)
      intro vals hv
      match vals, hv with
      | [v1, v2, v3], _ => kernel_rfl
    · exact mg_of KX T.g (by k_is)
    · refine Mine.fnAt_of (KX 65 _ (by k_is)) rfl rfl rfl rfl rfl rfl (codeRec_of KX (by k_is)) ?_ rfl rfl rfl (by decide +kernel) (by decide +kernel) (by decide) (by decide +kernel)
      intro vals hv
      match vals, hv with
      | [v1], _ => kernel_rfl
    · exact mg_of KX T.g (by k_is)
    · refine Mine.fnAt_of (KX 72 _ (by k_is)) rfl rfl rfl rfl rfl rfl (codeRec_of KX (by k_is)) ?_ rfl rfl rfl (by decide +kernel) (by decide +kernel) (by decide) (by decide +kernel)
      intro vals hv
      match vals, hv with
      | [v1, v2, v3], _ => kernel_rfl
    · exact mg_of KX T.g (by k_is)
    · refine Mine.fnAt_of (KX 79 _ (by k_is)) rfl rfl rfl rfl rfl rfl (codeRec_of KX (by k_is)) ?_ rfl rfl rfl (by decide +kernel) (by decide +kernel) (by decide) (by decide +kernel)
      intro vals hv
      match vals, hv with
      | [v1, v2], _ => kernel_rfl
    · exact mg_of KX T.g (by k_is)
    · refine Mine.fnAt_of (KX 84 _ (by k_is)) rfl rfl rfl rfl rfl rfl (codeRec_of KX (by k_is)) ?_ rfl rfl rfl (by decide +kernel) (by decide +kernel) (by decide) (by decide +kernel)
      intro vals hv
      match vals, hv with
      | [v1, v2], _ => kernel_rfl
    · exact mg_of KX T.g (by k_is)
    · refine Mine.fnAt_of (KX 91 _ (by k_is)) rfl rfl rfl rfl rfl rfl (codeRec_of KX (by k_is)) ?_ rfl rfl rfl (by decide +kernel) (by decide +kernel) (by decide) (by decide +kernel)
      intro vals hv
      match vals, hv with
      | [v1], _ => kernel_rfl
    · exact mg_of KX T.g (by k_is)
    · refine Mine.fnAt_of (KX 96 _ (by k_is)) rfl rfl rfl rfl rfl rfl (codeRec_of KX (by k_is)) ?_ rfl rfl rfl (by decide +kernel) (by decide +kernel) (by decide) (by decide +kernel)
      intro vals hv
      match vals, hv with
      | [v1, v2], _ => kernel_rfl
    · exact mg_of KX T.g (by k_is)
    · refine Mine.fnAt_of (KX 103 _ (by k_is)) rfl rfl rfl rfl rfl rfl (codeRec_of KX (by k_is)) ?_ rfl rfl rfl (by decide +kernel) (by decide +kernel) (by decide) (by decide +kernel)
      intro vals hv
      match vals, hv with
      | [v1, v2], _ => kernel_rfl
    · exact mg_of KX T.g (by k_is)
    · refine Mine.fnAt_of (KX 110 _ (by k_is)) rfl rfl rfl rfl rfl rfl (codeRec_of KX (by k_is)) ?_ rfl rfl rfl (by decide +kernel) (by decide +kernel) (by decide) (by decide +kernel)
      intro vals hv
      match vals, hv with
      | [v1], _ => kernel_rfl
    · exact mg_of KX T.g (by k_is)
    · refine Mine.fnAt_of (KX 117 _ (by k_is)) rfl rfl rfl rfl rfl rfl (codeRec_of KX (by k_is)) ?_ rfl rfl rfl (by decide +kernel) (by decide +kernel) (by decide) (by decide +kernel)
      intro vals hv
      match vals, hv with
      | [v1, v2], _ => kernel_rfl
    · exact mg_of KX T.g (by k_is)
    · refine Mine.fnAt_of (KX 124 _ (by k_is)) rfl rfl rfl rfl rfl rfl (codeRec_of KX (by k_is)) ?_ rfl rfl rfl (by decide +kernel) (by decide +kernel) (by decide) (by decide +kernel)
      intro vals hv
      match vals, hv with
      | [v1, v2, v3, v4], _ => kernel_rfl
    · exact mg_of KX T.g (by k_is)
    · refine Mine.fnAt_of (KX 129 _ (by k_is)) rfl rfl rfl rfl rfl rfl (codeRec_of KX (by k_is)) ?_ rfl rfl rfl (by decide +kernel) (by decide +kernel) (by decide) (by decide +kernel)
      intro vals hv
      match vals, hv with
      | [v1, v2, v3], _ => kernel_rfl
    · exact mg_of KX T.g (by k_is)
    · refine Mine.fnAt_of (KX 134 _ (by k_is)) rfl rfl rfl rfl rfl rfl (codeRec_of KX (by k_is)) ?_ rfl rfl rfl (by decide +kernel) (by decide +kernel) (by decide) (by decide +kernel)
      intro vals hv
      match vals, hv with
      | [v1], _ => kernel_rfl
  have hob : ∃ vs' : List Value, s₁.heap.get? l = some (Mine.sq "list" vs' 0) := by
    have w2 : Well w.params s₁.heap (Value.ref l) (WData.list (ofPys (xs.map PyData.int))) := w1
    cases w2 with
    | list h _ => exact ⟨_, h⟩
  obtain ⟨vs', hvs'⟩ := hob
  have hvv : vs' = vs := by
    obtain ⟨o', ho', _, n', hd'⟩ := hL
    rw [hvs'] at ho'
    cases ho'
    have : vs'.toArray = vs.toArray := by cases hd'; rfl
    simpa using this
  subst hvv
  have hl63 : xs.length ≤ 63 := by
    have h1 : ¬ ((63 : Nat) : Int) < (xs.length : Int) := hlen
    omega
  have i0 : Mine.Inv ⟨PySem.Challenge.rw_uf020008_01.row.prog, w, s₁, mg, mb⟩ (fun a => s₁.heap.get? a) [] s₁ := ⟨⟨s₁.heap, s₁.toks, s₁.drawn, rfl⟩, fun _ _ h => h, fun _ _ h => h, fun p hp => (by cases hp), List.nodup_nil⟩
  have r0 : Mine.RelVs (fun a => s₁.heap.get? a) [Mine.AV.lst (xs.map Mine.AV.int)] [Value.ref l] := by
    refine Mine.RelVs.cons ?_ Mine.RelVs.nil
    simp only [Mine.RelV]
    exact ⟨l, vs', 0, rfl, hvs', Mine.ints_rel hI⟩
  have ok : Mine.OkA 8 callerA := ⟨rfl, by decide, by decide⟩
  have C := Mine.s_law (d := 8) (own := []) (Q := fun v _ => v = .bool true) (E := fun _ _ => False) P (by omega) xs hl63 (fun _ => rfl) callerA _ s₁ _ ok i0 r0
  refine codeAny_mono C fun res s' p => ?_
  cases res with
  | error e => obtain ⟨_, _, _, _, _, hx, _⟩ := p; exact hx.elim
  | ok f =>
    cases f with
    | ret v =>
      obtain ⟨f', own', x, st, i', r', rfl⟩ := p
      simp only [Mine.RelV] at r'
      subst r'
      obtain ⟨h', tk', dr', e⟩ := i'.same
      refine GoodW.toG ⟨.inl ⟨.bool true, .bool true, [], rfl, raisesW_false ?_, .bool true, ?_, unshared_nil⟩, i'.keep, by rw [e], by rw [e]; exact hg⟩
      · wrow_none_raised
      · wrow_post
    | _ => exact p.elim
