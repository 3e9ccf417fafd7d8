import PyProof.Rows.All
import Wide.All
import OpenK.AllK
import Wide.FinOn
import PySem.Challenge.RW_pq1017_01
open PySem PySem.W PyProof.Rows
set_option Elab.async false
set_option maxRecDepth 100000
set_option maxHeartbeats 8000000
set_option linter.unusedVariables false
set_option linter.unusedSimpArgs false

-- W1
namespace Mine

/-- a value with its token forgotten -/
inductive AV where
  | none | bool (b : Bool) | int (i : Int) | str (s : Str) | ref (a : Addr) | other (v : Value)

def ab : Value → AV
  | .none => .none
  | .bool b => .bool b
  | .int i _ => .int i
  | .str s _ => .str s
  | .ref a => .ref a
  | v => .other v

theorem ab_none {v} (h : ab v = .none) : v = .none := by cases v <;> simp_all [ab]
theorem ab_bool {v b} (h : ab v = .bool b) : v = .bool b := by cases v <;> simp_all [ab]
theorem ab_int {v i} (h : ab v = .int i) : ∃ t, v = .int i t := by cases v <;> simp_all [ab]
theorem ab_str {v i} (h : ab v = .str i) : ∃ t, v = .str i t := by cases v <;> simp_all [ab]
theorem ab_ref {v i} (h : ab v = .ref i) : v = .ref i := by cases v <;> simp_all [ab]
theorem ab_other {v u} (h : ab v = .other u) : v = u := by cases v <;> simp_all [ab]

inductive AO where
  | list (xs : List AV) | tup (xs : List AV) | inst (C d : Addr) | sdict (es : List (Str × AV)) | idict (es : List (Int × AV)) (ep : Nat) | range (lo hi : Int)

abbrev AH := Addr → Option AO
def AH.set (H : AH) (a : Addr) (o : AO) : AH := fun b => if b = a then some o else H b
@[simp] theorem AH.set_self (H : AH) (a : Addr) (o : AO) : H.set a o a = some o := by simp [AH.set]
theorem AH.set_ne (H : AH) {a b : Addr} (o : AO) (h : b ≠ a) : H.set a o b = H b := by simp [AH.set, h]

def keyOf : Value → Option Str
  | .str s _ => some s
  | _ => none

/-- the world, the part of the heap that never changes, the rest of the state -/
structure Wo where
  prog : Program
  w : World
  h0 : Heap
  s0 : Shared
  mg : Str → Option Value
  mb : Str → Option Value

abbrev Wo.M (W : Wo) : Model := model W.prog W.w

structure Wo.Ok (W : Wo) : Prop where
  g : W.h0.Ns mainGlobals W.mg
  b : W.h0.Ns builtinsNs W.mb
  bu : ∀ x : Str, x ≠ "__name__" → W.mb x = bootBuiltins x
  lim : W.h0.NoLimit

def ORel (W : Wo) : AO → Obj → Prop
  | .list xs, o => ∃ vs n, o = listOf vs n ∧ vs.toList.map ab = xs
  | .tup xs, o => ∃ vs n, o = { cls := .type "tuple", data := .seq vs n } ∧ vs.toList.map ab = xs
  | .inst C d, o => o = instObj C d
  | .sdict es, o => ∃ l n, o = dictOf l n ∧ l.map (fun e => (keyOf e.key, ab e.val)) = es.map (fun p => (some p.1, p.2))
  | .idict es ep, o => ∃ (kvs : List (Int × Value)) (l : Array DictEntry), (o.ExactDict ∧ o.data = .dict l ep ∧ KeysOf (intKind W.prog W.w) l ∧ Pairs (intKind W.prog W.w) l.toList kvs ∧ (kvs.map (·.1)).Nodup) ∧ kvs.map (fun p => (p.1, ab p.2)) = es
  | .range lo hi, o => ∃ t u v, o = { cls := .type "range", data := .fields #[.int lo t, .int hi u, .int 1 v] }

structure RepH (W : Wo) (h : Heap) (R : Addr → Option Obj) (H : AH) : Prop where
  keep : ∀ b o, W.h0.get? b = some o → h.get? b = some o
  froz : ∀ b o, R b = some o → h.get? b = some o
  obj : ∀ b x, H b = some x → (R b = none ∧ W.h0.get? b = none) ∧ ∃ o, h.get? b = some o ∧ ORel W x o

def Off (W : Wo) (R : Addr → Option Obj) (H : AH) (a : Addr) : Prop := W.h0.get? a = none ∧ R a = none ∧ H a = none

abbrev Mu := List (Str × AV)

structure LocH (W : Wo) (env : Env) (μ : Mu) (h : Heap) (R : Addr → Option Obj) (H : AH) : Prop where
  ns : ∃ m, h.Ns env.locals m ∧ ∀ x a, μ.lookup x = some a → env.kindOf x = some .local → ∃ v, m x = some v ∧ ab v = a
  off : Off W R H env.locals
  cell : ∀ x c, env.cells.lookup x = some c → (Off W R H c ∧ c ≠ env.locals) ∧ ∃ v0, h.IsCell c v0 ∧ ∀ a, μ.lookup x = some a → env.kindOf x ≠ some .local → ∃ v, v0 = some v ∧ ab v = a
  apart : ∀ x y c, env.cells.lookup x = some c → env.cells.lookup y = some c → x = y

def St (W : Wo) (R : Addr → Option Obj) (H : AH) (s : Shared) : Prop := ∃ h tk, s = { W.s0 with heap := h, toks := tk } ∧ RepH W h R H
def Rep (W : Wo) (env : Env) (R : Addr → Option Obj) (μ : Mu) (H : AH) (s : Shared) : Prop := ∃ h tk, s = { W.s0 with heap := h, toks := tk } ∧ RepH W h R H ∧ LocH W env μ h R H

section
variable {W : Wo} {env : Env} {R : Addr → Option Obj} {μ : Mu} {H : AH} {h h' : Heap}

theorem RepH.keeps (r : RepH W h R H) (k : ∀ b o, h.get? b = some o → h'.get? b = some o) : RepH W h' R H :=
  ⟨fun b o e => k b o (r.keep b o e), fun b o e => k b o (r.froz b o e), fun b x e => let ⟨a, o, e1, e2⟩ := r.obj b x e; ⟨a, o, k b o e1, e2⟩⟩
theorem LocH.keeps (r : LocH W env μ h R H) (k : ∀ b o, h.get? b = some o → h'.get? b = some o) : LocH W env μ h' R H :=
  ⟨let ⟨m, a, b⟩ := r.ns; ⟨m, a.keeps k, b⟩, r.off, fun x c e => let ⟨a, v0, b, d⟩ := r.cell x c e; ⟨a, v0, b.keeps k, d⟩, r.apart⟩

theorem size_none (h : Heap) : h.get? h.objs.size = none := by
  cases e : h.get? h.objs.size with
  | none => rfl
  | some o => exact absurd (Heap.lt_size e) (Nat.lt_irrefl _)

theorem RepH.fresh (r : RepH W h R H) {a : Addr} (ha : h.get? a = none) : Off W R H a := by
  refine ⟨?_, ?_, ?_⟩
  · cases e : W.h0.get? a with
    | none => rfl
    | some o => have := r.keep a o e; rw [ha] at this; cases this
  · cases e : R a with
    | none => rfl
    | some o => have := r.froz a o e; rw [ha] at this; cases this
  · cases e : H a with
    | none => rfl
    | some o => obtain ⟨_, o, e1, _⟩ := r.obj a o e; rw [ha] at e1; cases e1

theorem RepH.push (r : RepH W h R H) {o : Obj} {x : AO} (hf : o.isFreed = false) (ho : ORel W x o) : RepH W (h.push o) R (H.set h.objs.size x) := by
  have hk := fun b o' e => Heap.get?_push_of_some (h := h) (a := b) (o' := o') o e
  refine ⟨fun b o e => hk b o (r.keep b o e), fun b o e => hk b o (r.froz b o e), fun b y e => ?_⟩
  by_cases hb : b = h.objs.size
  · subst hb
    simp only [AH.set_self, Option.some.injEq] at e
    subst e
    have := r.fresh (size_none h)
    exact ⟨⟨this.2.1, this.1⟩, o, Heap.get?_push_size _ hf, ho⟩
  · rw [AH.set_ne _ _ hb] at e
    obtain ⟨a, o', e1, e2⟩ := r.obj b y e
    exact ⟨a, o', hk _ _ e1, e2⟩

theorem LocH.push (r : LocH W env μ h R H) (o : Obj) (x : AO) : LocH W env μ (h.push o) R (H.set h.objs.size x) := by
  have hk := fun b o' e => Heap.get?_push_of_some (h := h) (a := b) (o' := o') o e
  have hne : ∀ a, a < h.objs.size → (H.set h.objs.size x) a = H a := fun a ha => AH.set_ne _ _ (Nat.ne_of_lt ha)
  have k := r.keeps hk
  obtain ⟨m, hm, hm2⟩ := r.ns
  refine ⟨k.ns, ⟨r.off.1, r.off.2.1, (hne _ hm.lt).trans r.off.2.2⟩, fun y c e => ?_, r.apart⟩
  obtain ⟨⟨a1, a2⟩, v0, b, d⟩ := r.cell y c e
  exact ⟨⟨⟨a1.1, a1.2.1, (hne _ b.lt).trans a1.2.2⟩, a2⟩, v0, b.keeps hk, d⟩

theorem RepH.upd (r : RepH W h R H) {a : Addr} {x y : AO} {o : Obj} (e : H a = some x) (hs : Heap.SameBut a h h') (ho : h'.get? a = some o) (hy : ORel W y o) : RepH W h' R (H.set a y) := by
  obtain ⟨⟨a1, a2⟩, o₁, e1, _⟩ := r.obj a x e
  refine ⟨fun b o e' => (hs.2 b ?_).trans (r.keep b o e'), fun b o e' => (hs.2 b ?_).trans (r.froz b o e'), fun b z e => ?_⟩
  · rintro rfl; rw [a2] at e'; cases e'
  · rintro rfl; rw [a1] at e'; cases e'
  · by_cases hb : b = a
    · subst hb
      simp only [AH.set_self, Option.some.injEq] at e
      subst e
      exact ⟨⟨a1, a2⟩, o, ho, hy⟩
    · rw [AH.set_ne _ _ hb] at e
      obtain ⟨q, o', e1, e2⟩ := r.obj b z e
      exact ⟨q, o', (hs.2 b hb).trans e1, e2⟩

theorem LocH.upd (r : LocH W env μ h R H) {a : Addr} {x y : AO} (e : H a = some x) (hs : Heap.SameBut a h h') : LocH W env μ h' R (H.set a y) := by
  have ne : ∀ b, H b = none → b ≠ a := fun b hb q => by rw [q, e] at hb; cases hb
  obtain ⟨m, hm, hm2⟩ := r.ns
  refine ⟨⟨m, hm.sameBut hs (ne _ r.off.2.2), hm2⟩, ⟨r.off.1, r.off.2.1, (AH.set_ne _ _ (ne _ r.off.2.2)).trans r.off.2.2⟩, fun y c e => ?_, r.apart⟩
  obtain ⟨⟨a1, a2⟩, v0, b, d⟩ := r.cell y c e
  exact ⟨⟨⟨a1.1, a1.2.1, (AH.set_ne _ _ (ne _ a1.2.2)).trans a1.2.2⟩, a2⟩, v0, b.sameBut hs (ne _ a1.2.2), d⟩

/-- a name of the frame's is stored in its namespace -/
theorem RepH.loc (r : RepH W h R H) {a : Addr} (ha : Off W R H a) (hs : Heap.SameBut a h h') : RepH W h' R H := by
  refine ⟨fun b o e => (hs.2 b ?_).trans (r.keep b o e), fun b o e => (hs.2 b ?_).trans (r.froz b o e), fun b z e => ?_⟩
  · rintro rfl; rw [ha.1] at e; cases e
  · rintro rfl; rw [ha.2.1] at e; cases e
  · obtain ⟨q, o', e1, e2⟩ := r.obj b z e
    refine ⟨q, o', (hs.2 b ?_).trans e1, e2⟩
    rintro rfl; rw [ha.2.2] at e; cases e

def Mu.put (x : Str) (a : AV) : Mu → Mu
  | [] => [(x, a)]
  | p :: r => if p.1 == x then (x, a) :: r else p :: Mu.put x a r
theorem Mu.put_self (x : Str) (a : AV) : ∀ μ : Mu, (Mu.put x a μ).lookup x = some a
  | [] => by simp [Mu.put]
  | p :: r => by
    unfold Mu.put
    by_cases h : p.1 = x
    · simp [h]
    · have h1 : (p.1 == x) = false := by simpa using h
      have h2 : (x == p.1) = false := by simpa using fun e => h e.symm
      simp [h1, List.lookup, h2, Mu.put_self x a r]
theorem Mu.put_ne {x y : Str} (a : AV) (h : y ≠ x) : ∀ μ : Mu, (Mu.put x a μ).lookup y = μ.lookup y
  | [] => by
    have h2 : (y == x) = false := by simpa using h
    simp [Mu.put, List.lookup, h2]
  | p :: r => by
    obtain ⟨k, v⟩ := p
    have h2 : (y == x) = false := by simpa using h
    unfold Mu.put
    by_cases hk : k = x
    · subst hk; simp [List.lookup, h2]
    · have h1 : (k == x) = false := by simpa using hk
      simp only [h1, Bool.false_eq_true, if_false, List.lookup]
      rw [Mu.put_ne a h r]

def Mu.le (μ ν : Mu) : Prop := ∀ p ∈ μ, ν.lookup p.1 = some p.2
theorem Mu.le.at {μ ν : Mu} (h : Mu.le μ ν) {x : Str} {a : AV} (e : μ.lookup x = some a) : ν.lookup x = some a := by
  induction μ with
  | nil => simp at e
  | cons p r ih =>
    obtain ⟨k, v⟩ := p
    simp only [List.lookup] at e
    split at e
    · rename_i hx
      rw [beq_iff_eq.mp hx]
      cases e
      exact h (k, a) (List.Mem.head _)
    · exact ih (fun q hq => h q (by simp [hq])) e
theorem LocH.mono {ν : Mu} (r : LocH W env ν h R H) (l : Mu.le μ ν) : LocH W env μ h R H :=
  ⟨let ⟨m, a, b⟩ := r.ns; ⟨m, a, fun x c e k => b x c (l.at e) k⟩, r.off, fun x c e => let ⟨a, v0, b, d⟩ := r.cell x c e; ⟨a, v0, b, fun y e k => d y (l.at e) k⟩, r.apart⟩

theorem LocH.put (r : LocH W env μ h R H) {x : Str} {v : Value} {m : Str → Option Value} (hk : env.kindOf x = some .local) (hm : ∀ y a, μ.lookup y = some a → env.kindOf y = some .local → ∃ v, m y = some v ∧ ab v = a)
    (hn : h'.Ns env.locals (fun y => if y = x then some v else m y)) (hs : Heap.SameBut env.locals h h') : LocH W env (Mu.put x (ab v) μ) h' R H := by
  refine ⟨⟨_, hn, fun y a e k => ?_⟩, r.off, fun y c e => ?_, r.apart⟩
  · by_cases hy : y = x
    · subst hy
      rw [Mu.put_self] at e
      cases e
      exact ⟨v, by simp, rfl⟩
    · rw [Mu.put_ne _ hy] at e
      simp only [hy, if_false]
      exact hm y a e k
  · obtain ⟨⟨a1, a2⟩, v0, b, d⟩ := r.cell y c e
    refine ⟨⟨a1, a2⟩, v0, b.sameBut hs a2, fun a e k => d a ?_ k⟩
    rwa [Mu.put_ne _ (by rintro rfl; exact k hk)] at e

theorem LocH.putC (r : LocH W env μ h R H) {x : Str} {c : Addr} {v : Value} (hk : env.kindOf x ≠ some .local) (hc : env.cells.lookup x = some c)
    (hv : h'.IsCell c (some v)) (hs : Heap.SameBut c h h') : LocH W env (Mu.put x (ab v) μ) h' R H := by
  obtain ⟨⟨_, hcl⟩, _⟩ := r.cell x c hc
  obtain ⟨m, hm, hm2⟩ := r.ns
  refine ⟨⟨m, hm.sameBut hs (Ne.symm hcl), fun y a e k => hm2 y a ?_ k⟩, r.off, fun y c' e => ?_, r.apart⟩
  · rwa [Mu.put_ne _ (by rintro rfl; exact hk k)] at e
  · obtain ⟨⟨a1, a2⟩, v0, b, d⟩ := r.cell y c' e
    by_cases hy : y = x
    · subst hy
      rw [hc] at e
      cases e
      refine ⟨⟨a1, a2⟩, some v, hv, fun a e _ => ?_⟩
      rw [Mu.put_self] at e
      cases e
      exact ⟨v, rfl, rfl⟩
    · refine ⟨⟨a1, a2⟩, v0, b.sameBut hs ?_, fun a e k => d a ?_ k⟩
      · rintro rfl; exact hy (r.apart y x _ e hc)
      · rwa [Mu.put_ne _ hy] at e
end
end Mine

-- W2
namespace Mine

structure EvG (W : Wo) (A : Around) (env : Env) {α β : Type} (f : α → β) (t : Sem α) (μ : Mu) (H : AH) (Q : β → AH → Prop) : Prop where
  run : ∀ R s, Rep W env R μ H s → wpAny W.M A t (fun v s' => ∃ H', Rep W env R μ H' s' ∧ Q (f v) H') (fun _ _ => False) s
abbrev Ev (W : Wo) (A : Around) (env : Env) (t : Sem Value) (μ : Mu) (H : AH) (Q : AV → AH → Prop) : Prop := EvG W A env ab t μ H Q
abbrev Evs (W : Wo) (A : Around) (env : Env) (t : Sem (List Value)) (μ : Mu) (H : AH) (Q : List AV → AH → Prop) : Prop := EvG W A env (List.map ab) t μ H Q
abbrev Evb (W : Wo) (A : Around) (env : Env) (t : Sem Bool) (μ : Mu) (H : AH) (Q : Bool → AH → Prop) : Prop := EvG W A env (fun b => b) t μ H Q
abbrev Evu (W : Wo) (A : Around) (env : Env) (t : Sem Unit) (μ : Mu) (H : AH) (Q : AH → Prop) : Prop := EvG W A env (fun _ => ()) t μ H (fun _ => Q)

section
variable {W : Wo} {A : Around} {env : Env} {μ : Mu} {H : AH}

theorem Rep.tok {R s} (r : Rep W env R μ H s) (tk : Nat) : Rep W env R μ H { s with toks := tk } := by
  obtain ⟨h, t, rfl, a, b⟩ := r
  exact ⟨h, tk, rfl, a, b⟩
theorem Rep.repH {R s} (r : Rep W env R μ H s) : RepH W s.heap R H := by obtain ⟨h, t, rfl, a, b⟩ := r; exact a
theorem Rep.loc {R s} (r : Rep W env R μ H s) : LocH W env μ s.heap R H := by obtain ⟨h, t, rfl, a, b⟩ := r; exact b
theorem Rep.heap {R s} (r : Rep W env R μ H s) {H'} {h'} (a : RepH W h' R H') (b : LocH W env μ h' R H') : Rep W env R μ H' { s with heap := h' } := by
  obtain ⟨h, t, rfl, _, _⟩ := r
  exact ⟨h', t, rfl, a, b⟩
theorem Rep.push {R s} (r : Rep W env R μ H s) {o : Obj} {x : AO} (hf : o.isFreed = false) (ho : ORel W x o) : Rep W env R μ (H.set s.heap.objs.size x) { s with heap := s.heap.push o } :=
  r.heap (r.repH.push hf ho) (r.loc.push o x)
theorem Rep.push0 {R s} (r : Rep W env R μ H s) {o : Obj} : Rep W env R μ H { s with heap := s.heap.push o } :=
  r.heap (r.repH.keeps fun _ _ e => Heap.get?_push_of_some _ e) (r.loc.keeps fun _ _ e => Heap.get?_push_of_some _ e)
theorem Rep.keeps {R s} (r : Rep W env R μ H s) {h'} (k : ∀ b o, s.heap.get? b = some o → h'.get? b = some o) : Rep W env R μ H { s with heap := h' } :=
  r.heap (r.repH.keeps k) (r.loc.keeps k)
theorem Rep.isNone {R s} (r : Rep W env R μ H s) : H s.heap.objs.size = none := (r.repH.fresh (size_none _)).2.2
theorem Rep.upd {R s} (r : Rep W env R μ H s) {a : Addr} {x y : AO} {o : Obj} {h'} (e : H a = some x) (hs : Heap.SameBut a s.heap h') (ho : h'.get? a = some o) (hy : ORel W y o) : Rep W env R μ (H.set a y) { s with heap := h' } :=
  r.heap (r.repH.upd e hs ho hy) (r.loc.upd e hs)
theorem Rep.get {R s} (r : Rep W env R μ H s) {a : Addr} {x : AO} (e : H a = some x) : ∃ o, s.heap.get? a = some o ∧ ORel W x o := (r.repH.obj a x e).2

theorem EvG.mono {α β : Type} {f : α → β} {t : Sem α} {Q Q' : β → AH → Prop} (h : EvG W A env f t μ H Q) (q : ∀ v H, Q v H → Q' v H) : EvG W A env f t μ H Q' :=
  .mk fun R s r => wpAny_mono (h.run R s r) (fun _ _ ⟨H', r', x⟩ => ⟨H', r', q _ _ x⟩) fun _ _ x => x

theorem Ev_int {i : Int} {k pos} {Q} (h : Q (.int i) H) : Ev W A env (eval (.Constant (.int i) k pos) env) μ H Q :=
  .mk fun _ _ r => wpAny_Constant_int ⟨H, r.tok _, h⟩
theorem Ev_noneC {k pos} {Q} (h : Q .none H) : Ev W A env (eval (.Constant .none k pos) env) μ H Q :=
  .mk fun _ _ r => wpAny_Constant_none ⟨H, r, h⟩
theorem Ev_boolC {b k pos} {Q} (h : Q (.bool b) H) : Ev W A env (eval (.Constant (.bool b) k pos) env) μ H Q :=
  .mk fun _ _ r => wpAny_Constant_bool ⟨H, r, h⟩
theorem Ev_strC {x k pos} {Q} (h : Q (.str x) H) : Ev W A env (eval (.Constant (.str x) k pos) env) μ H Q :=
  .mk fun _ _ r => wpAny_Constant_str ⟨H, r.tok _, h⟩

def nameOk (env : Env) (x : Str) : Bool := match env.kindOf x with
  | some .local => true
  | some .cell => (env.cells.lookup x).isSome
  | some .free => (env.cells.lookup x).isSome && !(x == ("__classdict__" : Str))
  | _ => false

theorem Ev_name {x pos a} {Q} (hl : μ.lookup x = some a) (h : Q a H) (hx : nameOk env x = true := by rfl) (hk : env.scope.kind = .function := by rfl) (hd : (x == ("__debug__" : Str)) = false := by rfl) :
    Ev W A env (eval (.Name x pos) env) μ H Q := by
  refine .mk fun R s r => ?_
  refine wpAny_Name ?_ hd
  obtain ⟨m, hm, hm2⟩ := r.loc.ns
  unfold nameOk at hx
  split at hx
  · rename_i e
    obtain ⟨v, hv, rfl⟩ := hm2 x a hl e
    exact wpAny_loadName_local hk e hm hv ⟨H, r, h⟩
  · rename_i e
    obtain ⟨c, hc⟩ := Option.isSome_iff_exists.mp hx
    obtain ⟨_, v0, hv, hv2⟩ := r.loc.cell x c hc
    obtain ⟨v, rfl, rfl⟩ := hv2 a hl (by rw [e]; intro q; cases q)
    exact wpAny_loadName_cell hk e hc hv ⟨H, r, h⟩
  · rename_i e
    obtain ⟨hx1, hx2⟩ := Bool.and_eq_true_iff.mp hx
    obtain ⟨c, hc⟩ := Option.isSome_iff_exists.mp hx1
    obtain ⟨_, v0, hv, hv2⟩ := r.loc.cell x c hc
    obtain ⟨v, rfl, rfl⟩ := hv2 a hl (by rw [e]; intro q; cases q)
    exact wpAny_loadName_free hk e hc hv ⟨H, r, h⟩ (by simpa using hx2)
  · cases hx

theorem Ev_glob {x pos v} {Q} (O : W.Ok) (hv : W.mg x = some v) (h : Q (ab v) H) (hg : env.globals = mainGlobals := by rfl) (hx : env.kindOf x = some .globalImplicit := by rfl) (hk : env.scope.kind = .function := by rfl) (hd : (x == ("__debug__" : Str)) = false := by rfl) :
    Ev W A env (eval (.Name x pos) env) μ H Q := .mk fun _ s r =>
  Calls.Name_function_global hk hx (Calls.loadGlobal_global (by rw [hg]; exact O.g.keeps r.repH.keep) hv ⟨H, r, h⟩) hd
theorem Ev_bi {x pos v} {Q} (O : W.Ok) (hm : W.mg x = none) (hv : bootBuiltins x = some v) (h : Q (ab v) H) (hn : x ≠ "__name__" := by decide) (hg : env.globals = mainGlobals := by rfl) (hb : env.builtins = builtinsNs := by rfl)
    (hx : env.kindOf x = some .globalImplicit := by rfl) (hk : env.scope.kind = .function := by rfl) (hd : (x == ("__debug__" : Str)) = false := by rfl) :
    Ev W A env (eval (.Name x pos) env) μ H Q := .mk fun _ s r =>
  Calls.Name_function_global hk hx (Calls.loadGlobal_builtin (by rw [hg]; exact O.g.keeps r.repH.keep) hm (by rw [hb]; exact O.b.keeps r.repH.keep) ((O.bu x hn).trans hv) ⟨H, r, h⟩) hd

/-! arithmetic -/
theorem Ev_op2 {op l r pos} {Q} (h : Ev W A env (eval l env) μ H fun a H₁ => Ev W A env (eval r env) μ H₁ fun b H₂ => ∀ v u, ab v = a → ab u = b → Ev W A env (binaryOp op v u) μ H₂ Q) :
    Ev W A env (eval (.BinOp l op r pos) env) μ H Q := .mk fun R s rp =>
  wpAny_BinOp (wpAny_mono (h.run R s rp) (fun v s₁ ⟨_, r₁, q⟩ => wpAny_mono (q.run R s₁ r₁) (fun u s₂ ⟨_, r₂, q'⟩ => (q' v u rfl rfl).run R s₂ r₂) fun _ _ x => x) fun _ _ x => x)
theorem int2 {op : Operator} {i j k : Int} {Q} (h : Q (.int k) H) (hop : ∀ (t u : Tok) (Q' : Value → Shared → Prop) (s : Shared), Q' (.int k s.toks) { s with toks := s.toks + 1 } → wpAny W.M A (binaryOp op (.int i t) (.int j u)) Q' (fun _ _ => False) s) :
    ∀ v u, ab v = .int i → ab u = .int j → Ev W A env (binaryOp op v u) μ H Q := by
  intro v u hv hu; refine .mk fun R s r => ?_
  obtain ⟨t, rfl⟩ := ab_int hv
  obtain ⟨t', rfl⟩ := ab_int hu
  exact hop _ _ _ s ⟨H, r.tok _, h⟩
theorem Ev_add {l r pos} {Q} (h : Ev W A env (eval l env) μ H fun a H₁ => Ev W A env (eval r env) μ H₁ fun b H₂ => ∃ i j : Int, a = .int i ∧ b = .int j ∧ Q (.int (i + j)) H₂) : Ev W A env (eval (.BinOp l .Add r pos) env) μ H Q :=
  Ev_op2 (h.mono fun _ _ h => h.mono fun _ _ ⟨i, j, e1, e2, q⟩ => by subst e1 e2; exact int2 q fun t u Q' s h => PyProof.Rows.add_int h)
theorem Ev_sub {l r pos} {Q} (h : Ev W A env (eval l env) μ H fun a H₁ => Ev W A env (eval r env) μ H₁ fun b H₂ => ∃ i j : Int, a = .int i ∧ b = .int j ∧ Q (.int (i - j)) H₂) : Ev W A env (eval (.BinOp l .Sub r pos) env) μ H Q :=
  Ev_op2 (h.mono fun _ _ h => h.mono fun _ _ ⟨i, j, e1, e2, q⟩ => by subst e1 e2; exact int2 q fun t u Q' s h => PyProof.Rows.sub_int h)
theorem Ev_mul {l r pos} {Q} (h : Ev W A env (eval l env) μ H fun a H₁ => Ev W A env (eval r env) μ H₁ fun b H₂ => ∃ i j : Int, a = .int i ∧ b = .int j ∧ (-(2 ^ 63) < j ∧ j < 2 ^ 63) ∧ Q (.int (i * j)) H₂) : Ev W A env (eval (.BinOp l .Mult r pos) env) μ H Q :=
  Ev_op2 (h.mono fun _ _ h => h.mono fun _ _ ⟨i, j, e1, e2, b, q⟩ => by
    subst e1 e2
    exact int2 q fun t u Q' s h => PyProof.Rows.mul_int h (PySem.IntMulOk.of_right (PySem.intBits_le_64 (by omega) (by omega))))
theorem Ev_div {l r pos} {Q} (h : Ev W A env (eval l env) μ H fun a H₁ => Ev W A env (eval r env) μ H₁ fun b H₂ => ∃ i j : Int, a = .int i ∧ b = .int j ∧ (0 < j ∧ j < 1000000) ∧ Q (.int (i / j)) H₂) : Ev W A env (eval (.BinOp l .FloorDiv r pos) env) μ H Q :=
  Ev_op2 (h.mono fun _ _ h => h.mono fun _ _ ⟨i, j, e1, e2, b, q⟩ => by
    subst e1 e2
    rw [← Int.fdiv_eq_ediv_of_nonneg i (Int.le_of_lt b.1)] at q
    exact int2 q fun t u Q' s h => PyProof.Rows.floordiv_int (by omega) h (Or.inl (PyProof.noPylong_small (by omega))))
theorem Ev_mod {l r pos} {Q} (h : Ev W A env (eval l env) μ H fun a H₁ => Ev W A env (eval r env) μ H₁ fun b H₂ => ∃ i j : Int, a = .int i ∧ b = .int j ∧ 0 < j ∧ Q (.int (i % j)) H₂) : Ev W A env (eval (.BinOp l .Mod r pos) env) μ H Q :=
  Ev_op2 (h.mono fun _ _ h => h.mono fun _ _ ⟨i, j, e1, e2, b, q⟩ => by
    subst e1 e2
    rw [← Int.fmod_eq_emod_of_nonneg i (Int.le_of_lt b)] at q
    exact int2 q fun t u Q' s h => PyProof.Rows.mod_int (by omega) h)
theorem Ev_neg {x pos} {Q} (h : Ev W A env (eval x env) μ H fun a H₁ => ∃ i : Int, a = .int i ∧ Q (.int (-i)) H₁) : Ev W A env (eval (.UnaryOp .USub x pos) env) μ H Q := .mk fun R s rp =>
  wpAny_UnaryOp (wpAny_mono (h.run R s rp) (fun v s₁ ⟨H₁, r₁, i, e, q⟩ => by
    obtain ⟨t, rfl⟩ := ab_int e
    exact PySem.P.neg_int ⟨H₁, r₁.tok _, q⟩) fun _ _ x => x)

/-! comparisons -/
def CmpT (W : Wo) (A : Around) (env : Env) (op : CmpOp) (a b : AV) (μ : Mu) (H : AH) (Q : Bool → AH → Prop) : Prop :=
  ∀ v u, ab v = a → ab u = b → EvG W A env (fun v => v) (compareOp op v u) μ H (fun v H' => ∃ c, v = .bool c ∧ Q c H')
theorem Ev_cmp {l op r pos} {Q} (h : Ev W A env (eval l env) μ H fun a H₁ => Ev W A env (eval r env) μ H₁ fun b H₂ => CmpT W A env op a b μ H₂ fun c H₃ => Q (.bool c) H₃)
    (hm : behindInMarks op r = false := by with_unfolding_all rfl) : Ev W A env (eval (.Compare l [op] [r] pos) env) μ H Q := .mk fun R s rp =>
  wpAny_Compare1 (wpAny_mono (h.run R s rp) (fun v s₁ ⟨_, r₁, q⟩ => wpAny_mono (q.run R s₁ r₁) (fun u s₂ ⟨_, r₂, q'⟩ =>
    wpAny_mono ((q' v u rfl rfl).run R s₂ r₂) (fun _ _ ⟨H₃, r₃, c, e, q₃⟩ => ⟨H₃, r₃, by subst e; exact q₃⟩) fun _ _ x => x) fun _ _ x => x) fun _ _ x => x) hm
theorem Evb_cmp {l op r pos whole} {Q} (h : Ev W A env (eval l env) μ H fun a H₁ => Ev W A env (eval r env) μ H₁ fun b H₂ => CmpT W A env op a b μ H₂ Q)
    (hm : behindInMarks op r = false := by with_unfolding_all rfl) : Evb W A env (isTrue (.Compare l [op] [r] pos) env whole) μ H Q := .mk fun R s rp =>
  wpAny_isTrue_Compare1 (wpAny_mono (h.run R s rp) (fun v s₁ ⟨_, r₁, q⟩ => wpAny_mono (q.run R s₁ r₁) (fun u s₂ ⟨_, r₂, q'⟩ =>
    wpAny_mono ((q' v u rfl rfl).run R s₂ r₂) (fun _ _ ⟨H₃, r₃, c, e, q₃⟩ => by subst e; exact wpAny_truthy_bool ⟨H₃, r₃, q₃⟩) fun _ _ x => x) fun _ _ x => x) fun _ _ x => x) hm

theorem cmpI {op : CmpOp} {i j : Int} {c : Bool} {Q : Bool → AH → Prop} (q : Q c H)
    (hop : ∀ (t u : Tok) (Q' : Value → Shared → Prop) (s : Shared), Q' (.bool c) s → wpAny W.M A (compareOp op (.int i t) (.int j u)) Q' (fun _ _ => False) s) : CmpT W A env op (.int i) (.int j) μ H Q := by
  intro v u hv hu; refine .mk fun R s r => ?_
  obtain ⟨t, rfl⟩ := ab_int hv
  obtain ⟨t', rfl⟩ := ab_int hu
  exact hop _ _ _ s ⟨H, r, c, rfl, q⟩
theorem cmp_eq {i j : Int} {Q : Bool → AH → Prop} (q : Q (decide (i = j)) H) : CmpT W A env .Eq (.int i) (.int j) μ H Q := cmpI q fun _ _ _ _ h => PyProof.Rows.eq_int h
theorem cmp_ne {i j : Int} {Q : Bool → AH → Prop} (q : Q (!decide (i = j)) H) : CmpT W A env .NotEq (.int i) (.int j) μ H Q := cmpI q fun _ _ _ _ h => PyProof.Rows.ne_int h
theorem cmp_lt {i j : Int} {Q : Bool → AH → Prop} (q : Q (decide (i < j)) H) : CmpT W A env .Lt (.int i) (.int j) μ H Q := cmpI q fun _ _ _ _ h => PyProof.Rows.lt_int h
theorem cmp_le {i j : Int} {Q : Bool → AH → Prop} (q : Q (decide (i ≤ j)) H) : CmpT W A env .LtE (.int i) (.int j) μ H Q := cmpI q fun _ _ _ _ h => PySem.P.le_int h
theorem cmp_gt {i j : Int} {Q : Bool → AH → Prop} (q : Q (decide (j < i)) H) : CmpT W A env .Gt (.int i) (.int j) μ H Q := cmpI q fun _ _ _ _ h => PyProof.Rows.gt_int h
theorem cmp_ge {i j : Int} {Q : Bool → AH → Prop} (q : Q (decide (j ≤ i)) H) : CmpT W A env .GtE (.int i) (.int j) μ H Q := cmpI q fun _ _ _ _ h => PySem.P.ge_int h
theorem cmp_eqS {x y : Str} {Q : Bool → AH → Prop} (q : Q (decide (x = y)) H) : CmpT W A env .Eq (.str x) (.str y) μ H Q := by
  intro v u hv hu; refine .mk fun R s r => ?_
  obtain ⟨t, rfl⟩ := ab_str hv
  obtain ⟨t', rfl⟩ := ab_str hu
  refine PySem.P.eq_str ⟨H, r, _, rfl, ?_⟩
  have : (x.cps.toList == y.cps.toList) = decide (x = y) := by
    by_cases h : x = y
    · subst h; simp
    · have h2 : ¬ x.cps = y.cps := fun e => h (by cases x; cases y; simp_all)
      simp [h, h2]
  rw [this]; exact q
theorem cmp_isNone {a : AV} {b : Bool} {Q : Bool → AH → Prop} (hb : ∀ v, ab v = a → (v == Value.none) = b) (q : Q b H) : CmpT W A env .Is a .none μ H Q := by
  intro v u hv hu; refine .mk fun R s r => ?_
  cases ab_none hu
  exact is_none ⟨H, r, _, rfl, by rw [hb v hv]; exact q⟩
theorem cmp_isNotNone {a : AV} {b : Bool} {Q : Bool → AH → Prop} (hb : ∀ v, ab v = a → (v == Value.none) = b) (q : Q (!b) H) : CmpT W A env .IsNot a .none μ H Q := by
  intro v u hv hu; refine .mk fun R s r => ?_
  cases ab_none hu
  exact isNot_none ⟨H, r, _, rfl, by rw [hb v hv]; exact q⟩
theorem nn_none : ∀ v, ab v = .none → (v == Value.none) = true := fun v h => by cases ab_none h; rfl
theorem nn_int {i : Int} : ∀ v, ab v = .int i → (v == Value.none) = false := fun v h => by obtain ⟨t, rfl⟩ := ab_int h; rfl
theorem ORel.list {x o} (h : ORel W (.list x) o) : ∃ vs n, o = listOf vs n ∧ vs.toList.map ab = x := h
theorem cmp_is {a b : Addr} {xs ys : List AV} {Q : Bool → AH → Prop} (ha : H a = some (.list xs)) (hb : H b = some (.list ys)) (q : Q (decide (a = b)) H) : CmpT W A env .Is (.ref a) (.ref b) μ H Q := by
  intro v u hv hu; refine .mk fun R s r => ?_
  cases ab_ref hv; cases ab_ref hu
  by_cases e : a = b
  · subst e
    exact wpAny_is_ref_self ⟨H, r, _, rfl, by simpa using q⟩
  · obtain ⟨o, h1, vs, n, rfl, _⟩ := r.get ha
    obtain ⟨o', h1', vs', n', rfl, _⟩ := r.get hb
    exact wpAny_is_ref_other e h1 h1' (by intro z; exact absurd (Value.type.inj z) (by decide)) ⟨H, r, _, rfl, by simpa [e] using q⟩

/-! truth, and | or | not, conditional expressions -/
theorem Evb_and_nil {Q} (h : Q true H) : Evb W A env (allTrue .And [] env) μ H Q := .mk fun _ _ r => wpAny_allTrue_And_nil ⟨H, r, h⟩
theorem Evb_or_nil {Q} (h : Q false H) : Evb W A env (allTrue .Or [] env) μ H Q := .mk fun _ _ r => wpAny_allTrue_Or_nil ⟨H, r, h⟩
theorem Evb_and_cons {x rest} {Q} (h : Evb W A env (isTrue x env (eval x env)) μ H fun b H₁ => (b = true → Evb W A env (allTrue .And rest env) μ H₁ Q) ∧ (b = false → Q false H₁)) :
    Evb W A env (allTrue .And (x :: rest) env) μ H Q := .mk fun R s r => wpAny_allTrue_And_cons (wpAny_mono (h.run R s r) (fun b s₁ ⟨H₁, r₁, q⟩ => by
      cases b with
      | true => exact (q.1 rfl).run R s₁ r₁
      | false => exact ⟨H₁, r₁, q.2 rfl⟩) fun _ _ x => x)
theorem Evb_or_cons {x rest} {Q} (h : Evb W A env (isTrue x env (eval x env)) μ H fun b H₁ => (b = false → Evb W A env (allTrue .Or rest env) μ H₁ Q) ∧ (b = true → Q true H₁)) :
    Evb W A env (allTrue .Or (x :: rest) env) μ H Q := .mk fun R s r => wpAny_allTrue_Or_cons (wpAny_mono (h.run R s r) (fun b s₁ ⟨H₁, r₁, q⟩ => by
      cases b with
      | true => exact ⟨H₁, r₁, q.2 rfl⟩
      | false => exact (q.1 rfl).run R s₁ r₁) fun _ _ x => x)
theorem Evb_bool {op values pos whole} {Q} (h : Evb W A env (allTrue op values env) μ H Q) : Evb W A env (isTrue (.BoolOp op values pos) env whole) μ H Q :=
  .mk fun R s r => wpAny_isTrue_BoolOp (h.run R s r)
theorem Evb_not {x pos whole} {Q} (h : Evb W A env (isTrue x env (eval x env)) μ H fun b H₁ => Q (!b) H₁) : Evb W A env (isTrue (.UnaryOp .Not x pos) env whole) μ H Q :=
  .mk fun R s r => wpAny_isTrue_Not (wpAny_mono (h.run R s r) (fun _ _ x => x) fun _ _ x => x)
/-- the truth of a call's value that is a bool -/
theorem Evb_val {e whole} {Q} (h : Ev W A env whole μ H fun a H₁ => ∃ b, a = .bool b ∧ Q b H₁) (he : isTrue e env whole = (do let v ← whole; standAt e.pos; holding [v] (truthy v)) := by rfl) : Evb W A env (isTrue e env whole) μ H Q :=
  .mk fun R s r => wpAny_isTrue_value (wpAny_mono (h.run R s r) (fun v s₁ ⟨H₁, r₁, b, e, q⟩ => by cases ab_bool e; exact wpAny_truthy_bool ⟨H₁, r₁, q⟩) fun _ _ x => x) he
theorem Ev_if {test body orelse pos} {Q} (h : Evb W A env (isTrue test env (eval test env)) μ H fun b H₁ => (b = true → Ev W A env (eval body env) μ H₁ Q) ∧ (b = false → Ev W A env (eval orelse env) μ H₁ Q)) :
    Ev W A env (eval (.IfExp test body orelse pos) env) μ H Q := .mk fun R s r => wpAny_IfExp (wpAny_mono (h.run R s r) (fun b s₁ ⟨H₁, r₁, q⟩ => by
      cases b with
      | true => exact (q.1 rfl).run R s₁ r₁
      | false => exact (q.2 rfl).run R s₁ r₁) fun _ _ x => x)
theorem Ev_and2 {x y pos} {Q} (h : Ev W A env (eval x env) μ H fun a H₁ => ∃ b, a = .bool b ∧ (b = true → Ev W A env (eval y env) μ H₁ Q) ∧ (b = false → Q (.bool false) H₁)) :
    Ev W A env (eval (.BoolOp .And [x, y] pos) env) μ H Q := .mk fun R s r => wpAny_And2 (wpAny_mono (h.run R s r) (fun v s₁ ⟨H₁, r₁, b, e, q⟩ => by
      cases ab_bool e
      refine wpAny_truthy_bool ?_
      cases b with
      | true => exact (q.1 rfl).run R s₁ r₁
      | false => exact ⟨H₁, r₁, q.2 rfl⟩) fun _ _ x => x)

/-! displays -/
theorem Evs_nil {pos} {Q} (h : Q [] H) : Evs W A env (spliced (backTo pos (starEach [] env))) μ H Q := .mk fun _ _ r => wpAny_items_nil ⟨H, r, h⟩
theorem Evs_cons {pos e rest} {Q} (h : Ev W A env (eval e env) μ H fun a H₁ => Evs W A env (spliced (backTo pos (starEach rest env))) μ H₁ fun as H₂ => Q (a :: as) H₂)
    (he : starEach (e :: rest) env = (false, eval e env) :: starEach rest env := by rfl) : Evs W A env (spliced (backTo pos (starEach (e :: rest) env))) μ H Q := .mk fun R s r =>
  wpAny_items_cons (wpAny_mono (h.run R s r) (fun v s₁ ⟨H₁, r₁, q⟩ => wpAny_mono (q.run R s₁ r₁) (fun vs s₂ ⟨H₂, r₂, q₂⟩ => ⟨H₂, r₂, q₂⟩) fun _ _ x => x) fun _ _ x => x) he
theorem Ev_list {elts pos} {Q} (h : Evs W A env (spliced (backTo pos (starEach elts env))) μ H fun as H₁ => as.length ≤ 1000 ∧ ∀ a, H₁ a = none → Q (.ref a) (H₁.set a (.list as))) :
    Ev W A env (eval (.List elts pos) env) μ H Q := .mk fun R s r => wpAny_List (wpAny_mono (h.run R s r) (fun vs s₁ ⟨H₁, r₁, l, q⟩ =>
      ⟨by rw [List.length_map] at l; exact Nat.le_trans l (by decide), _, r₁.push rfl (x := .list (vs.map ab)) ⟨vs.toArray, 0, rfl, by simp⟩, q _ r₁.isNone⟩) fun _ _ x => x)
theorem Ev_tuple {elts k pos} {Q} (h : Evs W A env (spliced (backTo pos (starEach elts env))) μ H fun as H₁ => as.length ≤ 1000 ∧ ∀ a, H₁ a = none → Q (.ref a) (H₁.set a (.tup as))) :
    Ev W A env (eval (.Tuple elts k pos) env) μ H Q := .mk fun R s r => wpAny_Tuple (wpAny_mono (h.run R s r) (fun vs s₁ ⟨H₁, r₁, l, q⟩ =>
      ⟨by rw [List.length_map] at l; exact Nat.le_trans l (by decide), _, r₁.push rfl (x := .tup (vs.map ab)) ⟨vs.toArray, 0, rfl, by simp⟩, q _ r₁.isNone⟩) fun _ _ x => x)
end
end Mine

-- W3
namespace Mine

section
variable {W : Wo} {A : Around} {env : Env} {μ : Mu} {H : AH}

theorem listAt {R s} (r : Rep W env R μ H s) {a : Addr} {xs : List AV} (e : H a = some (.list xs)) : ∃ vs n, s.heap.get? a = some (listOf vs n) ∧ vs.toList.map ab = xs := by
  obtain ⟨o, h, vs, n, rfl, m⟩ := r.get e
  exact ⟨vs, n, h, m⟩
theorem isList_of {h : Heap} {a : Addr} {vs : Array Value} {n : Nat} (e : h.get? a = some (listOf vs n)) : h.IsList a vs := ⟨_, e, rfl, n, rfl⟩
theorem tupAt {R s} (r : Rep W env R μ H s) {a : Addr} {xs : List AV} (e : H a = some (.tup xs)) : ∃ vs n, s.heap.get? a = some { cls := .type "tuple", data := .seq vs n } ∧ vs.toList.map ab = xs := by
  obtain ⟨o, h, vs, n, rfl, m⟩ := r.get e
  exact ⟨vs, n, h, m⟩
/-- a list's object with other items -/
theorem Rep.setList {R s} (r : Rep W env R μ H s) {a : Addr} {xs ys : List AV} {vs vs' : Array Value} {n : Nat} {f : Array Value → Array Value} (e : H a = some (.list xs)) (ho : s.heap.get? a = some (listOf vs n))
    (hf : f vs = vs') (hy : vs'.toList.map ab = ys) : Rep W env R μ (H.set a (.list ys)) { s with heap := s.heap.update a (Obj.mapSeq f) } := by
  subst hf
  exact r.upd e (Heap.SameBut.update ..) (Heap.get?_update_self (Obj.mapSeq f) ho rfl) ⟨_, _, rfl, hy⟩

/-! subscripts -/
theorem Ev_sub2 {value slice pos} {Q} (h : Ev W A env (eval value env) μ H fun a H₁ => Ev W A env (eval slice env) μ H₁ fun b H₂ => ∀ v u, ab v = a → ab u = b → Ev W A env (subscriptTail value slice v u) μ H₂ Q) :
    Ev W A env (eval (.Subscript value slice pos) env) μ H Q := .mk fun R s rp =>
  PyProof.Rows.Subscript_ (wpAny_mono (h.run R s rp) (fun v s₁ ⟨_, r₁, q⟩ => wpAny_mono (q.run R s₁ r₁) (fun u s₂ ⟨_, r₂, q'⟩ => (q' v u rfl rfl).run R s₂ r₂) fun _ _ x => x) fun _ _ x => x)
theorem tail_list {value slice : Expr} {l : Addr} {xs : List AV} {k : Int} {x : AV} {Q} (hl : H l = some (.list xs)) (h0 : 0 ≤ k) (hfit : k < 2 ^ 63) (hx : xs[k.toNat]? = some x) (h : Q x H)
    (hs : ∀ u, subscripted slice false (.ref l) (.int k u) = operate [.ref l, .int k u] (getItem (.ref l) (.int k u)) := by intro _; with_unfolding_all rfl) :
    ∀ v u, ab v = .ref l → ab u = .int k → Ev W A env (subscriptTail value slice v u) μ H Q := by
  intro v u hv hu; refine .mk fun R s r => ?_
  cases ab_ref hv
  obtain ⟨t, rfl⟩ := ab_int hu
  obtain ⟨vs, n, ho, hm⟩ := listAt r hl
  rw [← hm, List.getElem?_map] at hx
  obtain ⟨y, hy, rfl⟩ := Option.map_eq_some_iff.mp hx
  exact item_listR (isList_of ho) h0 hfit (by simpa using hy) ⟨H, r, h⟩ (hs t)
theorem tail_tupS {value slice : Expr} {l : Addr} {vs : Array Value} {k : Int} {y : Value} {R : Addr → Option Obj} {s : Shared} {t : Tok} {Q : Value → Shared → Prop} (T : IsTup s.heap l vs) (h0 : 0 ≤ k) (hfit : k < 2 ^ 63) (hy : vs[k.toNat]? = some y) (h : Q y s)
    (hs : ∀ u, subscripted slice false (.ref l) (.int k u) = operate [.ref l, .int k u] (getItem (.ref l) (.int k u))) : wpAny W.M A (subscriptTail value slice (.ref l) (.int k t)) Q (fun _ _ => False) s := by
  have hlt := (Array.getElem?_eq_some_iff.mp hy).1
  refine subscriptTail_builtinR T.typeIs PyProof.Rows.slot_tuple_getitem.lookup ?_ (hs t) (x := y)
  exact getItem_tuple T (by omega) hfit (seqIndex_of h0 (by omega)) hy ⟨rfl, h⟩
theorem tail_tup {value slice : Expr} {l : Addr} {xs : List AV} {k : Int} {x : AV} {Q} (hl : H l = some (.tup xs)) (h0 : 0 ≤ k) (hfit : k < 2 ^ 63) (hx : xs[k.toNat]? = some x) (h : Q x H)
    (hs : ∀ u, subscripted slice false (.ref l) (.int k u) = operate [.ref l, .int k u] (getItem (.ref l) (.int k u)) := by intro _; with_unfolding_all rfl) :
    ∀ v u, ab v = .ref l → ab u = .int k → Ev W A env (subscriptTail value slice v u) μ H Q := by
  intro v u hv hu; refine .mk fun R s r => ?_
  cases ab_ref hv
  obtain ⟨t, rfl⟩ := ab_int hu
  obtain ⟨vs, n, ho, hm⟩ := tupAt r hl
  rw [← hm, List.getElem?_map] at hx
  obtain ⟨y, hy, rfl⟩ := Option.map_eq_some_iff.mp hx
  exact tail_tupS (R := R) ⟨_, ho, rfl, n, rfl⟩ h0 hfit (by simpa using hy) ⟨H, r, h⟩ hs
/-- a tuple of the text's own -/
theorem tail_tup0 {value slice : Expr} {l : Addr} {o : Obj} {vs : Array Value} {n : Nat} {k : Int} {y : Value} {Q} (ho : W.h0.get? l = some o) (hc : o.cls = .type "tuple") (hd : o.data = .seq vs n) (h0 : 0 ≤ k) (hfit : k < 2 ^ 63) (hy : vs[k.toNat]? = some y) (h : Q (ab y) H)
    (hs : ∀ u, subscripted slice false (.ref l) (.int k u) = operate [.ref l, .int k u] (getItem (.ref l) (.int k u)) := by intro _; with_unfolding_all rfl) :
    ∀ v u, ab v = .ref l → ab u = .int k → Ev W A env (subscriptTail value slice v u) μ H Q := by
  intro v u hv hu; refine .mk fun R s r => ?_
  cases ab_ref hv
  obtain ⟨t, rfl⟩ := ab_int hu
  exact tail_tupS (R := R) ⟨o, r.repH.keep _ _ ho, hc, n, hd⟩ h0 hfit hy ⟨H, r, h⟩ hs

/-! slices -/
theorem part_none {Q} (h : Q Value.none H) : EvG W A env (fun v => v) (evalPart none env) μ H Q := .mk fun R s r => wpAny_pure ⟨H, r, h⟩
theorem part_some {e : Expr} {Q} (h : Ev W A env (eval e env) μ H fun a H₁ => ∃ i : Int, a = .int i ∧ ∀ t, Q (.int i t) H₁) : EvG W A env (fun v => v) (evalPart (some e) env) μ H Q := .mk fun R s r =>
  wpAny_mono (h.run R s r) (fun v s₁ ⟨H₁, r₁, i, e, q⟩ => by obtain ⟨t, rfl⟩ := ab_int e; exact ⟨H₁, r₁, q t⟩) fun _ _ x => x
theorem pick_upto {zs : Array Value} {ys : List AV} {k : Int} (h0 : 0 ≤ k) (h : zs.toList.map ab = ys) : (slicePick zs none (some k) none).toList.map ab = ys.take k.toNat := by
  by_cases hk : k.toNat ≤ zs.size
  · have := slicePick_upto zs k.toNat hk
    rw [Int.toNat_of_nonneg h0] at this
    rw [this, ← h]; simp
  · have e : slicePick zs none (some k) none = slicePick zs none (some (zs.size : Int)) none := by
      unfold slicePick
      have : sliceBounds none (some k) none zs.size = sliceBounds none (some (zs.size : Int)) none zs.size := by
        have h1 : ¬ k < 0 := by omega
        have h2 : ¬ ((zs.size : Int) < 0) := by omega
        have h3 : min k (zs.size : Int) = zs.size := by omega
        unfold sliceBounds
        simp [h1, h2, h3]
      rw [this]
    rw [e, slicePick_upto zs zs.size (Nat.le_refl _), ← h]
    simp only [List.map_take]
    rw [List.take_of_length_le (by simp), List.take_of_length_le (by simp; omega)]
theorem pick_from {zs : Array Value} {ys : List AV} {k : Nat} (h : zs.toList.map ab = ys) (hk : k ≤ ys.length) : (slicePick zs (some (k : Int)) none none).toList.map ab = ys.drop k := by
  rw [slicePick_from zs k (by rw [← h] at hk; simpa using hk), ← h]; simp
theorem pick_run {zs : Array Value} {ys : List AV} {a b : Nat} (h : zs.toList.map ab = ys) (hb : b ≤ ys.length) (hab : a ≤ b) : (slicePick zs (some (a : Int)) (some (b : Int)) none).toList.map ab = (ys.drop a).take (b - a) := by
  rw [slicePick_run zs a b (by rw [← h] at hb; simpa using hb) hab, ← h]; simp

/-! dicts of ints -/
theorem dictAt {R s} (r : Rep W env R μ H s) {a : Addr} {xs : List (Int × AV)} {ep : Nat} (e : H a = some (.idict xs ep)) : ∃ kvs : List (Int × Value), s.heap.DictAt (intKind W.prog W.w) a kvs ep ∧ kvs.map (fun p => (p.1, ab p.2)) = xs := by
  obtain ⟨o, h, kvs, l, ⟨a1, a2, a3, a4, a5⟩, m⟩ := r.get e
  exact ⟨kvs, ⟨o, l, h, a1, a2, a3, a4, a5⟩, m⟩
theorem of_dictOf {h : Heap} {a : Addr} {kvs : List (Int × Value)} (d : h.DictOf (intKind W.prog W.w) a kvs) : ∃ o ep, h.get? a = some o ∧ ORel W (.idict (kvs.map (fun p => (p.1, ab p.2))) ep) o := by
  obtain ⟨o, l, ep, a0, a1, a2, a3, a4, a5⟩ := d
  exact ⟨o, ep, a0, kvs, l, ⟨a1, a2, a3, a4, a5⟩, rfl⟩
theorem valueAt_map (kvs : List (Int × Value)) (k : Int) : (valueAt kvs k).map ab = (kvs.map (fun p => (p.1, ab p.2))).lookup k := by
  induction kvs with
  | nil => rfl
  | cons p r ih =>
    unfold valueAt at *
    simp only [List.find?_cons, List.map_cons, List.lookup]
    by_cases h : p.1 = k
    · have h2 : (k == p.1) = true := by simpa using h.symm
      simp [h, h2]
    · have h2 : (k == p.1) = false := by simpa using fun e => h e.symm
      simp [h, h2, ih]
/-- d[k] = v -/
def putI (es : List (Int × AV)) (k : Int) (v : AV) : List (Int × AV) :=
  if es.any (fun p => p.1 = k) then es.map (fun p => if p.1 = k then (p.1, v) else p) else es ++ [(k, v)]
theorem stored_map (kvs : List (Int × Value)) (k : Int) (v : Value) : (stored kvs k v).map (fun p => (p.1, ab p.2)) = putI (kvs.map (fun p => (p.1, ab p.2))) k (ab v) := by
  unfold stored putI
  have e : (kvs.map (fun p => (p.1, ab p.2))).any (fun p => decide (p.1 = k)) = kvs.any (fun kv => decide (kv.1 = k)) := by rw [List.any_map]; rfl
  rw [e]
  split
  · rw [List.map_map, List.map_map]
    refine List.map_congr_left fun p _ => ?_
    by_cases h : p.1 = k <;> simp [h]
  · simp

theorem cmp_notInD {d : Addr} {es : List (Int × AV)} {ep : Nat} {k : Int} {Q : Bool → AH → Prop} (hd : H d = some (.idict es ep)) (hsm : (d == sysModules) = false) (q : Q (!(es.lookup k).isSome) H) : CmpT W A env .NotIn (.int k) (.ref d) μ H Q := by
  intro v u hv hu; refine .mk fun R s r => ?_
  obtain ⟨t, rfl⟩ := ab_int hv
  cases ab_ref hu
  obtain ⟨kvs, D, hm⟩ := dictAt r hd
  refine wpAny_notIn_of (knd := intKind W.prog W.w) (intKind_is _ _ k t) hsm D.dictOf.mapOf ⟨H, r.tok _, _, rfl, ?_⟩
  rw [← hm, ← valueAt_map, Option.isSome_map] at q
  exact q
theorem tail_dict {value slice : Expr} {l : Addr} {es : List (Int × AV)} {ep : Nat} {k : Int} {x : AV} {Q} (hl : H l = some (.idict es ep)) (hx : es.lookup k = some x) (h : Q x H)
    (hs : ∀ u, subscripted slice false (.ref l) (.int k u) = operate [.ref l, .int k u] (getItem (.ref l) (.int k u)) := by intro _; with_unfolding_all rfl) :
    ∀ v u, ab v = .ref l → ab u = .int k → Ev W A env (subscriptTail value slice v u) μ H Q := by
  intro v u hv hu; refine .mk fun R s r => ?_
  cases ab_ref hv
  obtain ⟨t, rfl⟩ := ab_int hu
  obtain ⟨kvs, D', hm⟩ := dictAt r hl
  rw [← hm, ← valueAt_map] at hx
  obtain ⟨y, hy, rfl⟩ := Option.map_eq_some_iff.mp hx
  have D := D'.dictOf
  refine subscriptTail_builtinR D.typeIs slot_dict_getitem.lookup ?_ (hs t) (x := y)
  exact wpAny_getItem_of (knd := intKind W.prog W.w) (intKind_is _ _ k t) D.mapOf hy ⟨rfl, H, r.tok _, h⟩

/-! stores -/
theorem set_list {l : Addr} {xs : List AV} {k : Int} {v u x : Value} {Q : AH → Prop} (hv : ab v = .ref l) (hu : ab u = .int k) (hl : H l = some (.list xs)) (h0 : 0 ≤ k) (hfit : k < 2 ^ 63) (hn : k < xs.length) (h : Q (H.set l (.list (xs.set k.toNat (ab x))))) :
    Evu W A env (setItem v u x) μ H Q := by
  refine .mk fun R s r => ?_
  cases ab_ref hv
  obtain ⟨t, rfl⟩ := ab_int hu
  obtain ⟨vs, n, ho, hm⟩ := listAt r hl
  have hsz : (vs.size : Int) = xs.length := by rw [← hm]; simp
  refine ki_setAt ho h0 hfit (by omega) ⟨_, r.setList hl ho rfl ?_, h⟩
  rw [← hm]
  simp [List.map_set]
theorem set_dict' {d : Addr} {es : List (Int × AV)} {ep : Nat} {k : Int} {v u x : Value} {Q : AH → Prop} (hv : ab v = .ref d) (hu : ab u = .int k) (hd : H d = some (.idict es ep)) (hn : es.length ≤ 1000000) (h : ∀ ep', Q (H.set d (.idict (putI es k (ab x)) ep'))) :
    Evu W A env (setItem v u x) μ H Q := by
  refine .mk fun R s r => ?_
  cases ab_ref hv
  obtain ⟨t, rfl⟩ := ab_int hu
  obtain ⟨kvs, D, hm⟩ := dictAt r hd
  have hz : kvs.length = es.length := by rw [← hm]; simp
  refine wpAny_setItem_pairs (knd := intKind W.prog W.w) (intKind_is _ _ k t) D.dictOf (fun h' hd' hs' => ?_) (by rw [hz]; exact Nat.le_trans hn (by decide))
  obtain ⟨o', ep', ho', hk'⟩ := of_dictOf hd'
  exact ⟨_, (r.upd hd hs' ho' hk').tok _, by rw [stored_map, hm]; exact h ep'⟩

/-! calls of lists' methods, of built-in functions -/
def CalB (W : Wo) (A : Around) (env : Env) (f : Value) (as : List AV) (μ : Mu) (H : AH) (Q : AV → AH → Prop) : Prop := ∀ vs, vs.map ab = as → Ev W A env (call f vs) μ H Q
theorem map1 {vs : List Value} {a : AV} (h : vs.map ab = [a]) : ∃ v, vs = [v] ∧ ab v = a := by
  obtain ⟨v, r, rfl, h1, h2⟩ := List.map_eq_cons_iff.mp h
  rw [List.map_eq_nil_iff.mp h2]
  exact ⟨v, rfl, h1⟩
theorem map2 {vs : List Value} {a b : AV} (h : vs.map ab = [a, b]) : ∃ v u, vs = [v, u] ∧ ab v = a ∧ ab u = b := by
  obtain ⟨v, r, rfl, h1, h2⟩ := List.map_eq_cons_iff.mp h
  obtain ⟨u, rfl, h3⟩ := map1 h2
  exact ⟨v, u, rfl, h1, h3⟩
theorem call_append {l : Addr} {xs : List AV} {x : AV} {Q : AV → AH → Prop} (hl : H l = some (.list xs)) (hn : xs.length ≤ 1000000) (h : Q .none (H.set l (.list (xs ++ [x])))) : CalB W A env (.builtin "list.append") [.ref l, x] μ H Q := by
  intro vs hv; refine .mk fun R s r => ?_
  obtain ⟨v, u, rfl, h1, rfl⟩ := map2 hv
  cases ab_ref h1
  obtain ⟨ys, n, ho, hm⟩ := listAt r hl
  have hz : ys.size ≤ sizeLine := by have : ys.size = xs.length := by rw [← hm]; simp
                                     rw [this]; exact Nat.le_trans hn (by decide)
  refine call_meets PySem.F.slot_list_append (isList_of ho).typeIs PySem.F.entry_list_append (PySem.F.args_list_append_2 _ _) (PySem.list_append l ys n u hz) ⟨ho, ?_⟩
  exact ⟨_, (r.setList hl ho rfl (by simp [hm])), h⟩
theorem call_pop {l : Addr} {xs : List AV} {x : AV} {Q : AV → AH → Prop} (hl : H l = some (.list (xs ++ [x]))) (hn : xs.length < 1000000) (h : Q x (H.set l (.list xs))) : CalB W A env (.builtin "list.pop") [.ref l] μ H Q := by
  intro vs hv; refine .mk fun R s r => ?_
  obtain ⟨v, rfl, h1⟩ := map1 hv
  cases ab_ref h1
  obtain ⟨ys, n, ho, hm⟩ := listAt r hl
  have hz' : ys.size = xs.length + 1 := by have := congrArg List.length hm; simpa using this
  have hz : ys.size ≤ sizeLine := by rw [hz']; exact Nat.le_trans hn (by decide)
  have hlast : (ys.toList.map ab)[xs.length]? = some x := by rw [hm]; simp
  rw [List.getElem?_map] at hlast
  obtain ⟨y, hy, rfl⟩ := Option.map_eq_some_iff.mp hlast
  refine call_meets PySem.F.slot_list_pop (isList_of ho).typeIs PySem.F.entry_list_pop (PySem.F.args_list_pop_1 _) (MeetsSeq.list_pop_last l ys n y (by rw [hz']; simpa using hy) hz) ⟨ho, ?_⟩
  refine ⟨_, (r.setList (f := fun xs => xs.eraseIdxIfInBounds (ys.size - 1)) hl ho rfl ?_), h⟩
  have : (ys.eraseIdxIfInBounds (ys.size - 1)).toList = ys.toList.take xs.length := by
    rw [hz']
    simp only [Nat.add_sub_cancel]
    unfold Array.eraseIdxIfInBounds
    rw [dif_pos (by omega)]
    rw [Array.toList_eraseIdx, List.eraseIdx_eq_take_drop_succ]
    rw [List.drop_of_length_le (by simp [hz'])]
    simp
  rw [this, List.map_take, hm]
  simp
theorem call_extend {l b : Addr} {xs ys : List AV} {Q : AV → AH → Prop} (hl : H l = some (.list xs)) (hb : H b = some (.list ys)) (hn : xs.length + ys.length ≤ 1000000) (h : Q .none (H.set l (.list (xs ++ ys)))) : CalB W A env (.builtin "list.extend") [.ref l, .ref b] μ H Q := by
  intro vs hv; refine .mk fun R s r => ?_
  obtain ⟨v, u, rfl, h1, h2⟩ := map2 hv
  cases ab_ref h1; cases ab_ref h2
  obtain ⟨vs, n, ho, hm⟩ := listAt r hl
  obtain ⟨us, n2, ho2, hm2⟩ := listAt r hb
  have e1 : vs.size = xs.length := by rw [← hm]; simp
  have e2 : us.size = ys.length := by rw [← hm2]; simp
  have hz : vs.size + us.size ≤ sizeLine := by rw [e1, e2]; exact Nat.le_trans hn (by decide)
  refine call_meets PySem.F.slot_list_extend (isList_of ho).typeIs PySem.F.entry_list_extend (PySem.F.args_list_extend_2 _ _) (AutoSeq1.list_extend_list_list_0 l vs n b us n2 (PyProof.Rows.extend_door hz) (by omega) (by omega)) ⟨ho, ho2, ?_⟩
  exact ⟨_, (r.setList hl ho rfl (by simp [hm, hm2])).tok _, h⟩
theorem call_len {l : Addr} {xs : List AV} {Q : AV → AH → Prop} (hl : H l = some (.list xs)) (hn : xs.length ≤ 1000000) (h : Q (.int xs.length) H) : CalB W A env (.builtin "len") [.ref l] μ H Q := by
  intro vs hv; refine .mk fun R s r => ?_
  obtain ⟨v, rfl, h1⟩ := map1 hv
  cases ab_ref h1
  obtain ⟨ys, n, ho, hm⟩ := listAt r hl
  have e1 : ys.size = xs.length := by rw [← hm]; simp
  refine Calls.call_len_list (isList_of ho) (by omega) ⟨H, (r.tok _), ?_⟩
  rw [e1]; exact h
end
end Mine

-- W4
namespace Mine

/-! ### instances -/
abbrev SRel (l : List DictEntry) (es : List (Str × AV)) : Prop := l.map (fun e => (keyOf e.key, ab e.val)) = es.map (fun p => (some p.1, p.2))
theorem isStr_key {v : Value} {k x : Str} (h : keyOf v = some k) : v.isStr x = decide (k = x) := by
  cases v <;> simp [keyOf] at h
  subst h
  rw [Bool.eq_iff_iff]; simp [Value.isStr]
theorem SRel.cons {l : List DictEntry} {es : List (Str × AV)} (h : SRel l es) : (l = [] ∧ es = []) ∨ ∃ e r p q, l = e :: r ∧ es = p :: q ∧ keyOf e.key = some p.1 ∧ ab e.val = p.2 ∧ SRel r q := by
  match l, es, h with
  | [], [], _ => exact .inl ⟨rfl, rfl⟩
  | e :: r, p :: q, h =>
    have h1 := List.cons.inj h
    have h2 := Prod.mk.inj h1.1
    exact .inr ⟨e, r, p, q, rfl, rfl, h2.1, h2.2, h1.2⟩
theorem SRel.put {name : Str} {hs : Int} {t : Tok} {v : Value} : ∀ {l : List DictEntry} {es : List (Str × AV)}, SRel l es → SRel (putL name hs (.str name t) v l) (Mu.put name (ab v) es)
  | l, es, h => by
    induction es generalizing l with
    | nil =>
      rcases h.cons with ⟨rfl, _⟩ | ⟨e, r, p, q, _, h2, _⟩
      · rfl
      · cases h2
    | cons p es ih =>
      rcases h.cons with ⟨_, h2⟩ | ⟨e, r, p', q, rfl, h2, hk, hv, hr⟩
      · cases h2
      · cases h2
        unfold putL Mu.put
        rw [isStr_key hk]
        by_cases hx : p.1 = name
        · simp only [hx, decide_true, if_true, beq_self_eq_true]
          show _ :: _ = _ :: _
          refine List.cons_eq_cons.mpr ⟨?_, hr⟩
          show (keyOf e.key, ab v) = (some name, ab v)
          rw [hk, hx]
        · have hx2 : (p.1 == name) = false := by simpa using hx
          simp only [hx, decide_false, Bool.false_eq_true, if_false, hx2]
          show _ :: _ = _ :: _
          exact List.cons_eq_cons.mpr ⟨by show (keyOf e.key, ab e.val) = (some p.1, p.2); rw [hk, hv], ih r hr⟩
theorem SRel.get {name : Str} : ∀ {l : List DictEntry} {es : List (Str × AV)}, SRel l es → getL name l = some (es.lookup name |>.elim none fun a => l.find? (·.key.isStr name) |>.map (·.val)) ∧ (∀ a, es.lookup name = some a → ∃ v, getL name l = some (some v) ∧ ab v = a) := by
  intro l es h
  induction es generalizing l with
  | nil =>
    rcases h.cons with ⟨rfl, _⟩ | ⟨e, r, p, q, _, h2, _⟩
    · exact ⟨rfl, fun a e => by cases e⟩
    · cases h2
  | cons p es ih =>
    rcases h.cons with ⟨_, h2⟩ | ⟨e, r, p', q, rfl, h2, hk, hv, hr⟩
    · cases h2
    · cases h2
      obtain ⟨ih1, ih2⟩ := ih hr
      by_cases hx : p.1 = name
      · have h1 : e.key.isStr name = true := by rw [isStr_key hk]; simp [hx]
        have h2 : (name == p.1) = true := by simp [hx]
        refine ⟨by simp [getL, h1, List.lookup, h2], fun a e => ?_⟩
        simp only [List.lookup, h2, Option.some.injEq] at e
        subst e
        exact ⟨_, by simp [getL, h1], hv⟩
      · have h1 : e.key.isStr name = false := by rw [isStr_key hk]; simp [hx]
        have h2 : (name == p.1) = false := by simpa using fun q => hx q.symm
        have hr' : e.refKey = false := by
          unfold DictEntry.refKey
          cases hh : e.key <;> simp_all [keyOf]
        have hg : getL name (e :: r) = getL name r := by
          unfold getL
          simp [List.find?_cons, h1, hr']
        refine ⟨?_, fun a e => ?_⟩
        · rw [hg, ih1]; simp [List.lookup, h2, List.find?_cons, h1]
        · rw [hg]; exact ih2 a (by simpa [List.lookup, h2] using e)
theorem SRel.miss {name : Str} {l : List DictEntry} {es : List (Str × AV)} (h : SRel l es) (e : es.lookup name = none) : getL name l = some none := by
  rw [h.get.1, e]; rfl

section
variable {W : Wo} {A : Around} {env : Env} {μ : Mu} {H : AH}

theorem instAt {R s} (r : Rep W env R μ H s) {x C d : Addr} {es : List (Str × AV)} (hx : H x = some (.inst C d)) (hd : H d = some (.sdict es)) :
    ∃ l n, SRel l es ∧ s.heap.get? d = some (dictOf l n) ∧ PySem.W.InstAt s.heap x (instObj C d) C (some (dictOf l n)) := by
  obtain ⟨o, ho, rfl⟩ := r.get hx
  obtain ⟨o', ho', l, n, rfl, hl⟩ := r.get hd
  exact ⟨l, n, hl, ho', ⟨ho, rfl, rfl, ho'⟩⟩

structure ClsOk (K : Frag) (C : Addr) : Prop where
  ga : findIn K (.ref C) "__getattribute__" = some (some (.builtin "object.__getattribute__"))
  gn : findIn K (.ref C) "__getattr__" = some none
  hd : hasDictIn K C = true
  sa : findIn K (.ref C) "__setattr__" = some (some (.builtin "object.__setattr__"))
  po : plainOver K C = true

theorem handedIn_ab {v : Value} {a : AV} (h : ab v = a) (ha : ∀ u, a ≠ .other u) : handedIn v = true := by
  cases v <;> first | rfl | (simp only [ab] at h; exact absurd h.symm (ha _))

theorem Ev_attr {value : Expr} {attr : Str} {pos : Pos} {Q} (h : Ev W A env (eval value env) μ H fun a H₁ => ∀ v, ab v = a → Ev W A env (getAttr v attr true) μ H₁ Q)
    (he : eval (.Attribute value attr pos) env = (do
      let o ← eval value env
      standAt pos.atName
      let r ← holding [o] (getAttr o attr true)
      letTemporaryGo value o r
      pure r) := by with_unfolding_all rfl) : Ev W A env (eval (.Attribute value attr pos) env) μ H Q := .mk fun R s r =>
  Attribute_any_ (wpAny_mono (h.run R s r) (fun v s₁ ⟨_, r₁, q⟩ => (q v rfl).run R s₁ r₁) fun _ _ x => x) he
theorem get_attr {K : Frag} {x C d : Addr} {es : List (Str × AV)} {name : Str} {a : AV} {Q} (X : K.In W.h0) (c : ClsOk K C) (hx : H x = some (.inst C d)) (hd : H d = some (.sdict es)) (ha : es.lookup name = some a)
    (hf : findIn K (.ref C) name = some none) (h : Q a H) (hn : ∀ u, a ≠ .other u := by intro _ e; cases e) {expr : Bool} : ∀ v, ab v = .ref x → Ev W A env (getAttr v name expr) μ H Q := by
  intro v hv; refine .mk fun R s r => ?_
  cases ab_ref hv
  obtain ⟨l, n, hl, hdd, I⟩ := instAt r hx hd
  obtain ⟨v, hg, rfl⟩ := hl.get.2 a ha
  exact get_value (X.keeps r.repH.keep) I c.ga (findObj_own c.hd hf rfl hg) (handedIn_ab rfl hn) ⟨H, r.tok _, h⟩

/-! ### calls -/
theorem Ev_call {func : Expr} {args : List Expr} {pos : Pos} {Q} (h : Ev W A env (eval func env) μ H fun a H₁ => ∀ v, ab v = a → Ev W A env (callWith pos v [] (backTo pos (starEach args env)) []) μ H₁ Q)
    (he : eval (.Call func args [] pos) env = (do callWith pos (← eval func env) [] (backTo pos (starEach args env)) (backToKw pos (keywordEach [] env))) := by rfl) : Ev W A env (eval (.Call func args [] pos) env) μ H Q := .mk fun R s r =>
  PyProof.Rows.Call_ (wpAny_mono (h.run R s r) (fun v s₁ ⟨_, r₁, q⟩ => (q v rfl).run R s₁ r₁) fun _ _ x => x) he
theorem Ev_meth {o : Expr} {name : Str} {apos pos : Pos} {args : List Expr} {pl : Sem Bool} {Q}
    (h : Ev W A env (eval o env) μ H fun a H₁ => ∀ v, ab v = a → EvG W A env (fun v => v) (getMethod v name pl) μ H₁ fun fx H₂ => Ev W A env (callWith pos fx.1 fx.2 (backTo pos (starEach args env)) []) μ H₂ Q)
    (he : eval (.Call (.Attribute o name apos) args [] pos) env = (do
      let ov ← eval o env
      standAt apos.atName
      let (f, first) ← holding [ov] (getMethod ov name pl)
      callWith pos f first (backTo pos (starEach args env)) (backToKw pos (keywordEach [] env))) := by rfl) : Ev W A env (eval (.Call (.Attribute o name apos) args [] pos) env) μ H Q := .mk fun R s r =>
  methodCall_KW (kws := []) (wpAny_mono (h.run R s r) (fun v s₁ ⟨_, r₁, q⟩ => wpAny_mono ((q v rfl).run R s₁ r₁) (fun fx s₂ ⟨_, r₂, q₂⟩ => q₂.run R s₂ r₂) fun _ _ x => x) fun _ _ x => x) he
theorem meth_inst {K : Frag} {x C d f : Addr} {es : List (Str × AV)} {name : Str} {pl : Sem Bool} {Q : Value × List Value → AH → Prop} (X : K.In W.h0) (c : ClsOk K C) (hx : H x = some (.inst C d)) (hd : H d = some (.sdict es)) (ha : es.lookup name = none)
    (hf : findIn K (.ref C) name = some (some (.ref f))) (ht : typeIn K (.ref f) = some (.type "function")) (h : Q (.ref f, [.ref x]) H) : ∀ v, ab v = .ref x → EvG W A env (fun v => v) (getMethod v name pl) μ H Q := by
  intro v hv; refine .mk fun R s r => ?_
  cases ab_ref hv
  obtain ⟨l, n, hl, hdd, I⟩ := instAt r hx hd
  refine method_fn (X.keeps r.repH.keep) I c.ga c.gn hf ht ?_ ⟨H, r, h⟩
  show (lookIn name (dictOf l n)).map _ = _
  rw [lookIn_dict, hl.miss ha]; rfl
theorem meth_list {l : Addr} {xs : List AV} {name : Str} {id : String} {pl : Sem Bool} {Q : Value × List Value → AH → Prop} (slot : Slot "list" name id) (hty : typeOf (.builtin id) = pure (.type "method_descriptor")) (hl : H l = some (.list xs))
    (h : Q (.builtin id, [.ref l]) H) : ∀ v, ab v = .ref l → EvG W A env (fun v => v) (getMethod v name pl) μ H Q := by
  intro v hv; refine .mk fun R s r => ?_
  cases ab_ref hv
  obtain ⟨ys, n, ho, hm⟩ := listAt r hl
  exact PySem.getMethod_builtin (isList_of ho).typeIs PySem.F.plainAttrs_list slot hty (fun a e => by cases e; exact ⟨_, ho, rfl⟩) ⟨H, r, h⟩

/-- a call of a def of the text's own, or a class: the arguments, then the call -/
theorem cw_fn {K : Frag} {f : Value} {first : List Value} {e : Expr} {rest : List Expr} {pos : Pos} {Q} (X : K.In W.h0) (hk : keepIn K f = true)
    (h : Evs W A env (spliced (backTo pos (starEach (e :: rest) env))) μ H fun as H₁ => CalB W A env f (first.map ab ++ as) μ H₁ Q)
    (he : starEach (e :: rest) env = (false, eval e env) :: starEach rest env := by rfl) (hp : (backTo pos (starEach rest env)).any (·.1) = false := by rfl) :
    Ev W A env (callWith pos f first (backTo pos (starEach (e :: rest) env)) []) μ H Q := .mk fun R s r =>
  callWith_K (h₀ := W.h0) X hk (wpAny_mono (h.run R s r) (fun vs s₁ ⟨_, r₁, q⟩ => ⟨X.keeps r₁.repH.keep, (q (first ++ vs) (by simp)).run R s₁ r₁⟩) fun _ _ x => x) he hp
theorem cw_fn0 {K : Frag} {f : Value} {first : List Value} {pos : Pos} {Q} (X : K.In W.h0) (hk : keepIn K f = true)
    (h : CalB W A env f (first.map ab) μ H Q) : Ev W A env (callWith pos f first (backTo pos (starEach [] env)) []) μ H Q := .mk fun R s r =>
  callWith_K0 (X.keeps r.repH.keep) hk ((h (first ++ []) (by simp)).run R s r)
theorem cw_bi {id : String} {first : List Value} {e : Expr} {rest : List Expr} {pos : Pos} {Q}
    (h : Evs W A env (spliced (backTo pos (starEach (e :: rest) env))) μ H fun as H₁ => CalB W A env (.builtin id) (first.map ab ++ as) μ H₁ Q)
    (he : starEach (e :: rest) env = (false, eval e env) :: starEach rest env := by rfl) (hp : (backTo pos (starEach rest env)).any (·.1) = false := by rfl) :
    Ev W A env (callWith pos (.builtin id) first (backTo pos (starEach (e :: rest) env)) []) μ H Q := by
  refine .mk fun R s r => ?_
  have h' := h.run R s r
  rw [he] at h' ⊢
  refine Calls.callWith_builtin (by show (false || (backTo pos (starEach rest env)).any (·.1)) = false; rw [hp]; rfl) (Calls.evalArgs_plain (wpAny_mono h' (fun vs s₁ ⟨_, r₁, q⟩ => ?_) fun _ _ x => x))
  exact (q (first ++ vs) (by simp)).run R s₁ r₁
theorem cw_bi0 {id : String} {first : List Value} {pos : Pos} {Q} (h : CalB W A env (.builtin id) (first.map ab) μ H Q) :
    Ev W A env (callWith pos (.builtin id) first (backTo pos (starEach [] env)) []) μ H Q := .mk fun R s r =>
  Calls.callWith_builtin rfl (PyProof.Rows.evalArgs_nil3 ((h (first ++ []) (by simp)).run R s r))
end
end Mine

-- W5
namespace Mine

inductive AF where
  | next | brk | cont | ret (a : AV)
def af : Flow → AF
  | .next => .next
  | .brk => .brk
  | .cont => .cont
  | .ret v => .ret (ab v)

/-- a tree that may store names -/
structure ExG (W : Wo) (A : Around) (env : Env) {α β : Type} (f : α → β) (t : Sem α) (μ : Mu) (H : AH) (Q : β → Mu → AH → Prop) : Prop where
  run : ∀ R s, Rep W env R μ H s → wpAny W.M A t (fun v s' => ∃ μ' H', Rep W env R μ' H' s' ∧ Q (f v) μ' H') (fun _ _ => False) s
abbrev Ex (W : Wo) (A : Around) (env : Env) (t : Sem Flow) (μ : Mu) (H : AH) (Q : AF → Mu → AH → Prop) : Prop := ExG W A env af t μ H Q
abbrev Exu (W : Wo) (A : Around) (env : Env) (t : Sem Unit) (μ : Mu) (H : AH) (Q : Mu → AH → Prop) : Prop := ExG W A env (fun _ => ()) t μ H (fun _ => Q)

section
variable {W : Wo} {A : Around} {env : Env} {μ : Mu} {H : AH}

theorem ExG.mono {α β : Type} {f : α → β} {t : Sem α} {Q Q' : β → Mu → AH → Prop} (h : ExG W A env f t μ H Q) (q : ∀ v μ H, Q v μ H → Q' v μ H) : ExG W A env f t μ H Q' :=
  .mk fun R s r => wpAny_mono (h.run R s r) (fun _ _ ⟨μ', H', r', x⟩ => ⟨μ', H', r', q _ _ _ x⟩) fun _ _ x => x
theorem Rep.mono {R s} {ν : Mu} (r : Rep W env R ν H s) (l : Mu.le μ ν) : Rep W env R μ H s := by
  obtain ⟨h, t, rfl, a, b⟩ := r
  exact ⟨h, t, rfl, a, b.mono l⟩
theorem ExG.le {α β : Type} {f : α → β} {t : Sem α} {ν : Mu} {Q : β → Mu → AH → Prop} (h : ExG W A env f t μ H Q) (l : Mu.le μ ν) : ExG W A env f t ν H Q :=
  .mk fun R s r => h.run R s (r.mono l)

def storeOk' (env : Env) (x : Str) : Bool := match env.kindOf x with
  | some .local => true
  | some .cell => (env.cells.lookup x).isSome
  | _ => false

theorem store_name {x : Str} {v : Value} {Q : Mu → AH → Prop} (h : Q (Mu.put x (ab v) μ) H) (hx : storeOk' env x = true := by rfl) (hk : env.scope.kind = .function := by rfl) : Exu W A env (storeName env x v) μ H Q := by
  refine .mk fun R s r => ?_
  have hp : (env.scope.kind == .class || (env.scope.kind == .module && env.locals != env.globals)) = false := by rw [hk]; rfl
  obtain ⟨m, hm, hm2⟩ := r.loc.ns
  unfold storeOk' at hx
  split at hx
  · rename_i e
    refine wpAny_storeName_local e hm (fun h' hn hs => ⟨_, H, ?_, h⟩) hp
    obtain ⟨h0, t, rfl, a, b⟩ := r
    exact ⟨h', t + 1, rfl, a.loc b.off hs, b.put e hm2 hn hs⟩
  · rename_i e
    obtain ⟨c, hc⟩ := Option.isSome_iff_exists.mp hx
    obtain ⟨⟨o1, o2⟩, v0, hv, hv2⟩ := r.loc.cell x c hc
    refine wpAny_storeName_cell hk e hc hv (fun h' hv' hs => ⟨_, H, ?_, h⟩)
    obtain ⟨h0, t, rfl, a, b⟩ := r
    exact ⟨h', t, rfl, a.loc o1 hs, b.putC (by rw [e]; intro q; cases q) hc hv' hs⟩
  · cases hx

theorem Ex_nil {Q} (h : Q .next μ H) : Ex W A env (execs [] env) μ H Q := .mk fun _ _ r => wpAny_execs_nil ⟨μ, H, r, h⟩
theorem Ex_cons {st rest} {Q} (h : Ex W A env (exec st env) μ H fun f μ' H' => match f with | .next => Ex W A env (execs rest env) μ' H' Q | f => Q f μ' H') : Ex W A env (execs (st :: rest) env) μ H Q := .mk fun R s r =>
  wpAny_execs_cons (wpAny_mono (h.run R s r) (fun f s' ⟨μ', H', r', q⟩ => by
    cases f with
    | next => exact q.run R s' r'
    | brk => exact ⟨μ', H', r', q⟩
    | cont => exact ⟨μ', H', r', q⟩
    | ret v => exact ⟨μ', H', r', q⟩) fun _ _ x => x)
theorem Ex_ret {e pos} {Q} (h : Ev W A env (eval e env) μ H fun a H' => Q (.ret a) μ H') : Ex W A env (exec (.Return (some e) pos) env) μ H Q := .mk fun R s r =>
  wpAny_Return_some (wpAny_mono (h.run R s r) (fun v s' ⟨H', r', q⟩ => ⟨μ, H', r', q⟩) fun _ _ x => x)
theorem Ex_ret0 {pos} {Q} (h : Q (.ret .none) μ H) : Ex W A env (exec (.Return none pos) env) μ H Q := .mk fun R s r => wpAny_Return_none ⟨μ, H, r, h⟩
theorem Ex_expr {e pos} {Q} (h : Ev W A env (eval e env) μ H fun _ H' => Q .next μ H') (hi : interactive env = false := by rfl) (hs : swapsWith e none pos.line env = pure false := by rfl) : Ex W A env (exec (.Expr e pos) env) μ H Q := .mk fun R s r =>
  PySem.wpAny_Expr_any (wpAny_mono (h.run R s r) (fun v s' ⟨H', r', q⟩ => ⟨μ, H', r', q⟩) fun _ _ x => x) hi hs
theorem Ex_if {test body orelse pos} {Q} (h : Evb W A env (isTrue test env (eval test env)) μ H fun b H₁ => (b = true → Ex W A env (execs body env) μ H₁ Q) ∧ (b = false → Ex W A env (execs orelse env) μ H₁ Q)) :
    Ex W A env (exec (.If test body orelse pos) env) μ H Q := .mk fun R s r => wpAny_If (wpAny_mono (h.run R s r) (fun b s₁ ⟨H₁, r₁, q⟩ => by
      cases b with
      | true => exact (q.1 rfl).run R s₁ r₁
      | false => exact (q.2 rfl).run R s₁ r₁) fun _ _ x => x)
theorem Ex_assign {x pos' value pos} {Q} (h : Ev W A env (eval value env) μ H fun a H' => Q .next (Mu.put x a μ) H') (hx : storeOk' env x = true := by rfl) (hk : env.scope.kind = .function := by rfl)
    (hs : swapsWith value (some (.Name x pos')) pos.line env = pure false := by rfl) : Ex W A env (exec (.Assign [.Name x pos'] value pos) env) μ H Q := .mk fun R s r =>
  wpAny_Assign_Name (wpAny_mono (h.run R s r) (fun v s' ⟨H', r', q⟩ => wpAny_mono ((store_name (Q := Q .next) q hx hk).run R s' r') (fun _ _ x => x) fun _ _ x => x) fun _ _ x => x) hs
theorem Ex_assignSub {o i pos' value pos} {Q} (h : Ev W A env (eval value env) μ H fun a H₁ => Ev W A env (eval o env) μ H₁ fun b H₂ => Ev W A env (eval i env) μ H₂ fun c H₃ =>
      ∀ v u x, ab v = b → ab u = c → ab x = a → Evu W A env (setItem v u x) μ H₃ (Q .next μ)) (hs : swapsWith value (some (.Subscript o i pos')) pos.line env = pure false := by rfl) :
    Ex W A env (exec (.Assign [.Subscript o i pos'] value pos) env) μ H Q := .mk fun R s r =>
  wpAny_Assign_Subscript (wpAny_mono (h.run R s r) (fun x s₁ ⟨_, r₁, q₁⟩ => wpAny_mono (q₁.run R s₁ r₁) (fun v s₂ ⟨_, r₂, q₂⟩ => wpAny_mono (q₂.run R s₂ r₂) (fun u s₃ ⟨_, r₃, q₃⟩ =>
    wpAny_mono ((q₃ v u x rfl rfl rfl).run R s₃ r₃) (fun _ _ ⟨H₄, r₄, q₄⟩ => ⟨μ, H₄, r₄, q₄⟩) fun _ _ x => x) fun _ _ x => x) fun _ _ x => x) fun _ _ x => x) hs
theorem Ex_assignAttr {o attr pos' value pos} {Q} (h : Ev W A env (eval value env) μ H fun a H₁ => Ev W A env (eval o env) μ H₁ fun b H₂ =>
      ∀ v x, ab v = b → ab x = a → Exu W A env (setAttr v attr x) μ H₂ (Q .next)) (hs : swapsWith value (some (.Attribute o attr pos')) pos.line env = pure false := by rfl) :
    Ex W A env (exec (.Assign [.Attribute o attr pos'] value pos) env) μ H Q := .mk fun R s r =>
  plainObj_wpAny_Assign_Attribute (wpAny_mono (h.run R s r) (fun x s₁ ⟨_, r₁, q₁⟩ => wpAny_mono (q₁.run R s₁ r₁) (fun v s₂ ⟨_, r₂, q₂⟩ =>
    wpAny_mono ((q₂ v x rfl rfl).run R s₂ r₂) (fun _ _ ⟨μ', H₄, r₄, q₄⟩ => ⟨μ', H₄, r₄, q₄⟩) fun _ _ x => x) fun _ _ x => x) fun _ _ x => x) hs

/-! ### a call of one of the text's defs -/
structure Cal (W : Wo) (A : Around) (f : Value) (as : List AV) (H : AH) (Q : AV → AH → Prop) : Prop where
  run : ∀ R s vs, St W R H s → vs.map ab = as → codeAny W.M A (.call f ⟨vs, []⟩) (fun r s' => match r with | .ok (.ret v) => ∃ H', St W R H' s' ∧ Q (ab v) H' | _ => False) s

open Classical in
theorem Rep.call {R s} (r : Rep W env R μ H s) : ∃ R', St W R' H s ∧ ∀ H' s', St W R' H' s' → Rep W env R μ H' s' := by
  obtain ⟨h, t, rfl, a, b⟩ := r
  let P : Addr → Prop := fun c => c = env.locals ∨ ∃ x, env.cells.lookup x = some c
  have hoff : ∀ c, P c → Off W R H c := fun c hc => hc.elim (fun e => e ▸ b.off) fun ⟨x, hx⟩ => (b.cell x c hx).1.1
  have hex : ∀ c, P c → ∃ o, h.get? c = some o := fun c hc => hc.elim (fun e => by
      obtain ⟨m, ⟨o, _, _, ho, _⟩, _⟩ := b.ns; exact ⟨o, e ▸ ho⟩) fun ⟨x, hx⟩ => by
      obtain ⟨_, v0, ⟨o, ho, _⟩, _⟩ := b.cell x c hx; exact ⟨o, ho⟩
  refine ⟨fun c => if P c then h.get? c else R c, ⟨h, t, rfl, a.keep, fun c o e => ?_, fun c x e => ?_⟩, ?_⟩
  · by_cases hc : P c
    · simpa [hc] using e
    · exact a.froz c o (by simpa [hc] using e)
  · obtain ⟨⟨e1, e2⟩, o, e3, e4⟩ := a.obj c x e
    refine ⟨⟨?_, e2⟩, o, e3, e4⟩
    have hc : ¬ P c := fun hc => by have := (hoff c hc).2.2; rw [e] at this; cases this
    simpa [hc] using e1
  · rintro H' s' ⟨h', t', rfl, a'⟩
    have same : ∀ c, P c → ∀ o, h.get? c = some o → h'.get? c = some o := fun c hc o e => a'.froz c o (by simpa [hc] using e)
    have hH : ∀ c, P c → H' c = none := fun c hc => by
      cases e : H' c with
      | none => rfl
      | some x =>
        have := (a'.obj c x e).1.1
        obtain ⟨o, ho⟩ := hex c hc
        simp [hc, ho] at this
    refine ⟨h', t', rfl, ⟨a'.keep, fun c o e => ?_, fun c x e => ?_⟩, ?_⟩
    · by_cases hc : P c
      · have := (hoff c hc).2.1; rw [e] at this; cases this
      · exact a'.froz c o (by simpa [hc] using e)
    · obtain ⟨⟨e1, e2⟩, q⟩ := a'.obj c x e
      refine ⟨⟨?_, e2⟩, q⟩
      by_cases hc : P c
      · exact (hoff c hc).2.1
      · simpa [hc] using e1
    · obtain ⟨m, ⟨o, es, ep, ho, hn⟩, hm2⟩ := b.ns
      refine ⟨⟨m, ⟨o, es, ep, same _ (.inl rfl) _ ho, hn⟩, hm2⟩, ⟨b.off.1, b.off.2.1, hH _ (.inl rfl)⟩, fun x c e => ?_, b.apart⟩
      obtain ⟨⟨o1, o2⟩, v0, ⟨oc, hoc, hd⟩, hv2⟩ := b.cell x c e
      exact ⟨⟨⟨o1.1, o1.2.1, hH _ (.inr ⟨x, e⟩)⟩, o2⟩, v0, ⟨oc, same _ (.inr ⟨x, e⟩) _ hoc, hd⟩, hv2⟩

theorem Cal.use {f : Value} {as : List AV} {Q} (h : Cal W A f as H Q) : CalB W A env f as μ H Q := by
  intro vs hv; refine .mk fun R s r => ?_
  obtain ⟨R', st, back⟩ := r.call
  exact wpAny_call (codeAny_mono (h.run R' s vs st hv) fun x s' hx => by
    rcases x with e | (_ | _ | _ | v)
    · exact hx
    · exact hx
    · exact hx
    · exact hx
    · obtain ⟨H', st', q⟩ := hx; exact ⟨H', back _ _ st', q⟩)
def retQ (Q : AV → AH → Prop) : AF → Mu → AH → Prop
  | .ret a, _, H => Q a H
  | _, _, H => Q .none H

theorem bindL_skip {k : Str → Option NameKind} {x : Str} : ∀ (binds : List (Str × Value)) (m : Str → Option Value), x ∉ binds.map (·.1) → bindL k binds m x = m x
  | [], m, _ => rfl
  | (n, v) :: r, m, h => by
    unfold bindL
    simp only [List.map_cons, List.mem_cons, not_or] at h
    rw [bindL_skip r _ h.2]
    split
    · simp [h.1]
    · rfl
theorem bindL_at {k : Str → Option NameKind} {x : Str} {v : Value} : ∀ (binds : List (Str × Value)) (m : Str → Option Value), (binds.map (·.1)).Nodup → (x, v) ∈ binds → k x = some .local → bindL k binds m x = some v
  | (n, u) :: r, m, hn, hm, hk => by
    unfold bindL
    rw [List.map_cons, List.nodup_cons] at hn
    rcases List.mem_cons.mp hm with e | hm
    · cases e
      rw [bindL_skip r _ hn.1, if_pos hk]; simp
    · exact bindL_at r _ hn.2 hm hk
theorem bindC_skip {k : Str → Option NameKind} {x : Str} : ∀ (binds : List (Str × Value)) (m : Str → Option Value), x ∉ binds.map (·.1) → bindC k binds m x = m x
  | [], m, _ => rfl
  | (n, v) :: r, m, h => by
    unfold bindC
    simp only [List.map_cons, List.mem_cons, not_or] at h
    rw [bindC_skip r _ h.2]
    split
    · rfl
    · simp [h.1]
theorem bindC_at {k : Str → Option NameKind} {x : Str} {v : Value} : ∀ (binds : List (Str × Value)) (m : Str → Option Value), (binds.map (·.1)).Nodup → (x, v) ∈ binds → k x ≠ some .local → bindC k binds m x = some v
  | (n, u) :: r, m, hn, hm, hk => by
    unfold bindC
    rw [List.map_cons, List.nodup_cons] at hn
    rcases List.mem_cons.mp hm with e | hm
    · cases e
      rw [bindC_skip r _ hn.1, if_neg hk]; simp
    · exact bindC_at r _ hn.2 hm hk
theorem zip_lookup : ∀ (ns : List Str) (vs : List Value) {x : Str} {a : AV}, (ns.zip (vs.map ab)).lookup x = some a → ∃ v, (x, v) ∈ ns.zip vs ∧ ab v = a
  | [], _, _, _, h => by simp at h
  | _ :: _, [], _, _, h => by simp at h
  | n :: ns, v :: vs, x, a, h => by
    simp only [List.map_cons, List.zip_cons_cons, List.lookup] at h
    split at h
    · rename_i e
      cases h
      exact ⟨v, by rw [beq_iff_eq.mp e]; simp, rfl⟩
    · obtain ⟨u, hu, e⟩ := zip_lookup ns vs h
      exact ⟨u, by simp [hu], e⟩
theorem zip_fst : ∀ (ns : List Str) (vs : List Value) (x : Str), x ∈ (ns.zip vs).map (·.1) → x ∈ ns
  | [], _, _, h => by simp at h
  | _ :: _, [], _, h => by simp at h
  | n :: ns, v :: vs, x, h => by
    simp only [List.zip_cons_cons, List.map_cons, List.mem_cons] at h ⊢
    exact h.imp id (zip_fst ns vs x)
theorem zip_nodup : ∀ (ns : List Str) (vs : List Value), ns.Nodup → ((ns.zip vs).map (·.1)).Nodup
  | [], _, _ => by simp
  | _ :: _, [], _ => by simp
  | n :: ns, v :: vs, h => by
    rw [List.nodup_cons] at h
    simp only [List.zip_cons_cons, List.map_cons, List.nodup_cons]
    exact ⟨fun e => h.1 (zip_fst ns vs n e), zip_nodup ns vs h.2⟩
theorem cells_key {cs : List (Str × Addr)} (h : cs.Pairwise fun x y => x.2 ≠ y.2) {x y : Str} {c : Addr} (e : cs.lookup x = some c) (e' : cs.lookup y = some c) : x = y :=
  PySem.name_of_addr h (PySem.mem_of_lookup e) (PySem.mem_of_lookup e')

/-- the body of a def, from its arguments -/
theorem Cal_fn {f : Addr} {fo : Obj} {fd : FuncData} {body : List Stmt} {names : List Str} {as : List AV} {Q} (O : W.Ok) (ho : W.h0.get? f = some fo) (hd : fo.data = .func fd) (hcd : W.h0.CodeRec fd.code fd.qualname)
    (hroom : A.depth < recursionLimit) (hbody : fd.body = .stmts body) (hclo : fd.closure = [])
    (hb : ∀ vs : List Value, vs.length = as.length → bindArgs fd ⟨vs, []⟩ = pure (names.zip vs) ∧ ((names.zip vs).all fun y => fd.scope.names.lookup y.1 == some .local || fd.scope.names.lookup y.1 == some .cell) = true)
    (hnd : names.Nodup)
    (h : ∀ L, Ex W (A.deeper (callEnvC fd L f)) (callEnvC fd L f) (execs body (callEnvC fd L f)) (names.zip as) H (retQ Q))
    (hco : fd.scope.isCoroutine = false := by rfl) (hgen : fd.scope.isGenerator = false := by rfl) (hk : fd.scope.kind = .function := by rfl) : Cal W A (.ref f) as H Q := by
  refine .mk fun R s vs st hv => ?_
  subst hv
  obtain ⟨hh, t, rfl, a⟩ := st
  obtain ⟨b1, b2⟩ := hb vs (by simp)
  refine codeAny_call_cells hroom (a.keep _ _ ho) hd (O.lim.keeps a.keep) (hcd.keeps a.keep) hbody b1 hclo (kindsX b2 _) (fun s₁ I => ?_) hco hgen hk
  obtain ⟨h₁, t₁, rfl⟩ := I.toInCall.same
  have hkp := I.toInCall.keep
  dsimp only at hkp I
  have hfr : ∀ c, hh.objs.size ≤ c → Off W R H c := fun c hc => a.fresh (by
    cases e : hh.get? c with
    | none => rfl
    | some o => exact absurd (Heap.lt_size e) (Nat.not_lt.mpr hc))
  have hzip : ∀ {x : Str} {v : Value}, (x, v) ∈ names.zip vs → x ∈ (names.zip vs).map (·.1) := fun h => List.mem_map_of_mem (f := (·.1)) h
  have hnd' : ((names.zip vs).map (·.1)).Nodup := zip_nodup names vs hnd
  have loc : LocH W (callEnvC fd hh.objs.size f) (names.zip (vs.map ab)) h₁ R H := by
    refine ⟨⟨_, I.toInCall.ns, fun x a e k => ?_⟩, hfr _ (Nat.le_refl _), fun x c e => ⟨⟨hfr c ?_, ?_⟩, _, I.cell x c e, fun a e' k => ?_⟩, fun x y c e e' => cells_key I.apart e e'⟩
    · obtain ⟨v, hv, rfl⟩ := zip_lookup _ _ e
      exact ⟨v, bindL_at _ _ hnd' hv k, rfl⟩
    · exact Nat.le_of_lt (I.above x c (PySem.mem_of_lookup e))
    · exact Nat.ne_of_gt (I.above x c (PySem.mem_of_lookup e))
    · obtain ⟨v, hv, rfl⟩ := zip_lookup _ _ e'
      exact ⟨v, bindC_at _ _ hnd' hv k, rfl⟩
  refine wpAny_mono ((h hh.objs.size).run R _ ⟨h₁, t₁, rfl, a.keeps hkp, loc⟩) (fun fl s' ⟨μ', H', r', q⟩ => ?_) fun _ _ x => x.elim
  refine ⟨H', ?_, ?_⟩
  · obtain ⟨h2, t2, rfl, a2, _⟩ := r'
    exact ⟨h2, t2, rfl, a2⟩
  · cases fl <;> exact q
end
end Mine

-- W6
namespace Mine

inductive Src where
  | list (l : Addr) (xs : List AV)
  | range (l : Addr) (lo hi : Int)
  | dict (l : Addr) (es : List (Int × AV)) (ep : Nat)
def Src.items : Src → List AV
  | .list _ xs => xs
  | .range _ lo hi => (List.range (hi - lo).toNat).map fun i => .int (lo + (i : Nat))
  | .dict _ es _ => es.map fun p => .int p.1
def Src.addr : Src → Addr
  | .list l _ => l
  | .range l _ _ => l
  | .dict l _ _ => l
def Src.start (H : AH) : Src → Prop
  | .list l xs => H l = some (.list xs)
  | .range l lo hi => H l = some (.range lo hi) ∧ -1000000000 ≤ lo ∧ lo ≤ 1000000000 ∧ -1000000000 ≤ hi ∧ hi ≤ 1000000000
  | .dict l es ep => H l = some (.idict es ep) ∧ (l == sysModules) = false
def Src.live (H : AH) : Src → Prop
  | .list l xs => H l = some (.list xs)
  | .range _ _ _ => True
  | .dict l es ep => H l = some (.idict es ep)
def Src.it (k : Nat) (o : Obj) : Src → Prop
  | .list l _ => o.cls = .type "list_iterator" ∧ o.data = .fields #[.ref l, .int (k : Nat) 0]
  | .range _ lo hi => o = { cls := .type "range_iterator", data := .fields #[rawInt (lo + (k : Nat)), rawInt (((hi - lo).toNat : Int) - (k : Nat)), rawInt 1] }
  | .dict l es ep => o.cls = .type "dict_keyiterator" ∧ o.data = .fields #[.ref l, .int (k : Nat) 0, .int (es.length : Nat) 0, .int ep 0]

def setR (R : Addr → Option Obj) (I : Addr) (o : Obj) : Addr → Option Obj := fun b => if b = I then some o else R b
theorem setR_self (R : Addr → Option Obj) (I : Addr) (o : Obj) : setR R I o I = some o := by simp [setR]
theorem setR_ne (R : Addr → Option Obj) {I b : Addr} (o : Obj) (h : b ≠ I) : setR R I o b = R b := by simp [setR, h]
theorem Src.start.live {S : Src} {H : AH} (h : S.start H) : S.live H := by
  cases S with
  | list => exact h
  | range => trivial
  | dict => exact h.1

section
variable {W : Wo} {A : Around} {env : Env} {μ : Mu} {H : AH} {R : Addr → Option Obj} {s : Shared}

theorem Rep.pushR (r : Rep W env R μ H s) {o : Obj} (hf : o.isFreed = false) : W.h0.get? s.heap.objs.size = none ∧ R s.heap.objs.size = none ∧ Rep W env (setR R s.heap.objs.size o) μ H { s with heap := s.heap.push o } := by
  have hoff := r.repH.fresh (size_none s.heap)
  refine ⟨hoff.1, hoff.2.1, ?_⟩
  have hk := fun b o' e => Heap.get?_push_of_some (h := s.heap) (a := b) (o' := o') o e
  obtain ⟨h, t, rfl, a, b⟩ := r
  have hlt : ∀ c, c < h.objs.size → c ≠ h.objs.size := fun c hc => Nat.ne_of_lt hc
  refine ⟨_, t, rfl, ⟨fun b o e => hk _ _ (a.keep b o e), fun c o' e => ?_, fun c x e => ?_⟩, ?_⟩
  · by_cases hc : c = h.objs.size
    · subst hc
      rw [setR_self] at e
      cases e
      exact Heap.get?_push_size _ hf
    · rw [setR_ne _ _ hc] at e
      exact hk _ _ (a.froz c o' e)
  · obtain ⟨⟨e1, e2⟩, o', e3, e4⟩ := a.obj c x e
    exact ⟨⟨by rw [setR_ne _ _ (hlt _ (Heap.lt_size e3))]; exact e1, e2⟩, o', hk _ _ e3, e4⟩
  · have b' := b.keeps hk
    obtain ⟨m, hm, hm2⟩ := b.ns
    refine ⟨b'.ns, ⟨b.off.1, by rw [setR_ne _ _ (hlt _ hm.lt)]; exact b.off.2.1, b.off.2.2⟩, fun x c e => ?_, b.apart⟩
    obtain ⟨⟨o1, o2⟩, v0, hv, hv2⟩ := b.cell x c e
    exact ⟨⟨⟨o1.1, by rw [setR_ne _ _ (hlt _ hv.lt)]; exact o1.2.1, o1.2.2⟩, o2⟩, v0, hv.keeps hk, hv2⟩
theorem Rep.setR' {I : Addr} {o o' : Obj} {h' : Heap} (r : Rep W env (setR R I o) μ H s) (h0 : W.h0.get? I = none) (hs : Heap.SameBut I s.heap h') (ho : h'.get? I = some o') (tk : Nat) : Rep W env (setR R I o') μ H { s with heap := h', toks := tk } := by
  obtain ⟨h, t, rfl, a, b⟩ := r
  have hI : ∀ c, Off W (setR R I o) H c → c ≠ I := fun c hc e => by have := hc.2.1; rw [e, setR_self] at this; cases this
  have hoff : ∀ c, Off W (setR R I o) H c → Off W (setR R I o') H c := fun c hc => ⟨hc.1, by rw [setR_ne _ _ (hI c hc), ← setR_ne R o (hI c hc)]; exact hc.2.1, hc.2.2⟩
  refine ⟨h', tk, rfl, ⟨fun c x e => (hs.2 c ?_).trans (a.keep c x e), fun c x e => ?_, fun c x e => ?_⟩, ?_⟩
  · rintro rfl; rw [h0] at e; cases e
  · by_cases hc : c = I
    · subst hc; rw [setR_self] at e; cases e; exact ho
    · rw [setR_ne _ _ hc] at e
      exact (hs.2 c hc).trans (a.froz c x (by rw [setR_ne _ _ hc]; exact e))
  · obtain ⟨⟨e1, e2⟩, x', e3, e4⟩ := a.obj c x e
    have hc : c ≠ I := by rintro rfl; rw [setR_self] at e1; cases e1
    exact ⟨⟨by rw [setR_ne _ _ hc] at e1 ⊢; exact e1, e2⟩, x', (hs.2 c hc).trans e3, e4⟩
  · obtain ⟨m, hm, hm2⟩ := b.ns
    refine ⟨⟨m, hm.sameBut hs (hI _ b.off), hm2⟩, hoff _ b.off, fun x c e => ?_, b.apart⟩
    obtain ⟨⟨o1, o2⟩, v0, hv, hv2⟩ := b.cell x c e
    exact ⟨⟨hoff _ o1, o2⟩, v0, hv.sameBut hs (hI _ o1), hv2⟩
theorem Rep.dropR {I : Addr} {o : Obj} {h' : Heap} (r : Rep W env (setR R I o) μ H s) (h0 : W.h0.get? I = none) (hR : R I = none) (hs : Heap.ExtBut I s.heap h') (tk : Nat) : Rep W env R μ H { s with heap := h', toks := tk } := by
  obtain ⟨h, t, rfl, a, b⟩ := r
  have hI : ∀ c, Off W (setR R I o) H c → c ≠ I := fun c hc e => by have := hc.2.1; rw [e, setR_self] at this; cases this
  have hoff : ∀ c, Off W (setR R I o) H c → Off W R H c := fun c hc => ⟨hc.1, by rw [← setR_ne R o (hI c hc)]; exact hc.2.1, hc.2.2⟩
  refine ⟨h', tk, rfl, ⟨fun c x e => hs c x ?_ (a.keep c x e), fun c x e => ?_, fun c x e => ?_⟩, ?_⟩
  · rintro rfl; rw [h0] at e; cases e
  · have hc : c ≠ I := by rintro rfl; rw [hR] at e; cases e
    exact hs c x hc (a.froz c x (by rw [setR_ne _ _ hc]; exact e))
  · obtain ⟨⟨e1, e2⟩, x', e3, e4⟩ := a.obj c x e
    have hc : c ≠ I := by rintro rfl; rw [setR_self] at e1; cases e1
    exact ⟨⟨by rw [setR_ne _ _ hc] at e1; exact e1, e2⟩, x', hs c x' hc e3, e4⟩
  · obtain ⟨m, hm, hm2⟩ := b.ns
    refine ⟨⟨m, hm.extBut hs (hI _ b.off), hm2⟩, hoff _ b.off, fun x c e => ?_, b.apart⟩
    obtain ⟨⟨o1, o2⟩, v0, ⟨oc, hoc, hd⟩, hv2⟩ := b.cell x c e
    exact ⟨⟨hoff _ o1, o2⟩, v0, ⟨oc, hs _ _ (hI _ o1) hoc, hd⟩, hv2⟩

theorem src_iter {S : Src} {v : Value} (r : Rep W env R μ H s) (hs : S.start H) (hv : ab v = .ref S.addr) {Q : Value → Shared → Prop}
    (h : ∀ I o s', W.h0.get? I = none → R I = none → S.it 0 o → Rep W env (setR R I o) μ H s' → Q (.ref I) s') : wpAny W.M A (pyIter v) Q (fun _ _ => False) s := by
  cases ab_ref hv
  cases S with
  | list l xs =>
    obtain ⟨vs, n, ho, hm⟩ := listAt r hs
    refine wpAny_pyIter_list (isList_of ho) ?_
    obtain ⟨a, b, c⟩ := r.pushR (o := { cls := .type "list_iterator", data := .fields #[.ref l, .int 0 0] }) rfl
    exact h _ _ _ a b ⟨rfl, rfl⟩ c
  | range l lo hi =>
    obtain ⟨hs, b1, b2, b3, b4⟩ := hs
    obtain ⟨o, ho, t, u, v, rfl⟩ := r.get hs
    refine wpAny_pyIter_range (t := t) (u := u) (v := v) ho (small_one (by omega) (by omega) (by omega) (by omega)) ?_
    obtain ⟨a, b, c⟩ := r.pushR (o := { cls := .type "range_iterator", data := .fields #[rawInt lo, rawInt (Builtin.Range.rangeSize lo hi 1), rawInt 1] }) rfl
    refine h _ _ _ a b ?_ c
    have e : Builtin.Range.rangeSize lo hi 1 = ((hi - lo).toNat : Int) := by rw [rangeSize_one]; split <;> omega
    show _ = _
    rw [e]; simp
  | dict l es ep =>
    obtain ⟨kvs, D, hm⟩ := dictAt r hs.1
    refine wpAny_pyIter_dict hs.2 D ?_
    obtain ⟨a, b, c⟩ := r.pushR (o := { cls := .type "dict_keyiterator", data := .fields #[.ref l, .int 0 0, .int kvs.length 0, .int ep 0] }) rfl
    refine h _ _ _ a b ⟨rfl, ?_⟩ c
    have : kvs.length = es.length := by rw [← hm]; simp
    rw [this]; rfl

theorem src_next {S : Src} {I : Addr} {o : Obj} {k : Nat} (hh : A.handled = none) (r : Rep W env (setR R I o) μ H s) (hl : S.live H) (hit : S.it k o) (h0 : W.h0.get? I = none) (hR : R I = none) (hk : k ≤ S.items.length) {Q : Option Value → Shared → Prop}
    (hi : ∀ v s' o', S.items[k]? = some (ab v) → S.it (k + 1) o' → Rep W env (setR R I o') μ H s' → Q (some v) s') (hn : ∀ s', k = S.items.length → Rep W env R μ H s' → Q none s') :
    wpAny W.M A (pyNext (.ref I)) Q (fun _ _ => False) s := by
  have hI : s.heap.get? I = some o := r.repH.froz I o (setR_self ..)
  cases S with
  | list l xs =>
    obtain ⟨vs, n, ho, hm⟩ := listAt r hl
    have it : s.heap.IsListIter I l k := ⟨o, hI, hit.1, hit.2⟩
    cases e : vs[k]? with
    | some x =>
      refine wpAny_pyNext_list_item it (isList_of ho) e fun h' it' hs' => ?_
      obtain ⟨o', ho', c1, c2⟩ := it'
      refine hi x _ o' ?_ ⟨c1, c2⟩ (r.setR' h0 hs' ho' _)
      show xs[k]? = _
      rw [← hm, List.getElem?_map, Array.getElem?_toList, e]; rfl
    | none =>
      refine wpAny_pyNext_list_end hh it (isList_of ho) e fun h' he => hn _ ?_ (r.dropR h0 hR he _)
      have h1 : vs.size ≤ k := Array.getElem?_eq_none_iff.mp e
      have h2 : vs.size = xs.length := by rw [← hm]; simp
      have h3 : k ≤ xs.length := hk
      show k = xs.length
      omega
  | range l lo hi' =>
    have it : IsRangeIter s.heap I (lo + (k : Nat)) (((hi' - lo).toNat : Int) - (k : Nat)) 1 := by rw [hit] at hI; exact hI
    have hlen : (Src.range l lo hi').items.length = (hi' - lo).toNat := by simp [Src.items]
    by_cases e : k < (hi' - lo).toNat
    · refine wpAny_pyNext_range_item it (by omega) fun h' it' hs' => ?_
      refine hi _ _ _ ?_ ?_ (r.setR' h0 hs' it' _)
      · simp [Src.items, e, ab]
      · show _ = _
        rw [show lo + (k : Int) + 1 = lo + ((k + 1 : Nat) : Int) by push_cast; omega, show ((hi' - lo).toNat : Int) - (k : Nat) - 1 = ((hi' - lo).toNat : Int) - ((k + 1 : Nat) : Int) by push_cast; omega]
    · refine wpAny_pyNext_range_end hh it (by omega) fun h' he => hn _ (by rw [hlen] at hk ⊢; omega) (r.dropR h0 hR he _)
  | dict l es ep =>
    obtain ⟨kvs, D, hm⟩ := dictAt r hl
    have hlen : kvs.length = es.length := by rw [← hm]; simp
    have it : s.heap.IsKeyIter I l k kvs.length ep := ⟨o, hI, hit.1, by rw [hlen]; exact hit.2⟩
    cases e : kvs[k]? with
    | some x =>
      obtain ⟨i, u⟩ := x
      refine wpAny_pyNext_dict_item it D e fun key h' hkey it' hs' => ?_
      obtain ⟨t, rfl⟩ := Value.isInt_shape hkey
      obtain ⟨o', ho', c1, c2⟩ := it'
      refine hi _ _ o' ?_ ⟨c1, by rw [hlen] at c2; exact c2⟩ (r.setR' h0 hs' ho' _)
      show (es.map fun p => AV.int p.1)[k]? = _
      rw [← hm, List.map_map, List.getElem?_map, e]; rfl
    | none =>
      refine wpAny_pyNext_dict_end hh it D e fun h' he => hn _ ?_ (r.dropR h0 hR he _)
      have h1 : kvs.length ≤ k := List.getElem?_eq_none_iff.mp e
      have h3 : k ≤ (es.map fun p => AV.int p.1).length := hk
      show k = (es.map fun p => AV.int p.1).length
      simp at h3 ⊢; omega

def loopQ (Q : AF → Mu → AH → Prop) (J : Mu → AH → Prop) : AF → Mu → AH → Prop
  | .next, μ, H => ∃ ν, Mu.le ν μ ∧ J ν H
  | .cont, μ, H => ∃ ν, Mu.le ν μ ∧ J ν H
  | .brk, μ, H => Q .next μ H
  | .ret a, μ, H => Q (.ret a) μ H

theorem Ex_for {x px iter body pos} {Q} (hh : A.handled = none)
    (h : Ev W A env (eval iter env) μ H fun a H₁ => ∃ S : Src, a = .ref S.addr ∧ S.start H₁ ∧ ∃ I : Nat → Mu → AH → Prop, (∃ ν, Mu.le ν μ ∧ I 0 ν H₁) ∧
      (∀ k ν H', I k ν H' → S.live H') ∧ (∀ k a ν H', S.items[k]? = some a → I k ν H' → Ex W A env (execs body env) (Mu.put x a ν) H' (loopQ Q (I (k + 1)))) ∧ ∀ ν H', I S.items.length ν H' → Q .next ν H')
    (hx : storeOk' env x = true := by rfl) (hk : env.scope.kind = .function := by rfl) (hs : ∀ x, foldedSetIterable iter env x = pure x := by intro _; rfl) : Ex W A env (exec (.For (.Name x px) iter body [] pos) env) μ H Q := by
  refine .mk fun R s r => ?_
  refine wpAny_For (wpAny_mono (h.run R s r) (fun v s₁ ⟨H₁, r₁, S, e, hst, I, ⟨ν, hν, hI⟩, hlive, turn, done⟩ => ?_) fun _ _ x => x) hs
  refine wpAny_mono (src_iter r₁ hst e (Q := fun it s₂ => ∃ J o, it = .ref J ∧ W.h0.get? J = none ∧ R J = none ∧ S.it 0 o ∧ Rep W env (setR R J o) μ H₁ s₂) fun J o s₂ a b c d => ⟨J, o, rfl, a, b, c, d⟩) (fun it s₂ ⟨J, o, e, h0, hR, hit, r₂⟩ => ?_) fun _ _ x => x.elim
  subst e
  refine codeAny_forLoop (fun n s' => ∃ k o ν H', n = S.items.length + 1 - k ∧ k ≤ S.items.length ∧ I k ν H' ∧ S.it k o ∧ Rep W env (setR R J o) ν H' s') ?_ (S.items.length + 1)
    ⟨0, o, ν, H₁, rfl, Nat.zero_le _, hI, hit, r₂.mono hν⟩
  rintro n s₃ ⟨k, o, ν, H', rfl, hk', hI, hit, r₃⟩
  refine wpAny_mono (src_next hh r₃ (hlive _ _ _ hI) hit h0 hR hk' (Q := fun y s₄ => match y with
      | some v => ∃ o', S.items[k]? = some (ab v) ∧ S.it (k + 1) o' ∧ Rep W env (setR R J o') ν H' s₄
      | none => k = S.items.length ∧ Rep W env R ν H' s₄) (fun v s₄ o' a b c => ⟨o', a, b, c⟩) fun s₄ a b => ⟨a, b⟩) (fun y s₄ hy => ?_) fun _ _ x => x.elim
  cases y with
  | none =>
    obtain ⟨rfl, r₄⟩ := hy
    exact wpAny_execs_nil ⟨ν, H', r₄, done ν H' hI⟩
  | some v =>
    obtain ⟨o', hv, hit', r₄⟩ := hy
    have hlt : k < S.items.length := (List.getElem?_eq_some_iff.mp hv).1
    refine wpAny_assign_Name (wpAny_mono ((store_name (Q := fun μ' H'' => μ' = Mu.put x (ab v) ν ∧ H'' = H') ⟨rfl, rfl⟩ hx hk).run _ s₄ r₄) (fun _ s₅ ⟨μ', H'', r₅, e1, e2⟩ => ?_) fun _ _ x => x.elim)
    subst e1 e2
    refine wpAny_mono ((turn k _ ν H'' hv hI).run _ s₅ r₅) (fun f s₆ ⟨μ', H6, r₆, q⟩ => ?_) fun _ _ x => x.elim
    have back : Rep W env R μ' H6 s₆ := by
      obtain ⟨h6, t6, rfl, a6, b6⟩ := r₆
      exact Rep.dropR (s := { W.s0 with heap := h6, toks := t6 }) ⟨h6, t6, rfl, a6, b6⟩ h0 hR (Heap.ExtBut.refl _ _) t6
    cases f with
    | next =>
      obtain ⟨ν', l, hI'⟩ := q
      exact ⟨S.items.length + 1 - (k + 1), by omega, k + 1, o', ν', H6, rfl, hlt, hI', hit', r₆.mono l⟩
    | cont =>
      obtain ⟨ν', l, hI'⟩ := q
      exact ⟨S.items.length + 1 - (k + 1), by omega, k + 1, o', ν', H6, rfl, hlt, hI', hit', r₆.mono l⟩
    | brk => exact ⟨μ', H6, back, q⟩
    | ret v => exact ⟨μ', H6, back, q⟩

/-- the same, what comes behind a turn kept out of sight -/
theorem Ex_forQ {x px iter body pos} {Q} (hh : A.handled = none)
    (h : Ev W A env (eval iter env) μ H fun a H₁ => ∃ S : Src, a = .ref S.addr ∧ S.start H₁ ∧ ∃ I : Nat → Mu → AH → Prop, (∃ ν, Mu.le ν μ ∧ I 0 ν H₁) ∧
      (∀ k ν H', I k ν H' → S.live H') ∧ (∀ k a ν H', S.items[k]? = some a → I k ν H' → ∀ Q' : AF → Mu → AH → Prop, (∀ μ' ν' H'', Mu.le ν' μ' → I (k + 1) ν' H'' → Q' .next μ' H'') → (∀ b μ' H'', Q (.ret b) μ' H'' → Q' (.ret b) μ' H'') →
        Ex W A env (execs body env) (Mu.put x a ν) H' Q') ∧ ∀ ν H', I S.items.length ν H' → Q .next ν H')
    (hx : storeOk' env x = true := by rfl) (hk : env.scope.kind = .function := by rfl) (hs : ∀ x, foldedSetIterable iter env x = pure x := by intro _; rfl) : Ex W A env (exec (.For (.Name x px) iter body [] pos) env) μ H Q :=
  Ex_for hh (h.mono fun a H₁ ⟨S, e, st, I, h0, hl, turn, done⟩ => ⟨S, e, st, I, h0, hl, fun k a ν H' hk hI => turn k a ν H' hk hI _ (fun μ' ν' H'' l hI' => ⟨ν', l, hI'⟩) fun _ _ _ q => q, done⟩) hx hk hs
theorem Ex_while {test body pos} {Q} (I : Nat → Mu → AH → Prop) (n : Nat) {ν : Mu} (l : Mu.le ν μ) (h0 : I n ν H)
    (turn : ∀ n ν H', I n ν H' → Evb W A env (isTrue test env (eval test env)) ν H' fun b H₁ =>
      (b = true → Ex W A env (execs body env) ν H₁ (loopQ Q fun ν' H' => ∃ m, m < n ∧ I m ν' H')) ∧ (b = false → Q .next ν H₁)) :
    Ex W A env (exec (.While test body [] pos) env) μ H Q := by
  refine .mk fun R s r => ?_
  refine wpAny_While (codeAny_whileLoop (fun n s' => ∃ ν H', I n ν H' ∧ Rep W env R ν H' s') ?_ n ⟨ν, H, h0, r.mono l⟩)
  rintro n s₁ ⟨ν, H', hI, r₁⟩
  refine wpAny_mono ((turn n ν H' hI).run R s₁ r₁) (fun b s₂ ⟨H₁, r₂, q⟩ => ?_) fun _ _ x => x.elim
  cases b with
  | false => exact wpAny_execs_nil ⟨ν, H₁, r₂, q.2 rfl⟩
  | true =>
    refine wpAny_mono ((q.1 rfl).run R s₂ r₂) (fun f s₃ ⟨μ', H3, r₃, q⟩ => ?_) fun _ _ x => x.elim
    cases f with
    | next => obtain ⟨ν', l, m, hm, hI'⟩ := q; exact ⟨m, hm, ν', H3, hI', r₃.mono l⟩
    | cont => obtain ⟨ν', l, m, hm, hI'⟩ := q; exact ⟨m, hm, ν', H3, hI', r₃.mono l⟩
    | brk => exact ⟨μ', H3, r₃, q⟩
    | ret v => exact ⟨μ', H3, r₃, q⟩
end
end Mine

-- W7
namespace Mine

section
variable {W : Wo} {A : Around} {env : Env} {μ : Mu} {H : AH} {R : Addr → Option Obj} {s : Shared}

theorem Rep.addR (r : Rep W env R μ H s) {b : Addr} {o : Obj} (hb : Off W R H b) (h1 : b ≠ env.locals) (h2 : ∀ x, env.cells.lookup x ≠ some b) (ho : s.heap.get? b = some o) : Rep W env (setR R b o) μ H s := by
  obtain ⟨h, t, rfl, a, l⟩ := r
  have hoff : ∀ c, c ≠ b → Off W R H c → Off W (setR R b o) H c := fun c hc x => ⟨x.1, by rw [setR_ne _ _ hc]; exact x.2.1, x.2.2⟩
  refine ⟨h, t, rfl, ⟨a.keep, fun c x e => ?_, fun c x e => ?_⟩, ⟨l.ns, hoff _ (Ne.symm h1) l.off, fun x c e => ?_, l.apart⟩⟩
  · by_cases hc : c = b
    · subst hc; rw [setR_self] at e; cases e; exact ho
    · rw [setR_ne _ _ hc] at e; exact a.froz c x e
  · obtain ⟨⟨e1, e2⟩, q⟩ := a.obj c x e
    have hc : c ≠ b := by rintro rfl; rw [hb.2.2] at e; cases e
    exact ⟨⟨by rw [setR_ne _ _ hc]; exact e1, e2⟩, q⟩
  · obtain ⟨⟨o1, o2⟩, q⟩ := l.cell x c e
    exact ⟨⟨hoff _ (by rintro rfl; exact h2 x e) o1, o2⟩, q⟩

/-- what a comprehension's block sees -/
structure CompOk (env : Env) (scope : Scope) (cl : List (Str × Addr)) (μ μc : Mu) : Prop where
  clos : closureFor scope env = pure cl
  cells : ∀ p ∈ cl, env.cells.lookup p.1 = some p.2 ∧ μ.lookup p.1 = μc.lookup p.1 ∧ (relabel scope env).names.lookup p.1 ≠ some .local ∧ env.kindOf p.1 ≠ some .local
  mu : ∀ p ∈ μc, (cl.lookup p.1).isSome = true
  cell : ∀ y ∈ scope.names, y.2 ≠ .cell
  kind : scope.kind = .function
  names : ∀ y ∈ scope.names, y.2 = .local → scope.names.lookup y.1 = some .local

theorem lookup_key {μ : Mu} {x : Str} {a : AV} (h : μ.lookup x = some a) : (x, a) ∈ μ := PySem.mem_of_lookup h

open Classical in
theorem Rep.enterComp {scope : Scope} {cl : List (Str × Addr)} {μc : Mu} (c : CompOk env scope cl μ μc) (r : Rep W env R μ H s) {C : Addr} {h₁ : Heap} (tk : Nat) (hk : ∀ b o, s.heap.get? b = some o → h₁.get? b = some o) (hC : s.heap.get? C = none)
    (hn : h₁.Ns C fun _ => none) : ∃ R1, (∀ b, s.heap.get? b = none → R1 b = none) ∧ (∀ b, Off W R H b → b ≠ env.locals → (∀ x, env.cells.lookup x ≠ some b) → R1 b = none) ∧
      Rep W (compEnvC scope cl C env) R1 μc H { s with heap := h₁, toks := tk } ∧
      ∀ ν H' s', (∀ p ∈ cl, ν.lookup p.1 = μc.lookup p.1) → Rep W (compEnvC scope cl C env) R1 ν H' s' → Rep W env R μ H' s' ∧ ∀ h'', Heap.SameBut C s'.heap h'' → Rep W env R μ H' { s' with heap := h'' } := by
  obtain ⟨h, t, rfl, a, b⟩ := r
  dsimp only at hk hC
  have clE : ∀ x c', cl.lookup x = some c' → env.cells.lookup x = some c' := fun x c' e => (c.cells _ (PySem.mem_of_lookup e)).1
  let P : Addr → Prop := fun d => d = env.locals ∨ ((∃ x, env.cells.lookup x = some d) ∧ ¬ ∃ x, cl.lookup x = some d)
  have hoff : ∀ d, P d → Off W R H d := fun d hd => hd.elim (fun e => e ▸ b.off) fun ⟨⟨x, hx⟩, _⟩ => (b.cell x d hx).1.1
  have hex : ∀ d, P d → ∃ o, h.get? d = some o := fun d hd => hd.elim (fun e => by
      obtain ⟨m, ⟨o, _, _, ho, _⟩, _⟩ := b.ns; exact ⟨o, e ▸ ho⟩) fun ⟨⟨x, hx⟩, _⟩ => by
      obtain ⟨_, v0, ⟨o, ho, _⟩, _⟩ := b.cell x d hx; exact ⟨o, ho⟩
  have hCP : ¬ P C := fun hp => by obtain ⟨o, ho⟩ := hex C hp; rw [hC] at ho; cases ho
  have hCoff : Off W R H C := a.fresh hC
  have hcP : ∀ x d, cl.lookup x = some d → ¬ P d := fun x d e hp => hp.elim (fun q => (b.cell x d (clE x d e)).1.2 q) fun ⟨_, hq⟩ => hq ⟨x, e⟩
  let R1 : Addr → Option Obj := fun d => if P d then h.get? d else R d
  have R1n : ∀ d, ¬ P d → R1 d = R d := fun d hd => by simp [R1, hd]
  have R1p : ∀ d, P d → R1 d = h.get? d := fun d hd => by simp [R1, hd]
  refine ⟨R1, fun d hd => ?_, fun d h1 h2 h3 => ?_, ⟨h₁, tk, rfl, ⟨fun d o e => hk _ _ (a.keep d o e), fun d o e => ?_, fun d x e => ?_⟩, ?_⟩, ?_⟩
  · by_cases hp : P d
    · rw [R1p d hp]; exact hd
    · rw [R1n d hp]; exact (a.fresh hd).2.1
  · have hp : ¬ P d := fun hp => hp.elim h2 fun ⟨⟨x, hx⟩, _⟩ => h3 x hx
    rw [R1n d hp]; exact h1.2.1
  · by_cases hp : P d
    · rw [R1p d hp] at e; exact hk _ _ e
    · rw [R1n d hp] at e; exact hk _ _ (a.froz d o e)
  · obtain ⟨⟨e1, e2⟩, o, e3, e4⟩ := a.obj d x e
    have hp : ¬ P d := fun hp => by have := (hoff d hp).2.2; rw [e] at this; cases this
    exact ⟨⟨by rw [R1n d hp]; exact e1, e2⟩, o, hk _ _ e3, e4⟩
  · have muK : ∀ x v, μc.lookup x = some v → ∃ d, cl.lookup x = some d := fun x v e => Option.isSome_iff_exists.mp (c.mu _ (lookup_key e))
    refine ⟨⟨_, hn, fun x v e k => ?_⟩, ⟨hCoff.1, by show R1 C = none; rw [R1n C hCP]; exact hCoff.2.1, hCoff.2.2⟩, fun x d e => ?_, fun x y d e e' => b.apart x y d (clE x d e) (clE y d e')⟩
    · obtain ⟨d, hd⟩ := muK x v e
      exact absurd k (c.cells _ (PySem.mem_of_lookup hd)).2.2.1
    · obtain ⟨⟨o1, o2⟩, v0, hv, hv2⟩ := b.cell x d (clE x d e)
      have q := c.cells _ (PySem.mem_of_lookup e)
      refine ⟨⟨⟨o1.1, by rw [R1n d (hcP x d e)]; exact o1.2.1, o1.2.2⟩, ?_⟩, v0, hv.keeps hk, fun a' e' _ => hv2 a' (q.2.1.trans e') q.2.2.2⟩
      show d ≠ C
      rintro rfl
      obtain ⟨o, ho, _⟩ := hv
      rw [hC] at ho; cases ho
  · rintro ν H' s' hν ⟨h', t', rfl, a', b'⟩
    have same : ∀ d, P d → ∀ o, h.get? d = some o → h'.get? d = some o := fun d hd o e => a'.froz d o (by rw [R1p d hd]; exact e)
    have hH : ∀ d, P d → H' d = Option.none := fun d hd => by
      cases e : H' d with
      | none => rfl
      | some x =>
        have := (a'.obj d x e).1.1
        obtain ⟨o, ho⟩ := hex d hd
        rw [R1p d hd, ho] at this; cases this
    have main : ∀ h'', (∀ d, d ≠ C → h''.get? d = h'.get? d) → Rep W env R μ H' { W.s0 with heap := h'', toks := t' } := by
      intro h'' hs
      have neC : ∀ d o, W.h0.get? d = some o → d ≠ C := fun d o e q => by rw [q, hCoff.1] at e; cases e
      refine ⟨h'', t', rfl, ⟨fun d o e => (hs d (neC d o e)).trans (a'.keep d o e), fun d o e => ?_, fun d x e => ?_⟩, ?_⟩
      · have hd : d ≠ C := by rintro rfl; rw [hCoff.2.1] at e; cases e
        have hp : ¬ P d := fun hp => by have := (hoff d hp).2.1; rw [e] at this; cases this
        exact (hs d hd).trans (a'.froz d o (by rw [R1n d hp]; exact e))
      · obtain ⟨⟨e1, e2⟩, o, e3, e4⟩ := a'.obj d x e
        have hd : d ≠ C := by rintro rfl; have := b'.off.2.2; rw [show (compEnvC scope cl d env).locals = d from rfl, e] at this; cases this
        refine ⟨⟨?_, e2⟩, o, (hs d hd).trans e3, e4⟩
        by_cases hp : P d
        · exact (hoff d hp).2.1
        · rw [R1n d hp] at e1; exact e1
      · have hCl : env.locals ≠ C := fun q => hCP (.inl q.symm)
        obtain ⟨m, ⟨o, es, ep, ho, hn'⟩, hm2⟩ := b.ns
        refine ⟨⟨m, ⟨o, es, ep, (hs _ hCl).trans (same _ (.inl rfl) _ ho), hn'⟩, hm2⟩, ⟨b.off.1, b.off.2.1, hH _ (.inl rfl)⟩, fun x d e => ?_, b.apart⟩
        obtain ⟨⟨o1, o2⟩, v0, ⟨oc, hoc, hd⟩, hv2⟩ := b.cell x d e
        have hdC : d ≠ C := by rintro rfl; rw [hC] at hoc; cases hoc
        by_cases hcap : ∃ y, cl.lookup y = some d
        · obtain ⟨y, hy⟩ := hcap
          have hxy : y = x := b.apart y x d (clE y d hy) e
          subst hxy
          obtain ⟨⟨p1, p2⟩, w0, ⟨oc', hoc', hd'⟩, hw2⟩ := b'.cell y d hy
          have q := c.cells _ (PySem.mem_of_lookup hy)
          refine ⟨⟨⟨o1.1, o1.2.1, p1.2.2⟩, o2⟩, w0, ⟨oc', (hs d hdC).trans hoc', hd'⟩, fun a' e' k => hw2 a' ?_ q.2.2.1⟩
          rw [hν _ (PySem.mem_of_lookup hy)]
          exact q.2.1.symm.trans e'
        · have hp : P d := .inr ⟨⟨x, e⟩, hcap⟩
          exact ⟨⟨⟨o1.1, o1.2.1, hH _ hp⟩, o2⟩, v0, ⟨oc, (hs d hdC).trans (same _ hp _ hoc), hd⟩, hv2⟩
    exact ⟨main h' fun _ _ => rfl, fun h'' hs => main h'' fun d hd => hs.2 d hd⟩
end
end Mine

-- W8
namespace Mine

section
variable {W : Wo} {A : Around} {env : Env} {μ : Mu} {H : AH} {R : Addr → Option Obj} {s : Shared}

theorem src_self {S : Src} {I : Addr} {o : Obj} {k : Nat} (hI : s.heap.get? I = some o) (hit : S.it k o) {Q : Value → Shared → Prop} (h : Q (.ref I) s) : wpAny W.M A (pyIter (.ref I)) Q (fun _ _ => False) s := by
  cases S with
  | list l xs => exact wpAny_pyIter_listiter ⟨o, hI, hit.1, hit.2⟩ h
  | range l lo hi => exact wpAny_pyIter_rangeiter (show IsRangeIter _ _ _ _ _ by rw [hit] at hI; exact hI) h
  | dict l es ep => exact PySem.wpAny_pyIter_keyiter ⟨o, hI, hit.1, hit.2⟩ h

/-- the tests of a comprehension's clause -/
def testsOf (ifs : List Expr) (env : Env) : Sem Bool := forIn ifs true fun c r => if r = true then do let ok ← isTrue c env (eval c env); pure (ForInStep.yield ok) else pure (ForInStep.yield r)
theorem tests_nil {Q : Bool → AH → Prop} (h : Q true H) : Evb W A env (testsOf [] env) μ H Q := .mk fun R s r => wpAny_tests_nil ⟨H, r, h⟩
theorem tests_one {c : Expr} {Q : Bool → AH → Prop} (h : Evb W A env (isTrue c env (eval c env)) μ H Q) : Evb W A env (testsOf [c] env) μ H Q := .mk fun R s r => wpAny_tests_one (h.run R s r)

theorem off_of {R : Addr → Option Obj} {env : Env} {μ : Mu} {H : AH} {s : Shared} (r : Rep W env R μ H s) {b : Addr} {o : Obj} (e : R b = some o) : b ≠ env.locals ∧ ∀ x, env.cells.lookup x ≠ some b := by
  refine ⟨?_, fun x hx => ?_⟩
  · rintro rfl
    have := r.loc.off.2.1
    rw [e] at this; cases this
  · have := (r.loc.cell x b hx).1.1.2.1
    rw [e] at this; cases this
theorem Rep.mono' {ν : Mu} (r : Rep W env R ν H s) (l : ∀ x a, μ.lookup x = some a → ν.lookup x = some a) : Rep W env R μ H s := by
  obtain ⟨h, t, rfl, a, b⟩ := r
  exact ⟨h, t, rfl, a, ⟨let ⟨m, p, q⟩ := b.ns; ⟨m, p, fun x c e k => q x c (l _ _ e) k⟩, b.off, fun x c e => let ⟨p, v0, q, d⟩ := b.cell x c e; ⟨p, v0, q, fun y e k => d y (l _ _ e) k⟩, b.apart⟩⟩

theorem Rep.other (r : Rep W env R μ H s) {C : Addr} {h' : Heap} (h1 : Off W R H C) (h2 : C ≠ env.locals) (h3 : ∀ y, env.cells.lookup y ≠ some C) (hs : Heap.SameBut C s.heap h') : Rep W env R μ H { s with heap := h' } := by
  obtain ⟨h, t, rfl, a, b⟩ := r
  obtain ⟨m, hm, hm2⟩ := b.ns
  refine ⟨h', t, rfl, a.loc h1 hs, ⟨⟨m, hm.sameBut hs (Ne.symm h2), hm2⟩, b.off, fun x c e => ?_, b.apart⟩⟩
  obtain ⟨p, v0, q, d⟩ := b.cell x c e
  exact ⟨p, v0, q.sameBut hs (by rintro rfl; exact h3 x e), d⟩

structure CompIn (W : Wo) (A : Around) (env : Env) (scope : Scope) (cl : List (Str × Addr)) (x : Str) (ifs : List Expr) (elt : Expr) (μc : Mu) (S : Src) (I : Nat → List AV → AH → Prop) : Prop where
  live : ∀ k ys H, I k ys H → S.live H
  turn : ∀ C k a ys H, S.items[k]? = some a → I k ys H → Evb W A (compEnvC scope cl C env) (testsOf ifs (compEnvC scope cl C env)) (Mu.put x a μc) H fun b H₁ =>
    (b = true → Ev W A (compEnvC scope cl C env) (eval elt (compEnvC scope cl C env)) (Mu.put x a μc) H₁ fun y H₂ => I (k + 1) (ys ++ [y]) H₂) ∧ (b = false → I (k + 1) ys H₁)

theorem comp_core {scope : Scope} {cl : List (Str × Addr)} {μc : Mu} {x : Str} {px : Pos} {ifs : List Expr} {elt iter : Expr} {pos : Pos} {S : Src} {I : Nat → List AV → AH → Prop} {J : Addr} {o : Obj} {RR : Value → Addr → Result → Shared → Prop}
    (hh : A.handled = none) (c : CompOk env scope cl μ μc) (hx : scope.names.lookup x = some .local) (hxc : cl.lookup x = none) (r : Rep W env (setR R J o) μ H s) (h0 : W.h0.get? J = none) (hR : R J = none) (hit : S.it 0 o) (hlen : S.items.length ≤ 1000000)
    (hI : I 0 [] H) (ci : CompIn W A env scope cl x ifs elt μc S I)
    (done : ∀ D C ys H' s', I S.items.length ys H' → H' D = none → Rep W env R μ (H'.set D (.list ys)) s' → (∃ m, s'.heap.Ns C m) → Off W R (H'.set D (.list ys)) C →
      C ≠ env.locals → (∀ y, env.cells.lookup y ≠ some C) → D ≠ C → RR (.ref D) C (.ok .next) s') :
    wpAny W.M A (newList []) (fun acc s₃ => wpAny W.M A (newFunctionEnv scope env.globals cl [] env.qual none .none (some env)) (fun cenv s₄ =>
      codeAny W.M A (.compStart (.ListComp elt [⟨.Name x px, iter, ifs, 0⟩] scope pos) 0 (.ref J) acc { cenv with scope := relabel scope env }) (RR acc cenv.locals) s₄) (fun _ _ => False) s₃) (fun _ _ => False) s := by
  refine wpAny_newObj_type (wpAny_newFunctionEnv c.cell (by intro y hy; simp at hy) (fun h₁ hns₁ hsb₁ => ?_) c.kind)
  dsimp only at hns₁ hsb₁ ⊢
  generalize hD : s.heap.objs.size = D at *
  generalize hH2 : s.heap.push { cls := .type "list", dict := none, data := .seq ([] : List Value).toArray } = H2 at hns₁ hsb₁ ⊢
  have hC' : H2.objs.size = D + 1 := by rw [← hH2, Heap.size_push, hD]
  generalize hC : H2.objs.size = C at *
  have hDC : D ≠ C := by rw [hC']; exact Nat.ne_of_lt (Nat.lt_succ_self _)
  have below : ∀ b, b < D → b ≠ C ∧ b ≠ D := fun b hb => ⟨by rw [hC']; exact Nat.ne_of_lt (Nat.lt_succ_of_lt hb), Nat.ne_of_lt hb⟩
  have old : ∀ b o, s.heap.get? b = some o → h₁.get? b = some o := fun b o e => hsb₁.extBut b o (below b (hD ▸ Heap.lt_size e)).1 (Heap.get?_push_of_some _ (hH2 ▸ Heap.get?_push_of_some _ e))
  have hDn : s.heap.get? D = none := hD ▸ size_none _
  have hCn : s.heap.get? C = none := by
    cases e : s.heap.get? C with
    | none => rfl
    | some o' => have := Heap.lt_size e; rw [hD] at this; rw [hC'] at this; exact absurd this (Nat.not_lt.mpr (Nat.le_succ D))
  have hDo : h₁.get? D = some (listOf #[] 0) := hsb₁.extBut _ _ hDC (Heap.get?_push_of_some _ (by rw [← hH2, ← hD]; exact Heap.get?_push_size _ rfl))
  have hJo : s.heap.get? J = some o := r.repH.froz J o (setR_self ..)
  have hJD : J ≠ D := by rintro rfl; rw [hDn] at hJo; cases hJo
  have hJC : J ≠ C := by rintro rfl; rw [hCn] at hJo; cases hJo
  have offJ := off_of r (setR_self R J o)
  have rJ : Rep W env R μ H s := by
    obtain ⟨h6, t6, rfl, a6, b6⟩ := r
    exact Rep.dropR (s := { W.s0 with heap := h6, toks := t6 }) ⟨h6, t6, rfl, a6, b6⟩ h0 hR (Heap.ExtBut.refl _ _) t6
  have HJ : H J = none := by
    cases e : H J with
    | none => rfl
    | some y => have := (r.repH.obj J y e).1.1; rw [setR_self] at this; cases this
  obtain ⟨R1, R1a, R1b, rc, back⟩ := rJ.enterComp c (C := C) (h₁ := h₁) (s.toks + ([] : List (Str × Value)).length) old hCn hns₁
  have R1D : R1 D = none := R1a D hDn
  have R1J : R1 J = none := R1b J ⟨h0, hR, HJ⟩ offJ.1 offJ.2
  have HD : H D = none := (rJ.repH.fresh hDn).2.2
  have h0D : W.h0.get? D = none := (rJ.repH.fresh hDn).1
  have clD : ∀ y, cl.lookup y ≠ some D := fun y hy => by
    obtain ⟨_, v0, hv, _⟩ := rJ.loc.cell y D (c.cells _ (PySem.mem_of_lookup hy)).1
    obtain ⟨oo, hoo, _⟩ := hv; rw [hDn] at hoo; cases hoo
  have clJ : ∀ y, cl.lookup y ≠ some J := fun y hy => offJ.2 y (c.cells _ (PySem.mem_of_lookup hy)).1
  have envC : ∀ y, env.cells.lookup y ≠ some C := fun y hy => by
    obtain ⟨_, v0, hv, _⟩ := rJ.loc.cell y C hy
    obtain ⟨oo, hoo, _⟩ := hv; rw [hCn] at hoo; cases hoo
  have locC : C ≠ env.locals := by
    rintro rfl
    obtain ⟨m, ⟨oo, _, _, hoo, _⟩, _⟩ := rJ.loc.ns; rw [hCn] at hoo; cases hoo
  have rD : Rep W (compEnvC scope cl C env) (setR R1 D (listOf #[] 0)) μc H { s with heap := h₁, toks := s.toks + ([] : List (Str × Value)).length } := rc.addR ⟨h0D, R1D, HD⟩ hDC clD hDo
  have rDJ : Rep W (compEnvC scope cl C env) (setR (setR R1 D (listOf #[] 0)) J o) μc H { s with heap := h₁, toks := s.toks + ([] : List (Str × Value)).length } :=
    rD.addR ⟨h0, by rw [setR_ne _ _ hJD]; exact R1J, HJ⟩ hJC clJ (old _ _ hJo)
  have swap : ∀ (a b : Obj), setR (setR R1 D a) J b = setR (setR R1 J b) D a := fun a b => by
    funext d
    by_cases h1 : d = J
    · subst h1; rw [setR_self, setR_ne _ _ hJD, setR_self]
    · by_cases h2 : d = D
      · subst h2; rw [setR_ne _ _ h1, setR_self, setR_self]
      · rw [setR_ne _ _ h1, setR_ne _ _ h2, setR_ne _ _ h2, setR_ne _ _ h1]
  have hkx : (compEnvC scope cl C env).kindOf x = some .local := lookup_relabel_local hx
  have hkk : (compEnvC scope cl C env).scope.kind = .function := c.kind
  have loop : ∀ s₃ : Shared, s₃ = { s with heap := h₁, toks := s.toks + ([] : List (Str × Value)).length } →
      codeAny W.M A (.compLoop (.ListComp elt [⟨.Name x px, iter, ifs, 0⟩] scope pos) 0 (.ref J) (.ref D) (compEnvC scope cl C env)) (RR (.ref D) C) s₃ := by
    rintro s₃ rfl
    refine codeAny_compLoop_tests (fun n s' => ∃ k ys vs nn o' H', n = S.items.length + 1 - k ∧ k ≤ S.items.length ∧ I k ys H' ∧ S.it k o' ∧ ys.length ≤ k ∧ vs.toList.map ab = ys ∧
        Rep W (compEnvC scope cl C env) (setR (setR R1 D (listOf vs nn)) J o') μc H' s') ?_ (S.items.length + 1)
      ⟨0, [], #[], 0, o, H, rfl, Nat.zero_le _, hI, hit, Nat.le_refl _, rfl, rDJ⟩
    rintro n s₄ ⟨k, ys, vs, nn, o', H', rfl, hk', hI', hit', hyl, hvs, r₄⟩
    refine wpAny_mono (src_next hh r₄ (ci.live _ _ _ hI') hit' h0 (by rw [setR_ne _ _ hJD]; exact R1J) hk' (Q := fun y s₅ => match y with
        | some v => ∃ o'', S.items[k]? = some (ab v) ∧ S.it (k + 1) o'' ∧ Rep W (compEnvC scope cl C env) (setR (setR R1 D (listOf vs nn)) J o'') μc H' s₅
        | none => k = S.items.length ∧ Rep W (compEnvC scope cl C env) (setR R1 D (listOf vs nn)) μc H' s₅) (fun v s₅ o'' a b c => ⟨o'', a, b, c⟩) fun s₅ a b => ⟨a, b⟩) (fun y s₅ hy => ?_) fun _ _ x => x.elim
    cases y with
    | none =>
      obtain ⟨rfl, r₅⟩ := hy
      have hDo5 : s₅.heap.get? D = some (listOf vs nn) := r₅.repH.froz D _ (setR_self ..)
      have H'D : H' D = none := by
        cases e : H' D with
        | none => rfl
        | some y => have := (r₅.repH.obj D y e).1.1; rw [setR_self] at this; cases this
      have rl : Rep W (compEnvC scope cl C env) R1 μc (H'.set D (.list ys)) s₅ := by
        obtain ⟨h6, t6, rfl, a6, b6⟩ := r₅
        have o6 := fun d hd => setR_ne R1 (b := d) (I := D) (listOf vs nn) hd
        have offn : ∀ d, Off W (setR R1 D (listOf vs nn)) H' d → Off W R1 (H'.set D (.list ys)) d := fun d hd => by
          have hdD : d ≠ D := by rintro rfl; have := hd.2.1; rw [setR_self] at this; cases this
          exact ⟨hd.1, by rw [← o6 d hdD]; exact hd.2.1, by rw [AH.set_ne _ _ hdD]; exact hd.2.2⟩
        refine ⟨h6, t6, rfl, ⟨a6.keep, fun d x e => ?_, fun d x e => ?_⟩, ⟨b6.ns, offn _ b6.off, fun x d e => ?_, b6.apart⟩⟩
        · have hdD : d ≠ D := by rintro rfl; rw [R1D] at e; cases e
          exact a6.froz d x (by rw [o6 d hdD]; exact e)
        · by_cases hdD : d = D
          · subst hdD
            rw [AH.set_self] at e
            cases e
            exact ⟨⟨R1D, h0D⟩, _, hDo5, vs, nn, rfl, hvs⟩
          · rw [AH.set_ne _ _ hdD] at e
            obtain ⟨⟨e1, e2⟩, q⟩ := a6.obj d x e
            exact ⟨⟨by rw [← o6 d hdD]; exact e1, e2⟩, q⟩
        · obtain ⟨⟨q1, q2⟩, q⟩ := b6.cell x d e
          exact ⟨⟨offn _ q1, q2⟩, q⟩
      obtain ⟨f1, f2⟩ := back μc _ s₅ (fun _ _ => rfl) rl
      have hns5 : ∃ m, s₅.heap.Ns C m := let ⟨m, q, _⟩ := r₅.loc.ns; ⟨m, q⟩
      have offC : Off W R (H'.set D (.list ys)) C := ⟨(rJ.repH.fresh hCn).1, (rJ.repH.fresh hCn).2.1, by rw [AH.set_ne _ _ (Ne.symm hDC)]; exact r₅.loc.off.2.2⟩
      exact done D C ys H' s₅ hI' H'D f1 hns5 offC locC envC hDC
    | some v =>
      obtain ⟨o'', hv, hit'', r₅⟩ := hy
      have hlt : k < S.items.length := (List.getElem?_eq_some_iff.mp hv).1
      have hst : storeOk' (compEnvC scope cl C env) x = true := by unfold storeOk'; rw [hkx]
      refine wpAny_assign_Name (wpAny_mono ((store_name (Q := fun μ' H'' => μ' = Mu.put x (ab v) μc ∧ H'' = H') ⟨rfl, rfl⟩ hst hkk).run _ s₅ r₅) (fun _ s₆ ⟨μ', H'', r₆, e1, e2⟩ => ?_) fun _ _ x => x.elim)
      subst e1 e2
      have drop : ∀ {R' : Addr → Option Obj} {H3 : AH} {s₇ : Shared}, Rep W (compEnvC scope cl C env) R' (Mu.put x (ab v) μc) H3 s₇ → Rep W (compEnvC scope cl C env) R' μc H3 s₇ := fun r => r.mono' fun z a e => by
        rw [Mu.put_ne]
        · exact e
        · rintro rfl
          have := c.mu _ (lookup_key e)
          rw [hxc] at this; cases this
      refine wpAny_mono ((ci.turn C k _ ys H'' hv hI').run _ s₆ r₆) (fun b s₇ ⟨H3, r₇, q⟩ => ?_) fun _ _ x => x.elim
      cases b with
      | false =>
        simp only [Bool.false_eq_true, if_false]
        exact ⟨S.items.length + 1 - (k + 1), by omega, k + 1, ys, vs, nn, o'', H3, rfl, hlt, q.2 rfl, hit'', by omega, hvs, drop r₇⟩
      | true =>
        simp only [if_true]
        refine wpAny_mono ((q.1 rfl).run _ s₇ r₇) (fun y s₈ ⟨H4, r₈, hI4⟩ => ?_) fun _ _ x => x.elim
        have hDo8 : s₈.heap.get? D = some (listOf vs nn) := r₈.repH.froz D _ (by rw [setR_ne _ _ (Ne.symm hJD)]; exact setR_self ..)
        have hz : vs.size ≤ sizeLine := by
          have : vs.size = ys.length := by rw [← hvs]; simp
          rw [this]
          exact Nat.le_trans hyl (Nat.le_trans hk' (Nat.le_trans hlen (by decide)))
        refine call_meets PySem.F.slot_list_append (isList_of hDo8).typeIs PySem.F.entry_list_append (PySem.F.args_list_append_2 _ _) (PySem.list_append D vs nn y hz) ⟨hDo8, ?_⟩
        have r9 : Rep W (compEnvC scope cl C env) (setR (setR R1 J o'') D (listOf vs nn)) μc H4 s₈ := by rw [← swap]; exact drop r₈
        have r10 := r9.setR' (o' := listOf (vs.push y) _) h0D (Heap.SameBut.update s₈.heap D (Obj.mapSeq fun x => x.push y)) (Heap.get?_update_self _ hDo8 rfl) s₈.toks
        rw [← swap] at r10
        exact ⟨S.items.length + 1 - (k + 1), by omega, k + 1, ys ++ [ab y], vs.push y, _, o'', H4, rfl, hlt, hI4, hit'', by simp; omega, by simp [hvs], r10⟩
  exact codeAny_compStart_list (loop _ rfl) (wpAny_mono (src_self (Q := fun it' s' => codeAny W.M A (.compLoop (.ListComp elt [⟨.Name x px, iter, ifs, 0⟩] scope pos) 0 it' (.ref D) (compEnvC scope cl C env)) (RR (.ref D) C) s') (old _ _ hJo) hit (loop _ rfl)) (fun _ _ x => x) fun _ _ x => x.elim)

theorem Ev_comp {elt iter : Expr} {x : Str} {px : Pos} {ifs : List Expr} {scope : Scope} {cl : List (Str × Addr)} {pos : Pos} {μc : Mu} {Q} (hh : A.handled = none) (c : CompOk env scope cl μ μc)
    (h : Ev W A env (eval iter env) μ H fun a H₁ => ∃ S : Src, a = .ref S.addr ∧ S.start H₁ ∧ S.items.length ≤ 1000000 ∧ ∃ I : Nat → List AV → AH → Prop, I 0 [] H₁ ∧ CompIn W A env scope cl x ifs elt μc S I ∧
      ∀ ys H', I S.items.length ys H' → ∀ D, H' D = none → Q (.ref D) (H'.set D (.list ys)))
    (hx : scope.names.lookup x = some .local := by rfl) (hxc : cl.lookup x = none := by rfl) (hs : ∀ x, foldedSetIterable iter env x = pure x := by intro _; rfl) :
    Ev W A env (eval (.ListComp elt [⟨.Name x px, iter, ifs, 0⟩] scope pos) env) μ H Q := by
  refine .mk fun R s r => ?_
  rw [eval_ListComp]
  refine wpAny_comprehension_free (use := none) rfl hs c.clos c.kind c.names (wpAny_mono (h.run R s r) (fun v s₁ ⟨H₁, r₁, S, e, hst, hlen, I, hI, ci, done⟩ => ?_) fun _ _ e => e)
  refine src_iter r₁ hst e fun J o s₂ h0 hR hit r₂ => ?_
  refine comp_core (RR := fun acc C => compPost W.M A (fun _ _ => False) none (fun v s' => ∃ H', Rep W env R μ H' s' ∧ Q (ab v) H') acc C) hh c hx hxc r₂ h0 hR hit hlen hI ci ?_
  intro D C ys H' s' hI' hD f1 ⟨m, hm⟩ f2 f3 f4 _
  exact ⟨m, hm, fun h' hs' => ⟨_, f1.other f2 f3 f4 hs', done ys H' hI' D hD⟩⟩

theorem Ex_assignComp {elt iter : Expr} {x y : Str} {px py : Pos} {ifs : List Expr} {scope : Scope} {cl : List (Str × Addr)} {pos spos : Pos} {μc : Mu} {Q} (hh : A.handled = none) (c : CompOk env scope cl μ μc)
    (h : Ev W A env (eval iter env) μ H fun a H₁ => ∃ S : Src, a = .ref S.addr ∧ S.start H₁ ∧ S.items.length ≤ 1000000 ∧ ∃ I : Nat → List AV → AH → Prop, I 0 [] H₁ ∧ CompIn W A env scope cl x ifs elt μc S I ∧
      ∀ ys H', I S.items.length ys H' → ∀ D, H' D = none → Q .next (Mu.put y (.ref D) μ) (H'.set D (.list ys)))
    (hy : env.kindOf y = some .local := by rfl) (hk : env.scope.kind = .function := by rfl) (hx : scope.names.lookup x = some .local := by rfl) (hxc : cl.lookup x = none := by rfl)
    (hsw : swapsWith (.ListComp elt [⟨.Name x px, iter, ifs, 0⟩] scope pos) (some (.Name y py)) spos.line env = pure true := by rfl) (hs : ∀ x, foldedSetIterable iter env x = pure x := by intro _; rfl) :
    Ex W A env (exec (.Assign [.Name y py] (.ListComp elt [⟨.Name x px, iter, ifs, 0⟩] scope pos) spos) env) μ H Q := by
  refine .mk fun R s r => ?_
  have hp : (env.scope.kind == .class || (env.scope.kind == .module && env.locals != env.globals)) = false := by rw [hk]; rfl
  rw [exec_Assign_Name_used _ _ _ _ hsw]
  refine wpAny_bind (wpAny_standAt (wpAny_bind ?_))
  show wpAny _ A (do let _ ← comprehension (.ListComp elt [⟨.Name x px, iter, ifs, 0⟩] scope pos) scope env _ (newList []) false (eval iter env) (some (assign (.Name y py) env))) _ _ s
  refine wpAny_bind (wpAny_mono (wpAny_comprehension_free (use := some (assign (.Name y py) env)) (Q := fun _ s' => ∃ μ' H', Rep W env R μ' H' s' ∧ Q .next μ' H') rfl hs c.clos c.kind c.names
    (wpAny_mono (h.run R s r) (fun v s₁ ⟨H₁, r₁, S, e, hst, hlen, I, hI, ci, done⟩ => ?_) fun _ _ e => e)) (fun _ s' hq => wpAny_pure (wpAny_pure hq)) fun _ _ e => e)
  refine src_iter r₁ hst e fun J o s₂ h0 hR hit r₂ => ?_
  refine comp_core (RR := fun acc C => compPost W.M A (fun _ _ => False) (some (assign (.Name y py) env)) (fun _ s' => ∃ μ' H', Rep W env R μ' H' s' ∧ Q .next μ' H') acc C) hh c hx hxc r₂ h0 hR hit hlen hI ci ?_
  intro D C ys H' s' hI' hD f1 ⟨m, hm⟩ f2 hCl hCc hDC
  show wpAny _ A (assign (.Name y py) env (.ref D)) _ _ _
  obtain ⟨m1, hm1, hm2⟩ := f1.loc.ns
  refine wpAny_assign_Name (wpAny_storeName_local hy hm1 (fun h₂ hn₂ hs₂ => ?_) hp)
  refine ⟨m, hm.sameBut hs₂ hCl, fun h₃ hs₃ => ⟨_, _, ?_, done ys H' hI' D hD⟩⟩
  have e2 : Rep W env R (Mu.put y (ab (.ref D)) μ) (H'.set D (.list ys)) { s' with heap := h₂, toks := s'.toks + 1 } := by
    obtain ⟨h6, t6, rfl, a6, b6⟩ := f1
    exact ⟨h₂, t6 + 1, rfl, a6.loc b6.off hs₂, b6.put hy hm2 hn₂ hs₂⟩
  exact e2.other f2 hCl hCc hs₃
end
end Mine

-- W9
namespace Mine

abbrev iL (ns : List Int) : List AV := ns.map AV.int
theorem ints_are : ∀ {vs : List Value} {ns : List Int}, vs.map ab = iL ns → IntsAre vs ns
  | [], [], _ => .nil
  | [], _ :: _, h => by simp at h
  | _ :: _, [], h => by simp at h
  | v :: vs, n :: ns, h => by
    simp only [List.map_cons, List.cons.injEq] at h
    obtain ⟨t, rfl⟩ := ab_int h.1
    exact .cons n t (ints_are h.2)
theorem are_ints : ∀ {vs : List Value} {ns : List Int}, IntsAre vs ns → vs.map ab = iL ns
  | _, _, .nil => rfl
  | _, _, .cons n t r => by simp [ab, are_ints r]

section
variable {W : Wo} {A : Around} {env : Env} {μ : Mu} {H : AH}

theorem cmp_neL {a b : Addr} {ns ms : List Int} {Q : Bool → AH → Prop} (hu : A.units + 64 < cLine) (ha : H a = some (.list (iL ns))) (hb : H b = some (.list (iL ms))) (q : Q (!decide (ns = ms)) H) : CmpT W A env .NotEq (.ref a) (.ref b) μ H Q := by
  intro v u hv hu'; refine .mk fun R s r => ?_
  cases ab_ref hv; cases ab_ref hu'
  obtain ⟨vs, n, ho, hm⟩ := listAt r ha
  obtain ⟨us, n', ho', hm'⟩ := listAt r hb
  exact ne_intsK (by rw [Array.toArray_toList]; exact isList_of ho) (ints_are hm) (by rw [Array.toArray_toList]; exact isList_of ho') (ints_are hm') hu ⟨H, r, _, rfl, q⟩
theorem cmp_eqL {a b : Addr} {ns ms : List Int} {Q : Bool → AH → Prop} (hu : A.units + 64 < cLine) (ha : H a = some (.list (iL ns))) (hb : H b = some (.list (iL ms))) (q : Q (decide (ns = ms)) H) : CmpT W A env .Eq (.ref a) (.ref b) μ H Q := by
  intro v u hv hu'; refine .mk fun R s r => ?_
  cases ab_ref hv; cases ab_ref hu'
  obtain ⟨vs, n, ho, hm⟩ := listAt r ha
  obtain ⟨us, n', ho', hm'⟩ := listAt r hb
  exact eq_intsK (by rw [Array.toArray_toList]; exact isList_of ho) (ints_are hm) (by rw [Array.toArray_toList]; exact isList_of ho') (ints_are hm') hu ⟨H, r, _, rfl, q⟩

def eqI (k : Int) : Value → Bool
  | .int i _ => i == k
  | _ => false
theorem any_eqI {k : Int} : ∀ {vs : List Value} {ns : List Int}, IntsAre vs ns → vs.any (eqI k) = decide (k ∈ ns)
  | _, _, .nil => by simp
  | _, _, .cons n t r => by
    rw [List.any_cons, any_eqI r]
    simp only [eqI, List.mem_cons]
    by_cases h : n = k
    · simp [h]
    · have : ¬ k = n := fun e => h e.symm
      simp [h, this]
theorem eqI_gives {k : Int} {t : Tok} {vs : List Value} {ns : List Int} (h : IntsAre vs ns) : ∀ y, y ∈ vs → MeetsSeq.EqGives y (.int k t) (eqI k y) := by
  induction h with
  | nil => intro y hy; cases hy
  | cons n u r ih =>
    intro y hy
    rcases List.mem_cons.mp hy with rfl | hy
    · exact MeetsSeq.EqGives.int n k u t
    · exact ih y hy
theorem cmp_notInL {l : Addr} {ns : List Int} {k : Int} {Q : Bool → AH → Prop} (hl : H l = some (.list (iL ns))) (q : Q (!decide (k ∈ ns)) H) : CmpT W A env .NotIn (.int k) (.ref l) μ H Q := by
  intro v u hv hu; refine .mk fun R s r => ?_
  obtain ⟨t, rfl⟩ := ab_int hv
  cases ab_ref hu
  obtain ⟨vs, n, ho, hm⟩ := listAt r hl
  have hi := ints_are hm
  refine PySem.SeqRoads2.notIn_list (eqI k) (fun y hy => eqI_gives hi y (by simpa using hy)) ho ⟨H, r, _, rfl, ?_⟩
  rw [← Array.any_toList, any_eqI hi]; exact q
theorem call_index {l : Addr} {ns : List Int} {k : Int} {j : Nat} {Q : AV → AH → Prop} (hl : H l = some (.list (iL ns))) (hn : ns.length ≤ 1000000) (hj : ns[j]? = some k) (hmin : ∀ i, i < j → ns[i]? ≠ some k) (h : Q (.int j) H) : CalB W A env (.builtin "list.index") [.ref l, .int k] μ H Q := by
  intro vs hv; refine .mk fun R s r => ?_
  obtain ⟨v, u, rfl, h1, h2⟩ := map2 hv
  cases ab_ref h1
  obtain ⟨t, rfl⟩ := ab_int h2
  obtain ⟨ys, n, ho, hm⟩ := listAt r hl
  have hi := ints_are hm
  have hsz : ys.size = ns.length := by have := congrArg List.length hm; simpa using this
  have hjl : j < ns.length := (List.getElem?_eq_some_iff.mp hj).1
  have at_ : ∀ m (hm' : m < ys.size), eqI k ys[m] = decide (ns[m]? = some k) := fun m hm' => by
    have e : (ys.toList.map ab)[m]? = (iL ns)[m]? := by rw [hm]
    rw [List.getElem?_map, List.getElem?_map, Array.getElem?_toList, Array.getElem?_eq_getElem hm'] at e
    have hml : m < ns.length := by omega
    rw [List.getElem?_eq_getElem hml] at e
    simp only [Option.map_some, Option.some.injEq] at e
    obtain ⟨tt, e2⟩ := ab_int e
    rw [e2, List.getElem?_eq_getElem hml]
    simp only [eqI, Option.some.injEq]
    by_cases hh : ns[m] = k <;> simp [hh]
  refine call_meets PySem.F.slot_list_index (isList_of ho).typeIs PySem.F.entry_list_index (PySem.F.args_list_index_2 _ _) (MeetsSeq.list_index l ys n (.int k t) (eqI k) (fun y hy => eqI_gives hi y (by simpa using hy)) j (by omega) (by omega)
    (by rw [at_ j (by omega)]; simpa using hj) fun m hm' hlt => by rw [at_ m hm']; simpa using hmin m hlt) ⟨ho, ⟨H, r.tok _, h⟩⟩

theorem Ev_addL {l r pos} {Q} (h : Ev W A env (eval l env) μ H fun a H₁ => Ev W A env (eval r env) μ H₁ fun b H₂ => ∃ i j xs ys, a = .ref i ∧ b = .ref j ∧ H₂ i = some (.list xs) ∧ H₂ j = some (.list ys) ∧ xs.length + ys.length ≤ 1000000 ∧ ∀ d, H₂ d = none → Q (.ref d) (H₂.set d (.list (xs ++ ys)))) :
    Ev W A env (eval (.BinOp l .Add r pos) env) μ H Q :=
  Ev_op2 (h.mono fun _ _ h => h.mono fun _ _ ⟨i, j, xs, ys, e1, e2, hi, hj, hn, q⟩ => by
    subst e1 e2
    intro v u hv hu; refine .mk fun R s r => ?_
    cases ab_ref hv; cases ab_ref hu
    obtain ⟨vs, n, ho, hm⟩ := listAt r hi
    obtain ⟨us, n', ho', hm'⟩ := listAt r hj
    have e1 : vs.size = xs.length := by rw [← hm]; simp
    have e2 : us.size = ys.length := by rw [← hm']; simp
    refine PySem.P.add_list ho ho' ⟨_, r.push rfl (x := .list (xs ++ ys)) ⟨_, 0, rfl, by simp [hm, hm']⟩, q _ r.isNone⟩ (by rw [e1, e2]; exact Nat.le_trans hn (by decide)))

theorem call_range1 {n : Int} {Q : AV → AH → Prop} (h : ∀ d, H d = none → Q (.ref d) (H.set d (.range 0 n))) : CalB W A env (.type "range") [.int n] μ H Q := by
  intro vs hv; refine .mk fun R s r => ?_
  obtain ⟨v, rfl, h1⟩ := map1 hv
  obtain ⟨t, rfl⟩ := ab_int h1
  exact PySem.call_range_1 ⟨_, (r.push rfl (x := .range 0 n) ⟨_, _, _, rfl⟩).tok _, h _ r.isNone⟩
theorem call_range2 {m n : Int} {Q : AV → AH → Prop} (h : ∀ d, H d = none → Q (.ref d) (H.set d (.range m n))) : CalB W A env (.type "range") [.int m, .int n] μ H Q := by
  intro vs hv; refine .mk fun R s r => ?_
  obtain ⟨v, u, rfl, h1, h2⟩ := map2 hv
  obtain ⟨t, rfl⟩ := ab_int h1
  obtain ⟨t', rfl⟩ := ab_int h2
  exact PySem.call_range_2 ⟨_, (r.push rfl (x := .range m n) ⟨_, _, _, rfl⟩).tok _, h _ r.isNone⟩
theorem cw_ty {T : String} {e : Expr} {rest : List Expr} {pos : Pos} {Q}
    (h : Evs W A env (spliced (backTo pos (starEach (e :: rest) env))) μ H fun as H₁ => CalB W A env (.type T) as μ H₁ Q)
    (he : starEach (e :: rest) env = (false, eval e env) :: starEach rest env := by rfl) (hp : (backTo pos (starEach rest env)).any (·.1) = false := by rfl) :
    Ev W A env (callWith pos (.type T) [] (backTo pos (starEach (e :: rest) env)) []) μ H Q := by
  refine .mk fun R s r => ?_
  have h' := h.run R s r
  rw [he] at h' ⊢
  refine PyProof.Rows.callWith_type (by show (false || (backTo pos (starEach rest env)).any (·.1)) = false; rw [hp]; rfl) (Calls.evalArgs_plain (wpAny_mono h' (fun vs s₁ ⟨_, r₁, q⟩ => ?_) fun _ _ x => x))
  exact (q ([] ++ vs) rfl).run R s₁ r₁

theorem call_abs {n : Int} {Q : AV → AH → Prop} (h : Q (.int (n.natAbs : Nat)) H) : CalB W A env (.builtin "abs") [.int n] μ H Q := by
  intro vs hv; refine .mk fun R s r => ?_
  obtain ⟨v, rfl, h1⟩ := map1 hv
  obtain ⟨t, rfl⟩ := ab_int h1
  refine call_abs_int fun u tk => ⟨H, r.tok _, ?_⟩
  have e : (if n < 0 then -n else n) = ((n.natAbs : Nat) : Int) := by split <;> omega
  rw [e]; exact h
theorem call_isiInt {n : Int} {Q : AV → AH → Prop} (h : Q (.bool false) H) : CalB W A env (.builtin "isinstance") [.int n, .other (.type "list")] μ H Q := by
  intro vs hv; refine .mk fun R s r => ?_
  obtain ⟨v, u, rfl, h1, h2⟩ := map2 hv
  obtain ⟨t, rfl⟩ := ab_int h1
  cases ab_other h2
  exact PySem.IsiPair.int_list ⟨H, r.tok _, h⟩
theorem call_isiList {l : Addr} {xs : List AV} {Q : AV → AH → Prop} (hl : H l = some (.list xs)) (h : Q (.bool true) H) : CalB W A env (.builtin "isinstance") [.ref l, .other (.type "list")] μ H Q := by
  intro vs hv; refine .mk fun R s r => ?_
  obtain ⟨v, u, rfl, h1, h2⟩ := map2 hv
  cases ab_ref h1
  cases ab_other h2
  obtain ⟨ys, n, ho, hm⟩ := listAt r hl
  exact PySem.IsiPair.list_list ho rfl ⟨H, r, h⟩

theorem ints_items : ∀ {vs : List Value} {ns : List Int}, IntsAre vs ns → ∃ xs : List (Int × Tok), vs = xs.map (fun p => Value.int p.1 p.2) ∧ xs.map (·.1) = ns
  | _, _, .nil => ⟨[], rfl, rfl⟩
  | _, _, .cons n t r => let ⟨xs, a, b⟩ := ints_items r; ⟨(n, t) :: xs, by rw [a]; rfl, by rw [← b]; rfl⟩
theorem call_sum {l : Addr} {ns : List Int} {Q : AV → AH → Prop} (hh : A.handled = none) (hl : H l = some (.list (iL ns))) (h : Q (.int ns.sum) H) : CalB W A env (.builtin "sum") [.ref l] μ H Q := by
  intro vs hv; refine .mk fun R s r => ?_
  obtain ⟨v, rfl, h1⟩ := map1 hv
  cases ab_ref h1
  obtain ⟨ys, n, ho, hm⟩ := listAt r hl
  obtain ⟨xs, e1, e2⟩ := ints_items (ints_are hm)
  have hL : s.heap.IsList l (intItems xs.toArray) := by
    have : ys = intItems xs.toArray := by apply Array.toList_inj.mp; rw [e1]; simp [intItems]
    rw [← this]; exact isList_of ho
  refine PySem.sum_intListG hh hL fun h' tk t' hk => ⟨H, (r.keeps hk).tok _, ?_⟩
  rw [preSum_eq]
  have : ((xs.toArray.toList.map (·.1)).take xs.toArray.size).sum = ns.sum := by
    rw [List.take_of_length_le (by simp)]; simp only [e2]
  rw [this]; exact h
end
end Mine

-- W10
namespace Mine

/-- every object of the heap but one -/
def allBut (h : Heap) (L : Addr) : List (Addr × Obj) := (List.range h.objs.size).filterMap fun b => if b = L then none else (h.get? b).map fun o => (b, o)
theorem mem_allBut {h : Heap} {L b : Addr} {o : Obj} : (b, o) ∈ allBut h L ↔ h.get? b = some o ∧ b ≠ L := by
  unfold allBut
  simp only [List.mem_filterMap, List.mem_range]
  constructor
  · rintro ⟨c, hc, e⟩
    split at e
    · cases e
    · rename_i hcL
      obtain ⟨o', ho', e'⟩ := Option.map_eq_some_iff.mp e
      cases e'
      exact ⟨ho', hcL⟩
  · rintro ⟨e, hb⟩
    exact ⟨b, Heap.lt_size e, by rw [if_neg hb, e]; rfl⟩
theorem none0 (b : Addr) : ({} : Heap).get? b = none := by
  cases e : ({} : Heap).get? b with
  | none => rfl
  | some o => have := Heap.lt_size e; simp at this
theorem news_all (h : Heap) (L : Addr) : News {} L h (allBut h L) := fun p hp => by
  obtain ⟨b, o⟩ := p
  obtain ⟨e, hb⟩ := mem_allBut.mp hp
  exact ⟨e, hb, none0 b⟩
theorem fr_all {h : Heap} {L : Addr} {m : Str → Option Value} (hn : h.Ns L m) : Fr {} L h m := ⟨hn, fun b o e => (by rw [none0] at e; cases e), Nat.zero_le _⟩

section
variable {W : Wo} {A : Around} {env : Env} {μ : Mu} {H : AH} {R : Addr → Option Obj} {s : Shared}

theorem Rep.ofAll (r : Rep W env R μ H s) {h' : Heap} {m : Str → Option Value} (hm : s.heap.Ns env.locals m) (hm' : h'.Ns env.locals m) (hk : ∀ b o, b ≠ env.locals → s.heap.get? b = some o → h'.get? b = some o) (tk : Nat) : Rep W env R μ H { s with heap := h', toks := tk } := by
  obtain ⟨h, t, rfl, a, b⟩ := r
  have ne : ∀ c, (W.h0.get? c ≠ none ∨ R c ≠ none ∨ H c ≠ none) → c ≠ env.locals := fun c hc e => by
    subst e
    exact hc.elim (fun q => q b.off.1) fun hc => hc.elim (fun q => q b.off.2.1) fun q => q b.off.2.2
  refine ⟨h', tk, rfl, ⟨fun c o e => hk c o (ne c (.inl (by rw [e]; simp))) (a.keep c o e), fun c o e => hk c o (ne c (.inr (.inl (by rw [e]; simp)))) (a.froz c o e), fun c x e => ?_⟩, ⟨?_, b.off, fun x c e => ?_, b.apart⟩⟩
  · obtain ⟨q, o, e1, e2⟩ := a.obj c x e
    exact ⟨q, o, hk c o (ne c (.inr (.inr (by rw [e]; simp)))) e1, e2⟩
  · obtain ⟨m1, hm1, hm2⟩ := b.ns
    refine ⟨m, hm', fun x c e k => ?_⟩
    have : m1 = m := by
      obtain ⟨o, es, ep, ho, hd, _, hf⟩ := hm1
      obtain ⟨o', es', ep', ho', hd', _, hf'⟩ := hm
      dsimp only at ho'
      rw [ho] at ho'
      cases ho'
      rw [hd] at hd'
      cases hd'
      funext y; rw [← hf, hf']
    rw [← this]; exact hm2 x c e k
  · obtain ⟨⟨o1, o2⟩, v0, ⟨oc, hoc, hd⟩, q⟩ := b.cell x c e
    exact ⟨⟨o1, o2⟩, v0, ⟨oc, hk c oc o2 hoc, hd⟩, q⟩

theorem Rep.allPush (r : Rep W env R μ H s) {h' : Heap} {m : Str → Option Value} {D : Addr} {o : Obj} {x : AO} (hm : s.heap.Ns env.locals m) (F : Fr {} env.locals h' m) (N : News {} env.locals h' ((D, o) :: allBut s.heap env.locals)) (hD : s.heap.get? D = none) (ho : ORel W x o) (tk : Nat) :
    Rep W env R μ (H.set D x) { s with heap := h', toks := tk } ∧ H D = none := by
  have hk : ∀ b o, b ≠ env.locals → s.heap.get? b = some o → h'.get? b = some o := fun b o hb e => (N _ (List.mem_cons_of_mem _ (mem_allBut.mpr ⟨e, hb⟩))).1
  have r' := r.ofAll hm F.ns hk tk
  have hDo := (N _ (List.mem_cons_self ..)).1
  have hDl : D ≠ env.locals := (N _ (List.mem_cons_self ..)).2.1
  have offD := r.repH.fresh hD
  obtain ⟨h, t, e0, a, b⟩ := r
  subst e0
  obtain ⟨h2, t2, e2, a2, b2⟩ := r'
  have e3 : h2 = h' := by have := congrArg Shared.heap e2; exact this.symm
  have e4 : t2 = tk := by have := congrArg Shared.toks e2; exact this.symm
  subst e3 e4
  have cne : ∀ x c, env.cells.lookup x = some c → c ≠ D := fun x c e q => by
    subst q
    obtain ⟨_, v0, ⟨oc, hoc, _⟩, _⟩ := b.cell x c e
    dsimp only at hD
    rw [hD] at hoc; cases hoc
  have offn : ∀ c, c ≠ D → Off W R H c → Off W R (H.set D x) c := fun c hc o => ⟨o.1, o.2.1, by rw [AH.set_ne _ _ hc]; exact o.2.2⟩
  refine ⟨⟨h2, t2, rfl, ⟨a2.keep, a2.froz, fun c y e => ?_⟩, ⟨b2.ns, offn _ (Ne.symm hDl) b2.off, fun y c e => ?_, b2.apart⟩⟩, offD.2.2⟩
  · by_cases hc : c = D
    · subst hc
      rw [AH.set_self] at e
      cases e
      exact ⟨⟨offD.2.1, offD.1⟩, o, hDo, ho⟩
    · rw [AH.set_ne _ _ hc] at e
      exact a2.obj c y e
  · obtain ⟨⟨o1, o2⟩, q⟩ := b2.cell y c e
    exact ⟨⟨offn _ (cne y c e) o1, o2⟩, q⟩

theorem keys_ints {kvs : List (Int × Value)} : ∀ {vs : List Value}, vs.length = kvs.length → (∀ (j : Nat) (v : Value), vs[j]? = some v → ∃ k x, kvs[j]? = some (k, x) ∧ Value.isInt k v = true) → IntsAre vs (kvs.map (·.1)) := by
  induction kvs with
  | nil => intro vs hl _; cases vs with | nil => exact .nil | cons _ _ => simp at hl
  | cons p r ih =>
    intro vs hl h
    cases vs with
    | nil => simp at hl
    | cons v vs =>
      obtain ⟨k, x, e, hk⟩ := h 0 v rfl
      simp only [List.getElem?_cons_zero, Option.some.injEq] at e
      subst e
      obtain ⟨t, rfl⟩ := Value.isInt_shape hk
      exact .cons k t (ih (by simpa using hl) fun j u hu => by simpa using h (j + 1) u (by simpa using hu))

/-- sorted(d) for a dict of ints of fewer than 64 keys -/
theorem call_sorted {d : Addr} {es : List (Int × AV)} {ep : Nat} {Q : AV → AH → Prop} (hh : A.handled = none) (hd : H d = some (.idict es ep)) (hsm : (d == sysModules) = false) (hn : es.length < 64)
    (h : ∀ ns D, ns.Perm (es.map (·.1)) → ns.Pairwise (· ≤ ·) → H D = none → Q (.ref D) (H.set D (.list (iL ns)))) : CalB W A env (.builtin "sorted") [.ref d] μ H Q := by
  intro vs hv; refine .mk fun R s r => ?_
  obtain ⟨v, rfl, h1⟩ := map1 hv
  cases ab_ref h1
  obtain ⟨kvs, Dd, hm⟩ := dictAt r hd
  obtain ⟨m, hmn, _⟩ := r.loc.ns
  have hlen : kvs.length = es.length := by rw [← hm]; simp
  refine kdu_sorted (kdl_dict (knd := intKind W.prog W.w) (kvs := kvs) (ep := ep) hsm) hh (fr_all hmn) (news_all _ _) Dd (by rw [hlen]; exact Nat.le_trans (Nat.le_of_lt hn) (by decide)) fun B h' tk us F' N' hlt hl hP => ?_
  have hI : IntsAre us (kvs.map (·.1)) := keys_ints hl hP
  have hBo := (N' _ (List.mem_cons_self ..)).1
  have hBf : s.heap.get? B = none := by
    cases e : s.heap.get? B with
    | none => rfl
    | some o =>
      by_cases hb : B = env.locals
      · exact absurd hb (N' _ (List.mem_cons_self ..)).2.1
      · exact absurd (hlt _ (mem_allBut.mpr ⟨e, hb⟩)) (Nat.lt_irrefl _)
  refine wpAny_call_entry PyProof.Rows.slot_list_sort ⟨_, hBo, rfl⟩ PyProof.Rows.entry_list_sort (list_sort_tree (n := 0) hBo hI (by rw [hl, hlen]; exact hn) fun out ns' hI' hp hP' => ⟨.none, rfl, ?_⟩) (PyProof.Rows.args_list_sort _)
  obtain ⟨e, hBe⟩ := sortedHeap_at (out := out) hBo
  have F'' : Fr {} env.locals (sortedHeap h' B us out) m := by
    refine fr_all ?_
    obtain ⟨o, es', ep', ho, hd', hk, hf⟩ := F'.ns
    exact ⟨o, es', ep', (sortedHeap_old (fun q => (N' _ (List.mem_cons_self ..)).2.1 q.symm) (Heap.lt_size ho)).trans ho, hd', hk, hf⟩
  have N'' : News {} env.locals (sortedHeap h' B us out) ((B, listOf out e) :: allBut s.heap env.locals) := fun p hp => by
    rcases List.mem_cons.mp hp with e1 | hp1
    · subst e1
      exact ⟨hBe, (N' _ (List.mem_cons_self ..)).2⟩
    · have q := N' p (List.mem_cons_of_mem _ hp1)
      refine ⟨(sortedHeap_old (fun hq => ?_) (Heap.lt_size q.1)).trans q.1, q.2⟩
      have := (mem_allBut.mp (show (p.1, p.2) ∈ allBut s.heap env.locals from hp1)).1
      rw [hq, hBf] at this; cases this
  obtain ⟨r2, hn2⟩ := r.allPush hmn F'' N'' hBf (x := .list (iL ns')) ⟨out, e, rfl, are_ints hI'⟩ tk
  have hpp : ns'.Perm (es.map (·.1)) := by
    have : kvs.map (·.1) = es.map (·.1) := by rw [← hm, List.map_map]; rfl
    rw [← this]; exact hp
  exact ⟨_, r2, h ns' B hpp hP' hn2⟩
end
end Mine

-- W11
namespace Mine

section
variable {W : Wo} {A : Around} {env : Env} {μ : Mu} {H : AH} {R : Addr → Option Obj} {s : Shared}

/-! ### a field of an own object is stored -/
theorem set_attr {K : Frag} {x C d : Addr} {es : List (Str × AV)} {name : Str} {u v : Value} {Q : Mu → AH → Prop} (X : K.In W.h0) (c : ClsOk K C) (hu : ab u = .ref x) (hx : H x = some (.inst C d)) (hd : H d = some (.sdict es))
    (ht : takerIn K C name = some none) (hn : es.length ≤ 100) (h : Q μ (H.set d (.sdict (Mu.put name (ab v) es)))) : Exu W A env (setAttr u name v) μ H Q := by
  refine .mk fun R s r => ?_
  cases ab_ref hu
  obtain ⟨l, n, hl, hdd, I⟩ := instAt r hx hd
  obtain ⟨m, hm, hm2⟩ := r.loc.ns
  have hdL : d ≠ env.locals := fun q => by have := r.loc.off.2.2; rw [← q, hd] at this; cases this
  have hxd : x ≠ d := fun q => by rw [q, hd] at hx; cases hx
  -- everything else of the heap stands ahead
  have hpre : ∀ p ∈ (allBut s.heap env.locals).filter (fun p => decide (p.1 ≠ d)), p.1 ≠ d := fun p hp => by simpa using (List.mem_filter.mp hp).2
  have N : News {} env.locals s.heap ((allBut s.heap env.locals).filter (fun p => decide (p.1 ≠ d)) ++ (d, dictOf l n) :: []) := fun p hp => by
    rcases List.mem_append.mp hp with q | q
    · exact news_all _ _ p ((List.mem_filter.mp q).1)
    · rcases List.mem_cons.mp q with e | q
      · subst e; exact ⟨hdd, hdL, none0 _⟩
      · cases q
  have hll : l.length = es.length := by have := congrArg List.length hl; simpa using this
  have hz : ∀ l' : List DictEntry, l' = putL name (PyData.keyHash W.w.params name) (.str name (s.toks + 1)) v l → l'.length ≤ 1000 := by
    rintro l' rfl
    have e := congrArg List.length (hl.put (name := name) (hs := PyData.keyHash W.w.params name) (t := s.toks + 1) (v := v))
    simp only [List.length_map] at e
    rw [e]
    have : ∀ es : List (Str × AV), (Mu.put name (ab v) es).length ≤ es.length + 1 := by
      intro es
      induction es with
      | nil => simp [Mu.put]
      | cons p r ih => unfold Mu.put; split <;> simp <;> omega
    have := this es; omega
  have hg : (getL name l).isSome = true := by
    cases e : es.lookup name with
    | none => rw [hl.miss e]; rfl
    | some a => obtain ⟨v, hv, _⟩ := hl.get.2 a e; rw [hv]; rfl
  refine set_plain (X.keeps r.repH.keep) I c.sa (osa_dict (s := { s with toks := s.toks + 1 }) (fr_all hm) N (X.keeps r.repH.keep) I rfl c.po ht c.hd hg hpre (fun _ h => nomatch h)
    (putName_dict name _ _ v l n) rfl (hz _ rfl) fun h' F' N' => ?_)
  have hk : ∀ b o, b ≠ d → b ≠ env.locals → s.heap.get? b = some o → h'.get? b = some o := fun b o h1 h2 e =>
    (N' (b, o) (List.mem_append.mpr (.inl (List.mem_filter.mpr ⟨mem_allBut.mpr ⟨e, h2⟩, by simpa using h1⟩)))).1
  have hd' := (N' _ (List.mem_append.mpr (.inr (List.mem_cons_self ..)))).1
  refine ⟨μ, _, ?_, h⟩
  obtain ⟨h1, t1, rfl, a, b⟩ := r
  have ne : ∀ c, (W.h0.get? c ≠ none ∨ R c ≠ none ∨ H c ≠ none) → c ≠ env.locals := fun c hc e => by
    subst e
    exact hc.elim (fun q => q b.off.1) fun hc => hc.elim (fun q => q b.off.2.1) fun q => q b.off.2.2
  obtain ⟨⟨dR, d0⟩, _⟩ := a.obj d _ hd
  refine ⟨h', _, rfl, ⟨fun c o e => hk c o (by rintro rfl; rw [d0] at e; cases e) (ne c (.inl (by rw [e]; simp))) (a.keep c o e), fun c o e => hk c o (by rintro rfl; rw [dR] at e; cases e) (ne c (.inr (.inl (by rw [e]; simp)))) (a.froz c o e), fun c y e => ?_⟩, ?_⟩
  · by_cases hc : c = d
    · subst hc
      rw [AH.set_self] at e
      cases e
      exact ⟨⟨dR, d0⟩, _, hd', _, _, rfl, hl.put⟩
    · rw [AH.set_ne _ _ hc] at e
      obtain ⟨q, o, e1, e2⟩ := a.obj c y e
      exact ⟨q, o, hk c o hc (ne c (.inr (.inr (by rw [e]; simp)))) e1, e2⟩
  · have offn : ∀ c, Off W R H c → Off W R (H.set d (.sdict (Mu.put name (ab v) es))) c := fun c o => ⟨o.1, o.2.1, by rw [AH.set_ne _ _ (by rintro rfl; rw [o.2.2] at hd; cases hd)]; exact o.2.2⟩
    refine ⟨⟨m, F'.ns, hm2⟩, offn _ b.off, fun x c e => ?_, b.apart⟩
    obtain ⟨⟨o1, o2⟩, v0, ⟨oc, hoc, hdc⟩, q⟩ := b.cell x c e
    exact ⟨⟨offn _ o1, o2⟩, v0, ⟨oc, hk c oc (by rintro rfl; rw [o1.2.2] at hd; cases hd) o2 hoc, hdc⟩, q⟩

/-! ### an own object is made -/
theorem Cal_new {K : Frag} {C fI : Addr} {as : List AV} {Q : AV → AH → Prop} (X : K.In W.h0) (hm : makesIn K C = true) (hi : findIn K (.ref C) "__init__" = some (some (.ref fI))) (hf : typeIn K (.ref fI) = some (.type "function"))
    (h : ∀ x d, H d = none → (H.set d (.sdict [])) x = none → ∀ A' : Around, A'.handled = A.handled → A'.depth = A.depth + 1 → A'.units ≤ A.units + 4 → Cal W A' (.ref fI) (.ref x :: as) ((H.set d (.sdict [])).set x (.inst C d)) fun v H' => v = .none ∧ Q (.ref x) H') :
    Cal W A (.ref C) as H Q := by
  refine .mk fun R s vs st hv => ?_
  obtain ⟨hh, t, rfl, a⟩ := st
  have X' := X.keeps a.keep
  refine make_core (makes_of X' hm) (looks_findIn X' hi) (fun self => bind_fn X' self hf) (.inl rfl) ?_
  have a1 := a.push (o := emptyDict) (x := .sdict []) rfl ⟨[], 0, rfl, rfl⟩
  have hd : H hh.objs.size = none := (a.fresh (size_none _)).2.2
  have a2 := a1.push (o := instObj C hh.objs.size) (x := .inst C hh.objs.size) rfl rfl
  have hx : (H.set hh.objs.size (.sdict [])) (hh.push emptyDict).objs.size = none := (a1.fresh (size_none _)).2.2
  rw [Heap.size_push] at a2 hx
  have key := (h (hh.objs.size + 1) hh.objs.size hd hx (A.under (.builtin "type.__call__" ⟨.ref C :: vs, []⟩)) rfl rfl (Nat.add_le_add_left (Nat.le_of_ble_eq_true rfl) _)).run R _ (.ref (hh.objs.size + 1) :: vs) ⟨_, t, rfl, a2⟩ (by simp [hv, ab])
  refine codeAny_mono key fun x s' hx => ?_
  rcases x with e | (_ | _ | _ | v)
  · exact hx.elim
  · exact hx.elim
  · exact hx.elim
  · exact hx.elim
  · obtain ⟨H', st', e, q⟩ := hx
    exact ⟨ab_none e, H', st', q⟩

/-! ### a tuple taken apart -/
/-- one target after the other -/
def Assigns (W : Wo) (A : Around) (env : Env) (ts : List (Value → Sem Unit)) (as : List AV) (μ : Mu) (H : AH) (Q : Mu → AH → Prop) : Prop := ∀ vs, vs.map ab = as → Exu W A env (assignInOrder ts vs) μ H Q
theorem as_nil {Q : Mu → AH → Prop} (h : Q μ H) : Assigns W A env [] [] μ H Q := fun vs hv => .mk fun R s r => by
  have : vs = [] := by cases vs with | nil => rfl | cons _ _ => simp at hv
  subst this
  exact wpAny_pure ⟨μ, H, r, h⟩
theorem as_cons {t : Value → Sem Unit} {ts : List (Value → Sem Unit)} {a : AV} {as : List AV} {Q : Mu → AH → Prop} (h : ∀ v, ab v = a → Exu W A env (t v) μ H fun μ' H' => Assigns W A env ts as μ' H' Q) : Assigns W A env (t :: ts) (a :: as) μ H Q := fun vs hv => .mk fun R s r => by
  cases vs with
  | nil => simp at hv
  | cons v vs =>
    simp only [List.map_cons, List.cons.injEq] at hv
    show wpAny _ _ (do holding vs (t v); assignInOrder ts vs) _ _ _
    exact wpAny_bind (wpAny_holding (wpAny_mono ((h v hv.1).run R s r) (fun _ s' ⟨μ', H', r', q⟩ => (q vs hv.2).run R s' r') fun _ _ x => x))
theorem to_name {x : Str} {pos : Pos} {v : Value} {Q : Mu → AH → Prop} (h : Q (Mu.put x (ab v) μ) H) (hx : storeOk' env x = true := by rfl) (hk : env.scope.kind = .function := by rfl) : Exu W A env (assign (.Name x pos) env v) μ H Q :=
  .mk fun R s r => wpAny_assign_Name ((store_name h hx hk).run R s r)
theorem bind_name {x : Str} {v : Value} {Q : Mu → AH → Prop} (h : Q (Mu.put x (ab v) μ) H) (hx : storeOk' env x = true := by rfl) (hk : env.scope.kind = .function := by rfl) : Exu W A env (bindName env x v) μ H Q :=
  .mk fun R s r => wpAny_bindName ((store_name h hx hk).run R s r)
theorem to_sub {o i : Expr} {pos : Pos} {v : Value} {Q : Mu → AH → Prop} (h : Ev W A env (eval o env) μ H fun b H₂ => Ev W A env (eval i env) μ H₂ fun c H₃ => ∀ u w, ab u = b → ab w = c → Evu W A env (setItem u w v) μ H₃ (Q μ)) :
    Exu W A env (assign (.Subscript o i pos) env v) μ H Q := .mk fun R s r => by
  rw [assign_Subscript]
  refine wpAny_bind (wpAny_holding (wpAny_mono (h.run R s r) (fun u s₁ ⟨_, r₁, q₁⟩ => ?_) fun _ _ x => x))
  refine wpAny_bind (wpAny_holding (wpAny_mono (q₁.run R s₁ r₁) (fun w s₂ ⟨_, r₂, q₂⟩ => ?_) fun _ _ x => x))
  refine wpAny_bind (wpAny_standAt (wpAny_bind (wpAny_holding (wpAny_mono ((q₂ u w rfl rfl).run R s₂ r₂) (fun _ s₃ ⟨H₃, r₃, q₃⟩ => ?_) fun _ _ x => x))))
  exact wpAny_release' ⟨μ, H₃, r₃, q₃⟩

theorem Ex_assignTup {elts k tpos value pos} {Q} (hh : A.handled = none)
    (h : Ev W A env (eval value env) μ H fun a H₁ => ∃ t as, a = .ref t ∧ H₁ t = some (.tup as) ∧ as.length = (assignEach elts env).length ∧ Assigns W A env ((assignEach elts env).map (·.2)) as μ H₁ (Q .next))
    (hst : (assignEach elts env).findIdx? (·.1) = none := by rfl)
    (hs : swapsWithSole [.Tuple elts k tpos] value pos.line env = pure false := by rfl) (hw : swappedStores [.Tuple elts k tpos] value env = pure none := by rfl) :
    Ex W A env (exec (.Assign [.Tuple elts k tpos] value pos) env) μ H Q := .mk fun R s r => by
  refine Assign_Tuple (wpAny_mono (h.run R s r) (fun v s₁ ⟨H₁, r₁, t, as, e, ht, hl, q⟩ => ?_) fun _ _ x => x) hs hw
  cases ab_ref e
  obtain ⟨vs, n, ho, hm⟩ := tupAt r₁ ht
  refine assign_Tuple_tuple hh ⟨_, ho, rfl, n, rfl⟩ (by rw [← hl, ← hm]; simp) hst fun h' he => ?_
  refine wpAny_mono ((q vs.toList hm).run R _ (r₁.keeps fun b o e => he b o (Nat.ne_of_lt (Heap.lt_size e)) e)) (fun _ _ x => x) fun _ _ x => x
theorem Ex_assignSwap {elts k tpos value pos} {names : List Str} {Q} (hh : A.handled = none)
    (h : Ev W A env (eval value env) μ H fun a H₁ => ∃ t as, a = .ref t ∧ H₁ t = some (.tup as) ∧ as.length = names.length ∧ Assigns W A env (names.reverse.map fun n => bindName env n) as.reverse μ H₁ (Q .next))
    (hs : swapsWithSole [.Tuple elts k tpos] value pos.line env = pure false := by rfl) (hw : swappedStores [.Tuple elts k tpos] value env = pure (some names) := by rfl) :
    Ex W A env (exec (.Assign [.Tuple elts k tpos] value pos) env) μ H Q := .mk fun R s r => by
  refine Assign_Tuple_swapped (wpAny_mono (h.run R s r) (fun v s₁ ⟨H₁, r₁, t, as, e, ht, hl, q⟩ => ?_) fun _ _ x => x) hs hw
  cases ab_ref e
  obtain ⟨vs, n, ho, hm⟩ := tupAt r₁ ht
  have e1 : names.length = vs.size := by rw [← hl, ← hm]; simp
  rw [e1]
  refine unpackItems_tuple hh ⟨_, ho, rfl, n, rfl⟩ fun h' he => ?_
  refine wpAny_mono ((q vs.toList.reverse (by rw [List.map_reverse, hm])).run R _ (r₁.keeps fun b o e => he b o (Nat.ne_of_lt (Heap.lt_size e)) e)) (fun _ _ x => x) fun _ _ x => x

/-! ### a dict display of ints -/
theorem carry {prog : Program} {w : World} : ∀ {vs : List (Value × Value)} {es : List (Int × AV)}, vs.map (fun p => (ab p.1, ab p.2)) = es.map (fun p => (AV.int p.1, p.2)) →
    ∃ kvs : List (Int × Value), Carries (intKind prog w) vs kvs ∧ kvs.map (fun p => (p.1, ab p.2)) = es
  | [], [], _ => ⟨[], trivial, rfl⟩
  | [], _ :: _, h => by simp at h
  | _ :: _, [], h => by simp at h
  | (k, v) :: vs, (i, a) :: es, h => by
    simp only [List.map_cons, List.cons.injEq, Prod.mk.injEq] at h
    obtain ⟨t, rfl⟩ := ab_int h.1.1
    obtain ⟨kvs, a1, a2⟩ := carry (prog := prog) (w := w) h.2
    exact ⟨(i, v) :: kvs, ⟨intKind_is _ _ i t, rfl, a1⟩, by rw [List.map_cons, a2, h.1.2]⟩
theorem merged_map : ∀ (kvs acc : List (Int × Value)), (merged acc kvs).map (fun p => (p.1, ab p.2)) = (kvs.map (fun p => (p.1, ab p.2))).foldl (fun acc p => putI acc p.1 p.2) (acc.map (fun p => (p.1, ab p.2)))
  | [], acc => rfl
  | kv :: r, acc => by
    show (merged (stored acc kv.1 kv.2) r).map _ = _
    rw [merged_map r, stored_map]
    rfl
def Evp (W : Wo) (A : Around) (env : Env) (ps : List (Sem Value × Sem Value)) (μ : Mu) (H : AH) (Q : List (AV × AV) → AH → Prop) : Prop := EvG W A env (List.map fun p : Value × Value => (ab p.1, ab p.2)) (evalPairs ps) μ H Q
theorem Evp_nil {Q : List (AV × AV) → AH → Prop} (h : Q [] H) : Evp W A env [] μ H Q := .mk fun R s r => evalPairs_nil ⟨H, r, h⟩
theorem Evp_cons {k v : Sem Value} {ps : List (Sem Value × Sem Value)} {Q : List (AV × AV) → AH → Prop} (h : Ev W A env k μ H fun a H₁ => Ev W A env v μ H₁ fun b H₂ => Evp W A env ps μ H₂ fun l H₃ => Q ((a, b) :: l) H₃) : Evp W A env ((k, v) :: ps) μ H Q :=
  .mk fun R s r => evalPairs_cons (wpAny_mono (h.run R s r) (fun u s₁ ⟨_, r₁, q₁⟩ => wpAny_mono (q₁.run R s₁ r₁) (fun w s₂ ⟨_, r₂, q₂⟩ => wpAny_mono (q₂.run R s₂ r₂) (fun l s₃ ⟨H₃, r₃, q₃⟩ => ⟨H₃, r₃, q₃⟩) fun _ _ x => x) fun _ _ x => x) fun _ _ x => x)
theorem Ev_stand {t : Sem Value} {pos : Pos} {Q} (h : Ev W A env t μ H Q) : Ev W A env (do let x ← t; standAt pos; pure x) μ H Q :=
  .mk fun R s r => wpAny_bind (wpAny_mono (h.run R s r) (fun v s' x => wpAny_bind (wpAny_standAt (wpAny_pure x))) fun _ _ x => x)
theorem Ev_dict {keys : List (Option Expr)} {values : List Expr} {pos : Pos} {pairs : List (Sem Value × Sem Value)} {Q}
    (h : ∀ d, H d = none → Evp W A env pairs μ (H.set d (.idict [] 0)) fun l H₁ => H₁ d = some (.idict [] 0) ∧ ∃ es : List (Int × AV), l = es.map (fun p => (AV.int p.1, p.2)) ∧ ∀ ep, Q (.ref d) (H₁.set d (.idict (es.foldl (fun acc p => putI acc p.1 p.2) []) ep)))
    (hshape : (evalEachOpt keys env).zip ((evalEach values env).map fun v => do let x ← v; standAt pos; pure x) = pairs.map fun p => (some p.1, p.2)) (h0 : pairs ≠ []) (hlen : pairs.length ≤ 15) :
    Ev W A env (eval (.Dict keys values pos) env) μ H Q := .mk fun R s r => by
  have r0 := r.push (o := { cls := .type "dict", data := .dict #[] }) rfl (x := .idict [] 0) ⟨[], #[], ⟨⟨rfl, rfl, rfl⟩, rfl, fun e he => by simp at he, .nil, by simp⟩, rfl⟩
  refine wpAny_Dict_pairs (knd := intKind W.prog W.w) hshape h0 hlen (wpAny_mono ((h _ r.isNone).run R _ r0) (fun vs s₁ ⟨H₁, r₁, hd, es, e, q⟩ => ?_) fun _ _ x => x)
  obtain ⟨kvs, c1, c2⟩ := carry (prog := W.prog) (w := W.w) e
  obtain ⟨kv0, D, e0⟩ := dictAt r₁ hd
  have : kv0 = [] := by cases kv0 with | nil => rfl | cons _ _ => simp at e0
  subst this
  refine ⟨kvs, c1, D.dictOf, fun h' hd' hs' => ?_⟩
  obtain ⟨o', ep', ho', hk'⟩ := of_dictOf hd'
  refine ⟨_, (r₁.upd hd hs' ho' hk').tok _, ?_⟩
  rw [merged_map, c2]
  exact q ep'
end
end Mine

-- W12
open PySem.SeqAt
namespace Mine

/-- two lists, item by item -/
inductive Fa2 {α β : Type} (P : α → β → Prop) : List α → List β → Prop
  | nil : Fa2 P [] []
  | cons {a b as bs} : P a b → Fa2 P as bs → Fa2 P (a :: as) (b :: bs)

inductive RC where
  | int (i : Int) | met (n : Nat)
def RC.py : RC → PyData
  | .int i => .int i
  | .met n => .tuple [.str "met", .int n]
def CellAt (H : AH) (x : AV) : RC → Prop
  | .int i => x = .int i
  | .met n => ∃ t, x = .ref t ∧ H t = some (.tup [.str "met", .int n])
def RowAt (H : AH) (x : AV) (r : List RC) : Prop := ∃ l xs, x = .ref l ∧ H l = some (.list xs) ∧ Fa2 (CellAt H) xs r
def RowsAt (H : AH) (x : AV) (rs : List (List RC)) : Prop := ∃ l xs, x = .ref l ∧ H l = some (.list xs) ∧ Fa2 (RowAt H) xs rs
def rowPy (r : List RC) : PyData := .list (r.map RC.py)
def rowsPy (rs : List (List RC)) : PyData := .list (rs.map rowPy)

theorem lay_cells : ∀ r : List RC, PyData.canLayAll0 (r.map RC.py) = true
  | [] => rfl
  | c :: r => by
    have := lay_cells r
    cases c <;> simp [PyData.canLayAll0, RC.py, PyData.canLay0, this]
    decide +kernel
theorem depth_cells : ∀ r : List RC, PyData.depthAll (r.map RC.py) ≤ 2
  | [] => by simp [PyData.depthAll]
  | c :: r => by
    have := depth_cells r
    cases c <;> simp only [List.map_cons, PyData.depthAll, RC.py, PyData.depth] <;> omega
theorem lay_rows : ∀ rs : List (List RC), PyData.canLayAll0 (rs.map rowPy) = true
  | [] => rfl
  | r :: rs => by
    have := lay_rows rs
    simp [PyData.canLayAll0, rowPy, PyData.canLay0, this, lay_cells]
theorem depth_rows : ∀ rs : List (List RC), PyData.depthAll (rs.map rowPy) ≤ 3
  | [] => by simp [PyData.depthAll]
  | r :: rs => by
    have := depth_rows rs
    have h := depth_cells r
    simp only [List.map_cons, PyData.depthAll, rowPy, PyData.depth]; omega
theorem shaped_rows (rs : List (List RC)) : shaped (rowsPy rs) = true := by
  unfold shaped rowsPy
  have h := depth_rows rs
  simp only [PyData.canLay0, lay_rows, PyData.depth, Bool.true_and]
  exact decide_eq_true (by omega)

section
variable {W : Wo} {A : Around} {env : Env} {μ : Mu} {H : AH} {R : Addr → Option Obj} {s : Shared}

theorem reads_cell (r : Rep W env R μ H s) {v : Value} {c : RC} (h : CellAt H (ab v) c) : ∃ as, Reads s.heap v c.py as := by
  cases c with
  | int i => obtain ⟨t, rfl⟩ := ab_int h; exact ⟨_, .int i t⟩
  | met n =>
    obtain ⟨t, e, ht⟩ := h
    cases ab_ref e
    obtain ⟨vs, m, ho, hm⟩ := tupAt r ht
    obtain ⟨v1, v2, e, e1, e2⟩ := map2 hm
    obtain ⟨t1, rfl⟩ := ab_str e1
    obtain ⟨t2, rfl⟩ := ab_int e2
    exact ⟨_, .tuple ho rfl rfl (by rw [e]; exact .cons (.str _ _) (.cons (.int _ _) .nil))⟩
theorem reads_all {P : AV → γ → Prop} {f : γ → PyData} (hP : ∀ v c, P (ab v) c → ∃ as, Reads s.heap v (f c) as) : ∀ {vs : List Value} {cs : List γ}, Fa2 P (vs.map ab) cs → ∃ as, ReadsAll s.heap vs (cs.map f) as
  | [], [], _ => ⟨_, .nil⟩
  | v :: vs, c :: cs, h => by
    cases h with
    | cons h1 h2 =>
      obtain ⟨as, ha⟩ := hP v c h1
      obtain ⟨bs, hb⟩ := reads_all hP h2
      exact ⟨_, .cons ha hb⟩
theorem reads_row (r : Rep W env R μ H s) {v : Value} {c : List RC} (h : RowAt H (ab v) c) : ∃ as, Reads s.heap v (rowPy c) as := by
  obtain ⟨l, xs, e, hl, hf⟩ := h
  cases ab_ref e
  obtain ⟨vs, n, ho, rfl⟩ := listAt r hl
  obtain ⟨as, ha⟩ := reads_all (fun v c => reads_cell r) hf
  exact ⟨_, .list ho rfl rfl ha⟩
theorem reads_rows (r : Rep W env R μ H s) {v : Value} {c : List (List RC)} (h : RowsAt H (ab v) c) : ∃ as, Reads s.heap v (rowsPy c) as := by
  obtain ⟨l, xs, e, hl, hf⟩ := h
  cases ab_ref e
  obtain ⟨vs, n, ho, rfl⟩ := listAt r hl
  obtain ⟨as, ha⟩ := reads_all (fun v c => reads_row r) hf
  exact ⟨_, .list ho rfl rfl ha⟩
theorem cmp_neRows {a b : AV} {rs : List (List RC)} {Q : Bool → AH → Prop} (hu : A.units + 64 < cLine) (ha : RowsAt H a rs) (hb : RowsAt H b rs) (q : Q false H) : CmpT W A env .NotEq a b μ H Q := by
  intro v u hv hu'; refine .mk fun R s r => ?_
  subst hv hu'
  obtain ⟨as, h1⟩ := reads_rows r ha
  obtain ⟨bs, h2⟩ := reads_rows r hb
  have hc : (rowsPy rs).canLay0 = true := canLay_of_shaped (shaped_rows rs)
  exact ne_dataH h1 h2 (shaped_rows rs) (shaped_rows rs) hu ⟨H, r, _, rfl, by rw [eqv_refl _ hc]; exact q⟩

theorem Ev_dict0 {pos : Pos} {Q} (O : W.Ok) (h : ∀ d, H d = none → (d == sysModules) = false → Q (.ref d) (H.set d (.idict [] 0))) : Ev W A env (eval (.Dict [] [] pos) env) μ H Q := .mk fun R s r => by
  refine wpAny_Dict_empty ⟨_, r.push rfl (x := .idict [] 0) ⟨[], #[], ⟨⟨rfl, rfl, rfl⟩, rfl, fun e he => by simp at he, .nil, by simp⟩, rfl⟩, h _ r.isNone ?_⟩
  have : mainGlobals < s.heap.objs.size := (O.g.keeps r.repH.keep).lt
  have h3 : (3 : Nat) < s.heap.objs.size := this
  have : s.heap.objs.size ≠ 1 := by omega
  simpa [sysModules] using this
end
end Mine

-- PHead
namespace Mine
def qv : Program := view PySem.Challenge.rw_pq1017_01.prog [47]
def lv : List Str := ["_wall", "MachineFault", "FIX", "REF", "CHAR", "CONSTANT", "HEADER", "FORWARD", "TAGS", "EMPTY_LIST", "KINDS", "KIND_SIZES", "payload_of", "fix", "ref", "char_word", "header_word", "forward_word", "is_ref", "is_header", "is_forward", "header_kind", "header_length", "is_value_word", "Heap", "wrong_block", "heap_error", "moved_word", "collect", "marked", "new_places", "slid_word", "slide", "_law_draw", "_law_value", "_law_taken", "_law_led", "_law_led_own", "_law_walk", "_law_walk_own", "_law_mutated", "_law_cells"].map Str.ofString

/-- the top's run over a tree, by the library's own quick twins -/
noncomputable def topRunT (tb : String → Option Builtin) (p : Program) (w : World) (n₀ : Nat) (ann : Option Value) : Nat → SharedT → Thread → Option SharedT
  | 0, _, _ => none
  | n + 1, s, t => match through t with
    | true => some s
    | false => match PySem.W.Fast.tw6613529449190102663 n₀ ann t with
      | false => none
      | true => match PySem.W.Fast.tw10156331382660048174 (PySem.W.Fast.tw11892475500146522536 tb) p w s t with
        | some (s', t') => topRunT tb p w n₀ ann n s' t'
        | none => none
theorem topRun_of {tb : String → Option Builtin} {p : Program} {w : World} {n₀ : Nat} {ann : Option Value} : ∀ {n : Nat} {s s' : SharedT} {t : Thread}, topRunT tb p w n₀ ann n s t = some s' → topRun tb p w n₀ ann n s.abs t = some s'.abs
  | 0, _, _, _, h => by cases h
  | n + 1, s, s', t, h => by
    unfold topRunT at h
    rw [← PySem.W.Fast.te6613529449190102663, ← PySem.W.Fast.te10156331382660048174, ← PySem.W.Fast.te11892475500146522536] at h
    unfold topRun
    cases he : through t with
    | true => rw [he] at h; cases h; rfl
    | false =>
      rw [he] at h
      cases hk : stepOk n₀ ann t with
      | false => rw [hk] at h; cases h
      | true =>
        rw [hk] at h
        cases hs : stepT (denote tb) p w s t with
        | none => rw [hs] at h; cases h
        | some r =>
          obtain ⟨s₂, t₂⟩ := r
          rw [hs] at h
          dsimp only at h ⊢
          rw [stepT_spec hs]
          exact topRun_of h
def treeOf (h : Heap) : BT := h.objs.toList.zipIdx.foldl (fun t x => t.ins x.2 x.1) .nil
/-- the top in one run over a tree, from the laid start-up -/
theorem left_boot {p q : Program} {loose : List Str} {Xt : Shared → Bool} {α : Type} {Yf : Shared → α} {Ya : World → α} {N : Nat} {g0 : Bool} {n₀ : Nat} {ann : Option Value} {life : Life} (e : opening p = plainProg p.main.scope.names) (hN : Nat.ble 600 N = true) (f : ∀ s, fenceModules? p s = some s)
    (hb : ∀ w : World, absHeap (treeOf (boot_heap w.params)) n₀ life = boot_heap w.params) (hz : ∀ w : World, ((boot_heap w.params).isNs mainGlobals, (boot_heap w.params).objs.size, (boot_heap w.params).nsMap mainGlobals "__annotations__") = (true, n₀, ann))
    (h : ∀ (w : World) (os : OsState), (topRunT treeTable p w n₀ ann N ⟨treeOf (boot_heap w.params), n₀, life, Array.mk [], boot_drawn, boot_toks, os⟩ (topStub p)).map (fun s => (staticsOk (importedModules p.main.body) (boot_heap w.params) s.abs.heap && namesBound p s.abs.heap && gensDone s.abs && laidKept (boot_heap w.params) s.abs.heap, openSeen q loose (importedModules p.main.body) Xt g0 s.abs, Yf s.abs)) = some (true, openGood q loose, Ya w)) : LeftO p q loose Xt Yf Ya N g0 := fun w => by
  obtain ⟨⟨hp, gs, d, k, os⟩, e1, e2⟩ := Option.map_eq_some_iff.mp (boot_open e hN f w)
  obtain ⟨rfl, rfl, rfl, rfl⟩ : hp = boot_heap w.params ∧ gs = Array.mk [] ∧ d = boot_drawn ∧ k = boot_toks := by simpa using e2
  obtain ⟨z1, z2, z3⟩ : _ ∧ _ ∧ _ := by simpa only [Prod.mk.injEq] using hz w
  obtain ⟨s, h1, h2⟩ := Option.map_eq_some_iff.mp (h w os)
  obtain ⟨l1, l2, l3⟩ : _ ∧ _ ∧ _ := by simpa only [Prod.mk.injEq] using h2
  have r := topRun_of h1
  have ea : (SharedT.mk (treeOf (boot_heap w.params)) n₀ life (Array.mk []) boot_drawn boot_toks os).abs = ⟨boot_heap w.params, Array.mk [], boot_drawn, boot_toks, os⟩ := by
    unfold SharedT.abs
    dsimp only
    rw [hb w]
  rw [ea] at r
  unfold openEnds
  rw [e1]
  show (topFrom treeTable p w N ⟨boot_heap w.params, Array.mk [], boot_drawn, boot_toks, os⟩).map _ = _
  unfold topFrom
  dsimp only
  rw [z1, z2, z3, r]
  show (match staticsOk (importedModules p.main.body) (boot_heap w.params) s.abs.heap && namesBound p s.abs.heap && gensDone s.abs && laidKept (boot_heap w.params) s.abs.heap with | true => _ | false => _ : Option Shared).map _ = _
  rw [l1]
  exact congrArg some (Prod.ext l2 l3)
local macro_rules | `(tactic| o_head $H) => `(tactic| (
  refine holds_open (q := qv) (loose := lv) (Xt := fun s => recOk [] s) (XP := fun _ _ => True) (Yf := Hook.obs $H) (Ya := Hook.val $H) (YP := Hook.says $H) (N := 4016) ?hl (Hook.of $H) (Hook.keeps $H) (fun _ _ => trivial) (fun _ _ _ _ _ => trivial) (by rfl) (by rfl) (by rfl) (fun s e => recFacts_of e) (by rfl) (by first | assumption | decide +kernel) (by decide +kernel) ⟨rfl, rfl, rfl, rfl, rfl, by decide +kernel⟩ ?hw ?hc
  (case hl => (refine left_boot (n₀ := 11) (ann := some (.ref 6)) (life := {}) (by kernel_rfl) (by kernel_rfl) (fun s => by kernel_rfl) (fun w => by kernel_rfl) (fun w => by kernel_rfl) ?_; rw [PySem.W.Fast.te14364793385576792824, PySem.W.Fast.te4187177175401517315, PySem.W.Fast.te5923862056798008813, PySem.W.Fast.te2368527892694137696, $(Lean.mkIdent `PySem.W.Fast.te2287574928513379363):ident]; intro w os; kernel_rfl))))
open_top hd for PySem.Challenge.rw_pq1017_01
end Mine

-- F0
namespace Mine


structure PK (W : Wo) : Prop where
  ok : W.Ok
  inK : (hd.heap_39 W.w.params).In W.h0

structure AOk (A : Around) (n : Nat) : Prop where
  h : A.handled = none
  d : A.depth + n ≤ 500
  u : A.units + 10 * n ≤ 5000
theorem AOk.deep {A : Around} {n : Nat} (a : AOk A (n + 1)) (env : Env) : AOk (A.deeper env) n :=
  ⟨a.h, by show A.depth + 1 + n ≤ 500; have := a.d; omega, by show A.units + 3 + 10 * n ≤ 5000; have := a.u; omega⟩
theorem AOk.le {A : Around} {n m : Nat} (a : AOk A n) (h : m ≤ n) : AOk A m := ⟨a.h, by have := a.d; omega, by have := a.u; omega⟩
theorem AOk.room {A : Around} {n : Nat} (a : AOk A n) : A.depth < recursionLimit := by
  have := a.d
  show A.depth < 1000
  omega
theorem AOk.cl {A : Around} {n : Nat} (a : AOk A n) : A.units + 64 < cLine := by
  have := a.u
  show A.units + 64 < 9900
  omega

abbrev envZ (qual : Str) (scope : Scope) (L f : Addr) (cdv : Value) : Env := envX qual scope L f cdv (cellsFrom (L + 1) scope.names [])

section
variable {W : Wo} {A : Around} {H : AH} {n : Nat}
theorem Cal_K {f : Addr} {oc : Value} {od : Option Addr} {osl : Array (Option Value)} {name qual : Str} {params : Arguments} {body : List Stmt} {scope : Scope} {dV kV doc pm cdv ct : Value} {an : Option Addr} {names : List Str} {as : List AV} {Q : AV → AH → Prop}
    (k : PK W) (a : AOk A (n + 1)) (ho : (hd.heap_39 W.w.params).lookup f = some ⟨oc, od, .func (fnX name qual params body scope [] dV kV doc pm an cdv ct), osl⟩) (hcd : codeIn (hd.heap_39 W.w.params) cdv qual = true)
    (hb : ∀ vs : List Value, vs.length = as.length → bindArgs (fnX name qual params body scope [] dV kV doc pm an cdv ct) ⟨vs, []⟩ = pure (names.zip vs) ∧ ((names.zip vs).all fun y => scope.names.lookup y.1 == some .local || scope.names.lookup y.1 == some .cell) = true)
    (hnd : names.Nodup) (hco : scope.isCoroutine = false) (hgen : scope.isGenerator = false) (hk : scope.kind = .function)
    (h : ∀ L A', AOk A' n → Ex W A' (envZ qual scope L f cdv) (execs body (envZ qual scope L f cdv)) (names.zip as) H (retQ Q)) : Cal W A (.ref f) as H Q :=
  Cal_fn (fd := fnX name qual params body scope [] dV kV doc pm an cdv ct) k.ok (k.inK _ _ ho) rfl (codeRec_of k.inK hcd) a.room rfl rfl hb hnd (fun L => h L _ (a.deep _)) hco hgen hk
end
theorem len1 {vs : List Value} (h : vs.length = 1) : ∃ a, vs = [a] := List.length_eq_one_iff.mp h
theorem lenS {vs : List Value} {n : Nat} (h : vs.length = n + 1) : ∃ a r, vs = a :: r ∧ r.length = n := by
  cases vs with
  | nil => cases h
  | cons a r => exact ⟨a, r, rfl, Nat.succ.inj h⟩
theorem len2 {vs : List Value} (h : vs.length = 2) : ∃ a b, vs = [a, b] := by
  obtain ⟨a, r, rfl, h9⟩ := lenS (n := 1) h
  obtain ⟨b, rfl⟩ := len1 h9
  exact ⟨a, b, rfl⟩
theorem len3 {vs : List Value} (h : vs.length = 3) : ∃ a b c, vs = [a, b, c] := by
  obtain ⟨a, r, rfl, h9⟩ := lenS (n := 2) h
  obtain ⟨b, c, rfl⟩ := len2 h9
  exact ⟨a, b, c, rfl⟩
theorem len4 {vs : List Value} (h : vs.length = 4) : ∃ a b c d, vs = [a, b, c, d] := by
  obtain ⟨a, r, rfl, h9⟩ := lenS (n := 3) h
  obtain ⟨b, c, d, rfl⟩ := len3 h9
  exact ⟨a, b, c, d, rfl⟩

theorem PK.g {W : Wo} (k : PK W) {n : Str} {v : Value} (e : nsIn (hd.heap_39 W.w.params) mainGlobals n = some (some v)) : W.mg n = some v := mg_of k.inK k.ok.g e
theorem PK.gn {W : Wo} (k : PK W) {n : Str} (e : nsIn (hd.heap_39 W.w.params) mainGlobals n = some none) : W.mg n = none := mg_none_of k.inK k.ok.g e

section
variable {W : Wo} {A : Around} {env : Env} {μ : Mu} {H : AH} {Q : AV → AH → Prop}
theorem Ev_g {x : Str} {pos : Pos} {v : Value} (k : PK W) (hv : nsIn (hd.heap_39 W.w.params) mainGlobals x = some (some v)) (h : Q (ab v) H) (hg : env.globals = mainGlobals := by rfl) (hx : env.kindOf x = some .globalImplicit := by rfl) (hk : env.scope.kind = .function := by rfl)
    (hd : (x == ("__debug__" : Str)) = false := by rfl) : Ev W A env (eval (.Name x pos) env) μ H Q := Ev_glob k.ok (k.g hv) h hg hx hk hd
/-- a call of a def by its name -/
theorem Ev_cf {x : Str} {p1 pos : Pos} {f : Addr} {e : Expr} {rest : List Expr} (k : PK W) (hv : nsIn (hd.heap_39 W.w.params) mainGlobals x = some (some (.ref f))) (hf : keepIn (hd.heap_39 W.w.params) (.ref f) = true)
    (h : Evs W A env (spliced (backTo pos (starEach (e :: rest) env))) μ H fun as H₁ => Cal W A (.ref f) as H₁ Q)
    (he : eval (.Call (.Name x p1) (e :: rest) [] pos) env = (do callWith pos (← eval (.Name x p1) env) [] (backTo pos (starEach (e :: rest) env)) (backToKw pos (keywordEach [] env))) := by rfl)
    (hs : starEach (e :: rest) env = (false, eval e env) :: starEach rest env := by rfl) (hp : (backTo pos (starEach rest env)).any (·.1) = false := by rfl)
    (hg : env.globals = mainGlobals := by rfl) (hx : env.kindOf x = some .globalImplicit := by rfl) (hk : env.scope.kind = .function := by rfl) (hd : (x == ("__debug__" : Str)) = false := by rfl) :
    Ev W A env (eval (.Call (.Name x p1) (e :: rest) [] pos) env) μ H Q :=
  Ev_call (Ev_g k hv (fun v hv => by cases ab_ref hv; exact cw_fn k.inK hf (h.mono fun as H' q => q.use) hs hp) hg hx hk hd) he
/-- a call of a built-in function by its name -/
theorem Ev_cb {x : Str} {p1 pos : Pos} {id : String} {e : Expr} {rest : List Expr} (k : PK W) (hm : nsIn (Mine.hd.heap_39 W.w.params) mainGlobals x = some none) (hv : bootBuiltins x = some (.builtin id))
    (h : Evs W A env (spliced (backTo pos (starEach (e :: rest) env))) μ H fun as H₁ => CalB W A env (.builtin id) as μ H₁ Q)
    (hn : x ≠ "__name__" := by decide)
    (he : eval (.Call (.Name x p1) (e :: rest) [] pos) env = (do callWith pos (← eval (.Name x p1) env) [] (backTo pos (starEach (e :: rest) env)) (backToKw pos (keywordEach [] env))) := by rfl)
    (hs : starEach (e :: rest) env = (false, eval e env) :: starEach rest env := by rfl) (hp : (backTo pos (starEach rest env)).any (·.1) = false := by rfl)
    (hg : env.globals = mainGlobals := by rfl) (hb : env.builtins = builtinsNs := by rfl) (hx : env.kindOf x = some .globalImplicit := by rfl) (hk : env.scope.kind = .function := by rfl) (hd : (x == ("__debug__" : Str)) = false := by rfl) :
    Ev W A env (eval (.Call (.Name x p1) (e :: rest) [] pos) env) μ H Q :=
  Ev_call (Ev_bi k.ok (k.gn hm) hv (fun v hv => by cases ab_other hv; exact cw_bi h hs hp) hn hg hb hx hk hd) he
theorem Ev_ct {x : Str} {p1 pos : Pos} {T : String} {e : Expr} {rest : List Expr} (k : PK W) (hm : nsIn (Mine.hd.heap_39 W.w.params) mainGlobals x = some none) (hv : bootBuiltins x = some (.type T))
    (h : Evs W A env (spliced (backTo pos (starEach (e :: rest) env))) μ H fun as H₁ => CalB W A env (.type T) as μ H₁ Q)
    (hn : x ≠ "__name__" := by decide)
    (he : eval (.Call (.Name x p1) (e :: rest) [] pos) env = (do callWith pos (← eval (.Name x p1) env) [] (backTo pos (starEach (e :: rest) env)) (backToKw pos (keywordEach [] env))) := by rfl)
    (hs : starEach (e :: rest) env = (false, eval e env) :: starEach rest env := by rfl) (hp : (backTo pos (starEach rest env)).any (·.1) = false := by rfl)
    (hg : env.globals = mainGlobals := by rfl) (hb : env.builtins = builtinsNs := by rfl) (hx : env.kindOf x = some .globalImplicit := by rfl) (hk : env.scope.kind = .function := by rfl) (hd : (x == ("__debug__" : Str)) = false := by rfl) :
    Ev W A env (eval (.Call (.Name x p1) (e :: rest) [] pos) env) μ H Q :=
  Ev_call (Ev_bi k.ok (k.gn hm) hv (fun v hv => by cases ab_other hv; exact cw_ty h hs hp) hn hg hb hx hk hd) he

/-- an object of class Heap: its fields -/
def IsHeap (H : AH) (s : Addr) (lim : Int) (c : Addr) : Prop := ∃ d, H s = some (.inst 227 d) ∧ H d = some (.sdict [(Str.ofString "limit", .int lim), (Str.ofString "cells", .ref c)])
theorem clsHeap (P : Params) : ClsOk (hd.heap_39 P) 227 := ⟨by kernel_rfl, by kernel_rfl, by kernel_rfl, by kernel_rfl, by kernel_rfl⟩
theorem Ev_cells {value : Expr} {pos : Pos} (k : PK W) (h : Ev W A env (eval value env) μ H fun a H₁ => ∃ s lim c, a = .ref s ∧ IsHeap H₁ s lim c ∧ Q (.ref c) H₁)
    (he : eval (.Attribute value (Str.ofString "cells") pos) env = (do
      let o ← eval value env
      standAt pos.atName
      let r ← holding [o] (getAttr o (Str.ofString "cells") true)
      letTemporaryGo value o r
      pure r) := by with_unfolding_all rfl) : Ev W A env (eval (.Attribute value (Str.ofString "cells") pos) env) μ H Q :=
  Ev_attr (h.mono fun a H₁ ⟨s, lim, c, e, ⟨d, h1, h2⟩, q⟩ => by subst e; exact get_attr k.inK (clsHeap _) h1 h2 rfl (by kernel_rfl) q) he
theorem Ev_limit {value : Expr} {pos : Pos} (k : PK W) (h : Ev W A env (eval value env) μ H fun a H₁ => ∃ s lim c, a = .ref s ∧ IsHeap H₁ s lim c ∧ Q (.int lim) H₁)
    (he : eval (.Attribute value (Str.ofString "limit") pos) env = (do
      let o ← eval value env
      standAt pos.atName
      let r ← holding [o] (getAttr o (Str.ofString "limit") true)
      letTemporaryGo value o r
      pure r) := by with_unfolding_all rfl) : Ev W A env (eval (.Attribute value (Str.ofString "limit") pos) env) μ H Q :=
  Ev_attr (h.mono fun a H₁ ⟨s, lim, c, e, ⟨d, h1, h2⟩, q⟩ => by subst e; exact get_attr k.inK (clsHeap _) h1 h2 rfl (by kernel_rfl) q) he
/-- a method of Heap's -/
theorem Ev_cm {o : Expr} {name : Str} {apos pos : Pos} {e : Expr} {rest : List Expr} {f : Addr} {pl : Sem Bool} (k : PK W) (hf : findIn (hd.heap_39 W.w.params) (.ref 227) name = some (some (.ref f))) (ht : typeIn (hd.heap_39 W.w.params) (.ref f) = some (.type "function"))
    (hk : keepIn (hd.heap_39 W.w.params) (.ref f) = true) (hn : [(Str.ofString "limit", AV.none), (Str.ofString "cells", AV.none)].lookup name = none)
    (h : Ev W A env (eval o env) μ H fun a H₁ => ∃ s lim c, a = .ref s ∧ IsHeap H₁ s lim c ∧ Evs W A env (spliced (backTo pos (starEach (e :: rest) env))) μ H₁ fun as H₂ => Cal W A (.ref f) (.ref s :: as) H₂ Q)
    (he : eval (.Call (.Attribute o name apos) (e :: rest) [] pos) env = (do
      let ov ← eval o env
      standAt apos.atName
      let (f, first) ← holding [ov] (getMethod ov name pl)
      callWith pos f first (backTo pos (starEach (e :: rest) env)) (backToKw pos (keywordEach [] env))) := by rfl)
    (hs : starEach (e :: rest) env = (false, eval e env) :: starEach rest env := by rfl) (hp : (backTo pos (starEach rest env)).any (·.1) = false := by rfl) :
    Ev W A env (eval (.Call (.Attribute o name apos) (e :: rest) [] pos) env) μ H Q :=
  Ev_meth (h.mono fun a H₁ ⟨s, lim, c, e', ⟨d, h1, h2⟩, q⟩ => by
    subst e'
    refine meth_inst k.inK (clsHeap _) h1 h2 ?_ hf ht ?_
    · simp only [List.lookup] at hn ⊢
      split at hn
      · cases hn
      · split at hn
        · cases hn
        · rfl
    · exact cw_fn k.inK hk (q.mono fun as H' q => q.use) hs hp) he
theorem Ev_cm0 {o : Expr} {name : Str} {apos pos : Pos} {f : Addr} {pl : Sem Bool} (k : PK W) (hf : findIn (hd.heap_39 W.w.params) (.ref 227) name = some (some (.ref f))) (ht : typeIn (hd.heap_39 W.w.params) (.ref f) = some (.type "function"))
    (hk : keepIn (hd.heap_39 W.w.params) (.ref f) = true) (hn : [(Str.ofString "limit", AV.none), (Str.ofString "cells", AV.none)].lookup name = none)
    (h : Ev W A env (eval o env) μ H fun a H₁ => ∃ s lim c, a = .ref s ∧ IsHeap H₁ s lim c ∧ Cal W A (.ref f) [.ref s] H₁ Q)
    (he : eval (.Call (.Attribute o name apos) [] [] pos) env = (do
      let ov ← eval o env
      standAt apos.atName
      let (f, first) ← holding [ov] (getMethod ov name pl)
      callWith pos f first (backTo pos (starEach [] env)) (backToKw pos (keywordEach [] env))) := by rfl) :
    Ev W A env (eval (.Call (.Attribute o name apos) [] [] pos) env) μ H Q :=
  Ev_meth (h.mono fun a H₁ ⟨s, lim, c, e', ⟨d, h1, h2⟩, q⟩ => by
    subst e'
    refine meth_inst k.inK (clsHeap _) h1 h2 ?_ hf ht ?_
    · simp only [List.lookup] at hn ⊢
      split at hn
      · cases hn
      · split at hn
        · cases hn
        · rfl
    · exact cw_fn0 k.inK hk q.use) he
/-- a method of a list's -/
theorem Ev_lm {o : Expr} {name : Str} {apos pos : Pos} {e : Expr} {rest : List Expr} {id : String} {pl : Sem Bool} (slot : Slot "list" name id) (hty : typeOf (.builtin id) = pure (.type "method_descriptor"))
    (h : Ev W A env (eval o env) μ H fun a H₁ => ∃ l xs, a = .ref l ∧ H₁ l = some (.list xs) ∧ Evs W A env (spliced (backTo pos (starEach (e :: rest) env))) μ H₁ fun as H₂ => CalB W A env (.builtin id) (.ref l :: as) μ H₂ Q)
    (he : eval (.Call (.Attribute o name apos) (e :: rest) [] pos) env = (do
      let ov ← eval o env
      standAt apos.atName
      let (f, first) ← holding [ov] (getMethod ov name pl)
      callWith pos f first (backTo pos (starEach (e :: rest) env)) (backToKw pos (keywordEach [] env))) := by rfl)
    (hs : starEach (e :: rest) env = (false, eval e env) :: starEach rest env := by rfl) (hp : (backTo pos (starEach rest env)).any (·.1) = false := by rfl) :
    Ev W A env (eval (.Call (.Attribute o name apos) (e :: rest) [] pos) env) μ H Q :=
  Ev_meth (h.mono fun a H₁ ⟨l, xs, e', hl, q⟩ => by subst e'; exact meth_list slot hty hl (cw_bi q hs hp)) he
theorem Ev_lm0 {o : Expr} {name : Str} {apos pos : Pos} {id : String} {pl : Sem Bool} (slot : Slot "list" name id) (hty : typeOf (.builtin id) = pure (.type "method_descriptor"))
    (h : Ev W A env (eval o env) μ H fun a H₁ => ∃ l xs, a = .ref l ∧ H₁ l = some (.list xs) ∧ CalB W A env (.builtin id) [.ref l] μ H₁ Q)
    (he : eval (.Call (.Attribute o name apos) [] [] pos) env = (do
      let ov ← eval o env
      standAt apos.atName
      let (f, first) ← holding [ov] (getMethod ov name pl)
      callWith pos f first (backTo pos (starEach [] env)) (backToKw pos (keywordEach [] env))) := by rfl) :
    Ev W A env (eval (.Call (.Attribute o name apos) [] [] pos) env) μ H Q :=
  Ev_meth (h.mono fun a H₁ ⟨l, xs, e', hl, q⟩ => by subst e'; exact meth_list slot hty hl (cw_bi0 q)) he
end
end Mine

-- F1
namespace Mine

theorem fillit (P : Params) (h : hd.heap_39 P = hd.heap_39 P ∧ PySem.Challenge.rw_pq1017_01 = PySem.Challenge.rw_pq1017_01) : hd.heap_39 P = hd.heap_39 P ∧ PySem.Challenge.rw_pq1017_01 = PySem.Challenge.rw_pq1017_01 := by k_fill; exact h

section
variable {W : Wo} {A : Around} {env : Env} {μ : Mu} {H : AH} {n : Nat} {Q : AV → AH → Prop}
theorem Cal_K1 {f : Addr} {oc : Value} {od : Option Addr} {osl : Array (Option Value)} {name qual : Str} {params : Arguments} {body : List Stmt} {scope : Scope} {dV kV doc pm cdv ct : Value} {an : Option Addr} {x : String} {a1 : AV}
    (k : PK W) (a : AOk A (n + 1)) (ho : (hd.heap_39 W.w.params).lookup f = some ⟨oc, od, .func (fnX name qual params body scope [] dV kV doc pm an cdv ct), osl⟩) (hcd : codeIn (hd.heap_39 W.w.params) cdv qual = true)
    (h : ∀ L A', AOk A' n → Ex W A' (envZ qual scope L f cdv) (execs body (envZ qual scope L f cdv)) [(Str.ofString x, a1)] H (retQ Q))
    (hb : ∀ v : Value, bindArgs (fnX name qual params body scope [] dV kV doc pm an cdv ct) ⟨[v], []⟩ = pure [(Str.ofString x, v)] := by intro _; rfl)
    (hs : (scope.names.lookup (Str.ofString x) == some .local || scope.names.lookup (Str.ofString x) == some .cell) = true := by rfl)
    (hco : scope.isCoroutine = false := by rfl) (hgen : scope.isGenerator = false := by rfl) (hk : scope.kind = .function := by rfl) : Cal W A (.ref f) [a1] H Q :=
  Cal_K (names := [Str.ofString x]) k a ho hcd (fun vs hv => by obtain ⟨v, rfl⟩ := len1 hv; exact ⟨hb v, by simpa using hs⟩) (by simp) hco hgen hk h
theorem Cal_K2 {f : Addr} {oc : Value} {od : Option Addr} {osl : Array (Option Value)} {name qual : Str} {params : Arguments} {body : List Stmt} {scope : Scope} {dV kV doc pm cdv ct : Value} {an : Option Addr} {x y : String} {a1 a2 : AV}
    (k : PK W) (a : AOk A (n + 1)) (ho : (hd.heap_39 W.w.params).lookup f = some ⟨oc, od, .func (fnX name qual params body scope [] dV kV doc pm an cdv ct), osl⟩) (hcd : codeIn (hd.heap_39 W.w.params) cdv qual = true)
    (h : ∀ L A', AOk A' n → Ex W A' (envZ qual scope L f cdv) (execs body (envZ qual scope L f cdv)) [(Str.ofString x, a1), (Str.ofString y, a2)] H (retQ Q))
    (hb : ∀ v u : Value, bindArgs (fnX name qual params body scope [] dV kV doc pm an cdv ct) ⟨[v, u], []⟩ = pure [(Str.ofString x, v), (Str.ofString y, u)] := by intro _ _; rfl)
    (hs : [Str.ofString x, Str.ofString y].all (fun x => scope.names.lookup x == some .local || scope.names.lookup x == some .cell) = true := by rfl) (hn : [Str.ofString x, Str.ofString y].Nodup := by decide)
    (hco : scope.isCoroutine = false := by rfl) (hgen : scope.isGenerator = false := by rfl) (hk : scope.kind = .function := by rfl) : Cal W A (.ref f) [a1, a2] H Q :=
  Cal_K (names := [Str.ofString x, Str.ofString y]) k a ho hcd (fun vs hv => by obtain ⟨v, u, rfl⟩ := len2 hv; exact ⟨hb v u, by simpa using hs⟩) hn hco hgen hk h
theorem Cal_K3 {f : Addr} {oc : Value} {od : Option Addr} {osl : Array (Option Value)} {name qual : Str} {params : Arguments} {body : List Stmt} {scope : Scope} {dV kV doc pm cdv ct : Value} {an : Option Addr} {x y z : String} {a1 a2 a3 : AV}
    (k : PK W) (a : AOk A (n + 1)) (ho : (hd.heap_39 W.w.params).lookup f = some ⟨oc, od, .func (fnX name qual params body scope [] dV kV doc pm an cdv ct), osl⟩) (hcd : codeIn (hd.heap_39 W.w.params) cdv qual = true)
    (h : ∀ L A', AOk A' n → Ex W A' (envZ qual scope L f cdv) (execs body (envZ qual scope L f cdv)) [(Str.ofString x, a1), (Str.ofString y, a2), (Str.ofString z, a3)] H (retQ Q))
    (hb : ∀ v u w : Value, bindArgs (fnX name qual params body scope [] dV kV doc pm an cdv ct) ⟨[v, u, w], []⟩ = pure [(Str.ofString x, v), (Str.ofString y, u), (Str.ofString z, w)] := by intro _ _ _; rfl)
    (hs : [Str.ofString x, Str.ofString y, Str.ofString z].all (fun x => scope.names.lookup x == some .local || scope.names.lookup x == some .cell) = true := by rfl) (hn : [Str.ofString x, Str.ofString y, Str.ofString z].Nodup := by decide)
    (hco : scope.isCoroutine = false := by rfl) (hgen : scope.isGenerator = false := by rfl) (hk : scope.kind = .function := by rfl) : Cal W A (.ref f) [a1, a2, a3] H Q :=
  Cal_K (names := [Str.ofString x, Str.ofString y, Str.ofString z]) k a ho hcd (fun vs hv => by obtain ⟨v, u, w, rfl⟩ := len3 hv; exact ⟨hb v u w, by simpa using hs⟩) hn hco hgen hk h
theorem Cal_K4 {f : Addr} {oc : Value} {od : Option Addr} {osl : Array (Option Value)} {name qual : Str} {params : Arguments} {body : List Stmt} {scope : Scope} {dV kV doc pm cdv ct : Value} {an : Option Addr} {x y z t : String} {a1 a2 a3 a4 : AV}
    (k : PK W) (a : AOk A (n + 1)) (ho : (hd.heap_39 W.w.params).lookup f = some ⟨oc, od, .func (fnX name qual params body scope [] dV kV doc pm an cdv ct), osl⟩) (hcd : codeIn (hd.heap_39 W.w.params) cdv qual = true)
    (h : ∀ L A', AOk A' n → Ex W A' (envZ qual scope L f cdv) (execs body (envZ qual scope L f cdv)) [(Str.ofString x, a1), (Str.ofString y, a2), (Str.ofString z, a3), (Str.ofString t, a4)] H (retQ Q))
    (hb : ∀ v u w r : Value, bindArgs (fnX name qual params body scope [] dV kV doc pm an cdv ct) ⟨[v, u, w, r], []⟩ = pure [(Str.ofString x, v), (Str.ofString y, u), (Str.ofString z, w), (Str.ofString t, r)] := by intro _ _ _ _; rfl)
    (hs : [Str.ofString x, Str.ofString y, Str.ofString z, Str.ofString t].all (fun x => scope.names.lookup x == some .local || scope.names.lookup x == some .cell) = true := by rfl) (hn : [Str.ofString x, Str.ofString y, Str.ofString z, Str.ofString t].Nodup := by decide)
    (hco : scope.isCoroutine = false := by rfl) (hgen : scope.isGenerator = false := by rfl) (hk : scope.kind = .function := by rfl) : Cal W A (.ref f) [a1, a2, a3, a4] H Q :=
  Cal_K (names := [Str.ofString x, Str.ofString y, Str.ofString z, Str.ofString t]) k a ho hcd (fun vs hv => by obtain ⟨v, u, w, r, rfl⟩ := len4 hv; exact ⟨hb v u w r, by simpa using hs⟩) hn hco hgen hk h
end


abbrev GName (env : Env) (x : String) : Prop := env.globals = mainGlobals ∧ env.kindOf (Str.ofString x) = some .globalImplicit ∧ env.scope.kind = .function
abbrev CShape (env : Env) (x : String) (p1 pos : Pos) (e : Expr) (rest : List Expr) : Prop :=
  (eval (.Call (.Name (Str.ofString x) p1) (e :: rest) [] pos) env = (do callWith pos (← eval (.Name (Str.ofString x) p1) env) [] (backTo pos (starEach (e :: rest) env)) (backToKw pos (keywordEach [] env)))) ∧
  starEach (e :: rest) env = (false, eval e env) :: starEach rest env ∧ (backTo pos (starEach rest env)).any (·.1) = false ∧ GName env x
section
variable {W : Wo} {A : Around} {env : Env} {μ : Mu} {H : AH} {n : Nat} {Q : AV → AH → Prop}
theorem E_FIX {pos : Pos} (k : PK W) (h : Q (.int 0) H) (c : GName env "FIX" := by exact ⟨rfl, rfl, rfl⟩) : Ev W A env (eval (.Name (Str.ofString "FIX") pos) env) μ H Q := by
  refine Ev_g k (by k_is) ?_ c.1 c.2.1 c.2.2
  exact h
theorem E_REF {pos : Pos} (k : PK W) (h : Q (.int 1) H) (c : GName env "REF" := by exact ⟨rfl, rfl, rfl⟩) : Ev W A env (eval (.Name (Str.ofString "REF") pos) env) μ H Q := by
  refine Ev_g k (by k_is) ?_ c.1 c.2.1 c.2.2
  exact h
theorem E_CHAR {pos : Pos} (k : PK W) (h : Q (.int 2) H) (c : GName env "CHAR" := by exact ⟨rfl, rfl, rfl⟩) : Ev W A env (eval (.Name (Str.ofString "CHAR") pos) env) μ H Q := by
  refine Ev_g k (by k_is) ?_ c.1 c.2.1 c.2.2
  exact h
theorem E_HEADER {pos : Pos} (k : PK W) (h : Q (.int 5) H) (c : GName env "HEADER" := by exact ⟨rfl, rfl, rfl⟩) : Ev W A env (eval (.Name (Str.ofString "HEADER") pos) env) μ H Q := by
  refine Ev_g k (by k_is) ?_ c.1 c.2.1 c.2.2
  exact h
theorem E_FORWARD {pos : Pos} (k : PK W) (h : Q (.int 6) H) (c : GName env "FORWARD" := by exact ⟨rfl, rfl, rfl⟩) : Ev W A env (eval (.Name (Str.ofString "FORWARD") pos) env) μ H Q := by
  refine Ev_g k (by k_is) ?_ c.1 c.2.1 c.2.2
  exact h
theorem E_TAGS {pos : Pos} (k : PK W) (h : Q (.int 8) H) (c : GName env "TAGS" := by exact ⟨rfl, rfl, rfl⟩) : Ev W A env (eval (.Name (Str.ofString "TAGS") pos) env) μ H Q := by
  refine Ev_g k (by k_is) ?_ c.1 c.2.1 c.2.2
  exact h
theorem E_EMPTY_LIST {pos : Pos} (k : PK W) (h : Q (.int 20) H) (c : GName env "EMPTY_LIST" := by exact ⟨rfl, rfl, rfl⟩) : Ev W A env (eval (.Name (Str.ofString "EMPTY_LIST") pos) env) μ H Q := by
  refine Ev_g k (by k_is) ?_ c.1 c.2.1 c.2.2
  exact h
theorem E_KINDS {pos : Pos} (k : PK W) (h : Q (.int 16) H) (c : GName env "KINDS" := by exact ⟨rfl, rfl, rfl⟩) : Ev W A env (eval (.Name (Str.ofString "KINDS") pos) env) μ H Q := by
  refine Ev_g k (by k_is) ?_ c.1 c.2.1 c.2.2
  exact h
theorem c_payload (k : PK W) (a : AOk A (n + 1)) {w : Int} (h : Q (.int (w / 8)) H) : Cal W A (.ref 49) [.int w] H Q :=
  Cal_K1 (x := "word") k a (by k_is) (by k_is) fun L A' a' => Ex_cons (Ex_ret (Ev_div (Ev_name rfl (E_TAGS k ⟨_, _, rfl, rfl, by decide, h⟩))))
theorem c_fix (k : PK W) (a : AOk A (n + 1)) {w : Int} (h : Q (.int (w * 8 + 0)) H) : Cal W A (.ref 56) [.int w] H Q :=
  Cal_K1 (x := "number") k a (by k_is) (by k_is) fun L A' a' => Ex_cons (Ex_ret (Ev_add (Ev_mul (Ev_name rfl (E_TAGS k ⟨_, _, rfl, rfl, by decide, E_FIX k ⟨_, _, rfl, rfl, h⟩⟩)))))
theorem c_ref (k : PK W) (a : AOk A (n + 1)) {w : Int} (h : Q (.int (w * 8 + 1)) H) : Cal W A (.ref 63) [.int w] H Q :=
  Cal_K1 (x := "address") k a (by k_is) (by k_is) fun L A' a' => Ex_cons (Ex_ret (Ev_add (Ev_mul (Ev_name rfl (E_TAGS k ⟨_, _, rfl, rfl, by decide, E_REF k ⟨_, _, rfl, rfl, h⟩⟩)))))
theorem c_char (k : PK W) (a : AOk A (n + 1)) {w : Int} (h : Q (.int (w * 8 + 2)) H) : Cal W A (.ref 70) [.int w] H Q :=
  Cal_K1 (x := "code") k a (by k_is) (by k_is) fun L A' a' => Ex_cons (Ex_ret (Ev_add (Ev_mul (Ev_name rfl (E_TAGS k ⟨_, _, rfl, rfl, by decide, E_CHAR k ⟨_, _, rfl, rfl, h⟩⟩)))))
theorem c_forward (k : PK W) (a : AOk A (n + 1)) {w : Int} (h : Q (.int (w * 8 + 6)) H) : Cal W A (.ref 84) [.int w] H Q :=
  Cal_K1 (x := "address") k a (by k_is) (by k_is) fun L A' a' => Ex_cons (Ex_ret (Ev_add (Ev_mul (Ev_name rfl (E_TAGS k ⟨_, _, rfl, rfl, by decide, E_FORWARD k ⟨_, _, rfl, rfl, h⟩⟩)))))
theorem c_isRef (k : PK W) (a : AOk A (n + 1)) {w : Int} (h : Q (.bool (decide (w % 8 = 1))) H) : Cal W A (.ref 91) [.int w] H Q :=
  Cal_K1 (x := "word") k a (by k_is) (by k_is) fun L A' a' => Ex_cons (Ex_ret (Ev_cmp (Ev_mod (Ev_name rfl (E_TAGS k ⟨_, _, rfl, rfl, by decide, E_REF k (cmp_eq h)⟩)))))
theorem c_isHdr (k : PK W) (a : AOk A (n + 1)) {w : Int} (h : Q (.bool (decide (w % 8 = 5))) H) : Cal W A (.ref 98) [.int w] H Q :=
  Cal_K1 (x := "word") k a (by k_is) (by k_is) fun L A' a' => Ex_cons (Ex_ret (Ev_cmp (Ev_mod (Ev_name rfl (E_TAGS k ⟨_, _, rfl, rfl, by decide, E_HEADER k (cmp_eq h)⟩)))))
theorem c_isFwd (k : PK W) (a : AOk A (n + 1)) {w : Int} (h : Q (.bool (decide (w % 8 = 6))) H) : Cal W A (.ref 105) [.int w] H Q :=
  Cal_K1 (x := "word") k a (by k_is) (by k_is) fun L A' a' => Ex_cons (Ex_ret (Ev_cmp (Ev_mod (Ev_name rfl (E_TAGS k ⟨_, _, rfl, rfl, by decide, E_FORWARD k (cmp_eq h)⟩)))))
theorem c_kind (k : PK W) (a : AOk A (n + 1)) {w : Int} (h : Q (.int (w / 8 % 16)) H) : Cal W A (.ref 112) [.int w] H Q :=
  Cal_K1 (x := "header") k a (by k_is) (by k_is) fun L A' a' => Ex_cons (Ex_ret (Ev_mod (Ev_div (Ev_name rfl (E_TAGS k ⟨_, _, rfl, rfl, by decide, E_KINDS k ⟨_, _, rfl, rfl, by decide, h⟩⟩)))))
theorem c_length (k : PK W) (a : AOk A (n + 1)) {w : Int} (h : Q (.int (w / 8 / 16)) H) : Cal W A (.ref 119) [.int w] H Q :=
  Cal_K1 (x := "header") k a (by k_is) (by k_is) fun L A' a' => Ex_cons (Ex_ret (Ev_div (Ev_div (Ev_name rfl (E_TAGS k ⟨_, _, rfl, rfl, by decide, E_KINDS k ⟨_, _, rfl, rfl, by decide, h⟩⟩)))))
theorem c_isVal (k : PK W) (a : AOk A (n + 1)) {w : Int} (h : Q (.bool (decide (w % 8 ≠ 5 ∧ w % 8 ≠ 6))) H) : Cal W A (.ref 126) [.int w] H Q := by
  refine Cal_K1 (x := "word") k a (by k_is) (by k_is) fun L A' a' => ?_
  refine Ex_cons (Ex_assign (Ev_mod (Ev_name rfl (E_TAGS k ⟨_, _, rfl, rfl, by decide, ?_⟩))))
  refine Ex_cons (Ex_ret (Ev_and2 (Ev_cmp (Ev_name rfl (E_HEADER k (cmp_ne ⟨_, rfl, fun e => ?_, fun e => ?_⟩))))))
  · refine Ev_cmp (Ev_name rfl (E_FORWARD k (cmp_ne ?_)))
    have e1 : ¬ w % 8 = 5 := by simpa using e
    show Q _ H
    have : (!decide (w % 8 = 6)) = decide (w % 8 ≠ 5 ∧ w % 8 ≠ 6) := by simp [e1]
    rw [this]; exact h
  · have e1 : w % 8 = 5 := by simpa using e
    show Q _ H
    have : false = decide (w % 8 ≠ 5 ∧ w % 8 ≠ 6) := by simp [e1]
    rw [this]; exact h
theorem c_header (k : PK W) (a : AOk A (n + 1)) {kd ln : Int} (h : Q (.int ((ln * 16 + kd) * 8 + 5)) H) : Cal W A (.ref 77) [.int kd, .int ln] H Q :=
  Cal_K2 (x := "kind") (y := "length") k a (by k_is) (by k_is) fun L A' a' => Ex_cons (Ex_ret (Ev_add (Ev_mul (Ev_add (Ev_mul (Ev_name rfl (E_KINDS k ⟨_, _, rfl, rfl, by decide, Ev_name rfl ⟨_, _, rfl, rfl, E_TAGS k ⟨_, _, rfl, rfl, by decide, E_HEADER k ⟨_, _, rfl, rfl, h⟩⟩⟩⟩)))))))
theorem E_payload {p1 pos : Pos} {e : Expr} (k : PK W) (a : AOk A n) (h : Ev W A env (eval e env) μ H fun x H₁ => ∃ w : Int, x = .int w ∧ Q (.int (w / 8)) H₁) (hn : 1 ≤ n := by omega) (c : CShape env "payload_of" p1 pos e [] := by exact ⟨rfl, rfl, rfl, rfl, rfl, rfl⟩) :
    Ev W A env (eval (.Call (.Name (Str.ofString "payload_of") p1) [e] [] pos) env) μ H Q :=
  Ev_cf k (by k_is) (by k_is) (Evs_cons (h.mono fun x H₁ ⟨w, e, q⟩ => by subst e; exact Evs_nil (c_payload k (a.le (m := 0 + 1) hn) q)) c.2.1) c.1 c.2.1 c.2.2.1 c.2.2.2.1 c.2.2.2.2.1 c.2.2.2.2.2
theorem E_fix {p1 pos : Pos} {e : Expr} (k : PK W) (a : AOk A n) (h : Ev W A env (eval e env) μ H fun x H₁ => ∃ w : Int, x = .int w ∧ Q (.int (w * 8 + 0)) H₁) (hn : 1 ≤ n := by omega) (c : CShape env "fix" p1 pos e [] := by exact ⟨rfl, rfl, rfl, rfl, rfl, rfl⟩) :
    Ev W A env (eval (.Call (.Name (Str.ofString "fix") p1) [e] [] pos) env) μ H Q :=
  Ev_cf k (by k_is) (by k_is) (Evs_cons (h.mono fun x H₁ ⟨w, e, q⟩ => by subst e; exact Evs_nil (c_fix k (a.le (m := 0 + 1) hn) q)) c.2.1) c.1 c.2.1 c.2.2.1 c.2.2.2.1 c.2.2.2.2.1 c.2.2.2.2.2
theorem E_ref {p1 pos : Pos} {e : Expr} (k : PK W) (a : AOk A n) (h : Ev W A env (eval e env) μ H fun x H₁ => ∃ w : Int, x = .int w ∧ Q (.int (w * 8 + 1)) H₁) (hn : 1 ≤ n := by omega) (c : CShape env "ref" p1 pos e [] := by exact ⟨rfl, rfl, rfl, rfl, rfl, rfl⟩) :
    Ev W A env (eval (.Call (.Name (Str.ofString "ref") p1) [e] [] pos) env) μ H Q :=
  Ev_cf k (by k_is) (by k_is) (Evs_cons (h.mono fun x H₁ ⟨w, e, q⟩ => by subst e; exact Evs_nil (c_ref k (a.le (m := 0 + 1) hn) q)) c.2.1) c.1 c.2.1 c.2.2.1 c.2.2.2.1 c.2.2.2.2.1 c.2.2.2.2.2
theorem E_char {p1 pos : Pos} {e : Expr} (k : PK W) (a : AOk A n) (h : Ev W A env (eval e env) μ H fun x H₁ => ∃ w : Int, x = .int w ∧ Q (.int (w * 8 + 2)) H₁) (hn : 1 ≤ n := by omega) (c : CShape env "char_word" p1 pos e [] := by exact ⟨rfl, rfl, rfl, rfl, rfl, rfl⟩) :
    Ev W A env (eval (.Call (.Name (Str.ofString "char_word") p1) [e] [] pos) env) μ H Q :=
  Ev_cf k (by k_is) (by k_is) (Evs_cons (h.mono fun x H₁ ⟨w, e, q⟩ => by subst e; exact Evs_nil (c_char k (a.le (m := 0 + 1) hn) q)) c.2.1) c.1 c.2.1 c.2.2.1 c.2.2.2.1 c.2.2.2.2.1 c.2.2.2.2.2
theorem E_isRef {p1 pos : Pos} {e : Expr} (k : PK W) (a : AOk A n) (h : Ev W A env (eval e env) μ H fun x H₁ => ∃ w : Int, x = .int w ∧ Q (.bool (decide (w % 8 = 1))) H₁) (hn : 1 ≤ n := by omega) (c : CShape env "is_ref" p1 pos e [] := by exact ⟨rfl, rfl, rfl, rfl, rfl, rfl⟩) :
    Ev W A env (eval (.Call (.Name (Str.ofString "is_ref") p1) [e] [] pos) env) μ H Q :=
  Ev_cf k (by k_is) (by k_is) (Evs_cons (h.mono fun x H₁ ⟨w, e, q⟩ => by subst e; exact Evs_nil (c_isRef k (a.le (m := 0 + 1) hn) q)) c.2.1) c.1 c.2.1 c.2.2.1 c.2.2.2.1 c.2.2.2.2.1 c.2.2.2.2.2
theorem E_isHdr {p1 pos : Pos} {e : Expr} (k : PK W) (a : AOk A n) (h : Ev W A env (eval e env) μ H fun x H₁ => ∃ w : Int, x = .int w ∧ Q (.bool (decide (w % 8 = 5))) H₁) (hn : 1 ≤ n := by omega) (c : CShape env "is_header" p1 pos e [] := by exact ⟨rfl, rfl, rfl, rfl, rfl, rfl⟩) :
    Ev W A env (eval (.Call (.Name (Str.ofString "is_header") p1) [e] [] pos) env) μ H Q :=
  Ev_cf k (by k_is) (by k_is) (Evs_cons (h.mono fun x H₁ ⟨w, e, q⟩ => by subst e; exact Evs_nil (c_isHdr k (a.le (m := 0 + 1) hn) q)) c.2.1) c.1 c.2.1 c.2.2.1 c.2.2.2.1 c.2.2.2.2.1 c.2.2.2.2.2
theorem E_isFwd {p1 pos : Pos} {e : Expr} (k : PK W) (a : AOk A n) (h : Ev W A env (eval e env) μ H fun x H₁ => ∃ w : Int, x = .int w ∧ Q (.bool (decide (w % 8 = 6))) H₁) (hn : 1 ≤ n := by omega) (c : CShape env "is_forward" p1 pos e [] := by exact ⟨rfl, rfl, rfl, rfl, rfl, rfl⟩) :
    Ev W A env (eval (.Call (.Name (Str.ofString "is_forward") p1) [e] [] pos) env) μ H Q :=
  Ev_cf k (by k_is) (by k_is) (Evs_cons (h.mono fun x H₁ ⟨w, e, q⟩ => by subst e; exact Evs_nil (c_isFwd k (a.le (m := 0 + 1) hn) q)) c.2.1) c.1 c.2.1 c.2.2.1 c.2.2.2.1 c.2.2.2.2.1 c.2.2.2.2.2
theorem E_kind {p1 pos : Pos} {e : Expr} (k : PK W) (a : AOk A n) (h : Ev W A env (eval e env) μ H fun x H₁ => ∃ w : Int, x = .int w ∧ Q (.int (w / 8 % 16)) H₁) (hn : 1 ≤ n := by omega) (c : CShape env "header_kind" p1 pos e [] := by exact ⟨rfl, rfl, rfl, rfl, rfl, rfl⟩) :
    Ev W A env (eval (.Call (.Name (Str.ofString "header_kind") p1) [e] [] pos) env) μ H Q :=
  Ev_cf k (by k_is) (by k_is) (Evs_cons (h.mono fun x H₁ ⟨w, e, q⟩ => by subst e; exact Evs_nil (c_kind k (a.le (m := 0 + 1) hn) q)) c.2.1) c.1 c.2.1 c.2.2.1 c.2.2.2.1 c.2.2.2.2.1 c.2.2.2.2.2
theorem E_length {p1 pos : Pos} {e : Expr} (k : PK W) (a : AOk A n) (h : Ev W A env (eval e env) μ H fun x H₁ => ∃ w : Int, x = .int w ∧ Q (.int (w / 8 / 16)) H₁) (hn : 1 ≤ n := by omega) (c : CShape env "header_length" p1 pos e [] := by exact ⟨rfl, rfl, rfl, rfl, rfl, rfl⟩) :
    Ev W A env (eval (.Call (.Name (Str.ofString "header_length") p1) [e] [] pos) env) μ H Q :=
  Ev_cf k (by k_is) (by k_is) (Evs_cons (h.mono fun x H₁ ⟨w, e, q⟩ => by subst e; exact Evs_nil (c_length k (a.le (m := 0 + 1) hn) q)) c.2.1) c.1 c.2.1 c.2.2.1 c.2.2.2.1 c.2.2.2.2.1 c.2.2.2.2.2
theorem E_isVal {p1 pos : Pos} {e : Expr} (k : PK W) (a : AOk A n) (h : Ev W A env (eval e env) μ H fun x H₁ => ∃ w : Int, x = .int w ∧ Q (.bool (decide (w % 8 ≠ 5 ∧ w % 8 ≠ 6))) H₁) (hn : 1 ≤ n := by omega) (c : CShape env "is_value_word" p1 pos e [] := by exact ⟨rfl, rfl, rfl, rfl, rfl, rfl⟩) :
    Ev W A env (eval (.Call (.Name (Str.ofString "is_value_word") p1) [e] [] pos) env) μ H Q :=
  Ev_cf k (by k_is) (by k_is) (Evs_cons (h.mono fun x H₁ ⟨w, e, q⟩ => by subst e; exact Evs_nil (c_isVal k (a.le (m := 0 + 1) hn) q)) c.2.1) c.1 c.2.1 c.2.2.1 c.2.2.2.1 c.2.2.2.2.1 c.2.2.2.2.2
end
end Mine

-- F2
namespace Mine

/-- all but X stands as it was -/
def Keep (X : List Addr) (H H' : AH) : Prop := ∀ a o, a ∉ X → H a = some o → H' a = some o
theorem Keep.refl {X : List Addr} {H : AH} : Keep X H H := fun _ _ _ e => e
theorem Keep.trans {X : List Addr} {H H' H'' : AH} (h : Keep X H H') (h' : Keep X H' H'') : Keep X H H'' := fun a o x e => h' a o x (h a o x e)
theorem Keep.set {X : List Addr} {H : AH} {a : Addr} {o : AO} (h : a ∈ X) : Keep X H (H.set a o) := fun b o' x e => by
  rw [AH.set_ne _ _ (by rintro rfl; exact x h)]; exact e
theorem Keep.new {X : List Addr} {H : AH} {a : Addr} {o : AO} (h : H a = none) : Keep X H (H.set a o) := fun b o' x e => by
  rw [AH.set_ne _ _ (by rintro rfl; rw [h] at e; cases e)]; exact e
theorem Keep.mono {X Y : List Addr} {H H' : AH} (h : Keep X H H') (l : ∀ a ∈ X, a ∈ Y) : Keep Y H H' := fun a o x e => h a o (fun q => x (l a q)) e
theorem Keep.ext {X : List Addr} {H H' : AH} (h : Keep [] H H') : Keep X H H' := h.mono (by simp)
theorem Keep.at {X : List Addr} {H H' : AH} (h : Keep X H H') {a : Addr} {o : AO} (e : H a = some o) (x : a ∉ X := by simp) : H' a = some o := h a o x e

section
variable {W : Wo} {A : Around} {env : Env} {μ : Mu} {H : AH} {n : Nat} {Q : AV → AH → Prop}

theorem Evb_chain2 {l op₁ op₂ r₁ r₂ pos whole} {Q} (h : Ev W A env (eval l env) μ H fun a H₁ => Ev W A env (eval r₁ env) μ H₁ fun b H₂ => CmpT W A env op₁ a b μ H₂ fun c H₃ =>
      (c = true → Ev W A env (eval r₂ env) μ H₃ fun d H₄ => CmpT W A env op₂ b d μ H₄ Q) ∧ (c = false → Q false H₃))
    (hm : lastMarks (op₁ :: op₂ :: []) (r₁ :: r₂ :: []) = false := by with_unfolding_all rfl) : Evb W A env (isTrue (.Compare l [op₁, op₂] [r₁, r₂] pos) env whole) μ H Q := .mk fun R s r =>
  isTrue_chain (wpAny_mono (h.run R s r) (fun v s₁ ⟨_, r₁, q⟩ => test_link (wpAny_mono (q.run R s₁ r₁) (fun u s₂ ⟨_, r₂, q'⟩ =>
    wpAny_mono ((q' v u rfl rfl).run R s₂ r₂) (fun _ s₃ ⟨H₃, r₃, c, e, q₃⟩ => by
      subst e
      refine wpAny_truthy_bool ?_
      cases c with
      | false => exact ⟨H₃, r₃, q₃.2 rfl⟩
      | true => exact test_last (wpAny_mono ((q₃.1 rfl).run R s₃ r₃) (fun w s₄ ⟨_, r₄, q₄⟩ => wpAny_mono ((q₄ u w rfl rfl).run R s₄ r₄) (fun _ s₅ ⟨H₅, r₅, c', e', q₅⟩ => by
          subst e'; exact wpAny_truthy_bool ⟨H₅, r₅, q₅⟩) fun _ _ x => x) fun _ _ x => x)) fun _ _ x => x) fun _ _ x => x)) fun _ _ x => x) hm

abbrev BName (env : Env) (x : String) : Prop := env.globals = mainGlobals ∧ env.builtins = builtinsNs ∧ env.kindOf (Str.ofString x) = some .globalImplicit ∧ env.scope.kind = .function
abbrev BShape (env : Env) (x : String) (p1 pos : Pos) (e : Expr) (rest : List Expr) : Prop :=
  (eval (.Call (.Name (Str.ofString x) p1) (e :: rest) [] pos) env = (do callWith pos (← eval (.Name (Str.ofString x) p1) env) [] (backTo pos (starEach (e :: rest) env)) (backToKw pos (keywordEach [] env)))) ∧
  starEach (e :: rest) env = (false, eval e env) :: starEach rest env ∧ (backTo pos (starEach rest env)).any (·.1) = false ∧ BName env x
theorem E_len {p1 pos : Pos} {e : Expr} (k : PK W) (h : Ev W A env (eval e env) μ H fun x H₁ => ∃ l xs, x = .ref l ∧ H₁ l = some (.list xs) ∧ xs.length ≤ 1000000 ∧ Q (.int xs.length) H₁) (c : BShape env "len" p1 pos e [] := by exact ⟨rfl, rfl, rfl, rfl, rfl, rfl, rfl⟩) :
    Ev W A env (eval (.Call (.Name (Str.ofString "len") p1) [e] [] pos) env) μ H Q :=
  Ev_cb k (by k_is) rfl (Evs_cons (h.mono fun x H₁ ⟨l, xs, e, h1, h2, q⟩ => by subst e; exact Evs_nil (call_len h1 h2 q)) c.2.1) (by decide) c.1 c.2.1 c.2.2.1 c.2.2.2.1 c.2.2.2.2.1 c.2.2.2.2.2.1 c.2.2.2.2.2.2
theorem E_range1 {p1 pos : Pos} {e : Expr} (k : PK W) (h : Ev W A env (eval e env) μ H fun x H₁ => ∃ i : Int, x = .int i ∧ ∀ d, H₁ d = none → Q (.ref d) (H₁.set d (.range 0 i))) (c : BShape env "range" p1 pos e [] := by exact ⟨rfl, rfl, rfl, rfl, rfl, rfl, rfl⟩) :
    Ev W A env (eval (.Call (.Name (Str.ofString "range") p1) [e] [] pos) env) μ H Q :=
  Ev_ct k (by k_is) rfl (Evs_cons (h.mono fun x H₁ ⟨i, e, q⟩ => by subst e; exact Evs_nil (call_range1 q)) c.2.1) (by decide) c.1 c.2.1 c.2.2.1 c.2.2.2.1 c.2.2.2.2.1 c.2.2.2.2.2.1 c.2.2.2.2.2.2
theorem E_range2 {p1 pos : Pos} {e e' : Expr} (k : PK W) (h : Ev W A env (eval e env) μ H fun x H₁ => Ev W A env (eval e' env) μ H₁ fun y H₂ => ∃ i j : Int, x = .int i ∧ y = .int j ∧ ∀ d, H₂ d = none → Q (.ref d) (H₂.set d (.range i j)))
    (c : BShape env "range" p1 pos e [e'] := by exact ⟨rfl, rfl, rfl, rfl, rfl, rfl, rfl⟩) (c' : starEach [e'] env = (false, eval e' env) :: starEach [] env := by rfl) :
    Ev W A env (eval (.Call (.Name (Str.ofString "range") p1) [e, e'] [] pos) env) μ H Q :=
  Ev_ct k (by k_is) rfl (Evs_cons (h.mono fun x H₁ h => Evs_cons (h.mono fun y H₂ ⟨i, j, e, e', q⟩ => by subst e e'; exact Evs_nil (call_range2 q)) c') c.2.1) (by decide) c.1 c.2.1 c.2.2.1 c.2.2.2.1 c.2.2.2.2.1 c.2.2.2.2.2.1 c.2.2.2.2.2.2
/-- an item of a list at a place -/
theorem E_item {value slice : Expr} {pos : Pos} (h : Ev W A env (eval value env) μ H fun a H₁ => Ev W A env (eval slice env) μ H₁ fun b H₂ => ∃ l xs, ∃ i : Int, a = .ref l ∧ H₂ l = some (.list xs) ∧ b = .int i ∧ 0 ≤ i ∧ i < 2 ^ 63 ∧ ∃ x, xs[i.toNat]? = some x ∧ Q x H₂)
    (hs : ∀ l k u, subscripted slice false (.ref l) (.int k u) = operate [.ref l, .int k u] (getItem (.ref l) (.int k u)) := by intro _ _ _; with_unfolding_all rfl) :
    Ev W A env (eval (.Subscript value slice pos) env) μ H Q :=
  Ev_sub2 (h.mono fun a H₁ h => h.mono fun b H₂ ⟨l, xs, i, e, hl, e', h0, h1, x, hx, q⟩ => by subst e e'; exact tail_list hl h0 h1 hx q (hs l i))


/-- a slice of a list that any expression gives -/
theorem Ev_sliceR {value : Expr} {lower upper : Option Expr} {p pos : Pos} {Q} (xs : List AV)
    (h : Ev W A env (eval value env) μ H fun a H₁ => EvG W A env (fun v => v) (evalPart lower env) μ H₁ fun vl H₂ => EvG W A env (fun v => v) (evalPart upper env) μ H₂ fun vu H₃ =>
      ∃ l ys lo hi, a = .ref l ∧ H₃ l = some (.list ys) ∧ ys.length ≤ 1000000 ∧ IsPart vl lo ∧ IsPart vu hi ∧ (∀ zs : Array Value, zs.toList.map ab = ys → (slicePick zs lo hi none).toList.map ab = xs) ∧ ∀ b, H₃ b = none → Q (.ref b) (H₃.set b (.list xs))) :
    Ev W A env (eval (.Subscript value (.Slice lower upper none p) pos) env) μ H Q := by
  refine .mk fun R s r => ?_
  refine Subscript_ (wpAny_mono (h.run R s r) (fun v s₁ ⟨_, r₁, q₁⟩ => wpAny_Slice (wpAny_mono (q₁.run R s₁ r₁) (fun vl s₂ ⟨_, r₂, q₂⟩ => wpAny_mono (q₂.run R s₂ r₂) (fun vu s₃ ⟨_, r₃, q₃⟩ => ?_) fun _ _ x => x) fun _ _ x => x)) fun _ _ x => x)
  obtain ⟨l, ys, lo, hi, e, hl, hn, pl, pu, hp, hq⟩ := q₃
  cases ab_ref e
  obtain ⟨vs, n, ho, hm⟩ := listAt r₃ hl
  rw [evalPart_none]
  refine wpAny_pure ?_
  have hz0 : vs.size ≤ sizeLine := by
    have : vs.size = ys.length := by rw [← hm]; simp
    rw [this]; exact Nat.le_trans hn (by decide)
  have r₄ := r₃.push0 (o := { cls := .type "slice", data := .fields #[vl, vu, .none] })
  have r₅ := r₄.push (o := { cls := .type "list", data := .seq (slicePick vs lo hi none) }) rfl (x := .list xs) ⟨_, 0, rfl, hp vs hm⟩
  have hz := r₄.isNone
  simp only [Heap.size_push] at r₅ hz
  have hL := (isList_of ho).push { cls := .type "slice", data := .fields #[vl, vu, .none] }
  have hT := Heap.IsList.typeIs (s := { s₃ with heap := s₃.heap.push { cls := .type "slice", data := .fields #[vl, vu, .none] } }) hL
  unfold subscriptTail
  refine wpAny_bind ?_
  rw [getitemInPython_of_ne hT.not_modules]
  refine wpAny_bind (wpAny_specialOf hT list_getitem_lookup ?_)
  have fin : wpAny W.M A (operate [.ref s₃.heap.objs.size, .ref l] (getItem (.ref l) (.ref s₃.heap.objs.size))) (fun r s₄ => wpAny W.M A (letTemporaryGo value (.ref l) r >>= fun _ => pure r) (fun v s' => ∃ H', Rep W env R μ H' s' ∧ Q (ab v) H') (fun _ _ => False) s₄) (fun _ _ => False)
      { s₃ with heap := s₃.heap.push { cls := .type "slice", data := .fields #[vl, vu, .none] } } := by
    refine wpAny_operating (wpAny_getItem_list_slice hL (Heap.IsSliceOf.new ..) pl pu .none (by simp) ?_ hz0)
    rw [Heap.size_push]
    exact wpAny_bind (wpAny_letTemporaryGo (wpAny_pure ⟨_, r₅, hq _ hz⟩))
  first
    | exact wpAny_pure (wpAny_bind fin)
    | exact wpAny_bind (wpAny_pure (wpAny_bind fin))
    | exact wpAny_bind fin

/-! ### the heap's methods -/
def HeapAt (H : AH) (s c : Addr) (cs : List Int) : Prop := IsHeap H s 900 c ∧ H c = some (.list (iL cs)) ∧ cs.length ≤ 1000
theorem HeapAt.len {s c : Addr} {cs : List Int} (h : HeapAt H s c cs) : (iL cs).length ≤ 1000000 := by
  have := h.2.2; simp; omega
theorem iL_get {cs : List Int} {i : Nat} {x : Int} (h : cs[i]? = some x) : (iL cs)[i]? = some (.int x) := by simp [h]
theorem lt_len {cs : List Int} {i : Nat} {x : Int} (h : cs[i]? = some x) : i < cs.length := (List.getElem?_eq_some_iff.mp h).1

theorem c_used (k : PK W) (a : AOk A (n + 1)) {s c : Addr} {cs : List Int} (hh : HeapAt H s c cs) (q : Q (.int cs.length) H) : Cal W A (.ref 147) [.ref s] H Q :=
  Cal_K1 (x := "self") k a (by k_is) (by k_is) fun L A' a' => Ex_cons (Ex_ret (E_len k (Ev_cells k (Ev_name rfl ⟨s, 900, c, rfl, hh.1, c, _, rfl, hh.2.1, hh.len, by rw [List.length_map]; exact q⟩))))

/-- o.cells[slice] -/
theorem E_hcell {o slice : Expr} {apos pos : Pos} (k : PK W) (h : Ev W A env (eval o env) μ H fun a H₁ => ∃ s lim c, a = .ref s ∧ IsHeap H₁ s lim c ∧ Ev W A env (eval slice env) μ H₁ fun b H₂ => ∃ cs, ∃ i : Int, ∃ x, H₂ c = some (.list (iL cs)) ∧ b = .int i ∧ 0 ≤ i ∧ cs.length ≤ 1000 ∧ cs[i.toNat]? = some x ∧ Q (.int x) H₂)
    (he : eval (.Attribute o (Str.ofString "cells") apos) env = (do
      let ov ← eval o env
      standAt apos.atName
      let r ← holding [ov] (getAttr ov (Str.ofString "cells") true)
      letTemporaryGo o ov r
      pure r) := by with_unfolding_all rfl)
    (hs : ∀ l k u, subscripted slice false (.ref l) (.int k u) = operate [.ref l, .int k u] (getItem (.ref l) (.int k u)) := by intro _ _ _; with_unfolding_all rfl) :
    Ev W A env (eval (.Subscript (.Attribute o (Str.ofString "cells") apos) slice pos) env) μ H Q :=
  E_item (Ev_cells k (h.mono fun a H₁ ⟨s, lim, c, e, ih, h⟩ => ⟨s, lim, c, e, ih, h.mono fun b H₂ ⟨cs, i, x, hc, e, h0, hl, hx, q⟩ => by
    have := lt_len hx
    exact ⟨c, _, i, rfl, hc, e, h0, by omega, _, iL_get hx, q⟩⟩) he) hs

theorem c_headerAt (k : PK W) (a : AOk A (n + 2)) {s c : Addr} {cs : List Int} (hh : HeapAt H s c cs) {w h : Int} (h1 : w % 8 = 1) (h0 : 0 ≤ w) (hx : cs[(w / 8).toNat]? = some h) (h5 : h % 8 = 5) (q : Q (.int h) H) : Cal W A (.ref 168) [.ref s, .int w] H Q := by
  refine Cal_K2 (x := "self") (y := "word") k a (by k_is) (by k_is) fun L A' a' => ?_
  have hlt := lt_len hx
  have hl := hh.2.2
  have w0 : 0 ≤ w / 8 := by omega
  refine Ex_cons (Ex_if (Evb_not (Evb_val (E_isRef k a' (Ev_name rfl ⟨_, rfl, _, rfl, ?_⟩)))))
  refine ⟨fun e => by simp [h1] at e, fun _ => Ex_nil ?_⟩
  refine Ex_cons (Ex_assign (E_payload k a' (Ev_name rfl ⟨_, rfl, ?_⟩)))
  refine Ex_cons <| Ex_if <| Evb_bool <| Evb_or_cons <| Evb_not <| Evb_chain2 <| Ev_int <| Ev_name rfl <| cmp_le ⟨fun _ => E_len k <| Ev_cells k <| Ev_name rfl ⟨s, 900, c, rfl, hh.1, c, _, rfl, hh.2.1, hh.len, cmp_lt ?_⟩, fun e => ?_⟩
  · refine ⟨fun _ => Evb_or_cons <| Evb_not <| Evb_val <| E_isHdr k a' <| E_hcell k <| Ev_name rfl ⟨s, 900, c, rfl, hh.1, Ev_name rfl ⟨cs, _, h, hh.2.1, rfl, w0, hl, hx, _, rfl, _, rfl, fun _ => Evb_or_nil ?_, fun e => ?_⟩⟩, fun e => ?_⟩
    · refine ⟨fun e => by simp at e, fun _ => Ex_nil ?_⟩
      exact Ex_cons <| Ex_ret <| E_hcell k <| Ev_name rfl ⟨s, 900, c, rfl, hh.1, Ev_name rfl ⟨cs, _, h, hh.2.1, rfl, w0, hl, hx, q⟩⟩
    · simp [h5] at e
    · simp only [List.length_map, Bool.not_eq_true', decide_eq_false_iff_not] at e
      omega
  · have : ¬ (0 : Int) ≤ w / 8 := by simpa using e
    omega

theorem c_kindOf (k : PK W) (a : AOk A (n + 3)) {s c : Addr} {cs : List Int} (hh : HeapAt H s c cs) {w h : Int} (h1 : w % 8 = 1) (h0 : 0 ≤ w) (hx : cs[(w / 8).toNat]? = some h) (h5 : h % 8 = 5) (q : Q (.int (h / 8 % 16)) H) : Cal W A (.ref 175) [.ref s, .int w] H Q :=
  Cal_K2 (x := "self") (y := "word") k a (by k_is) (by k_is) fun L A' a' =>
  Ex_cons <| Ex_ret <| E_kind k a' <| Ev_cm k (by k_is) (by k_is) (by k_is) rfl <| Ev_name rfl ⟨s, 900, c, rfl, hh.1, Evs_cons <| Ev_name rfl <| Evs_nil <| c_headerAt k a' hh h1 h0 hx h5 ⟨_, rfl, q⟩⟩
theorem c_lengthOf (k : PK W) (a : AOk A (n + 3)) {s c : Addr} {cs : List Int} (hh : HeapAt H s c cs) {w h : Int} (h1 : w % 8 = 1) (h0 : 0 ≤ w) (hx : cs[(w / 8).toNat]? = some h) (h5 : h % 8 = 5) (q : Q (.int (h / 8 / 16)) H) : Cal W A (.ref 182) [.ref s, .int w] H Q :=
  Cal_K2 (x := "self") (y := "word") k a (by k_is) (by k_is) fun L A' a' =>
  Ex_cons <| Ex_ret <| E_length k a' <| Ev_cm k (by k_is) (by k_is) (by k_is) rfl <| Ev_name rfl ⟨s, 900, c, rfl, hh.1, Evs_cons <| Ev_name rfl <| Evs_nil <| c_headerAt k a' hh h1 h0 hx h5 ⟨_, rfl, q⟩⟩
theorem c_placeOf (k : PK W) (a : AOk A (n + 3)) {s c : Addr} {cs : List Int} (hh : HeapAt H s c cs) {w h p : Int} (h1 : w % 8 = 1) (h0 : 0 ≤ w) (hx : cs[(w / 8).toNat]? = some h) (h5 : h % 8 = 5) (p0 : 0 ≤ p) (p1 : p < h / 8 / 16) (q : Q (.int (w / 8 + 1 + p)) H) : Cal W A (.ref 196) [.ref s, .int w, .int p] H Q := by
  refine Cal_K3 (x := "self") (y := "word") (z := "at") k a (by k_is) (by k_is) fun L A' a' => ?_
  refine Ex_cons <| Ex_if <| Evb_not <| Evb_chain2 <| Ev_int <| Ev_name rfl <| cmp_le ⟨fun _ => E_length k a' <| Ev_cm k (by k_is) (by k_is) (by k_is) rfl <| Ev_name rfl ⟨s, 900, c, rfl, hh.1, Evs_cons <| Ev_name rfl <| Evs_nil <| c_headerAt k a' hh h1 h0 hx h5 ⟨_, rfl, cmp_lt ⟨fun e => ?_, fun _ => Ex_nil ?_⟩⟩⟩, fun e => ?_⟩
  · simp only [Bool.not_eq_true', decide_eq_false_iff_not] at e
    omega
  · exact Ex_cons <| Ex_ret <| Ev_add <| Ev_add <| E_payload k a' <| Ev_name rfl ⟨_, rfl, Ev_int ⟨_, _, rfl, rfl, Ev_name rfl ⟨_, _, rfl, rfl, q⟩⟩⟩
  · have : ¬ (0 : Int) ≤ p := by simpa using e
    omega
theorem c_field (k : PK W) (a : AOk A (n + 4)) {s c : Addr} {cs : List Int} (hh : HeapAt H s c cs) {w h p x : Int} (h1 : w % 8 = 1) (h0 : 0 ≤ w) (hx : cs[(w / 8).toNat]? = some h) (h5 : h % 8 = 5) (p0 : 0 ≤ p) (p1 : p < h / 8 / 16) (hf : cs[(w / 8 + 1 + p).toNat]? = some x) (q : Q (.int x) H) : Cal W A (.ref 203) [.ref s, .int w, .int p] H Q :=
  Cal_K3 (x := "self") (y := "word") (z := "at") k a (by k_is) (by k_is) fun L A' a' =>
  Ex_cons <| Ex_ret <| E_hcell k <| Ev_name rfl ⟨s, 900, c, rfl, hh.1, Ev_cm k (by k_is) (by k_is) (by k_is) rfl <| Ev_name rfl ⟨s, 900, c, rfl, hh.1, Evs_cons <| Ev_name rfl <| Evs_cons <| Ev_name rfl <| Evs_nil <| c_placeOf k a' hh h1 h0 hx h5 p0 p1 ⟨cs, _, x, hh.2.1, rfl, by omega, hh.2.2, hf, q⟩⟩⟩
theorem iL_set {cs : List Int} {i : Nat} {x : Int} : (iL cs).set i (.int x) = iL (cs.set i x) := by simp [List.map_set]
theorem c_setField (k : PK W) (a : AOk A (n + 4)) {s c : Addr} {cs : List Int} (hh : HeapAt H s c cs) {w h p x : Int} (h1 : w % 8 = 1) (h0 : 0 ≤ w) (hx : cs[(w / 8).toNat]? = some h) (h5 : h % 8 = 5) (p0 : 0 ≤ p) (p1 : p < h / 8 / 16) (hf : (w / 8 + 1 + p).toNat < cs.length) (q : Q .none (H.set c (.list (iL (cs.set (w / 8 + 1 + p).toNat x))))) : Cal W A (.ref 210) [.ref s, .int w, .int p, .int x] H Q :=
  Cal_K4 (x := "self") (y := "word") (z := "at") (t := "new") k a (by k_is) (by k_is) fun L A' a' =>
  Ex_cons <| Ex_assignSub <| Ev_name rfl <| Ev_cells k <| Ev_name rfl ⟨s, 900, c, rfl, hh.1, Ev_cm k (by k_is) (by k_is) (by k_is) rfl <| Ev_name rfl ⟨s, 900, c, rfl, hh.1, Evs_cons <| Ev_name rfl <| Evs_cons <| Ev_name rfl <| Evs_nil <| c_placeOf k a' hh h1 h0 hx h5 p0 p1 fun v u y hv hu hy => by
    have hl := hh.2.2
    refine set_list hv hu hh.2.1 (by omega) (by omega) (by simp; omega) (Ex_nil ?_)
    rw [hy, iL_set]
    exact q⟩⟩
theorem c_fields (k : PK W) (a : AOk A (n + 3)) {s c : Addr} {cs : List Int} (hh : HeapAt H s c cs) {w h : Int} (h1 : w % 8 = 1) (h0 : 0 ≤ w) (hx : cs[(w / 8).toNat]? = some h) (h5 : h % 8 = 5) (p0 : 0 ≤ h) (hf : (w / 8 + 1 + h / 8 / 16).toNat ≤ cs.length)
    (q : ∀ b, H b = none → Q (.ref b) (H.set b (.list (iL ((cs.drop (w / 8 + 1).toNat).take (h / 8 / 16).toNat))))) : Cal W A (.ref 217) [.ref s, .int w] H Q := by
  refine Cal_K2 (x := "self") (y := "word") k a (by k_is) (by k_is) fun L A' a' => ?_
  have hl := hh.2.2
  refine Ex_cons <| Ex_assign <| Ev_add <| E_payload k a' <| Ev_name rfl ⟨_, rfl, Ev_int ⟨_, _, rfl, rfl, ?_⟩⟩
  refine Ex_cons <| Ex_ret <| Ev_sliceR (iL ((cs.drop (w / 8 + 1).toNat).take (h / 8 / 16).toNat)) <| Ev_cells k <| Ev_name rfl ⟨s, 900, c, rfl, hh.1, part_some <| Ev_name rfl ⟨_, rfl, fun t1 => part_some <| Ev_add <| Ev_name rfl <| E_length k a' <|
    Ev_cm k (by k_is) (by k_is) (by k_is) rfl <| Ev_name rfl ⟨s, 900, c, rfl, hh.1, Evs_cons <| Ev_name rfl <| Evs_nil <| c_headerAt k a' hh h1 h0 hx h5 ⟨_, rfl, _, _, rfl, rfl, _, rfl, fun t2 => ⟨c, iL cs, _, _, rfl, hh.2.1, hh.len, .int _ _, .int _ _, fun zs hz => ?_, q⟩⟩⟩⟩⟩
  have e1 : w / 8 + 1 = ((w / 8 + 1).toNat : Int) := by omega
  have e2 : w / 8 + 1 + h / 8 / 16 = ((w / 8 + 1 + h / 8 / 16).toNat : Int) := by omega
  have := pick_run (a := (w / 8 + 1).toNat) (b := (w / 8 + 1 + h / 8 / 16).toNat) hz (by simpa using hf) (by omega)
  rw [← e1, ← e2] at this
  rw [this, show (w / 8 + 1 + h / 8 / 16).toNat - (w / 8 + 1).toNat = (h / 8 / 16).toNat by omega]
  simp [List.map_take, List.map_drop]

theorem c_allocate (k : PK W) (a : AOk A (n + 2)) {s c fs : Addr} {cs xs : List Int} {kd : Int} (hh : HeapAt H s c cs) (hf : H fs = some (.list (iL xs))) (hne : fs ≠ c) (hl : cs.length + xs.length ≤ 999)
    (q : Q (.int ((cs.length : Int) * 8 + 1)) (H.set c (.list (iL (cs ++ (((xs.length : Int) * 16 + kd) * 8 + 5) :: xs))))) : Cal W A (.ref 161) [.ref s, .int kd, .ref fs] H Q := by
  obtain ⟨⟨d, i1, i2⟩, hc, hcl⟩ := hh
  have i3 := i1
  refine Cal_K3 (x := "self") (y := "kind") (z := "fields") k a (by k_is) (by k_is) fun L A' a' => ?_
  have hxl : (iL xs).length ≤ 1000000 := by simp; omega
  have hcl' : (iL cs).length ≤ 1000000 := by simp; omega
  have sc : s ≠ c := by rintro rfl; rw [hc] at i1; cases i1
  have dc : d ≠ c := by rintro rfl; rw [hc] at i2; cases i2
  refine Ex_cons <| Ex_assign <| E_len k <| Ev_cells k <| Ev_name rfl ⟨s, 900, c, rfl, ⟨d, i1, i2⟩, c, _, rfl, hc, hcl', ?_⟩
  refine Ex_cons <| Ex_expr <| Ev_lm PySem.F.slot_list_append rfl <| Ev_cells k <| Ev_name rfl ⟨s, 900, c, rfl, ⟨d, i1, i2⟩, c, _, rfl, hc, Evs_cons <| Ev_cf k (by k_is) (by k_is) <| Evs_cons <| Ev_name rfl <| Evs_cons <|
    E_len k <| Ev_name rfl ⟨fs, _, rfl, hf, hxl, Evs_nil <| c_header k a' <| Evs_nil <| call_append hc hcl' ?_⟩⟩
  have e1 : (H.set c (.list (iL cs ++ [AV.int (((((iL xs).length : Nat) : Int) * 16 + kd) * 8 + 5)]))) c = some (.list (iL (cs ++ [((xs.length : Int) * 16 + kd) * 8 + 5]))) := by
    rw [AH.set_self]; simp
  refine Ex_cons <| Ex_expr <| Ev_lm PySem.F.slot_list_extend rfl <| Ev_cells k <| Ev_name rfl ⟨s, 900, c, rfl, ⟨d, by rw [AH.set_ne _ _ sc]; exact i1, by rw [AH.set_ne _ _ dc]; exact i2⟩, c, _, rfl, e1, Evs_cons <| Ev_name rfl <| Evs_nil <|
    call_extend e1 (by rw [AH.set_ne _ _ hne]; exact hf) (by simp; omega) ?_⟩
  refine Ex_cons <| Ex_ret <| E_ref k a' <| Ev_name rfl ⟨_, rfl, ?_⟩
  have e2 : ((H.set c (.list (iL cs ++ [AV.int (((((iL xs).length : Nat) : Int) * 16 + kd) * 8 + 5)]))).set c (.list (iL (cs ++ [((xs.length : Int) * 16 + kd) * 8 + 5]) ++ iL xs))) = H.set c (.list (iL (cs ++ (((xs.length : Int) * 16 + kd) * 8 + 5) :: xs))) := by
    funext b
    by_cases h : b = c
    · subst h; simp
    · simp [AH.set_ne _ _ h]
  rw [e2, List.length_map]
  exact q

theorem c_init (k : PK W) (a : AOk A (n + 1)) {x d : Addr} {lim : Int} (hx : H x = some (.inst 227 d)) (hd : H d = some (.sdict []))
    (q : ∀ c H', H c = none → H' c = some (.list []) → IsHeap H' x lim c → Keep [d] H H' → Q .none H') : Cal W A (.ref 140) [.ref x, .int lim] H Q := by
  have xd : x ≠ d := by rintro rfl; rw [hd] at hx; cases hx
  refine Cal_K2 (x := "self") (y := "limit") k a (by k_is) (by k_is) fun L A' a' => ?_
  refine Ex_cons <| Ex_assignAttr <| Ev_name rfl <| Ev_name rfl fun v u hv hu => set_attr k.inK (clsHeap _) hv hx hd (by k_is) (by simp) ?_
  rw [hu]
  refine Ex_cons <| Ex_assignAttr <| Ev_list <| Evs_nil ⟨by simp, fun c hc => Ev_name rfl fun v u hv hu => ?_⟩
  have cx : x ≠ c := by rintro rfl; rw [AH.set_ne _ _ xd, hx] at hc; cases hc
  have cd : c ≠ d := by rintro rfl; rw [AH.set_self] at hc; cases hc
  have hd' : ((H.set d (.sdict (Mu.put (Str.ofString "limit") (.int lim) []))).set c (.list [])) d = some (.sdict (Mu.put (Str.ofString "limit") (.int lim) [])) := by rw [AH.set_ne _ _ (Ne.symm cd), AH.set_self]
  refine set_attr k.inK (clsHeap _) hv (by rw [AH.set_ne _ _ cx, AH.set_ne _ _ xd]; exact hx) hd' (by k_is) (by simp [Mu.put]) ?_
  rw [hu]
  refine Ex_nil (q c _ (by rw [AH.set_ne _ _ cd] at hc; exact hc) ?_ ⟨d, ?_, ?_⟩ ?_)
  · rw [AH.set_ne _ _ cd, AH.set_self]
  · rw [AH.set_ne _ _ xd, AH.set_ne _ _ cx, AH.set_ne _ _ xd]; exact hx
  · rw [AH.set_self]; rfl
  · exact ((Keep.set (by simp)).trans (Keep.new hc)).trans (Keep.set (by simp))
/-- Heap(900) -/
theorem c_newHeap (k : PK W) (a : AOk A (n + 2)) (q : ∀ s c H', Keep [] H H' → HeapAt H' s c [] → H c = none → Q (.ref s) H') : Cal W A (.ref 227) [.int 900] H Q :=
  Cal_new k.inK (by k_is) (by k_is) (by k_is) fun x d hd hx A' e1 e2 e3 => by
    have a' : AOk A' (n + 1) := ⟨e1.trans a.h, by rw [e2]; have := a.d; omega, by have := a.u; omega⟩
    have xd : x ≠ d := by rintro rfl; rw [AH.set_self] at hx; cases hx
    refine c_init k a' (by rw [AH.set_self]) (by rw [AH.set_ne _ _ (Ne.symm xd), AH.set_self]) fun c H' hc hc' hI hk => ⟨rfl, q x c H' ?_ ⟨hI, hc', by simp⟩ ?_⟩
    · intro b o _ e
      have bd : b ≠ d := by rintro rfl; rw [hd] at e; cases e
      refine hk b o (by simpa using bd) ?_
      have bx : b ≠ x := by rintro rfl; rw [AH.set_ne _ _ bd, e] at hx; cases hx
      rw [AH.set_ne _ _ bx, AH.set_ne _ _ bd]; exact e
    · have cx : c ≠ x := by rintro rfl; rw [AH.set_self] at hc; cases hc
      rw [AH.set_ne _ _ cx] at hc
      have cd : c ≠ d := by rintro rfl; rw [AH.set_self] at hc; cases hc
      rw [AH.set_ne _ _ cd] at hc
      exact hc
end
end Mine

-- P1
namespace Mine

/-! ### plain law: graphs of lists and their cells -/
structure Gr where
  kd : Addr → Int
  it : Addr → List AV
def Gr.sz (G : Gr) (l : Addr) : Nat := (G.it l).length + 1
def off (G : Gr) : List Addr → Addr → Nat
  | [], _ => 0
  | a :: r, l => if a = l then 0 else G.sz a + off G r l
def wd (f : Addr → Nat) : AV → Int
  | .int i => i
  | .ref l => (f l : Int) * 8 + 1
  | _ => 0
def hdr (G : Gr) (l : Addr) : Int := (((G.it l).length : Int) * 16 + G.kd l) * 8 + 5
def blk (G : Gr) (l : Addr) : List AV := .int (hdr G l) :: G.it l
def cellsA (G : Gr) (L : List Addr) : List AV := L.flatMap (blk G)
def cells (G : Gr) (L : List Addr) : List Int := (cellsA G L).map (wd (off G L))
/-- a plain word -/
def PW (w : Int) : Prop := w % 8 ≠ 1 ∧ w % 8 ≠ 5 ∧ w % 8 ≠ 6
def Item (L : List Addr) (x : AV) : Prop := (∃ i, x = .int i ∧ PW i) ∨ ∃ l, x = .ref l ∧ l ∈ L
def SizeOk (k : Int) (n : Nat) : Prop := (k = 0 ∧ n = 2) ∨ (k = 1 ∧ n ≤ 3) ∨ (k = 3 ∧ n ≤ 3) ∨ (k = 4 ∧ n = 1) ∨ (k = 5 ∧ n = 2)
structure Wf (G : Gr) (L : List Addr) : Prop where
  nd : L.Nodup
  item : ∀ l ∈ L, ∀ x ∈ G.it l, Item L x
  kind : ∀ l ∈ L, SizeOk (G.kd l) (G.it l).length

theorem SizeOk.kd {k : Int} {n : Nat} (h : SizeOk k n) : 0 ≤ k ∧ k < 6 := by unfold SizeOk at h; omega
theorem SizeOk.len {k : Int} {n : Nat} (h : SizeOk k n) : n ≤ 3 := by unfold SizeOk at h; omega
theorem Item.mono {L M : List Addr} {x : AV} (h : Item L x) (l : ∀ a ∈ L, a ∈ M) : Item M x := h.imp id fun ⟨b, e, m⟩ => ⟨b, e, l b m⟩

section
variable {G : Gr} {L M : List Addr} {l m : Addr}
theorem sz_pos : 0 < G.sz l := Nat.succ_pos _
theorem blk_len : (blk G l).length = G.sz l := by simp [blk, Gr.sz]
theorem cellsA_cons : cellsA G (l :: L) = blk G l ++ cellsA G L := by simp [cellsA]
theorem cellsA_append : cellsA G (L ++ M) = cellsA G L ++ cellsA G M := by simp [cellsA]
theorem cells_len : (cells G L).length = (cellsA G L).length := by simp [cells]
theorem off_self : off G (l :: L) l = 0 := by simp [off]
theorem off_ne (h : l ≠ m) : off G (l :: L) m = G.sz l + off G L m := by simp [off, h]
theorem off_lt : ∀ {L : List Addr}, l ∈ L → off G L l + G.sz l ≤ (cellsA G L).length
  | a :: r, h => by
    rw [cellsA_cons, List.length_append, blk_len]
    by_cases e : a = l
    · subst e; rw [off_self]; omega
    · rw [off_ne e]
      have := off_lt (L := r) ((List.mem_cons.mp h).resolve_left (Ne.symm e))
      omega
theorem cellsA_at {j : Nat} (hj : j < G.sz l) : ∀ {L : List Addr}, l ∈ L → (cellsA G L)[off G L l + j]? = (blk G l)[j]?
  | a :: r, h => by
    rw [cellsA_cons]
    by_cases e : a = l
    · subst e
      rw [off_self, Nat.zero_add, List.getElem?_append_left (by rw [blk_len]; exact hj)]
    · rw [off_ne e, List.getElem?_append_right (by rw [blk_len]; omega), blk_len]
      rw [show G.sz a + off G r l + j - G.sz a = off G r l + j by omega]
      exact cellsA_at hj ((List.mem_cons.mp h).resolve_left (Ne.symm e))
theorem off_left : ∀ {L : List Addr}, l ∈ L → off G (L ++ M) l = off G L l
  | a :: r, h => by
    by_cases e : a = l
    · subst e; simp [off]
    · rw [List.cons_append, off_ne e, off_ne e, off_left ((List.mem_cons.mp h).resolve_left (Ne.symm e))]
theorem off_right : ∀ {L : List Addr}, l ∉ L → off G (L ++ M) l = (cellsA G L).length + off G M l
  | [], _ => by simp [cellsA]
  | a :: r, h => by
    have e : a ≠ l := fun e => h (by simp [e])
    rw [List.cons_append, off_ne e, off_right (fun q => h (by simp [q])), cellsA_cons, List.length_append, blk_len]
    omega
theorem off_inj : ∀ {L : List Addr}, l ∈ L → m ∈ L → off G L l = off G L m → l = m
  | a :: r, h, h', q => by
    have p : 0 < G.sz a := sz_pos
    by_cases e : a = l
    · by_cases e' : a = m
      · rw [← e, ← e']
      · rw [e, off_self, off_ne (e ▸ e')] at q
        have := sz_pos (G := G) (l := l)
        omega
    · by_cases e' : a = m
      · rw [off_ne e, e', off_self] at q
        have := sz_pos (G := G) (l := m)
        omega
      · rw [off_ne e, off_ne e'] at q
        exact off_inj ((List.mem_cons.mp h).resolve_left (Ne.symm e)) ((List.mem_cons.mp h').resolve_left (Ne.symm e')) (by omega)
theorem cells_hdr (h : l ∈ L) : (cells G L)[off G L l]? = some (hdr G l) := by
  have := cellsA_at (G := G) (j := 0) (sz_pos) h
  rw [Nat.add_zero] at this
  rw [cells, List.getElem?_map, this]; rfl
theorem cells_field (h : l ∈ L) {p : Nat} {x : AV} (hx : (G.it l)[p]? = some x) : (cells G L)[off G L l + 1 + p]? = some (wd (off G L) x) := by
  have hp := (List.getElem?_eq_some_iff.mp hx).1
  have := cellsA_at (G := G) (j := 1 + p) (by unfold Gr.sz; omega) h
  rw [← Nat.add_assoc] at this
  rw [cells, List.getElem?_map, this, Nat.add_comm 1 p]
  simp [blk, hx]
theorem hdr_mod : hdr G l % 8 = 5 := by unfold hdr; omega
theorem hdr_len (h : 0 ≤ G.kd l ∧ G.kd l < 6) : hdr G l / 8 / 16 = ((G.it l).length : Int) := by unfold hdr; omega
theorem hdr_kind (h : 0 ≤ G.kd l ∧ G.kd l < 6) : hdr G l / 8 % 16 = G.kd l := by unfold hdr; omega
theorem hdr_nn (h : 0 ≤ G.kd l ∧ G.kd l < 6) : 0 ≤ hdr G l := by unfold hdr; omega
theorem wd_ref {f : Addr → Nat} : wd f (.ref l) % 8 = 1 := by show ((f l : Int) * 8 + 1) % 8 = 1; omega
theorem wd_addr {f : Addr → Nat} : wd f (.ref l) / 8 = (f l : Int) := by show ((f l : Int) * 8 + 1) / 8 = (f l : Int); omega
theorem wd_nn {f : Addr → Nat} : 0 ≤ wd f (.ref l) := by show 0 ≤ ((f l : Int) * 8 + 1); omega
theorem wd_congr {f g : Addr → Nat} {x : AV} (h : Item L x) (e : ∀ l ∈ L, f l = g l) : wd f x = wd g x := by
  rcases h with ⟨i, rfl, _⟩ | ⟨l, rfl, hl⟩
  · rfl
  · simp [wd, e l hl]
theorem wd_inj {x y : AV} (hx : Item L x) (hy : Item L y) (e : wd (off G L) x = wd (off G L) y) : x = y := by
  rcases hx with ⟨i, rfl, h⟩ | ⟨l, rfl, hl⟩ <;> rcases hy with ⟨j, rfl, h'⟩ | ⟨m, rfl, hm⟩ <;> unfold wd at e <;> dsimp only at e
  · rw [e]
  · exact absurd (by omega) h.1
  · exact absurd (by omega) h'.1
  · rw [off_inj (G := G) hl hm (by omega)]

/-! ### a field is changed, a block is made -/
def Gr.set (G : Gr) (l : Addr) (p : Nat) (x : AV) : Gr := ⟨G.kd, fun m => if m = l then (G.it l).set p x else G.it m⟩
theorem Gr.set_sz {p : Nat} {x : AV} : (G.set l p x).sz m = G.sz m := by
  unfold Gr.set Gr.sz
  by_cases h : m = l <;> simp [h]
theorem off_set {p : Nat} {x : AV} : ∀ L, off (G.set l p x) L m = off G L m
  | [] => rfl
  | a :: r => by unfold off; rw [Gr.set_sz, off_set r]
theorem hdr_set {p : Nat} {x : AV} : hdr (G.set l p x) m = hdr G m := by
  unfold hdr Gr.set
  by_cases h : m = l <;> simp [h]
theorem blk_set_ne {p : Nat} {x : AV} (h : m ≠ l) : blk (G.set l p x) m = blk G m := by
  unfold blk; rw [hdr_set]; simp [Gr.set, h]
theorem blk_set {p : Nat} {x : AV} : blk (G.set l p x) l = (blk G l).set (1 + p) x := by
  unfold blk; rw [hdr_set, Nat.add_comm 1 p]; simp [Gr.set]
theorem cellsA_set_out {p : Nat} {x : AV} : ∀ {L : List Addr}, l ∉ L → cellsA (G.set l p x) L = cellsA G L
  | [], _ => rfl
  | a :: r, h => by
    rw [cellsA_cons, cellsA_cons, blk_set_ne (fun e => h (by simp [e])), cellsA_set_out fun q => h (by simp [q])]
theorem cellsA_set {p : Nat} {x : AV} (hp : p < (G.it l).length) : ∀ {L : List Addr}, L.Nodup → l ∈ L → cellsA (G.set l p x) L = (cellsA G L).set (off G L l + 1 + p) x
  | a :: r, nd, h => by
    rw [List.nodup_cons] at nd
    rw [cellsA_cons, cellsA_cons]
    by_cases e : a = l
    · subst e
      rw [off_self, cellsA_set_out nd.1, blk_set, Nat.zero_add, List.set_append_left _ _ (by rw [blk_len]; unfold Gr.sz; omega)]
    · rw [off_ne e, blk_set_ne e, List.set_append_right _ _ (by rw [blk_len]; omega), blk_len, cellsA_set hp nd.2 ((List.mem_cons.mp h).resolve_left (Ne.symm e))]
      rw [show G.sz a + off G r l + 1 + p - G.sz a = off G r l + 1 + p by omega]
theorem cells_set {p : Nat} {x : AV} (hp : p < (G.it l).length) (nd : L.Nodup) (h : l ∈ L) : cells (G.set l p x) L = (cells G L).set (off G L l + 1 + p) (wd (off G L) x) := by
  have e : off (G.set l p x) L = off G L := funext fun m => off_set L
  unfold cells
  rw [e, cellsA_set hp nd h, List.map_set]
theorem Wf.set {p : Nat} {x : AV} (w : Wf G L) (hx : Item L x) : Wf (G.set l p x) L where
  nd := w.nd
  item m hm y hy := by
    unfold Gr.set at hy
    by_cases e : m = l
    · subst e
      simp only [if_true] at hy
      rcases List.mem_or_eq_of_mem_set hy with q | rfl
      · exact w.item m hm y q
      · exact hx
    · simp only [e, if_false] at hy
      exact w.item m hm y hy
  kind m hm := by
    have : ((G.set l p x).it m).length = (G.it m).length := by
      have := Gr.set_sz (G := G) (l := l) (m := m) (p := p) (x := x)
      unfold Gr.sz at this; omega
    rw [this]; exact w.kind m hm

def Gr.add (G : Gr) (d : Addr) (k : Int) (xs : List AV) : Gr := ⟨fun m => if m = d then k else G.kd m, fun m => if m = d then xs else G.it m⟩
theorem blk_add_ne {d : Addr} {k : Int} {xs : List AV} (h : m ≠ d) : blk (G.add d k xs) m = blk G m := by unfold blk hdr Gr.add; simp [h]
theorem off_add {d : Addr} {k : Int} {xs : List AV} : ∀ {L : List Addr}, d ∉ L → off (G.add d k xs) L m = off G L m
  | [], _ => rfl
  | a :: r, h => by
    have e : a ≠ d := fun e => h (by simp [e])
    have : (G.add d k xs).sz a = G.sz a := by unfold Gr.sz Gr.add; simp [e]
    unfold off
    rw [this, off_add fun q => h (by simp [q])]
theorem cellsA_add {d : Addr} {k : Int} {xs : List AV} : ∀ {L : List Addr}, d ∉ L → cellsA (G.add d k xs) L = cellsA G L
  | [], _ => rfl
  | a :: r, h => by rw [cellsA_cons, cellsA_cons, blk_add_ne (fun e => h (by simp [e])), cellsA_add fun q => h (by simp [q])]
theorem Wf.add {d : Addr} {k : Int} {xs : List AV} (w : Wf G L) (hd : d ∉ L) (hx : ∀ x ∈ xs, Item L x) (hk : SizeOk k xs.length) : Wf (G.add d k xs) (L ++ [d]) where
  nd := by
    rw [List.nodup_append]
    exact ⟨w.nd, by simp, fun a ha b hb => by simp at hb; subst hb; rintro rfl; exact hd ha⟩
  item m hm y hy := by
    unfold Gr.add at hy
    by_cases e : m = d
    · subst e
      simp only [if_true] at hy
      exact (hx y hy).mono (by simp; intros; simp [*])
    · simp only [e, if_false] at hy
      have : m ∈ L := by simpa [e] using hm
      exact (w.item m this y hy).mono (by simp; intros; simp [*])
  kind m hm := by
    unfold Gr.add
    by_cases e : m = d
    · subst e; simpa using hk
    · have : m ∈ L := by simpa [e] using hm
      simpa [e] using w.kind m this
theorem off_add_new {d : Addr} {k : Int} {xs : List AV} (hd : d ∉ L) : off (G.add d k xs) (L ++ [d]) d = (cellsA G L).length := by
  rw [off_right hd, cellsA_add hd, off_self]; rfl
theorem off_add_old {d : Addr} {k : Int} {xs : List AV} (hd : d ∉ L) (h : m ∈ L) : off (G.add d k xs) (L ++ [d]) m = off G L m := by
  rw [off_left h, off_add hd]
theorem cells_add {d : Addr} {k : Int} {xs : List AV} (w : Wf G L) (hd : d ∉ L) (hx : ∀ x ∈ xs, Item L x) :
    cells (G.add d k xs) (L ++ [d]) = cells G L ++ ((((xs.length : Int) * 16 + k) * 8 + 5) :: xs.map (wd (off G L))) := by
  unfold cells
  rw [cellsA_append, cellsA_add hd, List.map_append]
  have e1 : ∀ m ∈ L, off (G.add d k xs) (L ++ [d]) m = off G L m := fun m h => off_add_old hd h
  have e2 : cellsA (G.add d k xs) [d] = .int (((xs.length : Int) * 16 + k) * 8 + 5) :: xs := by simp [cellsA, blk, hdr, Gr.add]
  rw [e2]
  refine congr (congrArg _ ?_) ?_
  · refine List.map_congr_left fun x hx => ?_
    simp only [cellsA, List.mem_flatMap] at hx
    obtain ⟨m, hm, hx⟩ := hx
    rcases List.mem_cons.mp hx with rfl | hx
    · rfl
    · exact wd_congr (w.item m hm x hx) e1
  · simp only [List.map_cons]
    refine List.cons_eq_cons.mpr ⟨rfl, List.map_congr_left fun x h => wd_congr (hx x h) e1⟩
end
end Mine

-- F3
namespace Mine

section
variable {W : Wo} {A : Around} {env : Env} {μ : Mu} {H : AH} {n : Nat} {Q : AV → AH → Prop}

/-! ### the deck -/
def IsDeck (H : AH) (D sc : Addr) (b : Int) : Prop := ∃ ns, ∃ m : Int, H D = some (.list [.ref sc, .int m]) ∧ H sc = some (.list (iL ns)) ∧ D ≠ sc ∧ 0 ≤ m ∧ m ≤ b ∧ ns.length ≤ 1000
/-- an item of a list at a written place -/
theorem E_at {value slice : Expr} {pos : Pos} {l : Addr} {xs : List AV} {i : Int} {x : AV} (h : Ev W A env (eval value env) μ H fun a H₁ => a = .ref l ∧ Ev W A env (eval slice env) μ H₁ fun b H₂ => b = .int i ∧ H₂ l = some (.list xs) ∧ 0 ≤ i ∧ i < 2 ^ 63 ∧ xs[i.toNat]? = some x ∧ Q x H₂)
    (hs : ∀ l k u, subscripted slice false (.ref l) (.int k u) = operate [.ref l, .int k u] (getItem (.ref l) (.int k u)) := by intro _ _ _; with_unfolding_all rfl) :
    Ev W A env (eval (.Subscript value slice pos) env) μ H Q :=
  E_item (h.mono fun a H₁ ⟨e, h⟩ => h.mono fun b H₂ ⟨e', hl, h0, h1, hx, q⟩ => ⟨l, xs, i, e, hl, e', h0, h1, x, hx, q⟩) hs

/-- name[written] -/
theorem E_nc {x : Str} {c : Nat} {p1 p2 pos : Pos} {l : Addr} {xs : List AV} {i : Int} {y : AV} (hx : μ.lookup x = some (.ref l)) (hl : H l = some (.list xs)) (hy : xs[i.toNat]? = some y) (q : Q y H) (h0 : 0 ≤ i ∧ i < 2 ^ 63 := by decide)
    (hn : nameOk env x = true := by rfl) (hk : env.scope.kind = .function := by rfl) (hd : (x == ("__debug__" : Str)) = false := by rfl) : Ev W A env (eval (.Subscript (.Name x p1) (.Constant (.int i) c p2) pos) env) μ H Q :=
  E_at (l := l) (i := i) (Ev_name hx ⟨rfl, Ev_int ⟨rfl, hl, h0.1, h0.2, hy, q⟩⟩ hn hk hd)
theorem E_tnc {x : Str} {c : Nat} {p1 p2 pos : Pos} {l : Addr} {xs : List AV} {i : Int} {y : AV} (hx : μ.lookup x = some (.ref l)) (hl : H l = some (.tup xs)) (hy : xs[i.toNat]? = some y) (q : Q y H) (h0 : 0 ≤ i ∧ i < 2 ^ 63 := by decide)
    (hn : nameOk env x = true := by rfl) (hk : env.scope.kind = .function := by rfl) (hd : (x == ("__debug__" : Str)) = false := by rfl) : Ev W A env (eval (.Subscript (.Name x p1) (.Constant (.int i) c p2) pos) env) μ H Q :=
  Ev_sub2 (Ev_name hx (Ev_int (tail_tup hl h0.1 h0.2 hy q)) hn hk hd)

theorem c_draw (k : PK W) (a : AOk A (n + 1)) {D sc : Addr} {b m : Int} (hD : IsDeck H D sc b) (hb : b ≤ 100000) (hm : 0 < m) (q : ∀ r H', 0 ≤ r → r < m → Keep [D] H H' → IsDeck H' D sc (b + 1) → Q (.int r) H') : Cal W A (.ref 290) [.ref D, .int m] H Q := by
  obtain ⟨ns, c, h1, h2, ne, c0, c1, hl⟩ := hD
  have hnl : (iL ns).length ≤ 1000000 := by simp; omega
  refine Cal_K2 (x := "deck") (y := "many") k a (by k_is) (by k_is) fun L A' a' => ?_
  refine Ex_cons <| Ex_assignSub <| Ev_add <| E_nc rfl h1 rfl <| Ev_int ⟨_, _, rfl, rfl, ?_⟩
  refine Ev_name rfl <| Ev_int fun v u x hv hu hx => set_list hv hu h1 (by decide) (by decide) (by simp) ?_
  have e1 : ([AV.ref sc, .int c].set (1 : Int).toNat (ab x)) = [.ref sc, .int (c + 1)] := by rw [hx]; rfl
  rw [e1]
  generalize eH : H.set D (.list [.ref sc, .int (c + 1)]) = H₁
  have g1 : H₁ D = some (.list [.ref sc, .int (c + 1)]) := by rw [← eH, AH.set_self]
  have g2 : H₁ sc = some (.list (iL ns)) := by rw [← eH, AH.set_ne _ _ (Ne.symm ne)]; exact h2
  have kp : Keep [D] H H₁ := by rw [← eH]; exact Keep.set (by simp)
  have fin : ∀ r : Int, 0 ≤ r → r < m → Q (.int r) H₁ := fun r r0 r1 => q r H₁ r0 r1 kp ⟨ns, c + 1, g1, g2, ne, by omega, by omega, hl⟩
  refine Ex_cons <| Ex_if <| Evb_cmp <| E_nc rfl g1 rfl <| E_len k <| E_nc rfl g1 rfl ⟨sc, _, rfl, g2, hnl, cmp_le ⟨fun e => ?_, fun e => Ex_nil ?_⟩⟩
  · have hc : c + 1 ≤ ns.length := by simpa using e
    obtain ⟨y, hy⟩ : ∃ y, ns[(c + 1 - 1).toNat]? = some y := ⟨_, List.getElem?_eq_getElem (by omega)⟩
    refine Ex_cons <| Ex_ret <| Ev_mod <| E_at (l := sc) (xs := iL ns) (i := c + 1 - 1) <| E_nc rfl g1 rfl ⟨rfl, Ev_sub <| E_nc rfl g1 rfl <| Ev_int ⟨_, _, rfl, rfl, rfl, g2, by omega, by omega, iL_get hy, Ev_name rfl ⟨_, _, rfl, rfl, hm, ?_⟩⟩⟩
    exact fin _ (Int.emod_nonneg _ (by omega)) (Int.emod_lt_of_pos _ hm)
  · refine Ex_cons <| Ex_ret <| Ev_mod <| Ev_div <| Ev_add <| Ev_add <| Ev_mul <| Ev_mul <| E_nc rfl g1 rfl <| E_nc rfl g1 rfl ⟨_, _, rfl, rfl, by omega, Ev_int ⟨_, _, rfl, rfl, by decide, Ev_mul <| Ev_int <| E_nc rfl g1 rfl ⟨_, _, rfl, rfl, by omega, _, _, rfl, rfl,
      Ev_mul <| Ev_int <| E_len k <| E_nc rfl g1 rfl ⟨sc, _, rfl, g2, hnl, _, _, rfl, rfl, by simp; omega, _, _, rfl, rfl, Ev_int ⟨_, _, rfl, rfl, by decide, Ev_name rfl ⟨_, _, rfl, rfl, hm, ?_⟩⟩⟩⟩⟩⟩
    exact fin _ (Int.emod_nonneg _ (by omega)) (Int.emod_lt_of_pos _ hm)

/-! ### values drawn -/
inductive LV where
  | root (i : Int) | plain (w : Int)
def LV.ok : LV → Prop
  | .root i => 0 ≤ i ∧ i < 4
  | .plain w => PW w
def LV.tup : LV → List AV
  | .root i => [.str (Str.ofString "root"), .int i]
  | .plain w => [.str (Str.ofString "plain"), .int w]
def ValAt (H : AH) (a : AV) (v : LV) : Prop := ∃ t, a = .ref t ∧ H t = some (.tup v.tup) ∧ v.ok
def takenV (xs : List AV) : LV → AV
  | .root i => (xs[i.toNat]?).getD .none
  | .plain w => .int w
theorem ValAt.keep {X : List Addr} {H H' : AH} {a : AV} {v : LV} (h : ValAt H a v) (k : Keep X H H') (x : ∀ l ∈ X, ∃ ys, H l = some (.list ys)) : ValAt H' a v := by
  obtain ⟨t, e, h1, h2⟩ := h
  refine ⟨t, e, k t _ (fun hx => ?_) h1, h2⟩
  obtain ⟨ys, e'⟩ := x t hx
  rw [h1] at e'; cases e'

theorem c_value (k : PK W) (a : AOk A (n + 2)) {D sc : Addr} {b : Int} {r : AV} (hD : IsDeck H D sc b) (hb : b ≤ 99000) (q : ∀ x v H', Keep [D] H H' → IsDeck H' D sc (b + 2) → ValAt H' x v → Q x H') : Cal W A (.ref 297) [.ref D, r] H Q := by
  refine Cal_K2 (x := "deck") (y := "roots") k a (by k_is) (by k_is) fun L A' a' => ?_
  refine Ex_cons <| Ex_assignSwap a'.h (names := [Str.ofString "way", Str.ofString "number"]) (Ev_tuple <| Evs_cons <| Ev_cf k (by k_is) (by k_is) <| Evs_cons <| Ev_name rfl <| Evs_cons <| Ev_int <| Evs_nil <| c_draw k a' hD (by omega) (by decide) fun way H₁ w0 w1 k1 hD1 => ?_)
  refine Evs_cons <| Ev_cf k (by k_is) (by k_is) <| Evs_cons <| Ev_name rfl <| Evs_cons <| Ev_int <| Evs_nil <| c_draw k a' hD1 (by omega) (by decide) fun nu H₂ n0 n1 k2 hD2 => Evs_nil ⟨by simp, fun t ht => ?_⟩
  refine ⟨t, _, rfl, by rw [AH.set_self], rfl, ?_⟩
  refine as_cons fun v hv => bind_name <| as_cons fun u hu => bind_name <| as_nil ?_
  rw [hv, hu]
  have kt : Keep [D] H₂ (H₂.set t (.tup [.int way, .int nu])) := Keep.new ht
  have kp : Keep [D] H (H₂.set t (.tup [.int way, .int nu])) := k1.trans (k2.trans kt)
  have hDt : IsDeck (H₂.set t (.tup [.int way, .int nu])) D sc (b + 2) := by
    obtain ⟨ns, c, h1, h2, ne, c0, c1, hl⟩ := hD2
    exact ⟨ns, c, by rw [AH.set_ne _ _ (by rintro rfl; rw [ht] at h1; cases h1)]; exact h1, by rw [AH.set_ne _ _ (by rintro rfl; rw [ht] at h2; cases h2)]; exact h2, ne, by omega, by omega, hl⟩
  generalize H₂.set t (.tup [.int way, .int nu]) = H₃ at kp hDt
  have fin : ∀ (H₄ : AH) (lv : LV) (d : Addr), lv.ok → Keep [] H₃ H₄ → H₄ d = none → Q (.ref d) (H₄.set d (.tup lv.tup)) := fun H₄ lv d ok k4 hd => by
    have k5 : Keep [] H₃ (H₄.set d (.tup lv.tup)) := k4.trans (Keep.new hd)
    refine q _ lv _ (kp.trans k5.ext) ?_ ⟨d, rfl, by rw [AH.set_self], ok⟩
    obtain ⟨ns, c, h1, h2, ne, c0, c1, hl⟩ := hDt
    exact ⟨ns, c, k5.at h1, k5.at h2, ne, c0, c1, hl⟩
  refine Ex_cons <| Ex_if <| Evb_cmp <| Ev_name rfl <| Ev_int <| cmp_lt ⟨fun e => ?_, fun e => Ex_nil ?_⟩
  · have : way < 4 := by simpa using e
    exact Ex_cons <| Ex_ret <| Ev_tuple <| Evs_cons <| Ev_strC <| Evs_cons <| Ev_name rfl <| Evs_nil ⟨by simp, fun d hd => fin _ (.root way) d ⟨w0, this⟩ Keep.refl hd⟩
  · refine Ex_cons <| Ex_ret <| Ev_tuple <| Evs_cons <| Ev_strC <| Evs_cons <| Ev_if <| Evb_cmp <| Ev_name rfl <| Ev_int <| cmp_eq ⟨fun e => ?_, fun e => ?_⟩
    · refine E_fix k a' <| Ev_sub <| Ev_name rfl <| Ev_int ⟨_, _, rfl, rfl, _, rfl, Evs_nil ⟨by simp, fun d hd => fin _ (.plain ((nu - 4) * 8 + 0)) d ?_ Keep.refl hd⟩⟩
      unfold LV.ok PW; omega
    · refine E_item <| Ev_list <| Evs_cons <| E_EMPTY_LIST k <| Evs_cons <| E_char k a' <| Ev_add <| Ev_int <| Ev_name rfl ⟨_, _, rfl, rfl, _, rfl, Evs_nil ⟨by simp, fun g hg => Ev_mod <| Ev_name rfl <| Ev_int ⟨_, _, rfl, rfl, by decide, ?_⟩⟩⟩
      have kg : Keep [] H₃ (H₃.set g (.list [.int 20, .int ((97 + nu) * 8 + 2)])) := Keep.new hg
      have n2 : nu % 2 = 0 ∨ nu % 2 = 1 := by omega
      rcases n2 with e2 | e2 <;> rw [e2]
      · refine ⟨g, _, _, rfl, AH.set_self .., rfl, by decide, by decide, _, rfl, Evs_nil ⟨by simp, fun d hd => fin _ (.plain 20) d ?_ kg hd⟩⟩
        unfold LV.ok PW; omega
      · refine ⟨g, _, _, rfl, AH.set_self .., rfl, by decide, by decide, _, rfl, Evs_nil ⟨by simp, fun d hd => fin _ (.plain ((97 + nu) * 8 + 2)) d ?_ kg hd⟩⟩
        unfold LV.ok PW; omega

theorem c_taken (k : PK W) (a : AOk A (n + 1)) {v : AV} {lv : LV} {r : Addr} {xs : List AV} (hv : ValAt H v lv) (hr : H r = some (.list xs)) (hl : xs.length = 4) (q : Q (takenV xs lv) H) : Cal W A (.ref 304) [v, .ref r] H Q := by
  obtain ⟨t, rfl, h1, ok⟩ := hv
  refine Cal_K2 (x := "value") (y := "roots") k a (by k_is) (by k_is) fun L A' a' => ?_
  cases lv with
  | root i =>
    have ok : 0 ≤ i ∧ i < 4 := ok
    obtain ⟨y, hy⟩ : ∃ y, xs[i.toNat]? = some y := ⟨_, List.getElem?_eq_getElem (by omega)⟩
    have e : takenV xs (.root i) = y := by simp [takenV, hy]
    rw [e] at q
    refine Ex_cons <| Ex_ret <| Ev_if <| Evb_cmp <| E_tnc rfl h1 rfl <| Ev_strC <| cmp_eqS ⟨fun e => ?_, fun e => ?_⟩
    · exact E_at (l := r) (xs := xs) (i := i) <| Ev_name rfl ⟨rfl, E_tnc rfl h1 rfl ⟨rfl, hr, by omega, by omega, hy, q⟩⟩
    · simp at e
  | plain w =>
    refine Ex_cons <| Ex_ret <| Ev_if <| Evb_cmp <| E_tnc rfl h1 rfl <| Ev_strC <| cmp_eqS ⟨fun e => ?_, fun e => ?_⟩
    · exact absurd e (by decide)
    · exact E_tnc rfl h1 rfl q
end
end Mine

-- F4
namespace Mine

theorem le_nil {ν : Mu} : Mu.le [] ν := fun p hp => by cases hp
theorem le_cons {x : Str} {a : AV} {μ ν : Mu} (h : ν.lookup x = some a) (r : Mu.le μ ν) : Mu.le ((x, a) :: μ) ν := fun p hp => by
  rcases List.mem_cons.mp hp with rfl | hp
  · exact h
  · exact r p hp

def OwnAt (H : AH) (G : Gr) (L : List Addr) : Prop := ∀ l ∈ L, H l = some (.list (.int (G.kd l) :: G.it l))
def StoreAt (H : AH) (s c : Addr) (G : Gr) (L : List Addr) : Prop := HeapAt H s c (cells G L) ∧ Wf G L
def ledG (G : Gr) : AV → List Int → Option Addr
  | .ref l, [] => some l
  | .ref l, p :: ps => if (G.it l).length = 0 then none else ledG G (((G.it l)[(p % (G.it l).length).toNat]?).getD .none) ps
  | _, _ => none
def ledW (f : Addr → Nat) : Option Addr → AV
  | some l => .int (wd f (.ref l))
  | none => .none
def ledO : Option Addr → AV
  | some l => .ref l
  | none => .none

section
variable {W : Wo} {A : Around} {env : Env} {μ : Mu} {H : AH} {n : Nat} {Q : AV → AH → Prop}
theorem s_lengthOf (k : PK W) (a : AOk A (n + 3)) {s c : Addr} {G : Gr} {L : List Addr} (S : StoreAt H s c G L) {l : Addr} (hl : l ∈ L) (q : Q (.int (G.it l).length) H) : Cal W A (.ref 182) [.ref s, .int (wd (off G L) (.ref l))] H Q := by
  have kd := (S.2.kind l hl).kd
  refine c_lengthOf k a S.1 (h := hdr G l) wd_ref wd_nn ?_ hdr_mod ?_
  · rw [wd_addr, Int.toNat_natCast]; exact cells_hdr hl
  · rw [hdr_len kd]; exact q
theorem s_kindOf (k : PK W) (a : AOk A (n + 3)) {s c : Addr} {G : Gr} {L : List Addr} (S : StoreAt H s c G L) {l : Addr} (hl : l ∈ L) (q : Q (.int (G.kd l)) H) : Cal W A (.ref 175) [.ref s, .int (wd (off G L) (.ref l))] H Q := by
  have kd := (S.2.kind l hl).kd
  refine c_kindOf k a S.1 (h := hdr G l) wd_ref wd_nn ?_ hdr_mod ?_
  · rw [wd_addr, Int.toNat_natCast]; exact cells_hdr hl
  · rw [hdr_kind kd]; exact q
theorem s_field (k : PK W) (a : AOk A (n + 4)) {s c : Addr} {G : Gr} {L : List Addr} (S : StoreAt H s c G L) {l : Addr} (hl : l ∈ L) {p : Int} {x : AV} (p0 : 0 ≤ p) (hx : (G.it l)[p.toNat]? = some x) (q : Q (.int (wd (off G L) x)) H) : Cal W A (.ref 203) [.ref s, .int (wd (off G L) (.ref l)), .int p] H Q := by
  have kd := (S.2.kind l hl).kd
  have hp := (List.getElem?_eq_some_iff.mp hx).1
  refine c_field k a S.1 (h := hdr G l) wd_ref wd_nn ?_ hdr_mod p0 ?_ ?_ q
  · rw [wd_addr, Int.toNat_natCast]; exact cells_hdr hl
  · rw [hdr_len kd]; omega
  · rw [wd_addr, show ((off G L l : Int) + 1 + p).toNat = off G L l + 1 + p.toNat by omega]; exact cells_field hl hx
theorem s_setField (k : PK W) (a : AOk A (n + 4)) {s c : Addr} {G : Gr} {L : List Addr} (S : StoreAt H s c G L) {l : Addr} (hl : l ∈ L) {p : Int} {x : AV} (p0 : 0 ≤ p) (hp : p < (G.it l).length)
    (q : Q .none (H.set c (.list (iL (cells (G.set l p.toNat x) L))))) : Cal W A (.ref 210) [.ref s, .int (wd (off G L) (.ref l)), .int p, .int (wd (off G L) x)] H Q := by
  have kd := (S.2.kind l hl).kd
  have := off_lt (G := G) hl
  unfold Gr.sz at this
  have e : (wd (off G L) (.ref l) / 8 + 1 + p).toNat = off G L l + 1 + p.toNat := by rw [wd_addr]; omega
  refine c_setField k a S.1 (h := hdr G l) wd_ref wd_nn ?_ hdr_mod p0 ?_ ?_ ?_
  · rw [wd_addr, Int.toNat_natCast]; exact cells_hdr hl
  · rw [hdr_len kd]; exact hp
  · rw [e, cells_len]; omega
  · rw [e, ← cells_set (by omega) S.2.nd hl]; exact q

theorem isRef_wd {L : List Addr} {f : Addr → Nat} {x : AV} (h : Item L x) : decide (wd f x % 8 = 1) = true → ∃ l, x = .ref l ∧ l ∈ L := fun e => by
  rcases h with ⟨i, rfl, h, _⟩ | ⟨l, rfl, hl⟩
  · exact absurd (show i % 8 = 1 from of_decide_eq_true e) h
  · exact ⟨l, rfl, hl⟩
theorem isRef_wd' {L : List Addr} {f : Addr → Nat} {x : AV} (h : Item L x) : decide (wd f x % 8 = 1) = false → ∃ i, x = .int i ∧ PW i := fun e => by
  rcases h with ⟨i, rfl, h⟩ | ⟨l, rfl, hl⟩
  · exact ⟨i, rfl, h⟩
  · have := wd_ref (l := l) (f := f)
    rw [this] at e; simp at e
theorem ledG_cons {G : Gr} {l : Addr} {p : Int} {ps : List Int} : ledG G (.ref l) (p :: ps) = if (G.it l).length = 0 then none else ledG G (((G.it l)[(p % (G.it l).length).toNat]?).getD .none) ps := rfl
theorem ledG_int {G : Gr} {i : Int} {ps : List Int} : ledG G (.int i) ps = none := by cases ps <;> rfl
theorem getElem_mod {xs : List AV} {p : Int} (h : xs.length ≠ 0) : ∃ x, xs[(p % xs.length).toNat]? = some x ∧ x ∈ xs := by
  have h1 : 0 ≤ p % (xs.length : Int) := Int.emod_nonneg _ (by omega)
  have h2 : p % (xs.length : Int) < xs.length := Int.emod_lt_of_pos _ (by omega)
  exact ⟨_, List.getElem?_eq_getElem (by omega), List.getElem_mem _⟩

theorem c_led (k : PK W) (a : AOk A (n + 6)) {s c pa : Addr} {G : Gr} {L : List Addr} {x : AV} {path : List Int} (S : StoreAt H s c G L) (hx : Item L x) (hp : H pa = some (.list (iL path))) (q : Q (ledW (off G L) (ledG G x path)) H) :
    Cal W A (.ref 311) [.ref s, .int (wd (off G L) x), .ref pa] H Q := by
  refine Cal_K3 (x := "store") (y := "word") (z := "path") k a (by k_is) (by k_is) fun M A' a' => ?_
  refine Ex_cons <| Ex_for a'.h <| Ev_name rfl ⟨.list pa (iL path), rfl, hp, fun i ν H' => H' = H ∧ ∃ y, ν = [(Str.ofString "store", .ref s), (Str.ofString "word", .int (wd (off G L) y)), (Str.ofString "path", .ref pa)] ∧ Item L y ∧ ledG G y (path.drop i) = ledG G x path,
    ⟨_, le_cons rfl <| le_cons rfl <| le_cons rfl le_nil, rfl, x, rfl, hx, rfl⟩, ?_, ?_, ?_⟩
  · rintro i ν H' ⟨rfl, _⟩; exact hp
  · rintro i z ν H' hz ⟨rfl, y, rfl, hy, hl⟩
    have hz : (iL path)[i]? = some z := hz
    rw [List.getElem?_map] at hz
    obtain ⟨p, hp', rfl⟩ := Option.map_eq_some_iff.mp hz
    have hd : path.drop i = p :: path.drop (i + 1) := by
      obtain ⟨h1, h2⟩ := List.getElem?_eq_some_iff.mp hp'
      rw [← h2]; exact List.drop_eq_getElem_cons h1
    rw [hd] at hl
    refine Ex_cons <| Ex_if <| Evb_bool <| Evb_or_cons <| Evb_not <| Evb_val <| E_isRef k a' <| Ev_name rfl ⟨_, rfl, _, rfl, fun e => ?_, fun e => ⟨fun _ => ?_, fun e => by simp at e⟩⟩
    · obtain ⟨l, rfl, hlL⟩ := isRef_wd hy (by simpa using e)
      refine Evb_or_cons <| Evb_cmp <| Ev_cm k (by k_is) (by k_is) (by k_is) rfl <| Ev_name rfl ⟨s, 900, c, rfl, S.1.1, Evs_cons <| Ev_name rfl <| Evs_nil <| s_lengthOf k a' S hlL <| Ev_int <| cmp_eq ⟨fun e => Evb_or_nil ⟨fun e => (by simp at e), fun _ => Ex_nil ?_⟩, fun e => ⟨fun _ => ?_, fun e => by simp at e⟩⟩⟩
      · have hne : (G.it l).length ≠ 0 := by simpa using e
        obtain ⟨y, hy, hmem⟩ := getElem_mod (p := p) hne
        refine Ex_cons <| Ex_assign <| Ev_cm k (by k_is) (by k_is) (by k_is) rfl <| Ev_name rfl ⟨s, 900, c, rfl, S.1.1, Evs_cons <| Ev_name rfl <| Evs_cons <| Ev_mod <| Ev_name rfl <|
          Ev_cm k (by k_is) (by k_is) (by k_is) rfl <| Ev_name rfl ⟨s, 900, c, rfl, S.1.1, Evs_cons <| Ev_name rfl <| Evs_nil <| s_lengthOf k a' S hlL ⟨_, _, rfl, rfl, by omega, Evs_nil <| s_field k a' S hlL (Int.emod_nonneg _ (by omega)) hy <| Ex_nil ?_⟩⟩⟩
        refine ⟨_, le_cons rfl <| le_cons rfl <| le_cons rfl le_nil, rfl, y, rfl, S.2.item l hlL y hmem, ?_⟩
        rw [← hl]
        rw [ledG_cons, if_neg hne, hy]; rfl
      · have h0 : (G.it l).length = 0 := by simpa using e
        refine Ex_cons <| Ex_ret <| Ev_noneC ?_
        show Q _ _
        have : ledG G x path = none := by rw [← hl, ledG_cons, if_pos h0]
        rw [this] at q; exact q
    · obtain ⟨i', rfl, _⟩ := isRef_wd' hy (by simpa using e)
      refine Ex_cons <| Ex_ret <| Ev_noneC ?_
      show Q _ _
      have : ledG G x path = none := by rw [← hl]; exact ledG_int
      rw [this] at q; exact q
  · rintro ν H' ⟨rfl, y, rfl, hy, hl⟩
    have e : (Src.list pa (iL path)).items.length = path.length := by simp [Src.items]
    rw [e, List.drop_length] at hl
    rw [← hl] at q
    refine Ex_cons <| Ex_ret <| Ev_if <| Evb_val <| E_isRef k a' <| Ev_name rfl ⟨_, rfl, _, rfl, fun e => ?_, fun e => ?_⟩
    · obtain ⟨l, rfl, hlL⟩ := isRef_wd hy e
      exact Ev_name rfl q
    · obtain ⟨i', rfl, _⟩ := isRef_wd' hy e
      exact Ev_noneC q

theorem E_isi {p1 p2 pos : Pos} {e : Expr} (k : PK W) (h : Ev W A env (eval e env) μ H fun x H₁ => (∃ i, x = .int i ∧ Q (.bool false) H₁) ∨ ∃ l xs, x = .ref l ∧ H₁ l = some (.list xs) ∧ Q (.bool true) H₁)
    (c : BShape env "isinstance" p1 pos e [.Name (Str.ofString "list") p2] := by exact ⟨rfl, rfl, rfl, rfl, rfl, rfl, rfl⟩) (c' : starEach [.Name (Str.ofString "list") p2] env = (false, eval (.Name (Str.ofString "list") p2) env) :: starEach [] env := by rfl) (cl : BName env "list" := by exact ⟨rfl, rfl, rfl, rfl⟩) :
    Ev W A env (eval (.Call (.Name (Str.ofString "isinstance") p1) [e, .Name (Str.ofString "list") p2] [] pos) env) μ H Q :=
  Ev_cb k (by k_is) rfl (Evs_cons (h.mono fun x H₁ h => Evs_cons (Ev_bi k.ok (k.gn (by k_is)) rfl (Evs_nil (by
    rcases h with ⟨i, rfl, q⟩ | ⟨l, xs, rfl, hl, q⟩
    · exact call_isiInt q
    · exact call_isiList hl q)) (by decide) cl.1 cl.2.1 cl.2.2.1 cl.2.2.2) c') c.2.1) (by decide) c.1 c.2.1 c.2.2.1 c.2.2.2.1 c.2.2.2.2.1 c.2.2.2.2.2.1 c.2.2.2.2.2.2

theorem E_isi' {p1 p2 pos : Pos} {e : Expr} {G : Gr} {L : List Addr} {x : AV} (k : PK W) (o : OwnAt H G L) (hx : Item L x) (h : ∀ Q, Q x H → Ev W A env (eval e env) μ H Q) (q1 : ∀ i, x = .int i → Q (.bool false) H) (q2 : ∀ l, x = .ref l → l ∈ L → Q (.bool true) H)
    (c : BShape env "isinstance" p1 pos e [.Name (Str.ofString "list") p2] := by exact ⟨rfl, rfl, rfl, rfl, rfl, rfl, rfl⟩) (c' : starEach [.Name (Str.ofString "list") p2] env = (false, eval (.Name (Str.ofString "list") p2) env) :: starEach [] env := by rfl) (cl : BName env "list" := by exact ⟨rfl, rfl, rfl, rfl⟩) :
    Ev W A env (eval (.Call (.Name (Str.ofString "isinstance") p1) [e, .Name (Str.ofString "list") p2] [] pos) env) μ H Q := by
  refine E_isi k (h _ ?_) c c' cl
  rcases hx with ⟨i, rfl, _⟩ | ⟨l, rfl, hl⟩
  · exact .inl ⟨i, rfl, q1 i rfl⟩
  · exact .inr ⟨l, _, rfl, o l hl, q2 l rfl hl⟩

theorem c_ledOwn (k : PK W) (a : AOk A (n + 2)) {pa : Addr} {G : Gr} {L : List Addr} {x : AV} {path : List Int} (w : Wf G L) (o : OwnAt H G L) (hx : Item L x) (hp : H pa = some (.list (iL path))) (q : Q (ledO (ledG G x path)) H) :
    Cal W A (.ref 318) [x, .ref pa] H Q := by
  refine Cal_K2 (x := "thing") (y := "path") k a (by k_is) (by k_is) fun M A' a' => ?_
  refine Ex_cons <| Ex_for a'.h <| Ev_name rfl ⟨.list pa (iL path), rfl, hp, fun i ν H' => H' = H ∧ ∃ y, ν = [(Str.ofString "thing", y), (Str.ofString "path", .ref pa)] ∧ Item L y ∧ ledG G y (path.drop i) = ledG G x path,
    ⟨_, le_cons rfl <| le_cons rfl le_nil, rfl, x, rfl, hx, rfl⟩, ?_, ?_, ?_⟩
  · rintro i ν H' ⟨rfl, _⟩; exact hp
  · rintro i z ν H' hz ⟨rfl, y, rfl, hy, hl⟩
    have hz : (iL path)[i]? = some z := hz
    rw [List.getElem?_map] at hz
    obtain ⟨p, hp', rfl⟩ := Option.map_eq_some_iff.mp hz
    have hd : path.drop i = p :: path.drop (i + 1) := by
      obtain ⟨h1, h2⟩ := List.getElem?_eq_some_iff.mp hp'
      rw [← h2]; exact List.drop_eq_getElem_cons h1
    rw [hd] at hl
    refine Ex_cons <| Ex_if <| Evb_bool <| Evb_or_cons <| Evb_not <| Evb_val <| E_isi' k o hy (fun Q q => Ev_name rfl q) ?_ ?_
    · rintro i' rfl
      refine ⟨_, rfl, fun e => by simp at e, fun _ => ⟨fun _ => ?_, fun e => by simp at e⟩⟩
      refine Ex_cons <| Ex_ret <| Ev_noneC ?_
      show Q _ _
      have : ledG G x path = none := by rw [← hl]; exact ledG_int
      rw [this] at q; exact q
    · rintro l rfl hlL
      have h3 := (w.kind l hlL).len
      have hlen : (AV.int (G.kd l) :: G.it l).length ≤ 1000000 := by simp; omega
      refine ⟨_, rfl, fun _ => Evb_or_cons <| Evb_cmp <| E_len k <| Ev_name rfl ⟨l, _, rfl, o l hlL, hlen, Ev_int <| cmp_eq ⟨fun e => Evb_or_nil ⟨fun e => (by simp at e), fun _ => Ex_nil ?_⟩, fun e => ⟨fun _ => ?_, fun e => by simp at e⟩⟩⟩, fun e => by simp at e⟩
      · have hne : (G.it l).length ≠ 0 := by
          have := of_decide_eq_false e
          rw [List.length_cons] at this; push_cast at this; omega
        obtain ⟨y, hy, hmem⟩ := getElem_mod (p := p) hne
        have m0 : 0 ≤ p % ((G.it l).length : Int) := Int.emod_nonneg _ (by omega)
        have m1 : p % ((G.it l).length : Int) < (G.it l).length := Int.emod_lt_of_pos _ (by omega)
        have ey : (AV.int (G.kd l) :: G.it l)[(1 + p % ((((AV.int (G.kd l) :: G.it l).length : Nat) : Int) - 1)).toNat]? = some y := by
          rw [show (((AV.int (G.kd l) :: G.it l).length : Nat) : Int) - 1 = ((G.it l).length : Int) by simp]
          rw [show (1 + p % ((G.it l).length : Int)).toNat = (p % ((G.it l).length : Int)).toNat + 1 by omega]
          simpa using hy
        have el : (((AV.int (G.kd l) :: G.it l).length : Nat) : Int) = (G.it l).length + 1 := by simp
        refine Ex_cons <| Ex_assign <| E_at (l := l) <| Ev_name rfl ⟨rfl, Ev_add <| Ev_int <| Ev_mod <| Ev_name rfl <| Ev_sub <| E_len k <| Ev_name rfl ⟨l, _, rfl, o l hlL, hlen, Ev_int ⟨_, _, rfl, rfl, _, _, rfl, rfl, by omega, _, _, rfl, rfl, rfl, o l hlL, ?_, ?_, ey, Ex_nil ?_⟩⟩⟩
        · have := Int.emod_nonneg p (b := (((AV.int (G.kd l) :: G.it l).length : Nat) : Int) - 1) (by omega); omega
        · have := Int.emod_lt_of_pos p (b := (((AV.int (G.kd l) :: G.it l).length : Nat) : Int) - 1) (by omega); omega
        refine ⟨_, le_cons rfl <| le_cons rfl le_nil, rfl, y, rfl, w.item l hlL y hmem, ?_⟩
        rw [← hl, ledG_cons, if_neg hne, hy]; rfl
      · have h0 : (G.it l).length = 0 := by
          have := of_decide_eq_true e
          rw [List.length_cons] at this; push_cast at this; omega
        refine Ex_cons <| Ex_ret <| Ev_noneC ?_
        show Q _ _
        have : ledG G x path = none := by rw [← hl, ledG_cons, if_pos h0]
        rw [this] at q; exact q
  · rintro ν H' ⟨rfl, y, rfl, hy, hl⟩
    have e : (Src.list pa (iL path)).items.length = path.length := by simp [Src.items]
    rw [e, List.drop_length] at hl
    rw [← hl] at q
    refine Ex_cons <| Ex_ret <| Ev_if <| Evb_val <| E_isi' k o hy (fun Q q => Ev_name rfl q) ?_ ?_
    · rintro i' rfl
      exact ⟨_, rfl, fun e => by simp at e, fun _ => Ev_noneC q⟩
    · rintro l rfl hlL
      exact ⟨_, rfl, fun _ => Ev_name rfl q, fun e => by simp at e⟩
end
end Mine

-- P2
namespace Mine

/-! ### the walk, as a plain function -/
def addN (o : List Addr) (l : Addr) : List Addr := if l ∈ o then o else o ++ [l]
def rowStep (p : List Addr × List RC) : AV → List Addr × List RC
  | .ref l => (addN p.1 l, p.2 ++ [.met ((addN p.1 l).idxOf l)])
  | .int i => (p.1, p.2 ++ [.int i])
  | _ => p
def nodeAt (G : Gr) (mine : List AV) (o : List Addr) (j : Nat) : Option (Int × List AV) := ((-1, mine) :: o.map fun l => (G.kd l, G.it l))[j]?
def bfs (G : Gr) (mine : List AV) : Nat → List Addr × List (List RC)
  | 0 => ([], [])
  | j + 1 => match nodeAt G mine (bfs G mine j).1 j with
    | some (k, xs) => let p := xs.foldl rowStep ((bfs G mine j).1, [.int k]); (p.1, (bfs G mine j).2 ++ [p.2])
    | none => bfs G mine j
def walkRows (G : Gr) (L : List Addr) (mine : List AV) : List (List RC) := (bfs G mine (L.length + 1)).2

theorem addN_mem {o : List Addr} {l : Addr} : l ∈ addN o l := by unfold addN; split <;> simp [*]
theorem addN_sub {o : List Addr} {l m : Addr} (h : m ∈ addN o l) : m ∈ o ∨ m = l := by
  unfold addN at h; split at h
  · exact .inl h
  · simpa using h
theorem addN_nodup {o : List Addr} {l : Addr} (h : o.Nodup) : (addN o l).Nodup := by
  unfold addN; split
  · exact h
  · rename_i q
    rw [List.nodup_append]
    exact ⟨h, by simp, fun a ha b hb => by simp at hb; subst hb; rintro rfl; exact q ha⟩
theorem addN_pre {o : List Addr} {l : Addr} : o <+: addN o l := by
  unfold addN; split
  · exact List.prefix_refl _
  · exact List.prefix_append ..
theorem nodup_le : ∀ {o L : List Addr}, o.Nodup → (∀ l ∈ o, l ∈ L) → o.length ≤ L.length
  | [], _, _, _ => Nat.zero_le _
  | a :: r, L, h, s => by
    rw [List.nodup_cons] at h
    have ha : a ∈ L := s a (by simp)
    have := nodup_le (o := r) (L := L.erase a) h.2 fun l hl => (List.mem_erase_of_ne (by rintro rfl; exact h.1 hl)).mpr (s l (by simp [hl]))
    rw [List.length_erase_of_mem ha] at this
    have := List.length_pos_of_mem ha
    simp; omega

theorem fold_inv (P : List Addr → Prop) (L : List Addr) (hP : ∀ o l, l ∈ L → P o → P (addN o l)) : ∀ (xs : List AV) (p : List Addr × List RC), (∀ x ∈ xs, Item L x) → P p.1 → P (xs.foldl rowStep p).1
  | [], p, _, h => h
  | x :: xs, p, hx, h => by
    rw [List.foldl_cons]
    refine fold_inv P L hP xs _ (fun y hy => hx y (by simp [hy])) ?_
    rcases hx x (by simp) with ⟨i, rfl, _⟩ | ⟨l, rfl, hl⟩
    · exact h
    · exact hP _ _ hl h
theorem bfs_inv (P : List Addr → Prop) {G : Gr} {L : List Addr} {mine : List AV} (w : Wf G L) (hm : ∀ x ∈ mine, Item L x) (h0 : P []) (hs : ∀ o, P o → ∀ l ∈ o, l ∈ L) (hP : ∀ o l, l ∈ L → P o → P (addN o l)) : ∀ j, P (bfs G mine j).1
  | 0 => h0
  | j + 1 => by
    have ih := bfs_inv P w hm h0 hs hP j
    unfold bfs
    split
    · rename_i k xs e
      refine fold_inv P L hP xs _ ?_ ih
      cases j with
      | zero => simp [nodeAt] at e; rw [← e.2]; exact hm
      | succ j =>
        simp only [nodeAt, List.getElem?_cons_succ, List.getElem?_map, Option.map_eq_some_iff, Prod.mk.injEq] at e
        obtain ⟨l, hl, _, rfl⟩ := e
        exact w.item l (hs _ ih l (List.mem_of_getElem? hl))
    · exact ih
theorem bfs_ok {G : Gr} {L : List Addr} {mine : List AV} (w : Wf G L) (hm : ∀ x ∈ mine, Item L x) (j : Nat) : (bfs G mine j).1.Nodup ∧ ∀ l ∈ (bfs G mine j).1, l ∈ L :=
  bfs_inv (fun o => o.Nodup ∧ ∀ l ∈ o, l ∈ L) w hm ⟨by simp, by simp⟩ (fun o h => h.2) (fun o l hl h => ⟨addN_nodup h.1, fun m hm => (addN_sub hm).elim (h.2 m) fun e => e ▸ hl⟩) j
theorem bfs_stay {G : Gr} {mine : List AV} {j : Nat} (h : (bfs G mine j).1.length < j) : ∀ i, bfs G mine (j + i) = bfs G mine j
  | 0 => rfl
  | i + 1 => by
    have ih := bfs_stay h i
    rw [show j + (i + 1) = (j + i) + 1 from rfl, bfs, ih]
    have : nodeAt G mine (bfs G mine j).1 (j + i) = none := by
      unfold nodeAt
      rw [List.getElem?_eq_none_iff]; simp; omega
    rw [this]
theorem bfs_end {G : Gr} {L : List Addr} {mine : List AV} {j : Nat} (w : Wf G L) (hm : ∀ x ∈ mine, Item L x) (h : (bfs G mine j).1.length < j) (hj : j ≤ L.length + 1) : bfs G mine (L.length + 1) = bfs G mine j := by
  have := bfs_stay h (L.length + 1 - j)
  rwa [show j + (L.length + 1 - j) = L.length + 1 by omega] at this

/-! ### the walk's objects -/
theorem Fa2.mono {α β : Type} {P P' : α → β → Prop} (h : ∀ a b, P a b → P' a b) {as : List α} {bs : List β} (f : Fa2 P as bs) : Fa2 P' as bs := by
  induction f with
  | nil => exact .nil
  | cons a _ ih => exact .cons (h _ _ a) ih
theorem Fa2.snoc {α β : Type} {P : α → β → Prop} {as : List α} {bs : List β} {a : α} {b : β} (f : Fa2 P as bs) (h : P a b) : Fa2 P (as ++ [a]) (bs ++ [b]) := by
  induction f with
  | nil => exact .cons h .nil
  | cons a _ ih => exact .cons a ih
theorem Fa2.len {α β : Type} {P : α → β → Prop} {as : List α} {bs : List β} (f : Fa2 P as bs) : as.length = bs.length := by
  induction f with
  | nil => rfl
  | cons a _ ih => simp [ih]
theorem Fa2.at {α β : Type} {P : α → β → Prop} {as : List α} {bs : List β} (f : Fa2 P as bs) : ∀ {j : Nat} {b : β}, bs[j]? = some b → ∃ a, as[j]? = some a ∧ P a b := by
  induction f with
  | nil => intro j b e; simp at e
  | cons h _ ih =>
    intro j b e
    cases j with
    | zero => simp at e; subst e; exact ⟨_, rfl, h⟩
    | succ j => simpa using ih (by simpa using e)
theorem CellAt.mono {H H' : AH} (k : Keep [] H H') {x : AV} {c : RC} (h : CellAt H x c) : CellAt H' x c := by
  cases c with
  | int i => exact h
  | met n => obtain ⟨t, e, h⟩ := h; exact ⟨t, e, k.at h⟩
theorem RowAt.mono {H H' : AH} (k : Keep [] H H') {x : AV} {r : List RC} (h : RowAt H x r) : RowAt H' x r := by
  obtain ⟨l, xs, e, h, f⟩ := h
  exact ⟨l, xs, e, k.at h, f.mono fun _ _ => CellAt.mono k⟩
def RowIn (F : AH) (e : AV → AV) (x : AV) (nd : Int × List AV) : Prop := ∃ t b, x = .ref t ∧ F t = some (.tup [.int nd.1, .ref b]) ∧ F b = some (.list (nd.2.map e))
theorem RowIn.mono {H H' : AH} (k : Keep [] H H') {e : AV → AV} {x : AV} {r : Int × List AV} (h : RowIn H e x r) : RowIn H' e x r := by
  obtain ⟨t, b, e, h1, h2⟩ := h
  exact ⟨t, b, e, k.at h1, k.at h2⟩

structure WI (H0 : AH) (e : AV → AV) (G : Gr) (mine : List AV) (ro rr rf : Addr) (o : List Addr) (fs : List (List RC)) (F H : AH) : Prop where
  k0 : Keep [] H0 F
  k1 : Keep [] F H
  f1 : F ro = none
  f2 : F rr = none
  f3 : F rf = none
  ne : ro ≠ rr ∧ ro ≠ rf ∧ rr ≠ rf
  ho : H ro = some (.list (o.map fun l => e (.ref l)))
  hr : ∃ rl, H rr = some (.list rl) ∧ Fa2 (RowIn F e) rl ((-1, mine) :: o.map fun l => (G.kd l, G.it l))
  hf : ∃ fl, H rf = some (.list fl) ∧ Fa2 (RowAt F) fl fs
structure WR (F H : AH) (ro rr rf rw : Addr) (r : List RC) : Prop where
  f4 : F rw = none
  n1 : rw ≠ ro
  n2 : rw ≠ rr
  n3 : rw ≠ rf
  hw : ∃ wl, H rw = some (.list wl) ∧ Fa2 (CellAt F) wl r

section
variable {H0 : AH} {e : AV → AV} {G : Gr} {mine : List AV} {ro rr rf rw : Addr} {o : List Addr} {fs : List (List RC)} {r : List RC} {F H : AH}

theorem keep_set {F H : AH} (k : Keep [] F H) {a : Addr} {x : AO} (h : F a = none) : Keep [] F (H.set a x) := fun b o' _ e' => by
  rw [AH.set_ne _ _ (by rintro rfl; rw [h] at e'; cases e')]; exact k b o' (by simp) e'
theorem keep_both {F H : AH} (k : Keep [] F H) {a : Addr} {x : AO} : Keep [] (F.set a x) (H.set a x) := fun b o' _ e' => by
  by_cases hb : b = a
  · subst hb; rw [AH.set_self] at e' ⊢; exact e'
  · rw [AH.set_ne _ _ hb] at e' ⊢; exact k b o' (by simp) e'
theorem keep_none {F H : AH} (k : Keep [] F H) {a : Addr} (h : H a = none) : F a = none := by
  cases e' : F a with
  | none => rfl
  | some o' => rw [k.at e'] at h; cases h
theorem some_ne {H : AH} {a b : Addr} {x : AO} (h : H a = some x) (h' : H b = none) : a ≠ b := by rintro rfl; rw [h] at h'; cases h'

/-- something new that stays -/
theorem WI.new (w : WI H0 e G mine ro rr rf o fs F H) {d : Addr} {x : AO} (hd : H d = none) : WI H0 e G mine ro rr rf o fs (F.set d x) (H.set d x) := by
  obtain ⟨rl, h1, h2⟩ := w.hr
  obtain ⟨fl, h3, h4⟩ := w.hf
  have a1 := some_ne w.ho hd
  have a2 := some_ne h1 hd
  have a3 := some_ne h3 hd
  have kf : Keep [] F (F.set d x) := keep_set Keep.refl (keep_none w.k1 hd)
  exact ⟨w.k0.trans kf, keep_both w.k1, by rw [AH.set_ne _ _ a1]; exact w.f1, by rw [AH.set_ne _ _ a2]; exact w.f2, by rw [AH.set_ne _ _ a3]; exact w.f3, w.ne,
    by rw [AH.set_ne _ _ a1]; exact w.ho, ⟨rl, by rw [AH.set_ne _ _ a2]; exact h1, h2.mono fun _ _ => RowIn.mono kf⟩, ⟨fl, by rw [AH.set_ne _ _ a3]; exact h3, h4.mono fun _ _ => RowAt.mono kf⟩⟩
/-- something else that turns -/
theorem WI.put (w : WI H0 e G mine ro rr rf o fs F H) {d : Addr} {x : AO} (h4 : F d = none) (n1 : d ≠ ro) (n2 : d ≠ rr) (n3 : d ≠ rf) : WI H0 e G mine ro rr rf o fs F (H.set d x) := by
  obtain ⟨rl, h1, h2⟩ := w.hr
  obtain ⟨fl, h3, h4'⟩ := w.hf
  exact ⟨w.k0, keep_set w.k1 h4, w.f1, w.f2, w.f3, w.ne, by rw [AH.set_ne _ _ (Ne.symm n1)]; exact w.ho, ⟨rl, by rw [AH.set_ne _ _ (Ne.symm n2)]; exact h1, h2⟩, ⟨fl, by rw [AH.set_ne _ _ (Ne.symm n3)]; exact h3, h4'⟩⟩
theorem WR.new (w : WR F H ro rr rf rw r) {d : Addr} {x : AO} (k : Keep [] F H) (hd : H d = none) : WR (F.set d x) (H.set d x) ro rr rf rw r := by
  obtain ⟨wl, h1, h2⟩ := w.hw
  have a1 := some_ne h1 hd
  have kf : Keep [] F (F.set d x) := keep_set Keep.refl (keep_none k hd)
  exact ⟨by rw [AH.set_ne _ _ a1]; exact w.f4, w.n1, w.n2, w.n3, wl, by rw [AH.set_ne _ _ a1]; exact h1, h2.mono fun _ _ => CellAt.mono kf⟩
/-- a row is begun -/
theorem WI.row (w : WI H0 e G mine ro rr rf o fs F H) {d : Addr} {k : Int} (hd : H d = none) : WI H0 e G mine ro rr rf o fs F (H.set d (.list [.int k])) ∧ WR F (H.set d (.list [.int k])) ro rr rf d [.int k] := by
  obtain ⟨rl, h1, h2⟩ := w.hr
  obtain ⟨fl, h3, h4⟩ := w.hf
  have fd := keep_none w.k1 hd
  have a1 := Ne.symm (some_ne w.ho hd)
  have a2 := Ne.symm (some_ne h1 hd)
  have a3 := Ne.symm (some_ne h3 hd)
  exact ⟨w.put fd a1 a2 a3, fd, a1, a2, a3, _, AH.set_self .., .cons rfl .nil⟩
theorem WR.cell (w : WR F H ro rr rf rw r) {wl : List AV} {x : AV} {c : RC} (h : H rw = some (.list wl)) (hx : CellAt F x c) : WR F (H.set rw (.list (wl ++ [x]))) ro rr rf rw (r ++ [c]) := by
  obtain ⟨wl', h1, h2⟩ := w.hw
  rw [h] at h1; cases h1
  exact ⟨w.f4, w.n1, w.n2, w.n3, _, AH.set_self .., h2.snoc hx⟩
theorem WI.cell (w : WI H0 e G mine ro rr rf o fs F H) (wr : WR F H ro rr rf rw r) {x : AO} : WI H0 e G mine ro rr rf o fs F (H.set rw x) := w.put wr.f4 wr.n1 wr.n2 wr.n3
/-- a node is met for the first time -/
theorem WI.add (w : WI H0 e G mine ro rr rf o fs F H) {l b t : Addr} {rl : List AV} (hb : (H.set ro (.list ((o ++ [l]).map fun l => e (.ref l)))) b = none) (ht : ((H.set ro (.list ((o ++ [l]).map fun l => e (.ref l)))).set b (.list ((G.it l).map e))) t = none) (hr : H rr = some (.list rl)) :
    ∃ F', Keep [] F F' ∧ (∀ a, H a ≠ none → F a = none → F' a = none) ∧ WI H0 e G mine ro rr rf (o ++ [l]) fs F' ((((H.set ro (.list ((o ++ [l]).map fun l => e (.ref l)))).set b (.list ((G.it l).map e))).set t (.tup [.int (G.kd l), .ref b])).set rr (.list (rl ++ [.ref t]))) := by
  obtain ⟨rl', h1, h2⟩ := w.hr
  rw [hr] at h1; cases h1
  obtain ⟨fl, h3, h4⟩ := w.hf
  obtain ⟨n1, n2, n3⟩ := w.ne
  have b1 : b ≠ ro := by rintro rfl; rw [AH.set_self] at hb; cases hb
  have hb' : H b = none := by rwa [AH.set_ne _ _ b1] at hb
  have t1 : t ≠ b := by rintro rfl; rw [AH.set_self] at ht; cases ht
  have ht' := ht
  rw [AH.set_ne _ _ t1] at ht'
  have t2 : t ≠ ro := by rintro rfl; rw [AH.set_self] at ht'; cases ht'
  have ht'' : H t = none := by rwa [AH.set_ne _ _ t2] at ht'
  have b2 := some_ne hr hb'
  have b3 := some_ne h3 hb'
  have t3 := some_ne hr ht''
  have t4 := some_ne h3 ht''
  have fb := keep_none w.k1 hb'
  have ft := keep_none w.k1 ht''
  have kf1 : Keep [] F (F.set b (.list ((G.it l).map e))) := keep_set Keep.refl fb
  have kf2 : Keep [] (F.set b (.list ((G.it l).map e))) ((F.set b (.list ((G.it l).map e))).set t (.tup [.int (G.kd l), .ref b])) := keep_set Keep.refl (by rw [AH.set_ne _ _ t1]; exact ft)
  have kf := kf1.trans kf2
  refine ⟨(F.set b (.list ((G.it l).map e))).set t (.tup [.int (G.kd l), .ref b]), kf, fun a ha hf => ?_, w.k0.trans kf, ?_, ?_, ?_, ?_, w.ne, ?_, ⟨_, AH.set_self .., ?_⟩, ⟨fl, ?_, h4.mono fun _ _ => RowAt.mono kf⟩⟩
  · rw [AH.set_ne _ _ (by rintro rfl; exact ha ht''), AH.set_ne _ _ (by rintro rfl; exact ha hb')]; exact hf
  · refine keep_set (keep_both (keep_both (keep_set w.k1 w.f1))) ?_
    rw [AH.set_ne _ _ t3, AH.set_ne _ _ b2]; exact w.f2
  · rw [AH.set_ne _ _ (Ne.symm t2), AH.set_ne _ _ (Ne.symm b1)]; exact w.f1
  · rw [AH.set_ne _ _ t3, AH.set_ne _ _ b2]; exact w.f2
  · rw [AH.set_ne _ _ t4, AH.set_ne _ _ b3]; exact w.f3
  · rw [AH.set_ne _ _ n1, AH.set_ne _ _ (Ne.symm t2), AH.set_ne _ _ (Ne.symm b1), AH.set_self]
  · have := (h2.mono fun _ _ => RowIn.mono kf).snoc (a := .ref t) (b := (G.kd l, G.it l)) ⟨t, b, rfl, AH.set_self .., by rw [AH.set_ne _ _ (Ne.symm t1), AH.set_self]⟩
    simpa using this
  · rw [AH.set_ne _ _ (Ne.symm n3), AH.set_ne _ _ t4, AH.set_ne _ _ b3, AH.set_ne _ _ (Ne.symm n2)]; exact h3
/-- a row is done -/
theorem WI.found (w : WI H0 e G mine ro rr rf o fs F H) (wr : WR F H ro rr rf rw r) {fl : List AV} (hf : H rf = some (.list fl)) :
    ∃ F', WI H0 e G mine ro rr rf o (fs ++ [r]) F' (H.set rf (.list (fl ++ [.ref rw]))) := by
  obtain ⟨rl, h1, h2⟩ := w.hr
  obtain ⟨fl', h3, h4⟩ := w.hf
  rw [hf] at h3; cases h3
  obtain ⟨wl, h5, h6⟩ := wr.hw
  obtain ⟨n1, n2, n3⟩ := w.ne
  have kf : Keep [] F (F.set rw (.list wl)) := keep_set Keep.refl wr.f4
  refine ⟨F.set rw (.list wl), w.k0.trans kf, ?_, ?_, ?_, ?_, w.ne, ?_, ⟨rl, ?_, h2.mono fun _ _ => RowIn.mono kf⟩, ⟨_, AH.set_self .., (h4.mono fun _ _ => RowAt.mono kf).snoc ⟨rw, wl, rfl, AH.set_self .., h6.mono fun _ _ => CellAt.mono kf⟩⟩⟩
  · have : Keep [] (F.set rw (.list wl)) H := fun b o' _ e' => by
      by_cases hb : b = rw
      · subst hb; rw [AH.set_self] at e'; rw [← e']; exact h5
      · rw [AH.set_ne _ _ hb] at e'; exact w.k1.at e'
    exact keep_set this (by rw [AH.set_ne _ _ (Ne.symm wr.n3)]; exact w.f3)
  · rw [AH.set_ne _ _ (Ne.symm wr.n1)]; exact w.f1
  · rw [AH.set_ne _ _ (Ne.symm wr.n2)]; exact w.f2
  · rw [AH.set_ne _ _ (Ne.symm wr.n3)]; exact w.f3
  · rw [AH.set_ne _ _ n2]; exact w.ho
  · rw [AH.set_ne _ _ n3]; exact h1
end
end Mine

-- F5
namespace Mine

theorem HeapAt.keep {H H' : AH} {s c : Addr} {cs : List Int} (h : HeapAt H s c cs) (k : Keep [] H H') : HeapAt H' s c cs :=
  let ⟨⟨d, a, b⟩, e, f⟩ := h; ⟨⟨d, k.at a, k.at b⟩, k.at e, f⟩
theorem StoreAt.keep {H H' : AH} {s c : Addr} {G : Gr} {L : List Addr} (h : StoreAt H s c G L) (k : Keep [] H H') : StoreAt H' s c G L := ⟨h.1.keep k, h.2⟩
theorem OwnAt.keep {H H' : AH} {G : Gr} {L : List Addr} (h : OwnAt H G L) (k : Keep [] H H') : OwnAt H' G L := fun l hl => k.at (h l hl)
def eS (f : Addr → Nat) (x : AV) : AV := .int (wd f x)
def eO (x : AV) : AV := x
theorem map_eS {f : Addr → Nat} (xs : List AV) : xs.map (eS f) = iL (xs.map (wd f)) := by simp [eS]

theorem WI.start {H : AH} {e : AV → AV} {G : Gr} {mine : List AV} {r ro t rr rf tt : Addr} {x : AO} (hr : H r = some (.list (mine.map e))) (h1 : H ro = none) (h2 : (H.set ro (.list [])) t = none) (h3 : ((H.set ro (.list [])).set t (.tup [.int (-1), .ref r])) rr = none)
    (h4 : (((H.set ro (.list [])).set t (.tup [.int (-1), .ref r])).set rr (.list [.ref t])) rf = none) (h5 : ((((H.set ro (.list [])).set t (.tup [.int (-1), .ref r])).set rr (.list [.ref t])).set rf (.list [])) tt = none) :
    ∃ F, WI H e G mine ro rr rf [] [] F (((((H.set ro (.list [])).set t (.tup [.int (-1), .ref r])).set rr (.list [.ref t])).set rf (.list [])).set tt x) := by
  have t1 : t ≠ ro := by rintro rfl; rw [AH.set_self] at h2; cases h2
  have h2' : H t = none := by rwa [AH.set_ne _ _ t1] at h2
  have r1 : rr ≠ t := by rintro rfl; rw [AH.set_self] at h3; cases h3
  rw [AH.set_ne _ _ r1] at h3
  have r2 : rr ≠ ro := by rintro rfl; rw [AH.set_self] at h3; cases h3
  rw [AH.set_ne _ _ r2] at h3
  have f1 : rf ≠ rr := by rintro rfl; rw [AH.set_self] at h4; cases h4
  rw [AH.set_ne _ _ f1] at h4
  have f2 : rf ≠ t := by rintro rfl; rw [AH.set_self] at h4; cases h4
  rw [AH.set_ne _ _ f2] at h4
  have f3 : rf ≠ ro := by rintro rfl; rw [AH.set_self] at h4; cases h4
  rw [AH.set_ne _ _ f3] at h4
  have g1 : tt ≠ rf := by rintro rfl; rw [AH.set_self] at h5; cases h5
  rw [AH.set_ne _ _ g1] at h5
  have g2 : tt ≠ rr := by rintro rfl; rw [AH.set_self] at h5; cases h5
  rw [AH.set_ne _ _ g2] at h5
  have g3 : tt ≠ t := by rintro rfl; rw [AH.set_self] at h5; cases h5
  rw [AH.set_ne _ _ g3] at h5
  have g4 : tt ≠ ro := by rintro rfl; rw [AH.set_self] at h5; cases h5
  rw [AH.set_ne _ _ g4] at h5
  have rt : r ≠ t := some_ne hr h2'
  refine ⟨H.set t (.tup [.int (-1), .ref r]), keep_set Keep.refl h2', ?_, ?_, ?_, ?_, ⟨Ne.symm r2, Ne.symm f3, Ne.symm f1⟩, ?_, ⟨[.ref t], ?_, .cons ⟨t, r, rfl, AH.set_self .., ?_⟩ .nil⟩, ⟨[], ?_, .nil⟩⟩
  · refine keep_set (keep_set (keep_set (keep_both (keep_set Keep.refl h1)) ?_) ?_) ?_
    · rw [AH.set_ne _ _ r1]; exact h3
    · rw [AH.set_ne _ _ f2]; exact h4
    · rw [AH.set_ne _ _ g3]; exact h5
  · rw [AH.set_ne _ _ (Ne.symm t1)]; exact h1
  · rw [AH.set_ne _ _ r1]; exact h3
  · rw [AH.set_ne _ _ f2]; exact h4
  · rw [AH.set_ne _ _ (Ne.symm g4), AH.set_ne _ _ (Ne.symm f3), AH.set_ne _ _ (Ne.symm r2), AH.set_ne _ _ (Ne.symm t1), AH.set_self]; rfl
  · rw [AH.set_ne _ _ (Ne.symm g2), AH.set_ne _ _ (Ne.symm f1), AH.set_self]
  · rw [AH.set_ne _ _ rt]; exact hr
  · rw [AH.set_ne _ _ (Ne.symm g1), AH.set_self]

section
variable {W : Wo} {A : Around} {env : Env} {μ : Mu} {H : AH} {n : Nat} {Q : AV → AH → Prop}

theorem s_fields (k : PK W) (a : AOk A (n + 3)) {s c : Addr} {G : Gr} {L : List Addr} (S : StoreAt H s c G L) {l : Addr} (hl : l ∈ L) (q : ∀ b, H b = none → Q (.ref b) (H.set b (.list ((G.it l).map (eS (off G L)))))) : Cal W A (.ref 217) [.ref s, .int (wd (off G L) (.ref l))] H Q := by
  have kd := (S.2.kind l hl).kd
  have hle := off_lt (G := G) hl
  unfold Gr.sz at hle
  refine c_fields k a S.1 (h := hdr G l) wd_ref wd_nn ?_ hdr_mod (hdr_nn kd) ?_ fun b hb => ?_
  · rw [wd_addr, Int.toNat_natCast]; exact cells_hdr hl
  · rw [wd_addr, hdr_len kd, cells_len]; omega
  · have e : (List.drop (wd (off G L) (.ref l) / 8 + 1).toNat (cells G L)).take (hdr G l / 8 / 16).toNat = (G.it l).map (wd (off G L)) := by
      rw [wd_addr, hdr_len kd, show ((off G L l : Int) + 1).toNat = off G L l + 1 by omega, Int.toNat_natCast]
      refine List.ext_getElem? fun i => ?_
      by_cases hi : i < (G.it l).length
      · rw [List.getElem?_take_of_lt hi, List.getElem?_drop, List.getElem?_map, List.getElem?_eq_getElem hi]
        exact cells_field hl (List.getElem?_eq_getElem hi)
      · rw [List.getElem?_eq_none (by rw [List.length_take]; omega), List.getElem?_eq_none (by simp; omega)]
    rw [e, ← map_eS]; exact q b hb

theorem mem_order {G : Gr} {L o : List Addr} {l : Addr} (hl : l ∈ L) (ho : ∀ m ∈ o, m ∈ L) : wd (off G L) (.ref l) ∈ o.map (fun m => wd (off G L) (.ref m)) ↔ l ∈ o := by
  simp only [List.mem_map]
  constructor
  · rintro ⟨m, hm, e⟩
    have : AV.ref m = AV.ref l := wd_inj (.inr ⟨m, rfl, ho m hm⟩) (.inr ⟨l, rfl, hl⟩) e
    cases this; exact hm
  · exact fun h => ⟨l, h, rfl⟩
theorem idx_at {o : List Addr} {l : Addr} (h : l ∈ o) : o[o.idxOf l]? = some l := by
  rw [List.getElem?_eq_getElem (List.idxOf_lt_length_of_mem h), List.getElem_idxOf]
theorem idx_min : ∀ {o : List Addr} {l : Addr} {i : Nat}, i < o.idxOf l → o[i]? ≠ some l
  | [], l, i, h => by simp at h
  | a :: r, l, i, h => by
    rw [List.idxOf_cons] at h
    by_cases e : a = l
    · simp [e] at h
    · have e' : (a == l) = false := by simpa using e
      rw [e'] at h
      cases i with
      | zero => simpa using e
      | succ i => simpa using idx_min (o := r) (l := l) (i := i) (by simpa using h)

/-- a statement that stores no name, what holds behind it, the rest -/
theorem Ex_consJ {st : Stmt} {rest : List Stmt} {Q : AF → Mu → AH → Prop} (J : AH → Prop) (h1 : Ex W A env (exec st env) μ H fun f μ' H' => match f with | .next => μ' = μ ∧ J H' | f => Q f μ' H') (h2 : ∀ H', J H' → Ex W A env (execs rest env) μ H' Q) : Ex W A env (execs (st :: rest) env) μ H Q :=
  Ex_cons (h1.mono fun f μ' H' h => by
    cases f with
    | next => obtain ⟨rfl, h⟩ := h; exact h2 _ h
    | brk => exact h
    | cont => exact h
    | ret a => exact h)
theorem WR.move {ro rr rf rw : Addr} {r : List RC} {F H F' H' : AH} (w : WR F H ro rr rf rw r) (k : Keep [] F F') (f : F' rw = none) (h : H' rw = H rw) : WR F' H' ro rr rf rw r := by
  obtain ⟨wl, h1, h2⟩ := w.hw
  exact ⟨f, w.n1, w.n2, w.n3, wl, h.trans h1, h2.mono fun _ _ => CellAt.mono k⟩
theorem nodeAt_item {G : Gr} {L o : List Addr} {mine : List AV} {j : Nat} {nd : Int × List AV} (w : Wf G L) (hm : ∀ x ∈ mine, Item L x) (h4 : mine.length ≤ 4) (ho : ∀ l ∈ o, l ∈ L) (h : nodeAt G mine o j = some nd) : (∀ x ∈ nd.2, Item L x) ∧ nd.2.length ≤ 4 := by
  cases j with
  | zero => simp [nodeAt] at h; subst h; exact ⟨hm, h4⟩
  | succ j =>
    simp only [nodeAt, List.getElem?_cons_succ, List.getElem?_map, Option.map_eq_some_iff] at h
    obtain ⟨l, hl, rfl⟩ := h
    have hl := ho l (List.mem_of_getElem? hl)
    have := (w.kind l hl).len
    exact ⟨w.item l hl, by show (G.it l).length ≤ 4; omega⟩
theorem fold_len : ∀ (xs : List AV) (p : List Addr × List RC), (xs.foldl rowStep p).2.length ≤ p.2.length + xs.length ∧ (xs.foldl rowStep p).1.length ≤ p.1.length + xs.length
  | [], p => by simp
  | x :: xs, p => by
    rw [List.foldl_cons]
    have := fold_len xs (rowStep p x)
    have h : (rowStep p x).2.length ≤ p.2.length + 1 ∧ (rowStep p x).1.length ≤ p.1.length + 1 := by
      cases x <;> simp [rowStep]
      unfold addN; split <;> simp
    simp only [List.length_cons]; omega
theorem bfs_step {G : Gr} {mine : List AV} {j : Nat} {nd : Int × List AV} (h : nodeAt G mine (bfs G mine j).1 j = some nd) : bfs G mine (j + 1) = ((nd.2.foldl rowStep ((bfs G mine j).1, [.int nd.1])).1, (bfs G mine j).2 ++ [(nd.2.foldl rowStep ((bfs G mine j).1, [.int nd.1])).2]) := by
  rw [bfs, h]
theorem fold_take {xs : List AV} {i : Nat} {x : AV} {p : List Addr × List RC} (h : xs[i]? = some x) : (xs.take (i + 1)).foldl rowStep p = rowStep ((xs.take i).foldl rowStep p) x := by
  obtain ⟨h1, h2⟩ := List.getElem?_eq_some_iff.mp h
  rw [List.take_add_one, h]; simp
theorem bfs_len {G : Gr} {mine : List AV} : ∀ j : Nat, (bfs G mine j).2.length ≤ j
  | 0 => by simp [bfs]
  | j + 1 => by
    have := bfs_len (G := G) (mine := mine) j
    cases e : nodeAt G mine (bfs G mine j).1 j with
    | none => rw [bfs, e]; dsimp only; omega
    | some nd => rw [bfs_step e]; simp; omega
theorem bfs_grow {G : Gr} {L : List Addr} {mine : List AV} {j : Nat} (w : Wf G L) (hm : ∀ x ∈ mine, Item L x) : (bfs G mine j).1.length ≤ (bfs G mine (j + 1)).1.length := by
  have hok := bfs_ok w hm j
  cases e : nodeAt G mine (bfs G mine j).1 j with
  | none => rw [bfs, e]; exact Nat.le_refl _
  | some nd =>
    rw [bfs_step e]
    have hit : ∀ x ∈ nd.2, Item L x := by
      cases j with
      | zero => simp [nodeAt] at e; subst e; exact hm
      | succ j =>
        simp only [nodeAt, List.getElem?_cons_succ, List.getElem?_map, Option.map_eq_some_iff] at e
        obtain ⟨l, hl, rfl⟩ := e
        exact w.item l (hok.2 l (List.mem_of_getElem? hl))
    refine fold_inv (fun o => (bfs G mine j).1.length ≤ o.length) L (fun o l _ h => ?_) nd.2 _ hit (Nat.le_refl _)
    exact Nat.le_trans h addN_pre.length_le

theorem c_walk (k : PK W) (a : AOk A (n + 6)) {s c r : Addr} {G : Gr} {L : List Addr} {mine : List AV} (S : StoreAt H s c G L) (hr : H r = some (.list (mine.map (eS (off G L))))) (hm : ∀ x ∈ mine, Item L x) (hm4 : mine.length ≤ 4)
    (hlen : L.length ≤ 1000) (q : ∀ x H', Keep [] H H' → RowsAt H' x (walkRows G L mine) → Q x H') : Cal W A (.ref 325) [.ref s, .ref r] H Q := by
  refine Cal_K2 (x := "store") (y := "roots") k a (by k_is) (by k_is) fun M A' a' => ?_
  refine Ex_cons <| Ex_assignTup a'.h <| Ev_tuple <| Evs_cons <| Ev_list <| Evs_nil ⟨by simp, fun ro h1 => Evs_cons <| Ev_list <| Evs_cons <| Ev_tuple <| Evs_cons <| Ev_neg <| Ev_int ⟨_, rfl, Evs_cons <| Ev_name rfl <| Evs_nil ⟨by simp, fun t h2 => Evs_nil ⟨by simp, fun rr h3 =>
    Evs_cons <| Ev_list <| Evs_nil ⟨by simp, fun rf h4 => Evs_cons <| Ev_int <| Evs_nil ⟨by simp, fun tt h5 => ?_⟩⟩⟩⟩⟩⟩
  refine ⟨tt, _, rfl, AH.set_self .., rfl, as_cons fun v hv => to_name <| as_cons fun v2 hv2 => to_name <| as_cons fun v3 hv3 => to_name <| as_cons fun v4 hv4 => to_name <| as_nil ?_⟩
  rw [hv, hv2, hv3, hv4]
  obtain ⟨F, wi⟩ := WI.start (G := G) (x := .tup [.ref ro, .ref rr, .ref rf, .int 0]) hr h1 h2 h3 h4 h5
  generalize (((((H.set ro (.list [])).set t (.tup [.int (-1), .ref r])).set rr (.list [.ref t])).set rf (.list [])).set tt (.tup [.ref ro, .ref rr, .ref rf, .int 0])) = H5 at wi ⊢
  refine Ex_cons <| Ex_while (fun m ν H' => ∃ j F, m = L.length + 2 - j ∧ j ≤ (bfs G mine j).1.length + 1 ∧ ν = [(Str.ofString "store", .ref s), (Str.ofString "roots", .ref r), (Str.ofString "order", .ref ro), (Str.ofString "rows", .ref rr), (Str.ofString "found", .ref rf), (Str.ofString "at", .int (j : Nat))] ∧
    WI H (eS (off G L)) G mine ro rr rf (bfs G mine j).1 (bfs G mine j).2 F H') (L.length + 2) (le_cons rfl <| le_cons rfl <| le_cons rfl <| le_cons rfl <| le_cons rfl <| le_cons rfl le_nil) ⟨0, F, rfl, Nat.zero_le _, rfl, wi⟩ ?_
  rintro m ν H' ⟨j, F, rfl, hj, rfl, wi⟩
  obtain ⟨rl, hrr, hfa⟩ := wi.hr
  have hrl : rl.length = (bfs G mine j).1.length + 1 := by rw [hfa.len]; simp
  obtain ⟨ond, osub⟩ := bfs_ok (L := L) S.2 hm j
  have hol := nodup_le ond osub
  refine Evb_cmp <| Ev_name rfl <| E_len k <| Ev_name rfl ⟨rr, rl, rfl, hrr, by omega, cmp_lt ⟨fun e => ?_, fun e => ?_⟩⟩
  · have hjl : j < rl.length := by have := of_decide_eq_true e; omega
    obtain ⟨nd, hnd⟩ : ∃ nd, nodeAt G mine (bfs G mine j).1 j = some nd := ⟨_, List.getElem?_eq_getElem (by rw [hfa.len] at hjl; exact hjl)⟩
    obtain ⟨x, hx, t, b, rfl, ht, hb⟩ := hfa.at hnd
    obtain ⟨hit, hn4⟩ := nodeAt_item S.2 hm hm4 osub hnd
    refine Ex_cons <| Ex_assignTup a'.h <| E_at (l := rr) (xs := rl) (i := j) <| Ev_name rfl ⟨rfl, Ev_name rfl ⟨rfl, hrr, by omega, by omega, by simpa using hx, t, _, rfl, wi.k1.at ht, rfl, as_cons fun v hv => to_name <| as_cons fun u hu => to_name <| as_nil ?_⟩⟩
    rw [hv, hu]
    refine Ex_cons <| Ex_assign <| Ev_list <| Evs_cons <| Ev_name rfl <| Evs_nil ⟨by simp, fun rw hrw => ?_⟩
    obtain ⟨wi1, wr1⟩ := wi.row hrw (k := nd.1)
    generalize H'.set rw (.list [.int nd.1]) = H1 at wi1 wr1 ⊢
    have hlb : (Src.list b (nd.2.map (eS (off G L)))).items.length = nd.2.length := by simp [Src.items]
    refine Ex_cons <| Ex_forQ a'.h <| Ev_name rfl ⟨.list b (nd.2.map (eS (off G L))), rfl, wi1.k1.at hb, fun i ν H2 => ∃ F2, ν = [(Str.ofString "store", .ref s), (Str.ofString "roots", .ref r), (Str.ofString "order", .ref ro), (Str.ofString "rows", .ref rr), (Str.ofString "found", .ref rf), (Str.ofString "at", .int (j : Nat)), (Str.ofString "words", .ref b), (Str.ofString "row", .ref rw)] ∧
      WI H (eS (off G L)) G mine ro rr rf ((nd.2.take i).foldl rowStep ((bfs G mine j).1, [.int nd.1])).1 (bfs G mine j).2 F2 H2 ∧ WR F2 H2 ro rr rf rw ((nd.2.take i).foldl rowStep ((bfs G mine j).1, [.int nd.1])).2 ∧ F2 b = some (.list (nd.2.map (eS (off G L)))),
      ⟨_, le_cons rfl <| le_cons rfl <| le_cons rfl <| le_cons rfl <| le_cons rfl <| le_cons rfl <| le_cons rfl <| le_cons rfl le_nil, F, rfl, wi1, wr1, hb⟩, ?_, ?_, ?_⟩
    · rintro i ν H2 ⟨F2, _, w1, _, h⟩; exact w1.k1.at h
    · rintro i z ν H2 hz ⟨F2, rfl, w1, w2, hb2⟩ Q9 hN _
      have hz : (nd.2.map (eS (off G L)))[i]? = some z := hz
      rw [List.getElem?_map] at hz
      obtain ⟨x, hx, rfl⟩ := Option.map_eq_some_iff.mp hz
      have hxi := hit x (List.mem_of_getElem? hx)
      have hst := fold_take (p := ((bfs G mine j).1, [RC.int nd.1])) hx
      have hlen2 := fold_len (nd.2.take i) ((bfs G mine j).1, [RC.int nd.1])
      have hsub : (((nd.2.take i).foldl rowStep ((bfs G mine j).1, [.int nd.1])).1).Nodup ∧ ∀ l ∈ ((nd.2.take i).foldl rowStep ((bfs G mine j).1, [.int nd.1])).1, l ∈ L :=
        fold_inv (fun o => o.Nodup ∧ ∀ l ∈ o, l ∈ L) L (fun o l hl h => ⟨addN_nodup h.1, fun m hm => (addN_sub hm).elim (h.2 m) fun e => e ▸ hl⟩) _ _ (fun y hy => hit y (List.mem_of_mem_take hy)) ⟨ond, osub⟩
      generalize (nd.2.take i).foldl rowStep ((bfs G mine j).1, [RC.int nd.1]) = p at w1 w2 hlen2 hsub hst
      have htl : (nd.2.take i).length ≤ 4 := by rw [List.length_take]; omega
      obtain ⟨o, rr'⟩ := p
      dsimp only at w1 w2 hlen2 hsub
      simp only [List.length_cons, List.length_nil] at hlen2
      obtain ⟨wl, hw1, hw2⟩ := w2.hw
      have hwl : wl.length ≤ 1000000 := by rw [hw2.len]; omega
      have hol2 := nodup_le hsub.1 hsub.2
      refine Ex_cons <| Ex_if <| Evb_not <| Evb_val <| E_isRef k a' <| Ev_name rfl ⟨_, rfl, _, rfl, fun e => ?_, fun e => ?_⟩
      · obtain ⟨i', rfl, _⟩ := isRef_wd' hxi (by simpa using e)
        refine Ex_cons <| Ex_expr <| Ev_lm PySem.F.slot_list_append rfl <| Ev_name rfl ⟨rw, wl, rfl, hw1, Evs_cons <| Ev_name rfl <| Evs_nil <| call_append hw1 hwl <| Ex_nil <| Ex_nil ?_⟩
        exact hN _ _ _ (le_cons rfl <| le_cons rfl <| le_cons rfl <| le_cons rfl <| le_cons rfl <| le_cons rfl <| le_cons rfl <| le_cons rfl le_nil) ⟨F2, rfl, by rw [hst]; exact w1.cell w2, by rw [hst]; exact w2.cell hw1 rfl, hb2⟩
      · obtain ⟨l, rfl, hlL⟩ := isRef_wd hxi (by simpa using e)
        have eqo : ∀ o : List Addr, (o.map fun m => eS (off G L) (.ref m)) = iL (o.map fun m => wd (off G L) (.ref m)) := fun o => by simp [eS]
        refine Ex_consJ (fun H3 => ∃ F3, WI H (eS (off G L)) G mine ro rr rf (addN o l) (bfs G mine j).2 F3 H3 ∧ WR F3 H3 ro rr rf rw rr' ∧ F3 b = some (.list (nd.2.map (eS (off G L))))) ?_ ?_
        · have ho1 := w1.ho
          refine Ex_if <| Evb_cmp <| Ev_name rfl <| Ev_name rfl <| cmp_notInL (by rw [ho1, eqo]) ⟨fun e => ?_, fun e => Ex_nil ⟨rfl, F2, ?_, w2, hb2⟩⟩
          · have hno : l ∉ o := by
              rw [← mem_order hlL hsub.2]
              simpa using e
            have ha : addN o l = o ++ [l] := by unfold addN; rw [if_neg hno]
            rw [ha]
            refine Ex_cons <| Ex_expr <| Ev_lm PySem.F.slot_list_append rfl <| Ev_name rfl ⟨ro, _, rfl, ho1, Evs_cons <| Ev_name rfl <| Evs_nil <| call_append ho1 (by simp; omega) ?_⟩
            have em : (o.map fun m => eS (off G L) (.ref m)) ++ [AV.int (wd (off G L) (.ref l))] = (o ++ [l]).map fun m => eS (off G L) (.ref m) := by simp [eS]
            show Ex W A' _ _ _ (H2.set ro (.list ((o.map fun m => eS (off G L) (.ref m)) ++ [AV.int (wd (off G L) (.ref l))]))) _
            rw [em]
            have k1 : Keep [] F2 (H2.set ro (.list ((o ++ [l]).map fun m => eS (off G L) (.ref m)))) := keep_set w1.k1 w1.f1
            have S1 := (S.keep w1.k0).keep k1
            obtain ⟨rl2, hr2, hr3⟩ := w1.hr
            have hrl2 : rl2.length ≤ 10000 := by rw [hr3.len]; simp; omega
            refine Ex_cons <| Ex_expr <| Ev_lm PySem.F.slot_list_append rfl <| Ev_name rfl ⟨rr, rl2, rfl, by rw [AH.set_ne _ _ (Ne.symm w1.ne.1)]; exact hr2, Evs_cons <| Ev_tuple <| Evs_cons <|
              Ev_cm k (by k_is) (by k_is) (by k_is) rfl <| Ev_name rfl ⟨s, 900, c, rfl, S1.1.1, Evs_cons <| Ev_name rfl <| Evs_nil <| s_kindOf k a' S1 hlL <| Evs_cons <|
              Ev_cm k (by k_is) (by k_is) (by k_is) rfl <| Ev_name rfl ⟨s, 900, c, rfl, S1.1.1, Evs_cons <| Ev_name rfl <| Evs_nil <| s_fields k a' S1 hlL fun fb hfb => Evs_nil ⟨by simp, fun ft hft => Evs_nil <| call_append (xs := rl2) ?_ (by omega) <| Ex_nil ?_⟩⟩⟩⟩
            · have b1 := some_ne hr2 (a := rr) (b := fb) (by rwa [AH.set_ne _ _ (by rintro rfl; rw [AH.set_self] at hfb; cases hfb)] at hfb)
              have n1 : rr ≠ ft := by
                rintro rfl
                rw [AH.set_ne _ _ b1, AH.set_ne _ _ (Ne.symm w1.ne.1), hr2] at hft; cases hft
              rw [AH.set_ne _ _ n1, AH.set_ne _ _ b1, AH.set_ne _ _ (Ne.symm w1.ne.1)]; exact hr2
            · obtain ⟨F3, kf, fn, w3⟩ := w1.add hfb hft hr2
              refine ⟨rfl, F3, w3, w2.move kf (fn rw (by rw [hw1]; simp) w2.f4) ?_, kf.at hb2⟩
              have nb : rw ≠ fb := by
                rintro rfl
                rw [AH.set_ne _ _ w2.n1, hw1] at hfb; cases hfb
              have nt : rw ≠ ft := by
                rintro rfl
                rw [AH.set_ne _ _ nb, AH.set_ne _ _ w2.n1, hw1] at hft; cases hft
              rw [AH.set_ne _ _ w2.n2, AH.set_ne _ _ nt, AH.set_ne _ _ nb, AH.set_ne _ _ w2.n1]
          · have hyes : l ∈ o := by
              rw [← mem_order hlL hsub.2]
              simpa using e
            have ha : addN o l = o := by unfold addN; rw [if_pos hyes]
            rw [ha]; exact w1
        · rintro H3 ⟨F3, w3, wr3, hb3⟩
          have hmem : l ∈ addN o l := addN_mem
          have hsub3 : ∀ m ∈ addN o l, m ∈ L := fun m hm => (addN_sub hm).elim (hsub.2 m) fun e => e ▸ hlL
          have ho3 := w3.ho
          rw [eqo] at ho3
          obtain ⟨wl3, hw3, hw4⟩ := wr3.hw
          have hlen3 : (addN o l).length ≤ 10000 := by
            have := nodup_le (addN_nodup (l := l) hsub.1) hsub3; omega
          refine Ex_cons <| Ex_expr <| Ev_lm PySem.F.slot_list_append rfl <| Ev_name rfl ⟨rw, wl3, rfl, hw3, Evs_cons <| Ev_tuple <| Evs_cons <| Ev_strC <| Evs_cons <| Ev_lm PySem.F.slot_list_index rfl <| Ev_name rfl ⟨ro, _, rfl, ho3, Evs_cons <| Ev_name rfl <| Evs_nil <|
            call_index (j := (addN o l).idxOf l) ho3 (by simp; omega) ?_ ?_ <| Evs_nil ⟨by simp, fun tm htm => Evs_nil <| call_append (xs := wl3) ?_ (by rw [hw4.len]; omega) <| Ex_nil <| Ex_nil ?_⟩⟩⟩
          · rw [List.getElem?_map, idx_at hmem]; rfl
          · intro i' hi'
            rw [List.getElem?_map]
            intro e
            obtain ⟨m, hm', e'⟩ := Option.map_eq_some_iff.mp e
            have hmo := List.mem_of_getElem? hm'
            have : AV.ref m = AV.ref l := wd_inj (.inr ⟨m, rfl, hsub3 m hmo⟩) (.inr ⟨l, rfl, hlL⟩) e'
            cases this
            exact idx_min hi' hm'
          · rw [AH.set_ne _ _ (some_ne hw3 htm)]; exact hw3
          · have w4 := w3.new (x := .tup [.str (Str.ofString "met"), .int ((addN o l).idxOf l : Nat)]) htm
            have wr4 := wr3.new (x := .tup [.str (Str.ofString "met"), .int ((addN o l).idxOf l : Nat)]) w3.k1 htm
            have hw5 : (H3.set tm (.tup [.str (Str.ofString "met"), .int ((addN o l).idxOf l : Nat)])) rw = some (.list wl3) := by rw [AH.set_ne _ _ (some_ne hw3 htm)]; exact hw3
            exact hN _ _ _ (le_cons rfl <| le_cons rfl <| le_cons rfl <| le_cons rfl <| le_cons rfl <| le_cons rfl <| le_cons rfl <| le_cons rfl le_nil) ⟨_, rfl, by rw [hst]; exact w4.cell wr4, by rw [hst]; exact wr4.cell hw5 ⟨tm, rfl, AH.set_self ..⟩,
              by rw [AH.set_ne _ _ (by rintro rfl; exact absurd (w3.k1.at hb3) (by rw [htm]; simp))]; exact hb3⟩
    · rintro ν H2 ⟨F2, rfl, w1, w2, hb2⟩
      rw [hlb, List.take_length] at w1 w2
      obtain ⟨fl, hf1, hf2⟩ := w1.hf
      have hfl : fl.length ≤ 1000000 := by
        have := bfs_len (G := G) (mine := mine) j
        rw [hf2.len]; omega
      refine Ex_cons <| Ex_expr <| Ev_lm PySem.F.slot_list_append rfl <| Ev_name rfl ⟨rf, fl, rfl, hf1, Evs_cons <| Ev_name rfl <| Evs_nil <| call_append hf1 hfl ?_⟩
      obtain ⟨F3, w3⟩ := w1.found w2 hf1
      refine Ex_cons <| Ex_assign <| Ev_add <| Ev_name rfl <| Ev_int ⟨_, _, rfl, rfl, Ex_nil ?_⟩
      have hgr := bfs_grow (j := j) S.2 hm
      have hst := bfs_step hnd
      refine ⟨_, le_cons rfl <| le_cons rfl <| le_cons rfl <| le_cons rfl <| le_cons rfl <| le_cons rfl le_nil, L.length + 2 - (j + 1), by omega, j + 1, F3, rfl, by omega, by push_cast; rfl, ?_⟩
      rw [hst]; exact w3
  · have hjl : ¬ j < rl.length := by have := of_decide_eq_false e; omega
    refine Ex_cons <| Ex_ret <| Ev_name rfl ?_
    obtain ⟨fl, hf1, hf2⟩ := wi.hf
    refine q _ _ (wi.k0.trans wi.k1) ?_
    unfold walkRows
    rw [bfs_end S.2 hm (j := j) (by omega) (by omega)]
    exact ⟨rf, fl, rfl, hf1, hf2.mono fun _ _ => RowAt.mono wi.k1⟩
end
end Mine

-- F6
namespace Mine

section
variable {W : Wo} {A : Around} {env : Env} {μ : Mu} {H : AH} {n : Nat} {Q : AV → AH → Prop}

theorem Ex_consN {st : Stmt} {rest : List Stmt} {Q : AF → Mu → AH → Prop} (J : Mu → AH → Prop) (h1 : Ex W A env (exec st env) μ H fun f μ' H' => match f with | .next => ∃ ν, Mu.le ν μ' ∧ J ν H' | f => Q f μ' H') (h2 : ∀ ν H', J ν H' → Ex W A env (execs rest env) ν H' Q) : Ex W A env (execs (st :: rest) env) μ H Q :=
  Ex_cons (h1.mono fun f μ' H' h => by
    cases f with
    | next => obtain ⟨ν, l, h⟩ := h; exact (h2 _ _ h).le l
    | brk => exact h
    | cont => exact h
    | ret a => exact h)

/-- where l stands in o, of the first k places -/
def spots (o : List Addr) (l : Addr) (k : Nat) : List Int := ((List.range k).filter fun i => o[i]? == some l).map Int.ofNat
theorem spots_succ {o : List Addr} {l : Addr} {k : Nat} : spots o l (k + 1) = if o[k]? = some l then spots o l k ++ [(k : Int)] else spots o l k := by
  unfold spots
  rw [List.range_succ, List.filter_append, List.map_append]
  by_cases h : o[k]? = some l
  · simp [h]
  · have : (o[k]? == some l) = false := by simpa using h
    simp [h, this]
theorem spots_out {o : List Addr} {l : Addr} (h : l ∉ o) : ∀ k, spots o l k = []
  | 0 => rfl
  | k + 1 => by
    rw [spots_succ, if_neg (fun e => h (List.mem_of_getElem? e)), spots_out h k]
theorem spots_in {o : List Addr} {l : Addr} (nd : o.Nodup) (h : l ∈ o) : ∀ k, spots o l k = if o.idxOf l < k then [(o.idxOf l : Int)] else []
  | 0 => by simp [spots]
  | k + 1 => by
    rw [spots_succ, spots_in nd h k]
    by_cases e : o[k]? = some l
    · have hk : k = o.idxOf l := by
        have h1 := idx_at h
        obtain ⟨a1, a2⟩ := List.getElem?_eq_some_iff.mp e
        obtain ⟨b1, b2⟩ := List.getElem?_eq_some_iff.mp h1
        exact (List.getElem_inj nd).mp (a2.trans b2.symm)
      rw [if_pos e, if_neg (by omega), if_pos (by omega), hk]; rfl
    · rw [if_neg e]
      have hk : k ≠ o.idxOf l := fun q => e (q ▸ idx_at h)
      by_cases h2 : o.idxOf l < k
      · rw [if_pos h2, if_pos (by omega)]
      · rw [if_neg h2, if_neg (by omega)]

theorem cmp_isO {G : Gr} {L : List Addr} {a b : Addr} {Q : Bool → AH → Prop} (o : OwnAt H G L) (ha : a ∈ L) (hb : b ∈ L) (q : Q (decide (a = b)) H) : CmpT W A env .Is (.ref a) (.ref b) μ H Q := cmp_is (o a ha) (o b hb) q

theorem c_walkOwn (k : PK W) (a : AOk A (n + 3)) {r : Addr} {G : Gr} {L : List Addr} {mine : List AV} (w : Wf G L) (O : OwnAt H G L) (hr : H r = some (.list mine)) (hm : ∀ x ∈ mine, Item L x) (hm4 : mine.length ≤ 4)
    (hlen : L.length ≤ 1000) (q : ∀ x H', Keep [] H H' → RowsAt H' x (walkRows G L mine) → Q x H') : Cal W A (.ref 330) [.ref r] H Q := by
  refine Cal_K1 (x := "roots") k a (by k_is) (by k_is) fun M A' a' => ?_
  have hr' : H r = some (.list (mine.map eO)) := by rw [hr, show mine.map eO = mine from List.map_id' mine]
  refine Ex_cons <| Ex_assignTup a'.h <| Ev_tuple <| Evs_cons <| Ev_list <| Evs_nil ⟨by simp, fun ro h1 => Evs_cons <| Ev_list <| Evs_cons <| Ev_tuple <| Evs_cons <| Ev_neg <| Ev_int ⟨_, rfl, Evs_cons <| Ev_name rfl <| Evs_nil ⟨by simp, fun t h2 => Evs_nil ⟨by simp, fun rr h3 =>
    Evs_cons <| Ev_list <| Evs_nil ⟨by simp, fun rf h4 => Evs_cons <| Ev_int <| Evs_nil ⟨by simp, fun tt h5 => ?_⟩⟩⟩⟩⟩⟩
  refine ⟨tt, _, rfl, AH.set_self .., rfl, as_cons fun v hv => to_name <| as_cons fun v2 hv2 => to_name <| as_cons fun v3 hv3 => to_name <| as_cons fun v4 hv4 => to_name <| as_nil ?_⟩
  rw [hv, hv2, hv3, hv4]
  obtain ⟨F, wi⟩ := WI.start (G := G) (x := .tup [.ref ro, .ref rr, .ref rf, .int 0]) hr' h1 h2 h3 h4 h5
  generalize (((((H.set ro (.list [])).set t (.tup [.int (-1), .ref r])).set rr (.list [.ref t])).set rf (.list [])).set tt (.tup [.ref ro, .ref rr, .ref rf, .int 0])) = H5 at wi ⊢
  refine Ex_cons <| Ex_while (fun m ν H' => ∃ j F, m = L.length + 2 - j ∧ j ≤ (bfs G mine j).1.length + 1 ∧ ν = [(Str.ofString "roots", .ref r), (Str.ofString "order", .ref ro), (Str.ofString "rows", .ref rr), (Str.ofString "found", .ref rf), (Str.ofString "at", .int (j : Nat))] ∧
    WI H eO G mine ro rr rf (bfs G mine j).1 (bfs G mine j).2 F H') (L.length + 2) (le_cons rfl <| le_cons rfl <| le_cons rfl <| le_cons rfl <| le_cons rfl le_nil) ⟨0, F, rfl, Nat.zero_le _, rfl, wi⟩ ?_
  rintro m ν H' ⟨j, F, rfl, hj, rfl, wi⟩
  obtain ⟨rl, hrr, hfa⟩ := wi.hr
  have hrl : rl.length = (bfs G mine j).1.length + 1 := by rw [hfa.len]; simp
  obtain ⟨ond, osub⟩ := bfs_ok (L := L) w hm j
  have hol := nodup_le ond osub
  refine Evb_cmp <| Ev_name rfl <| E_len k <| Ev_name rfl ⟨rr, rl, rfl, hrr, by omega, cmp_lt ⟨fun e => ?_, fun e => ?_⟩⟩
  · have hjl : j < rl.length := by have := of_decide_eq_true e; omega
    obtain ⟨nd, hnd⟩ : ∃ nd, nodeAt G mine (bfs G mine j).1 j = some nd := ⟨_, List.getElem?_eq_getElem (by rw [hfa.len] at hjl; exact hjl)⟩
    obtain ⟨x, hx, t, b, rfl, ht, hb⟩ := hfa.at hnd
    obtain ⟨hit, hn4⟩ := nodeAt_item w hm hm4 osub hnd
    refine Ex_cons <| Ex_assignTup a'.h <| E_at (l := rr) (xs := rl) (i := j) <| Ev_name rfl ⟨rfl, Ev_name rfl ⟨rfl, hrr, by omega, by omega, by simpa using hx, t, _, rfl, wi.k1.at ht, rfl, as_cons fun v hv => to_name <| as_cons fun u hu => to_name <| as_nil ?_⟩⟩
    rw [hv, hu]
    refine Ex_cons <| Ex_assign <| Ev_list <| Evs_cons <| Ev_name rfl <| Evs_nil ⟨by simp, fun rw hrw => ?_⟩
    obtain ⟨wi1, wr1⟩ := wi.row hrw (k := nd.1)
    generalize H'.set rw (.list [.int nd.1]) = H1 at wi1 wr1 ⊢
    have hlb : (Src.list b (nd.2.map eO)).items.length = nd.2.length := by simp [Src.items]
    refine Ex_cons <| Ex_forQ a'.h <| Ev_name rfl ⟨.list b (nd.2.map eO), rfl, wi1.k1.at hb, fun i ν H2 => ∃ F2, ν = [(Str.ofString "roots", .ref r), (Str.ofString "order", .ref ro), (Str.ofString "rows", .ref rr), (Str.ofString "found", .ref rf), (Str.ofString "at", .int (j : Nat)), (Str.ofString "things", .ref b), (Str.ofString "row", .ref rw)] ∧
      WI H eO G mine ro rr rf ((nd.2.take i).foldl rowStep ((bfs G mine j).1, [.int nd.1])).1 (bfs G mine j).2 F2 H2 ∧ WR F2 H2 ro rr rf rw ((nd.2.take i).foldl rowStep ((bfs G mine j).1, [.int nd.1])).2 ∧ F2 b = some (.list (nd.2.map eO)),
      ⟨_, le_cons rfl <| le_cons rfl <| le_cons rfl <| le_cons rfl <| le_cons rfl <| le_cons rfl <| le_cons rfl le_nil, F, rfl, wi1, wr1, hb⟩, ?_, ?_, ?_⟩
    · rintro i ν H2 ⟨F2, _, w1, _, h⟩; exact w1.k1.at h
    · rintro i z ν H2 hz ⟨F2, rfl, w1, w2, hb2⟩ Q9 hN _
      have hz : (nd.2.map eO)[i]? = some z := hz
      rw [List.getElem?_map] at hz
      obtain ⟨x, hx, rfl⟩ := Option.map_eq_some_iff.mp hz
      have hxi := hit x (List.mem_of_getElem? hx)
      have hst := fold_take (p := ((bfs G mine j).1, [RC.int nd.1])) hx
      have hlen2 := fold_len (nd.2.take i) ((bfs G mine j).1, [RC.int nd.1])
      have hsub : (((nd.2.take i).foldl rowStep ((bfs G mine j).1, [.int nd.1])).1).Nodup ∧ ∀ l ∈ ((nd.2.take i).foldl rowStep ((bfs G mine j).1, [.int nd.1])).1, l ∈ L :=
        fold_inv (fun o => o.Nodup ∧ ∀ l ∈ o, l ∈ L) L (fun o l hl h => ⟨addN_nodup h.1, fun m hm => (addN_sub hm).elim (h.2 m) fun e => e ▸ hl⟩) _ _ (fun y hy => hit y (List.mem_of_mem_take hy)) ⟨ond, osub⟩
      generalize (nd.2.take i).foldl rowStep ((bfs G mine j).1, [RC.int nd.1]) = p at w1 w2 hlen2 hsub hst
      have htl : (nd.2.take i).length ≤ 4 := by rw [List.length_take]; omega
      obtain ⟨o, rr'⟩ := p
      dsimp only at w1 w2 hlen2 hsub
      simp only [List.length_cons, List.length_nil] at hlen2
      obtain ⟨wl, hw1, hw2⟩ := w2.hw
      have hwl : wl.length ≤ 1000000 := by rw [hw2.len]; omega
      have hol2 := nodup_le hsub.1 hsub.2
      have O2 := (O.keep w1.k0).keep w1.k1
      refine Ex_cons <| Ex_if <| Evb_not <| Evb_val <| E_isi' k O2 hxi (fun Q q => Ev_name rfl q) ?_ ?_
      · rintro i' rfl
        refine ⟨_, rfl, fun _ => ?_, fun e => by simp at e⟩
        refine Ex_cons <| Ex_expr <| Ev_lm PySem.F.slot_list_append rfl <| Ev_name rfl ⟨rw, wl, rfl, hw1, Evs_cons <| Ev_name rfl <| Evs_nil <| call_append hw1 hwl <| Ex_nil <| Ex_nil ?_⟩
        exact hN _ _ _ (le_cons rfl <| le_cons rfl <| le_cons rfl <| le_cons rfl <| le_cons rfl <| le_cons rfl <| le_cons rfl le_nil) ⟨F2, rfl, by rw [hst]; exact w1.cell w2, by rw [hst]; exact w2.cell hw1 rfl, hb2⟩
      · rintro l rfl hlL
        refine ⟨_, rfl, fun e => by simp at e, fun _ => ?_⟩
        have ho1 := w1.ho
        have olen : (o.map fun m => eO (.ref m)).length ≤ 1000000 := by simp; omega
        refine Ex_cons <| Ex_assignComp (cl := [(Str.ofString "thing", M + 2), (Str.ofString "order", M + 1)]) (μc := [(Str.ofString "order", .ref ro), (Str.ofString "thing", .ref l)]) a'.h ⟨rfl, ?_, ?_, ?_, rfl, ?_⟩ (E_range1 k <| E_len k <| Ev_name rfl ⟨ro, _, rfl, ho1, olen, _, rfl, fun d hd => ?_⟩)
        · intro p hp
          simp only [List.mem_cons, List.not_mem_nil, or_false] at hp
          rcases hp with rfl | rfl
          · exact ⟨rfl, rfl, (fun h => by cases h), (fun h => by cases h)⟩
          · exact ⟨rfl, rfl, (fun h => by cases h), (fun h => by cases h)⟩
        · intro p hp
          simp only [List.mem_cons, List.not_mem_nil, or_false] at hp
          rcases hp with rfl | rfl <;> rfl
        · decide
        · decide
        · have k2d : Keep [] H2 (H2.set d (.range 0 ((o.map fun m => eO (.ref m)).length : Nat))) := Keep.new hd
          have hol : (((o.map fun m => eO (.ref m)).length : Nat) : Int) = o.length := by simp
          rw [hol] at k2d ⊢
          have O3 := O2.keep k2d
          have ho3 := k2d.at ho1
          have hsz : (Src.range d 0 (o.length : Int)).items.length = o.length := by simp [Src.items]
          have w1d := w1.new (x := .range 0 (o.length : Int)) hd
          have w2d := w2.new (x := .range 0 (o.length : Int)) w1.k1 hd
          have hb2d : (F2.set d (.range 0 (o.length : Int))) b = some (.list (nd.2.map eO)) := by rw [AH.set_ne _ _ (by rintro rfl; exact absurd (w1.k1.at hb2) (by rw [hd]; simp))]; exact hb2
          generalize F2.set d (.range 0 (o.length : Int)) = F2' at w1d w2d hb2d
          have hdd : (H2.set d (.range 0 (o.length : Int))) d = some (.range 0 (o.length : Int)) := AH.set_self ..
          generalize H2.set d (.range 0 (o.length : Int)) = H3 at *
          refine ⟨.range d 0 o.length, rfl, ⟨hdd, by omega, by omega, by omega, by omega⟩, by rw [hsz]; omega, fun kk ys H4 => H4 = H3 ∧ ys = iL (spots o l kk), ⟨rfl, rfl⟩, ⟨fun _ _ _ _ => trivial, ?_⟩, ?_⟩
          · rintro C kk z ys H4 hz ⟨rfl, rfl⟩
            have hkk : kk < o.length := by have := (List.getElem?_eq_some_iff.mp hz).1; rw [hsz] at this; exact this
            have hz' : z = .int (kk : Nat) := by
              simp only [Src.items, List.getElem?_map] at hz
              rw [List.getElem?_range (by simpa using hkk)] at hz
              simp at hz
              rw [← hz]
            subst hz'
            have hok : (o.map fun m => eO (.ref m))[((kk : Nat) : Int).toNat]? = some (.ref o[kk]) := by simp [eO, hkk]
            refine tests_one <| Evb_cmp <| E_at (l := ro) (i := (kk : Nat)) <| Ev_name rfl ⟨rfl, Ev_name rfl ⟨rfl, ho3, by omega, by omega, hok, Ev_name rfl <| cmp_isO O3 (hsub.2 _ (List.getElem_mem _)) hlL ⟨fun e => ?_, fun e => ?_⟩⟩⟩
            · have e' : o[kk] = l := of_decide_eq_true e
              refine Ev_name rfl ⟨rfl, ?_⟩
              rw [spots_succ, if_pos (by rw [List.getElem?_eq_getElem hkk, e'])]
              simp
            · have e' : ¬ o[kk] = l := of_decide_eq_false e
              refine ⟨rfl, ?_⟩
              rw [spots_succ, if_neg (by rw [List.getElem?_eq_getElem hkk]; simpa using e')]
          · rintro ys H4 ⟨rfl, rfl⟩ D hD
            rw [hsz]
            have w1e := w1d.new (x := .list (iL (spots o l o.length))) hD
            have w2e := w2d.new (x := .list (iL (spots o l o.length))) w1d.k1 hD
            have hDD : (H4.set D (.list (iL (spots o l o.length)))) D = some (.list (iL (spots o l o.length))) := AH.set_self ..
            have hb2e : (F2'.set D (.list (iL (spots o l o.length)))) b = some (.list (nd.2.map eO)) := by rw [AH.set_ne _ _ (by rintro rfl; exact absurd (w1d.k1.at hb2d) (by rw [hD]; simp))]; exact hb2d
            have O5 := (O.keep w1e.k0).keep w1e.k1
            generalize F2'.set D (.list (iL (spots o l o.length))) = F5 at w1e w2e hb2e
            generalize H4.set D (.list (iL (spots o l o.length))) = H5 at w1e w2e hDD O5 ⊢
            refine Ex_consN (fun ν H6 => ∃ F6 pl, ν = [(Str.ofString "roots", .ref r), (Str.ofString "order", .ref ro), (Str.ofString "rows", .ref rr), (Str.ofString "found", .ref rf), (Str.ofString "at", .int (j : Nat)), (Str.ofString "things", .ref b), (Str.ofString "row", .ref rw), (Str.ofString "places", .ref pl)] ∧
              WI H eO G mine ro rr rf (addN o l) (bfs G mine j).2 F6 H6 ∧ WR F6 H6 ro rr rf rw rr' ∧ F6 b = some (.list (nd.2.map eO)) ∧ H6 pl = some (.list [.int ((addN o l).idxOf l : Nat)])) ?_ ?_
            · refine Ex_if <| Evb_cmp <| Ev_name rfl <| Ev_list <| Evs_nil ⟨by simp, fun E hE => cmp_eqL (ns := spots o l o.length) (ms := []) a'.cl (by rw [AH.set_ne _ _ (some_ne hDD hE)]; exact hDD) (AH.set_self ..) ⟨fun e => ?_, fun e => Ex_nil ?_⟩⟩
              · have hno : l ∉ o := fun h => by
                  have h2 := spots_in hsub.1 h o.length
                  rw [if_pos (List.idxOf_lt_length_of_mem h)] at h2
                  rw [h2] at e; simp at e
                have ha : addN o l = o ++ [l] := by unfold addN; rw [if_neg hno]
                have w1f := w1e.new (x := .list []) hE
                have w2f := w2e.new (x := .list []) w1e.k1 hE
                have hb2f : (F5.set E (.list [])) b = some (.list (nd.2.map eO)) := by rw [AH.set_ne _ _ (by rintro rfl; exact absurd (w1e.k1.at hb2e) (by rw [hE]; simp))]; exact hb2e
                generalize F5.set E (.list []) = F7 at w1f w2f hb2f
                generalize H5.set E (.list []) = H7 at w1f w2f ⊢
                have ho7 := w1f.ho
                refine Ex_cons <| Ex_assign <| Ev_list <| Evs_cons <| E_len k <| Ev_name rfl ⟨ro, _, rfl, ho7, olen, Evs_nil ⟨by simp, fun pl hpl => ?_⟩⟩
                have em : ((o.map fun m => eO (.ref m)) ++ [AV.ref l]) = (o ++ [l]).map fun m => eO (.ref m) := by simp [eO]
                have eml : (((o.map fun m => eO (.ref m)).length : Nat) : Int) = ((o ++ [l]).idxOf l : Nat) := by
                  rw [List.idxOf_append, if_neg hno]; simp
                rw [eml]
                have w1g := w1f.new (x := .list [.int ((o ++ [l]).idxOf l : Nat)]) hpl
                have w2g := w2f.new (x := .list [.int ((o ++ [l]).idxOf l : Nat)]) w1f.k1 hpl
                have hb2g : (F7.set pl (.list [.int ((o ++ [l]).idxOf l : Nat)])) b = some (.list (nd.2.map eO)) := by rw [AH.set_ne _ _ (by rintro rfl; exact absurd (w1f.k1.at hb2f) (by rw [hpl]; simp))]; exact hb2f
                have hpF : (F7.set pl (.list [.int ((o ++ [l]).idxOf l : Nat)])) pl = some (.list [.int ((o ++ [l]).idxOf l : Nat)]) := AH.set_self ..
                generalize F7.set pl (.list [.int ((o ++ [l]).idxOf l : Nat)]) = F8 at w1g w2g hb2g hpF
                generalize H7.set pl (.list [.int ((o ++ [l]).idxOf l : Nat)]) = H8 at w1g w2g ⊢
                have ho8 := w1g.ho
                refine Ex_cons <| Ex_expr <| Ev_lm PySem.F.slot_list_append rfl <| Ev_name rfl ⟨ro, _, rfl, ho8, Evs_cons <| Ev_name rfl <| Evs_nil <| call_append ho8 olen ?_⟩
                show Ex W A' _ _ _ (H8.set ro (.list ((o.map fun m => eO (.ref m)) ++ [AV.ref l]))) _
                rw [em]
                have k1 : Keep [] F8 (H8.set ro (.list ((o ++ [l]).map fun m => eO (.ref m)))) := keep_set w1g.k1 w1g.f1
                have O9 := (O.keep w1g.k0).keep k1
                have hll := O9 l hlL
                have h3 := (w.kind l hlL).len
                obtain ⟨rl2, hr2, hr3⟩ := w1g.hr
                have hrl2 : rl2.length ≤ 10000 := by rw [hr3.len]; simp; omega
                obtain ⟨wl8, hw8, _⟩ := w2g.hw
                refine Ex_cons <| Ex_expr <| Ev_lm PySem.F.slot_list_append rfl <| Ev_name rfl ⟨rr, rl2, rfl, by rw [AH.set_ne _ _ (Ne.symm w1g.ne.1)]; exact hr2, Evs_cons <| Ev_tuple <| Evs_cons <| E_nc rfl hll rfl <| Evs_cons <|
                  Ev_sliceR (G.it l) <| Ev_name rfl <| part_some <| Ev_int ⟨1, rfl, fun t1 => part_none ⟨l, _, _, _, rfl, hll, by simp; omega, .int _ _, .none, fun zs hz => ?_, fun fb hfb => Evs_nil ⟨by simp, fun ft hft => Evs_nil <| call_append (xs := rl2) ?_ (by omega) <| Ex_nil ?_⟩⟩⟩⟩
                · have := pick_from (k := 1) hz (by simp)
                  simpa using this
                · have b1 := some_ne hr2 (a := rr) (b := fb) (by rwa [AH.set_ne _ _ (by rintro rfl; rw [AH.set_self] at hfb; cases hfb)] at hfb)
                  have n1 : rr ≠ ft := by
                    rintro rfl
                    rw [AH.set_ne _ _ b1, AH.set_ne _ _ (Ne.symm w1g.ne.1), hr2] at hft; cases hft
                  rw [AH.set_ne _ _ n1, AH.set_ne _ _ b1, AH.set_ne _ _ (Ne.symm w1g.ne.1)]; exact hr2
                · have ei : G.it l = (G.it l).map eO := (List.map_id' _).symm
                  rw [ei] at hft ⊢
                  obtain ⟨F9, kf, fn, w9⟩ := w1g.add hfb hft hr2
                  refine ⟨_, le_cons rfl <| le_cons rfl <| le_cons rfl <| le_cons rfl <| le_cons rfl <| le_cons rfl <| le_cons rfl <| le_cons rfl le_nil, F9, pl, rfl, by rw [ha]; exact w9, w2g.move kf (fn rw (by rw [hw8]; simp) w2g.f4) ?_, kf.at hb2g, ?_⟩
                  · have nb : rw ≠ fb := by
                      rintro rfl
                      rw [AH.set_ne _ _ w2g.n1, hw8] at hfb; cases hfb
                    have nt : rw ≠ ft := by
                      rintro rfl
                      rw [AH.set_ne _ _ nb, AH.set_ne _ _ w2g.n1, hw8] at hft; cases hft
                    rw [AH.set_ne _ _ w2g.n2, AH.set_ne _ _ nt, AH.set_ne _ _ nb, AH.set_ne _ _ w2g.n1]
                  · rw [ha]; exact w9.k1.at (kf.at hpF)
              · have hyes : l ∈ o := by
                  by_cases h : l ∈ o
                  · exact h
                  · rw [spots_out h] at e; simp at e
                have ha : addN o l = o := by unfold addN; rw [if_pos hyes]
                have h2 := spots_in hsub.1 hyes o.length
                rw [if_pos (List.idxOf_lt_length_of_mem hyes)] at h2
                rw [h2] at hDD
                refine ⟨_, le_cons rfl <| le_cons rfl <| le_cons rfl <| le_cons rfl <| le_cons rfl <| le_cons rfl <| le_cons rfl <| le_cons rfl le_nil, F5.set E (.list []), D, rfl, by rw [ha]; exact w1e.new hE, w2e.new w1e.k1 hE, ?_, ?_⟩
                · rw [AH.set_ne _ _ (by rintro rfl; exact absurd (w1e.k1.at hb2e) (by rw [hE]; simp))]; exact hb2e
                · rw [ha, AH.set_ne _ _ (some_ne hDD hE)]; exact hDD
            · rintro ν H6 ⟨F6, pl, rfl, w6, wr6, hb6, hpl⟩
              obtain ⟨wl3, hw3, hw4⟩ := wr6.hw
              refine Ex_cons <| Ex_expr <| Ev_lm PySem.F.slot_list_append rfl <| Ev_name rfl ⟨rw, wl3, rfl, hw3, Evs_cons <| Ev_tuple <| Evs_cons <| Ev_strC <| Evs_cons <| E_nc rfl hpl rfl <| Evs_nil ⟨by simp, fun tm htm => Evs_nil <| call_append (xs := wl3) ?_ (by rw [hw4.len]; omega) <| Ex_nil <| Ex_nil ?_⟩⟩
              · rw [AH.set_ne _ _ (some_ne hw3 htm)]; exact hw3
              · have w7 := w6.new (x := .tup [.str (Str.ofString "met"), .int ((addN o l).idxOf l : Nat)]) htm
                have wr7 := wr6.new (x := .tup [.str (Str.ofString "met"), .int ((addN o l).idxOf l : Nat)]) w6.k1 htm
                have hw5 : (H6.set tm (.tup [.str (Str.ofString "met"), .int ((addN o l).idxOf l : Nat)])) rw = some (.list wl3) := by rw [AH.set_ne _ _ (some_ne hw3 htm)]; exact hw3
                exact hN _ _ _ (le_cons rfl <| le_cons rfl <| le_cons rfl <| le_cons rfl <| le_cons rfl <| le_cons rfl <| le_cons rfl le_nil) ⟨_, rfl, by rw [hst]; exact w7.cell wr7, by rw [hst]; exact wr7.cell hw5 ⟨tm, rfl, AH.set_self ..⟩,
                  by rw [AH.set_ne _ _ (by rintro rfl; exact absurd (w6.k1.at hb6) (by rw [htm]; simp))]; exact hb6⟩
    · rintro ν H2 ⟨F2, rfl, w1, w2, hb2⟩
      rw [hlb, List.take_length] at w1 w2
      obtain ⟨fl, hf1, hf2⟩ := w1.hf
      have hfl : fl.length ≤ 1000000 := by
        have := bfs_len (G := G) (mine := mine) j
        rw [hf2.len]; omega
      refine Ex_cons <| Ex_expr <| Ev_lm PySem.F.slot_list_append rfl <| Ev_name rfl ⟨rf, fl, rfl, hf1, Evs_cons <| Ev_name rfl <| Evs_nil <| call_append hf1 hfl ?_⟩
      obtain ⟨F3, w3⟩ := w1.found w2 hf1
      refine Ex_cons <| Ex_assign <| Ev_add <| Ev_name rfl <| Ev_int ⟨_, _, rfl, rfl, Ex_nil ?_⟩
      have hgr := bfs_grow (j := j) w hm
      have hst := bfs_step hnd
      refine ⟨_, le_cons rfl <| le_cons rfl <| le_cons rfl <| le_cons rfl <| le_cons rfl le_nil, L.length + 2 - (j + 1), by omega, j + 1, F3, rfl, by omega, by push_cast; rfl, ?_⟩
      rw [hst]; exact w3
  · have hjl : ¬ j < rl.length := by have := of_decide_eq_false e; omega
    refine Ex_cons <| Ex_ret <| Ev_name rfl ?_
    obtain ⟨fl, hf1, hf2⟩ := wi.hf
    refine q _ _ (wi.k0.trans wi.k1) ?_
    unfold walkRows
    rw [bfs_end w hm (j := j) (by omega) (by omega)]
    exact ⟨rf, fl, rfl, hf1, hf2.mono fun _ _ => RowAt.mono wi.k1⟩
end
end Mine

-- F7
namespace Mine

/-! ### dicts by places -/
theorem look_off {f : Addr → Nat} {g : Addr → AV} : ∀ {L : List Addr} {l : Addr}, (∀ m ∈ L, f m = f l → m = l) → l ∈ L → (L.map fun m => ((f m : Int), g m)).lookup (f l : Int) = some (g l)
  | a :: r, l, hi, h => by
    simp only [List.map_cons, List.lookup]
    by_cases e : a = l
    · subst e; simp
    · have : ((f l : Int) == (f a : Int)) = false := by
        simp only [beq_eq_false_iff_ne, ne_eq]
        intro q
        exact e (hi a (by simp) (by omega))
      rw [this]
      exact look_off (fun m hm => hi m (by simp [hm])) ((List.mem_cons.mp h).resolve_left (Ne.symm e))
theorem look_none {f : Addr → Nat} {g : Addr → AV} {k : Int} : ∀ {L : List Addr}, (∀ m ∈ L, (f m : Int) ≠ k) → (L.map fun m => ((f m : Int), g m)).lookup k = none
  | [], _ => rfl
  | a :: r, h => by
    simp only [List.map_cons, List.lookup]
    have : (k == (f a : Int)) = false := by
      simp only [beq_eq_false_iff_ne, ne_eq]
      exact fun q => h a (by simp) q.symm
    rw [this]
    exact look_none fun m hm => h m (by simp [hm])
theorem putI_new {f : Addr → Nat} {g : Addr → AV} {L : List Addr} {l : Addr} (h : ∀ m ∈ L, f m ≠ f l) : putI (L.map fun m => ((f m : Int), g m)) (f l : Int) (g l) = (L ++ [l]).map fun m => ((f m : Int), g m) := by
  unfold putI
  rw [if_neg]
  · simp
  · simp only [List.any_map, List.any_eq_true, Function.comp, decide_eq_true_eq, not_exists, not_and]
    intro m hm q
    exact h m hm (by omega)
theorem off_take {G : Gr} {L : List Addr} {j : Nat} {l : Addr} (nd : L.Nodup) (h : L[j]? = some l) : off G L l = (cellsA G (L.take j)).length := by
  obtain ⟨h1, h2⟩ := List.getElem?_eq_some_iff.mp h
  have e : L = L.take j ++ l :: L.drop (j + 1) := by
    rw [← h2, ← List.drop_eq_getElem_cons h1, List.take_append_drop]
  have hn : l ∉ L.take j := by
    rw [e] at nd
    rw [List.nodup_append] at nd
    exact fun q => nd.2.2 l q l (by simp) rfl
  have : off G (L.take j ++ l :: L.drop (j + 1)) l = (cellsA G (L.take j)).length := by
    rw [off_right hn, off_self]; rfl
  rw [← e] at this
  exact this
theorem take_succ {L : List Addr} {j : Nat} {l : Addr} (h : L[j]? = some l) : L.take (j + 1) = L.take j ++ [l] := by
  rw [List.take_add_one, h]; rfl
theorem cellsA_take {G : Gr} {L : List Addr} {j : Nat} {l : Addr} (h : L[j]? = some l) : (cellsA G (L.take (j + 1))).length = (cellsA G (L.take j)).length + G.sz l := by
  rw [take_succ h, cellsA_append, List.length_append]
  simp [cellsA, blk_len]
theorem len_cells {G : Gr} : ∀ L : List Addr, L.length ≤ (cellsA G L).length
  | [] => by simp
  | a :: r => by
    have := len_cells (G := G) r
    rw [cellsA_cons, List.length_append, blk_len]; simp [Gr.sz]; omega
theorem mem_take_of {L : List Addr} {j : Nat} {m : Addr} (h : m ∈ L.take j) : m ∈ L := List.mem_of_mem_take h

section
variable {W : Wo} {A : Around} {env : Env} {μ : Mu} {H : AH} {n : Nat} {Q : AV → AH → Prop}

def ksz (i : Int) : Option Int := if i = 0 then some 2 else if i = 1 then some (-1) else if i = 3 then some (-1) else if i = 4 then some 1 else if i = 5 then some 2 else none
theorem E_KS {p1 pos : Pos} {slice : Expr} (k : PK W) (h : Ev W A env (eval slice env) μ H fun b H₁ => ∃ i z, b = .int i ∧ ksz i = some z ∧ Q (.int z) H₁) (c : GName env "KIND_SIZES" := by exact ⟨rfl, rfl, rfl⟩)
    (hs : ∀ l k u, subscripted slice false (.ref l) (.int k u) = operate [.ref l, .int k u] (getItem (.ref l) (.int k u)) := by intro _ _ _; with_unfolding_all rfl) : Ev W A env (eval (.Subscript (.Name (Str.ofString "KIND_SIZES") p1) slice pos) env) μ H Q := by
  refine Ev_sub2 (Ev_g k (by k_is) ?_ c.1 c.2.1 c.2.2)
  refine h.mono fun b H₁ ⟨i, z, e, hz, q⟩ => ?_
  subst e
  unfold ksz at hz
  split at hz
  · subst i; cases hz
    refine tail_tup0 (k.inK 42 _ (by k_is)) rfl rfl (by decide) (by decide) rfl ?_ (hs _ _)
    exact q
  · split at hz
    · subst i; cases hz
      refine tail_tup0 (k.inK 42 _ (by k_is)) rfl rfl (by decide) (by decide) rfl ?_ (hs _ _)
      exact q
    · split at hz
      · subst i; cases hz
        refine tail_tup0 (k.inK 42 _ (by k_is)) rfl rfl (by decide) (by decide) rfl ?_ (hs _ _)
        exact q
      · split at hz
        · subst i; cases hz
          refine tail_tup0 (k.inK 42 _ (by k_is)) rfl rfl (by decide) (by decide) rfl ?_ (hs _ _)
          exact q
        · split at hz
          · subst i; cases hz
            refine tail_tup0 (k.inK 42 _ (by k_is)) rfl rfl (by decide) (by decide) rfl ?_ (hs _ _)
            exact q
          · cases hz
theorem E_lenKS {p1 p2 pos : Pos} (k : PK W) (q : Q (.int 8) H) (c : BShape env "len" p1 pos (.Name (Str.ofString "KIND_SIZES") p2) [] := by exact ⟨rfl, rfl, rfl, rfl, rfl, rfl, rfl⟩) (c' : GName env "KIND_SIZES" := by exact ⟨rfl, rfl, rfl⟩) :
    Ev W A env (eval (.Call (.Name (Str.ofString "len") p1) [.Name (Str.ofString "KIND_SIZES") p2] [] pos) env) μ H Q := by
  refine Ev_cb k (by k_is) rfl (Evs_cons (Ev_g k (by k_is) (Evs_nil ?_) c'.1 c'.2.1 c'.2.2) c.2.1) (by decide) c.1 c.2.1 c.2.2.1 c.2.2.2.1 c.2.2.2.2.1 c.2.2.2.2.2.1 c.2.2.2.2.2.2
  intro vs hv
  refine .mk fun R s r => ?_
  obtain ⟨v, rfl, h1⟩ := map1 hv
  cases ab_ref h1
  have ho := r.repH.keep _ _ (k.inK 42 _ (by k_is))
  exact PyProof.Rows.len_tuple ⟨_, ho, rfl, _, rfl⟩ (by decide) ⟨H, r.tok _, q⟩

def starts (G : Gr) (L M : List Addr) : List (Int × AV) := M.map fun l => ((off G L l : Int), AV.bool true)

theorem ksz_ok {i : Int} {m : Nat} (h : SizeOk i m) : ∃ z, ksz i = some z ∧ (z < 0 ∨ (m : Int) = z) := by
  rcases h with ⟨rfl, rfl⟩ | ⟨rfl, _⟩ | ⟨rfl, _⟩ | ⟨rfl, rfl⟩ | ⟨rfl, rfl⟩
  · exact ⟨2, rfl, .inr rfl⟩
  · exact ⟨-1, rfl, .inl (by decide)⟩
  · exact ⟨-1, rfl, .inl (by decide)⟩
  · exact ⟨1, rfl, .inr rfl⟩
  · exact ⟨2, rfl, .inr rfl⟩

theorem c_wrongBlock (k : PK W) (a : AOk A (n + 2)) {s c sd : Addr} {ep : Nat} {G : Gr} {L : List Addr} {l : Addr} (S : StoreAt H s c G L) (hl : l ∈ L) (hd : H sd = some (.idict (starts G L L) ep)) (hsm : (sd == sysModules) = false)
    (q : ∀ H', Keep [] H H' → Q .none H') : Cal W A (.ref 238) [.ref s, .int (off G L l : Nat), .ref sd] H Q := by
  refine Cal_K3 (x := "heap") (y := "address") (z := "starts") k a (by k_is) (by k_is) fun M A' a' => ?_
  have kd := (S.2.kind l hl).kd
  have hlt := off_lt (G := G) hl
  have hcl := S.1.2.2
  rw [cells_len] at hcl
  obtain ⟨z, hz, hz2⟩ := ksz_ok (S.2.kind l hl)
  unfold Gr.sz at hlt
  refine Ex_cons <| Ex_assign <| E_hcell k <| Ev_name rfl ⟨s, 900, c, rfl, S.1.1, Ev_name rfl ⟨_, _, _, S.1.2.1, rfl, by omega, S.1.2.2, by simpa using cells_hdr hl, ?_⟩⟩
  refine Ex_cons <| Ex_assignSwap a'.h (names := [Str.ofString "kind", Str.ofString "length"]) (Ev_tuple <| Evs_cons <| E_kind k a' <| Ev_name rfl ⟨_, rfl, Evs_cons <| E_length k a' <| Ev_name rfl ⟨_, rfl, Evs_nil ⟨by simp, fun t ht => ⟨t, _, rfl, AH.set_self .., rfl, as_cons fun v hv => bind_name <| as_cons fun u hu => bind_name <| as_nil ?_⟩⟩⟩⟩)
  rw [hv, hu, hdr_len kd, hdr_kind kd]
  have k1 : Keep [] H (H.set t (.tup [.int (G.kd l), .int (G.it l).length])) := Keep.new ht
  generalize H.set t (.tup [.int (G.kd l), .int (G.it l).length]) = H1 at k1 ⊢
  have S1 := S.keep k1
  have hd1 := k1.at hd
  refine Ex_cons <| Ex_if <| Evb_cmp <| Ev_name rfl <| E_lenKS k <| cmp_ge ⟨fun e => ?_, fun _ => Ex_nil ?_⟩
  · have := of_decide_eq_true e; omega
  refine Ex_consJ (fun H' => H1 = H') (Ex_if <| Evb_bool <| Evb_and_cons <| Evb_cmp <| E_KS k <| Ev_name rfl ⟨_, z, rfl, hz, Ev_int <| cmp_ge ⟨fun e => Evb_and_cons <| Evb_cmp <| Ev_name rfl <| E_KS k <| Ev_name rfl ⟨_, z, rfl, hz, cmp_ne ⟨fun e' => ?_, fun _ => ⟨fun e => by simp at e, fun _ => Ex_nil ⟨rfl, rfl⟩⟩⟩⟩, fun _ => ⟨fun e => by simp at e, fun _ => Ex_nil ⟨rfl, rfl⟩⟩⟩⟩) ?_
  · exfalso
    have h1 := of_decide_eq_true e
    have h2 : ¬ ((G.it l).length : Int) = z := by simpa using e'
    omega
  rintro _ rfl
  refine Ex_cons <| Ex_if <| Evb_cmp <| Ev_add <| Ev_add <| Ev_name rfl <| Ev_int ⟨_, _, rfl, rfl, Ev_name rfl ⟨_, _, rfl, rfl, E_len k <| Ev_cells k <| Ev_name rfl ⟨s, 900, c, rfl, S1.1.1, c, _, rfl, S1.1.2.1, S1.1.len, cmp_gt ⟨fun e => ?_, fun _ => Ex_nil ?_⟩⟩⟩⟩
  · exfalso
    have := of_decide_eq_true e
    rw [List.length_map, cells_len] at this
    omega
  refine Ex_cons <| Ex_for a'.h <| E_range2 k <| Ev_add <| Ev_name rfl <| Ev_int ⟨_, _, rfl, rfl, Ev_add <| Ev_add <| Ev_name rfl <| Ev_int ⟨_, _, rfl, rfl, Ev_name rfl ⟨_, _, rfl, rfl, _, _, rfl, rfl, fun d hdn => ?_⟩⟩⟩
  have k2 : Keep [] H1 (H1.set d (.range ((off G L l : Nat) + 1) ((off G L l : Nat) + 1 + (G.it l).length))) := Keep.new hdn
  have hdd : (H1.set d (.range ((off G L l : Nat) + 1) ((off G L l : Nat) + 1 + (G.it l).length))) d = some _ := AH.set_self ..
  generalize H1.set d (.range ((off G L l : Nat) + 1) ((off G L l : Nat) + 1 + (G.it l).length)) = H2 at k2 hdd ⊢
  have S2 := S1.keep k2
  have hd2 := k2.at hd1
  refine ⟨.range d ((off G L l : Nat) + 1) ((off G L l : Nat) + 1 + (G.it l).length), rfl, ⟨hdd, by omega, by omega, by omega, by omega⟩, fun i ν H' => H' = H2 ∧ ν = [(Str.ofString "heap", .ref s), (Str.ofString "starts", .ref sd)], ⟨_, le_cons rfl <| le_cons rfl le_nil, rfl, rfl⟩, fun _ _ _ _ => trivial, ?_, ?_⟩
  · rintro i y ν H' hy ⟨rfl, rfl⟩
    have hi : i < (G.it l).length := by
      have := (List.getElem?_eq_some_iff.mp hy).1
      simp [Src.items] at this; omega
    have hy' : y = .int (off G L l + 1 + i : Nat) := by
      simp only [Src.items, List.getElem?_map] at hy
      rw [List.getElem?_range (by omega)] at hy
      simp only [Option.map_some, Option.some.injEq] at hy
      rw [← hy]; push_cast; rfl
    subst hy'
    have hcell := cells_field (L := L) hl (List.getElem?_eq_getElem hi)
    have hxi := S.2.item l hl _ (List.getElem_mem hi)
    generalize (G.it l)[i] = x at hcell hxi
    refine Ex_cons <| Ex_assign <| E_hcell k <| Ev_name rfl ⟨s, 900, c, rfl, S2.1.1, Ev_name rfl ⟨_, _, _, S2.1.2.1, rfl, by omega, S2.1.2.2, by rw [Int.toNat_natCast]; exact hcell, ?_⟩⟩
    refine Ex_cons <| Ex_if <| Evb_not <| Evb_val <| E_isVal k a' <| Ev_name rfl ⟨_, rfl, _, rfl, fun e => ?_, fun _ => Ex_nil ?_⟩
    · exfalso
      rcases hxi with ⟨j, rfl, h1, h2, h3⟩ | ⟨m, rfl, hm⟩
      · simp [wd, h2, h3] at e
      · have := wd_ref (l := m) (f := off G L)
        simp [this] at e
    · refine Ex_cons <| Ex_if <| Evb_bool <| Evb_and_cons <| Evb_val <| E_isRef k a' <| Ev_name rfl ⟨_, rfl, _, rfl, fun e => ?_, fun _ => ⟨fun e => by simp at e, fun _ => Ex_nil <| Ex_nil ⟨_, le_cons rfl <| le_cons rfl le_nil, rfl, rfl⟩⟩⟩
      obtain ⟨m, rfl, hm⟩ := isRef_wd hxi e
      refine Evb_and_cons <| Evb_cmp <| E_payload k a' <| Ev_name rfl ⟨_, rfl, Ev_name rfl <| cmp_notInD hd2 hsm ⟨fun e => ?_, fun _ => ⟨fun e => by simp at e, fun _ => Ex_nil <| Ex_nil ⟨_, le_cons rfl <| le_cons rfl le_nil, rfl, rfl⟩⟩⟩⟩
      exfalso
      rw [wd_addr] at e
      have := look_off (f := off G L) (g := fun _ => AV.bool true) (fun m' h' e' => off_inj h' hm e') hm
      unfold starts at e
      rw [this] at e
      simp at e
  · rintro ν H' ⟨rfl, rfl⟩
    exact Ex_cons <| Ex_ret <| Ev_noneC <| q _ (k1.trans k2)

theorem c_heapError (k : PK W) (a : AOk A (n + 3)) {s c : Addr} {G : Gr} {L : List Addr} (S : StoreAt H s c G L) (q : ∀ H', Keep [] H H' → Q .none H') : Cal W A (.ref 245) [.ref s] H Q := by
  refine Cal_K1 (x := "heap") k a (by k_is) (by k_is) fun M A' a' => ?_
  have hcl := S.1.2.2
  refine Ex_cons <| Ex_assign <| Ev_int ?_
  refine Ex_cons <| Ex_assign <| Ev_dict0 k.ok fun sd hsd hsm => ?_
  have k1 : Keep [] H (H.set sd (.idict [] 0)) := Keep.new hsd
  have hd0 : (H.set sd (.idict [] 0)) sd = some (.idict (starts G L (L.take 0)) 0) := AH.set_self ..
  refine Ex_cons <| Ex_while (fun m ν H' => ∃ j ep, m = L.length - j ∧ j ≤ L.length ∧ ν = [(Str.ofString "heap", .ref s), (Str.ofString "at", .int ((cellsA G (L.take j)).length : Nat)), (Str.ofString "starts", .ref sd)] ∧ H' sd = some (.idict (starts G L (L.take j)) ep) ∧ Keep [] H H') L.length
    (le_cons rfl <| le_cons rfl <| le_cons rfl le_nil) ⟨0, 0, rfl, Nat.zero_le _, rfl, hd0, k1⟩ ?_
  rintro m ν H1 ⟨j, ep, rfl, hj, rfl, hd1, k1⟩
  have S1 := S.keep k1
  refine Evb_cmp <| Ev_name rfl <| E_len k <| Ev_cells k <| Ev_name rfl ⟨s, 900, c, rfl, S1.1.1, c, _, rfl, S1.1.2.1, S1.1.len, cmp_lt ⟨fun e => ?_, fun e => ?_⟩⟩
  · have hj2 : j < L.length := by
      rcases Nat.lt_or_ge j L.length with h | h
      · exact h
      · exfalso
        have := of_decide_eq_true e
        rw [List.take_of_length_le h, List.length_map, cells_len] at this
        omega
    have hl : L[j]? = some L[j] := List.getElem?_eq_getElem hj2
    have hlL := List.getElem_mem hj2
    generalize L[j] = l at hl hlL
    have ho := off_take (G := G) S.2.nd hl
    have kd := (S.2.kind l hlL).kd
    have hh := cells_hdr (G := G) hlL
    have hsz := cellsA_take (G := G) hl
    refine Ex_cons <| Ex_if <| Evb_not <| Evb_val <| E_isHdr k a' <| E_hcell k <| Ev_name rfl ⟨s, 900, c, rfl, S1.1.1, Ev_name rfl ⟨_, _, _, S1.1.2.1, rfl, by omega, S1.1.2.2, by rw [Int.toNat_natCast, ← ho]; exact hh, _, rfl, _, rfl, fun e => ?_, fun _ => Ex_nil ?_⟩⟩
    · exfalso; simp [hdr_mod] at e
    rw [← ho]
    have hlen : (starts G L (L.take j)).length ≤ 1000000 := by
      simp only [starts, List.length_map, List.length_take]
      have := off_lt (G := G) hlL
      have h2 := len_cells (G := G) L
      rw [cells_len] at hcl; omega
    refine Ex_cons <| Ex_assignSub <| Ev_boolC <| Ev_name rfl <| Ev_name rfl fun v u x hv hu hx => set_dict' hv hu hd1 hlen fun ep' => ?_
    rw [hx]
    have hnew : putI (starts G L (L.take j)) (off G L l : Int) (.bool true) = starts G L (L.take (j + 1)) := by
      rw [take_succ hl]
      refine putI_new (g := fun _ => .bool true) fun m hm e => ?_
      have := off_inj (mem_take_of hm) hlL e
      subst this
      have nd := S.2.nd
      obtain ⟨h1, h2⟩ := List.getElem?_eq_some_iff.mp hl
      rw [List.mem_take_iff_getElem] at hm
      obtain ⟨i, hi, e2⟩ := hm
      have := (List.getElem_inj nd).mp (e2.trans h2.symm)
      omega
    rw [hnew]
    have sdc : c ≠ sd := by rintro rfl; rw [S1.1.2.1] at hd1; cases hd1
    have k2 : Keep [sd] H1 (H1.set sd (.idict (starts G L (L.take (j + 1))) ep')) := Keep.set (by simp)
    have k3 : Keep [] H (H1.set sd (.idict (starts G L (L.take (j + 1))) ep')) := fun b o _ eb => by
      rw [AH.set_ne _ _ (by rintro rfl; rw [hsd] at eb; cases eb)]; exact k1.at eb
    have S2 := S.keep k3
    refine Ex_cons <| Ex_assign <| Ev_add <| Ev_add <| Ev_name rfl <| Ev_int ⟨_, _, rfl, rfl, E_length k a' <| E_hcell k <| Ev_name rfl ⟨s, 900, c, rfl, S2.1.1, Ev_name rfl ⟨_, _, _, S2.1.2.1, rfl, by omega, S2.1.2.2, by rw [Int.toNat_natCast]; exact hh, _, rfl, _, _, rfl, rfl, Ex_nil ?_⟩⟩⟩
    rw [hdr_len kd]
    have : ((off G L l : Nat) : Int) + 1 + (G.it l).length = ((cellsA G (L.take (j + 1))).length : Nat) := by rw [hsz, ho]; unfold Gr.sz; push_cast; omega
    rw [this]
    exact ⟨_, le_cons rfl <| le_cons rfl <| le_cons rfl le_nil, L.length - (j + 1), by omega, j + 1, ep', rfl, by omega, rfl, AH.set_self .., k3⟩
  · have hj2 : j = L.length := by
      rcases Nat.lt_or_ge j L.length with h | h
      · exfalso
        have hl : L[j]? = some L[j] := List.getElem?_eq_getElem h
        have ho := off_take (G := G) S.2.nd hl
        have := off_lt (G := G) (List.getElem_mem h)
        have e' := of_decide_eq_false e
        rw [List.length_map, cells_len] at e'
        unfold Gr.sz at this
        omega
      · omega
    subst hj2
    rw [List.take_length] at hd1
    refine Ex_cons <| Ex_for a'.h <| Ev_name rfl ⟨.dict sd (starts G L L) ep, rfl, ⟨hd1, hsm⟩, fun i ν H' => Keep [] H1 H' ∧ ν = [(Str.ofString "heap", .ref s), (Str.ofString "starts", .ref sd)], ⟨[(Str.ofString "heap", .ref s), (Str.ofString "starts", .ref sd)], le_cons rfl <| le_cons rfl le_nil, Keep.refl, rfl⟩, ?_, ?_, ?_⟩
    · rintro i ν H' ⟨k2, _⟩; exact k2.at hd1
    · rintro i y ν H' hy ⟨k2, rfl⟩
      simp only [Src.items, starts, List.map_map, List.getElem?_map] at hy
      obtain ⟨l, hl, rfl⟩ := Option.map_eq_some_iff.mp hy
      have hlL := List.mem_of_getElem? hl
      refine Ex_cons <| Ex_assign <| Ev_cf k (by k_is) (by k_is) <| Evs_cons <| Ev_name rfl <| Evs_cons <| Ev_name rfl <| Evs_cons <| Ev_name rfl <| Evs_nil <| c_wrongBlock k a' (S1.keep k2) hlL (k2.at hd1) hsm fun H2 k3 => ?_
      refine Ex_cons <| Ex_if <| Evb_cmp <| Ev_name rfl <| Ev_noneC <| cmp_isNotNone nn_none ⟨fun e => by simp at e, fun _ => Ex_nil <| Ex_nil ⟨_, le_cons rfl <| le_cons rfl le_nil, k2.trans k3, rfl⟩⟩
    · rintro ν H' ⟨k2, rfl⟩
      exact Ex_cons <| Ex_ret <| Ev_noneC <| q _ (k1.trans k2)
end
end Mine

-- P3
namespace Mine

/-! ### what is reached -/
inductive Reach (G : Gr) (mine : List AV) : Addr → Prop
  | root {l : Addr} : AV.ref l ∈ mine → Reach G mine l
  | step {l m : Addr} : Reach G mine m → AV.ref l ∈ G.it m → Reach G mine l
structure Exact (G : Gr) (mine : List AV) (L : List Addr) : Prop where
  nd : L.Nodup
  sub : ∀ l ∈ L, Reach G mine l
  all : ∀ l, Reach G mine l → l ∈ L
theorem Exact.of {G : Gr} {mine : List AV} {L : List Addr} (nd : L.Nodup) (sub : ∀ l ∈ L, Reach G mine l) (hm : ∀ l, AV.ref l ∈ mine → l ∈ L) (hc : ∀ m ∈ L, ∀ l, AV.ref l ∈ G.it m → l ∈ L) : Exact G mine L :=
  ⟨nd, sub, fun l h => by
    induction h with
    | root h => exact hm _ h
    | step _ h ih => exact hc _ ih _ h⟩
theorem Reach.mem {G : Gr} {mine : List AV} {L : List Addr} (w : Wf G L) (hm : ∀ x ∈ mine, Item L x) {l : Addr} (h : Reach G mine l) : l ∈ L := by
  induction h with
  | root h => rcases hm _ h with ⟨i, e, _⟩ | ⟨m, e, h⟩
              · cases e
              · cases e; exact h
  | step _ h ih => rcases w.item _ ih _ h with ⟨i, e, _⟩ | ⟨m, e, h⟩
                   · cases e
                   · cases e; exact h
theorem Exact.item {G : Gr} {mine : List AV} {L M : List Addr} (w : Wf G L) (hm : ∀ x ∈ mine, Item L x) (ex : Exact G mine M) : ∀ x ∈ mine, Item M x := fun x hx => by
  rcases hm x hx with ⟨i, rfl, h⟩ | ⟨l, rfl, h⟩
  · exact .inl ⟨i, rfl, h⟩
  · exact .inr ⟨l, rfl, ex.all l (.root hx)⟩
theorem Exact.wf {G : Gr} {mine : List AV} {L M : List Addr} (w : Wf G L) (hm : ∀ x ∈ mine, Item L x) (ex : Exact G mine M) : Wf G M where
  nd := ex.nd
  item l hl x hx := by
    have hr := ex.sub l hl
    rcases w.item l (hr.mem w hm) x hx with ⟨i, rfl, h⟩ | ⟨m, rfl, h⟩
    · exact .inl ⟨i, rfl, h⟩
    · exact .inr ⟨m, rfl, ex.all m (.step hr hx)⟩
  kind l hl := w.kind l ((ex.sub l hl).mem w hm)
theorem cellsA_le {G : Gr} : ∀ {o L : List Addr}, o.Nodup → (∀ l ∈ o, l ∈ L) → (cellsA G o).length ≤ (cellsA G L).length
  | [], _, _, _ => Nat.zero_le _
  | a :: r, L, h, s => by
    rw [List.nodup_cons] at h
    have ha : a ∈ L := s a (by simp)
    have := cellsA_le (G := G) (o := r) (L := L.erase a) h.2 fun l hl => (List.mem_erase_of_ne (by rintro rfl; exact h.1 hl)).mpr (s l (by simp [hl]))
    have e : (cellsA G L).length = G.sz a + (cellsA G (L.erase a)).length := by
      clear this h s
      induction L with
      | nil => cases ha
      | cons b r ih =>
        by_cases hb : b = a
        · subst hb; rw [List.erase_cons_head, cellsA_cons, List.length_append, blk_len]
        · rw [List.erase_cons_tail (by simpa using hb), cellsA_cons, cellsA_cons, List.length_append, List.length_append, blk_len, ih ((List.mem_cons.mp ha).resolve_left (Ne.symm hb))]
          omega
    rw [cellsA_cons, List.length_append, blk_len, e]; omega
theorem Exact.size {G : Gr} {mine : List AV} {L M : List Addr} (x : Exact G mine L) (y : Exact G mine M) : (cellsA G L).length = (cellsA G M).length :=
  Nat.le_antisymm (cellsA_le x.nd fun l h => y.all l (x.sub l h)) (cellsA_le y.nd fun l h => x.all l (y.sub l h))

/-! ### the old heap, while its blocks move -/
def cellsX (hd : Addr → Int) (G : Gr) (L : List Addr) : List AV := L.flatMap fun l => .int (hd l) :: G.it l
def hdO (G : Gr) (O : List Addr) (l : Addr) : Int := if l ∈ O then (off G O l : Int) * 8 + 6 else hdr G l
section
variable {G : Gr} {L M O : List Addr} {l m : Addr} {hd hd' : Addr → Int}
theorem cellsX_cons : cellsX hd G (l :: L) = (.int (hd l) :: G.it l) ++ cellsX hd G L := by simp [cellsX]
theorem cellsX_hdr : cellsX (hdr G) G L = cellsA G L := rfl
theorem cellsX_congr : ∀ {L : List Addr}, (∀ l ∈ L, hd l = hd' l) → cellsX hd G L = cellsX hd' G L
  | [], _ => rfl
  | a :: r, h => by rw [cellsX_cons, cellsX_cons, h a (by simp), cellsX_congr fun l hl => h l (by simp [hl])]
theorem cellsX_len : ∀ L : List Addr, (cellsX hd G L).length = (cellsA G L).length
  | [] => rfl
  | a :: r => by
    rw [cellsX_cons, cellsA_cons, List.length_append, List.length_append, cellsX_len r, blk_len]; simp [Gr.sz]
theorem cellsX_blk : ∀ {L : List Addr}, l ∈ L → ((cellsX hd G L).drop (off G L l)).take (G.sz l) = .int (hd l) :: G.it l
  | a :: r, h => by
    rw [cellsX_cons]
    by_cases e : a = l
    · subst e
      rw [off_self, List.drop_zero, List.take_append_of_le_length (by simp [Gr.sz]), List.take_of_length_le (by simp [Gr.sz])]
    · rw [off_ne e, List.drop_append, List.drop_of_length_le (by simp [Gr.sz]), List.nil_append, show (G.sz a + off G r l - (AV.int (hd a) :: G.it a).length) = off G r l by simp [Gr.sz]]
      exact cellsX_blk ((List.mem_cons.mp h).resolve_left (Ne.symm e))
theorem cellsX_at : ∀ {L : List Addr}, l ∈ L → (cellsX hd G L)[off G L l]? = some (.int (hd l))
  | a :: r, h => by
    rw [cellsX_cons]
    by_cases e : a = l
    · subst e; rw [off_self]; rfl
    · rw [off_ne e, List.getElem?_append_right (by simp [Gr.sz]), show (G.sz a + off G r l - (AV.int (hd a) :: G.it a).length) = off G r l by simp [Gr.sz]]
      exact cellsX_at ((List.mem_cons.mp h).resolve_left (Ne.symm e))
theorem cellsX_set {v : Int} : ∀ {L : List Addr}, L.Nodup → l ∈ L → (cellsX hd G L).set (off G L l) (.int v) = cellsX (fun m => if m = l then v else hd m) G L
  | a :: r, nd, h => by
    rw [List.nodup_cons] at nd
    rw [cellsX_cons, cellsX_cons]
    by_cases e : a = l
    · subst e
      rw [off_self, cellsX_congr (L := r) (hd := fun m => if m = a then v else hd m) (hd' := hd) fun m hm => by rw [if_neg (by rintro rfl; exact nd.1 hm)]]
      simp
    · rw [off_ne e, List.set_append_right _ _ (by simp [Gr.sz]), show (G.sz a + off G r l - (AV.int (hd a) :: G.it a).length) = off G r l by simp [Gr.sz], cellsX_set nd.2 ((List.mem_cons.mp h).resolve_left (Ne.symm e)), if_neg e]

/-! ### the new heap, while it grows -/
def addO (O : List Addr) : AV → List Addr
  | .ref l => addN O l
  | _ => O
theorem addO_ext {x : AV} : ∃ R, addO O x = O ++ R := by
  cases x with
  | ref l =>
    unfold addO addN
    dsimp only
    split
    · exact ⟨[], by simp⟩
    · exact ⟨[l], rfl⟩
  | _ => exact ⟨[], by simp [addO]⟩
theorem addO_item {x : AV} (hx : Item L x) : Item (addO O x) x := by
  rcases hx with ⟨i, rfl, h⟩ | ⟨m, rfl, hm⟩
  · exact .inl ⟨i, rfl, h⟩
  · exact .inr ⟨m, rfl, addN_mem⟩
theorem addO_mem {x : AV} {l : Addr} (h : l ∈ O) : l ∈ addO O x := by
  obtain ⟨R, e⟩ := addO_ext (O := O) (x := x)
  rw [e]; simp [h]
theorem addO_new {x : AV} {l : Addr} (h : l ∈ addO O x) : l ∈ O ∨ x = .ref l := by
  cases x with
  | ref m => exact (addN_sub h).imp id fun e => by rw [e]
  | _ => exact .inl h
theorem off_grow {x : AV} {l : Addr} (h : l ∈ O) : off G (addO O x) l = off G O l := by
  obtain ⟨R, e⟩ := addO_ext (O := O) (x := x)
  rw [e, off_left h]
/-- cells that stand translated up to q -/
def NC (G : Gr) (L O : List Addr) (q : Nat) : List Int := ((cellsA G O).take q).map (wd (off G O)) ++ ((cellsA G O).drop q).map (wd (off G L))
/-- a cell that names nothing outside O -/
def InO (O : List Addr) (x : AV) : Prop := ∀ l, x = .ref l → l ∈ O
theorem NC_len {q : Nat} : (NC G L O q).length = (cellsA G O).length := by
  unfold NC
  rw [List.length_append, List.length_map, List.length_map, ← List.length_append, List.take_append_drop]
theorem NC_all {q : Nat} (h : (cellsA G O).length ≤ q) : NC G L O q = cells G O := by
  unfold NC cells
  rw [List.take_of_length_le h, List.drop_of_length_le h]; simp
theorem NC_at {q : Nat} {x : AV} (h : (cellsA G O)[q]? = some x) : (NC G L O q)[q]? = some (wd (off G L) x) := by
  obtain ⟨h1, _⟩ := List.getElem?_eq_some_iff.mp h
  unfold NC
  rw [List.getElem?_append_right (by simp; omega), List.length_map, List.length_take, Nat.min_eq_left (by omega), Nat.sub_self, List.getElem?_map, List.getElem?_drop, Nat.add_zero, h]; rfl
theorem NC_set {q : Nat} {x : AV} (h : (cellsA G O)[q]? = some x) : (NC G L O q).set q (wd (off G O) x) = NC G L O (q + 1) := by
  obtain ⟨h1, h2⟩ := List.getElem?_eq_some_iff.mp h
  unfold NC
  have e : (((cellsA G O).take q).map (wd (off G O))).length = q := by simp; omega
  rw [List.set_append_right _ _ (by omega), e, Nat.sub_self, List.drop_eq_getElem_cons h1, h2, List.map_cons, List.set_cons_zero, List.take_add_one, h]
  simp
theorem NC_int {q : Nat} {i : Int} (h : (cellsA G O)[q]? = some (.int i)) : NC G L O (q + 1) = NC G L O q := by
  rw [← NC_set h]
  have := NC_at (L := L) h
  refine List.ext_getElem? fun j => ?_
  rw [List.getElem?_set]
  split
  · rename_i e
    subst e
    rw [this]
    have hq : q < (NC G L O q).length := by rw [NC_len]; exact (List.getElem?_eq_some_iff.mp h).1
    rw [if_pos hq]; rfl
  · rfl
theorem wd_inO {x : AV} (h : InO O x) {f g : Addr → Nat} (e : ∀ l ∈ O, f l = g l) : wd f x = wd g x := by
  cases x with
  | ref l => simp [wd, e l (h l rfl)]
  | _ => rfl
/-- new blocks are hung on -/
theorem NC_grow {q : Nat} {x : AV} (hq : q ≤ (cellsA G O).length) (hd : ∀ y ∈ (cellsA G O).take q, InO O y) :
    NC G L O q ++ ((cellsA G (addO O x)).drop (cellsA G O).length).map (wd (off G L)) = NC G L (addO O x) q := by
  obtain ⟨R, e⟩ := addO_ext (O := O) (x := x)
  have hg : ∀ l ∈ O, off G (O ++ R) l = off G O l := fun l hl => off_left hl
  unfold NC
  rw [e, cellsA_append, List.drop_left, List.take_append_of_le_length hq, List.drop_append_of_le_length hq, List.map_append, List.append_assoc]
  congr 1
  exact List.map_congr_left fun y hy => wd_inO (hd y hy) fun l hl => (hg l hl).symm
theorem hdO_new {l : Addr} (h : l ∉ O) : (fun m => if m = l then ((cellsA G O).length : Int) * 8 + 6 else hdO G O m) = hdO G (O ++ [l]) := by
  funext m
  unfold hdO
  by_cases e : m = l
  · subst e
    rw [if_pos rfl, if_pos (by simp), off_right h, off_self]; rfl
  · rw [if_neg e]
    by_cases h2 : m ∈ O
    · rw [if_pos h2, if_pos (by simp [h2]), off_left h2]
    · rw [if_neg h2, if_neg (by simp [h2, e])]
theorem hdO_nil : hdO G [] = hdr G := by funext m; simp [hdO]
end
end Mine

-- F8
namespace Mine

theorem IsHeap.keep {H H' : AH} {s c : Addr} {lim : Int} (h : IsHeap H s lim c) {X : List Addr} (k : Keep X H H') (x : ∀ a ∈ X, ∃ ys, H a = some (.list ys)) : IsHeap H' s lim c := by
  obtain ⟨d, h1, h2⟩ := h
  refine ⟨d, k _ _ (fun q => ?_) h1, k _ _ (fun q => ?_) h2⟩
  · obtain ⟨ys, e⟩ := x _ q; rw [h1] at e; cases e
  · obtain ⟨ys, e⟩ := x _ q; rw [h2] at e; cases e

/-- the two heaps while blocks move -/
structure CS (H : AH) (s c s' c' : Addr) (G : Gr) (L O : List Addr) (nc : List Int) : Prop where
  i1 : IsHeap H s 900 c
  h1 : H c = some (.list (iL ((cellsX (hdO G O) G L).map (wd (off G L)))))
  i2 : IsHeap H s' 900 c'
  h2 : H c' = some (.list (iL nc))
  ne : c ≠ c'
  w : Wf G L
  sm : (cellsA G L).length ≤ 900
  nd : O.Nodup
  sub : ∀ l ∈ O, l ∈ L

section
variable {W : Wo} {A : Around} {env : Env} {μ : Mu} {H : AH} {n : Nat} {Q : AV → AH → Prop}
variable {s c s' c' : Addr} {G : Gr} {L O : List Addr} {nc : List Int}

theorem CS.keep {H' : AH} (C : CS H s c s' c' G L O nc) (k : Keep [] H H') : CS H' s c s' c' G L O nc :=
  ⟨C.i1.keep k (by simp), k.at C.h1, C.i2.keep k (by simp), k.at C.h2, C.ne, C.w, C.sm, C.nd, C.sub⟩

theorem c_moved (k : PK W) (a : AOk A (n + 2)) (C : CS H s c s' c' G L O nc) {x : AV} (hx : Item L x) (hn : nc.length = (cellsA G O).length)
    (q : ∀ H', Keep [c, c'] H H' → CS H' s c s' c' G L (addO O x) (nc ++ ((cellsA G (addO O x)).drop (cellsA G O).length).map (wd (off G L))) → Q (.int (wd (off G (addO O x)) x)) H') : Cal W A (.ref 252) [.ref s, .ref s', .int (wd (off G L) x)] H Q := by
  refine Cal_K3 (x := "old") (y := "new") (z := "word") k a (by k_is) (by k_is) fun M A' a' => ?_
  have hOL := cellsA_le (G := G) C.nd C.sub
  have hoc : ((cellsX (hdO G O) G L).map (wd (off G L))).length ≤ 1000 := by rw [List.length_map, cellsX_len]; have := C.sm; omega
  have hnc : (iL nc).length ≤ 1000000 := by have := C.sm; simp; omega
  refine Ex_cons <| Ex_if <| Evb_not <| Evb_val <| E_isRef k a' <| Ev_name rfl ⟨_, rfl, _, rfl, fun e => ?_, fun e => Ex_nil ?_⟩
  · obtain ⟨i, rfl, _⟩ := isRef_wd' hx (by simpa using e)
    have key := q H Keep.refl (by simpa [addO] using C)
    exact Ex_cons <| Ex_ret <| Ev_name rfl key
  obtain ⟨l, rfl, hl⟩ := isRef_wd hx (by simpa using e)
  have hhd := cellsX_at (hd := hdO G O) (G := G) hl
  have hcell : ((cellsX (hdO G O) G L).map (wd (off G L)))[off G L l]? = some (hdO G O l) := by rw [List.getElem?_map, hhd]; rfl
  have hofL := off_lt (G := G) hl
  have kd := (C.w.kind l hl).kd
  refine Ex_cons <| Ex_assign <| E_payload k a' <| Ev_name rfl ⟨_, rfl, ?_⟩
  rw [wd_addr]
  refine Ex_cons <| Ex_assign <| E_hcell k <| Ev_name rfl ⟨s, 900, c, rfl, C.i1, Ev_name rfl ⟨_, _, _, C.h1, rfl, by omega, hoc, by rw [Int.toNat_natCast]; exact hcell, ?_⟩⟩
  refine Ex_cons <| Ex_if <| Evb_val <| E_isFwd k a' <| Ev_name rfl ⟨_, rfl, _, rfl, fun e => ?_, fun e => Ex_nil ?_⟩
  · have hlO : l ∈ O := by
      by_cases h : l ∈ O
      · exact h
      · exfalso
        unfold hdO at e
        rw [if_neg h, hdr_mod] at e
        simp at e
    have e1 : hdO G O l / 8 = (off G O l : Int) := by unfold hdO; rw [if_pos hlO]; omega
    have e2 : addO O (.ref l) = O := by unfold addO addN; dsimp only; rw [if_pos hlO]
    rw [e2, List.drop_length, List.map_nil, List.append_nil] at q
    refine Ex_cons <| Ex_ret <| E_ref k a' <| E_payload k a' <| Ev_name rfl ⟨_, rfl, _, rfl, ?_⟩
    rw [e1]
    exact q H Keep.refl C
  · have hlO : l ∉ O := by
      intro h
      unfold hdO at e
      rw [if_pos h] at e
      have := of_decide_eq_false e
      omega
    have e2 : addO O (.ref l) = O ++ [l] := by unfold addO addN; dsimp only; rw [if_neg hlO]
    have e3 : off G (O ++ [l]) l = (cellsA G O).length := by rw [off_right hlO, off_self]; rfl
    have e4 : hdO G O l = hdr G l := by unfold hdO; rw [if_neg hlO]
    rw [e2, cellsA_append, List.drop_left] at q
    rw [e4]
    have hsub2 : ∀ m ∈ O ++ [l], m ∈ L := fun m hm => by
      rcases List.mem_append.mp hm with h | h
      · exact C.sub m h
      · simp at h; exact h ▸ hl
    have hnd2 : (O ++ [l]).Nodup := by
      rw [List.nodup_append]
      exact ⟨C.nd, by simp, fun a ha b hb => by simp at hb; subst hb; rintro rfl; exact hlO ha⟩
    have hOL2 := cellsA_le (G := G) hnd2 hsub2
    rw [cellsA_append, List.length_append] at hOL2
    have hsm := C.sm
    have hblen : (cellsA G [l]).length = G.sz l := by simp [cellsA, blk_len]
    refine Ex_cons <| Ex_assign <| E_len k <| Ev_cells k <| Ev_name rfl ⟨s', 900, c', rfl, C.i2, c', _, rfl, C.h2, hnc, ?_⟩
    have hnl : (((iL nc).length : Nat) : Int) = ((cellsA G O).length : Nat) := by rw [List.length_map, hn]
    rw [hnl]
    refine Ex_cons <| Ex_expr <| Ev_lm PySem.F.slot_list_extend rfl <| Ev_cells k <| Ev_name rfl ⟨s', 900, c', rfl, C.i2, c', _, rfl, C.h2, Evs_cons <|
      Ev_sliceR (iL ((cellsA G [l]).map (wd (off G L)))) <| Ev_cells k <| Ev_name rfl ⟨s, 900, c, rfl, C.i1, part_some <| Ev_name rfl ⟨_, rfl, fun t1 => part_some <| Ev_add <| Ev_add <| Ev_name rfl <| Ev_int ⟨_, _, rfl, rfl, E_length k a' <| Ev_name rfl ⟨_, rfl, _, _, rfl, rfl, _, rfl, fun t2 =>
        ⟨c, _, _, _, rfl, C.h1, by simpa using Nat.le_trans (by simpa using hoc) (by decide), .int _ _, .int _ _, fun zs hz => ?_, fun b hb => Evs_nil <| call_extend (xs := iL nc) (ys := iL ((cellsA G [l]).map (wd (off G L)))) ?_ (AH.set_self ..) ?_ ?_⟩⟩⟩⟩⟩⟩
    · rw [hdr_len kd, show ((off G L l : Nat) : Int) + 1 + ((G.it l).length : Nat) = ((off G L l + G.sz l : Nat) : Int) by unfold Gr.sz; push_cast; omega]
      have := pick_run (a := off G L l) (b := off G L l + G.sz l) hz (by simp only [List.length_map]; rw [cellsX_len]; exact hofL) (by omega)
      rw [this, show off G L l + G.sz l - off G L l = G.sz l by omega, ← List.map_drop, ← List.map_take, ← List.map_drop, ← List.map_take, cellsX_blk hl, e4]
      simp [cellsA, blk]
    · rw [AH.set_ne _ _ (some_ne C.h2 hb)]; exact C.h2
    · simp; omega
    · have kb : Keep [] H (H.set b (.list (iL ((cellsA G [l]).map (wd (off G L)))))) := Keep.new hb
      have Cb := C.keep kb
      generalize H.set b (.list (iL ((cellsA G [l]).map (wd (off G L))))) = H1 at kb Cb ⊢
      have em : iL nc ++ iL ((cellsA G [l]).map (wd (off G L))) = iL (nc ++ (cellsA G [l]).map (wd (off G L))) := by simp
      rw [em]
      have kc : Keep [c'] H1 (H1.set c' (.list (iL (nc ++ (cellsA G [l]).map (wd (off G L)))))) := Keep.set (by simp)
      have i1 := Cb.i1.keep kc (by simp; exact ⟨_, Cb.h2⟩)
      have i2 := Cb.i2.keep kc (by simp; exact ⟨_, Cb.h2⟩)
      have h1 : (H1.set c' (.list (iL (nc ++ (cellsA G [l]).map (wd (off G L)))))) c = some _ := (AH.set_ne _ _ C.ne).trans Cb.h1
      have h2 : (H1.set c' (.list (iL (nc ++ (cellsA G [l]).map (wd (off G L)))))) c' = some _ := AH.set_self ..
      generalize H1.set c' (.list (iL (nc ++ (cellsA G [l]).map (wd (off G L))))) = H2 at kc i1 i2 h1 h2 ⊢
      refine Ex_cons <| Ex_assignSub <| Ev_cf k (by k_is) (by k_is) <| Evs_cons <| Ev_name rfl <| Evs_nil <| c_forward k a' <| Ev_cells k <| Ev_name rfl ⟨s, 900, c, rfl, i1, Ev_name rfl fun v u y hv hu hy => set_list hv hu h1 (by omega) (by omega) ?_ ?_⟩
      · rw [List.length_map, List.length_map, cellsX_len]; unfold Gr.sz at hofL; omega
      · rw [hy, Int.toNat_natCast, iL_set]
        have es : ((cellsX (hdO G O) G L).map (wd (off G L))).set (off G L l) (((cellsA G O).length : Nat) * 8 + 6) = (cellsX (hdO G (O ++ [l])) G L).map (wd (off G L)) := by
          rw [← hdO_new hlO, ← cellsX_set C.w.nd hl, List.map_set]; rfl
        rw [es]
        have ks : Keep [c] H2 (H2.set c (.list (iL ((cellsX (hdO G (O ++ [l])) G L).map (wd (off G L)))))) := Keep.set (by simp)
        refine Ex_cons <| Ex_ret <| E_ref k a' <| Ev_name rfl ⟨_, rfl, ?_⟩
        have key := q (H2.set c (.list (iL ((cellsX (hdO G (O ++ [l])) G L).map (wd (off G L)))))) ?_ ?_
        · unfold wd at key; dsimp only at key; rw [e3] at key; exact key
        · exact (kb.ext.trans (kc.mono (by simp))).trans (ks.mono (by simp))
        · exact ⟨i1.keep ks (by simp; exact ⟨_, h1⟩), AH.set_self .., i2.keep ks (by simp; exact ⟨_, h1⟩), (AH.set_ne _ _ (Ne.symm C.ne)).trans h2, C.ne, C.w, C.sm, hnd2, hsub2⟩
end
end Mine

-- F9
namespace Mine

section
variable {W : Wo} {A : Around} {env : Env} {μ : Mu} {H : AH} {n : Nat} {Q : AV → AH → Prop}
variable {s c s' c' : Addr} {G : Gr} {L O : List Addr} {nc : List Int} {mine : List AV}

theorem InO.add {x y : AV} (h : InO O x) : InO (addO O y) x := fun l e => addO_mem (h l e)
theorem Item.inO {x : AV} (h : Item O x) : InO O x := fun l e => by
  rcases h with ⟨i, rfl, _⟩ | ⟨m, rfl, hm⟩
  · cases e
  · cases e; exact hm
theorem map_grow {y : AV} {xs : List AV} (h : ∀ x ∈ xs, InO O x) : xs.map (wd (off G (addO O y))) = xs.map (wd (off G O)) :=
  List.map_congr_left fun x hx => wd_inO (h x hx) fun l hl => off_grow hl
theorem Reach.add {y : AV} (h : ∀ l ∈ O, Reach G mine l) (hy : ∀ l, y = .ref l → Reach G mine l) : ∀ l ∈ addO O y, Reach G mine l := fun l hl => (addO_new hl).elim (h l) (hy l)
theorem keep_two {X Y : AH} (k : Keep [c, c'] X Y) (h : X c' = none) : Keep [c] X Y := fun b o hb e => k b o (by
  intro q
  rcases List.mem_cons.mp q with rfl | q
  · exact hb (by simp)
  · have : b = c' := by simpa using q
    rw [this, h] at e; cases e) e
theorem CS.setNew {nc' : List Int} (C : CS H s c s' c' G L O nc) : CS (H.set c' (.list (iL nc'))) s c s' c' G L O nc' := by
  have ks : Keep [c'] H (H.set c' (.list (iL nc'))) := Keep.set (by simp)
  exact ⟨C.i1.keep ks (by simp; exact ⟨_, C.h2⟩), (AH.set_ne _ _ C.ne).trans C.h1, C.i2.keep ks (by simp; exact ⟨_, C.h2⟩), AH.set_self .., C.ne, C.w, C.sm, C.nd, C.sub⟩

/-- the place of collect's scan -/
structure CW (H0 H : AH) (s c s' c' fl : Addr) (G : Gr) (L O : List Addr) (mine : List AV) (q : Nat) : Prop where
  cs : CS H s c s' c' G L O (NC G L O q)
  dn : ∀ y ∈ (cellsA G O).take q, InO O y
  mi : ∀ x ∈ mine, InO O x
  re : ∀ l ∈ O, Reach G mine l
  hf : H fl = some (.list (iL (mine.map (wd (off G O)))))
  kp : Keep [c, c'] H0 H
  n1 : fl ≠ c
  n2 : fl ≠ c'
theorem CW.keep {H0 H' : AH} {fl : Addr} {q : Nat} (C : CW H0 H s c s' c' fl G L O mine q) (k : Keep [] H H') : CW H0 H' s c s' c' fl G L O mine q :=
  ⟨C.cs.keep k, C.dn, C.mi, C.re, k.at C.hf, C.kp.trans k.ext, C.n1, C.n2⟩
theorem CW.int {H0 : AH} {fl : Addr} {q : Nat} {i : Int} (C : CW H0 H s c s' c' fl G L O mine q) (h : (cellsA G O)[q]? = some (.int i)) : CW H0 H s c s' c' fl G L O mine (q + 1) := by
  refine ⟨?_, ?_, C.mi, C.re, C.hf, C.kp, C.n1, C.n2⟩
  · rw [NC_int h]; exact C.cs
  · intro y hy
    rw [List.take_add_one, h] at hy
    rcases List.mem_append.mp hy with hy | hy
    · exact C.dn y hy
    · simp at hy; subst hy; intro l e; cases e

theorem c_collect (k : PK W) (a : AOk A (n + 4)) {r : Addr} (S : StoreAt H s c G L) (hr : H r = some (.list (mine.map (eS (off G L))))) (hm : ∀ x ∈ mine, Item L x) (h4 : mine.length ≤ 4) (hsm : (cellsA G L).length ≤ 900) (hrc : r ≠ c)
    (q : ∀ t s' c' r' O H', Keep [c] H H' → H' t = some (.tup [.ref s', .ref r']) → StoreAt H' s' c' G O → H' r' = some (.list (mine.map (eS (off G O)))) → Exact G mine O → H c' = none → H r' = none → c' ≠ r' → Q (.ref t) H') :
    Cal W A (.ref 257) [.ref s, .ref r] H Q := by
  refine Cal_K2 (x := "heap") (y := "roots") k a (by k_is) (by k_is) fun M A' a' => ?_
  refine Ex_cons <| Ex_assign <| Ev_cf k (by k_is) (by k_is) <| Evs_cons <| Ev_limit k <| Ev_name rfl ⟨s, 900, c, rfl, S.1.1, Evs_nil <| c_newHeap k a' fun s' c' H1 k1 hh1 hc' => ?_⟩
  have S1 := S.keep k1
  have cc : c ≠ c' := some_ne S.1.2.1 hc'
  have rc' : r ≠ c' := some_ne hr hc'
  have C1 : CS H1 s c s' c' G L [] [] := ⟨S1.1.1, by rw [hdO_nil, cellsX_hdr]; exact S1.1.2.1, hh1.1, hh1.2.1, cc, S.2, hsm, by simp, by simp⟩
  have hr1 := k1.at hr
  have hsz : (Src.list r (mine.map (eS (off G L)))).items.length = mine.length := by simp [Src.items]
  refine Ex_cons <| Ex_assignComp (cl := [(Str.ofString "new", M + 2), (Str.ofString "heap", M + 1)]) (μc := [(Str.ofString "heap", .ref s), (Str.ofString "new", .ref s')]) a'.h ⟨rfl, ?_, ?_, ?_, rfl, ?_⟩
    (Ev_name rfl ⟨.list r (mine.map (eS (off G L))), rfl, hr1, by rw [hsz]; omega, fun i ys H2 => ∃ O, CS H2 s c s' c' G L O (NC G L O 0) ∧ ys = iL ((mine.take i).map (wd (off G O))) ∧ (∀ x ∈ mine.take i, InO O x) ∧ (∀ l ∈ O, Reach G mine l) ∧ Keep [c, c'] H1 H2,
      ⟨[], C1, by simp, by simp, by simp, Keep.refl⟩, ⟨?_, ?_⟩, ?_⟩)
  · intro p hp
    simp only [List.mem_cons, List.not_mem_nil, or_false] at hp
    rcases hp with rfl | rfl
    · exact ⟨rfl, rfl, (fun h => by cases h), (fun h => by cases h)⟩
    · exact ⟨rfl, rfl, (fun h => by cases h), (fun h => by cases h)⟩
  · intro p hp
    simp only [List.mem_cons, List.not_mem_nil, or_false] at hp
    rcases hp with rfl | rfl <;> rfl
  · decide
  · decide
  · rintro i ys H2 ⟨O, _, _, _, _, k2⟩
    exact k2.at hr1 (by simp [hrc, rc'])
  · rintro D i z ys H2 hz ⟨O, C2, rfl, hin, hre, k2⟩
    have hz : (mine.map (eS (off G L)))[i]? = some z := hz
    rw [List.getElem?_map] at hz
    obtain ⟨x, hx, rfl⟩ := Option.map_eq_some_iff.mp hz
    have hxm := List.mem_of_getElem? hx
    have hxi := hm x hxm
    refine tests_nil ⟨fun _ => ?_, fun e => by cases e⟩
    refine Ev_cf k (by k_is) (by k_is) <| Evs_cons <| Ev_name rfl <| Evs_cons <| Ev_name rfl <| Evs_cons <| Ev_name rfl <| Evs_nil <| c_moved k a' C2 hxi NC_len fun H3 k3 C3 => ?_
    rw [NC_grow (Nat.zero_le _) (by simp)] at C3
    have htk : mine.take (i + 1) = mine.take i ++ [x] := by rw [List.take_add_one, hx]; rfl
    refine ⟨addO O x, C3, ?_, ?_, hre |> Reach.add <| fun l e => .root (e ▸ hxm), k2.trans k3⟩
    · rw [htk, List.map_append, map_grow hin]; simp
    · rw [htk]
      intro y hy
      rcases List.mem_append.mp hy with h | h
      · exact (hin y h).add
      · simp at h; subst h; exact (addO_item hxi).inO
  · rintro ys H2 ⟨O, C2, rfl, hin, hre, k2⟩ fl hfl
    rw [hsz, List.take_length] at *
    have kf : Keep [] H2 (H2.set fl (.list (iL (mine.map (wd (off G O)))))) := Keep.new hfl
    have fc : fl ≠ c := Ne.symm (some_ne C2.h1 hfl)
    have fc' : fl ≠ c' := Ne.symm (some_ne C2.h2 hfl)
    have fH : H fl = none := by
      have : H1 fl = none := by
        cases e : H1 fl with
        | none => rfl
        | some o => have := k2 fl o (by simp [fc, fc']) e; rw [hfl] at this; cases this
      exact keep_none k1 this
    have cw : CW H1 (H2.set fl (.list (iL (mine.map (wd (off G O)))))) s c s' c' fl G L O mine (cellsA G (O.take 0)).length :=
      ⟨C2.keep kf, by simp [cellsA], hin, hre, AH.set_self .., k2.trans kf.ext, fc, fc'⟩
    generalize H2.set fl (.list (iL (mine.map (wd (off G O))))) = H3 at cw ⊢
    refine Ex_cons <| Ex_assign <| Ev_int ?_
    refine Ex_cons <| Ex_while (fun m ν H' => ∃ j O, m = L.length - j ∧ j ≤ O.length ∧ ν = [(Str.ofString "heap", .ref s), (Str.ofString "new", .ref s'), (Str.ofString "found", .ref fl), (Str.ofString "scan", .int ((cellsA G (O.take j)).length : Nat))] ∧
      CW H1 H' s c s' c' fl G L O mine (cellsA G (O.take j)).length) L.length (le_cons rfl <| le_cons rfl <| le_cons rfl <| le_cons rfl le_nil) ⟨0, O, rfl, Nat.zero_le _, rfl, cw⟩ ?_
    clear cw C2 hin hre
    rintro m ν H4 ⟨j, O, rfl, hj, rfl, cw⟩
    have hOL := nodup_le cw.cs.nd cw.cs.sub
    have hcl := cellsA_le (G := G) cw.cs.nd cw.cs.sub
    have ncl : (iL (NC G L O (cellsA G (O.take j)).length)).length = (cellsA G O).length := by rw [List.length_map, NC_len]
    refine Evb_cmp <| Ev_name rfl <| E_len k <| Ev_cells k <| Ev_name rfl ⟨s', 900, c', rfl, cw.cs.i2, c', _, rfl, cw.cs.h2, by rw [ncl]; omega, cmp_lt ⟨fun e => ?_, fun e => ?_⟩⟩
    · have e' := of_decide_eq_true e
      rw [ncl] at e'
      have hj2 : j < O.length := by
        rcases Nat.lt_or_ge j O.length with h | h
        · exact h
        · exfalso; rw [List.take_of_length_le h] at e'; omega
      have hl : O[j]? = some O[j] := List.getElem?_eq_getElem hj2
      have hlO := List.getElem_mem hj2
      generalize O[j] = l at hl hlO
      have hlL := cw.cs.sub l hlO
      have ho := off_take (G := G) cw.cs.nd hl
      have hszj := cellsA_take (G := G) hl
      have kd := (cw.cs.w.kind l hlL).kd
      have hh : (cellsA G O)[off G O l]? = some (.int (hdr G l)) := by
        have := cellsA_at (G := G) (j := 0) (sz_pos) hlO
        rw [Nat.add_zero] at this; exact this
      have hlt := off_lt (G := G) hlO
      unfold Gr.sz at hlt hszj
      rw [← ho] at cw hszj ⊢
      refine Ex_cons <| Ex_assign <| E_length k a' <| E_hcell k <| Ev_name rfl ⟨s', 900, c', rfl, cw.cs.i2, Ev_name rfl ⟨_, _, _, cw.cs.h2, rfl, by omega, by rw [NC_len]; omega, by rw [Int.toNat_natCast]; exact NC_at hh, _, rfl, ?_⟩⟩
      have ehl : wd (off G L) (.int (hdr G l)) / 8 / 16 = ((G.it l).length : Int) := hdr_len kd
      rw [ehl]
      have cw1 := cw.int hh
      refine Ex_cons <| Ex_forQ a'.h <| E_range2 k <| Ev_add <| Ev_name rfl <| Ev_int ⟨_, _, rfl, rfl, Ev_add <| Ev_add <| Ev_name rfl <| Ev_int ⟨_, _, rfl, rfl, Ev_name rfl ⟨_, _, rfl, rfl, _, _, rfl, rfl, fun d hdn => ?_⟩⟩⟩
      have kd2 : Keep [] H4 (H4.set d (.range ((off G O l : Nat) + 1) ((off G O l : Nat) + 1 + (G.it l).length))) := Keep.new hdn
      have cw2 := cw1.keep kd2
      have hdd : (H4.set d (.range ((off G O l : Nat) + 1) ((off G O l : Nat) + 1 + (G.it l).length))) d = some _ := AH.set_self ..
      generalize H4.set d (.range ((off G O l : Nat) + 1) ((off G O l : Nat) + 1 + (G.it l).length)) = H5 at cw2 hdd ⊢
      have hrz : (Src.range d ((off G O l : Nat) + 1) ((off G O l : Nat) + 1 + (G.it l).length)).items.length = (G.it l).length := by simp [Src.items]; omega
      refine ⟨.range d ((off G O l : Nat) + 1) ((off G O l : Nat) + 1 + (G.it l).length), rfl, ⟨hdd, by omega, by omega, by omega, by omega⟩, fun p ν H' => ∃ O2 R, O2 = O ++ R ∧ ν = [(Str.ofString "heap", .ref s), (Str.ofString "new", .ref s'), (Str.ofString "found", .ref fl), (Str.ofString "scan", .int (off G O l : Nat)), (Str.ofString "length", .int (G.it l).length)] ∧ CW H1 H' s c s' c' fl G L O2 mine (off G O l + 1 + p),
        ⟨_, le_cons rfl <| le_cons rfl <| le_cons rfl <| le_cons rfl <| le_cons rfl le_nil, O, [], by simp, rfl, cw2⟩, fun _ _ _ _ => trivial, ?_, ?_⟩
      · rintro p y ν H6 hy ⟨O2, R, rfl, rfl, cw3⟩ Q9 hN _
        have hp : p < (G.it l).length := by
          have := (List.getElem?_eq_some_iff.mp hy).1
          rw [hrz] at this; exact this
        have hy' : y = .int (off G O l + 1 + p : Nat) := by
          simp only [Src.items, List.getElem?_map] at hy
          rw [List.getElem?_range (by omega)] at hy
          simp only [Option.map_some, Option.some.injEq] at hy
          rw [← hy]; push_cast; rfl
        subst hy'
        have hx0 : (G.it l)[p]? = some (G.it l)[p] := List.getElem?_eq_getElem hp
        have hxm := List.getElem_mem hp
        generalize (G.it l)[p] = x at hx0 hxm
        have hxi := cw3.cs.w.item l hlL x hxm
        have hlO2 : l ∈ O ++ R := by simp [hlO]
        have hcell : (cellsA G (O ++ R))[off G O l + 1 + p]? = some x := by
          have := cellsA_at (G := G) (j := 1 + p) (by unfold Gr.sz; omega) hlO2
          rw [off_left hlO, ← Nat.add_assoc] at this
          rw [this, Nat.add_comm 1 p]; simp [blk, hx0]
        have hcl2 := cellsA_le (G := G) cw3.cs.nd cw3.cs.sub
        have hql := (List.getElem?_eq_some_iff.mp hcell).1
        refine Ex_cons <| Ex_assignSub <| Ev_cf k (by k_is) (by k_is) <| Evs_cons <| Ev_name rfl <| Evs_cons <| Ev_name rfl <| Evs_cons <| E_hcell k <| Ev_name rfl ⟨s', 900, c', rfl, cw3.cs.i2, Ev_name rfl ⟨_, _, _, cw3.cs.h2, rfl, by omega, by rw [NC_len]; omega, by rw [Int.toNat_natCast]; exact NC_at hcell,
          Evs_nil <| c_moved k a' cw3.cs hxi NC_len fun H7 k7 C7 => ?_⟩⟩
        rw [NC_grow (by omega) cw3.dn] at C7
        refine Ev_cells k <| Ev_name rfl ⟨s', 900, c', rfl, C7.i2, Ev_name rfl fun v u y hv hu hy => set_list hv hu C7.h2 (by omega) (by omega) ?_ ?_⟩
        · have hcl3 := cellsA_le (G := G) cw3.cs.nd cw3.cs.sub
          obtain ⟨R', eR⟩ := addO_ext (O := O ++ R) (x := x)
          rw [List.length_map, NC_len, eR, cellsA_append, List.length_append]; omega
        · obtain ⟨R', eR⟩ := addO_ext (O := O ++ R) (x := x)
          have hcell' : (cellsA G (addO (O ++ R) x))[off G O l + 1 + p]? = some x := by
            rw [eR, cellsA_append, List.getElem?_append_left hql, hcell]
          rw [hy, Int.toNat_natCast, iL_set, NC_set hcell']
          refine Ex_nil (hN _ _ _ (le_cons rfl <| le_cons rfl <| le_cons rfl <| le_cons rfl <| le_cons rfl le_nil) ⟨addO (O ++ R) x, R ++ R', by rw [eR, List.append_assoc], rfl, C7.setNew, ?_, fun z hz => (cw3.mi z hz).add, Reach.add cw3.re fun m e => .step (cw3.re l hlO2) (e ▸ hxm), ?_, ?_, cw3.n1, cw3.n2⟩)
          · intro z hz
            rw [show off G O l + 1 + (p + 1) = off G O l + 1 + p + 1 by omega, List.take_add_one, hcell'] at hz
            rcases List.mem_append.mp hz with h | h
            · rw [eR, cellsA_append, List.take_append_of_le_length (by omega)] at h
              exact (cw3.dn z h).add
            · simp at h; subst h; exact (addO_item hxi).inO
          · rw [AH.set_ne _ _ cw3.n2, map_grow cw3.mi]
            exact k7.at cw3.hf (by simp [cw3.n1, cw3.n2])
          · exact (cw3.kp.trans k7).trans (Keep.set (by simp))
      · rintro ν H6 ⟨O2, R, rfl, rfl, cw3⟩
        rw [hrz] at cw3
        have htk : (O ++ R).take (j + 1) = O.take (j + 1) := List.take_append_of_le_length (by omega)
        refine Ex_cons <| Ex_assign <| Ev_add <| Ev_add <| Ev_name rfl <| Ev_int ⟨_, _, rfl, rfl, Ev_name rfl ⟨_, _, rfl, rfl, Ex_nil ?_⟩⟩
        have e1 : ((off G O l : Nat) : Int) + 1 + (G.it l).length = ((cellsA G ((O ++ R).take (j + 1))).length : Nat) := by rw [htk, hszj]; push_cast; omega
        rw [e1]
        refine ⟨_, le_cons rfl <| le_cons rfl <| le_cons rfl <| le_cons rfl le_nil, L.length - (j + 1), by omega, j + 1, O ++ R, rfl, by simp; omega, rfl, ?_⟩
        rw [htk, hszj, show off G O l + ((G.it l).length + 1) = off G O l + 1 + (G.it l).length by omega]; exact cw3
    · have e' := of_decide_eq_false e
      rw [ncl] at e'
      have cs := cw.cs
      rw [NC_all (by omega)] at cs
      have ex : Exact G mine O := Exact.of cw.cs.nd cw.re (fun l h => cw.mi _ h l rfl) fun m hm' l h => by
        refine cw.dn (.ref l) ?_ l rfl
        rw [List.take_of_length_le (by omega)]
        simp only [cellsA, List.mem_flatMap]
        exact ⟨m, hm', by simp [blk, h]⟩
      have k4 : Keep [c, c'] H H4 := k1.ext.trans cw.kp
      refine Ex_cons <| Ex_ret <| Ev_tuple <| Evs_cons <| Ev_name rfl <| Evs_cons <| Ev_name rfl <| Evs_nil ⟨by simp, fun t ht => ?_⟩
      have kt : Keep [] H4 (H4.set t (.tup [.ref s', .ref fl])) := Keep.new ht
      refine q t s' c' fl O _ (keep_two (k4.trans kt.ext) hc') (AH.set_self ..) ⟨⟨cs.i2.keep kt (by simp), kt.at cs.h2, by rw [cells_len]; omega⟩, ex.wf S.2 hm⟩ ?_ ex hc' fH (Ne.symm fc')
      rw [map_eS]; exact kt.at cw.hf
end
end Mine

-- F10
namespace Mine

section
variable {W : Wo} {A : Around} {env : Env} {μ : Mu} {H : AH} {n : Nat} {Q : AV → AH → Prop}
variable {s c : Addr} {G : Gr} {L F Wt : List Addr} {mine : List AV}

/-- the marking's two tables -/
structure MK (H0 H : AH) (fd wt : Addr) (G : Gr) (L F Wt : List Addr) (mine : List AV) : Prop where
  kp : Keep [] H0 H
  z1 : H0 fd = none
  z2 : H0 wt = none
  ne : fd ≠ wt
  hd : ∃ ep, H fd = some (.idict (starts G L F) ep)
  hw : H wt = some (.list (iL (Wt.map fun l => (off G L l : Int))))
  nd : F.Nodup
  sub : ∀ l ∈ F, l ∈ L
  re : ∀ l ∈ F, Reach G mine l
  ws : ∀ l ∈ Wt, l ∈ F
  wl : Wt.length ≤ F.length
theorem MK.add {H0 : AH} {fd wt l : Addr} {ep' : Nat} (m : MK H0 H fd wt G L F Wt mine) (h : l ∉ F) (hl : l ∈ L) (hr : Reach G mine l) :
    MK H0 ((H.set fd (.idict (starts G L (F ++ [l])) ep')).set wt (.list (iL ((Wt ++ [l]).map fun l => (off G L l : Int))))) fd wt G L (F ++ [l]) (Wt ++ [l]) mine := by
  refine ⟨fun b o _ e => ?_, m.z1, m.z2, m.ne, ⟨ep', ?_⟩, AH.set_self .., ?_, ?_, ?_, ?_, by simp; exact m.wl⟩
  · rw [AH.set_ne _ _ (by rintro rfl; rw [m.z2] at e; cases e), AH.set_ne _ _ (by rintro rfl; rw [m.z1] at e; cases e)]; exact m.kp.at e
  · rw [AH.set_ne _ _ m.ne, AH.set_self]
  · rw [List.nodup_append]
    exact ⟨m.nd, by simp, fun a ha b hb => by simp at hb; subst hb; rintro rfl; exact h ha⟩
  · intro x hx
    rcases List.mem_append.mp hx with hx | hx
    · exact m.sub x hx
    · simp at hx; exact hx ▸ hl
  · intro x hx
    rcases List.mem_append.mp hx with hx | hx
    · exact m.re x hx
    · simp at hx; exact hx ▸ hr
  · intro x hx
    rcases List.mem_append.mp hx with hx | hx
    · exact List.mem_append_left _ (m.ws x hx)
    · exact List.mem_append_right _ hx
theorem MK.keep {H0 H' : AH} {fd wt : Addr} (m : MK H0 H fd wt G L F Wt mine) (k : Keep [] H H') : MK H0 H' fd wt G L F Wt mine :=
  ⟨m.kp.trans k, m.z1, m.z2, m.ne, let ⟨ep, e⟩ := m.hd; ⟨ep, k.at e⟩, k.at m.hw, m.nd, m.sub, m.re, m.ws, m.wl⟩

def markF (F : List Addr) : AV → List Addr
  | .ref l => if l ∈ F then F else F ++ [l]
  | _ => F
def markW (F Wt : List Addr) : AV → List Addr
  | .ref l => if l ∈ F then Wt else Wt ++ [l]
  | _ => Wt
theorem markF_mem {x : AV} {l : Addr} (h : l ∈ F) : l ∈ markF F x := by
  unfold markF; split
  · split <;> simp [h]
  · exact h
theorem markF_in {x : AV} {l : Addr} (h : x = .ref l) : l ∈ markF F x := by
  subst h
  show l ∈ (if l ∈ F then F else F ++ [l])
  by_cases h : l ∈ F <;> simp [h]
theorem markF_new {x : AV} {l : Addr} (h : l ∈ markF F x) : l ∈ F ∨ l ∈ markW F Wt x := by
  unfold markF at h; unfold markW
  split at h
  · split at h
    · exact .inl h
    · rename_i q
      rcases List.mem_append.mp h with h | h
      · exact .inl h
      · rw [if_neg q]; exact .inr (List.mem_append_right _ h)
  · exact .inl h
theorem markW_mem {x : AV} {l : Addr} (h : l ∈ Wt) : l ∈ markW F Wt x := by
  unfold markW; split
  · split <;> simp [h]
  · exact h
theorem mark_len {x : AV} : (markW F Wt x).length + F.length = Wt.length + (markF F x).length := by
  unfold markW markF; split
  · split <;> simp; omega
  · rfl

theorem c_marked (k : PK W) (a : AOk A (n + 2)) {r : Addr} (S : StoreAt H s c G L) (hr : H r = some (.list (mine.map (eS (off G L))))) (hm : ∀ x ∈ mine, Item L x) (h4 : mine.length ≤ 4) (hsm : (cellsA G L).length ≤ 900)
    (q : ∀ fd F ep H', Keep [] H H' → H' fd = some (.idict (starts G L F) ep) → (fd == sysModules) = false → Exact G mine F → Q (.ref fd) H') :
    Cal W A (.ref 264) [.ref s, .ref r] H Q := by
  refine Cal_K2 (x := "heap") (y := "roots") k a (by k_is) (by k_is) fun M A' a' => ?_
  refine Ex_cons <| Ex_assign <| Ev_dict0 k.ok fun fd hfd hsmod => ?_
  have kf : Keep [] H (H.set fd (.idict [] 0)) := Keep.new hfd
  have hff : (H.set fd (.idict [] 0)) fd = some (.idict (starts G L []) 0) := AH.set_self ..
  generalize H.set fd (.idict [] 0) = H1 at kf hff ⊢
  refine Ex_cons <| Ex_assign <| Ev_list <| Evs_nil ⟨by simp, fun wt hwt => ?_⟩
  have nfw := some_ne hff hwt
  have kw : Keep [] H1 (H1.set wt (.list [])) := Keep.new hwt
  have mk0 : MK H (H1.set wt (.list [])) fd wt G L [] [] mine := ⟨kf.trans kw, hfd, keep_none kf hwt, nfw, ⟨0, kw.at hff⟩, AH.set_self .., by simp, by simp, by simp, by simp, by simp⟩
  generalize H1.set wt (.list []) = H2 at mk0 ⊢
  have hlL := len_cells (G := G) L
  have hsz : (Src.list r (mine.map (eS (off G L)))).items.length = mine.length := by simp [Src.items]
  refine Ex_cons <| Ex_forQ a'.h <| Ev_name rfl ⟨.list r (mine.map (eS (off G L))), rfl, mk0.kp.at hr, fun i ν H' => ∃ F Wt, ν = [(Str.ofString "heap", .ref s), (Str.ofString "found", .ref fd), (Str.ofString "waiting", .ref wt)] ∧ MK H H' fd wt G L F Wt mine ∧ (∀ x ∈ mine.take i, InO F x) ∧ (∀ l ∈ F, l ∈ Wt),
    ⟨_, le_cons rfl <| le_cons rfl <| le_cons rfl le_nil, [], [], rfl, mk0, by simp, by simp⟩, ?_, ?_, ?_⟩
  · rintro i ν H' ⟨F, Wt, _, m, _⟩; exact m.kp.at hr
  · rintro i z ν H3 hz ⟨F, Wt, rfl, m, hin, hFW⟩ Q9 hN _
    have hz : (mine.map (eS (off G L)))[i]? = some z := hz
    rw [List.getElem?_map] at hz
    obtain ⟨x, hx, rfl⟩ := Option.map_eq_some_iff.mp hz
    have hxm := List.mem_of_getElem? hx
    have hxi := hm x hxm
    have htk : mine.take (i + 1) = mine.take i ++ [x] := by rw [List.take_add_one, hx]; rfl
    obtain ⟨ep, hd⟩ := m.hd
    have hFL := nodup_le m.nd m.sub
    have fin : ∀ y ∈ mine.take (i + 1), InO (markF F x) y := by
      rw [htk]
      intro y hy l e
      rcases List.mem_append.mp hy with h | h
      · exact markF_mem (hin y h l e)
      · simp at h; subst h; exact markF_in e
    have fin2 : ∀ l ∈ markF F x, l ∈ markW F Wt x := fun l hl => (markF_new (Wt := Wt) hl).elim (fun h => markW_mem (hFW l h)) id
    refine Ex_cons <| Ex_if <| Evb_bool <| Evb_and_cons <| Evb_val <| E_isRef k a' <| Ev_name rfl ⟨_, rfl, _, rfl, fun e => ?_, fun e => ⟨fun e => by simp at e, fun _ => Ex_nil ?_⟩⟩
    · obtain ⟨l, rfl, hl⟩ := isRef_wd hxi e
      refine Evb_and_cons <| Evb_cmp <| E_payload k a' <| Ev_name rfl ⟨_, rfl, Ev_name rfl <| cmp_notInD hd hsmod ⟨fun e => Evb_and_nil ⟨fun _ => ?_, fun e => by simp at e⟩, fun e => ⟨fun e => by simp at e, fun _ => Ex_nil ?_⟩⟩⟩
      · rw [wd_addr] at e
        have hno : l ∉ F := fun h => by
          have := look_off (f := off G L) (g := fun _ => AV.bool true) (fun m' h' e' => off_inj (m.sub _ h') hl e') h
          unfold starts at e
          rw [this] at e; simp at e
        have hput : putI (starts G L F) (off G L l : Int) (.bool true) = starts G L (F ++ [l]) := putI_new (g := fun _ => .bool true) fun m' h' e' => hno (off_inj (m.sub _ h') hl e' ▸ h')
        refine Ex_cons <| Ex_assignSub <| Ev_boolC <| Ev_name rfl <| E_payload k a' <| Ev_name rfl ⟨_, rfl, fun v u y hv hu hy => set_dict' hv hu hd (by simp [starts]; omega) fun ep' => ?_⟩
        rw [hy, wd_addr, hput]
        have hw2 : (H3.set fd (.idict (starts G L (F ++ [l])) ep')) wt = some (.list (iL (Wt.map fun l => (off G L l : Int)))) := (AH.set_ne _ _ (Ne.symm m.ne)).trans m.hw
        refine Ex_cons <| Ex_expr <| Ev_lm PySem.F.slot_list_append rfl <| Ev_name rfl ⟨wt, _, rfl, hw2, Evs_cons <| E_payload k a' <| Ev_name rfl ⟨_, rfl, Evs_nil <| call_append hw2 (by have := m.wl; simp; omega) <| Ex_nil <| Ex_nil ?_⟩⟩
        have m2 := m.add (ep' := ep') hno hl (.root hxm)
        have e1 : iL (Wt.map fun l => (off G L l : Int)) ++ [AV.int (wd (off G L) (.ref l) / 8)] = iL ((Wt ++ [l]).map fun l => (off G L l : Int)) := by rw [wd_addr]; simp
        rw [e1]
        have eF : markF F (.ref l) = F ++ [l] := by unfold markF; dsimp only; rw [if_neg hno]
        have eW : markW F Wt (.ref l) = Wt ++ [l] := by unfold markW; dsimp only; rw [if_neg hno]
        rw [eF] at fin fin2
        rw [eW] at fin2
        exact hN _ _ _ (le_cons rfl <| le_cons rfl <| le_cons rfl le_nil) ⟨F ++ [l], Wt ++ [l], rfl, m2, fin, fin2⟩
      · rw [wd_addr] at e
        have hyes : l ∈ F := by
          by_cases h : l ∈ F
          · exact h
          · have := look_none (f := off G L) (g := fun _ => AV.bool true) (k := (off G L l : Int)) (L := F) fun m' h' e' => h (off_inj (G := G) (m.sub _ h') hl (by omega) ▸ h')
            unfold starts at e
            rw [this] at e; simp at e
        have eF : markF F (.ref l) = F := by unfold markF; dsimp only; rw [if_pos hyes]
        have eW : markW F Wt (.ref l) = Wt := by unfold markW; dsimp only; rw [if_pos hyes]
        rw [eF] at fin fin2
        rw [eW] at fin2
        exact Ex_nil (hN _ _ _ (le_cons rfl <| le_cons rfl <| le_cons rfl le_nil) ⟨F, Wt, rfl, m, fin, fin2⟩)
    · obtain ⟨i', rfl, _⟩ := isRef_wd' hxi e
      exact Ex_nil (hN _ _ _ (le_cons rfl <| le_cons rfl <| le_cons rfl le_nil) ⟨F, Wt, rfl, m, fin, fin2⟩)
  · rintro ν H3 ⟨F, Wt, rfl, m, hin, hFW⟩
    rw [hsz, List.take_length] at hin
    refine Ex_cons <| Ex_while (fun mm ν H' => ∃ F Wt, mm = 2 * (L.length - F.length) + Wt.length ∧ ν = [(Str.ofString "heap", .ref s), (Str.ofString "found", .ref fd), (Str.ofString "waiting", .ref wt)] ∧ MK H H' fd wt G L F Wt mine ∧ (∀ x ∈ mine, InO F x) ∧ (∀ l ∈ F, l ∈ Wt ∨ ∀ y ∈ G.it l, InO F y)) (2 * (L.length - F.length) + Wt.length)
      (le_cons rfl <| le_cons rfl <| le_cons rfl le_nil) ⟨F, Wt, rfl, rfl, m, hin, fun l hl => .inl (hFW l hl)⟩ ?_
    clear m hin hFW
    rintro mm ν H4 ⟨F, Wt, rfl, rfl, m, hin, hcl⟩
    refine Evb_cmp <| Ev_name rfl <| Ev_list <| Evs_nil ⟨by simp, fun e0 he0 => ?_⟩
    have k0 : Keep [] H4 (H4.set e0 (.list [])) := Keep.new he0
    have he : (H4.set e0 (.list [])) e0 = some (.list (iL [])) := AH.set_self ..
    have m0 := m.keep k0
    generalize H4.set e0 (.list []) = H5 at k0 he m0 ⊢
    refine cmp_neL a'.cl m0.hw he ⟨fun e => ?_, fun e => ?_⟩
    · have hne : Wt ≠ [] := by
        rintro rfl
        simp at e
      obtain ⟨W1, l, rfl⟩ : ∃ W1 l, Wt = W1 ++ [l] := ⟨Wt.dropLast, Wt.getLast hne, (List.dropLast_concat_getLast hne).symm⟩
      have hlF := m0.ws l (by simp)
      have hlLL := m0.sub l hlF
      have kd := (S.2.kind l hlLL).kd
      have hFL := nodup_le m0.nd m0.sub
      have hwl := m0.wl
      have hw := m0.hw
      have ew : iL ((W1 ++ [l]).map fun l => (off G L l : Int)) = iL (W1.map fun l => (off G L l : Int)) ++ [.int (off G L l : Nat)] := by simp
      rw [ew] at hw
      refine Ex_cons <| Ex_assign <| Ev_lm0 PySem.F.slot_list_pop rfl <| Ev_name rfl ⟨wt, _, rfl, hw, call_pop hw (by simp at hwl ⊢; omega) ?_⟩
      have m1 : MK H (H5.set wt (.list (iL (W1.map fun l => (off G L l : Int))))) fd wt G L F W1 mine :=
        ⟨fun b o _ eb => by rw [AH.set_ne _ _ (by rintro rfl; rw [m.z2] at eb; cases eb)]; exact m0.kp.at eb, m.z1, m.z2, m.ne, let ⟨ep, eh⟩ := m0.hd; ⟨ep, (AH.set_ne _ _ m.ne).trans eh⟩, AH.set_self .., m0.nd, m0.sub, m0.re, fun x hx => m0.ws x (by simp [hx]), by simp at hwl; omega⟩
      generalize H5.set wt (.list (iL (W1.map fun l => (off G L l : Int)))) = H6 at m1 ⊢
      have S6 := S.keep m1.kp
      have hlt := off_lt (G := G) hlLL
      unfold Gr.sz at hlt
      refine Ex_cons <| Ex_forQ a'.h <| E_range2 k <| Ev_add <| Ev_name rfl <| Ev_int ⟨_, _, rfl, rfl, Ev_add <| Ev_add <| Ev_name rfl <| Ev_int ⟨_, _, rfl, rfl, E_length k a' <| E_hcell k <| Ev_name rfl ⟨s, 900, c, rfl, S6.1.1, Ev_name rfl ⟨_, _, _, S6.1.2.1, rfl, by omega, S6.1.2.2, by rw [Int.toNat_natCast]; exact cells_hdr hlLL, _, rfl, _, _, rfl, rfl, _, _, rfl, rfl, fun d hdn => ?_⟩⟩⟩⟩
      rw [hdr_len kd]
      have kr : Keep [] H6 (H6.set d (.range ((off G L l : Nat) + 1) ((off G L l : Nat) + 1 + (G.it l).length))) := Keep.new hdn
      have hdd : (H6.set d (.range ((off G L l : Nat) + 1) ((off G L l : Nat) + 1 + (G.it l).length))) d = some _ := AH.set_self ..
      have m2 := m1.keep kr
      generalize H6.set d (.range ((off G L l : Nat) + 1) ((off G L l : Nat) + 1 + (G.it l).length)) = H7 at m2 hdd ⊢
      have hrz : (Src.range d ((off G L l : Nat) + 1) ((off G L l : Nat) + 1 + (G.it l).length)).items.length = (G.it l).length := by simp [Src.items]; omega
      refine ⟨.range d ((off G L l : Nat) + 1) ((off G L l : Nat) + 1 + (G.it l).length), rfl, ⟨hdd, by omega, by omega, by omega, by omega⟩, fun p ν H' => ∃ F2 W2, ν = [(Str.ofString "heap", .ref s), (Str.ofString "found", .ref fd), (Str.ofString "waiting", .ref wt)] ∧ MK H H' fd wt G L F2 W2 mine ∧ (∀ x ∈ mine, InO F2 x) ∧ (∀ x ∈ (G.it l).take p, InO F2 x) ∧
        (∀ l' ∈ F2, l' = l ∨ l' ∈ W2 ∨ ∀ y ∈ G.it l', InO F2 y) ∧ W2.length + F.length = W1.length + F2.length ∧ F.length ≤ F2.length ∧ l ∈ F2,
        ⟨_, le_cons rfl <| le_cons rfl <| le_cons rfl le_nil, F, W1, rfl, m2, hin, by simp, fun l' hl' => ?_, rfl, Nat.le_refl _, hlF⟩, fun _ _ _ _ => trivial, ?_, ?_⟩
      · rcases hcl l' hl' with h | h
        · rcases List.mem_append.mp h with h | h
          · exact .inr (.inl h)
          · simp at h; exact .inl h
        · exact .inr (.inr h)
      · rintro p y ν H8 hy ⟨F2, W2, rfl, m3, hin3, hit3, hcl3, hl3, hg3, hlF2⟩ Q9 hN _
        have hp : p < (G.it l).length := by
          have := (List.getElem?_eq_some_iff.mp hy).1
          rw [hrz] at this; exact this
        have hy' : y = .int (off G L l + 1 + p : Nat) := by
          simp only [Src.items, List.getElem?_map] at hy
          rw [List.getElem?_range (by omega)] at hy
          simp only [Option.map_some, Option.some.injEq] at hy
          rw [← hy]; push_cast; rfl
        subst hy'
        have hx0 : (G.it l)[p]? = some (G.it l)[p] := List.getElem?_eq_getElem hp
        have hxm := List.getElem_mem hp
        generalize (G.it l)[p] = x at hx0 hxm
        have hxi := S.2.item l hlLL x hxm
        have hcell := cells_field (L := L) hlLL hx0
        have htk : (G.it l).take (p + 1) = (G.it l).take p ++ [x] := by rw [List.take_add_one, hx0]; rfl
        obtain ⟨ep, hd⟩ := m3.hd
        have hFL3 := nodup_le m3.nd m3.sub
        have S8 := S.keep m3.kp
        have fin1 : ∀ z ∈ mine, InO (markF F2 x) z := fun z hz l' e => markF_mem (hin3 z hz l' e)
        have fin2 : ∀ z ∈ (G.it l).take (p + 1), InO (markF F2 x) z := by
          rw [htk]
          intro z hz l' e
          rcases List.mem_append.mp hz with h | h
          · exact markF_mem (hit3 z h l' e)
          · simp at h; subst h; exact markF_in e
        have fin3 : ∀ l' ∈ markF F2 x, l' = l ∨ l' ∈ markW F2 W2 x ∨ ∀ y ∈ G.it l', InO (markF F2 x) y := fun l' hl' => by
          rcases markF_new (Wt := W2) hl' with h | h
          · rcases hcl3 l' h with h | h | h
            · exact .inl h
            · exact .inr (.inl (markW_mem h))
            · exact .inr (.inr fun y hy l2 e => markF_mem (h y hy l2 e))
          · exact .inr (.inl h)
        have fin4 := mark_len (F := F2) (Wt := W2) (x := x)
        refine Ex_cons <| Ex_assign <| E_hcell k <| Ev_name rfl ⟨s, 900, c, rfl, S8.1.1, Ev_name rfl ⟨_, _, _, S8.1.2.1, rfl, by omega, S8.1.2.2, by rw [Int.toNat_natCast]; exact hcell, ?_⟩⟩
        refine Ex_cons <| Ex_if <| Evb_bool <| Evb_and_cons <| Evb_val <| E_isRef k a' <| Ev_name rfl ⟨_, rfl, _, rfl, fun e => ?_, fun e => ⟨fun e => by simp at e, fun _ => Ex_nil ?_⟩⟩
        · obtain ⟨l2, rfl, hl2⟩ := isRef_wd hxi e
          refine Evb_and_cons <| Evb_cmp <| E_payload k a' <| Ev_name rfl ⟨_, rfl, Ev_name rfl <| cmp_notInD hd hsmod ⟨fun e => Evb_and_nil ⟨fun _ => ?_, fun e => by simp at e⟩, fun e => ⟨fun e => by simp at e, fun _ => Ex_nil ?_⟩⟩⟩
          · rw [wd_addr] at e
            have hno : l2 ∉ F2 := fun h => by
              have := look_off (f := off G L) (g := fun _ => AV.bool true) (fun m' h' e' => off_inj (m3.sub _ h') hl2 e') h
              unfold starts at e
              rw [this] at e; simp at e
            have hput : putI (starts G L F2) (off G L l2 : Int) (.bool true) = starts G L (F2 ++ [l2]) := putI_new (g := fun _ => .bool true) fun m' h' e' => hno (off_inj (m3.sub _ h') hl2 e' ▸ h')
            refine Ex_cons <| Ex_assignSub <| Ev_boolC <| Ev_name rfl <| E_payload k a' <| Ev_name rfl ⟨_, rfl, fun v u y hv hu hy => set_dict' hv hu hd (by simp [starts]; omega) fun ep' => ?_⟩
            rw [hy, wd_addr, hput]
            have hw2 : (H8.set fd (.idict (starts G L (F2 ++ [l2])) ep')) wt = some (.list (iL (W2.map fun l => (off G L l : Int)))) := (AH.set_ne _ _ (Ne.symm m.ne)).trans m3.hw
            refine Ex_cons <| Ex_expr <| Ev_lm PySem.F.slot_list_append rfl <| Ev_name rfl ⟨wt, _, rfl, hw2, Evs_cons <| E_payload k a' <| Ev_name rfl ⟨_, rfl, Evs_nil <| call_append hw2 (by have := m3.wl; simp; omega) <| Ex_nil <| Ex_nil ?_⟩⟩
            have m4 := m3.add (ep' := ep') hno hl2 (.step (m3.re l hlF2) hxm)
            have e1 : iL (W2.map fun l => (off G L l : Int)) ++ [AV.int (wd (off G L) (.ref l2) / 8)] = iL ((W2 ++ [l2]).map fun l => (off G L l : Int)) := by rw [wd_addr]; simp
            rw [e1]
            have eF : markF F2 (.ref l2) = F2 ++ [l2] := by unfold markF; dsimp only; rw [if_neg hno]
            have eW : markW F2 W2 (.ref l2) = W2 ++ [l2] := by unfold markW; dsimp only; rw [if_neg hno]
            rw [eF] at fin1 fin2 fin3 fin4
            rw [eW] at fin3 fin4
            exact hN _ _ _ (le_cons rfl <| le_cons rfl <| le_cons rfl le_nil) ⟨F2 ++ [l2], W2 ++ [l2], rfl, m4, fin1, fin2, fin3, by omega, by simp; omega, by simp [hlF2]⟩
          · rw [wd_addr] at e
            have hyes : l2 ∈ F2 := by
              by_cases h : l2 ∈ F2
              · exact h
              · have := look_none (f := off G L) (g := fun _ => AV.bool true) (k := (off G L l2 : Int)) (L := F2) fun m' h' e' => h (off_inj (G := G) (m3.sub _ h') hl2 (by omega) ▸ h')
                unfold starts at e
                rw [this] at e; simp at e
            have eF : markF F2 (.ref l2) = F2 := by unfold markF; dsimp only; rw [if_pos hyes]
            have eW : markW F2 W2 (.ref l2) = W2 := by unfold markW; dsimp only; rw [if_pos hyes]
            rw [eF] at fin1 fin2 fin3 fin4
            rw [eW] at fin3 fin4
            exact Ex_nil (hN _ _ _ (le_cons rfl <| le_cons rfl <| le_cons rfl le_nil) ⟨F2, W2, rfl, m3, fin1, fin2, fin3, hl3, hg3, hlF2⟩)
        · obtain ⟨i', rfl, _⟩ := isRef_wd' hxi e
          exact Ex_nil (hN _ _ _ (le_cons rfl <| le_cons rfl <| le_cons rfl le_nil) ⟨F2, W2, rfl, m3, fin1, fin2, fin3, hl3, hg3, hlF2⟩)
      · rintro ν H8 ⟨F2, W2, rfl, m3, hin3, hit3, hcl3, hl3, hg3, hlF2⟩
        rw [hrz, List.take_length] at hit3
        have hFL3 := nodup_le m3.nd m3.sub
        refine Ex_nil ⟨_, le_cons rfl <| le_cons rfl <| le_cons rfl le_nil, 2 * (L.length - F2.length) + W2.length, by simp; omega, F2, W2, rfl, rfl, m3, hin3, fun l' hl' => ?_⟩
        rcases hcl3 l' hl' with h | h | h
        · exact .inr (h ▸ hit3)
        · exact .inl h
        · exact .inr h
    · have h0 : Wt = [] := by
        simp at e
        exact e
      subst h0
      obtain ⟨ep, hd⟩ := m0.hd
      refine Ex_cons <| Ex_ret <| Ev_name rfl <| q fd F ep _ m0.kp hd hsmod (Exact.of m0.nd m0.re (fun l h => hin _ h l rfl) fun m' hm' l h => ?_)
      rcases hcl m' hm' with h' | h'
      · cases h'
      · exact h' _ h l rfl
end
end Mine

-- F11
namespace Mine

section
variable {W : Wo} {A : Around} {env : Env} {μ : Mu} {H : AH} {n : Nat} {Q : AV → AH → Prop}
variable {s c : Addr} {G : Gr} {L F M : List Addr} {mine : List AV}

theorem off_mono : ∀ {L : List Addr}, L.Nodup → L.Pairwise fun a b => off G L a ≤ off G L b
  | [], _ => .nil
  | a :: r, nd => by
    rw [List.nodup_cons] at nd
    refine List.Pairwise.cons (fun b _ => by rw [off_self]; exact Nat.zero_le _) ?_
    have ne : ∀ b ∈ r, a ≠ b := fun b hb e => nd.1 (e ▸ hb)
    refine List.Pairwise.imp_of_mem (fun {x y} hx hy h => ?_) (off_mono (L := r) nd.2)
    rw [off_ne (ne x hx), off_ne (ne y hy)]; omega
/-- the blocks that stay -/
def stays (L F : List Addr) : List Addr := L.filter fun l => decide (l ∈ F)
theorem stays_nd (nd : L.Nodup) : (stays L F).Nodup := by
  unfold stays
  exact List.Pairwise.filter _ nd
theorem stays_mem {l : Addr} : l ∈ stays L F ↔ l ∈ L ∧ l ∈ F := by simp [stays]
theorem stays_all (h : ∀ l ∈ L, l ∈ F) : stays L F = L := by
  unfold stays
  rw [List.filter_eq_self]
  exact fun l hl => by simpa using h l hl
theorem sorted_keys {ns : List Int} (nd : L.Nodup) (fn : F.Nodup) (sub : ∀ l ∈ F, l ∈ L) (hp : ns.Perm (F.map fun l => (off G L l : Int))) (hs : ns.Pairwise (· ≤ ·)) : ns = (stays L F).map fun l => (off G L l : Int) := by
  refine List.Perm.eq_of_pairwise (le := (· ≤ ·)) (fun a b _ _ h1 h2 => Int.le_antisymm h1 h2) hs ?_ (hp.trans (List.Perm.map _ ?_))
  · rw [List.pairwise_map]
    exact (List.Pairwise.filter _ (off_mono (G := G) nd)).imp fun h => by omega
  · rw [List.perm_ext_iff_of_nodup fn (stays_nd nd)]
    intro l
    rw [stays_mem]
    exact ⟨fun h => ⟨sub l h, h⟩, fun h => h.2⟩
theorem Exact.stays (w : Wf G L) (hm : ∀ x ∈ mine, Item L x) (x : Exact G mine F) : Exact G mine (stays L F) :=
  ⟨stays_nd w.nd, fun l hl => x.sub l (stays_mem.mp hl).2, fun l h => stays_mem.mpr ⟨h.mem w hm, x.all l h⟩⟩

def places (G : Gr) (L M N : List Addr) : List (Int × AV) := N.map fun l => ((off G L l : Int), AV.int (off G M l : Nat))

theorem c_newPlaces (k : PK W) (a : AOk A (n + 2)) {fd : Addr} {ep : Nat} (S : StoreAt H s c G L) (hd : H fd = some (.idict (starts G L F) ep)) (hsmod : (fd == sysModules) = false) (ex : Exact G mine F) (sub : ∀ l ∈ F, l ∈ L) (hsm : (cellsA G L).length ≤ 900) (h64 : L.length < 64)
    (q : ∀ pd ep H', Keep [] H H' → H' pd = some (.idict (places G L (stays L F) (stays L F)) ep) → (pd == sysModules) = false → Q (.ref pd) H') :
    Cal W A (.ref 271) [.ref s, .ref fd] H Q := by
  refine Cal_K2 (x := "heap") (y := "found") k a (by k_is) (by k_is) fun N A' a' => ?_
  refine Ex_cons <| Ex_assign <| Ev_dict0 k.ok fun pd hpd hpm => ?_
  have kf : Keep [] H (H.set pd (.idict [] 0)) := Keep.new hpd
  have hff : (H.set pd (.idict [] 0)) pd = some (.idict (places G L (stays L F) ((stays L F).take 0)) 0) := AH.set_self ..
  generalize H.set pd (.idict [] 0) = H1 at kf hff ⊢
  have hFL := nodup_le ex.nd sub
  have snd := stays_nd (F := F) S.2.nd
  have hML := nodup_le snd fun l hl => (stays_mem.mp hl).1
  refine Ex_cons <| Ex_assign <| Ev_int ?_
  refine Ex_cons <| Ex_for a'.h <| Ev_cb k (by k_is) rfl <| Evs_cons <| Ev_name rfl <| Evs_nil <| call_sorted a'.h (kf.at hd) hsmod (by simp [starts]; omega) fun ns sl hp hs hsl => ?_
  have hns : ns = (stays L F).map fun l => (off G L l : Int) := sorted_keys S.2.nd ex.nd sub (by have h := hp; rw [starts, List.map_map] at h; exact h) hs
  have ks : Keep [] H1 (H1.set sl (.list (iL ns))) := Keep.new hsl
  have hll : (H1.set sl (.list (iL ns))) sl = some (.list (iL ns)) := AH.set_self ..
  have npl := some_ne hff hsl
  have hff2 := ks.at hff
  generalize H1.set sl (.list (iL ns)) = H2 at ks hll hff2 ⊢
  have hsz : (Src.list sl (iL ns)).items.length = (stays L F).length := by simp [Src.items, hns]
  refine ⟨.list sl (iL ns), rfl, hll, fun i ν H' => ∃ ep, ν = [(Str.ofString "heap", .ref s), (Str.ofString "places", .ref pd), (Str.ofString "free", .int ((cellsA G ((stays L F).take i)).length : Nat))] ∧ H' pd = some (.idict (places G L (stays L F) ((stays L F).take i)) ep) ∧ Keep [] H H' ∧ H' sl = some (.list (iL ns)),
    ⟨_, le_cons rfl <| le_cons rfl <| le_cons rfl le_nil, 0, rfl, hff2, kf.trans ks, hll⟩, ?_, ?_, ?_⟩
  · rintro i ν H' ⟨ep, _, _, _, h⟩; exact h
  · rintro i z ν H3 hz ⟨ep3, rfl, hp3, k3, hl3⟩
    have hz : (iL ns)[i]? = some z := hz
    rw [hns] at hz
    simp only [iL, List.getElem?_map, List.map_map] at hz
    obtain ⟨l, hl, hzz⟩ := Option.map_eq_some_iff.mp hz
    have hz' : AV.int (off G L l : Nat) = z := hzz
    subst hz'
    have hlM := List.mem_of_getElem? hl
    have hlL := (stays_mem.mp hlM).1
    have kd := (S.2.kind l hlL).kd
    have ho := off_take (G := G) snd hl
    have hsz2 := cellsA_take (G := G) hl
    have hlt := off_lt (G := G) hlL
    refine Ex_cons <| Ex_assignSub <| Ev_name rfl <| Ev_name rfl <| Ev_name rfl fun v u y hv hu hy => set_dict' hv hu hp3 (by simp only [places, List.length_map, List.length_take]; omega) fun ep' => ?_
    rw [hy]
    have hput : putI (places G L (stays L F) ((stays L F).take i)) (off G L l : Int) (.int ((cellsA G ((stays L F).take i)).length : Nat)) = places G L (stays L F) ((stays L F).take (i + 1)) := by
      rw [take_succ hl, ← ho]
      refine putI_new (g := fun l => AV.int (off G (stays L F) l : Nat)) fun m hm e => ?_
      have := off_inj (stays_mem.mp (mem_take_of hm)).1 hlL e
      subst this
      obtain ⟨h1, h2⟩ := List.getElem?_eq_some_iff.mp hl
      rw [List.mem_take_iff_getElem] at hm
      obtain ⟨j, hj, e2⟩ := hm
      have := (List.getElem_inj snd).mp (e2.trans h2.symm)
      omega
    rw [hput]
    have k4 : Keep [] H (H3.set pd (.idict (places G L (stays L F) ((stays L F).take (i + 1))) ep')) := fun b o _ eb => by
      rw [AH.set_ne _ _ (by rintro rfl; rw [hpd] at eb; cases eb)]; exact k3.at eb
    have S4 := S.keep k4
    refine Ex_cons <| Ex_assign <| Ev_add <| Ev_add <| Ev_name rfl <| Ev_int ⟨_, _, rfl, rfl, E_length k a' <| E_hcell k <| Ev_name rfl ⟨s, 900, c, rfl, S4.1.1, Ev_name rfl ⟨_, _, _, S4.1.2.1, rfl, by omega, S4.1.2.2, by rw [Int.toNat_natCast]; exact cells_hdr hlL, _, rfl, _, _, rfl, rfl, Ex_nil ?_⟩⟩⟩
    rw [hdr_len kd]
    have e1 : ((cellsA G ((stays L F).take i)).length : Int) + 1 + (G.it l).length = ((cellsA G ((stays L F).take (i + 1))).length : Nat) := by rw [hsz2]; unfold Gr.sz; push_cast; omega
    rw [e1]
    exact ⟨_, le_cons rfl <| le_cons rfl <| le_cons rfl le_nil, ep', rfl, AH.set_self .., k4, by rw [AH.set_ne _ _ (Ne.symm npl)]; exact hl3⟩
  · rintro ν H3 ⟨ep3, rfl, hp3, k3, hl3⟩
    rw [hsz, List.take_length] at hp3
    exact Ex_cons <| Ex_ret <| Ev_name rfl <| q pd ep3 _ k3 hp3 hpm

theorem c_slid (k : PK W) (a : AOk A (n + 2)) {pd : Addr} {ep : Nat} {x : AV} (hp : H pd = some (.idict (places G L M M) ep)) (hx : Item M x) (sub : ∀ l ∈ M, l ∈ L) (q : Q (.int (wd (off G M) x)) H) : Cal W A (.ref 278) [.ref pd, .int (wd (off G L) x)] H Q := by
  refine Cal_K2 (x := "places") (y := "word") k a (by k_is) (by k_is) fun N A' a' => ?_
  refine Ex_cons <| Ex_ret <| Ev_if <| Evb_val <| E_isRef k a' <| Ev_name rfl ⟨_, rfl, _, rfl, fun e => ?_, fun e => ?_⟩
  · obtain ⟨l, rfl, hl⟩ := isRef_wd hx e
    refine E_ref k a' <| Ev_sub2 <| Ev_name rfl <| E_payload k a' <| Ev_name rfl ⟨_, rfl, ?_⟩
    rw [wd_addr]
    exact tail_dict hp (look_off (f := off G L) (g := fun l => AV.int (off G M l : Nat)) (fun m hm e => off_inj (sub m hm) (sub l hl) e) hl) ⟨_, rfl, q⟩
  · obtain ⟨i, rfl, _⟩ := isRef_wd' hx e
    exact Ev_name rfl q

theorem c_slide (k : PK W) (a : AOk A (n + 4)) {r : Addr} (S : StoreAt H s c G L) (hr : H r = some (.list (mine.map (eS (off G L))))) (hm : ∀ x ∈ mine, Item L x) (h4 : mine.length ≤ 4) (hsm : (cellsA G L).length ≤ 900) (h64 : L.length < 64)
    (q : ∀ t s' c' r' O H', Keep [] H H' → H' t = some (.tup [.ref s', .ref r']) → StoreAt H' s' c' G O → H' r' = some (.list (mine.map (eS (off G O)))) → Exact G mine O → H c' = none → H r' = none → c' ≠ r' → (Exact G mine L → O = L) → Q (.ref t) H') :
    Cal W A (.ref 283) [.ref s, .ref r] H Q := by
  refine Cal_K2 (x := "heap") (y := "roots") k a (by k_is) (by k_is) fun N A' a' => ?_
  refine Ex_cons <| Ex_assign <| Ev_cf k (by k_is) (by k_is) <| Evs_cons <| Ev_name rfl <| Evs_cons <| Ev_cf k (by k_is) (by k_is) <| Evs_cons <| Ev_name rfl <| Evs_cons <| Ev_name rfl <| Evs_nil <| c_marked k a' S hr hm h4 hsm fun fd F ep0 H1 k1 hfd hfm ex => Evs_nil ?_
  have S1 := S.keep k1
  have Fsub : ∀ l ∈ F, l ∈ L := fun l hl => (ex.sub l hl).mem S.2 hm
  refine c_newPlaces k a' S1 hfd hfm ex Fsub hsm h64 fun pd ep H2 k2 hpd hpm => ?_
  have S2 := S1.keep k2
  have exM := ex.stays S.2 hm
  have hall : Exact G mine L → stays L F = L := fun x => stays_all fun l hl => ex.all l (x.sub l hl)
  have Msub : ∀ l ∈ stays L F, l ∈ L := fun l hl => (stays_mem.mp hl).1
  have wM := exM.wf S.2 hm
  have hmM := exM.item S.2 hm
  generalize stays L F = M at hpd exM hall Msub wM hmM
  have hML := cellsA_le (G := G) exM.nd Msub
  refine Ex_cons <| Ex_assign <| Ev_cf k (by k_is) (by k_is) <| Evs_cons <| Ev_limit k <| Ev_name rfl ⟨s, 900, c, rfl, S2.1.1, Evs_nil <| c_newHeap k a' fun s' c' H3 k3 hh3 hc' => ?_⟩
  have hc0 : H c' = none := keep_none k1 (keep_none k2 hc')
  have kk := (k1.trans k2).trans k3
  have hpd3 := k3.at hpd
  have cc' : c ≠ c' := some_ne S.1.2.1 hc0
  have S3 := S2.keep k3
  have store : ∀ H', Keep [c'] H3 H' → StoreAt H' s c G L := fun H' k' => ⟨⟨S3.1.1.keep k' (by simp; exact ⟨_, hh3.2.1⟩), k'.at S3.1.2.1 (by simpa using cc'), S3.1.2.2⟩, S.2⟩
  have hsz : (Src.dict pd (places G L M M) ep).items.length = M.length := by simp [Src.items, places]
  refine Ex_cons <| Ex_forQ a'.h <| Ev_name rfl ⟨.dict pd (places G L M M) ep, rfl, ⟨hpd3, hpm⟩, fun i ν H' => ν = [(Str.ofString "heap", .ref s), (Str.ofString "roots", .ref r), (Str.ofString "places", .ref pd), (Str.ofString "new", .ref s')] ∧ Keep [c'] H3 H' ∧ IsHeap H' s' 900 c' ∧ H' c' = some (.list (iL (((cellsA G M).take (cellsA G (M.take i)).length).map (wd (off G M))))),
    ⟨_, le_cons rfl <| le_cons rfl <| le_cons rfl <| le_cons rfl le_nil, rfl, Keep.refl, hh3.1, by simp [cellsA, hh3.2.1]⟩, ?_, ?_, ?_⟩
  · rintro i ν H' ⟨_, k4, _⟩
    exact k4.at hpd3 (by simp; rintro rfl; rw [hh3.2.1] at hpd3; cases hpd3)
  · rintro i z ν H4 hz ⟨rfl, k4, i4, h4'⟩ Q8 hN _
    have hpd4 : H4 pd = some (.idict (places G L M M) ep) := k4.at hpd3 (by simp; rintro rfl; rw [hh3.2.1] at hpd3; cases hpd3)
    simp only [Src.items, places, List.map_map, List.getElem?_map] at hz
    obtain ⟨l, hl, hzz⟩ := Option.map_eq_some_iff.mp hz
    have hz' : AV.int (off G L l : Nat) = z := hzz
    subst hz'
    have hlM := List.mem_of_getElem? hl
    have hlL := Msub l hlM
    have kd := (S.2.kind l hlL).kd
    have ho := off_take (G := G) exM.nd hl
    have hsz2 := cellsA_take (G := G) hl
    have hlt := off_lt (G := G) hlL
    have hltM := off_lt (G := G) hlM
    rw [← ho] at h4' hsz2
    unfold Gr.sz at hlt hltM hsz2
    have St := fun H' k' => store H' k'
    have S4 := store H4 k4
    have hh : (cellsA G M)[off G M l]? = some (.int (hdr G l)) := by
      have := cellsA_at (G := G) (j := 0) (sz_pos) hlM
      rw [Nat.add_zero] at this; exact this
    refine Ex_cons <| Ex_assign <| E_length k a' <| E_hcell k <| Ev_name rfl ⟨s, 900, c, rfl, S4.1.1, Ev_name rfl ⟨_, _, _, S4.1.2.1, rfl, by omega, S4.1.2.2, by rw [Int.toNat_natCast]; exact cells_hdr hlL, _, rfl, ?_⟩⟩
    rw [hdr_len kd]
    have tl : ∀ q, (iL (((cellsA G M).take q).map (wd (off G M)))).length ≤ 1000000 := fun q => by simp; omega
    refine Ex_cons <| Ex_expr <| Ev_lm PySem.F.slot_list_append rfl <| Ev_cells k <| Ev_name rfl ⟨s', 900, c', rfl, i4, c', _, rfl, h4', Evs_cons <| E_hcell k <| Ev_name rfl ⟨s, 900, c, rfl, S4.1.1, Ev_name rfl ⟨_, _, _, S4.1.2.1, rfl, by omega, S4.1.2.2, by rw [Int.toNat_natCast]; exact cells_hdr hlL,
      Evs_nil <| call_append h4' (tl _) ?_⟩⟩⟩
    have et : iL (((cellsA G M).take (off G M l)).map (wd (off G M))) ++ [.int (hdr G l)] = iL (((cellsA G M).take (off G M l + 1)).map (wd (off G M))) := by
      rw [List.take_add_one, hh]; simp [wd]
    rw [et]
    have k5 : Keep [c'] H3 (H4.set c' (.list (iL (((cellsA G M).take (off G M l + 1)).map (wd (off G M)))))) := k4.trans (Keep.set (by simp))
    have i5 : IsHeap (H4.set c' (.list (iL (((cellsA G M).take (off G M l + 1)).map (wd (off G M)))))) s' 900 c' := i4.keep (Keep.set (X := [c']) (by simp)) (by simp; exact ⟨_, h4'⟩)
    have h5 : (H4.set c' (.list (iL (((cellsA G M).take (off G M l + 1)).map (wd (off G M)))))) c' = some _ := AH.set_self ..
    generalize H4.set c' (.list (iL (((cellsA G M).take (off G M l + 1)).map (wd (off G M))))) = H5 at k5 i5 h5 ⊢
    refine Ex_cons <| Ex_forQ a'.h <| E_range2 k <| Ev_add <| Ev_name rfl <| Ev_int ⟨_, _, rfl, rfl, Ev_add <| Ev_add <| Ev_name rfl <| Ev_int ⟨_, _, rfl, rfl, Ev_name rfl ⟨_, _, rfl, rfl, _, _, rfl, rfl, fun d hdn => ?_⟩⟩⟩
    have kr : Keep [] H5 (H5.set d (.range ((off G L l : Nat) + 1) ((off G L l : Nat) + 1 + (G.it l).length))) := Keep.new hdn
    have hdd : (H5.set d (.range ((off G L l : Nat) + 1) ((off G L l : Nat) + 1 + (G.it l).length))) d = some _ := AH.set_self ..
    have k6 := k5.trans kr.ext
    have i6 := i5.keep kr (by simp)
    have h6 := kr.at h5
    generalize H5.set d (.range ((off G L l : Nat) + 1) ((off G L l : Nat) + 1 + (G.it l).length)) = H6 at k6 i6 h6 hdd ⊢
    have hrz : (Src.range d ((off G L l : Nat) + 1) ((off G L l : Nat) + 1 + (G.it l).length)).items.length = (G.it l).length := by simp [Src.items]; omega
    refine ⟨.range d ((off G L l : Nat) + 1) ((off G L l : Nat) + 1 + (G.it l).length), rfl, ⟨hdd, by omega, by omega, by omega, by omega⟩, fun p ν H' => ν = [(Str.ofString "heap", .ref s), (Str.ofString "roots", .ref r), (Str.ofString "places", .ref pd), (Str.ofString "new", .ref s')] ∧ Keep [c'] H3 H' ∧ IsHeap H' s' 900 c' ∧ H' c' = some (.list (iL (((cellsA G M).take (off G M l + 1 + p)).map (wd (off G M))))),
      ⟨_, le_cons rfl <| le_cons rfl <| le_cons rfl <| le_cons rfl le_nil, rfl, k6, i6, h6⟩, fun _ _ _ _ => trivial, ?_, ?_⟩
    · rintro p y ν H7 hy ⟨rfl, k7, i7, h7⟩ Q9 hN9 _
      have hp : p < (G.it l).length := by
        have := (List.getElem?_eq_some_iff.mp hy).1
        rw [hrz] at this; exact this
      have hy' : y = .int (off G L l + 1 + p : Nat) := by
        simp only [Src.items, List.getElem?_map] at hy
        rw [List.getElem?_range (by omega)] at hy
        simp only [Option.map_some, Option.some.injEq] at hy
        rw [← hy]; push_cast; rfl
      subst hy'
      have hx0 : (G.it l)[p]? = some (G.it l)[p] := List.getElem?_eq_getElem hp
      have hxm := List.getElem_mem hp
      generalize (G.it l)[p] = x at hx0 hxm
      have hxi := wM.item l hlM x hxm
      have hcell := cells_field (L := L) hlL hx0
      have hcM : (cellsA G M)[off G M l + 1 + p]? = some x := by
        have := cellsA_at (G := G) (j := 1 + p) (by unfold Gr.sz; omega) hlM
        rw [← Nat.add_assoc] at this
        rw [this, Nat.add_comm 1 p]; simp [blk, hx0]
      have S7 := store H7 k7
      have hpd7 : H7 pd = some (.idict (places G L M M) ep) := k7.at hpd3 (by simp; rintro rfl; rw [hh3.2.1] at hpd3; cases hpd3)
      refine Ex_cons <| Ex_expr <| Ev_lm PySem.F.slot_list_append rfl <| Ev_cells k <| Ev_name rfl ⟨s', 900, c', rfl, i7, c', _, rfl, h7, Evs_cons <| Ev_cf k (by k_is) (by k_is) <| Evs_cons <| Ev_name rfl <| Evs_cons <| E_hcell k <| Ev_name rfl ⟨s, 900, c, rfl, S7.1.1, Ev_name rfl ⟨_, _, _, S7.1.2.1, rfl, by omega, S7.1.2.2, by rw [Int.toNat_natCast]; exact hcell,
        Evs_nil <| c_slid k a' hpd7 hxi Msub <| Evs_nil <| call_append h7 (tl _) <| Ex_nil ?_⟩⟩⟩
      have et : iL (((cellsA G M).take (off G M l + 1 + p)).map (wd (off G M))) ++ [.int (wd (off G M) x)] = iL (((cellsA G M).take (off G M l + 1 + (p + 1))).map (wd (off G M))) := by
        rw [show off G M l + 1 + (p + 1) = off G M l + 1 + p + 1 by omega, List.take_add_one, hcM]; simp
      rw [et]
      exact hN9 _ _ _ (le_cons rfl <| le_cons rfl <| le_cons rfl <| le_cons rfl le_nil) ⟨rfl, k7.trans (Keep.set (by simp)), i7.keep (Keep.set (X := [c']) (by simp)) (by simp; exact ⟨_, h7⟩), AH.set_self ..⟩
    · rintro ν H7 ⟨rfl, k7, i7, h7⟩
      rw [hrz] at h7
      refine Ex_nil (hN _ _ _ (le_cons rfl <| le_cons rfl <| le_cons rfl <| le_cons rfl le_nil) ⟨rfl, k7, i7, ?_⟩)
      rw [hsz2, show off G M l + ((G.it l).length + 1) = off G M l + 1 + (G.it l).length by omega]; exact h7
  · rintro ν H4 ⟨rfl, k4, i4, h4'⟩
    rw [hsz, List.take_length, List.take_length] at h4'
    have hpd4 : H4 pd = some (.idict (places G L M M) ep) := k4.at hpd3 (by simp; rintro rfl; rw [hh3.2.1] at hpd3; cases hpd3)
    have rc' : r ≠ c' := some_ne hr hc0
    have hr4 := k4.at (kk.at hr) (by simpa using rc')
    have hsr : (Src.list r (mine.map (eS (off G L)))).items.length = mine.length := by simp [Src.items]
    have k5 : Keep [] H H4 := fun b o _ e => k4 b o (by simp; rintro rfl; rw [hc0] at e; cases e) (kk.at e)
    refine Ex_cons <| Ex_ret <| Ev_tuple <| Evs_cons <| Ev_name rfl <| Evs_cons <| Ev_comp (cl := [(Str.ofString "places", N + 1)]) (μc := [(Str.ofString "places", .ref pd)]) a'.h ⟨rfl, ?_, ?_, ?_, rfl, ?_⟩
      (Ev_name rfl ⟨.list r (mine.map (eS (off G L))), rfl, hr4, by rw [hsr]; omega, fun i ys H5 => H5 = H4 ∧ ys = (mine.take i).map (eS (off G M)), ⟨rfl, by simp⟩, ⟨?_, ?_⟩, ?_⟩)
    · intro p hp
      simp only [List.mem_cons, List.not_mem_nil, or_false] at hp
      rcases hp with rfl
      exact ⟨rfl, rfl, (fun h => by cases h), (fun h => by cases h)⟩
    · intro p hp
      simp only [List.mem_cons, List.not_mem_nil, or_false] at hp
      rcases hp with rfl; rfl
    · decide
    · decide
    · rintro i ys H5 ⟨rfl, _⟩; exact hr4
    · rintro D i z ys H5 hz ⟨rfl, rfl⟩
      have hz : (mine.map (eS (off G L)))[i]? = some z := hz
      rw [List.getElem?_map] at hz
      obtain ⟨x, hx, rfl⟩ := Option.map_eq_some_iff.mp hz
      have hxi := hmM x (List.mem_of_getElem? hx)
      refine tests_nil ⟨fun _ => ?_, fun e => by cases e⟩
      refine Ev_cf k (by k_is) (by k_is) <| Evs_cons <| Ev_name rfl <| Evs_cons <| Ev_name rfl <| Evs_nil <| c_slid k a' hpd4 hxi Msub ⟨rfl, ?_⟩
      rw [List.take_add_one, hx]; simp [eS]
    · rintro ys H5 ⟨rfl, rfl⟩ D hD
      rw [hsr, List.take_length]
      refine Evs_nil ⟨by simp, fun t ht => ?_⟩
      have kD : Keep [] H5 (H5.set D (.list (mine.map (eS (off G M))))) := Keep.new hD
      have kt : Keep [] (H5.set D (.list (mine.map (eS (off G M))))) ((H5.set D (.list (mine.map (eS (off G M))))).set t (.tup [.ref s', .ref D])) := Keep.new ht
      have hDD := kt.at (AH.set_self H5 D (.list (mine.map (eS (off G M)))))
      have kDt := kD.trans kt
      refine q t s' c' D M _ (k5.trans kDt) (AH.set_self ..) ⟨⟨i4.keep kDt (by simp), ?_, by rw [cells_len]; omega⟩, wM⟩ hDD exM hc0 (keep_none k5 hD) (some_ne h4' hD) hall
      exact kDt.at h4'
end
end Mine

-- P5
namespace Mine

section
variable {G : Gr} {L : List Addr} {mine : List AV}

theorem fold_pre : ∀ (xs : List AV) (p : List Addr × List RC), p.1 <+: (xs.foldl rowStep p).1
  | [], p => List.prefix_refl _
  | x :: xs, p => by
    rw [List.foldl_cons]
    refine List.IsPrefix.trans ?_ (fold_pre xs _)
    cases x <;> first | exact addN_pre | exact List.prefix_refl _
theorem fold_has {l : Addr} : ∀ (xs : List AV) (p : List Addr × List RC), AV.ref l ∈ xs → l ∈ (xs.foldl rowStep p).1
  | x :: xs, p, h => by
    rw [List.foldl_cons]
    rcases List.mem_cons.mp h with e | h
    · subst e
      exact (fold_pre xs _).subset addN_mem
    · exact fold_has xs _ h
theorem fold_reach : ∀ (xs : List AV) (p : List Addr × List RC), (∀ l, AV.ref l ∈ xs → Reach G mine l) → (∀ l ∈ p.1, Reach G mine l) → ∀ l ∈ (xs.foldl rowStep p).1, Reach G mine l
  | [], p, _, h => h
  | x :: xs, p, hx, h => by
    rw [List.foldl_cons]
    refine fold_reach xs _ (fun l hl => hx l (by simp [hl])) ?_
    cases x with
    | ref m => exact fun l hl => (addN_sub hl).elim (h l) fun e => hx l (by simp [e])
    | _ => exact h
theorem fold_row : ∀ (xs : List AV) (p : List Addr × List RC), (∀ x ∈ xs, Item L x) → (xs.foldl rowStep p).2.length = p.2.length + xs.length
  | [], p, _ => rfl
  | x :: xs, p, hx => by
    rw [List.foldl_cons, fold_row xs _ fun y hy => hx y (by simp [hy])]
    rcases hx x (by simp) with ⟨i, rfl, _⟩ | ⟨l, rfl, _⟩ <;> simp [rowStep] <;> omega
theorem bfs_pre1 (j : Nat) : (bfs G mine j).1 <+: (bfs G mine (j + 1)).1 := by
  cases e : nodeAt G mine (bfs G mine j).1 j with
  | none => rw [bfs, e]; exact List.prefix_refl _
  | some nd => rw [bfs_step e]; exact fold_pre nd.2 ((bfs G mine j).1, [RC.int nd.1])
theorem bfs_pre (j : Nat) : ∀ i, (bfs G mine j).1 <+: (bfs G mine (j + i)).1
  | 0 => List.prefix_refl _
  | i + 1 => (bfs_pre j i).trans (bfs_pre1 (j + i))
theorem bfs_reach (j : Nat) : ∀ l ∈ (bfs G mine j).1, Reach G mine l := by
  induction j with
  | zero => simp [bfs]
  | succ j ih =>
    cases e : nodeAt G mine (bfs G mine j).1 j with
    | none => rw [bfs, e]; exact ih
    | some nd =>
      rw [bfs_step e]
      refine fold_reach _ _ ?_ ih
      cases j with
      | zero => simp [nodeAt] at e; subst e; exact fun l h => .root h
      | succ j =>
        simp only [nodeAt, List.getElem?_cons_succ, List.getElem?_map, Option.map_eq_some_iff] at e
        obtain ⟨m, hm, rfl⟩ := e
        exact fun l h => .step (ih m (List.mem_of_getElem? hm)) h
/-- the order of the whole walk -/
def seen (G : Gr) (L : List Addr) (mine : List AV) : List Addr := (bfs G mine (L.length + 1)).1
theorem seen_step (w : Wf G L) (hm : ∀ x ∈ mine, Item L x) {j : Nat} (hj : j ≤ (seen G L mine).length) : ∃ nd, nodeAt G mine (bfs G mine j).1 j = some nd ∧ nodeAt G mine (seen G L mine) j = some nd := by
  have hok := bfs_ok w hm (L.length + 1)
  have hle := nodup_le hok.1 hok.2
  unfold seen at hj ⊢
  have hlt : j ≤ (bfs G mine j).1.length := by
    rcases Nat.lt_or_ge (bfs G mine j).1.length j with h | h
    · exfalso
      have := bfs_end w hm h (by omega)
      rw [this] at hj; omega
    · exact h
  obtain ⟨nd, h⟩ : ∃ nd, nodeAt G mine (bfs G mine j).1 j = some nd := ⟨_, List.getElem?_eq_getElem (by simp; omega)⟩
  refine ⟨nd, h, ?_⟩
  obtain ⟨R, hR⟩ := bfs_pre (G := G) (mine := mine) j (L.length + 1 - j)
  rw [show j + (L.length + 1 - j) = L.length + 1 by omega] at hR
  rw [← hR]
  cases j with
  | zero => exact h
  | succ j =>
    simp only [nodeAt, List.getElem?_cons_succ, List.getElem?_map] at h ⊢
    rw [List.getElem?_append_left (by omega)]; exact h
theorem seen_exact (w : Wf G L) (hm : ∀ x ∈ mine, Item L x) : Exact G mine (seen G L mine) := by
  have hok := bfs_ok w hm (L.length + 1)
  have hle := nodup_le hok.1 hok.2
  have has : ∀ j ≤ (seen G L mine).length, ∀ nd, nodeAt G mine (seen G L mine) j = some nd → ∀ l, AV.ref l ∈ nd.2 → l ∈ seen G L mine := by
    intro j hj nd hnd l hl
    obtain ⟨nd', h1, h2⟩ := seen_step w hm hj
    rw [hnd] at h2; cases h2
    have := bfs_pre (G := G) (mine := mine) (j + 1) (L.length + 1 - (j + 1))
    unfold seen at hj
    rw [show j + 1 + (L.length + 1 - (j + 1)) = L.length + 1 by omega] at this
    refine this.subset ?_
    rw [bfs_step h1]
    exact fold_has _ _ hl
  refine Exact.of hok.1 (bfs_reach _) (fun l h => has 0 (Nat.zero_le _) (-1, mine) rfl l h) fun m hm' l h => ?_
  obtain ⟨i, hi, e⟩ := List.getElem_of_mem hm'
  refine has (i + 1) (by omega) (G.kd m, G.it m) ?_ l h
  simp only [nodeAt, List.getElem?_cons_succ, List.getElem?_map]
  rw [List.getElem?_eq_getElem hi, e]; rfl
theorem rows_len (w : Wf G L) (hm : ∀ x ∈ mine, Item L x) : ∀ j, j ≤ (seen G L mine).length → (bfs G mine (j + 1)).2.length = j + 1 ∧ (((bfs G mine (j + 1)).2.tail).map List.length).sum = (cellsA G ((seen G L mine).take j)).length
  | 0, _ => by
    have h : nodeAt G mine (bfs G mine 0).1 0 = some (-1, mine) := rfl
    rw [bfs_step h]
    simp [bfs, cellsA]
  | j + 1, hj => by
    obtain ⟨i1, i2⟩ := rows_len w hm j (by omega)
    obtain ⟨nd, h1, h2⟩ := seen_step w hm hj
    have hok := bfs_ok w hm (L.length + 1)
    simp only [nodeAt, List.getElem?_cons_succ, List.getElem?_map, Option.map_eq_some_iff] at h2
    obtain ⟨l, hl, e⟩ := h2
    have hit : ∀ x ∈ nd.2, Item L x := by
      rw [← e]
      exact w.item l (hok.2 l (List.mem_of_getElem? hl))
    have hr := fold_row (L := L) nd.2 ((bfs G mine (j + 1)).1, [RC.int nd.1]) hit
    rw [bfs_step h1, cellsA_take hl]
    refine ⟨by simp [i1], ?_⟩
    dsimp only
    have ht : ((bfs G mine (j + 1)).2 ++ [(nd.2.foldl rowStep ((bfs G mine (j + 1)).1, [RC.int nd.1])).2]).tail = (bfs G mine (j + 1)).2.tail ++ [(nd.2.foldl rowStep ((bfs G mine (j + 1)).1, [RC.int nd.1])).2] := by
      cases hb : (bfs G mine (j + 1)).2 with
      | nil => rw [hb] at i1; simp at i1
      | cons a r => rfl
    rw [ht, List.map_append, List.sum_append, i2]
    simp only [List.map_cons, List.map_nil, List.sum_cons, List.sum_nil, hr, List.length_cons, List.length_nil]
    rw [← e]; unfold Gr.sz; simp; omega
theorem walk_len (w : Wf G L) (hm : ∀ x ∈ mine, Item L x) : (walkRows G L mine).length ≠ 0 ∧ ((walkRows G L mine).tail.map List.length).sum = (cellsA G (seen G L mine)).length := by
  have hok := bfs_ok w hm (L.length + 1)
  have hle := nodup_le hok.1 hok.2
  have := rows_len w hm (seen G L mine).length (Nat.le_refl _)
  have hq : (bfs G mine ((seen G L mine).length + 1)).1.length < (seen G L mine).length + 1 := by
    have h := (bfs_pre (G := G) (mine := mine) ((seen G L mine).length + 1) (L.length + 1 - ((seen G L mine).length + 1))).length_le
    unfold seen at h ⊢
    rw [show (bfs G mine (L.length + 1)).1.length + 1 + (L.length + 1 - ((bfs G mine (L.length + 1)).1.length + 1)) = L.length + 1 by omega] at h
    omega
  have he := bfs_end w hm hq (by unfold seen; omega)
  unfold walkRows
  rw [he]
  refine ⟨by omega, ?_⟩
  rw [this.2, List.take_length]
end
end Mine

-- F12
namespace Mine

section
variable {W : Wo} {A : Around} {env : Env} {μ : Mu} {H : AH} {n : Nat} {Q : AV → AH → Prop}

theorem Fa2.tail {α β : Type} {P : α → β → Prop} {as : List α} {bs : List β} (f : Fa2 P as bs) : Fa2 P (as.drop 1) bs.tail := by
  cases f with
  | nil => exact .nil
  | cons _ h => exact h
theorem sum_cast : ∀ (xs : List Nat), (xs.map Int.ofNat).sum = ((xs.sum : Nat) : Int)
  | [] => rfl
  | x :: xs => by simp [sum_cast xs]

theorem c_cells (k : PK W) (a : AOk A (n + 1)) {x : AV} {rs : List (List RC)} (h : RowsAt H x rs) (h0 : rs.length ≠ 0) (h1 : rs.length ≤ 1000) (h2 : ((rs.tail).map List.length).sum ≤ 1000)
    (q : ∀ H', Keep [] H H' → Q (.int (((rs.tail).map List.length).sum : Nat)) H') : Cal W A (.ref 340) [x] H Q := by
  obtain ⟨l, xs, rfl, hl, hf⟩ := h
  have hxl := hf.len
  refine Cal_K1 (x := "rows") k a (by k_is) (by k_is) fun M A' a' => ?_
  refine Ex_cons <| Ex_ret <| Ev_cb k (by k_is) rfl <| Evs_cons <| Ev_comp (cl := []) (μc := []) a'.h ⟨rfl, by simp, by simp, by decide, rfl, by decide⟩
    (Ev_sliceR (xs.drop 1) <| Ev_name rfl <| part_some <| Ev_int ⟨1, rfl, fun t1 => part_none ⟨l, xs, _, _, rfl, hl, by omega, .int _ _, .none, fun zs hz => by simpa using pick_from (k := 1) hz (by omega), fun b hb => ?_⟩⟩)
  have kb : Keep [] H (H.set b (.list (xs.drop 1))) := Keep.new hb
  have hbb : (H.set b (.list (xs.drop 1))) b = some (.list (xs.drop 1)) := AH.set_self ..
  have hft := (hf.tail).mono fun _ _ => RowAt.mono kb
  generalize H.set b (.list (xs.drop 1)) = H1 at kb hbb hft
  have hsz : (Src.list b (xs.drop 1)).items.length = rs.tail.length := hft.len
  refine ⟨.list b (xs.drop 1), rfl, hbb, by rw [hsz]; simp; omega, fun i ys H' => H' = H1 ∧ ys = iL (((rs.tail.take i).map List.length).map Int.ofNat), ⟨rfl, by simp⟩, ⟨?_, ?_⟩, ?_⟩
  · rintro i ys H' ⟨rfl, _⟩; exact hbb
  · rintro D i z ys H' hz ⟨rfl, rfl⟩
    refine tests_nil ⟨fun _ => ?_, fun e => by cases e⟩
    have hi : i < rs.tail.length := by rw [← hsz]; exact (List.getElem?_eq_some_iff.mp hz).1
    have hr : rs.tail[i]? = some rs.tail[i] := List.getElem?_eq_getElem hi
    obtain ⟨z', hz', l', xs', rfl, hl', hf'⟩ := hft.at hr
    have hz : (xs.drop 1)[i]? = some z := hz
    rw [hz] at hz'; cases hz'
    have hlen : rs.tail[i].length ≤ ((rs.tail).map List.length).sum := by
      have : ∀ (zs : List (List RC)) (y : List RC), y ∈ zs → y.length ≤ (zs.map List.length).sum := by
        intro zs
        induction zs with
        | nil => intro y h; cases h
        | cons a r ih =>
          intro y h
          rw [List.map_cons, List.sum_cons]
          rcases List.mem_cons.mp h with rfl | h
          · omega
          · have := ih y h; omega
      exact this _ _ (List.getElem_mem hi)
    have hfl := hf'.len
    refine E_len k <| Ev_name rfl ⟨l', xs', rfl, hl', by omega, rfl, ?_⟩
    rw [List.take_add_one, hr, hfl]; simp
  · rintro ys H' ⟨rfl, rfl⟩ D hD
    rw [hsz, List.take_length]
    refine Evs_nil <| call_sum a'.h (AH.set_self ..) ?_
    rw [sum_cast]
    exact q _ (kb.trans (Keep.new hD))
end
end Mine

-- P6
namespace Mine

/-- the law's world -/
structure Wd (H : AH) (D sc s c r m : Addr) (G : Gr) (L : List Addr) (mine : List AV) (b : Int) : Prop where
  dk : IsDeck H D sc b
  st : StoreAt H s c G L
  ow : OwnAt H G L
  hr : H r = some (.list (mine.map (eS (off G L))))
  hm : H m = some (.list mine)
  it : ∀ x ∈ mine, Item L x
  m4 : mine.length = 4
  nd : (D :: sc :: c :: r :: m :: L).Nodup

section
variable {H H' : AH} {D sc s c r m : Addr} {G : Gr} {L : List Addr} {mine : List AV} {b b' : Int}

theorem IsDeck.le (h : IsDeck H D sc b) (l : b ≤ b') : IsDeck H D sc b' := by
  obtain ⟨ns, n, h1, h2, h3, h4, h5, h6⟩ := h
  exact ⟨ns, n, h1, h2, h3, h4, by omega, h6⟩
theorem IsDeck.keep {X : List Addr} (h : IsDeck H D sc b) (k : Keep X H H') (x1 : D ∉ X) (x2 : sc ∉ X) : IsDeck H' D sc b := by
  obtain ⟨ns, n, h1, h2, h3, h4, h5, h6⟩ := h
  exact ⟨ns, n, k _ _ x1 h1, k _ _ x2 h2, h3, h4, h5, h6⟩
theorem cellsA_4 (w : Wf G L) : (cellsA G L).length ≤ 4 * L.length := by
  have : ∀ M : List Addr, (∀ l ∈ M, l ∈ L) → (cellsA G M).length ≤ 4 * M.length := by
    intro M
    induction M with
    | nil => intro _; simp [cellsA]
    | cons a r ih =>
      intro h
      have h1 := ih fun l hl => h l (by simp [hl])
      have h2 := (w.kind a (h a (by simp))).len
      rw [cellsA_cons, List.length_append, blk_len, List.length_cons]
      unfold Gr.sz; omega
  exact this L fun _ h => h
structure Ne5 (D sc c r m : Addr) (L : List Addr) : Prop where
  n1 : D ≠ sc
  n2 : D ≠ c
  n3 : D ≠ r
  n4 : D ≠ m
  n5 : D ∉ L
  n6 : sc ≠ c
  n7 : sc ≠ r
  n8 : sc ≠ m
  n9 : sc ∉ L
  a1 : c ≠ r
  a2 : c ≠ m
  a3 : c ∉ L
  a4 : r ≠ m
  a5 : r ∉ L
  a6 : m ∉ L
  a7 : L.Nodup
theorem Wd.ne (w : Wd H D sc s c r m G L mine b) : Ne5 D sc c r m L := by
  have nd := w.nd
  simp only [List.nodup_cons, List.mem_cons, not_or] at nd
  obtain ⟨⟨n1, n2, n3, n4, n5⟩, ⟨n6, n7, n8, n9⟩, ⟨a1, a2, a3⟩, ⟨a4, a5⟩, a6, a7⟩ := nd
  exact ⟨n1, n2, n3, n4, n5, n6, n7, n8, n9, a1, a2, a3, a4, a5, a6, a7⟩
theorem Ne5.nd (w : Ne5 D sc c r m L) : (D :: sc :: c :: r :: m :: L).Nodup := by
  simp only [List.nodup_cons, List.mem_cons, not_or]
  exact ⟨⟨w.n1, w.n2, w.n3, w.n4, w.n5⟩, ⟨w.n6, w.n7, w.n8, w.n9⟩, ⟨w.a1, w.a2, w.a3⟩, ⟨w.a4, w.a5⟩, w.a6, w.a7⟩
theorem Wd.keep (w : Wd H D sc s c r m G L mine b) (k : Keep [] H H') : Wd H' D sc s c r m G L mine b :=
  ⟨w.dk.keep k (by simp) (by simp), w.st.keep k, w.ow.keep k, k.at w.hr, k.at w.hm, w.it, w.m4, w.nd⟩
theorem Wd.le (w : Wd H D sc s c r m G L mine b) (l : b ≤ b') : Wd H D sc s c r m G L mine b' := ⟨w.dk.le l, w.st, w.ow, w.hr, w.hm, w.it, w.m4, w.nd⟩
theorem Wd.draw (w : Wd H D sc s c r m G L mine b) (k : Keep [D] H H') (d : IsDeck H' D sc b') : Wd H' D sc s c r m G L mine b' := by
  have ne := w.ne
  have hD : ∃ ys, H D = some (.list ys) := let ⟨_, _, h, _⟩ := w.dk; ⟨_, h⟩
  refine ⟨d, ⟨⟨w.st.1.1.keep k (by simpa using hD), k.at w.st.1.2.1 (by simpa using Ne.symm ne.n2), w.st.1.2.2⟩, w.st.2⟩, fun l hl => k.at (w.ow l hl) ?_, k.at w.hr (by simpa using Ne.symm ne.n3), k.at w.hm (by simpa using Ne.symm ne.n4), w.it, w.m4, w.nd⟩
  simp; rintro rfl; exact ne.n5 hl
theorem Wd.alloc (w : Wd H D sc s c r m G L mine b) {d : Addr} {kd : Int} {items : List AV} {j : Nat} (dk : IsDeck H' D sc b') (ih : IsHeap H' s 900 c)
    (hc : H' c = some (.list (iL (cells G L ++ ((((items.length : Nat) : Int) * 16 + kd) * 8 + 5) :: items.map (wd (off G L))))))
    (hr : H' r = some (.list ((mine.map (eS (off G L))).set j (.int (((cells G L).length : Nat) * 8 + 1))))) (hm : H' m = some (.list (mine.set j (.ref d))))
    (ho : ∀ l ∈ L, H' l = H l) (hd : H' d = some (.list (.int kd :: items))) (f1 : d ≠ D) (f2 : d ≠ sc) (f3 : d ≠ c) (f4 : d ≠ r) (f5 : d ≠ m) (f6 : d ∉ L) (hi : ∀ x ∈ items, Item L x) (hk : SizeOk kd items.length)
    (hl : L.length ≤ 200) : Wd H' D sc s c r m (G.add d kd items) (L ++ [d]) (mine.set j (.ref d)) b' := by
  have ne := w.ne
  have wf := w.st.2.add f6 hi hk
  have hcl := cellsA_4 wf
  have eoff : ∀ x ∈ mine, eS (off (G.add d kd items) (L ++ [d])) x = eS (off G L) x := fun x hx => by
    unfold eS; rw [wd_congr (w.it x hx) fun l hl => off_add_old f6 hl]
  refine ⟨dk, ⟨⟨ih, ?_, ?_⟩, wf⟩, ?_, ?_, hm, ?_, by simpa using w.m4, ?_⟩
  · rw [cells_add w.st.2 f6 hi]; exact hc
  · rw [cells_len]; simp at hcl; omega
  · intro l hl
    rcases List.mem_append.mp hl with h | h
    · have hne : l ≠ d := fun e => f6 (e ▸ h)
      rw [ho l h, w.ow l h]
      simp [Gr.add, hne]
    · simp at h; subst h
      rw [hd]; simp [Gr.add]
  · rw [hr, List.map_set, List.map_congr_left eoff]
    have : eS (off (G.add d kd items) (L ++ [d])) (.ref d) = .int (((cells G L).length : Nat) * 8 + 1) := by
      unfold eS wd; dsimp only; rw [off_add_new f6, cells_len]
    rw [this]
  · intro x hx
    rcases List.mem_or_eq_of_mem_set hx with h | rfl
    · exact (w.it x h).mono fun a ha => by simp [ha]
    · exact .inr ⟨d, rfl, by simp⟩
  · refine Ne5.nd ⟨ne.n1, ne.n2, ne.n3, ne.n4, ?_, ne.n6, ne.n7, ne.n8, ?_, ne.a1, ne.a2, ?_, ne.a4, ?_, ?_, wf.nd⟩
    · simp [ne.n5, Ne.symm f1]
    · simp [ne.n9, Ne.symm f2]
    · simp [ne.a3, Ne.symm f3]
    · simp [ne.a5, Ne.symm f4]
    · simp [ne.a6, Ne.symm f5]
theorem Wd.field (w : Wd H D sc s c r m G L mine b) {l : Addr} {p : Nat} {x : AV} (hl : l ∈ L) (hx : Item L x) :
    Wd ((H.set c (.list (iL (cells (G.set l p x) L)))).set l (.list (.int (G.kd l) :: (G.it l).set p x))) D sc s c r m (G.set l p x) L mine b := by
  have ne := w.ne
  have eo : off (G.set l p x) L = off G L := funext fun m => off_set L
  have lc : l ≠ c := fun e => ne.a3 (e ▸ hl)
  have k1 : Keep [c] H (H.set c (.list (iL (cells (G.set l p x) L)))) := Keep.set (by simp)
  have k2 : Keep [l] (H.set c (.list (iL (cells (G.set l p x) L)))) ((H.set c (.list (iL (cells (G.set l p x) L)))).set l (.list (.int (G.kd l) :: (G.it l).set p x))) := Keep.set (by simp)
  have k : Keep [c, l] H ((H.set c (.list (iL (cells (G.set l p x) L)))).set l (.list (.int (G.kd l) :: (G.it l).set p x))) := (k1.mono (by simp)).trans (k2.mono (by simp))
  have wf := w.st.2.set (l := l) (p := p) hx
  have hlen : (cells (G.set l p x) L).length ≤ 1000 := by
    have := w.st.1.2.2
    rw [cells_len] at this ⊢
    have e : (cellsA (G.set l p x) L).length = (cellsA G L).length := by
      clear this
      have : ∀ M : List Addr, (cellsA (G.set l p x) M).length = (cellsA G M).length := by
        intro M
        induction M with
        | nil => rfl
        | cons a r ih => rw [cellsA_cons, cellsA_cons, List.length_append, List.length_append, blk_len, blk_len, ih, Gr.set_sz]
      exact this L
    omega
  refine ⟨w.dk.keep k ?_ ?_, ⟨⟨w.st.1.1.keep k ?_, (AH.set_ne _ _ (Ne.symm lc)).trans (AH.set_self ..), hlen⟩, wf⟩, ?_, ?_, k.at w.hm ?_, w.it, w.m4, w.nd⟩
  · simp [ne.n2]; rintro rfl; exact ne.n5 hl
  · simp [ne.n6]; rintro rfl; exact ne.n9 hl
  · simp; exact ⟨⟨_, w.st.1.2.1⟩, ⟨_, w.ow l hl⟩⟩
  · intro l' hl'
    by_cases e : l' = l
    · subst e
      rw [AH.set_self]; simp [Gr.set]
    · rw [AH.set_ne _ _ e, AH.set_ne _ _ (show l' ≠ c from fun q => ne.a3 (q ▸ hl')), w.ow l' hl']
      simp [Gr.set, e]
  · rw [eo]
    exact k.at w.hr (by simp [Ne.symm ne.a1]; rintro rfl; exact ne.a5 hl)
  · simp [Ne.symm ne.a2]; rintro rfl; exact ne.a6 hl
theorem Wd.root (w : Wd H D sc s c r m G L mine b) {j : Nat} {x : AV} (hx : Item L x) :
    Wd ((H.set r (.list ((mine.map (eS (off G L))).set j (eS (off G L) x)))).set m (.list (mine.set j x))) D sc s c r m G L (mine.set j x) b := by
  have ne := w.ne
  have k1 : Keep [r] H (H.set r (.list ((mine.map (eS (off G L))).set j (eS (off G L) x)))) := Keep.set (by simp)
  have k2 : Keep [m] (H.set r (.list ((mine.map (eS (off G L))).set j (eS (off G L) x)))) ((H.set r (.list ((mine.map (eS (off G L))).set j (eS (off G L) x)))).set m (.list (mine.set j x))) := Keep.set (by simp)
  have k : Keep [r, m] H ((H.set r (.list ((mine.map (eS (off G L))).set j (eS (off G L) x)))).set m (.list (mine.set j x))) := (k1.mono (by simp)).trans (k2.mono (by simp))
  refine ⟨w.dk.keep k (by simp [ne.n3, ne.n4]) (by simp [ne.n7, ne.n8]), ⟨⟨w.st.1.1.keep k ?_, k.at w.st.1.2.1 (by simp [ne.a1, ne.a2]), w.st.1.2.2⟩, w.st.2⟩, fun l hl => k.at (w.ow l hl) ?_, ?_, AH.set_self .., ?_, by simpa using w.m4, w.nd⟩
  · simp; exact ⟨⟨_, w.hr⟩, ⟨_, w.hm⟩⟩
  · simp
    exact ⟨fun e => ne.a5 (e ▸ hl), fun e => ne.a6 (e ▸ hl)⟩
  · rw [AH.set_ne _ _ ne.a4, AH.set_self, List.map_set]
  · intro y hy
    rcases List.mem_or_eq_of_mem_set hy with h | rfl
    · exact w.it y h
    · exact hx
theorem ledG_mem (w : Wf G L) : ∀ {ps : List Int} {x : AV} {l : Addr}, Item L x → ledG G x ps = some l → l ∈ L
  | [], x, l, hx, h => by
    rcases hx with ⟨i, rfl, _⟩ | ⟨m, rfl, hm⟩
    · rw [ledG_int] at h; cases h
    · cases h; exact hm
  | p :: ps, x, l, hx, h => by
    rcases hx with ⟨i, rfl, _⟩ | ⟨m, rfl, hm⟩
    · rw [ledG_int] at h; cases h
    · rw [ledG_cons] at h
      split at h
      · cases h
      · rename_i hne
        obtain ⟨y, hy, hmem⟩ := getElem_mod (p := p) hne
        rw [hy] at h
        exact ledG_mem w (w.item m hm y hmem) h
theorem taken_item {lv : LV} (ok : lv.ok) (h4 : mine.length = 4) (it : ∀ x ∈ mine, Item L x) : Item L (takenV mine lv) ∧ ∀ f : Addr → Nat, takenV (mine.map (eS f)) lv = eS f (takenV mine lv) := by
  cases lv with
  | root i =>
    have ok : 0 ≤ i ∧ i < 4 := ok
    have h : mine[i.toNat]? = some mine[i.toNat] := List.getElem?_eq_getElem (by omega)
    refine ⟨?_, fun f => ?_⟩
    · show Item L ((mine[i.toNat]?).getD .none)
      rw [h]; exact it _ (List.getElem_mem _)
    · show (((mine.map (eS f))[i.toNat]?).getD .none) = eS f ((mine[i.toNat]?).getD .none)
      rw [List.getElem?_map, h]; rfl
  | plain w => exact ⟨.inl ⟨w, rfl, ok⟩, fun f => rfl⟩
end
end Mine

-- F13
namespace Mine

def manyOf (kd a c : Int) : Int := if kd = 0 then 2 else if kd = 1 then a else if kd = 3 then 1 + c else if kd = 4 then 1 else 2
theorem many_ok {i a c : Int} (i0 : 0 ≤ i) (i1 : i < 5) (a0 : 0 ≤ a) (a1 : a < 4) (c0 : 0 ≤ c) (c1 : c < 3) :
    ∃ kd, [AV.int 0, .int 1, .int 3, .int 4, .int 5][i.toNat]? = some (.int kd) ∧ SizeOk kd (manyOf kd a c).toNat ∧ 0 ≤ manyOf kd a c ∧
      [((0 : Int), AV.int 2), (1, .int a), (3, .int (1 + c)), (4, .int 1), (5, .int 2)].lookup kd = some (.int (manyOf kd a c)) := by
  have : i = 0 ∨ i = 1 ∨ i = 2 ∨ i = 3 ∨ i = 4 := by omega
  rcases this with rfl | rfl | rfl | rfl | rfl
  · exact ⟨0, rfl, .inl ⟨rfl, rfl⟩, (by show (0 : Int) ≤ 2; decide), rfl⟩
  · exact ⟨1, rfl, .inr (.inl ⟨rfl, by show a.toNat ≤ 3; omega⟩), a0, rfl⟩
  · exact ⟨3, rfl, .inr (.inr (.inl ⟨rfl, by show (1 + c).toNat ≤ 3; omega⟩)), by show 0 ≤ 1 + c; omega, rfl⟩
  · exact ⟨4, rfl, .inr (.inr (.inr (.inl ⟨rfl, rfl⟩))), (by show (0 : Int) ≤ 1; decide), rfl⟩
  · exact ⟨5, rfl, .inr (.inr (.inr (.inr ⟨rfl, rfl⟩))), (by show (0 : Int) ≤ 2; decide), rfl⟩

def pairsOf (env : Env) (pos : Pos) : List (Option Expr) → List Expr → List (Sem Value × Sem Value)
  | some k :: ks, v :: vs => (eval k env, do let x ← eval v env; standAt pos; pure x) :: pairsOf env pos ks vs
  | _, _ => []

section
variable {W : Wo} {A : Around} {env : Env} {μ : Mu} {H : AH} {n : Nat} {Q : AV → AH → Prop}

theorem Wd.put {D sc s c r m : Addr} {G : Gr} {L : List Addr} {mine : List AV} {b : Int} (w : Wd H D sc s c r m G L mine b) {d : Addr} {es : List (Int × AV)} {ep : Nat} {x : AO} (h : H d = some (.idict es ep)) : Wd (H.set d x) D sc s c r m G L mine b := by
  have ne : ∀ {a : Addr} {o : AO}, H a = some o → (∀ es ep, o ≠ .idict es ep) → (H.set d x) a = some o := fun {a o} e z => by
    rw [AH.set_ne _ _ (by rintro rfl; rw [h] at e; cases e; exact z _ _ rfl)]; exact e
  obtain ⟨ns, n, h1, h2, h3, h4, h5, h6⟩ := w.dk
  obtain ⟨⟨⟨d', i1, i2⟩, h7, h8⟩, wf⟩ := w.st
  exact ⟨⟨ns, n, ne h1 (by simp), ne h2 (by simp), h3, h4, h5, h6⟩, ⟨⟨⟨d', ne i1 (by simp), ne i2 (by simp)⟩, ne h7 (by simp), h8⟩, wf⟩, fun l hl => ne (w.ow l hl) (by simp), ne w.hr (by simp), ne w.hm (by simp), w.it, w.m4, w.nd⟩
theorem Ev_dictP {keys : List (Option Expr)} {values : List Expr} {pos : Pos}
    (h : ∀ d, H d = none → Evp W A env (pairsOf env pos keys values) μ (H.set d (.idict [] 0)) fun l H₁ => H₁ d = some (.idict [] 0) ∧ ∃ es : List (Int × AV), l = es.map (fun p => (AV.int p.1, p.2)) ∧ ∀ ep, Q (.ref d) (H₁.set d (.idict (es.foldl (fun acc p => putI acc p.1 p.2) []) ep)))
    (hshape : (evalEachOpt keys env).zip ((evalEach values env).map fun v => do let x ← v; standAt pos; pure x) = (pairsOf env pos keys values).map fun p => (some p.1, p.2) := by rfl) (h0 : pairsOf env pos keys values ≠ [] := by simp [pairsOf]) (hlen : (pairsOf env pos keys values).length ≤ 15 := by simp [pairsOf]) :
    Ev W A env (eval (.Dict keys values pos) env) μ H Q := Ev_dict h hshape h0 hlen

theorem c_mutated (k : PK W) (a : AOk A (n + 8)) {D sc s c r m : Addr} {G : Gr} {L : List Addr} {mine : List AV} {b : Int} (w : Wd H D sc s c r m G L mine b) (hb : b ≤ 90000) (hL : L.length ≤ 30)
    (q : ∀ H' G' L' mine', Wd H' D sc s c r m G' L' mine' (b + 20) → L'.length ≤ L.length + 1 → Q .none H') : Cal W A (.ref 335) [.ref D, .ref s, .ref r, .ref m] H Q := by
  refine Cal_K4 (x := "deck") (y := "store") (z := "roots") (t := "mine") k a (by k_is) (by k_is) fun M A' a' => ?_
  refine Ex_cons <| Ex_assignSwap a'.h (names := [Str.ofString "way", Str.ofString "at"]) (Ev_tuple <| Evs_cons <| Ev_cf k (by k_is) (by k_is) <| Evs_cons <| Ev_name rfl <| Evs_cons <| Ev_int <| Evs_nil <| c_draw k a' w.dk (by omega) (by decide) fun way H1 w0 w1 k1 d1 => ?_)
  have wd1 := w.draw k1 d1
  refine Evs_cons <| Ev_cf k (by k_is) (by k_is) <| Evs_cons <| Ev_name rfl <| Evs_cons <| Ev_int <| Evs_nil <| c_draw k a' wd1.dk (by omega) (by decide) fun at' H2 t0 t1 k2 d2 => Evs_nil ⟨by simp, fun tt htt => ⟨tt, _, rfl, AH.set_self .., rfl, as_cons fun v hv => bind_name <| as_cons fun u hu => bind_name <| as_nil ?_⟩⟩
  rw [hv, hu]
  have wd2 := (wd1.draw k2 d2).keep (Keep.new (o := .tup [.int way, .int at']) htt)
  generalize H2.set tt (.tup [.int way, .int at']) = H3 at wd2 ⊢
  clear k1 d1 k2 d2 wd1 htt
  have at4 : at'.toNat < 4 := by omega
  refine Ex_cons <| Ex_if <| Evb_cmp <| Ev_name rfl <| Ev_int <| cmp_eq ⟨fun e => ?_, fun e => Ex_nil ?_⟩
  · -- a block is made
    refine Ex_cons <| Ex_assign <| E_item <| Ev_list <| Evs_cons <| Ev_int <| Evs_cons <| Ev_int <| Evs_cons <| Ev_int <| Evs_cons <| Ev_int <| Evs_cons <| Ev_int <| Evs_nil ⟨by simp, fun g hg => ?_⟩
    have wd3 := wd2.keep (Keep.new (o := .list [.int 0, .int 1, .int 3, .int 4, .int 5]) hg)
    have hgg : (H3.set g (.list [.int 0, .int 1, .int 3, .int 4, .int 5])) g = some (.list [.int 0, .int 1, .int 3, .int 4, .int 5]) := AH.set_self ..
    have hgD : g ≠ D := by
      obtain ⟨_, _, h, _⟩ := wd2.dk
      exact Ne.symm (some_ne h hg)
    generalize H3.set g (.list [.int 0, .int 1, .int 3, .int 4, .int 5]) = H4 at wd3 hgg
    refine Ev_cf k (by k_is) (by k_is) <| Evs_cons <| Ev_name rfl <| Evs_cons <| Ev_int <| Evs_nil <| c_draw k a' wd3.dk (by omega) (by decide) fun i H5 i0 i1 k5 d5 => ?_
    have wd5 := wd3.draw k5 d5
    have hg5 := k5.at hgg (by simpa using hgD)
    have hkd : ∃ kd, [AV.int 0, .int 1, .int 3, .int 4, .int 5][i.toNat]? = some (.int kd) := let ⟨kd, h, _⟩ := many_ok (a := 0) (c := 0) i0 i1 (by decide) (by decide) (by decide) (by decide); ⟨kd, h⟩
    obtain ⟨kd, hkd⟩ := hkd
    refine ⟨g, _, i, rfl, hg5, rfl, i0, by omega, .int kd, hkd, ?_⟩
    refine Ex_cons <| Ex_assign <| Ev_sub2 <| Ev_dictP fun dd hdd => ?_
    have wd6 := wd5.keep (Keep.new (o := .idict [] 0) hdd)
    have hdi : (H5.set dd (.idict [] 0)) dd = some (.idict [] 0) := AH.set_self ..
    have hdD : dd ≠ D := by
      obtain ⟨_, _, h, _⟩ := wd5.dk
      exact Ne.symm (some_ne h hdd)
    generalize H5.set dd (.idict [] 0) = H6 at wd6 hdi ⊢
    refine Evp_cons <| Ev_int <| Ev_stand <| Ev_int <| Evp_cons <| Ev_int <| Ev_stand <| Ev_cf k (by k_is) (by k_is) <| Evs_cons <| Ev_name rfl <| Evs_cons <| Ev_int <| Evs_nil <| c_draw k a' wd6.dk (by omega) (by decide) fun x7 H7 x70 x71 k7 d7 => ?_
    have wd7 := wd6.draw k7 d7
    have hd7 := k7.at hdi (by simpa using hdD)
    refine Evp_cons <| Ev_int <| Ev_stand <| Ev_add <| Ev_int <| Ev_cf k (by k_is) (by k_is) <| Evs_cons <| Ev_name rfl <| Evs_cons <| Ev_int <| Evs_nil <| c_draw k a' wd7.dk (by omega) (by decide) fun x8 H8 x80 x81 k8 d8 => ?_
    have wd8 := wd7.draw k8 d8
    have hd8 := k8.at hd7 (by simpa using hdD)
    refine ⟨_, _, rfl, rfl, Evp_cons <| Ev_int <| Ev_stand <| Ev_int <| Evp_cons <| Ev_int <| Ev_stand <| Ev_int <| Evp_nil ⟨hd8, [((0 : Int), AV.int 2), (1, .int x7), (3, .int (1 + x8)), (4, .int 1), (5, .int 2)], rfl, fun ep => Ev_name rfl ?_⟩⟩
    obtain ⟨kd', hkd', hsz, hm0, hlk⟩ := many_ok i0 i1 x70 x71 x80 x81
    rw [hkd] at hkd'; cases hkd'
    have eput : [((0 : Int), AV.int 2), (1, .int x7), (3, .int (1 + x8)), (4, .int 1), (5, .int 2)].foldl (fun acc p => putI acc p.1 p.2) [] = [((0 : Int), AV.int 2), (1, .int x7), (3, .int (1 + x8)), (4, .int 1), (5, .int 2)] := rfl
    rw [eput]
    refine tail_dict (AH.set_self ..) hlk ?_
    have wd9 := wd8.put (x := .idict [((0 : Int), AV.int 2), (1, .int x7), (3, .int (1 + x8)), (4, .int 1), (5, .int 2)] ep) hd8
    generalize H8.set dd (.idict [((0 : Int), AV.int 2), (1, .int x7), (3, .int (1 + x8)), (4, .int 1), (5, .int 2)] ep) = H9 at wd9 ⊢
    generalize manyOf kd x7 x8 = many at hsz hm0 ⊢
    have hm3 := hsz.len
    refine Ex_cons <| Ex_assignComp (cl := [(Str.ofString "roots", M + 2), (Str.ofString "deck", M + 1)]) (μc := [(Str.ofString "deck", .ref D), (Str.ofString "roots", .ref r)]) a'.h ⟨rfl, ?_, ?_, ?_, rfl, ?_⟩ (E_range1 k <| Ev_name rfl ⟨_, rfl, fun rd hrd => ?_⟩)
    · intro p hp
      simp only [List.mem_cons, List.not_mem_nil, or_false] at hp
      rcases hp with rfl | rfl
      · exact ⟨rfl, rfl, (fun h => by cases h), (fun h => by cases h)⟩
      · exact ⟨rfl, rfl, (fun h => by cases h), (fun h => by cases h)⟩
    · intro p hp
      simp only [List.mem_cons, List.not_mem_nil, or_false] at hp
      rcases hp with rfl | rfl <;> rfl
    · decide
    · decide
    · have wd10 := wd9.keep (Keep.new (o := .range 0 many) hrd)
      have hrr : (H9.set rd (.range 0 many)) rd = some (.range 0 many) := AH.set_self ..
      generalize H9.set rd (.range 0 many) = H10 at wd10 hrr ⊢
      have hrz : (Src.range rd 0 many).items.length = many.toNat := by simp [Src.items]
      refine ⟨.range rd 0 many, rfl, ⟨hrr, by omega, by omega, by omega, by omega⟩, by rw [hrz]; omega, fun i ys H' => ∃ lvs : List LV, lvs.length = i ∧ Fa2 (ValAt H') ys lvs ∧ Wd H' D sc s c r m G L mine (b + 5 + 2 * i), ⟨[], rfl, .nil, wd10.le (by omega)⟩, ⟨fun _ _ _ _ => trivial, ?_⟩, ?_⟩
      · rintro C i z ys H11 hz ⟨lvs, hl, hf, wd11⟩
        have hi : i < many.toNat := by
          have := (List.getElem?_eq_some_iff.mp hz).1
          rw [hrz] at this; exact this
        refine tests_nil ⟨fun _ => ?_, fun e => by cases e⟩
        refine Ev_cf k (by k_is) (by k_is) <| Evs_cons <| Ev_name rfl <| Evs_cons <| Ev_name rfl <| Evs_nil <| c_value k a' wd11.dk (by omega) fun x lv H12 k12 d12 va => ?_
        have hDl : ∃ ys, H11 D = some (.list ys) := let ⟨_, _, h, _⟩ := wd11.dk; ⟨_, h⟩
        exact ⟨lvs ++ [lv], by simp [hl], (hf.mono fun _ _ h => h.keep k12 (by simpa using hDl)).snoc va, (wd11.draw k12 d12).le (by push_cast; omega)⟩
      · rintro ys H11 ⟨lvs, hl, hf, wd11⟩ vl hvl
        rw [hrz] at hl wd11
        have kv : Keep [] H11 (H11.set vl (.list ys)) := Keep.new hvl
        have hvv : (H11.set vl (.list ys)) vl = some (.list ys) := AH.set_self ..
        have wd12 := wd11.keep kv
        have hf12 := hf.mono fun _ _ (h : ValAt H11 _ _) => h.keep kv (by simp)
        have vc := Ne.symm (some_ne wd11.st.1.2.1 hvl)
        have vr := Ne.symm (some_ne wd11.hr hvl)
        have vm := Ne.symm (some_ne wd11.hm hvl)
        generalize H11.set vl (.list ys) = H12 at kv hvv wd12 hf12 ⊢
        have hyl := hf.len
        have ne := wd12.ne
        have lvok : ∀ i lv, lvs[i]? = some lv → ∃ y, ys[i]? = some y ∧ ValAt H12 y lv := fun i lv h => hf12.at h
        have hit : ∀ x ∈ lvs.map (takenV mine), Item L x := by
          intro x hx
          obtain ⟨lv, hlv, rfl⟩ := List.mem_map.mp hx
          obtain ⟨i, hi, e⟩ := List.getElem_of_mem hlv
          obtain ⟨y, _, t, _, _, ok⟩ := lvok i lv (by rw [List.getElem?_eq_getElem hi, e])
          exact (taken_item ok w.m4 w.it).1
        have hsv : (Src.list vl ys).items.length = lvs.length := hyl
        have hil : (lvs.map (takenV mine)).length = many.toNat := by simp [hl]
        refine Ex_cons <| Ex_assignSub <| Ev_cm k (by k_is) (by k_is) (by k_is) rfl <| Ev_name rfl ⟨s, 900, c, rfl, wd12.st.1.1, Evs_cons <| Ev_name rfl <| Evs_cons <| Ev_comp (cl := [(Str.ofString "roots", M + 2)]) (μc := [(Str.ofString "roots", .ref r)]) a'.h ⟨rfl, ?_, ?_, ?_, rfl, ?_⟩
          (Ev_name rfl ⟨.list vl ys, rfl, hvv, by rw [hsv]; omega, fun i zs H' => H' = H12 ∧ zs = iL (((lvs.take i).map (takenV mine)).map (wd (off G L))), ⟨rfl, by simp⟩, ⟨?_, ?_⟩, ?_⟩)⟩
        · intro p hp
          simp only [List.mem_cons, List.not_mem_nil, or_false] at hp
          rcases hp with rfl
          exact ⟨rfl, rfl, (fun h => by cases h), (fun h => by cases h)⟩
        · intro p hp
          simp only [List.mem_cons, List.not_mem_nil, or_false] at hp
          rcases hp with rfl; rfl
        · decide
        · decide
        · rintro i zs H' ⟨rfl, _⟩; exact hvv
        · rintro C i z zs H' hz ⟨rfl, rfl⟩
          have hz : ys[i]? = some z := hz
          have hi : i < lvs.length := by rw [← hyl]; exact (List.getElem?_eq_some_iff.mp hz).1
          have hlv : lvs[i]? = some lvs[i] := List.getElem?_eq_getElem hi
          obtain ⟨z', hz', va⟩ := lvok i _ hlv
          rw [hz] at hz'; cases hz'
          have ok : lvs[i].ok := let ⟨_, _, _, ok⟩ := va; ok
          refine tests_nil ⟨fun _ => ?_, fun e => by cases e⟩
          refine Ev_cf k (by k_is) (by k_is) <| Evs_cons <| Ev_name rfl <| Evs_cons <| Ev_name rfl <| Evs_nil <| c_taken k a' va wd12.hr (by simpa using w.m4) ⟨rfl, ?_⟩
          have htk : lvs.take (i + 1) = lvs.take i ++ [lvs[i]] := by rw [List.take_add_one, hlv]; rfl
          rw [(taken_item ok w.m4 w.it).2, htk]
          simp only [List.map_append, List.map_cons, List.map_nil, iL]; rfl
        · rintro zs H' ⟨rfl, rfl⟩ xl hxl
          rw [hsv, List.take_length]
          have kx : Keep [] H' (H'.set xl (.list (iL ((lvs.map (takenV mine)).map (wd (off G L)))))) := Keep.new hxl
          have hxx : (H'.set xl (.list (iL ((lvs.map (takenV mine)).map (wd (off G L)))))) xl = some (.list (iL ((lvs.map (takenV mine)).map (wd (off G L))))) := AH.set_self ..
          have xc := Ne.symm (some_ne wd12.st.1.2.1 hxl)
          have wd13 := wd12.keep kx
          generalize H'.set xl (.list (iL ((lvs.map (takenV mine)).map (wd (off G L))))) = H13 at kx hxx wd13 ⊢
          have hcl := cellsA_4 w.st.2
          rw [← cells_len] at hcl
          have hxsl : ((lvs.map (takenV mine)).map (wd (off G L))).length = (lvs.map (takenV mine)).length := List.length_map _
          refine Evs_nil <| c_allocate k a' wd13.st.1 hxx xc (by rw [hxsl, hil]; omega) ?_
          rw [hxsl]
          generalize hits : lvs.map (takenV mine) = items at hit hil ⊢
          have kc : Keep [c] H13 (H13.set c (.list (iL (cells G L ++ ((((items.length : Nat) : Int) * 16 + kd) * 8 + 5) :: items.map (wd (off G L)))))) := Keep.set (by simp)
          have hc14 : (H13.set c (.list (iL (cells G L ++ ((((items.length : Nat) : Int) * 16 + kd) * 8 + 5) :: items.map (wd (off G L)))))) c = some (.list (iL (cells G L ++ ((((items.length : Nat) : Int) * 16 + kd) * 8 + 5) :: items.map (wd (off G L))))) := AH.set_self ..
          generalize H13.set c (.list (iL (cells G L ++ ((((items.length : Nat) : Int) * 16 + kd) * 8 + 5) :: items.map (wd (off G L))))) = H14 at kc hc14 ⊢
          have hr14 := kc.at wd13.hr (by simpa using Ne.symm ne.a1)
          refine Ev_name rfl <| Ev_name rfl fun v u x hv hu hx => set_list hv hu hr14 (by omega) (by omega) (by rw [List.length_map, w.m4]; omega) ?_
          rw [hx]
          generalize hr15e : H14.set r (.list ((mine.map (eS (off G L))).set at'.toNat (.int (((cells G L).length : Nat) * 8 + 1)))) = H15
          have kr : Keep [r] H14 H15 := by rw [← hr15e]; exact Keep.set (by simp)
          have hr15 : H15 r = some (.list ((mine.map (eS (off G L))).set at'.toNat (.int (((cells G L).length : Nat) * 8 + 1)))) := by rw [← hr15e, AH.set_self]
          have hc15 := kr.at hc14 (by simpa using ne.a1)
          have k15 : Keep [c, r] H' H15 := (kx.ext.trans (kc.mono (by simp))).trans (kr.mono (by simp))
          clear hr15e
          have hlists : ∀ a ∈ [c, r], ∃ ys, H' a = some (.list ys) := by simp; exact ⟨⟨_, wd12.st.1.2.1⟩, ⟨_, wd12.hr⟩⟩
          refine Ex_cons <| Ex_assignSub <| Ev_addL <| Ev_list <| Evs_cons <| Ev_name rfl <| Evs_nil ⟨by simp, fun pl hpl => ?_⟩
          have kp : Keep [] H15 (H15.set pl (.list [.int kd])) := Keep.new hpl
          have hpp : (H15.set pl (.list [.int kd])) pl = some (.list [.int kd]) := AH.set_self ..
          generalize H15.set pl (.list [.int kd]) = H16 at kp hpp ⊢
          have k16 := k15.trans kp.ext
          have hv16 := k16.at hvv (by simp [vc, vr])
          have hm16 := k16.at wd12.hm (by simp [Ne.symm ne.a2, Ne.symm ne.a4])
          refine Ev_comp (cl := [(Str.ofString "mine", M + 3)]) (μc := [(Str.ofString "mine", .ref m)]) a'.h ⟨rfl, ?_, ?_, ?_, rfl, ?_⟩
            (Ev_name rfl ⟨.list vl ys, rfl, hv16, by rw [hsv]; omega, fun i zs H' => H' = H16 ∧ zs = (lvs.take i).map (takenV mine), ⟨rfl, by simp⟩, ⟨?_, ?_⟩, ?_⟩)
          · intro p hp
            simp only [List.mem_cons, List.not_mem_nil, or_false] at hp
            rcases hp with rfl
            exact ⟨rfl, rfl, (fun h => by cases h), (fun h => by cases h)⟩
          · intro p hp
            simp only [List.mem_cons, List.not_mem_nil, or_false] at hp
            rcases hp with rfl; rfl
          · decide
          · decide
          · rintro i zs H'' ⟨rfl, _⟩; exact hv16
          · rintro C i z zs H'' hz ⟨rfl, rfl⟩
            have hz : ys[i]? = some z := hz
            have hi : i < lvs.length := by rw [← hyl]; exact (List.getElem?_eq_some_iff.mp hz).1
            have hlv : lvs[i]? = some lvs[i] := List.getElem?_eq_getElem hi
            obtain ⟨z', hz', va⟩ := lvok i _ hlv
            rw [hz] at hz'; cases hz'
            refine tests_nil ⟨fun _ => ?_, fun e => by cases e⟩
            refine Ev_cf k (by k_is) (by k_is) <| Evs_cons <| Ev_name rfl <| Evs_cons <| Ev_name rfl <| Evs_nil <| c_taken k a' (va.keep k16 hlists) hm16 w.m4 ⟨rfl, ?_⟩
            have htk : lvs.take (i + 1) = lvs.take i ++ [lvs[i]] := by rw [List.take_add_one, hlv]; rfl
            rw [htk, List.map_append]; rfl
          · rintro zs H'' ⟨rfl, rfl⟩ zl hzl
            rw [hsv, List.take_length, hits]
            have kz : Keep [] H'' (H''.set zl (.list items)) := Keep.new hzl
            have hzz : (H''.set zl (.list items)) zl = some (.list items) := AH.set_self ..
            generalize H''.set zl (.list items) = H17 at kz hzz ⊢
            have k17 := k16.trans kz.ext
            refine ⟨pl, zl, _, _, rfl, rfl, kz.at hpp, hzz, by simp; omega, fun d hd => ?_⟩
            have kd' : Keep [] H17 (H17.set d (.list ([.int kd] ++ items))) := Keep.new hd
            have hdd2 : (H17.set d (.list ([.int kd] ++ items))) d = some (.list ([.int kd] ++ items)) := AH.set_self ..
            have n17 : ∀ {a : Addr} {o : AO}, H' a = some o → a ∉ [c, r] → d ≠ a := fun h x => Ne.symm (some_ne (k17.at h x) hd)
            have dc : d ≠ c := Ne.symm (some_ne (kz.at (kp.at hc15)) hd)
            have dr : d ≠ r := Ne.symm (some_ne (kz.at (kp.at hr15)) hd)
            generalize H17.set d (.list ([.int kd] ++ items)) = H18 at kd' hdd2 ⊢
            have k18 := k17.trans kd'.ext
            have hm18 := k18.at wd12.hm (by simp [Ne.symm ne.a2, Ne.symm ne.a4])
            refine Ev_name rfl <| Ev_name rfl fun v u x hv hu hx => set_list hv hu hm18 (by omega) (by omega) (by rw [w.m4]; omega) ?_
            rw [hx]
            have km : Keep [m] H18 (H18.set m (.list (mine.set at'.toNat (.ref d)))) := Keep.set (by simp)
            have hmm : (H18.set m (.list (mine.set at'.toNat (.ref d)))) m = some (.list (mine.set at'.toNat (.ref d))) := AH.set_self ..
            generalize H18.set m (.list (mine.set at'.toNat (.ref d))) = H19 at km hmm ⊢
            have k19 : Keep [c, r, m] H' H19 := (k18.mono (by simp)).trans (km.mono (by simp))
            have hD1 := wd12.dk
            obtain ⟨ns, nn, g1, g2, _⟩ := hD1
            have dm : d ≠ m := n17 wd12.hm (by simp [Ne.symm ne.a2, Ne.symm ne.a4])
            have dL : d ∉ L := fun h => n17 (wd12.ow d h) (by simp; exact ⟨dc, dr⟩) rfl
            refine Ex_cons <| Ex_ret0 ?_
            refine q H19 (G.add d kd items) (L ++ [d]) (mine.set at'.toNat (.ref d)) (Wd.le (Wd.alloc wd12 (wd12.dk.keep k19 (by simp [ne.n2, ne.n3, ne.n4]) (by simp [ne.n6, ne.n7, ne.n8])) (wd12.st.1.1.keep k19 ?_) ?_ ?_ hmm (fun l hl => ?_) (km.at hdd2 (by simpa using dm))
              (n17 g1 (by simp [ne.n2, ne.n3])) (n17 g2 (by simp [ne.n6, ne.n7])) dc dr dm dL hit (by rw [hil]; exact hsz) (by omega)) (by omega)) (by simp)
            · simp; exact ⟨⟨_, wd12.st.1.2.1⟩, ⟨_, wd12.hr⟩, ⟨_, wd12.hm⟩⟩
            · exact km.at (kd'.at (kz.at (kp.at hc15))) (by simpa using ne.a2)
            · exact km.at (kd'.at (kz.at (kp.at hr15))) (by simpa using ne.a4)
            · rw [wd12.ow l hl]
              exact k19.at (wd12.ow l hl) (by simp; exact ⟨fun e => ne.a3 (e ▸ hl), fun e => ne.a5 (e ▸ hl), fun e => ne.a6 (e ▸ hl)⟩)
  · -- a path is led
    refine Ex_cons <| Ex_assignSwap a'.h (names := [Str.ofString "path", Str.ofString "value"]) (Ev_tuple <| Evs_cons <| Ev_comp (cl := [(Str.ofString "deck", M + 1)]) (μc := [(Str.ofString "deck", .ref D)]) a'.h ⟨rfl, ?_, ?_, ?_, rfl, ?_⟩
      (E_range1 k <| Ev_cf k (by k_is) (by k_is) <| Evs_cons <| Ev_name rfl <| Evs_cons <| Ev_int <| Evs_nil <| c_draw k a' wd2.dk (by omega) (by decide) fun pn H4 p0 p1 k4 d4 => ⟨_, rfl, fun rd hrd => ?_⟩))
    · intro p hp
      simp only [List.mem_cons, List.not_mem_nil, or_false] at hp
      rcases hp with rfl
      exact ⟨rfl, rfl, (fun h => by cases h), (fun h => by cases h)⟩
    · intro p hp
      simp only [List.mem_cons, List.not_mem_nil, or_false] at hp
      rcases hp with rfl; rfl
    · decide
    · decide
    have wd4 := (wd2.draw k4 d4).keep (Keep.new (o := .range 0 pn) hrd)
    have hrr : (H4.set rd (.range 0 pn)) rd = some (.range 0 pn) := AH.set_self ..
    generalize H4.set rd (.range 0 pn) = H5 at wd4 hrr ⊢
    have hrz : (Src.range rd 0 pn).items.length = pn.toNat := by simp [Src.items]
    refine ⟨.range rd 0 pn, rfl, ⟨hrr, by omega, by omega, by omega, by omega⟩, by rw [hrz]; omega, fun i ys H' => ∃ ns : List Int, ys = iL ns ∧ Wd H' D sc s c r m G L mine (b + 3 + i), ⟨[], rfl, wd4.le (by omega)⟩, ⟨fun _ _ _ _ => trivial, ?_⟩, ?_⟩
    · rintro C i z ys H6 hz ⟨ns, rfl, wd6⟩
      have hi : i < pn.toNat := by
        have := (List.getElem?_eq_some_iff.mp hz).1
        rw [hrz] at this; exact this
      refine tests_nil ⟨fun _ => ?_, fun e => by cases e⟩
      refine Ev_cf k (by k_is) (by k_is) <| Evs_cons <| Ev_name rfl <| Evs_cons <| Ev_int <| Evs_nil <| c_draw k a' wd6.dk (by omega) (by decide) fun x H7 _ _ k7 d7 => ?_
      exact ⟨ns ++ [x], by simp, (wd6.draw k7 d7).le (by push_cast; omega)⟩
    · rintro ys H6 ⟨ns, rfl, wd6⟩ pl hpl
      rw [hrz] at wd6
      have wd7 := (wd6.keep (Keep.new (o := .list (iL ns)) hpl)).le (b' := b + 5) (by omega)
      have hpp : (H6.set pl (.list (iL ns))) pl = some (.list (iL ns)) := AH.set_self ..
      have pD : pl ≠ D := by
        obtain ⟨_, _, h, _⟩ := wd6.dk
        exact Ne.symm (some_ne h hpl)
      generalize H6.set pl (.list (iL ns)) = H7 at wd7 hpp ⊢
      refine Evs_cons <| Ev_cf k (by k_is) (by k_is) <| Evs_cons <| Ev_name rfl <| Evs_cons <| Ev_name rfl <| Evs_nil <| c_value k a' wd7.dk (by omega) fun vx lv H8 k8 d8 va => Evs_nil ⟨by simp, fun t8 ht8 => ⟨t8, _, rfl, AH.set_self .., rfl, as_cons fun v hv => bind_name <| as_cons fun u hu => bind_name <| as_nil ?_⟩⟩
      rw [hv, hu]
      have k9 : Keep [] H8 (H8.set t8 (.tup [.ref pl, vx])) := Keep.new ht8
      have wd9 := (wd7.draw k8 d8).keep k9
      have hp9 := k9.at (k8.at hpp (by simpa using pD))
      have va9 := va.keep k9 (by simp)
      generalize H8.set t8 (.tup [.ref pl, vx]) = H9 at wd9 hp9 va9 ⊢
      clear k8 d8 va k9 hpp
      obtain ⟨x, hmx⟩ : ∃ x, mine[at'.toNat]? = some x := ⟨_, List.getElem?_eq_getElem (by rw [w.m4]; exact at4)⟩
      have hxi := w.it x (List.mem_of_getElem? hmx)
      have hrx : (mine.map (eS (off G L)))[at'.toNat]? = some (.int (wd (off G L) x)) := by rw [List.getElem?_map, hmx]; rfl
      refine Ex_cons <| Ex_assignSwap a'.h (names := [Str.ofString "word", Str.ofString "thing", Str.ofString "place"]) (Ev_tuple <| Evs_cons <| Ev_cf k (by k_is) (by k_is) <| Evs_cons <| Ev_name rfl <| Evs_cons <| E_at (l := r) (i := at') <| Ev_name rfl ⟨rfl, Ev_name rfl ⟨rfl, wd9.hr, t0, by omega, hrx, Evs_cons <| Ev_name rfl <| Evs_nil <|
        c_led k a' wd9.st hxi hp9 <| Evs_cons <| Ev_cf k (by k_is) (by k_is) <| Evs_cons <| E_at (l := m) (i := at') <| Ev_name rfl ⟨rfl, Ev_name rfl ⟨rfl, wd9.hm, t0, by omega, hmx, Evs_cons <| Ev_name rfl <| Evs_nil <| c_ledOwn k a' wd9.st.2 wd9.ow hxi hp9 ?_⟩⟩⟩⟩)
      have hled : ∀ l, ledG G x ns = some l → l ∈ L := fun l h => ledG_mem w.st.2 hxi h
      generalize ledG G x ns = led at hled ⊢
      refine Evs_cons <| Ev_cf k (by k_is) (by k_is) <| Evs_cons <| Ev_name rfl <| Evs_cons <| Ev_int <| Evs_nil <| c_draw k a' wd9.dk (by omega) (by decide) fun place H10 q0 q1 k10 d10 => Evs_nil ⟨by simp, fun t10 ht10 => ⟨t10, _, rfl, AH.set_self .., rfl, as_cons fun v hv => bind_name <| as_cons fun u hu => bind_name <| as_cons fun u2 hu2 => bind_name <| as_nil ?_⟩⟩
      rw [hv, hu, hu2]
      have k11 : Keep [] H10 (H10.set t10 (.tup [ledW (off G L) led, ledO led, .int place])) := Keep.new ht10
      have wd11 := (wd9.draw k10 d10).keep k11
      have hD9 : ∃ ys, H9 D = some (.list ys) := let ⟨_, _, h, _⟩ := wd9.dk; ⟨_, h⟩
      have va11 := (va9.keep k10 (by simpa using hD9)).keep k11 (by simp)
      generalize H10.set t10 (.tup [ledW (off G L) led, ledO led, .int place]) = H11 at wd11 va11 ⊢
      clear k10 d10 k11 wd9 hp9 va9 wd7 wd6 wd4 hD9 ht10 ht8 hpl hrd
      have wd11 := wd11.le (b' := b + 10) (by omega)
      have ok : lv.ok := let ⟨_, _, _, ok⟩ := va11; ok
      obtain ⟨txi, txs⟩ := taken_item (L := L) ok w.m4 w.it
      have ne := wd11.ne
      refine Ex_cons <| Ex_if <| EvG.mono (Q := fun b' H' => H' = H11 ∧ (b' = false → way ≠ 3 ∧ ∃ l, led = some l ∧ (G.it l).length ≠ 0)) (Evb_bool <| Evb_or_cons <| Evb_cmp <| Ev_name rfl <| Ev_int <| cmp_eq ⟨fun e1 => ?_, fun e1 => ⟨rfl, fun e => by cases e⟩⟩) ?_
      · have e1' : way ≠ 3 := of_decide_eq_false e1
        cases led with
        | none => exact Evb_or_cons <| Evb_cmp <| Ev_name rfl <| Ev_noneC <| cmp_isNone nn_none ⟨(fun e => by cases e), fun _ => ⟨rfl, fun e => by cases e⟩⟩
        | some l =>
          refine Evb_or_cons <| Evb_cmp <| Ev_name rfl <| Ev_noneC <| cmp_isNone nn_int ⟨fun _ => ?_, fun e => by cases e⟩
          refine Evb_or_cons <| Evb_cmp <| Ev_cm k (by k_is) (by k_is) (by k_is) rfl <| Ev_name rfl ⟨s, 900, c, rfl, wd11.st.1.1, Evs_cons <| Ev_name rfl <| Evs_nil <| s_lengthOf k a' wd11.st (hled l rfl) <| Ev_int <| cmp_eq ⟨fun e => Evb_or_nil ⟨rfl, fun _ => ⟨e1', l, rfl, ?_⟩⟩, fun e => ⟨rfl, fun e => by cases e⟩⟩⟩
          have := of_decide_eq_false e
          omega
      · rintro b' H' ⟨rfl, hb'⟩
        refine ⟨fun _ => ?_, fun e => ?_⟩
        · refine Ex_cons <| Ex_assignTup a'.h <| Ev_tuple <| Evs_cons <| Ev_cf k (by k_is) (by k_is) <| Evs_cons <| Ev_name rfl <| Evs_cons <| Ev_name rfl <| Evs_nil <| c_taken k a' va11 wd11.hr (by simpa using w.m4) <| Evs_cons <| Ev_cf k (by k_is) (by k_is) <| Evs_cons <| Ev_name rfl <| Evs_cons <| Ev_name rfl <| Evs_nil <| c_taken k a' va11 wd11.hm w.m4 <|
            Evs_nil ⟨by simp, fun tq htq => ⟨tq, _, rfl, AH.set_self .., rfl, ?_⟩⟩
          have wd12 := wd11.keep (Keep.new (o := .tup [takenV (mine.map (eS (off G L))) lv, takenV mine lv]) htq)
          generalize H'.set tq (.tup [takenV (mine.map (eS (off G L))) lv, takenV mine lv]) = H12 at wd12 ⊢
          refine as_cons fun v hv => to_sub <| Ev_name rfl <| Ev_name rfl fun o1 o2 ho1 ho2 => set_list ho1 ho2 wd12.hr (by omega) (by omega) (by rw [List.length_map, w.m4]; omega) ?_
          rw [hv, txs]
          refine as_cons fun v2 hv2 => to_sub <| Ev_name rfl <| Ev_name rfl fun o3 o4 ho3 ho4 => set_list ho3 ho4 ((AH.set_ne _ _ (Ne.symm ne.a4)).trans wd12.hm) (by omega) (by omega) (by rw [w.m4]; omega) ?_
          rw [hv2]
          exact as_nil <| Ex_nil <| Ex_nil <| q _ _ _ _ ((wd12.root txi).le (by omega)) (by omega)
        · obtain ⟨e3, l, rfl, hne⟩ := hb' e
          have hl := hled l rfl
          have hown := wd11.ow l hl
          have g3 := (w.st.2.kind l hl).len
          have m0 : 0 ≤ place % ((G.it l).length : Int) := Int.emod_nonneg _ (by omega)
          have m1 : place % ((G.it l).length : Int) < (G.it l).length := Int.emod_lt_of_pos _ (by omega)
          have olen : (AV.int (G.kd l) :: G.it l).length ≤ 1000000 := by simp; omega
          have el : (((AV.int (G.kd l) :: G.it l).length : Nat) : Int) - 1 = ((G.it l).length : Int) := by simp
          refine Ex_cons <| Ex_if <| Evb_cmp <| Ev_name rfl <| Ev_int <| cmp_eq ⟨fun _ => ?_, fun _ => ?_⟩
          · refine Ex_cons <| Ex_expr <| Ev_cm k (by k_is) (by k_is) (by k_is) rfl <| Ev_name rfl ⟨s, 900, c, rfl, wd11.st.1.1, Evs_cons <| Ev_name rfl <| Evs_cons <| Ev_mod <| Ev_name rfl <| Ev_cm k (by k_is) (by k_is) (by k_is) rfl <| Ev_name rfl ⟨s, 900, c, rfl, wd11.st.1.1, Evs_cons <| Ev_name rfl <| Evs_nil <| s_lengthOf k a' wd11.st hl
              ⟨_, _, rfl, rfl, by omega, Evs_cons <| Ev_cf k (by k_is) (by k_is) <| Evs_cons <| Ev_name rfl <| Evs_cons <| Ev_name rfl <| Evs_nil <| c_taken k a' va11 wd11.hr (by simpa using w.m4) ?_⟩⟩⟩
            rw [txs]
            refine Evs_nil <| s_setField k a' wd11.st hl m0 m1 ?_
            have wf := wd11.field (p := (place % ((G.it l).length : Int)).toNat) hl txi
            have lc : l ≠ c := fun e => ne.a3 (e ▸ hl)
            have kc : Keep [c] H' (H'.set c (.list (iL (cells (G.set l (place % ((G.it l).length : Int)).toNat (takenV mine lv)) L)))) := Keep.set (by simp)
            have hownc := kc.at hown (by simpa using lc)
            have hmc := kc.at wd11.hm (by simpa using Ne.symm ne.a2)
            have vac := va11.keep kc (by simp; exact ⟨_, wd11.st.1.2.1⟩)
            generalize H'.set c (.list (iL (cells (G.set l (place % ((G.it l).length : Int)).toNat (takenV mine lv)) L))) = H12 at wf hownc hmc vac ⊢
            refine Ex_cons <| Ex_assignSub <| Ev_cf k (by k_is) (by k_is) <| Evs_cons <| Ev_name rfl <| Evs_cons <| Ev_name rfl <| Evs_nil <| c_taken k a' vac hmc w.m4 <| Ev_name rfl <| Ev_add <| Ev_int <| Ev_mod <| Ev_name rfl <| Ev_sub <| E_len k <| Ev_name rfl ⟨l, _, rfl, hownc, olen, Ev_int ⟨_, _, rfl, rfl, _, _, rfl, rfl, by rw [el]; omega, _, _, rfl, rfl, fun o1 o2 o3 ho1 ho2 ho3 => ?_⟩⟩
            rw [el] at ho2
            refine set_list ho1 ho2 hownc (by omega) (by omega) (by simp; omega) ?_
            have es : (AV.int (G.kd l) :: G.it l).set (1 + place % ((G.it l).length : Int)).toNat (ab o3) = .int (G.kd l) :: (G.it l).set (place % ((G.it l).length : Int)).toNat (takenV mine lv) := by
              rw [ho3, show (1 + place % ((G.it l).length : Int)).toNat = (place % ((G.it l).length : Int)).toNat + 1 by omega]; rfl
            rw [es]
            exact Ex_nil <| Ex_nil <| Ex_nil <| q _ _ _ _ (wf.le (by omega)) (by omega)
          · refine Ex_cons <| Ex_assign <| Ev_cf k (by k_is) (by k_is) <| Evs_cons <| Ev_name rfl <| Evs_cons <| Ev_int <| Evs_nil <| c_draw k a' wd11.dk (by omega) (by decide) fun goal H12 g0 g1 k12 d12 => ?_
            have wd12 := wd11.draw k12 d12
            have hown12 := wd12.ow l hl
            obtain ⟨y, hy⟩ : ∃ y, (G.it l)[(place % ((G.it l).length : Int)).toNat]? = some y := ⟨_, List.getElem?_eq_getElem (by omega)⟩
            have hyi := w.st.2.item l hl y (List.mem_of_getElem? hy)
            have ey : (AV.int (G.kd l) :: G.it l)[(1 + place % ((((AV.int (G.kd l) :: G.it l).length : Nat) : Int) - 1)).toNat]? = some y := by
              rw [el, show (1 + place % ((G.it l).length : Int)).toNat = (place % ((G.it l).length : Int)).toNat + 1 by omega]
              simpa using hy
            refine Ex_cons <| Ex_assignTup a'.h <| Ev_tuple <| Evs_cons <| Ev_cm k (by k_is) (by k_is) (by k_is) rfl <| Ev_name rfl ⟨s, 900, c, rfl, wd12.st.1.1, Evs_cons <| Ev_name rfl <| Evs_cons <| Ev_mod <| Ev_name rfl <| Ev_cm k (by k_is) (by k_is) (by k_is) rfl <| Ev_name rfl ⟨s, 900, c, rfl, wd12.st.1.1, Evs_cons <| Ev_name rfl <| Evs_nil <| s_lengthOf k a' wd12.st hl
              ⟨_, _, rfl, rfl, by omega, Evs_nil <| s_field k a' wd12.st hl m0 hy <| Evs_cons <| E_at (l := l) <| Ev_name rfl ⟨rfl, Ev_add <| Ev_int <| Ev_mod <| Ev_name rfl <| Ev_sub <| E_len k <| Ev_name rfl ⟨l, _, rfl, hown12, olen, Ev_int ⟨_, _, rfl, rfl, _, _, rfl, rfl, by rw [el]; omega, _, _, rfl, rfl, rfl, hown12, by rw [el]; omega, by rw [el]; omega, ey,
                Evs_nil ⟨by simp, fun tq htq => ⟨tq, _, rfl, AH.set_self .., rfl, ?_⟩⟩⟩⟩⟩⟩⟩⟩
            have wd13 := wd12.keep (Keep.new (o := .tup [.int (wd (off G L) y), y]) htq)
            generalize H12.set tq (.tup [.int (wd (off G L) y), y]) = H13 at wd13 ⊢
            refine as_cons fun v hv => to_sub <| Ev_name rfl <| Ev_name rfl fun o1 o2 ho1 ho2 => set_list ho1 ho2 wd13.hr (by omega) (by omega) (by rw [List.length_map, w.m4]; omega) ?_
            rw [hv]
            refine as_cons fun v2 hv2 => to_sub <| Ev_name rfl <| Ev_name rfl fun o3 o4 ho3 ho4 => set_list ho3 ho4 ((AH.set_ne _ _ (Ne.symm ne.a4)).trans wd13.hm) (by omega) (by omega) (by rw [w.m4]; omega) ?_
            rw [hv2]
            exact as_nil <| Ex_nil <| Ex_nil <| Ex_nil <| q _ _ _ _ ((wd13.root hyi).le (by omega)) (by omega)
end
end Mine

-- F14
namespace Mine

section
variable {W : Wo} {A : Around} {env : Env} {μ : Mu} {H : AH} {n : Nat} {Q : AV → AH → Prop}

/-- a slice of a list that stood before -/
theorem Ev_slice0 {value : Expr} {lower upper : Option Expr} {p pos : Pos} {Q} (xs : List AV)
    (h : Ev W A env (eval value env) μ H fun a H₁ => EvG W A env (fun v => v) (evalPart lower env) μ H₁ fun vl H₂ => EvG W A env (fun v => v) (evalPart upper env) μ H₂ fun vu H₃ =>
      ∃ l vs lo hi, a = .ref l ∧ W.h0.IsList l vs ∧ vs.size ≤ 1000000 ∧ IsPart vl lo ∧ IsPart vu hi ∧ (slicePick vs lo hi none).toList.map ab = xs ∧ ∀ b, H₃ b = none → Q (.ref b) (H₃.set b (.list xs))) :
    Ev W A env (eval (.Subscript value (.Slice lower upper none p) pos) env) μ H Q := by
  refine .mk fun R s r => ?_
  refine Subscript_ (wpAny_mono (h.run R s r) (fun v s₁ ⟨_, r₁, q₁⟩ => wpAny_Slice (wpAny_mono (q₁.run R s₁ r₁) (fun vl s₂ ⟨_, r₂, q₂⟩ => wpAny_mono (q₂.run R s₂ r₂) (fun vu s₃ ⟨_, r₃, q₃⟩ => ?_) fun _ _ x => x) fun _ _ x => x)) fun _ _ x => x)
  obtain ⟨l, vs, lo, hi, e, hl, hn, pl, pu, hp, hq⟩ := q₃
  cases ab_ref e
  have ho : s₃.heap.IsList l vs := let ⟨o, e1, e2⟩ := hl; ⟨o, r₃.repH.keep _ _ e1, e2⟩
  rw [evalPart_none]
  refine wpAny_pure ?_
  have hz0 : vs.size ≤ sizeLine := Nat.le_trans hn (by decide)
  have r₄ := r₃.push0 (o := { cls := .type "slice", data := .fields #[vl, vu, .none] })
  have r₅ := r₄.push (o := { cls := .type "list", data := .seq (slicePick vs lo hi none) }) rfl (x := .list xs) ⟨_, 0, rfl, hp⟩
  have hz := r₄.isNone
  simp only [Heap.size_push] at r₅ hz
  have hL := ho.push { cls := .type "slice", data := .fields #[vl, vu, .none] }
  have hT := Heap.IsList.typeIs (s := { s₃ with heap := s₃.heap.push { cls := .type "slice", data := .fields #[vl, vu, .none] } }) hL
  unfold subscriptTail
  refine wpAny_bind ?_
  rw [getitemInPython_of_ne hT.not_modules]
  refine wpAny_bind (wpAny_specialOf hT list_getitem_lookup ?_)
  have fin : wpAny W.M A (operate [.ref s₃.heap.objs.size, .ref l] (getItem (.ref l) (.ref s₃.heap.objs.size))) (fun r s₄ => wpAny W.M A (letTemporaryGo value (.ref l) r >>= fun _ => pure r) (fun v s' => ∃ H', Rep W env R μ H' s' ∧ Q (ab v) H') (fun _ _ => False) s₄) (fun _ _ => False)
      { s₃ with heap := s₃.heap.push { cls := .type "slice", data := .fields #[vl, vu, .none] } } := by
    refine wpAny_operating (wpAny_getItem_list_slice hL (Heap.IsSliceOf.new ..) pl pu .none (by simp) ?_ hz0)
    rw [Heap.size_push]
    exact wpAny_bind (wpAny_letTemporaryGo (wpAny_pure ⟨_, r₅, hq _ hz⟩))
  first
    | exact wpAny_pure (wpAny_bind fin)
    | exact wpAny_bind (wpAny_pure (wpAny_bind fin))
    | exact wpAny_bind fin

theorem RowsAt.mono {H H' : AH} (k : Keep [] H H') {x : AV} {rs : List (List RC)} (h : RowsAt H x rs) : RowsAt H' x rs :=
  let ⟨l, xs, e, h, f⟩ := h; ⟨l, xs, e, k.at h, f.mono fun _ _ => RowAt.mono k⟩
theorem Wd.moved {H' : AH} {D sc s c r m s' c' r' : Addr} {G : Gr} {L O : List Addr} {mine : List AV} {b : Int} (w : Wd H D sc s c r m G L mine b) (k : Keep [c] H H') (S : StoreAt H' s' c' G O) (hr : H' r' = some (.list (mine.map (eS (off G O))))) (x : Exact G mine O)
    (f1 : H c' = none) (f2 : H r' = none) (f3 : c' ≠ r') : Wd H' D sc s' c' r' m G O mine b ∧ O.length ≤ L.length := by
  have ne := w.ne
  have sub : ∀ l ∈ O, l ∈ L := fun l hl => (x.sub l hl).mem w.st.2 w.it
  obtain ⟨ns, n, g1, g2, _⟩ := w.dk
  refine ⟨⟨w.dk.keep k (by simpa using ne.n2) (by simpa using ne.n6), S, fun l hl => k.at (w.ow l (sub l hl)) (by simp; rintro rfl; exact ne.a3 (sub _ hl)), hr, k.at w.hm (by simpa using Ne.symm ne.a2), x.item w.st.2 w.it, w.m4, ?_⟩, nodup_le x.nd sub⟩
  exact Ne5.nd ⟨ne.n1, some_ne g1 f1, some_ne g1 f2, ne.n4, fun h => ne.n5 (sub _ h), some_ne g2 f1, some_ne g2 f2, ne.n8, fun h => ne.n9 (sub _ h), f3, Ne.symm (some_ne w.hm f1),
    fun h => some_ne (w.ow _ (sub _ h)) f1 rfl, Ne.symm (some_ne w.hm f2), fun h => some_ne (w.ow _ (sub _ h)) f2 rfl, fun h => ne.a6 (sub _ h), x.nd⟩

theorem c_law (k : PK W) (a : AOk A (n + 12)) {sl : Addr} {vs : Array Value} {ns : List Int} (hs : W.h0.IsList sl vs) (hi : vs.toList.map ab = iL ns) (h63 : ns.length ≤ 63) (q : ∀ H', Q (.bool true) H') : Cal W A (.ref 345) [.ref sl] H Q := by
  refine Cal_K1 (x := "script") k a (by k_is) (by k_is) fun M A' a' => ?_
  have hvz : vs.size = ns.length := by have := congrArg List.length hi; simpa using this
  refine Ex_cons <| Ex_assign <| Ev_list <| Evs_cons <| Ev_comp (cl := []) (μc := []) a'.h ⟨rfl, by simp, by simp, by decide, rfl, by decide⟩
    (Ev_slice0 (iL ns) <| Ev_name rfl <| part_none <| part_some <| Ev_int ⟨63, rfl, fun t1 => ⟨sl, vs, _, _, rfl, hs, by omega, .none, .int _ _, ?_, fun b hb => ?_⟩⟩)
  · rw [pick_upto (by decide) hi, List.take_of_length_le (by simp; omega)]
  have hbb : (H.set b (.list (iL ns))) b = some (.list (iL ns)) := AH.set_self ..
  generalize H.set b (.list (iL ns)) = H1 at hbb
  have hsz : (Src.list b (iL ns)).items.length = ns.length := by simp [Src.items]
  refine ⟨.list b (iL ns), rfl, hbb, by rw [hsz]; omega, fun i ys H' => H' = H1 ∧ ys = iL ((ns.take i).map fun x => (x.natAbs : Int)), ⟨rfl, by simp⟩, ⟨?_, ?_⟩, ?_⟩
  · rintro i ys H' ⟨rfl, _⟩; exact hbb
  · rintro C i z ys H' hz ⟨rfl, rfl⟩
    have hz : (iL ns)[i]? = some z := hz
    rw [List.getElem?_map] at hz
    obtain ⟨x, hx, rfl⟩ := Option.map_eq_some_iff.mp hz
    refine tests_nil ⟨fun _ => ?_, fun e => by cases e⟩
    refine Ev_cb k (by k_is) rfl <| Evs_cons <| Ev_name rfl <| Evs_nil <| call_abs ⟨rfl, ?_⟩
    have htk : ns.take (i + 1) = ns.take i ++ [x] := by rw [List.take_add_one, hx]; rfl
    rw [htk]; simp
  rintro ys H' ⟨rfl, rfl⟩ sc hsc
  rw [hsz, List.take_length]
  have hscc : (H'.set sc (.list (iL (ns.map fun x => (x.natAbs : Int))))) sc = some (.list (iL (ns.map fun x => (x.natAbs : Int)))) := AH.set_self ..
  generalize H'.set sc (.list (iL (ns.map fun x => (x.natAbs : Int)))) = H2 at hscc ⊢
  refine Evs_cons <| Ev_int <| Evs_nil ⟨by simp, fun D hD => ?_⟩
  have scD := some_ne hscc hD
  have kD : Keep [] H2 (H2.set D (.list [.ref sc, .int 0])) := Keep.new hD
  have dk : IsDeck (H2.set D (.list [.ref sc, .int 0])) D sc 0 := ⟨_, 0, AH.set_self .., kD.at hscc, Ne.symm scD, by decide, by decide, by simp; omega⟩
  generalize H2.set D (.list [.ref sc, .int 0]) = H3 at dk ⊢
  refine Ex_cons <| Ex_assignSwap a'.h (names := [Str.ofString "store", Str.ofString "roots", Str.ofString "mine"]) (Ev_tuple <| Evs_cons <| Ev_cf k (by k_is) (by k_is) <| Evs_cons <| Ev_int <| Evs_nil <| c_newHeap k a' fun s c H4 k4 hh4 hc4 => ?_)
  refine Evs_cons <| Ev_list <| Evs_cons <| E_EMPTY_LIST k <| Evs_cons <| E_EMPTY_LIST k <| Evs_cons <| E_fix k a' <| Ev_int ⟨_, rfl, Evs_cons <| E_fix k a' <| Ev_neg <| Ev_int ⟨_, rfl, _, rfl, Evs_nil ⟨by simp, fun r hr => ?_⟩⟩⟩
  have k5 : Keep [] H4 (H4.set r (.list [.int 20, .int 20, .int (7 * 8 + 0), .int (-1 * 8 + 0)])) := Keep.new hr
  have hr5 : (H4.set r (.list [.int 20, .int 20, .int (7 * 8 + 0), .int (-1 * 8 + 0)])) r = some (.list [.int 20, .int 20, .int (7 * 8 + 0), .int (-1 * 8 + 0)]) := AH.set_self ..
  generalize H4.set r (.list [.int 20, .int 20, .int (7 * 8 + 0), .int (-1 * 8 + 0)]) = H5 at k5 hr5 ⊢
  refine Evs_cons <| Ev_list <| Evs_cons <| E_EMPTY_LIST k <| Evs_cons <| E_EMPTY_LIST k <| Evs_cons <| E_fix k a' <| Ev_int ⟨_, rfl, Evs_cons <| E_fix k a' <| Ev_neg <| Ev_int ⟨_, rfl, _, rfl, Evs_nil ⟨by simp, fun m hm => ?_⟩⟩⟩
  have k6 : Keep [] H5 (H5.set m (.list [.int 20, .int 20, .int (7 * 8 + 0), .int (-1 * 8 + 0)])) := Keep.new hm
  have hm6 : (H5.set m (.list [.int 20, .int 20, .int (7 * 8 + 0), .int (-1 * 8 + 0)])) m = some (.list [.int 20, .int 20, .int (7 * 8 + 0), .int (-1 * 8 + 0)]) := AH.set_self ..
  generalize H5.set m (.list [.int 20, .int 20, .int (7 * 8 + 0), .int (-1 * 8 + 0)]) = H6 at k6 hm6 ⊢
  refine Evs_nil ⟨by simp, fun tt htt => ⟨tt, _, rfl, AH.set_self .., rfl, as_cons fun v hv => bind_name <| as_cons fun v2 hv2 => bind_name <| as_cons fun v3 hv3 => bind_name <| as_nil ?_⟩⟩
  rw [hv, hv2, hv3]
  have wd0 : Wd H6 D sc s c r m ⟨fun _ => 0, fun _ => []⟩ [] [.int 20, .int 20, .int (7 * 8 + 0), .int (-1 * 8 + 0)] 0 := by
    have hh6 := (hh4.keep k5).keep k6
    obtain ⟨xs, nn, g1, g2, g3, g4, g5, g6⟩ := dk
    have kk := (k4.trans k5).trans k6
    refine ⟨⟨xs, nn, kk.at g1, kk.at g2, g3, g4, g5, g6⟩, ⟨hh6, ⟨by simp, by simp, by simp⟩⟩, (by intro l hl; cases hl), k6.at hr5, hm6, ?_, rfl, ?_⟩
    · intro x hx
      simp only [List.mem_cons, List.not_mem_nil, or_false] at hx
      rcases hx with rfl | rfl | rfl | rfl
      · exact .inl ⟨_, rfl, by decide, by decide, by decide⟩
      · exact .inl ⟨_, rfl, by decide, by decide, by decide⟩
      · exact .inl ⟨_, rfl, by decide, by decide, by decide⟩
      · exact .inl ⟨_, rfl, by decide, by decide, by decide⟩
    · have gD := k4.at g1
      have gS := k4.at g2
      exact Ne5.nd ⟨g3, some_ne g1 hc4, some_ne gD hr, some_ne (k5.at gD) hm, by simp, some_ne g2 hc4, some_ne gS hr, some_ne (k5.at gS) hm, by simp, some_ne hh4.2.1 hr, some_ne (k5.at hh4.2.1) hm, by simp, some_ne hr5 hm, by simp, by simp, by simp⟩
  have wd1 := wd0.keep (Keep.new (o := .tup [.ref s, .ref r, .ref m]) htt)
  generalize H6.set tt (.tup [.ref s, .ref r, .ref m]) = H7 at wd1 ⊢
  refine Ex_cons <| Ex_forQ a'.h <| E_range1 k <| Ev_add <| Ev_int <| Ev_cf k (by k_is) (by k_is) <| Evs_cons <| Ev_name rfl <| Evs_cons <| Ev_int <| Evs_nil <| c_draw k a' wd1.dk (by omega) (by decide) fun laps H8 l0 l1 k8 d8 => ⟨_, _, rfl, rfl, _, rfl, fun rd hrd => ?_⟩
  have wd2 := (wd1.draw k8 d8).keep (Keep.new (o := .range 0 (4 + laps)) hrd)
  have hrr : (H8.set rd (.range 0 (4 + laps))) rd = some (.range 0 (4 + laps)) := AH.set_self ..
  generalize H8.set rd (.range 0 (4 + laps)) = H9 at wd2 hrr ⊢
  have hrz : (Src.range rd 0 (4 + laps)).items.length = (4 + laps).toNat := by simp [Src.items]
  refine ⟨.range rd 0 (4 + laps), rfl, ⟨hrr, by omega, by omega, by omega, by omega⟩, fun i ν H' => ∃ s c r m G L mine, ν = [(Str.ofString "deck", .ref D), (Str.ofString "store", .ref s), (Str.ofString "roots", .ref r), (Str.ofString "mine", .ref m)] ∧ Wd H' D sc s c r m G L mine (1 + 50 * i) ∧ L.length ≤ i,
    ⟨_, le_cons rfl <| le_cons rfl <| le_cons rfl <| le_cons rfl le_nil, s, c, r, m, _, _, _, rfl, wd2.le (by omega), by simp⟩, fun _ _ _ _ => trivial, ?_, ?_⟩
  · clear wd0 wd1 wd2 hrr hrd
    rintro i z ν H10 hz ⟨s, c, r, m, G, L, mine, rfl, w, hL⟩ Q9 hN _
    have hi : i < (4 + laps).toNat := by
      have := (List.getElem?_eq_some_iff.mp hz).1
      rw [hrz] at this; exact this
    refine Ex_cons <| Ex_assign <| Ev_cf k (by k_is) (by k_is) <| Evs_cons <| Ev_name rfl <| Evs_cons <| Ev_int <| Evs_nil <| c_draw k a' w.dk (by omega) (by decide) fun way H11 w0 w1 k11 d11 => ?_
    have w := w.draw k11 d11
    refine Ex_consN (fun ν H' => ∃ s c r m G L mine, ν = [(Str.ofString "deck", .ref D), (Str.ofString "store", .ref s), (Str.ofString "roots", .ref r), (Str.ofString "mine", .ref m)] ∧ Wd H' D sc s c r m G L mine (1 + 50 * i + 40) ∧ L.length ≤ i + 1) ?_ ?_
    · refine Ex_if <| Evb_cmp <| Ev_name rfl <| Ev_int <| cmp_lt ⟨fun e => ?_, fun e => ?_⟩
      · refine Ex_cons <| Ex_expr <| Ev_cf k (by k_is) (by k_is) <| Evs_cons <| Ev_name rfl <| Evs_cons <| Ev_name rfl <| Evs_cons <| Ev_name rfl <| Evs_cons <| Ev_name rfl <| Evs_nil <| c_mutated k a' w (by omega) (by omega) fun H12 G' L' mine' w' hL' => Ex_nil ?_
        exact ⟨_, le_cons rfl <| le_cons rfl <| le_cons rfl <| le_cons rfl le_nil, s, c, r, m, G', L', mine', rfl, w'.le (by omega), by omega⟩
      · have hc4 := cellsA_4 w.st.2
        refine Ex_consN (fun ν H' => ∃ s c r G L mine, ν = [(Str.ofString "deck", .ref D), (Str.ofString "store", .ref s), (Str.ofString "roots", .ref r), (Str.ofString "mine", .ref m), (Str.ofString "way", .int way)] ∧ Wd H' D sc s c r m G L mine (1 + 50 * i + 40) ∧ L.length ≤ i + 1 ∧ Exact G mine L) ?_ ?_
        · refine Ex_assignTup a'.h <| Ev_if <| Evb_cmp <| Ev_name rfl <| Ev_int <| cmp_eq ⟨fun _ => ?_, fun _ => ?_⟩
          · refine Ev_cf k (by k_is) (by k_is) <| Evs_cons <| Ev_name rfl <| Evs_cons <| Ev_name rfl <| Evs_nil <| c_collect k a' w.st w.hr w.it (by rw [w.m4]; omega) (by omega) (Ne.symm w.ne.a1) fun t s' c' r' O H12 k12 ht hst hr' ex f1 f2 f3 => ?_
            obtain ⟨w', hO⟩ := w.moved k12 hst hr' ex f1 f2 f3
            refine ⟨t, _, rfl, ht, rfl, as_cons fun v hv => to_name <| as_cons fun u hu => to_name <| as_nil ?_⟩
            rw [hv, hu]
            exact ⟨_, le_cons rfl <| le_cons rfl <| le_cons rfl <| le_cons rfl <| le_cons rfl le_nil, s', c', r', G, O, mine, rfl, w'.le (by omega), by omega, ex⟩
          · refine Ev_cf k (by k_is) (by k_is) <| Evs_cons <| Ev_name rfl <| Evs_cons <| Ev_name rfl <| Evs_nil <| c_slide k a' w.st w.hr w.it (by rw [w.m4]; omega) (by omega) (by omega) fun t s' c' r' O H12 k12 ht hst hr' ex f1 f2 f3 _ => ?_
            obtain ⟨w', hO⟩ := w.moved k12.ext hst hr' ex f1 f2 f3
            refine ⟨t, _, rfl, ht, rfl, as_cons fun v hv => to_name <| as_cons fun u hu => to_name <| as_nil ?_⟩
            rw [hv, hu]
            exact ⟨_, le_cons rfl <| le_cons rfl <| le_cons rfl <| le_cons rfl <| le_cons rfl le_nil, s', c', r', G, O, mine, rfl, w'.le (by omega), by omega, ex⟩
        · clear hc4 d11 k11 hL w e
          rintro ν H12 ⟨s, c, r, G, L, mine, rfl, w, hL, ex⟩
          have hc4 := cellsA_4 w.st.2
          have hwl := walk_len w.st.2 w.it
          have hsz := (seen_exact w.st.2 w.it).size ex
          have hrl := bfs_len (G := G) (mine := mine) (L.length + 1)
          refine Ex_cons <| Ex_if <| Evb_bool <| Evb_or_cons <| Evb_cmp <| Ev_cm0 k (by k_is) (by k_is) (by k_is) rfl <| Ev_name rfl ⟨s, 900, c, rfl, w.st.1.1, c_used k a' w.st.1 <| Ev_cf k (by k_is) (by k_is) <| Evs_cons <| Ev_cf k (by k_is) (by k_is) <| Evs_cons <| Ev_name rfl <| Evs_nil <|
            c_walkOwn k a' w.st.2 w.ow w.hm w.it (by rw [w.m4]; omega) (by omega) fun x1 H13 k13 rows1 => Evs_nil <| c_cells k a' rows1 hwl.1 (by unfold walkRows; omega) (by rw [hwl.2, hsz]; omega) fun H14 k14 => cmp_ne ⟨fun _ => ?_, fun e => ?_⟩⟩
          · have w := (w.keep k13).keep k14
            refine Evb_or_cons <| Evb_cmp <| Ev_cf k (by k_is) (by k_is) <| Evs_cons <| Ev_name rfl <| Evs_nil <| c_heapError k a' w.st fun H15 k15 => Ev_noneC <| cmp_isNotNone nn_none ⟨fun _ => Evb_or_nil ⟨(fun e => by cases e), fun _ => Ex_nil ?_⟩, fun e => by cases e⟩
            have w := w.keep k15
            refine Ex_cons <| Ex_if <| Evb_bool <| Evb_and_cons <| Evb_cmp <| Ev_cells k <| Ev_sub2 <| Ev_cf k (by k_is) (by k_is) <| Evs_cons <| Ev_name rfl <| Evs_cons <| Ev_name rfl <| Evs_nil <| c_slide k a' w.st w.hr w.it (by rw [w.m4]; omega) (by omega) (by omega) fun t s' c' r' O H16 k16 ht hst hr' _ f1 f2 f3 hO => Ev_int ?_
            have w := w.keep k16
            have hO := hO ex
            subst hO
            refine tail_tup ht (by decide) (by decide) rfl ⟨s', 900, c', rfl, hst.1.1, Ev_cells k <| Ev_name rfl ⟨s, 900, c, rfl, w.st.1.1, cmp_neL a'.cl hst.1.2.1 w.st.1.2.1 ⟨fun e => ?_, fun _ => ⟨fun e => (by cases e), fun _ => Ex_nil <| Ex_nil ?_⟩⟩⟩⟩
            · simp at e
            · exact ⟨_, le_cons rfl <| le_cons rfl <| le_cons rfl <| le_cons rfl le_nil, s, c, r, m, G, _, mine, rfl, w, hL⟩
          · exfalso
            rw [hwl.2, hsz, cells_len] at e
            simp at e
    · rintro ν H12 ⟨s, c, r, m, G, L, mine, rfl, w, hL⟩
      refine Ex_cons <| Ex_if <| Evb_cmp <| Ev_cf k (by k_is) (by k_is) <| Evs_cons <| Ev_name rfl <| Evs_cons <| Ev_name rfl <| Evs_nil <| c_walk k a' w.st w.hr w.it (by rw [w.m4]; omega) (by omega) fun x1 H13 k13 rows1 => ?_
      have w := w.keep k13
      refine Ev_cf k (by k_is) (by k_is) <| Evs_cons <| Ev_name rfl <| Evs_nil <| c_walkOwn k a' w.st.2 w.ow w.hm w.it (by rw [w.m4]; omega) (by omega) fun x2 H14 k14 rows2 => ?_
      have w := w.keep k14
      refine cmp_neRows a'.cl (rs := walkRows G L mine) (RowsAt.mono k14 rows1) rows2 ⟨(fun e => by cases e), fun _ => Ex_nil <| Ex_nil ?_⟩
      exact hN _ _ _ (le_cons rfl <| le_cons rfl <| le_cons rfl <| le_cons rfl le_nil) ⟨s, c, r, m, G, L, mine, rfl, w.le (by push_cast; omega), hL⟩
  · rintro ν H10 ⟨s, c, r, m, G, L, mine, rfl, w, hL⟩
    exact Ex_cons <| Ex_ret <| Ev_boolC <| q _
end
end Mine

-- Z1
namespace Mine
theorem law_any {W : Wo} (k : PK W) {sl : Addr} {vs : Array Value} {ns : List Int} (hs : W.h0.IsList sl vs) (hi : vs.toList.map ab = iL ns) (h63 : ns.length ≤ 63) (e0 : W.s0.heap = W.h0) {G : Result → Shared → Prop}
    (h : ∀ h' tk, (∀ b o, W.h0.get? b = some o → h'.get? b = some o) → G (.ok (.ret (.bool true))) { W.s0 with heap := h', toks := tk }) : codeAny W.M callerA (.call (.ref 345) ⟨[.ref sl], []⟩) G W.s0 := by
  have a : AOk callerA (0 + 12) := ⟨rfl, by decide, by decide⟩
  have key := (c_law (Q := fun x _ => x = .bool true) (H := fun _ => none) k a hs hi h63 fun _ => rfl).run (fun _ => none) W.s0 [.ref sl] ⟨W.s0.heap, W.s0.toks, rfl, ⟨by rw [e0]; exact fun _ _ e => e, (fun _ _ e => by cases e), (fun _ _ e => by cases e)⟩⟩ rfl
  refine codeAny_mono key fun r s' hr => ?_
  rcases r with e | (_ | _ | _ | v)
  · exact hr.elim
  · exact hr.elim
  · exact hr.elim
  · exact hr.elim
  · obtain ⟨H', ⟨h', tk, rfl, rep⟩, q⟩ := hr
    rw [ab_bool q]
    exact h h' tk rep.keep

theorem lawHolds : PySem.Challenge.rw_pq1017_01.Holds := hd (by
  k_fill
  intro w s₀ s₁ mg mb G Y fa o pm cd doc dV kV ho hd hcd hD hmg hg args vals as hpre hlay hrd hwl hlo
  have KX := kIn_of Y
  refine Ground.open G ?_
  intro T B D TE TW
  clear G hcd hD ho hd
  wrow_args hpre hlay hrd hwl hlo
  refine enter_call ?_
  have k : PK ⟨PySem.Challenge.rw_pq1017_01.row.prog, w, s₁.heap, s₁, mg, mb⟩ := ⟨⟨T.g, T.b, T.builtins, T.nolimit⟩, KX⟩
  have hfa : mg (PySem.Str.ofString "law") = some (.ref 345) := k.g (by k_is)
  have hmg' : mg (PySem.Str.ofString "law") = some (.ref fa) := hmg
  rw [hfa] at hmg'
  cases hmg'
  refine codeAny_mono ?_ (fun _ _ g => GoodW.toG g)
  have hI' := are_ints ‹IntsAre _ _›
  refine law_any k ‹Heap.IsList _ _ _› (by rw [List.toList_toArray]; exact hI') (by omega) rfl fun h' tk hk => ⟨.inl ⟨_, .bool true, [], rfl, fun _ => rfl, .bool true, postW_of rfl (w_eq_bool (k := true) (l := true) rfl rfl) rfl, fun _ => ⟨by simp, by simp⟩⟩, hk, rfl, hg⟩)
end Mine

theorem PySem.Challenge.cw_pq1017_01_holds : PySem.Challenge.rw_pq1017_01.Holds := by
  exact Mine.lawHolds
