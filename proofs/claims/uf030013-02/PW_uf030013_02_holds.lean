import PyProof.Rows.All
import Wide.All
import OpenK.AllK
import Wide.FinOn
import PySem.Challenge.RW_uf030013_02
open PySem PySem.W PyProof.Rows PySem.Calls PySem.Spec
set_option Elab.async false
set_option linter.unusedVariables false
set_option linter.unusedSectionVars false
namespace Zl

/-- a value as the proof sees it: tuples by what they hold, other objects by their place -/
inductive V where
  | none
  | bool (b : Bool)
  | int (i : Int)
  | str (x : Str)
  | tup (xs : List V)
  | ref (a : Addr)
  | raw (v : Value)

abbrev Gt := Addr → Option Obj

mutual
inductive VR (g : Gt) : Value → V → Prop
  | none : VR g .none .none
  | bool (b : Bool) : VR g (.bool b) (.bool b)
  | int (i : Int) (t : Tok) : VR g (.int i t) (.int i)
  | str (x : Str) (t : Tok) : VR g (.str x t) (.str x)
  | tup {a : Addr} {o : Obj} {vs : List Value} {n : Nat} {xs : List V} : g a = some o → o.cls = .type "tuple" → o.data = .seq vs.toArray n → VRs g vs xs → VR g (.ref a) (.tup xs)
  | ref (a : Addr) : VR g (.ref a) (.ref a)
  | raw (v : Value) : VR g v (.raw v)
inductive VRs (g : Gt) : List Value → List V → Prop
  | nil : VRs g [] []
  | cons {v : Value} {vs : List Value} {x : V} {xs : List V} : VR g v x → VRs g vs xs → VRs g (v :: vs) (x :: xs)
end

/-- tuples stay -/
abbrev TupKeep (g g' : Gt) : Prop := ∀ (a : Addr) (o : Obj) (vs : Array Value) (n : Nat), g a = some o → o.cls = .type "tuple" → o.data = .seq vs n → g' a = some o

mutual
theorem VR.mono {g g' : Gt} (h : TupKeep g g') : ∀ {v : Value} {x : V}, VR g v x → VR g' v x
  | _, _, .none => .none
  | _, _, .bool b => .bool b
  | _, _, .int i t => .int i t
  | _, _, .str x t => .str x t
  | _, _, .tup e c d r => .tup (h _ _ _ _ e c d) c d (VRs.mono h r)
  | _, _, .ref a => .ref a
  | _, _, .raw v => .raw v
theorem VRs.mono {g g' : Gt} (h : TupKeep g g') : ∀ {vs : List Value} {xs : List V}, VRs g vs xs → VRs g' vs xs
  | _, _, .nil => .nil
  | _, _, .cons a r => .cons (VR.mono h a) (VRs.mono h r)
end

theorem VRs.length {g : Gt} : ∀ {vs : List Value} {xs : List V}, VRs g vs xs → vs.length = xs.length
  | _, _, .nil => rfl
  | _, _, .cons _ r => by rw [List.length_cons, List.length_cons, VRs.length r]
theorem VRs.append {g : Gt} : ∀ {vs ws : List Value} {xs ys : List V}, VRs g vs xs → VRs g ws ys → VRs g (vs ++ ws) (xs ++ ys)
  | _, _, _, _, .nil, k => k
  | _, _, _, _, .cons a r, k => .cons a (VRs.append r k)
theorem VRs.get {g : Gt} : ∀ {vs : List Value} {xs : List V} {i : Nat} {x : V}, VRs g vs xs → xs[i]? = some x → ∃ v, vs[i]? = some v ∧ VR g v x
  | _, _, i, x, .nil, e => by simp at e
  | _, _, 0, x, .cons a r, e => by simp at e; subst e; exact ⟨_, rfl, a⟩
  | _, _, i + 1, x, .cons a r, e => by simp at e; simpa using VRs.get r e
theorem VRs.get' {g : Gt} : ∀ {vs : List Value} {xs : List V} {i : Nat} {v : Value}, VRs g vs xs → vs[i]? = some v → ∃ x, xs[i]? = some x ∧ VR g v x
  | _, _, i, x, .nil, e => by simp at e
  | _, _, 0, x, .cons a r, e => by simp at e; subst e; exact ⟨_, rfl, a⟩
  | _, _, i + 1, x, .cons a r, e => by simp at e; simpa using VRs.get' r e

/-- an object as the proof sees it -/
inductive PO where
  | list (xs : List V)
  | inst (C d : Addr) (fs : List (Str × V))
  | sdict (es : List (Str × V))
  | idict (es : List (Int × V))
  | cell (v : Option V)

abbrev Store := Addr → Option PO
abbrev Loc := Str → Option V

def Store.set (σ : Store) (a : Addr) (o : PO) : Store := fun b => if b = a then some o else σ b
def Loc.set (m : Loc) (x : Str) (v : V) : Loc := fun y => if y = x then some v else m y

theorem Store.set_self (σ : Store) (a : Addr) (o : PO) : σ.set a o a = some o := if_pos rfl
theorem Store.set_ne (σ : Store) {a b : Addr} (o : PO) (h : b ≠ a) : σ.set a o b = σ b := if_neg h
theorem Loc.set_self (m : Loc) (x : Str) (v : V) : m.set x v x = some v := if_pos rfl
theorem Loc.set_ne (m : Loc) {x y : Str} (v : V) (h : y ≠ x) : m.set x v y = m y := if_neg h

/-- fields of an instance: the entries of its dict, in order -/
inductive FRel (g : Gt) : List DictEntry → List (Str × V) → Prop
  | nil : FRel g [] []
  | cons {hs : Int} {t : Tok} {v : Value} {x : V} {name : Str} {es : List DictEntry} {fs : List (Str × V)} : VR g v x → FRel g es fs → FRel g (⟨hs, .str name t, v⟩ :: es) ((name, x) :: fs)

theorem FRel.mono {g g' : Gt} (h : TupKeep g g') {es : List DictEntry} {fs : List (Str × V)} (k : FRel g es fs) : FRel g' es fs := by
  induction k with
  | nil => exact .nil
  | cons a _ ih => exact .cons (a.mono h) ih
theorem FRel.length {g : Gt} {es : List DictEntry} {fs : List (Str × V)} (k : FRel g es fs) : es.length = fs.length := by
  induction k with
  | nil => rfl
  | cons _ _ ih => simp [ih]
theorem FRel.noRef {g : Gt} {es : List DictEntry} {fs : List (Str × V)} (k : FRel g es fs) : es.any (·.refKey) = false := by
  induction k with
  | nil => rfl
  | cons _ _ ih => rw [List.any_cons, ih]; rfl

def getF (name : Str) : List (Str × V) → Option V
  | [] => none
  | (n, x) :: r => if n = name then some x else getF name r
def putF (name : Str) (x : V) : List (Str × V) → List (Str × V)
  | [] => [(name, x)]
  | (n, y) :: r => if n = name then (n, x) :: r else (n, y) :: putF name x r

theorem FRel.get {g : Gt} {name : Str} {x : V} {es : List DictEntry} {fs : List (Str × V)} (k : FRel g es fs) (e : getF name fs = some x) : ∃ v, getL name es = some (some v) ∧ VR g v x := by
  unfold getL
  induction k with
  | nil => cases e
  | cons a r ih =>
    rename_i hs t v y n es fs
    unfold getF at e
    by_cases h : n = name
    · subst h
      simp only [if_true] at e; cases e
      rw [List.find?_cons_of_pos (by show (n == n) = true; simp)]
      exact ⟨v, rfl, a⟩
    · simp only [if_neg h] at e
      have : (n == name) = false := beq_eq_false_iff_ne.mpr h
      rw [List.find?_cons_of_neg (by show ¬ (n == name) = true; simp [this])]
      obtain ⟨v', h1, h2⟩ := ih e
      refine ⟨v', ?_, h2⟩
      split at h1
      · exact h1
      · split at h1 <;> cases h1
theorem FRel.miss {g : Gt} {name : Str} {es : List DictEntry} {fs : List (Str × V)} (k : FRel g es fs) (e : getF name fs = none) : getL name es = some none := by
  have hr := k.noRef
  unfold getL
  rw [hr]
  have : es.find? (fun en => en.key.isStr name) = none := by
    induction k with
    | nil => rfl
    | cons a r ih =>
      rename_i hs t v y n es fs
      unfold getF at e
      by_cases h : n = name
      · simp [h] at e
      · simp only [if_neg h] at e
        have : (n == name) = false := beq_eq_false_iff_ne.mpr h
        rw [List.find?_cons_of_neg (by show ¬ (n == name) = true; simp [this])]
        exact ih e r.noRef
  rw [this]; rfl
theorem FRel.put {g : Gt} {name : Str} {x : V} {v : Value} {hs : Int} {t : Tok} {es : List DictEntry} {fs : List (Str × V)} (k : FRel g es fs) (h : VR g v x) : FRel g (putL name hs (.str name t) v es) (putF name x fs) := by
  induction k with
  | nil => exact .cons h .nil
  | cons a r ih =>
    rename_i hs' t' v' y n es fs
    unfold putL putF
    by_cases q : n = name
    · subst q
      simp only [Value.isStr, BEq.rfl, if_true]
      exact .cons h r
    · have : (n == name) = false := beq_eq_false_iff_ne.mpr q
      simp only [Value.isStr, this, Bool.false_eq_true, if_false, if_neg q]
      exact .cons a ih

end Zl
namespace Zl

/-- what stands still during the whole call -/
structure Cx where
  prog : Program
  w : World
  K : Frag
  hT : Heap
  sh : Shared
  p : Program
  loose : List Str
  mean : ExcName → Option Value
  mg : Str → Option Value
  mb : Str → Option Value

abbrev Cx.M (X : Cx) : Model := model X.prog X.w

structure Cx.Ok (X : Cx) : Prop where
  kin : X.K.In X.hT
  top : Top X.p X.loose X.mean X.mg X.mb X.hT

inductive KVs {κ : Type} (g : Gt) : List (κ × Value) → List (κ × V) → Prop
  | nil : KVs g [] []
  | cons {k : κ} {v : Value} {x : V} {vs : List (κ × Value)} {xs : List (κ × V)} : VR g v x → KVs g vs xs → KVs g ((k, v) :: vs) ((k, x) :: xs)

theorem KVs.mono {κ : Type} {g g' : Gt} (h : TupKeep g g') {vs : List (κ × Value)} {xs : List (κ × V)} (k : KVs g vs xs) : KVs g' vs xs := by
  induction k with
  | nil => exact .nil
  | cons a _ ih => exact .cons (a.mono h) ih

def OAt (X : Cx) (h : Heap) (a : Addr) : PO → Prop
  | .list xs => ∃ vs, h.PlainList a vs ∧ VRs h.get? vs.toList xs
  | .inst C d fs => h.get? a = some (instObj C d) ∧ ∃ es n, h.get? d = some (dictOf es n) ∧ FRel h.get? es fs
  | .sdict es => ∃ kvs, h.DictOf (strKind X.prog X.w) a kvs ∧ KVs h.get? kvs es
  | .idict es => ∃ kvs, h.DictOf (intKind X.prog X.w) a kvs ∧ KVs h.get? kvs es
  | .cell v => ∃ u, h.IsCell a u ∧ match u, v with | some u, some v => VR h.get? u v | Option.none, Option.none => True | _, _ => False

/-- the places that the store owns -/
def Own (σ : Store) (a : Addr) : Prop := (∃ o, σ a = some o) ∨ ∃ x C fs, σ x = some (.inst C a fs)

structure WF (σ : Store) : Prop where
  apart : ∀ x C d fs, σ x = some (.inst C d fs) → σ d = none
  once : ∀ x C d fs x' C' fs', σ x = some (.inst C d fs) → σ x' = some (.inst C' d fs') → x = x'

/-- what stands around: objects that stay, frames that stay but for their slots, the frames in order -/
structure Bs where
  b : Gt
  d : Addr → Option Data
  frs : List Env

structure Rel (X : Cx) (bs : Bs) (L : Addr) (m : Loc) (σ : Store) (s : Shared) : Prop where
  sh : s = { X.sh with heap := s.heap, toks := s.toks }
  top : ∀ a o, X.hT.get? a = some o → bs.b a = some o
  base : ∀ a o, bs.b a = some o → s.heap.get? a = some o
  data : ∀ a d, bs.d a = some d → ∃ o, s.heap.get? a = some o ∧ o.data = d
  loc : ∃ mm, s.heap.Ns L mm ∧ ∀ x v, m x = some v → ∃ u, mm x = some u ∧ VR s.heap.get? u v
  st : ∀ a o, σ a = some o → OAt X s.heap a o
  dL : bs.b L = none ∧ bs.d L = none
  own : ∀ a, Own σ a → bs.b a = none ∧ bs.d a = none ∧ a ≠ L
  wf : WF σ
  frs : ∀ env ∈ bs.frs, env.scope.kind ≠ .module ∧ ∃ F, env.frame = some F ∧ bs.b F = none ∧ (F = L ∨ ∃ d, bs.d F = some d ∧ ∀ vs, d ≠ .fields vs)
  dis : ∀ a o, bs.b a = some o → bs.d a = none
  dseq : ∀ a d, bs.d a = some d → ∀ vs n, d ≠ .seq vs n

/-- the heap grows -/
abbrev Grows (h h' : Heap) : Prop := ∀ b o, h.get? b = some o → h'.get? b = some o

theorem Grows.tup {h h' : Heap} (g : Grows h h') : TupKeep h.get? h'.get? := fun a o _ _ e _ _ => g a o e

theorem OAt.grows {X : Cx} {h h' : Heap} (g : Grows h h') {a : Addr} {o : PO} (k : OAt X h a o) : OAt X h' a o := by
  cases o with
  | list xs => obtain ⟨vs, hl, r⟩ := k; exact ⟨vs, hl.at fun o e => g _ o e, r.mono g.tup⟩
  | inst C d fs => obtain ⟨ha, es, n, hd, hf⟩ := k; exact ⟨g _ _ ha, es, n, g _ _ hd, hf.mono g.tup⟩
  | sdict es => obtain ⟨kvs, hd, r⟩ := k; exact ⟨kvs, hd.keep g, r.mono g.tup⟩
  | idict es => obtain ⟨kvs, hd, r⟩ := k; exact ⟨kvs, hd.keep g, r.mono g.tup⟩
  | cell v =>
    obtain ⟨u, hc, r⟩ := k
    refine ⟨u, hc.keeps g, ?_⟩
    cases u <;> cases v <;> first | exact r | exact VR.mono g.tup r

theorem Rel.grows {X : Cx} {bs : Bs} {L : Addr} {m : Loc} {σ : Store} {s : Shared} (r : Rel X bs L m σ s) {h' : Heap} (g : Grows s.heap h') (tk : Nat) : Rel X bs L m σ { s with heap := h', toks := tk } := by
  obtain ⟨sh, top, base, data, ⟨mm, hn, hm⟩, st, dL, own, wf, frs, dis, dseq⟩ := r
  refine ⟨?_, top, fun a o e => g _ _ (base a o e), fun a d e => ?_, ⟨mm, hn.keeps g, fun x v e => ?_⟩, fun a o e => (st a o e).grows g, dL, own, wf, frs, dis, dseq⟩
  · rw [sh]
  · obtain ⟨o, ho, hd⟩ := data a d e; exact ⟨o, g _ _ ho, hd⟩
  · obtain ⟨u, hu, hv⟩ := hm x v e; exact ⟨u, hu, hv.mono g.tup⟩

theorem Rel.tok {X : Cx} {bs : Bs} {L : Addr} {m : Loc} {σ : Store} {s : Shared} (r : Rel X bs L m σ s) (tk : Nat) : Rel X bs L m σ { s with toks := tk } := r.grows (fun _ _ e => e) tk

end Zl
namespace Zl
section
variable {X : Cx} {bs : Bs} {L : Addr} {m : Loc} {σ : Store} {s : Shared}

def dictOf? : PO → Option Addr
  | .inst _ d _ => some d
  | _ => none

theorem own_set {a : Addr} {po po' : PO} (ha : σ a = some po) (hd : dictOf? po' = dictOf? po) {b : Addr} (h : Own (σ.set a po') b) : Own σ b := by
  rcases h with ⟨o, e⟩ | ⟨x, C, fs, e⟩
  · by_cases hb : b = a
    · subst hb; exact .inl ⟨_, ha⟩
    · rw [Store.set_ne _ _ hb] at e; exact .inl ⟨_, e⟩
  · by_cases hx : x = a
    · subst hx
      rw [Store.set_self] at e; cases e
      cases po with
      | inst C' d' fs' => simp only [dictOf?, Option.some.injEq] at hd; subst hd; exact .inr ⟨_, _, _, ha⟩
      | _ => simp [dictOf?] at hd
    · rw [Store.set_ne _ _ hx] at e; exact .inr ⟨_, _, _, e⟩

theorem wf_set (wf : WF σ) {a : Addr} {po po' : PO} (ha : σ a = some po) (hd : dictOf? po' = dictOf? po) : WF (σ.set a po') := by
  have back : ∀ x C d fs, σ.set a po' x = some (.inst C d fs) → ∃ C' fs', σ x = some (.inst C' d fs') := by
    intro x C d fs e
    by_cases hx : x = a
    · subst hx
      rw [Store.set_self] at e; cases e
      cases po with
      | inst C' d' fs' => simp only [dictOf?, Option.some.injEq] at hd; subst hd; exact ⟨_, _, ha⟩
      | _ => simp [dictOf?] at hd
    · rw [Store.set_ne _ _ hx] at e; exact ⟨_, _, e⟩
  refine ⟨fun x C d fs e => ?_, fun x C d fs x' C' fs' e e' => ?_⟩
  · obtain ⟨C', fs', e'⟩ := back x C d fs e
    have h1 := wf.apart _ _ _ _ e'
    have hda : d ≠ a := fun q => by rw [q, ha] at h1; cases h1
    rw [Store.set_ne _ _ hda]; exact h1
  · obtain ⟨_, _, e1⟩ := back _ _ _ _ e
    obtain ⟨_, _, e2⟩ := back _ _ _ _ e'
    exact wf.once _ _ _ _ _ _ _ e1 e2

/-- the one place that a change of the object at a may touch -/
def Site (a c : Addr) (po : PO) : Prop := match po with
  | .inst _ d _ => c = d
  | _ => c = a

theorem tup_sameBut {h h' : Heap} {c : Addr} (hs : Heap.SameBut c h h') (hn : ∀ o vs n, h.get? c = some o → o.cls = .type "tuple" → o.data = .seq vs n → False) : TupKeep h.get? h'.get? :=
  fun a o vs n e h1 h2 => by
    by_cases hc : a = c
    · subst hc; exact (hn o vs n e h1 h2).elim
    · exact (hs.2 a hc).trans e

theorem OAt.site_not {h : Heap} {a c : Addr} {po : PO} (k : OAt X h a po) (hc : Site a c po) : ∀ o vs n, h.get? c = some o → o.cls = .type "tuple" → o.data = .seq vs n → False := by
  intro o vs n e h1 h2
  cases po with
  | list xs => cases hc; obtain ⟨_, hp, _⟩ := k; obtain ⟨o', ho, hcl, _⟩ := hp.isList; rw [e] at ho; cases ho; rw [h1] at hcl; simp at hcl
  | inst C d fs => cases hc; obtain ⟨_, es, n', hd, _⟩ := k; rw [e] at hd; cases hd; cases h2
  | sdict es => cases hc; obtain ⟨_, ⟨o', es', ep, ho, hx, hd, _⟩, _⟩ := k; rw [e] at ho; cases ho; rw [h2] at hd; cases hd
  | idict es => cases hc; obtain ⟨_, ⟨o', es', ep, ho, hx, hd, _⟩, _⟩ := k; rw [e] at ho; cases ho; rw [h2] at hd; cases hd
  | cell v => cases hc; obtain ⟨u, ⟨o', ho, hd⟩, _⟩ := k; rw [e] at ho; cases ho; rw [h2] at hd; cases hd

/-- an object of the ledger is untouched where another one changes -/
theorem OAt.other {h h' : Heap} {a c : Addr} {po : PO} (k : OAt X h a po) (hs : Heap.SameBut c h h') (ht : TupKeep h.get? h'.get?) (h1 : a ≠ c) (h2 : ∀ C d fs, po = .inst C d fs → d ≠ c) : OAt X h' a po := by
  cases po with
  | list xs => obtain ⟨vs, ⟨n, ho⟩, q⟩ := k; exact ⟨vs, ⟨n, (hs.2 a h1).trans ho⟩, q.mono ht⟩
  | inst C d fs =>
    obtain ⟨ha, es, n, hd, hf⟩ := k
    have hdc := h2 _ _ _ rfl
    exact ⟨(hs.2 a h1).trans ha, es, n, (hs.2 d hdc).trans hd, hf.mono ht⟩
  | sdict es => obtain ⟨kvs, ⟨o, es', ep, ho, r⟩, q⟩ := k; exact ⟨kvs, ⟨o, es', ep, (hs.2 a h1).trans ho, r⟩, q.mono ht⟩
  | idict es => obtain ⟨kvs, ⟨o, es', ep, ho, r⟩, q⟩ := k; exact ⟨kvs, ⟨o, es', ep, (hs.2 a h1).trans ho, r⟩, q.mono ht⟩
  | cell v =>
    obtain ⟨u, ⟨o, ho, hd⟩, q⟩ := k
    refine ⟨u, ⟨o, (hs.2 a h1).trans ho, hd⟩, ?_⟩
    cases u <;> cases v <;> first | exact q | exact VR.mono ht q

theorem Rel.ht (r : Rel X bs L m σ s) {a c : Addr} {po : PO} {h' : Heap} (ha : σ a = some po) (hc : Site a c po) (hs : Heap.SameBut c s.heap h') : TupKeep s.heap.get? h'.get? :=
  tup_sameBut hs ((r.st a po ha).site_not hc)

theorem site_own {a c : Addr} {po : PO} (ha : σ a = some po) (hc : Site a c po) : Own σ c := by
  cases po with
  | inst C d fs => cases hc; exact .inr ⟨_, _, _, ha⟩
  | _ => cases hc; exact .inl ⟨_, ha⟩

theorem Rel.upd (r : Rel X bs L m σ s) {a c : Addr} {po po' : PO} {h' : Heap} (ha : σ a = some po) (hc : Site a c po) (hd : dictOf? po' = dictOf? po) (hs : Heap.SameBut c s.heap h') (ho : OAt X h' a po') (tk : Nat) :
    Rel X bs L m (σ.set a po') { s with heap := h', toks := tk } := by
  have ht := r.ht ha hc hs
  obtain ⟨sh, top, base, data, ⟨mm, hn, hm⟩, st, dL, own, wf, frs, dis, dseq⟩ := r
  have hoc := own c (site_own ha hc)
  refine ⟨?_, top, fun b o e => ?_, fun b d e => ?_, ⟨mm, hn.sameBut hs (Ne.symm hoc.2.2), fun x v e => ?_⟩, fun b o e => ?_, dL, fun b hb => own b (own_set ha hd hb), wf_set wf ha hd, frs, dis, dseq⟩
  · rw [sh]
  · refine (hs.2 b fun q => ?_).trans (base b o e)
    rw [q, hoc.1] at e; cases e
  · obtain ⟨o, ho', hd'⟩ := data b d e
    refine ⟨o, (hs.2 b fun q => ?_).trans ho', hd'⟩
    rw [q, hoc.2.1] at e; cases e
  · obtain ⟨u, hu, hv⟩ := hm x v e; exact ⟨u, hu, hv.mono ht⟩
  · by_cases hb : b = a
    · subst hb; rw [Store.set_self] at e; cases e; exact ho
    · rw [Store.set_ne _ _ hb] at e
      refine (st b o e).other hs ht ?_ ?_
      · rintro rfl
        cases po with
        | inst C d fs => cases hc; rw [wf.apart _ _ _ _ ha] at e; cases e
        | _ => exact hb hc
      · rintro C d fs rfl rfl
        cases po with
        | inst C' d' fs' => cases hc; exact hb (wf.once _ _ _ _ _ _ _ e ha)
        | _ => cases hc; rw [wf.apart _ _ _ _ e] at ha; cases ha

/-- a place where nothing stands yet -/
def Fresh (σ : Store) (a : Addr) : Prop := ¬ Own σ a
theorem Fresh.none {a : Addr} (h : Fresh σ a) : σ a = none := by
  cases e : σ a with
  | none => rfl
  | some o => exact (h (.inl ⟨o, e⟩)).elim
theorem Fresh.ne {a b : Addr} {o : PO} (h : Fresh σ a) (e : σ b = some o) : b ≠ a := fun q => h (q ▸ .inl ⟨o, e⟩)

theorem Rel.own_there (r : Rel X bs L m σ s) {a : Addr} (h : Own σ a) : ∃ o, s.heap.get? a = some o := by
  rcases h with ⟨o, e⟩ | ⟨x, C, fs, e⟩
  · have := r.st a o e
    cases o with
    | list xs => obtain ⟨_, ⟨n, ho⟩, _⟩ := this; exact ⟨_, ho⟩
    | inst C d fs => exact ⟨_, this.1⟩
    | sdict es => obtain ⟨_, ⟨o, _, _, ho, _⟩, _⟩ := this; exact ⟨o, ho⟩
    | idict es => obtain ⟨_, ⟨o, _, _, ho, _⟩, _⟩ := this; exact ⟨o, ho⟩
    | cell v => obtain ⟨_, ⟨o, ho, _⟩, _⟩ := this; exact ⟨o, ho⟩
  · obtain ⟨_, es, n, hd, _⟩ := r.st x _ e; exact ⟨_, hd⟩

theorem Rel.fresh (r : Rel X bs L m σ s) {a : Addr} (h : s.heap.get? a = none) : Fresh σ a := fun q => by
  obtain ⟨o, e⟩ := r.own_there q; rw [h] at e; cases e

theorem Rel.new (r : Rel X bs L m σ s) {a : Addr} {po : PO} {h' : Heap} (g : Grows s.heap h') (ha : s.heap.get? a = none) (hd : ∀ d, dictOf? po = some d → s.heap.get? d = none ∧ d ≠ a) (ho : OAt X h' a po) (tk : Nat) :
    Rel X bs L m (σ.set a po) { s with heap := h', toks := tk } := by
  have fr := r.fresh ha
  have r' := r.grows g tk
  obtain ⟨sh, top, base, data, loc, st, dL, own, wf, frs, dis, dseq⟩ := r
  have nb : ∀ c, s.heap.get? c = none → bs.b c = none ∧ bs.d c = none ∧ c ≠ L := fun c hc => by
    refine ⟨?_, ?_, ?_⟩
    · cases e : bs.b c with
      | none => rfl
      | some o => have := base c o e; rw [hc] at this; cases this
    · cases e : bs.d c with
      | none => rfl
      | some d => obtain ⟨o, ho, _⟩ := data c d e; rw [hc] at ho; cases ho
    · rintro rfl; obtain ⟨mm, ⟨o, _, _, ho, _⟩, _⟩ := loc; rw [hc] at ho; cases ho
  have ne : ∀ x C d fs, σ.set a po x = some (.inst C d fs) → (x = a ∧ po = .inst C d fs) ∨ (x ≠ a ∧ σ x = some (.inst C d fs)) := by
    intro x C d fs e
    by_cases hx : x = a
    · subst hx; rw [Store.set_self] at e; cases e; exact .inl ⟨rfl, rfl⟩
    · rw [Store.set_ne _ _ hx] at e; exact .inr ⟨hx, e⟩
  refine ⟨r'.sh, top, r'.base, r'.data, r'.loc, fun b o e => ?_, dL, fun b hb => ?_, ⟨fun x C d fs e => ?_, fun x C d fs x' C' fs' e e' => ?_⟩, frs, dis, dseq⟩
  · by_cases hb : b = a
    · subst hb; rw [Store.set_self] at e; cases e; exact ho
    · rw [Store.set_ne _ _ hb] at e; exact r'.st b o e
  · rcases hb with ⟨o, e⟩ | ⟨x, C, fs, e⟩
    · by_cases hb : b = a
      · subst hb; exact nb b ha
      · rw [Store.set_ne _ _ hb] at e; exact own b (.inl ⟨o, e⟩)
    · rcases ne _ _ _ _ e with ⟨rfl, rfl⟩ | ⟨_, e⟩
      · exact nb b (hd b rfl).1
      · exact own b (.inr ⟨_, _, _, e⟩)
  · rcases ne _ _ _ _ e with ⟨rfl, rfl⟩ | ⟨hx, e⟩
    · obtain ⟨h1, h2⟩ := hd d rfl
      rw [Store.set_ne _ _ h2]
      cases q : σ d with
      | none => rfl
      | some o => exact ((show Fresh σ d from fun z => by
          have : ∃ o, s.heap.get? d = some o := (⟨sh, top, base, data, loc, st, dL, own, wf, frs, dis, dseq⟩ : Rel X bs L m σ s).own_there z
          obtain ⟨o, e⟩ := this; rw [h1] at e; cases e) (.inl ⟨o, q⟩)).elim
    · have h1 := wf.apart _ _ _ _ e
      have : d ≠ a := fun q => fr (q ▸ .inr ⟨_, _, _, e⟩)
      rw [Store.set_ne _ _ this]; exact h1
  · rcases ne _ _ _ _ e with ⟨rfl, rfl⟩ | ⟨hx, e2⟩ <;> rcases ne _ _ _ _ e' with ⟨rfl, h2⟩ | ⟨hx', e'⟩
    · rfl
    · exfalso
      obtain ⟨h1, _⟩ := hd d rfl
      obtain ⟨o, e⟩ := (⟨sh, top, base, data, loc, st, dL, own, wf, frs, dis, dseq⟩ : Rel X bs L m σ s).own_there (.inr ⟨_, _, _, e'⟩ : Own σ d)
      rw [h1] at e; cases e
    · exfalso
      subst h2
      obtain ⟨h1, _⟩ := hd d rfl
      obtain ⟨o, e3⟩ := (⟨sh, top, base, data, loc, st, dL, own, wf, frs, dis, dseq⟩ : Rel X bs L m σ s).own_there (.inr ⟨_, _, _, e2⟩ : Own σ d)
      rw [h1] at e3; cases e3
    · exact wf.once _ _ _ _ _ _ _ e2 e'

theorem Rel.setLoc (r : Rel X bs L m σ s) {x : Str} {v : V} {u : Value} {mm : Str → Option Value} {h' : Heap} (hmm : ∀ x v, m x = some v → ∃ u, mm x = some u ∧ VR s.heap.get? u v)
    (hn : h'.Ns L (fun y => if y = x then some u else mm y)) (hs : Heap.SameBut L s.heap h') (hv : VR s.heap.get? u v) (tk : Nat) : Rel X bs L (m.set x v) σ { s with heap := h', toks := tk } := by
  obtain ⟨sh, top, base, data, ⟨mm₀, hn₀, hm⟩, st, dL, own, wf, frs, dis, dseq⟩ := r
  have ht : TupKeep s.heap.get? h'.get? := tup_sameBut hs fun o vs n e _ h2 => by
    obtain ⟨o', _, _, ho, hd, _⟩ := hn₀; rw [e] at ho; cases ho; rw [h2] at hd; cases hd
  refine ⟨by rw [sh], top, fun b o e => ?_, fun b d e => ?_, ⟨_, hn, fun y v' e => ?_⟩, fun b o e => ?_, dL, own, wf, frs, dis, dseq⟩
  · refine (hs.2 b fun q => ?_).trans (base b o e)
    rw [q, dL.1] at e; cases e
  · obtain ⟨o, ho', hd'⟩ := data b d e
    refine ⟨o, (hs.2 b fun q => ?_).trans ho', hd'⟩
    rw [q, dL.2] at e; cases e
  · by_cases hy : y = x
    · subst hy; rw [Loc.set_self] at e; cases e; exact ⟨u, if_pos rfl, hv.mono ht⟩
    · rw [Loc.set_ne _ _ hy] at e
      obtain ⟨u', hu, hv'⟩ := hmm y v' e
      exact ⟨u', by rw [if_neg hy]; exact hu, hv'.mono ht⟩
  · refine (st b o e).other hs ht (own b (.inl ⟨o, e⟩)).2.2 ?_
    rintro C d fs rfl
    exact (own d (.inr ⟨_, _, _, e⟩)).2.2

end
end Zl

namespace Zl
open Classical in
/-- all that stands beside what the store owns, the frame at hand and the frames known by their data -/
noncomputable def restB (bs : Bs) (L : Addr) (σ : Store) (h : Heap) : Bs :=
  { bs with b := fun a => if Own σ a ∨ a = L ∨ (bs.d a).isSome = true then none else h.get? a }

section
variable {X : Cx} {bs : Bs} {L : Addr} {m : Loc} {σ : Store} {s : Shared}

theorem restB_some {h : Heap} {a : Addr} {o : Obj} (e : (restB bs L σ h).b a = some o) : h.get? a = some o := by
  unfold restB at e; dsimp only at e; split at e
  · cases e
  · exact e
theorem restB_get {h : Heap} {a : Addr} {o : Obj} (e : h.get? a = some o) (h1 : ¬ Own σ a) (h2 : a ≠ L) (h3 : bs.d a = none) : (restB bs L σ h).b a = some o := by
  unfold restB; dsimp only
  rw [if_neg]
  · exact e
  · rintro (q | q | q)
    · exact h1 q
    · exact h2 q
    · rw [h3] at q; cases q

theorem Rel.in_rest (r : Rel X bs L m σ s) {a : Addr} {o : Obj} (e : bs.b a = some o) : (restB bs L σ s.heap).b a = some o := by
  refine restB_get (r.base a o e) (fun q => ?_) (fun q => ?_) ?_
  · rw [(r.own a q).1] at e; cases e
  · rw [q, r.dL.1] at e; cases e
  · exact r.dis a o e

theorem Rel.rest (r : Rel X bs L m σ s) : Rel X (restB bs L σ s.heap) L m σ s := by
  have hin := fun a o e => r.in_rest (a := a) (o := o) e
  have hown : ∀ a, Own σ a → (restB bs L σ s.heap).b a = none := fun a q => by
    unfold restB; dsimp only; rw [if_pos (.inl q)]
  have hL : (restB bs L σ s.heap).b L = none := by unfold restB; dsimp only; rw [if_pos (.inr (.inl rfl))]
  refine ⟨r.sh, fun a o e => hin a o (r.top a o e), fun a o e => restB_some e, r.data, r.loc, r.st, ⟨hL, r.dL.2⟩, fun a q => ⟨hown a q, (r.own a q).2⟩, r.wf, ?_, ?_, r.dseq⟩
  · intro env he
    obtain ⟨h1, F, hF, hb, h2⟩ := r.frs env he
    refine ⟨h1, F, hF, ?_, h2⟩
    rcases h2 with rfl | ⟨d, hd, _⟩
    · exact hL
    · unfold restB; dsimp only; rw [if_pos (.inr (.inr (by rw [hd]; rfl)))]
  · intro a o e
    unfold restB at e; dsimp only at e; split at e
    · cases e
    · rename_i q
      cases h : bs.d a with
      | none => exact h
      | some d => exact (q (.inr (.inr (by rw [h]; rfl)))).elim

/-- bs' knows more than bs -/
structure Bs.Le (bs bs' : Bs) : Prop where
  b : ∀ a o, bs.b a = some o → bs'.b a = some o
  d : bs'.d = bs.d
  frs : bs'.frs = bs.frs

theorem Rel.le (r : Rel X bs L m σ s) : bs.Le (restB bs L σ s.heap) := ⟨fun _ _ e => r.in_rest e, rfl, rfl⟩
theorem Bs.Le.trans {b₁ b₂ b₃ : Bs} (h : b₁.Le b₂) (k : b₂.Le b₃) : b₁.Le b₃ := ⟨fun a o e => k.b a o (h.b a o e), k.d.trans h.d, k.frs.trans h.frs⟩
theorem Bs.Le.none {b₁ b₂ : Bs} (h : b₁.Le b₂) {a : Addr} (e : b₂.b a = none) : b₁.b a = none := by
  cases q : b₁.b a with
  | none => rfl
  | some o => rw [h.b a o q] at e; cases e

theorem Rel.weaken {bs' : Bs} (r : Rel X bs' L m σ s) (h : bs.Le bs') (top : ∀ a o, X.hT.get? a = some o → bs.b a = some o) : Rel X bs L m σ s := by
  obtain ⟨b', d', frs'⟩ := bs'
  obtain ⟨b, d, frs⟩ := bs
  obtain ⟨hb, hd, hf⟩ := h
  dsimp only at hb hd hf
  subst hd hf
  have hn : ∀ a, b' a = none → b a = none := fun a e => by
    cases q : b a with
    | none => rfl
    | some o => rw [hb a o q] at e; cases e
  refine ⟨r.sh, top, fun a o e => r.base a o (hb a o e), r.data, r.loc, r.st, ⟨hn _ r.dL.1, r.dL.2⟩, fun a q => ⟨hn _ (r.own a q).1, (r.own a q).2⟩, r.wf, fun env he => ?_, fun a o e => r.dis a o (hb a o e), r.dseq⟩
  obtain ⟨h1, F, hF, h2, h3⟩ := r.frs env he
  exact ⟨h1, F, hF, hn _ h2, h3⟩

/-- a value that was seen ahead is still there behind -/
theorem Rel.keepVR (r : Rel X bs L m σ s) {v : Value} {x : V} (h : VR s.heap.get? v x) : VR (restB bs L σ s.heap).b v x := by
  refine h.mono fun a o vs n e h1 h2 => restB_get e (fun q => ?_) (fun q => ?_) ?_
  · rcases q with ⟨po, q⟩ | ⟨y, C, fs, q⟩
    · have := r.st a po q
      cases po with
      | inst C d fs => rw [this.1] at e; cases e; cases h2
      | list xs => exact this.site_not rfl o vs n e h1 h2
      | sdict es => exact this.site_not rfl o vs n e h1 h2
      | idict es => exact this.site_not rfl o vs n e h1 h2
      | cell w => exact this.site_not rfl o vs n e h1 h2
    · exact (r.st y _ q).site_not (c := a) rfl o vs n e h1 h2
  · subst q
    obtain ⟨mm, ⟨o', _, _, ho, hd, _⟩, _⟩ := r.loc
    rw [e] at ho; cases ho; rw [h2] at hd; cases hd
  · cases q : bs.d a with
    | none => rfl
    | some d =>
      obtain ⟨o', ho, hd⟩ := r.data a d q
      rw [e] at ho; cases ho
      exact (r.dseq a d q vs n (hd.symm.trans h2)).elim
theorem Rel.liftVR {v : Value} {x : V} (r : Rel X bs L m σ s) (h : VR bs.b v x) : VR s.heap.get? v x := h.mono fun a o _ _ e _ _ => r.base a o e
end

/-- the room that is left: calls below, and whether nothing is being handled -/
structure Lim where
  n : Nat
  q : Bool := true

def OKA (A : Around) (c : Lim) (frs : List Env) : Prop := (c.q = true → A.handled = none) ∧ A.depth + c.n ≤ 900 ∧ A.units + 60 * c.n ≤ 9000 ∧ A.frames = some frs

abbrev Exn := Addr → Store → Prop

/-- how an exception leaves (none does, so far) -/
def XE (_X : Cx) (_bs : Bs) (_L : Addr) (_Ex : Exn) : Value → Shared → Prop := fun _ _ => False
theorem XE.le {X : Cx} {bs bs' : Bs} {L : Addr} {Ex : Exn} (_h : bs.Le bs') {v : Value} {s : Shared} (e : XE X bs' L Ex v s) : XE X bs L Ex v s := e

def VPost (X : Cx) (bs : Bs) (L : Addr) (m : Loc) (Q : V → Store → Prop) (v : Value) (s' : Shared) : Prop := ∃ x σ', VR s'.heap.get? v x ∧ Rel X bs L m σ' s' ∧ Q x σ'

def WP (X : Cx) (c : Lim) (L : Addr) (t : Sem Value) (m : Loc) (σ : Store) (Q : V → Store → Prop) (Ex : Exn) : Prop :=
  ∀ A bs s, OKA A c bs.frs → Rel X bs L m σ s → wpAny X.M A t (VPost X bs L m Q) (XE X bs L Ex) s

def WE (X : Cx) (c : Lim) (env : Env) (e : Expr) (m : Loc) (σ : Store) (Q : V → Store → Prop) (Ex : Exn) : Prop := WP X c env.locals (eval e env) m σ Q Ex

def W1 (X : Cx) (c : Lim) (f : Value → Sem Value) (x : V) (σ : Store) (Q : V → Store → Prop) (Ex : Exn) : Prop :=
  ∀ A bs L m s u, OKA A c bs.frs → Rel X bs L m σ s → VR s.heap.get? u x → wpAny X.M A (f u) (VPost X bs L m Q) (XE X bs L Ex) s
def W2 (X : Cx) (c : Lim) (f : Value → Value → Sem Value) (x y : V) (σ : Store) (Q : V → Store → Prop) (Ex : Exn) : Prop :=
  ∀ A bs L m s u v, OKA A c bs.frs → Rel X bs L m σ s → VR s.heap.get? u x → VR s.heap.get? v y → wpAny X.M A (f u v) (VPost X bs L m Q) (XE X bs L Ex) s
def WN (X : Cx) (c : Lim) (f : List Value → Sem Value) (xs : List V) (σ : Store) (Q : V → Store → Prop) (Ex : Exn) : Prop :=
  ∀ A bs L m s us, OKA A c bs.frs → Rel X bs L m σ s → VRs s.heap.get? us xs → wpAny X.M A (f us) (VPost X bs L m Q) (XE X bs L Ex) s

theorem VPost.le {X : Cx} {bs bs' : Bs} {L : Addr} {m : Loc} {Q : V → Store → Prop} {v : Value} {s' : Shared} (h : bs.Le bs') (top : ∀ a o, X.hT.get? a = some o → bs.b a = some o) (k : VPost X bs' L m Q v s') : VPost X bs L m Q v s' :=
  let ⟨x, σ', h1, h2, h3⟩ := k; ⟨x, σ', h1, h2.weaken h top, h3⟩

theorem VPost.intro {X : Cx} {bs : Bs} {L : Addr} {m : Loc} {Q : V → Store → Prop} {v : Value} {s' : Shared} {x : V} {σ : Store} (h1 : VR s'.heap.get? v x) (h2 : Rel X bs L m σ s') (h3 : Q x σ) : VPost X bs L m Q v s' := ⟨x, σ, h1, h2, h3⟩

section
variable {X : Cx} {bs : Bs} {L : Addr} {m : Loc} {σ : Store} {s : Shared} {c : Lim} {A : Around} {Q : V → Store → Prop} {Ex : Exn}

theorem WP.mono {t : Sem Value} {Q' : V → Store → Prop} (h : WP X c L t m σ Q Ex) (k : ∀ x σ', Q x σ' → Q' x σ') : WP X c L t m σ Q' Ex :=
  fun A bs s hA R => wpAny_mono (h A bs s hA R) (fun _ _ ⟨x, σ', h1, h2, h3⟩ => ⟨x, σ', h1, h2, k x σ' h3⟩) fun _ _ e => e

theorem then1 {t : Sem Value} {f : Value → Sem Value} (hA : OKA A c bs.frs) (R : Rel X bs L m σ s) (h : WP X c L t m σ (fun x σ₁ => W1 X c f x σ₁ Q Ex) Ex) :
    wpAny X.M A t (fun u s₁ => wpAny X.M A (f u) (VPost X bs L m Q) (XE X bs L Ex) s₁) (XE X bs L Ex) s :=
  wpAny_mono (h A bs s hA R) (fun u s₁ ⟨_, _, h1, h2, h3⟩ => h3 A bs L m s₁ u hA h2 h1) fun _ _ e => e

theorem then2 {t t' : Sem Value} {f : Value → Value → Sem Value} (hA : OKA A c bs.frs) (R : Rel X bs L m σ s) (h : WP X c L t m σ (fun x σ₁ => WP X c L t' m σ₁ (fun y σ₂ => W2 X c f x y σ₂ Q Ex) Ex) Ex) :
    wpAny X.M A t (fun u s₁ => wpAny X.M A t' (fun v s₂ => wpAny X.M A (f u v) (VPost X bs L m Q) (XE X bs L Ex) s₂) (XE X bs L Ex) s₁) (XE X bs L Ex) s := by
  refine wpAny_mono (h A bs s hA R) (fun u s₁ h₁ => ?_) fun _ _ e => e
  obtain ⟨x, σ₁, h1, R₁, h3⟩ := h₁
  have le := R₁.le
  refine wpAny_mono (h3 A _ s₁ (by exact hA) R₁.rest) (fun v s₂ h₂ => ?_) fun _ _ e => e.le le
  obtain ⟨y, σ₂, k1, R₂, k3⟩ := h₂
  exact wpAny_mono (k3 A _ L m s₂ u v (by exact hA) R₂ (R₂.liftVR (R₁.keepVR h1)) k1) (fun r s₃ p => p.le le R.top) fun _ _ e => e.le le

def noStar : Expr → Bool
  | .Starred _ _ => false
  | _ => true

def WEs (X : Cx) (c : Lim) (env : Env) : List Expr → Loc → Store → (List V → Store → Prop) → Exn → Prop
  | [], _, σ, Q, _ => Q [] σ
  | e :: es, m, σ, Q, Ex => WE X c env e m σ (fun x σ₁ => WEs X c env es m σ₁ (fun xs σ₂ => Q (x :: xs) σ₂) Ex) Ex

theorem backTo_cons {e : Expr} {es : List Expr} {pos : Pos} {env : Env} (h : noStar e = true) : backTo pos (starEach (e :: es) env) = (false, eval e env) :: backTo pos (starEach es env) := by
  cases e <;> first | rfl | cases h

def LPost (X : Cx) (bs : Bs) (L : Addr) (m : Loc) (n : Nat) (Q : List V → Store → Prop) (vs : List Value) (s' : Shared) : Prop := ∃ xs σ', VRs s'.heap.get? vs xs ∧ Rel X bs L m σ' s' ∧ vs.length = n ∧ Q xs σ'

theorem thenL {env : Env} {pos : Pos} : ∀ {es : List Expr} {bs : Bs} {σ : Store} {s : Shared} {Q : List V → Store → Prop}, es.all noStar = true → OKA A c bs.frs → Rel X bs env.locals m σ s → WEs X c env es m σ Q Ex →
    wpAny X.M A (spliced (backTo pos (starEach es env))) (LPost X bs env.locals m es.length Q) (XE X bs env.locals Ex) s
  | [], bs, σ, s, Q, _, _, R, h => Calls.spliced_nil ⟨[], σ, .nil, R, rfl, h⟩
  | e :: es, bs, σ, s, Q, hn, hA, R, h => by
    simp only [List.all_cons, Bool.and_eq_true] at hn
    rw [backTo_cons hn.1]
    refine Calls.spliced_cons (wpAny_mono (h A bs s hA R) (fun u s₁ h₁ => ?_) fun _ _ e => e)
    obtain ⟨x, σ₁, h1, R₁, h3⟩ := h₁
    have le := R₁.le
    refine wpAny_mono (thenL (bs := restB bs env.locals σ₁ s₁.heap) hn.2 (by exact hA) R₁.rest h3) (fun vs s₂ h₂ => ?_) fun _ _ e => e.le le
    obtain ⟨xs, σ₂, k1, R₂, kl, k3⟩ := h₂
    exact ⟨x :: xs, σ₂, .cons (R₂.liftVR (R₁.keepVR h1)) k1, R₂.weaken le R.top, by rw [List.length_cons, List.length_cons, kl], k3⟩

/-- the truth of a tree -/
def WT (X : Cx) (c : Lim) (L : Addr) (t : Sem Bool) (m : Loc) (σ : Store) (T F : Store → Prop) (Ex : Exn) : Prop :=
  ∀ A bs s, OKA A c bs.frs → Rel X bs L m σ s → wpAny X.M A t (fun b s' => ∃ σ', Rel X bs L m σ' s' ∧ (b = true → T σ') ∧ (b = false → F σ')) (XE X bs L Ex) s

def WQ (X : Cx) (c : Lim) (env : Env) (e : Expr) (m : Loc) (σ : Store) (T F : Store → Prop) (Ex : Exn) : Prop := WT X c env.locals (isTrue e env (eval e env)) m σ T F Ex

inductive Fl where
  | brk | cont | ret (v : V)

def FPost (X : Cx) (bs : Bs) (L : Addr) (N : Loc → Store → Prop) (O : Fl → Loc → Store → Prop) (f : Flow) (s' : Shared) : Prop :=
  ∃ m' σ', Rel X bs L m' σ' s' ∧ match f with
    | .next => N m' σ'
    | .brk => O .brk m' σ'
    | .cont => O .cont m' σ'
    | .ret v => ∃ x, VR s'.heap.get? v x ∧ O (.ret x) m' σ'

def WF' (X : Cx) (c : Lim) (L : Addr) (t : Sem Flow) (m : Loc) (σ : Store) (N : Loc → Store → Prop) (O : Fl → Loc → Store → Prop) (Ex : Exn) : Prop :=
  ∀ A bs s, OKA A c bs.frs → Rel X bs L m σ s → wpAny X.M A t (FPost X bs L N O) (XE X bs L Ex) s

/-- one statement; statements in a row -/
def WX (X : Cx) (c : Lim) (env : Env) (st : Stmt) (m : Loc) (σ : Store) (N : Loc → Store → Prop) (O : Fl → Loc → Store → Prop) (Ex : Exn) : Prop := WF' X c env.locals (exec st env) m σ N O Ex
def WS (X : Cx) (c : Lim) (env : Env) (ss : List Stmt) (m : Loc) (σ : Store) (N : Loc → Store → Prop) (O : Fl → Loc → Store → Prop) (Ex : Exn) : Prop := WF' X c env.locals (execs ss env) m σ N O Ex

variable {env : Env} {N : Loc → Store → Prop} {O : Fl → Loc → Store → Prop} {T F : Store → Prop}

theorem WS_nil (h : N m σ) : WS X c env [] m σ N O Ex := fun _ _ _ _ R => wpAny_execs_nil ⟨m, σ, R, h⟩

theorem WS_cons {st : Stmt} {rest : List Stmt} (h : WX X c env st m σ (fun m' σ' => WS X c env rest m' σ' N O Ex) O Ex) : WS X c env (st :: rest) m σ N O Ex := fun A bs s hA R => by
  refine wpAny_execs_cons (wpAny_mono (h A bs s hA R) (fun f s' h' => ?_) fun _ _ e => e)
  obtain ⟨m', σ', R', k⟩ := h'
  cases f with
  | next => exact k A bs s' hA R'
  | brk => exact ⟨m', σ', R', k⟩
  | cont => exact ⟨m', σ', R', k⟩
  | ret v => exact ⟨m', σ', R', k⟩

theorem WX_Pass {pos : Pos} (h : N m σ) : WX X c env (.Pass pos) m σ N O Ex := fun _ _ _ _ R => wpAny_Pass ⟨m, σ, R, h⟩

theorem WX_Return {e : Expr} {pos : Pos} (h : WE X c env e m σ (fun x σ' => O (.ret x) m σ') Ex) : WX X c env (.Return (some e) pos) m σ N O Ex := fun A bs s hA R =>
  wpAny_Return_some (wpAny_mono (h A bs s hA R) (fun _ _ ⟨x, σ', h1, h2, h3⟩ => ⟨m, σ', h2, x, h1, h3⟩) fun _ _ e => e)

theorem WX_If {test : Expr} {body orelse : List Stmt} {pos : Pos} (h : WQ X c env test m σ (fun σ' => WS X c env body m σ' N O Ex) (fun σ' => WS X c env orelse m σ' N O Ex) Ex) :
    WX X c env (.If test body orelse pos) m σ N O Ex := fun A bs s hA R => by
  refine wpAny_If (wpAny_mono (h A bs s hA R) (fun b s' h' => ?_) fun _ _ e => e)
  obtain ⟨σ', R', hT, hF⟩ := h'
  cases b with
  | true => rw [if_pos rfl]; exact hT rfl A bs s' hA R'
  | false => rw [if_neg (by simp)]; exact hF rfl A bs s' hA R'

theorem WE_BinOp {l r : Expr} {op : Operator} {pos : Pos} (h : WE X c env l m σ (fun x σ₁ => WE X c env r m σ₁ (fun y σ₂ => W2 X c (binaryOp op) x y σ₂ Q Ex) Ex) Ex) : WE X c env (.BinOp l op r pos) m σ Q Ex :=
  fun _ _ _ hA R => wpAny_BinOp (then2 hA R h)

theorem WE_Compare1 {l r : Expr} {op : CmpOp} {pos : Pos} (h : WE X c env l m σ (fun x σ₁ => WE X c env r m σ₁ (fun y σ₂ => W2 X c (compareOp op) x y σ₂ Q Ex) Ex) Ex)
    (hm : behindInMarks op r = false := by with_unfolding_all rfl) : WE X c env (.Compare l [op] [r] pos) m σ Q Ex :=
  fun _ _ _ hA R => wpAny_Compare1 (then2 hA R h) hm

end
end Zl

set_option maxRecDepth 100000
namespace Zl
section
variable {X : Cx} {bs : Bs} {L : Addr} {m : Loc} {σ : Store} {s : Shared} {c : Lim} {A : Around} {Q : V → Store → Prop} {Ex : Exn} {env : Env} {N : Loc → Store → Prop} {O : Fl → Loc → Store → Prop} {T F : Store → Prop}

theorem Rel.hT (R : Rel X bs L m σ s) : Grows X.hT s.heap := fun a o e => R.base a o (R.top a o e)
theorem Rel.kin (ok : X.Ok) (R : Rel X bs L m σ s) : X.K.In s.heap := ok.kin.keeps R.hT

/-! constants -/
theorem WE_int {i : Int} {k : Nat} {pos : Pos} (h : Q (.int i) σ) : WE X c env (.Constant (.int i) k pos) m σ Q Ex :=
  fun _ _ _ _ R => wpAny_Constant_int ⟨.int i, σ, .int _ _, R.tok _, h⟩
theorem WE_none {k : Nat} {pos : Pos} (h : Q .none σ) : WE X c env (.Constant .none k pos) m σ Q Ex :=
  fun _ _ _ _ R => wpAny_pure ⟨.none, σ, .none, R, h⟩
theorem WE_bool {b : Bool} {k : Nat} {pos : Pos} (h : Q (.bool b) σ) : WE X c env (.Constant (.bool b) k pos) m σ Q Ex :=
  fun _ _ _ _ R => wpAny_pure ⟨.bool b, σ, .bool b, R, h⟩
theorem WE_str {x : Str} {k : Nat} {pos : Pos} (h : Q (.str x) σ) : WE X c env (.Constant (.str x) k pos) m σ Q Ex :=
  fun _ _ _ _ R => wpAny_mkText ⟨.str x, σ, .str _ _, R.tok _, h⟩

/-! names -/
theorem WE_local {x : Str} {pos : Pos} {v : V} (hv : m x = some v) (h : Q v σ) (hk : env.scope.kind = .function := by with_unfolding_all rfl) (hl : env.kindOf x = some .local := by with_unfolding_all rfl) (hd : (x == ("__debug__" : Str)) = false := by decide) :
    WE X c env (.Name x pos) m σ Q Ex := fun A bs s hA R => by
  obtain ⟨mm, hn, hm⟩ := R.loc
  obtain ⟨u, hu, hr⟩ := hm x v hv
  exact wpAny_Name (wpAny_loadName_local hk hl hn hu ⟨v, σ, hr, R, h⟩) hd
theorem WE_cell {x : Str} {pos : Pos} {v : V} {a : Addr} (ha : env.cells.lookup x = some a) (hv : σ a = some (.cell (some v))) (h : Q v σ) (hk : env.scope.kind = .function := by with_unfolding_all rfl) (hl : env.kindOf x = some .cell := by with_unfolding_all rfl) (hd : (x == ("__debug__" : Str)) = false := by decide) :
    WE X c env (.Name x pos) m σ Q Ex := fun A bs s hA R => by
  obtain ⟨u, hc, hr⟩ := R.st a _ hv
  cases u with
  | none => exact hr.elim
  | some u => exact wpAny_Name (wpAny_loadName_cell hk hl ha hc ⟨v, σ, hr, R, h⟩) hd
theorem WE_free {x : Str} {pos : Pos} {v : V} {a : Addr} (ha : env.cells.lookup x = some a) (hv : σ a = some (.cell (some v))) (h : Q v σ) (hk : env.scope.kind = .function := by with_unfolding_all rfl) (hl : env.kindOf x = some .free := by with_unfolding_all rfl) (hd : (x == ("__debug__" : Str)) = false := by decide) (hn : (x == ("__classdict__" : Str)) = false := by decide) :
    WE X c env (.Name x pos) m σ Q Ex := fun A bs s hA R => by
  obtain ⟨u, hc, hr⟩ := R.st a _ hv
  cases u with
  | none => exact hr.elim
  | some u => exact wpAny_Name (wpAny_loadName_free hk hl ha hc ⟨v, σ, hr, R, h⟩ hn) hd
theorem WE_global {x : Str} {pos : Pos} {u : Value} {v : V} (ok : X.Ok) (e : nsIn X.K mainGlobals x = some (some u)) (hv : ∀ g, VR g u v) (h : Q v σ) (hk : env.scope.kind = .function := by with_unfolding_all rfl) (hg : env.globals = mainGlobals := by with_unfolding_all rfl) (hl : env.kindOf x = some .globalImplicit := by with_unfolding_all rfl) (hd : (x == ("__debug__" : Str)) = false := by decide) :
    WE X c env (.Name x pos) m σ Q Ex := fun A bs s hA R =>
  Name_function_global hk hl (loadGlobal_global (hg ▸ ok.top.g.keeps R.hT) (mg_of ok.kin ok.top.g e) ⟨v, σ, hv _, R, h⟩) hd
theorem WE_builtin {x : Str} {pos : Pos} {u : Value} (ok : X.Ok) (e : nsIn X.K mainGlobals x = some none) (hu : bootBuiltins x = some u) (hn : x ≠ "__name__") (h : Q (.raw u) σ) (hk : env.scope.kind = .function := by with_unfolding_all rfl) (hg : env.globals = mainGlobals := by with_unfolding_all rfl) (hb : env.builtins = builtinsNs := by with_unfolding_all rfl)
    (hl : env.kindOf x = some .globalImplicit := by with_unfolding_all rfl) (hd : (x == ("__debug__" : Str)) = false := by decide) : WE X c env (.Name x pos) m σ Q Ex := fun A bs s hA R =>
  Name_function_global hk hl (loadGlobal_builtin (hg ▸ ok.top.g.keeps R.hT) (mg_none_of ok.kin ok.top.g e) (hb ▸ ok.top.b.keeps R.hT) ((ok.top.builtins x hn).trans hu) ⟨_, σ, .raw u, R, h⟩) hd

/-! tests -/
theorem WQ_Not {e : Expr} {pos : Pos} (h : WQ X c env e m σ F T Ex) : WQ X c env (.UnaryOp .Not e pos) m σ T F Ex := fun A bs s hA R => by
  rw [arm_isTrue_UnaryOp]
  refine wpAny_bind (wpAny_mono (h A bs s hA R) (fun b s' h' => wpAny_pure ?_) fun _ _ e => e)
  obtain ⟨σ', R', hT, hF⟩ := h'
  refine ⟨σ', R', fun e => hF ?_, fun e => hT ?_⟩
  · cases b <;> first | rfl | cases e
  · cases b <;> first | rfl | cases e

def WAnd (X : Cx) (c : Lim) (env : Env) : List Expr → Loc → Store → (Store → Prop) → (Store → Prop) → Exn → Prop
  | [], _, σ, T, _, _ => T σ
  | e :: es, m, σ, T, F, Ex => WQ X c env e m σ (fun σ' => WAnd X c env es m σ' T F Ex) F Ex
def WOr (X : Cx) (c : Lim) (env : Env) : List Expr → Loc → Store → (Store → Prop) → (Store → Prop) → Exn → Prop
  | [], _, σ, _, F, _ => F σ
  | e :: es, m, σ, T, F, Ex => WQ X c env e m σ T (fun σ' => WOr X c env es m σ' T F Ex) Ex

theorem allTrue_And : ∀ {es : List Expr} {σ : Store} {s : Shared}, OKA A c bs.frs → Rel X bs env.locals m σ s → WAnd X c env es m σ T F Ex →
    wpAny X.M A (allTrue .And es env) (fun b s' => ∃ σ', Rel X bs env.locals m σ' s' ∧ (b = true → T σ') ∧ (b = false → F σ')) (XE X bs env.locals Ex) s
  | [], σ, s, _, R, h => wpAny_pure ⟨σ, R, (fun _ => h), fun e => by cases e⟩
  | e :: es, σ, s, hA, R, h => by
    rw [arm_allTrue_cons]
    refine wpAny_bind (wpAny_mono (h A bs s hA R) (fun b s' h' => ?_) fun _ _ e => e)
    obtain ⟨σ', R', hT, hF⟩ := h'
    cases b with
    | true => exact allTrue_And hA R' (hT rfl)
    | false => exact wpAny_pure ⟨σ', R', (fun e => by cases e), fun _ => hF rfl⟩
theorem allTrue_Or : ∀ {es : List Expr} {σ : Store} {s : Shared}, OKA A c bs.frs → Rel X bs env.locals m σ s → WOr X c env es m σ T F Ex →
    wpAny X.M A (allTrue .Or es env) (fun b s' => ∃ σ', Rel X bs env.locals m σ' s' ∧ (b = true → T σ') ∧ (b = false → F σ')) (XE X bs env.locals Ex) s
  | [], σ, s, _, R, h => wpAny_pure ⟨σ, R, (fun e => by cases e), fun _ => h⟩
  | e :: es, σ, s, hA, R, h => by
    rw [arm_allTrue_cons]
    refine wpAny_bind (wpAny_mono (h A bs s hA R) (fun b s' h' => ?_) fun _ _ e => e)
    obtain ⟨σ', R', hT, hF⟩ := h'
    cases b with
    | false => exact allTrue_Or hA R' (hF rfl)
    | true => exact wpAny_pure ⟨σ', R', (fun _ => hT rfl), fun e => by cases e⟩
theorem WQ_And {es : List Expr} {pos : Pos} (h : WAnd X c env es m σ T F Ex) : WQ X c env (.BoolOp .And es pos) m σ T F Ex := fun A bs s hA R => by
  rw [arm_isTrue_BoolOp]; exact allTrue_And hA R h
theorem WQ_Or {es : List Expr} {pos : Pos} (h : WOr X c env es m σ T F Ex) : WQ X c env (.BoolOp .Or es pos) m σ T F Ex := fun A bs s hA R => by
  rw [arm_isTrue_BoolOp]; exact allTrue_Or hA R h

/-- the truth of a value -/
def Truth (X : Cx) (c : Lim) (x : V) (σ : Store) (T F : Store → Prop) (Ex : Exn) : Prop :=
  ∀ A bs L m s u, OKA A c bs.frs → Rel X bs L m σ s → VR s.heap.get? u x → wpAny X.M A (truthy u) (fun b s' => ∃ σ', Rel X bs L m σ' s' ∧ (b = true → T σ') ∧ (b = false → F σ')) (XE X bs L Ex) s
theorem truth_bool {b : Bool} (hT : b = true → T σ) (hF : b = false → F σ) : Truth X c (.bool b) σ T F Ex := fun A bs L m s u hA R hu => by
  cases hu; exact wpAny_truthy_bool ⟨σ, R, hT, hF⟩
theorem truth_none (hF : F σ) : Truth X c .none σ T F Ex := fun A bs L m s u hA R hu => by
  cases hu; exact wpAny_pure ⟨σ, R, (fun e => by cases e), fun _ => hF⟩

theorem WQ_Compare1 {l r : Expr} {op : CmpOp} {pos : Pos} (h : WE X c env l m σ (fun x σ₁ => WE X c env r m σ₁ (fun y σ₂ => W2 X c (compareOp op) x y σ₂ (fun z σ₃ => Truth X c z σ₃ T F Ex) Ex) Ex) Ex)
    (hm : behindInMarks op r = false := by with_unfolding_all rfl) : WQ X c env (.Compare l [op] [r] pos) m σ T F Ex := fun A bs s hA R => by
  refine wpAny_isTrue_Compare1 (wpAny_mono (then2 hA R h) (fun u s₁ h₁ => wpAny_mono h₁ (fun v s₂ h₂ => wpAny_mono h₂ (fun r s₃ h₃ => ?_) fun _ _ e => e) fun _ _ e => e) fun _ _ e => e) hm
  obtain ⟨x, σ', h1, h2, h3⟩ := h₃
  exact h3 A bs env.locals m s₃ r hA h2 h1

/-- a test that has no road of its own: the value's truth -/
theorem WQ_plain {e : Expr} (h : WE X c env e m σ (fun x σ' => Truth X c x σ' T F Ex) Ex) (hp : isTrue e env (eval e env) = (do let v ← eval e env; standAt e.pos; holding [v] (truthy v)) := by with_unfolding_all rfl) : WQ X c env e m σ T F Ex := fun A bs s hA R =>
  isTrue_plain (wpAny_mono (h A bs s hA R) (fun u s₁ ⟨_, _, h1, h2, h3⟩ => h3 A bs env.locals m s₁ u hA h2 h1) fun _ _ e => e) hp

/-! ints -/
section
variable {i j : Int}
theorem add_int (h : Q (.int (i + j)) σ) : W2 X c (binaryOp .Add) (.int i) (.int j) σ Q Ex := fun A bs L m s u v hA R hu hv => by
  cases hu; cases hv; exact P.add_int ⟨_, σ, .int _ _, R.tok _, h⟩
theorem sub_int (h : Q (.int (i - j)) σ) : W2 X c (binaryOp .Sub) (.int i) (.int j) σ Q Ex := fun A bs L m s u v hA R hu hv => by
  cases hu; cases hv; exact P.sub_int ⟨_, σ, .int _ _, R.tok _, h⟩
theorem mul_int (hm : IntMulOk i j) (h : Q (.int (i * j)) σ) : W2 X c (binaryOp .Mult) (.int i) (.int j) σ Q Ex := fun A bs L m s u v hA R hu hv => by
  cases hu; cases hv; exact P.mul_int ⟨_, σ, .int _ _, R.tok _, h⟩ hm
theorem mod_int (hj : j ≠ 0) (h : Q (.int (i.fmod j)) σ) : W2 X c (binaryOp .Mod) (.int i) (.int j) σ Q Ex := fun A bs L m s u v hA R hu hv => by
  cases hu; cases hv; exact PyProof.Rows.mod_int' hj ⟨_, σ, .int _ _, R.tok _, h⟩
theorem div_int (hj : j ≠ 0) (hp : Builtin.divisionGoesByPylong i j = false) (h : Q (.int (i.fdiv j)) σ) : W2 X c (binaryOp .FloorDiv) (.int i) (.int j) σ Q Ex := fun A bs L m s u v hA R hu hv => by
  cases hu; cases hv; exact PyProof.Rows.floordiv_int hj ⟨_, σ, .int _ _, R.tok _, h⟩ (.inl hp)
theorem eq_int (h : Q (.bool (decide (i = j))) σ) : W2 X c (compareOp .Eq) (.int i) (.int j) σ Q Ex := fun A bs L m s u v hA R hu hv => by
  cases hu; cases hv; exact PyProof.Rows.eq_int ⟨_, σ, .bool _, R, by rw [show (i == j) = decide (i = j) from rfl]; exact h⟩
theorem ne_int (h : Q (.bool (decide (i ≠ j))) σ) : W2 X c (compareOp .NotEq) (.int i) (.int j) σ Q Ex := fun A bs L m s u v hA R hu hv => by
  cases hu; cases hv; exact PyProof.Rows.ne_int ⟨_, σ, .bool _, R, by rw [show (i != j) = decide (i ≠ j) from by rw [bne, show (i == j) = decide (i = j) from rfl, ← decide_not]]; exact h⟩
theorem lt_int (h : Q (.bool (decide (i < j))) σ) : W2 X c (compareOp .Lt) (.int i) (.int j) σ Q Ex := fun A bs L m s u v hA R hu hv => by
  cases hu; cases hv; exact PyProof.Rows.lt_int ⟨_, σ, .bool _, R, h⟩
theorem le_int (h : Q (.bool (decide (i ≤ j))) σ) : W2 X c (compareOp .LtE) (.int i) (.int j) σ Q Ex := fun A bs L m s u v hA R hu hv => by
  cases hu; cases hv; exact P.le_int ⟨_, σ, .bool _, R, h⟩
theorem gt_int (h : Q (.bool (decide (j < i))) σ) : W2 X c (compareOp .Gt) (.int i) (.int j) σ Q Ex := fun A bs L m s u v hA R hu hv => by
  cases hu; cases hv; exact P.gt_int ⟨_, σ, .bool _, R, h⟩
theorem ge_int (h : Q (.bool (decide (j ≤ i))) σ) : W2 X c (compareOp .GtE) (.int i) (.int j) σ Q Ex := fun A bs L m s u v hA R hu hv => by
  cases hu; cases hv; exact P.ge_int ⟨_, σ, .bool _, R, h⟩
end

/-! is -/
def V.isNone : V → Bool
  | .none => true
  | _ => false
def V.known : V → Bool
  | .raw _ => false
  | _ => true
theorem is_none {x : V} (hx : x.known = true) (h : Q (.bool x.isNone) σ) : W2 X c (compareOp .Is) x .none σ Q Ex := fun A bs L m s u v hA R hu hv => by
  cases hv
  cases hu with
  | raw => cases hx
  | _ => exact wpAny_is_plain rfl ⟨_, σ, .bool _, R, h⟩
theorem isNot_none {x : V} (hx : x.known = true) (h : Q (.bool (!x.isNone)) σ) : W2 X c (compareOp .IsNot) x .none σ Q Ex := fun A bs L m s u v hA R hu hv => by
  cases hv
  cases hu with
  | raw => cases hx
  | _ => exact wpAny_isNot_plain rfl ⟨_, σ, .bool _, R, h⟩
def V.isBool (b : Bool) : V → Bool
  | .bool b' => b' == b
  | _ => false
theorem is_bool {x : V} {b : Bool} (hx : x.known = true) (h : Q (.bool (x.isBool b)) σ) : W2 X c (compareOp .Is) x (.bool b) σ Q Ex := fun A bs L m s u v hA R hu hv => by
  cases hv
  cases hu with
  | raw => cases hx
  | bool b' => exact wpAny_is_plain rfl ⟨_, σ, .bool _, R, by
      have : (Value.bool b' == Value.bool b) = (b' == b) := by cases b <;> cases b' <;> rfl
      rw [this]; exact h⟩
  | _ => exact wpAny_is_plain rfl ⟨_, σ, .bool _, R, h⟩
theorem isNot_bool {x : V} {b : Bool} (hx : x.known = true) (h : Q (.bool (!x.isBool b)) σ) : W2 X c (compareOp .IsNot) x (.bool b) σ Q Ex := fun A bs L m s u v hA R hu hv => by
  cases hv
  cases hu with
  | raw => cases hx
  | bool b' => exact wpAny_isNot_plain rfl ⟨_, σ, .bool _, R, by
      have : (Value.bool b' == Value.bool b) = (b' == b) := by cases b <;> cases b' <;> rfl
      rw [this]; exact h⟩
  | _ => exact wpAny_isNot_plain rfl ⟨_, σ, .bool _, R, h⟩

/-! displays -/
theorem Rel.pushTup (R : Rel X bs L m σ s) {vs : List Value} {xs : List V} (h : VRs s.heap.get? vs xs) :
    VR (s.heap.push { cls := .type "tuple", data := .seq vs.toArray }).get? (.ref s.heap.objs.size) (.tup xs) ∧ Rel X bs L m σ { s with heap := s.heap.push { cls := .type "tuple", data := .seq vs.toArray } } := by
  have g : Grows s.heap (s.heap.push { cls := .type "tuple", data := .seq vs.toArray }) := fun _ _ e => Heap.get?_push_of_some _ e
  exact ⟨.tup (Heap.get?_push_size _ rfl) rfl rfl (h.mono g.tup), R.grows g _⟩
theorem WE_Tuple {es : List Expr} {k : Nat} {pos : Pos} (h : WEs X c env es m σ (fun xs σ' => Q (.tup xs) σ') Ex) (hn : es.all noStar = true := by with_unfolding_all rfl) (hl : es.length ≤ 1000 := by decide) : WE X c env (.Tuple es k pos) m σ Q Ex := fun A bs s hA R => by
  rw [arm_eval_Tuple]
  refine wpAny_bind (wpAny_standAt (wpAny_bind (wpAny_mono (thenL hn hA R h) (fun vs s₁ h₁ => ?_) fun _ _ e => e)))
  obtain ⟨xs, σ₁, h1, R₁, hlen, h3⟩ := h₁
  obtain ⟨k1, k2⟩ := R₁.pushTup h1
  exact wpAny_newTuple ⟨_, σ₁, k1, k2, h3⟩ (by rw [sizeLine_eq]; omega)
theorem Rel.pushList (R : Rel X bs L m σ s) {vs : List Value} {xs : List V} {n : Nat} (h : VRs s.heap.get? vs xs) :
    Fresh σ s.heap.objs.size ∧ Rel X bs L m (σ.set s.heap.objs.size (.list xs)) { s with heap := s.heap.push { cls := .type "list", data := .seq vs.toArray n } } := by
  have g : Grows s.heap (s.heap.push { cls := .type "list", data := .seq vs.toArray n }) := fun _ _ e => Heap.get?_push_of_some _ e
  have hf : s.heap.get? s.heap.objs.size = none := by
    cases e : s.heap.get? s.heap.objs.size with
    | none => rfl
    | some o => exact absurd (Heap.lt_size e) (Nat.lt_irrefl _)
  refine ⟨R.fresh hf, R.new (po := .list xs) g hf (fun d e => by cases e) ⟨vs.toArray, ⟨n, Heap.get?_push_size _ rfl⟩, ?_⟩ _⟩
  simpa using h.mono g.tup
theorem WE_List {es : List Expr} {pos : Pos} (h : WEs X c env es m σ (fun xs σ' => ∀ a, Fresh σ' a → Q (.ref a) (σ'.set a (.list xs))) Ex) (hn : es.all noStar = true := by with_unfolding_all rfl) (hl : es.length ≤ 1000 := by decide) : WE X c env (.List es pos) m σ Q Ex := fun A bs s hA R => by
  rw [arm_eval_List]
  refine wpAny_bind (wpAny_standAt (wpAny_bind (wpAny_mono (thenL hn hA R h) (fun vs s₁ h₁ => ?_) fun _ _ e => e)))
  obtain ⟨xs, σ₁, h1, R₁, hlen, h3⟩ := h₁
  obtain ⟨k1, k2⟩ := R₁.pushList (n := 0) h1
  exact wpAny_newList ⟨.ref _, _, .ref _, k2, h3 _ k1⟩ (by rw [sizeLine_eq]; omega)

/-! subscripts -/
theorem VR.isTup {u : Value} {xs : List V} (h : VR s.heap.get? u (.tup xs)) : ∃ a vs, u = .ref a ∧ IsTup s.heap a vs.toArray ∧ VRs s.heap.get? vs xs := by
  cases h with
  | tup e h1 h2 r => exact ⟨_, _, rfl, ⟨_, e, h1, _, h2⟩, r⟩
theorem WE_Subscript {value slice : Expr} {pos : Pos} (h : WE X c env value m σ (fun x σ₁ => WE X c env slice m σ₁ (fun y σ₂ => W2 X c (subscriptTail value slice) x y σ₂ Q Ex) Ex) Ex) : WE X c env (.Subscript value slice pos) m σ Q Ex :=
  fun _ _ _ hA R => Subscript_ (then2 hA R h)
/-- the slice is no slice -/
def isSlice : Expr → Bool
  | .Slice _ _ _ _ => true
  | _ => false
theorem sub_tup {value slice : Expr} {xs : List V} {k : Int} {j : Nat} {x : V} (h1 : -(2 ^ 63) ≤ k) (h2 : k < 2 ^ 63) (hj : seqIndex? k xs.length = some j) (hx : xs[j]? = some x) (h : Q x σ)
    (hs : ∀ o i, subscripted slice false o i = operate [o, i] (getItem o i) := by intro _ _; with_unfolding_all rfl) : W2 X c (subscriptTail value slice) (.tup xs) (.int k) σ Q Ex := fun A bs L m s u v hA R hu hv => by
  cases hv
  obtain ⟨a, vs, rfl, ht, hr⟩ := hu.isTup
  obtain ⟨v, hv, hvr⟩ := hr.get hx
  exact item_tupleT ht h1 h2 (by rw [hr.length]; exact hj) hv ⟨x, σ, hvr, R, h⟩ (hs _ _)
theorem sub_list {value slice : Expr} {a : Addr} {xs : List V} {k : Int} {x : V} (ha : σ a = some (.list xs)) (h1 : 0 ≤ k) (h2 : k < 2 ^ 63) (hx : xs[k.toNat]? = some x) (h : Q x σ)
    (hs : ∀ o i, subscripted slice false o i = operate [o, i] (getItem o i) := by intro _ _; with_unfolding_all rfl) : W2 X c (subscriptTail value slice) (.ref a) (.int k) σ Q Ex := fun A bs L m s u v hA R hu hv => by
  cases hv; cases hu
  obtain ⟨vs, hp, hr⟩ := R.st a _ ha; have hl := hp.isList
  obtain ⟨v, hv, hvr⟩ := hr.get hx
  exact tail_any hl.typeIs slot_list_getitem.lookup (wpAny_getItem_list hl h1 h2 (by rw [← Array.getElem?_toList]; exact hv) ⟨x, σ, hvr, R, h⟩) (hs _ _)
theorem sub_list_neg {value slice : Expr} {a : Addr} {xs : List V} {k : Int} {x : V} (ha : σ a = some (.list xs)) (h0 : k < 0) (h1 : -(xs.length : Int) ≤ k) (h2 : -(2 ^ 63) ≤ k) (hx : xs[(k + xs.length).toNat]? = some x) (h : Q x σ)
    (hs : ∀ o i, subscripted slice false o i = operate [o, i] (getItem o i) := by intro _ _; with_unfolding_all rfl) : W2 X c (subscriptTail value slice) (.ref a) (.int k) σ Q Ex := fun A bs L m s u v hA R hu hv => by
  cases hv; cases hu
  obtain ⟨vs, hp, hr⟩ := R.st a _ ha; have hl := hp.isList
  obtain ⟨v, hv, hvr⟩ := hr.get hx
  have hlen : vs.size = xs.length := by rw [← Array.length_toList, hr.length]
  exact tail_any hl.typeIs slot_list_getitem.lookup (wpAny_getItem_list_neg hl h0 (by rw [hlen]; exact h1) h2 (by rw [← Array.getElem?_toList, hlen]; exact hv) ⟨x, σ, hvr, R, h⟩) (hs _ _)

/-! assignment to a name -/
theorem WX_Assign {x : Str} {p pos : Pos} {e : Expr} (h : WE X c env e m σ (fun v σ' => N (m.set x v) σ') Ex) (hk : env.scope.kind = .function := by with_unfolding_all rfl) (hl : env.kindOf x = some .local := by with_unfolding_all rfl)
    (hs : swapsWith e (some (.Name x p)) pos.line env = pure false := by with_unfolding_all rfl) : WX X c env (.Assign [.Name x p] e pos) m σ N O Ex := fun A bs s hA R => by
  refine wpAny_Assign_Name (wpAny_mono (h A bs s hA R) (fun u s₁ h₁ => ?_) fun _ _ e => e) hs
  obtain ⟨v, σ', h1, R₁, h3⟩ := h₁
  obtain ⟨mm, hn, hm⟩ := R₁.loc
  exact wpAny_storeName_local hl hn (fun h' hn' hs' => ⟨m.set x v, σ', R₁.setLoc hm hn' hs' h1 _, h3⟩) (by rw [hk]; rfl)
theorem WX_AssignCell {x : Str} {p pos : Pos} {e : Expr} {a : Addr} {w : Option V} (ha : env.cells.lookup x = some a) (h : WE X c env e m σ (fun v σ' => (∃ w, σ' a = some (.cell w)) ∧ N m (σ'.set a (.cell (some v)))) Ex) (hk : env.scope.kind = .function := by with_unfolding_all rfl) (hl : env.kindOf x = some .cell := by with_unfolding_all rfl)
    (hs : swapsWith e (some (.Name x p)) pos.line env = pure false := by with_unfolding_all rfl) : WX X c env (.Assign [.Name x p] e pos) m σ N O Ex := fun A bs s hA R => by
  refine wpAny_Assign_Name (wpAny_mono (h A bs s hA R) (fun u s₁ h₁ => ?_) fun _ _ e => e) hs
  obtain ⟨v, σ', h1, R₁, ⟨w, hw⟩, h3⟩ := h₁
  obtain ⟨u₀, hc, _⟩ := R₁.st a _ hw
  refine wpAny_storeName_cell hk hl ha hc fun h' hc' hs' => ⟨m, _, R₁.upd (po' := .cell (some v)) hw rfl rfl hs' ⟨some u, hc', ?_⟩ _, h3⟩
  exact h1.mono (R₁.ht hw rfl hs')
end
end Zl

set_option maxRecDepth 100000
namespace Zl
section
variable {X : Cx} {bs : Bs} {L : Addr} {m : Loc} {σ : Store} {s : Shared} {c : Lim} {A : Around} {Q : V → Store → Prop} {Ex : Exn} {env : Env} {N : Loc → Store → Prop} {O : Fl → Loc → Store → Prop} {T F : Store → Prop}

theorem VR.handed {g : Gt} {u : Value} {x : V} (h : VR g u x) (hx : x.known = true) : handedIn u = true := by
  cases h <;> first | rfl | cases hx

theorem Rel.inst (R : Rel X bs L m σ s) {a C d : Addr} {fs : List (Str × V)} (ha : σ a = some (.inst C d fs)) : ∃ es n, InstAt s.heap a (instObj C d) C (some (dictOf es n)) ∧ s.heap.get? d = some (dictOf es n) ∧ FRel s.heap.get? es fs := by
  obtain ⟨h1, es, n, h2, h3⟩ := R.st a _ ha
  exact ⟨es, n, ⟨h1, rfl, rfl, h2⟩, h2, h3⟩

/-- what the walk asks of a class of the text's own -/
structure Cls (X : Cx) (C : Addr) : Prop where
  get : plainGet X.K C (Str.ofString "") = true
  dict : hasDictIn X.K C = true
  set : findIn X.K (.ref C) "__setattr__" = some (some (.builtin "object.__setattr__"))
  over : plainOver X.K C = true

/-- no attribute of the class bears this name -/
def NoAttr (X : Cx) (C : Addr) (name : Str) : Prop := findIn X.K (.ref C) name = some none

theorem attr_inst {a C d : Addr} {fs : List (Str × V)} {name : Str} {x : V} (ok : X.Ok) (ha : σ a = some (.inst C d fs)) (hC : Cls X C) (hn : NoAttr X C name) (hx : getF name fs = some x) (hk : x.known = true) (h : Q x σ) :
    W1 X c (fun o => getAttr o name true) (.ref a) σ Q Ex := fun A bs L m s u hA R hu => by
  cases hu
  obtain ⟨es, n, I, hd, hf⟩ := R.inst ha
  obtain ⟨v, hv, hr⟩ := hf.get hx
  exact get_value (R.kin ok) I (plainGet_of hC.get).1 (findObj_own hC.dict hn rfl hv) (hr.handed hk) ⟨x, σ, hr, R.tok _, h⟩

def notSuper : Expr → Bool
  | .Call (.Name _ _) [] [] _ => false
  | _ => true
theorem attributeBase_of {o : Expr} {attr : Str} {whole : Sem Value} (h : notSuper o = true) : attributeBase o attr env whole = whole := by
  unfold attributeBase
  split
  · cases h
  · rfl

theorem wpAny_dropTemp {M : Model} {E : Value → Shared → Prop} {base : Expr} {o r : Value} {P : Unit → Shared → Prop} (h : P () s) : wpAny (model X.prog X.w) A (letTemporaryGo base o r) P E s := wpAny_letTemporaryGo h

theorem WE_Attribute {o : Expr} {attr : Str} {pos : Pos} (h : WE X c env o m σ (fun x σ₁ => W1 X c (fun v => getAttr v attr true) x σ₁ Q Ex) Ex) (hn : notSuper o = true := by with_unfolding_all rfl) : WE X c env (.Attribute o attr pos) m σ Q Ex := fun A bs s hA R => by
  rw [arm_eval_Attribute, attributeBase_of hn]
  refine wpAny_bind (wpAny_mono (then1 hA R h) (fun u s₁ h₁ => wpAny_bind (wpAny_standAt (wpAny_bind (wpAny_holding (wpAny_mono h₁ (fun r s₂ h₂ => ?_) fun _ _ e => e))))) fun _ _ e => e)
  exact wpAny_bind (wpAny_letTemporaryGo (wpAny_pure h₂))

theorem set_at {E : Value → Shared → Prop} {prog : Program} {w : World} {K : Frag} {x C dx : Addr} {es : List DictEntry} {n : Nat} {name : Str} {v : Value} {P : Unit → Shared → Prop} (Y : K.In s.heap) (I : InstAt s.heap x (instObj C dx) C (some (dictOf es n)))
    (hs : findIn K (.ref C) "__setattr__" = some (some (.builtin "object.__setattr__"))) (hp : plainOver K C = true) (ht : takerIn K C name = some none) (hh : hasDictIn K C = true) (hr : es.any (·.refKey) = false) (hz : es.length < 1000)
    (h : ∀ h', Heap.SameBut dx s.heap h' → h'.get? dx = some (dictOf (putL name (PyData.keyHash w.params name) (.str name (s.toks + 1)) v es) (putN name es n)) → P () { s with heap := h', toks := s.toks + 2 }) :
    wpAny (model prog w) A (setAttr (.ref x) name v) P E s := by
  refine set_plain Y I hs (osa_open (s := { s with toks := s.toks + 1 }) Y I hp ht fun b => ?_)
  obtain ⟨cd, hc, hd'⟩ := any_some hh
  have D : s.heap.get? dx = some (dictOf es n) := I.dict
  have Y' : K.In ({ s with toks := s.toks + 1 } : Shared).heap := Y
  refine wpAny_bind (wpAny_pure (wpAny_bind (wpAny_bind (wpAny_loadPart I.at_ (wpAny_bind ((looks_clsIn Y' hc).here ?_))))))
  rw [hd']
  refine wpAny_pure (a := some dx) (wpAny_bind (wpAny_pure (wpAny_bind ?_)))
  unfold nsSet
  refine wpAny_bind (wpAny_bind (wpAny_askSetting (wpAny_pure (wpAny_bind (wpAny_mkText (wpAny_bind (wpAny_loadPart D ?_)))))))
  dsimp only
  have cc : (!es.toArray.any (·.key.isStr name) && es.toArray.any (·.refKey)) = false := by
    have : es.toArray.any (·.refKey) = false := by rw [← Array.any_toList]; exact hr
    rw [this, Bool.and_false]
  rw [aRefKeyMayBeTheName_at, cc]
  have D' : (s.heap.update dx (Obj.putName name (PyData.keyHash w.params name) (.str name (s.toks + 1)) v)).get? dx = some (dictOf (putL name (PyData.keyHash w.params name) (.str name (s.toks + 1)) v es) (putN name es n)) := by
    rw [← putName_dict]
    exact Heap.get?_update_self _ D (by rw [putName_dict]; rfl)
  refine wpAny_updatePart D ?_
  refine wpAny_bind (wpAny_lookBehind D' (pastItsLine_dict ?_) ?_)
  · rw [List.size_toArray, sizeLine_eq]
    have : (putL name (PyData.keyHash w.params name) (.str name (s.toks + 1)) v es).length ≤ es.length + 1 := by
      clear D' D cc hr I h hz
      generalize PyData.keyHash w.params name = k
      induction es with
      | nil => simp [putL]
      | cons e r ih => unfold putL; split <;> simp_all
    omega
  · exact wpAny_pure (h _ (Heap.SameBut.update ..) D')

theorem takerIn_none {K : Frag} {C : Addr} {name : Str} (h : findIn K (.ref C) name = some none) : takerIn K C name = some none := by unfold takerIn; rw [h]; rfl

theorem putF_length {name : Str} {x : V} : ∀ {fs : List (Str × V)}, (putF name x fs).length ≤ fs.length + 1
  | [] => Nat.le_refl _
  | (n, y) :: r => by
    unfold putF
    split
    · simp
    · have := putF_length (name := name) (x := x) (fs := r)
      simp only [List.length_cons]; omega

/-- o.attr = value -/
theorem WX_AssignAttr {o value : Expr} {attr : Str} {p pos : Pos} (ok : X.Ok)
    (h : WE X c env value m σ (fun v σ₁ => WE X c env o m σ₁ (fun x σ₂ => ∃ a C d fs, x = .ref a ∧ σ₂ a = some (.inst C d fs) ∧ Cls X C ∧ NoAttr X C attr ∧ fs.length < 1000 ∧ N m (σ₂.set a (.inst C d (putF attr v fs)))) Ex) Ex)
    (hs : swapsWith value (some (.Attribute o attr p)) pos.line env = pure false := by with_unfolding_all rfl) : WX X c env (.Assign [.Attribute o attr p] value pos) m σ N O Ex := fun A bs s hA R => by
  refine plainObj_wpAny_Assign_Attribute (wpAny_mono (h A bs s hA R) (fun u s₁ h₁ => ?_) fun _ _ e => e) hs
  obtain ⟨x, σ₁, h1, R₁, h3⟩ := h₁
  have le := R₁.le
  refine wpAny_mono (h3 A _ s₁ (by exact hA) R₁.rest) (fun ov s₂ h₂ => ?_) fun _ _ e => e.le le
  obtain ⟨y, σ₂, k1, R₂', a, C, d, fs, rfl, ha, hC, hn, hl, hN⟩ := h₂
  cases k1
  have hu := R₂'.liftVR (R₁.keepVR h1)
  have R₂ := R₂'.weaken le R.top
  obtain ⟨es, n, I, hd, hf⟩ := R₂.inst ha
  refine set_at (R₂.kin ok) I hC.set hC.over (takerIn_none hn) hC.dict hf.noRef (by rw [hf.length]; exact hl) fun h' hs' hd' => ⟨m, _, R₂.upd (po' := .inst C d (putF attr x fs)) ha rfl rfl hs' ⟨?_, _, _, hd', ?_⟩ _, hN⟩
  · exact (hs'.2 a fun q => by
      have := R₂.wf.apart _ _ _ _ ha
      rw [← q, ha] at this; cases this).trans I.at_
  · have ht := R₂.ht ha rfl hs'
    exact (hf.mono ht).put (hu.mono ht)

/-! calls -/
def CPost (X : Cx) (bs : Bs) (L : Addr) (m : Loc) (Q : V → Store → Prop) (Ex : Exn) (r : Result) (s' : Shared) : Prop := match r with
  | .ok (.ret v) => VPost X bs L m Q v s'
  | .ok _ => False
  | .error e => XE X bs L Ex e s'
def WC (X : Cx) (c : Lim) (f : Addr) (xs : List V) (σ : Store) (Q : V → Store → Prop) (Ex : Exn) : Prop :=
  ∀ A bs L m s us, OKA A c bs.frs → Rel X bs L m σ s → VRs s.heap.get? us xs → codeAny X.M A (.call (.ref f) ⟨us, []⟩) (CPost X bs L m Q Ex) s
theorem WN_call {f : Addr} {xs : List V} (h : WC X c f xs σ Q Ex) : WN X c (fun us => call (.ref f) us) xs σ Q Ex := fun A bs L m s us hA R hu => wpAny_call (codeAny_mono (h A bs L m s us hA R hu) fun r s' h' => by
  rcases r with e | (v | _ | _ | _) <;> exact h')

theorem evalArgs_any {f : Value} {args : List Expr} {pos : Pos} {E : Value → Shared → Prop} {P : Args → Shared → Prop} (hn : args.all noStar = true) (h : wpAny X.M A (spliced (backTo pos (starEach args env))) (fun vs s' => P ⟨vs, []⟩ s') E s) :
    wpAny X.M A (evalArgs f true (backTo pos (starEach args env)) []) P E s := by
  cases args with
  | nil =>
    unfold evalArgs
    show wpAny X.M A (spliced [] >>= _) P E s
    refine wpAny_bind (wpAny_mono h (fun vs s' h' => ?_) fun _ _ e => e)
    refine wpAny_bind (wpAny_pure ?_)
    refine wpAny_holding ?_
    exact wpAny_bind (wpAny_pure (wpAny_bind (wpAny_pure (wpAny_pure h'))))
  | cons e es =>
    simp only [List.all_cons, Bool.and_eq_true] at hn
    rw [backTo_cons hn.1] at h ⊢
    exact evalArgs_plain h

theorem plain_backTo {args : List Expr} {pos : Pos} : args.all noStar = true → (backTo pos (starEach args env)).any (·.1) = false := by
  induction args with
  | nil => intro _; rfl
  | cons e es ih =>
    intro hn
    simp only [List.all_cons, Bool.and_eq_true] at hn
    rw [backTo_cons hn.1, List.any_cons, ih hn.2]; rfl

/-- f(args): the arguments, then the call -/
theorem callWith_any {f : Value} {first : List Value} {xs : List V} {args : List Expr} {pos : Pos} (ok : X.Ok) (hA : OKA A c bs.frs) (R : Rel X bs env.locals m σ s) (hk : keepIn X.K f = true) (hf : VRs s.heap.get? first xs) (hn : args.all noStar = true)
    (h : WEs X c env args m σ (fun ys σ' => WN X c (fun us => call f us) (xs ++ ys) σ' Q Ex) Ex) :
    wpAny X.M A (callWith pos f first (backTo pos (starEach args env)) []) (VPost X bs env.locals m Q) (XE X bs env.locals Ex) s := by
  refine callWith_of (P := X.K.In) (by rw [plain_backTo hn]; rfl) (keeps_K hk) (evalArgs_any hn ?_)
  have le := R.le
  have kept : ∀ {vs : List Value} {ys : List V}, VRs s.heap.get? vs ys → VRs (restB bs env.locals σ s.heap).b vs ys := by
    intro vs ys h
    induction vs generalizing ys with
    | nil => cases h; exact .nil
    | cons v vs ih => cases h with | cons a r => exact .cons (R.keepVR a) (ih r)
  have hf' := kept hf
  refine wpAny_mono (thenL (bs := restB bs env.locals σ s.heap) hn (by exact hA) R.rest h) (fun vs s₁ h₁ => ?_) fun _ _ e => e.le le
  obtain ⟨ys, σ₁, h1, R₁, _, h3⟩ := h₁
  refine ⟨R₁.kin ok, ?_⟩
  refine wpAny_mono (h3 A _ env.locals m s₁ (first ++ vs) (by exact hA) R₁ (VRs.append (hf'.mono fun a o _ _ e _ _ => R₁.base a o e) h1)) (fun v s₂ h₂ => h₂.le le R.top) fun _ _ e => e.le le

theorem WEs.mono {es : List Expr} {P P' : List V → Store → Prop} (h : WEs X c env es m σ P Ex) (k : ∀ xs σ', P xs σ' → P' xs σ') : WEs X c env es m σ P' Ex := by
  induction es generalizing σ P P' with
  | nil => exact k _ _ h
  | cons e es ih => exact WP.mono h fun x σ₁ h₁ => ih h₁ fun xs σ₂ => k _ _

theorem WE_Call {id : Str} {p pos : Pos} {args : List Expr} {f : Addr} (ok : X.Ok) (e : nsIn X.K mainGlobals id = some (some (.ref f))) (hk : keepIn X.K (.ref f) = true)
    (h : WEs X c env args m σ (fun xs σ' => WC X c f xs σ' Q Ex) Ex) (hn : args.all noStar = true := by with_unfolding_all rfl)
    (hfk : env.scope.kind = .function := by with_unfolding_all rfl) (hg : env.globals = mainGlobals := by with_unfolding_all rfl) (hl : env.kindOf id = some .globalImplicit := by with_unfolding_all rfl) (hd : (id == ("__debug__" : Str)) = false := by decide) :
    WE X c env (.Call (.Name id p) args [] pos) m σ Q Ex := fun A bs s hA R => by
  rw [arm_eval_Call_Name']
  refine wpAny_bind (Name_function_global hfk hl (loadGlobal_global (hg ▸ ok.top.g.keeps R.hT) (mg_of ok.kin ok.top.g e) ?_) hd)
  exact callWith_any (xs := []) ok hA R hk .nil hn (h.mono fun _ _ k => WN_call k)

/-- o.name(args), a method of the text's own -/
theorem WE_Meth {o : Expr} {name : Str} {apos pos : Pos} {args : List Expr} (ok : X.Ok)
    (h : WE X c env o m σ (fun x σ₁ => ∃ a C d fs f, x = .ref a ∧ σ₁ a = some (.inst C d fs) ∧ Cls X C ∧ findIn X.K (.ref C) name = some (some (.ref f)) ∧ typeIn X.K (.ref f) = some (.type "function") ∧ keepIn X.K (.ref f) = true ∧ getF name fs = none ∧
      WEs X c env args m σ₁ (fun ys σ' => WC X c f (.ref a :: ys) σ' Q Ex) Ex) Ex)
    (hn : args.all noStar = true := by with_unfolding_all rfl) (hns : notSuper o = true := by with_unfolding_all rfl) (hlen : args.length < 30 := by decide) (hline : (apos.endLine == pos.line) = true := by with_unfolding_all rfl) :
    WE X c env (.Call (.Attribute o name apos) args [] pos) m σ Q Ex := fun A bs s hA R => by
  rw [arm_eval_Call, attributeBase_of hns]
  refine wpAny_bind (wpAny_mono (h A bs s hA R) (fun u s₁ h₁ => wpAny_bind (wpAny_standAt ?_)) fun _ _ e => e)
  obtain ⟨x, σ₁, h1, R₁, a, C, d, fs, f, rfl, ha, hC, hf, hft, hk, hg, h3⟩ := h₁
  cases h1
  obtain ⟨es, n, I, hd, hF⟩ := R₁.inst ha
  have few : methodCallForm (args.length + ([] : List Keyword).length) (backTo pos (starEach args env)) (backToKw pos (keywordEach [] env)) = true := by
    unfold methodCallForm
    have h1 : (backTo pos (starEach args env)).all (!·.1) = true := by
      have := plain_backTo (env := env) (pos := pos) hn
      rw [List.any_eq_false] at this
      rw [List.all_eq_true]
      intro x hx
      simpa using this x hx
    simp [h1, backToKw, keywordEach, hlen]
  unfold methodCall
  rw [few]
  refine wpAny_bind (wpAny_holding ?_)
  show wpAny _ _ (getMethod _ _ _) _ _ _
  refine method_fn (R₁.kin ok) I (plainGet_of hC.get).1 (plainGet_of hC.get).2 hf hft (by show (lookIn name (dictOf es n)).map _ = _; rw [lookIn_dict, hF.miss hg]; rfl) ?_
  refine wpAny_bind ?_
  unfold methodCallPos
  rw [if_pos (by rw [hline]; rfl)]
  refine wpAny_pure ?_
  exact callWith_any (xs := [.ref a]) ok hA R₁ hk (.cons (.ref a) .nil) hn (h3.mono fun _ _ k => WN_call k)
end
end Zl

set_option maxRecDepth 100000
namespace Zl
section
variable {X : Cx} {bs : Bs} {L : Addr} {m : Loc} {σ : Store} {s : Shared} {c : Lim} {A : Around} {Q : V → Store → Prop} {Ex : Exn} {env : Env} {N : Loc → Store → Prop} {O : Fl → Loc → Store → Prop} {T F : Store → Prop}

/-- what stands around a callee -/
noncomputable def callB (bs : Bs) (L : Addr) (σ : Store) (h : Heap) (env' : Env) : Bs :=
  { b := (restB bs L σ h).b, d := fun a => if a = L then (h.get? L).map (·.data) else bs.d a, frs := env' :: bs.frs }

theorem heap_fresh (h : Heap) : h.get? h.objs.size = none := by
  cases e : h.get? h.objs.size with
  | none => rfl
  | some o => exact absurd (Heap.lt_size e) (Nat.lt_irrefl _)
theorem heap_beyond {h : Heap} {a : Addr} (ha : h.objs.size ≤ a) : h.get? a = none := by
  cases e : h.get? a with
  | none => rfl
  | some o => exact absurd (Heap.lt_size e) (Nat.not_lt.mpr ha)

theorem Rel.lObj (R : Rel X bs L m σ s) : ∃ o es ep, s.heap.get? L = some o ∧ o.data = .dict es ep := by
  obtain ⟨_, ⟨o, es, ep, ho, hd, _⟩, _⟩ := R.loc
  exact ⟨o, es, ep, ho, hd⟩

theorem Rel.enter (R : Rel X bs L m σ s) {h₁ : Heap} {mm : Str → Option Value} {m' : Loc} {env' : Env} (hf : env'.frame = some s.heap.objs.size) (hk : env'.scope.kind = .function) (hns : h₁.Ns s.heap.objs.size mm)
    (g : Grows s.heap h₁) (hm : ∀ x v, m' x = some v → ∃ u, mm x = some u ∧ VR s.heap.get? u v) (tk : Nat) : Rel X (callB bs L σ s.heap env') s.heap.objs.size m' σ { s with heap := h₁, toks := tk } := by
  obtain ⟨oL, es, ep, hoL, hdL⟩ := R.lObj
  have hdL' : (callB bs L σ s.heap env').d L = some (.dict es ep) := by simp [callB, hoL, hdL]
  have hd_ne : ∀ {a}, a ≠ L → (callB bs L σ s.heap env').d a = bs.d a := fun h => if_neg h
  have nofresh : ∀ {a}, (∃ o, s.heap.get? a = some o) → a ≠ s.heap.objs.size := fun ⟨o, e⟩ q => by rw [q, heap_fresh] at e; cases e
  have hLne : L ≠ s.heap.objs.size := nofresh ⟨_, hoL⟩
  refine ⟨?_, fun a o e => R.in_rest (R.top a o e), fun a o e => g _ _ (restB_some e), fun a d e => ?_, ⟨mm, hns, fun x v e => ?_⟩, fun a o e => (R.st a o e).grows g, ⟨?_, ?_⟩, fun a q => ⟨?_, ?_, ?_⟩, R.wf, fun e he => ?_, fun a o e => ?_, fun a d e vs n q => ?_⟩
  · rw [R.sh]
  · by_cases h : a = L
    · subst h; rw [hdL'] at e; cases e; exact ⟨oL, g _ _ hoL, hdL⟩
    · rw [hd_ne h] at e; obtain ⟨o, ho, hd⟩ := R.data a d e; exact ⟨o, g _ _ ho, hd⟩
  · obtain ⟨u, hu, hv⟩ := hm x v e; exact ⟨u, hu, hv.mono g.tup⟩
  · cases e : (callB bs L σ s.heap env').b s.heap.objs.size with
    | none => rfl
    | some o => have := restB_some e; rw [heap_fresh] at this; cases this
  · rw [hd_ne (Ne.symm hLne)]
    cases e : bs.d s.heap.objs.size with
    | none => rfl
    | some d => obtain ⟨o, ho, _⟩ := R.data _ d e; rw [heap_fresh] at ho; cases ho
  · exact (R.rest.own a q).1
  · rw [hd_ne (R.own a q).2.2]; exact (R.own a q).2.1
  · exact nofresh (R.own_there q)
  · rcases List.mem_cons.mp he with rfl | he
    · refine ⟨by rw [hk]; decide, _, hf, ?_, .inl rfl⟩
      cases e : (callB bs L σ s.heap e).b s.heap.objs.size with
      | none => rfl
      | some o => have := restB_some e; rw [heap_fresh] at this; cases this
    · obtain ⟨h1, F, hF, hb, h2⟩ := R.rest.frs e he
      refine ⟨h1, F, hF, hb, .inr ?_⟩
      rcases h2 with rfl | ⟨d, hd, hn⟩
      · exact ⟨_, hdL', fun vs q => by cases q⟩
      · have : F ≠ L := fun q => by subst q; have := R.dL.2; rw [show bs.d F = some d from hd] at this; cases this
        exact ⟨d, by rw [hd_ne this]; exact hd, hn⟩
  · have h1 := R.rest.dis a o e
    have : a ≠ L := fun q => by subst q; have := R.rest.dL.1; rw [show (restB bs a σ s.heap).b a = some o from e] at this; cases this
    rw [hd_ne this]; exact h1
  · by_cases h : a = L
    · subst h; rw [hdL'] at e; cases e; cases q
    · rw [hd_ne h] at e; exact R.dseq a d e vs n q

theorem Rel.leave (R : Rel X bs L m σ s) {L' : Addr} {m' : Loc} {σ' : Store} {s' : Shared} {env' : Env} (R' : Rel X (callB bs L σ s.heap env') L' m' σ' s') : Rel X bs L m σ' s' := by
  obtain ⟨oL, es, ep, hoL, hdL⟩ := R.lObj
  have hdL' : (callB bs L σ s.heap env').d L = some (.dict es ep) := by simp [callB, hoL, hdL]
  have hd_ne : ∀ {a}, a ≠ L → (callB bs L σ s.heap env').d a = bs.d a := fun h => if_neg h
  refine ⟨R'.sh, R.top, fun a o e => R'.base a o (R.in_rest e), fun a d e => ?_, ?_, R'.st, R.dL, fun a q => ?_, R'.wf, R.frs, R.dis, R.dseq⟩
  · have : a ≠ L := fun q => by subst q; rw [R.dL.2] at e; cases e
    exact R'.data a d (by rw [hd_ne this]; exact e)
  · obtain ⟨mm, ⟨o, es', ep', ho, hd, hs, hf⟩, hm⟩ := R.loc
    rw [hoL] at ho; cases ho
    rw [hdL] at hd; cases hd
    obtain ⟨o', ho', hd'⟩ := R'.data L _ hdL'
    refine ⟨mm, ⟨o', es, ep, ho', hd', hs, hf⟩, fun x v e => ?_⟩
    obtain ⟨u, hu, hv⟩ := hm x v e
    exact ⟨u, hu, R'.liftVR (R.keepVR hv)⟩
  · obtain ⟨h1, h2, _⟩ := R'.own a q
    have hL : a ≠ L := fun e => by subst e; rw [hdL'] at h2; cases h2
    refine ⟨?_, by rw [hd_ne hL] at h2; exact h2, hL⟩
    cases e : bs.b a with
    | none => rfl
    | some o => rw [show (callB bs L σ s.heap env').b a = some o from R.in_rest e] at h1; cases h1

def locOf (l : List (Str × V)) : Loc := fun y => l.reverse.lookup y

theorem lookup_zip_rel {g : Gt} : ∀ {names : List Str} {us : List Value} {xs : List V}, VRs g us xs → ∀ {y : Str} {v : V}, (names.zip xs).lookup y = some v → ∃ u, (names.zip us).lookup y = some u ∧ VR g u v
  | [], _, _, _, _, _, e => by simp at e
  | n :: ns, _, _, .nil, _, _, e => by simp at e
  | n :: ns, _, _, .cons a r, y, v, e => by
    simp only [List.zip_cons_cons, List.lookup_cons] at e ⊢
    cases h : y == n with
    | true => simp only [h] at e ⊢; cases e; exact ⟨_, rfl, a⟩
    | false => simp only [h] at e ⊢; exact lookup_zip_rel r e
theorem VRs.snoc {g : Gt} {us : List Value} {xs : List V} {u : Value} {x : V} (h : VRs g us xs) (k : VR g u x) : VRs g (us ++ [u]) (xs ++ [x]) := h.append (.cons k .nil)
theorem VRs.rev {g : Gt} : ∀ {us : List Value} {xs : List V}, VRs g us xs → VRs g us.reverse xs.reverse
  | _, _, .nil => .nil
  | _, _, .cons a r => by rw [List.reverse_cons, List.reverse_cons]; exact (VRs.rev r).snoc a
theorem zip_rev {α β : Type} : ∀ {l : List α} {k : List β}, l.length = k.length → (l.zip k).reverse = l.reverse.zip k.reverse
  | [], [], _ => rfl
  | a :: l, b :: k, h => by
    have h' : l.length = k.length := Nat.succ.inj h
    rw [List.zip_cons_cons, List.reverse_cons, List.reverse_cons, List.reverse_cons, zip_rev h', List.zip_append (by simp [h'])]; rfl
theorem lookup_rev_rel {g : Gt} {names : List Str} {us : List Value} {xs : List V} (h : VRs g us xs) (hl : names.length = xs.length) {y : Str} {v : V} (e : locOf (names.zip xs) y = some v) : ∃ u, (names.zip us).reverse.lookup y = some u ∧ VR g u v := by
  unfold locOf at e
  have h1 : names.length = us.length := by rw [hl, h.length]
  rw [zip_rev hl] at e
  rw [zip_rev h1]
  exact lookup_zip_rel h.rev e

/-- how a callee's end is a call's end -/
def RetO (Q : V → Store → Prop) : Fl → Loc → Store → Prop
  | .ret x, _, σ => Q x σ
  | _, _, _ => False

def Lim.down (c : Lim) : Lim := { c with n := c.n - 1 }

theorem OKA.down {env' : Env} {frs : List Env} (h : OKA A c frs) (hc : 1 ≤ c.n) : OKA (A.deeper env') c.down (env' :: frs) := by
  obtain ⟨h1, h2, h3, h4⟩ := h
  refine ⟨h1, ?_, ?_, ?_⟩
  · show A.depth + 1 + (c.n - 1) ≤ 900; omega
  · show A.units + 3 + 60 * (c.n - 1) ≤ 9000; omega
  · exact Around.frames_deeper h4
theorem OKA.room {frs : List Env} (h : OKA A c frs) : A.depth < recursionLimit := by
  have := h.2.1; unfold recursionLimit; omega

/-- a def of the text's: its body, once entered -/
theorem WC_def {f : Addr} {xs : List V} {name qual : Str} {params : Arguments} {body : List Stmt} {scope : Scope} {dV kV doc pm cdv ct oc : Value} {an od : Option Addr} {osl : Array (Option Value)} (names : List Str) (ok : X.Ok)
    (ho : X.K.lookup f = some ⟨oc, od, .func (fnOf name qual params body scope dV kV doc pm an cdv ct), osl⟩) (hcd : codeIn X.K cdv qual = true) (hc : 1 ≤ c.n) (hlen : names.length = xs.length)
    (hb : ∀ us : List Value, us.length = names.length → bindArgs (fnOf name qual params body scope dV kV doc pm an cdv ct) ⟨us, []⟩ = pure (names.zip us))
    (hloc : ∀ x ∈ names, scope.names.lookup x = some .local)
    (h : ∀ L', WS X c.down (envX qual scope L' f cdv []) body (locOf (names.zip xs)) σ (fun _ σ' => Q .none σ') (RetO Q) Ex)
    (hcell : ∀ x ∈ scope.names, x.2 ≠ .cell := by decide) (hco : scope.isCoroutine = false := by with_unfolding_all rfl) (hgen : scope.isGenerator = false := by with_unfolding_all rfl) (hk : scope.kind = .function := by with_unfolding_all rfl) : WC X c f xs σ Q Ex := fun A bs L m s us hA R hu => by
  have hul : us.length = names.length := by rw [hu.length, hlen]
  refine codeAny_call_def (fd := fnOf name qual params body scope dV kV doc pm an cdv ct) (body := body) (binds := names.zip us) hA.room (R.kin ok _ _ ho) rfl (ok.top.nolimit.keeps R.hT) (codeRec_of (R.kin ok) hcd) rfl (.of_eq (hb us hul)) hcell (fun y hy => hloc _ (List.of_mem_zip hy).1) (fun h₁ hns g => ?_) hco hgen hk
  have R₁ := R.enter (env' := envX qual scope s.heap.objs.size f cdv []) rfl hk hns g (fun x v e => lookup_rev_rel hu hlen e) (s.toks + (names.zip us).length)
  refine wpAny_mono (h s.heap.objs.size (A.deeper (envX qual scope s.heap.objs.size f cdv [])) _ _ (hA.down hc) R₁) (fun fl s' h' => ?_) fun _ _ e => e.elim
  obtain ⟨m', σ', R', k⟩ := h'
  cases fl with
  | next => exact (⟨.none, σ', .none, R.leave R', k⟩ : VPost X bs L m Q .none s')
  | brk => exact k.elim
  | cont => exact k.elim
  | ret v => obtain ⟨x, hx, hq⟩ := k; exact (⟨x, σ', hx, R.leave R', hq⟩ : VPost X bs L m Q v s')

/-- an instance is made: __init__ upon a new one without fields -/
theorem OKA.under {frs : List Env} {C : Addr} {vals : List Value} (h : OKA A c frs) (hc : 1 ≤ c.n) : OKA (A.under (.builtin "type.__call__" ⟨.ref C :: vals, []⟩)) c.down frs := by
  obtain ⟨h1, h2, h3, h4⟩ := h
  refine ⟨h1, ?_, ?_, h4⟩
  · show A.depth + 1 + (c.n - 1) ≤ 900; omega
  · show A.units + 1 + 60 * (c.n - 1) ≤ 9000; omega

theorem WC_make {C fI : Addr} {xs : List V} (ok : X.Ok) (hm : makesIn X.K C = true) (hi : findIn X.K (.ref C) "__init__" = some (some (.ref fI))) (hf : typeIn X.K (.ref fI) = some (.type "function")) (hc : 1 ≤ c.n)
    (h : ∀ a d, Fresh σ a → Fresh σ d → WC X c.down fI (.ref a :: xs) (σ.set a (.inst C d [])) (fun x σ' => x = .none ∧ Q (.ref a) σ') Ex) : WC X c C xs σ Q Ex := fun A bs L m s us hA R hu => by
  obtain ⟨hh, g, d, t, os⟩ := s
  refine make_core (makes_of (R.kin ok) hm) (looks_findIn (R.kin ok) hi) (fun self => bind_fn (R.kin ok) self hf) (.inl rfl) ?_
  have gr : Grows hh ((hh.push emptyDict).push (instObj C hh.objs.size)) := fun _ _ e => Heap.get?_push_of_some _ (Heap.get?_push_of_some _ e)
  have e1 : hh.get? (hh.objs.size + 1) = none := heap_beyond (Nat.le_succ _)
  have e2 : hh.get? hh.objs.size = none := heap_fresh hh
  have k1 : ((hh.push emptyDict).push (instObj C hh.objs.size)).get? (hh.objs.size + 1) = some (instObj C hh.objs.size) := by
    have := Heap.get?_push_size (hh.push emptyDict) (o := instObj C hh.objs.size) rfl
    rwa [Heap.size_push] at this
  have k2 : ((hh.push emptyDict).push (instObj C hh.objs.size)).get? hh.objs.size = some (dictOf [] 0) := Heap.get?_push_of_some _ (Heap.get?_push_size hh rfl)
  have R₁ := R.new (a := hh.objs.size + 1) (po := .inst C hh.objs.size []) gr e1 (fun d' q => by cases q; exact ⟨e2, Nat.ne_of_lt (Nat.lt_succ_self _)⟩) ⟨k1, [], 0, k2, .nil⟩ t
  refine codeAny_mono (h (hh.objs.size + 1) hh.objs.size (R.fresh e1) (R.fresh e2) (A.under (.builtin "type.__call__" ⟨.ref C :: us, []⟩)) bs L m _ (.ref (hh.objs.size + 1) :: us) (hA.under hc) R₁ (.cons (.ref _) (hu.mono gr.tup))) fun r s' h' => ?_
  rcases r with e | (v | _ | _ | v)
  · exact h'
  · exact h'
  · exact h'
  · exact h'
  · obtain ⟨x, σ', h1, h2, rfl, h3⟩ := h'
    cases h1
    exact ⟨rfl, ⟨.ref _, σ', .ref _, h2, h3⟩⟩
end
end Zl

set_option maxRecDepth 100000
namespace Zl
section
variable {X : Cx} {bs : Bs} {L : Addr} {m : Loc} {σ : Store} {s : Shared} {c : Lim} {A : Around} {Q : V → Store → Prop} {Ex : Exn} {env : Env} {N : Loc → Store → Prop} {O : Fl → Loc → Store → Prop} {T F : Store → Prop}

/-- nothing is raised -/
def noEx : Exn := fun _ _ => False
theorem XE.no {v : Value} (h : XE X bs L noEx v s) : False := h

/-! more of the ints -/
theorem pow_int {i j : Int} (h0 : 0 ≤ j) (h1 : j ≤ 1000000) (h2 : i.natAbs < 2 ^ 64) (h : Q (.int (i ^ j.toNat)) σ) : W2 X c (binaryOp .Pow) (.int i) (.int j) σ Q Ex := fun A bs L m s u v hA R hu hv => by
  cases hu; cases hv; exact pow_int_small h0 h1 h2 ⟨_, σ, .int _ _, R.tok _, h⟩
theorem WE_UnaryOp {op : UnaryOp} {e : Expr} {pos : Pos} (h : WE X c env e m σ (fun x σ₁ => W1 X c (unaryOp op) x σ₁ Q Ex) Ex) : WE X c env (.UnaryOp op e pos) m σ Q Ex := fun A bs s hA R => by
  rw [arm_eval_UnaryOp]
  exact wpAny_bind (wpAny_mono (then1 hA R h) (fun u s₁ h₁ => wpAny_bind (wpAny_standAt (wpAny_holding h₁))) fun _ _ e => e)
theorem neg_int {i : Int} (h : Q (.int (-i)) σ) : W1 X c (unaryOp .USub) (.int i) σ Q Ex := fun A bs L m s u hA R hu => by
  cases hu; exact P.neg_int ⟨_, σ, .int _ _, R.tok _, h⟩
theorem truth_int {i : Int} (hT : i ≠ 0 → T σ) (hF : i = 0 → F σ) : Truth X c (.int i) σ T F Ex := fun A bs L m s u hA R hu => by
  cases hu; exact P.truthy_int ⟨σ, R, (fun e => hT (by simpa using e)), fun e => hF (by simpa using e)⟩
theorem truth_list {a : Addr} {xs : List V} (ha : σ a = some (.list xs)) (hz : xs.length < 2 ^ 63) (hT : xs ≠ [] → T σ) (hF : xs = [] → F σ) : Truth X c (.ref a) σ T F Ex := fun A bs L m s u hA R hu => by
  cases hu
  obtain ⟨vs, hp, hr⟩ := R.st a _ ha; have hl := hp.isList
  have hlen : vs.size = xs.length := by rw [← Array.length_toList, hr.length]
  refine wpAny_truthy_list hl (by rw [hlen]; exact_mod_cast hz) ?_
  refine ⟨σ, R.tok _, fun e => hT ?_, fun e => hF ?_⟩
  · rintro rfl
    have : vs.size = 0 := hlen
    simp [Array.isEmpty, this] at e
  · have h0 : vs.size = 0 := by simpa [Array.isEmpty] using e
    exact List.length_eq_zero_iff.mp (by rw [← hlen, h0])

/-! and, or as values -/
def WAndV (X : Cx) (c : Lim) (env : Env) : List Expr → Loc → Store → (V → Store → Prop) → Exn → Prop
  | [], _, _, _, _ => False
  | [e], m, σ, Q, Ex => WE X c env e m σ Q Ex
  | e :: es, m, σ, Q, Ex => WE X c env e m σ (fun x σ₁ => Truth X c x σ₁ (fun σ₂ => WAndV X c env es m σ₂ Q Ex) (fun σ₂ => Q x σ₂) Ex) Ex
def WOrV (X : Cx) (c : Lim) (env : Env) : List Expr → Loc → Store → (V → Store → Prop) → Exn → Prop
  | [], _, _, _, _ => False
  | [e], m, σ, Q, Ex => WE X c env e m σ Q Ex
  | e :: es, m, σ, Q, Ex => WE X c env e m σ (fun x σ₁ => Truth X c x σ₁ (fun σ₂ => Q x σ₂) (fun σ₂ => WOrV X c env es m σ₂ Q Ex) Ex) Ex
theorem boolOp_And {pos : Pos} : ∀ {es : List Expr} {σ : Store} {s : Shared} {bs : Bs}, OKA A c bs.frs → Rel X bs env.locals m σ s → WAndV X c env es m σ Q Ex → wpAny X.M A (boolOp pos .And (evalEach es env)) (VPost X bs env.locals m Q) (XE X bs env.locals Ex) s
  | [], _, _, _, _, _, h => h.elim
  | [e], σ, s, bs, hA, R, h => h A bs s hA R
  | e :: e' :: es, σ, s, bs, hA, R, h => by
    show wpAny _ _ (do let v ← eval e env; standAt pos; let t ← holding [v] (truthy v); match BoolOp.And, t with | .And, false | .Or, true => pure v | _, _ => boolOp pos .And (evalEach (e' :: es) env)) _ _ _
    refine wpAny_bind (wpAny_mono (h A bs s hA R) (fun v s₁ h₁ => wpAny_bind (wpAny_standAt (wpAny_bind (wpAny_holding ?_)))) fun _ _ e => e)
    obtain ⟨x, σ₁, h1, R₁, h3⟩ := h₁
    have le := R₁.le
    refine wpAny_mono (h3 A _ env.locals m s₁ v (by exact hA) R₁.rest h1) (fun b s₂ h₂ => ?_) fun _ _ e => e.le le
    obtain ⟨σ₂, R₂, hT, hF⟩ := h₂
    cases b with
    | true => exact boolOp_And hA (R₂.weaken le R.top) (hT rfl)
    | false => exact wpAny_pure ⟨x, σ₂, R₂.liftVR (R₁.keepVR h1), R₂.weaken le R.top, hF rfl⟩
theorem boolOp_Or {pos : Pos} : ∀ {es : List Expr} {σ : Store} {s : Shared} {bs : Bs}, OKA A c bs.frs → Rel X bs env.locals m σ s → WOrV X c env es m σ Q Ex → wpAny X.M A (boolOp pos .Or (evalEach es env)) (VPost X bs env.locals m Q) (XE X bs env.locals Ex) s
  | [], _, _, _, _, _, h => h.elim
  | [e], σ, s, bs, hA, R, h => h A bs s hA R
  | e :: e' :: es, σ, s, bs, hA, R, h => by
    show wpAny _ _ (do let v ← eval e env; standAt pos; let t ← holding [v] (truthy v); match BoolOp.Or, t with | .And, false | .Or, true => pure v | _, _ => boolOp pos .Or (evalEach (e' :: es) env)) _ _ _
    refine wpAny_bind (wpAny_mono (h A bs s hA R) (fun v s₁ h₁ => wpAny_bind (wpAny_standAt (wpAny_bind (wpAny_holding ?_)))) fun _ _ e => e)
    obtain ⟨x, σ₁, h1, R₁, h3⟩ := h₁
    have le := R₁.le
    refine wpAny_mono (h3 A _ env.locals m s₁ v (by exact hA) R₁.rest h1) (fun b s₂ h₂ => ?_) fun _ _ e => e.le le
    obtain ⟨σ₂, R₂, hT, hF⟩ := h₂
    cases b with
    | false => exact boolOp_Or hA (R₂.weaken le R.top) (hF rfl)
    | true => exact wpAny_pure ⟨x, σ₂, R₂.liftVR (R₁.keepVR h1), R₂.weaken le R.top, hT rfl⟩
theorem WE_And {es : List Expr} {pos : Pos} (h : WAndV X c env es m σ Q Ex) : WE X c env (.BoolOp .And es pos) m σ Q Ex := fun A bs s hA R => by rw [arm_eval_BoolOp]; exact boolOp_And hA R h
theorem WE_Or {es : List Expr} {pos : Pos} (h : WOrV X c env es m σ Q Ex) : WE X c env (.BoolOp .Or es pos) m σ Q Ex := fun A bs s hA R => by rw [arm_eval_BoolOp]; exact boolOp_Or hA R h

/-! built-ins by their names -/
theorem WE_CallB {id : Str} {p pos : Pos} {args : List Expr} {f : Value} (ok : X.Ok) (e : nsIn X.K mainGlobals id = some none) (hu : bootBuiltins id = some f) (hnn : id ≠ "__name__") (hf : ∀ a, f ≠ .ref a)
    (h : WEs X c env args m σ (fun xs σ' => WN X c (fun us => call f us) xs σ' Q Ex) Ex) (hn : args.all noStar = true := by with_unfolding_all rfl)
    (hfk : env.scope.kind = .function := by with_unfolding_all rfl) (hg : env.globals = mainGlobals := by with_unfolding_all rfl) (hb : env.builtins = builtinsNs := by with_unfolding_all rfl) (hl : env.kindOf id = some .globalImplicit := by with_unfolding_all rfl) (hd : (id == ("__debug__" : Str)) = false := by decide) :
    WE X c env (.Call (.Name id p) args [] pos) m σ Q Ex := fun A bs s hA R => by
  rw [arm_eval_Call_Name']
  refine wpAny_bind (Name_function_global hfk hl (loadGlobal_builtin (hg ▸ ok.top.g.keeps R.hT) (mg_none_of ok.kin ok.top.g e) (hb ▸ ok.top.b.keeps R.hT) ((ok.top.builtins id hnn).trans hu) ?_) hd)
  have hk : ∀ h : Heap, True → ∃ k, (k = Keeper.frame ∨ k = Keeper.machine ∨ k = Keeper.boundFrame) ∧ Looks X.M h (keeperOf f) k := fun h _ => ⟨.machine, .inr (.inl rfl), Looks.of_pure (by
    cases f <;> first | rfl | exact (hf _ rfl).elim)⟩
  refine callWith_of (P := fun _ => True) (by rw [plain_backTo hn]; rfl) hk (evalArgs_any hn ?_)
  refine wpAny_mono (thenL hn hA R h) (fun vs s₁ h₁ => ?_) fun _ _ e => e
  obtain ⟨ys, σ₁, h1, R₁, _, h3⟩ := h₁
  exact ⟨trivial, h3 A bs env.locals m s₁ vs hA R₁ h1⟩

theorem VRs.one {g : Gt} {us : List Value} {x : V} (h : VRs g us [x]) : ∃ u, us = [u] ∧ VR g u x := by
  cases h with | cons a r => cases r; exact ⟨_, rfl, a⟩
theorem VRs.two {g : Gt} {us : List Value} {x y : V} (h : VRs g us [x, y]) : ∃ u v, us = [u, v] ∧ VR g u x ∧ VR g v y := by
  cases h with | cons a r => obtain ⟨v, rfl, b⟩ := r.one; exact ⟨_, _, rfl, a, b⟩

theorem len_list {a : Addr} {xs : List V} (ha : σ a = some (.list xs)) (hz : xs.length < 2 ^ 63) (h : Q (.int xs.length) σ) : WN X c (fun us => call (.builtin "len") us) [.ref a] σ Q Ex := fun A bs L m s us hA R hu => by
  obtain ⟨u, rfl, hu1⟩ := hu.one
  clear hu
  cases hu1
  obtain ⟨vs, hp, hr⟩ := R.st a _ ha; have hl := hp.isList
  have hlen : vs.size = xs.length := by rw [← Array.length_toList, hr.length]
  exact PyProof.Rows.len_list hl (by rw [hlen]; exact_mod_cast hz) ⟨_, σ, .int _ _, R.tok _, by rw [hlen]; exact h⟩
theorem len_tup {xs : List V} (hz : xs.length < 2 ^ 63) (h : Q (.int xs.length) σ) : WN X c (fun us => call (.builtin "len") us) [.tup xs] σ Q Ex := fun A bs L m s us hA R hu => by
  obtain ⟨u, rfl, hu1⟩ := hu.one
  clear hu
  obtain ⟨a, vs, rfl, ht, hr⟩ := hu1.isTup
  have hlen : vs.toArray.size = xs.length := by rw [List.size_toArray, hr.length]
  exact PyProof.Rows.len_tuple ht (by rw [hlen]; exact_mod_cast hz) ⟨_, σ, .int _ _, R.tok _, by rw [hlen]; exact h⟩

/-- the script: a list of ints that stands still -/
def Scr (X : Cx) (a : Addr) (ns : List Int) : Prop := ∃ vs : List Value, X.hT.IsList a vs.toArray ∧ IntsAre vs ns
theorem len_scr {a : Addr} {ns : List Int} (hs : Scr X a ns) (hz : ns.length < 2 ^ 63) (h : Q (.int ns.length) σ) : WN X c (fun us => call (.builtin "len") us) [.raw (.ref a)] σ Q Ex := fun A bs L m s us hA R hu => by
  obtain ⟨u, rfl, hu1⟩ := hu.one
  clear hu
  cases hu1
  obtain ⟨vs, hl, hi⟩ := hs
  have hlen : vs.toArray.size = ns.length := by rw [List.size_toArray, hi.length]
  exact PyProof.Rows.len_list (hl.at fun o e => R.hT _ o e) (by rw [hlen]; exact_mod_cast hz) ⟨_, σ, .int _ _, R.tok _, by rw [hlen]; exact h⟩
theorem sub_scr {value slice : Expr} {a : Addr} {ns : List Int} {k : Int} {n : Int} (hs : Scr X a ns) (h1 : 0 ≤ k) (h2 : k < 2 ^ 63) (hx : ns[k.toNat]? = some n) (h : Q (.int n) σ)
    (hsl : ∀ o i, subscripted slice false o i = operate [o, i] (getItem o i) := by intro _ _; with_unfolding_all rfl) : W2 X c (subscriptTail value slice) (.raw (.ref a)) (.int k) σ Q Ex := fun A bs L m s u v hA R hu hv => by
  cases hv; cases hu
  obtain ⟨vs, hl, hi⟩ := hs
  obtain ⟨t, ht⟩ := hi.get k.toNat n hx
  exact tail_any (hl.at fun o e => R.hT _ o e).typeIs slot_list_getitem.lookup (wpAny_getItem_list (hl.at fun o e => R.hT _ o e) h1 h2 (by simpa using ht) ⟨.int n, σ, .int _ _, R, h⟩) (hsl _ _)

/-- the type of a value -/
def typeV (σ : Store) : V → Option Value
  | .none => some (.type "NoneType")
  | .bool _ => some (.type "bool")
  | .int _ => some (.type "int")
  | .str _ => some (.type "str")
  | .tup _ => some (.type "tuple")
  | .ref a => match σ a with
    | some (.list _) => some (.type "list")
    | _ => none
  | .raw _ => none
theorem isinstance_one {x : V} {t cv : Value} {b : Bool} (ok : X.Ok) (ht : typeV σ x = some t) (e : kitOne X.K t cv = some b) (h : Q (.bool b) σ) : WN X c (fun us => call (.builtin "isinstance") us) [x, .raw cv] σ Q Ex := fun A bs L m s us hA R hu => by
  obtain ⟨u, v, rfl, hu1, hv⟩ := hu.two
  clear hu
  cases hv
  have fin : ∀ tk, VPost X bs L m Q (.bool b) { s with toks := tk } := fun tk => ⟨_, σ, .bool b, R.tok _, h⟩
  cases hu1 with
  | none => cases ht; exact kia_one kitx_none (R.kin ok) trivial e (by intro q; cases q) fin
  | bool b' => cases ht; exact kia_one kitx_bool (R.kin ok) trivial e (by intro q; cases q) fin
  | int i tk => cases ht; exact kia_one kitx_int (R.kin ok) trivial e (by intro q; cases q) fin
  | str y tk => cases ht; exact kia_one kitx_str (R.kin ok) trivial e (by intro q; cases q) fin
  | tup e1 e2 e3 e4 => cases ht; exact kia_one kitx_tuple (R.kin ok) ⟨_, e1, e2⟩ e (by intro q; cases q) fin
  | ref a =>
    unfold typeV at ht
    dsimp only at ht
    split at ht
    · rename_i xs hq
      cases ht
      obtain ⟨vs, hp, _⟩ := R.st a _ hq; obtain ⟨o, ho, hc, _⟩ := hp.isList
      exact kia_one kitx_list (R.kin ok) ⟨o, ho, hc⟩ e (by intro q; cases q) fin
    · cases ht
  | raw => cases ht


/-! chains of two comparisons -/
theorem wpAny_release' {M : Model} {E : Value → Shared → Prop} {vs keep : List Value} {P : Unit → Shared → Prop} (h : P () s) : wpAny M A (release vs keep) P E s := fun Γ p _ => by rw [Sem.wp_release]; exact h
theorem wpAny_operate' {M : Model} {E : Value → Shared → Prop} {vs : List Value} {t : Sem Value} {P : Value → Shared → Prop} (h : wpAny M A t P E s) : wpAny M A (operate vs t) P E s := fun Γ p hΓ => by rw [Sem.wp_operate]; exact h Γ p hΓ
theorem WE_Compare2 {l e1 e2 : Expr} {op1 op2 : CmpOp} {pos : Pos}
    (h : WE X c env l m σ (fun x σ₁ => WE X c env e1 m σ₁ (fun y σ₂ => W2 X c (compareOp op1) x y σ₂ (fun z σ₃ => Truth X c z σ₃ (fun σ₄ => WE X c env e2 m σ₄ (fun w σ₅ => W2 X c (compareOp op2) y w σ₅ Q Ex) Ex) (fun σ₄ => Q z σ₄) Ex) Ex) Ex) Ex)
    (hm : behindInMarks op2 e2 = false := by with_unfolding_all rfl) : WE X c env (.Compare l [op1, op2] [e1, e2] pos) m σ Q Ex := fun A bs s hA R => by
  rw [arm_eval_Compare]
  refine wpAny_bind (wpAny_mono (h A bs s hA R) (fun u s₁ h₁ => ?_) fun _ _ e => e)
  obtain ⟨x, σ₁, h1, R₁, h3⟩ := h₁
  show wpAny _ _ (compareChain pos u [op1, op2] [eval e1 env, markedBehindIn op2 e2 (eval e2 env)]) _ _ _
  rw [markedBehindIn_of_false hm]
  unfold compareChain
  have le₁ := R₁.le
  refine wpAny_bind (wpAny_holding (wpAny_mono (h3 A _ s₁ (by exact hA) R₁.rest) (fun v s₂ h₂ => ?_) fun _ _ e => e.le le₁))
  obtain ⟨y, σ₂, k1, R₂, k3⟩ := h₂
  have le₂ := R₂.le
  have kv := R₂.keepVR k1
  refine wpAny_bind (wpAny_standAt (wpAny_bind (wpAny_holding (wpAny_mono (k3 A _ env.locals m s₂ u v (by exact hA) R₂.rest (R₂.liftVR (R₁.keepVR h1)) k1) (fun w s₃ h₃ => ?_) fun _ _ e => (e.le le₂).le le₁))))
  obtain ⟨z, σ₃, q1, R₃, q3⟩ := h₃
  have le₃ := R₃.le
  refine wpAny_bind (wpAny_release' ?_)
  refine wpAny_bind (wpAny_holding (wpAny_mono (q3 A _ env.locals m s₃ w (by exact hA) R₃.rest q1) (fun b s₄ h₄ => ?_) fun _ _ e => ((e.le le₃).le le₂).le le₁))
  obtain ⟨σ₄, R₄, hT, hF⟩ := h₄
  have top₁ : ∀ a o, X.hT.get? a = some o → (restB bs env.locals σ₁ s₁.heap).b a = some o := R₁.rest.top
  cases b with
  | false => exact wpAny_pure ⟨z, σ₄, R₄.liftVR (R₃.keepVR q1), ((R₄.weaken le₃ R₃.top).weaken le₂ top₁).weaken le₁ R.top, hF rfl⟩
  | true =>
    rw [if_pos rfl]
    unfold compareChain
    have R₄' := R₄.weaken le₃ R₃.top
    have le₄ := R₄'.le
    refine wpAny_bind (wpAny_holding (wpAny_mono (hT rfl A _ s₄ (by exact hA) R₄'.rest) (fun v' s₅ h₅ => ?_) fun _ _ e => ((e.le le₄).le le₂).le le₁))
    obtain ⟨y', σ₅, p1, R₅, p3⟩ := h₅
    refine wpAny_bind (wpAny_standAt ?_)
    have R₅' := R₅.weaken le₄ R₃.top
    have := p3 A _ env.locals m s₅ v v' (by exact hA) R₅' (R₅'.liftVR kv) p1
    exact wpAny_operate' (wpAny_mono this (fun r s₆ h₆ => (h₆.le le₂ top₁).le le₁ R.top) fun _ _ e => (e.le le₂).le le₁)

/-! targets of an assignment -/
def WA (X : Cx) (c : Lim) (env : Env) (t : Expr) (v : V) (m : Loc) (σ : Store) (N : Loc → Store → Prop) : Prop :=
  ∀ A bs s u, OKA A c bs.frs → Rel X bs env.locals m σ s → VR s.heap.get? u v → wpAny X.M A (assign t env u) (fun _ s' => ∃ m' σ', Rel X bs env.locals m' σ' s' ∧ N m' σ') (fun _ _ => False) s
theorem WA_Name {x : Str} {pos : Pos} {v : V} (h : N (m.set x v) σ) (hk : env.scope.kind = .function := by with_unfolding_all rfl) (hl : env.kindOf x = some .local := by with_unfolding_all rfl) : WA X c env (.Name x pos) v m σ N := fun A bs s u hA R hu => by
  obtain ⟨mm, hn, hm⟩ := R.loc
  exact wpAny_assign_Name (wpAny_storeName_local hl hn (fun h' hn' hs' => ⟨m.set x v, σ, R.setLoc hm hn' hs' hu _, h⟩) (by rw [hk]; rfl))
end
end Zl

set_option maxRecDepth 100000
namespace Zl
section
variable {X : Cx} {bs : Bs} {L : Addr} {m : Loc} {σ : Store} {s : Shared} {c : Lim} {A : Around} {Q : V → Store → Prop} {Ex : Exn} {env : Env} {N : Loc → Store → Prop} {O : Fl → Loc → Store → Prop} {T F : Store → Prop}

theorem not_of {x : V} (h : Truth X c x σ (fun σ' => Q (.bool false) σ') (fun σ' => Q (.bool true) σ') Ex) : W1 X c (unaryOp .Not) x σ Q Ex := fun A bs L m s u hA R hu => by
  refine PyProof.Rows.not_of (wpAny_mono (h A bs L m s u hA R hu) (fun b s' h' => ?_) fun _ _ e => e)
  obtain ⟨σ', R', hT, hF⟩ := h'
  cases b with
  | true => exact ⟨_, σ', .bool false, R', hT rfl⟩
  | false => exact ⟨_, σ', .bool true, R', hF rfl⟩

/-! iterators: objects that no one but the loop sees -/
inductive Src where
  | range (a : Int) (n : Nat)
  | list (ax : Addr)
  | enum (ax : Addr)

def IterAt (h : Heap) (I : Addr) (J : Addr) : Src → Nat → Prop
  | .range a n, i => IsRangeIter h I (a + i) ((n : Int) - i) 1
  | .list ax, i => h.IsListIter I ax i
  | .enum ax, i => (∃ old, IsEnum h I J i old) ∧ h.IsListIter J ax i ∧ I ≠ J

/-- the objects that an iterator is made of -/
def fpOf (I J : Addr) : Src → List Addr
  | .enum _ => [I, J]
  | _ => [I]

/-- what an iterator will hand out, all in all -/
def itemsOf (σ : Store) : Src → Option (List V)
  | .range a n => some ((List.range n).map fun (i : Nat) => .int (a + i))
  | .list ax => match σ ax with
    | some (.list xs) => some xs
    | _ => none
  | .enum ax => match σ ax with
    | some (.list xs) => some (xs.zipIdx.map fun p => .tup [.int p.2, p.1])
    | _ => none

/-- a place that nobody owns -/
def Loose (bs : Bs) (L : Addr) (σ : Store) (I : Addr) : Prop := bs.b I = none ∧ bs.d I = none ∧ I ≠ L ∧ ¬ Own σ I

theorem OAt.ext {h h' : Heap} {a : Addr} {po : PO} {S : List Addr} (k : OAt X h a po) (hs : ∀ b o, b ∉ S → h.get? b = some o → h'.get? b = some o) (ht : TupKeep h.get? h'.get?) (h1 : a ∉ S) (h2 : ∀ C d fs, po = .inst C d fs → d ∉ S) : OAt X h' a po := by
  cases po with
  | list xs => obtain ⟨vs, ⟨n, ho⟩, q⟩ := k; exact ⟨vs, ⟨n, hs _ _ h1 ho⟩, q.mono ht⟩
  | inst C d fs =>
    obtain ⟨ha, es, n, hd, hf⟩ := k
    exact ⟨hs _ _ h1 ha, es, n, hs _ _ (h2 _ _ _ rfl) hd, hf.mono ht⟩
  | sdict es => obtain ⟨kvs, ⟨o, es', ep, ho, r⟩, q⟩ := k; exact ⟨kvs, ⟨o, es', ep, hs _ _ h1 ho, r⟩, q.mono ht⟩
  | idict es => obtain ⟨kvs, ⟨o, es', ep, ho, r⟩, q⟩ := k; exact ⟨kvs, ⟨o, es', ep, hs _ _ h1 ho, r⟩, q.mono ht⟩
  | cell v =>
    obtain ⟨u, ⟨o, ho, hd⟩, q⟩ := k
    refine ⟨u, ⟨o, hs _ _ h1 ho, hd⟩, ?_⟩
    cases u <;> cases v <;> first | exact q | exact VR.mono ht q

theorem tup_touch {h h' : Heap} {S : List Addr} (hs : ∀ b o, b ∉ S → h.get? b = some o → h'.get? b = some o) (hn : ∀ I ∈ S, ∀ o vs n, h.get? I = some o → o.cls = .type "tuple" → o.data = .seq vs n → False) : TupKeep h.get? h'.get? :=
  fun a o vs n e h1 h2 => by
    by_cases hc : a ∈ S
    · exact (hn a hc o vs n e h1 h2).elim
    · exact hs a o hc e

theorem Rel.touch (R : Rel X bs L m σ s) {S : List Addr} {h' : Heap} (hS : ∀ I ∈ S, Loose bs L σ I) (hs : ∀ b o, b ∉ S → s.heap.get? b = some o → h'.get? b = some o)
    (hn : ∀ I ∈ S, ∀ o vs n, s.heap.get? I = some o → o.cls = .type "tuple" → o.data = .seq vs n → False) (tk : Nat) : Rel X bs L m σ { s with heap := h', toks := tk } := by
  have ht := tup_touch hs hn
  obtain ⟨sh, top, base, data, ⟨mm, hN, hm⟩, st, dL, own, wf, frs, dis, dseq⟩ := R
  refine ⟨by rw [sh], top, fun b o e => hs b o (fun q => ?_) (base b o e), fun b d e => ?_, ⟨mm, ?_, fun x v e => ?_⟩, fun b o e => ?_, dL, own, wf, frs, dis, dseq⟩
  · rw [(hS b q).1] at e; cases e
  · obtain ⟨o, ho, hd⟩ := data b d e
    exact ⟨o, hs b o (fun q => by rw [(hS b q).2.1] at e; cases e) ho, hd⟩
  · obtain ⟨o, es, ep, ho, r⟩ := hN
    exact ⟨o, es, ep, hs _ _ (fun q => (hS L q).2.2.1 rfl) ho, r⟩
  · obtain ⟨u, hu, hv⟩ := hm x v e; exact ⟨u, hu, hv.mono ht⟩
  · refine (st b o e).ext hs ht (fun q => (hS b q).2.2.2 (.inl ⟨o, e⟩)) ?_
    rintro C d fs rfl q
    exact (hS d q).2.2.2 (.inr ⟨_, _, _, e⟩)

theorem IterAt.not_tup {h : Heap} {I J : Addr} {src : Src} {i : Nat} (k : IterAt h I J src i) : ∀ a ∈ fpOf I J src, ∀ o vs n, h.get? a = some o → o.cls = .type "tuple" → o.data = .seq vs n → False := by
  intro a ha o vs n e h1 h2
  cases src with
  | range a n => cases List.mem_singleton.mp ha; have k' : h.get? I = some _ := k; rw [e] at k'; cases k'; cases h2
  | list ax => cases List.mem_singleton.mp ha; obtain ⟨o', ho, _, hd⟩ := k; rw [e] at ho; cases ho; rw [h2] at hd; cases hd
  | enum ax =>
    obtain ⟨⟨old, h3⟩, ⟨o', ho, _, hd⟩, _⟩ := k
    rcases List.mem_cons.mp ha with rfl | ha
    · have h3' : h.get? a = some _ := h3; rw [e] at h3'; cases h3'; cases h2
    · cases List.mem_singleton.mp ha; rw [e] at ho; cases ho; rw [h2] at hd; cases hd

theorem IterAt.keep {h h' : Heap} {I J : Addr} {src : Src} {i : Nat} (k : IterAt h I J src i) (hk : ∀ a ∈ fpOf I J src, ∀ o, h.get? a = some o → h'.get? a = some o) : IterAt h' I J src i := by
  cases src with
  | range a n => exact hk I (.head _) _ k
  | list ax => obtain ⟨o, ho, r⟩ := k; exact ⟨o, hk I (.head _) o ho, r⟩
  | enum ax =>
    obtain ⟨⟨old, h3⟩, ⟨o', ho, r⟩, ne⟩ := k
    exact ⟨⟨old, hk I (.head _) _ h3⟩, ⟨o', hk J (.tail _ (.head _)) o' ho, r⟩, ne⟩

theorem IterAt.there {h : Heap} {I J : Addr} {src : Src} {i : Nat} (k : IterAt h I J src i) : ∀ a ∈ fpOf I J src, ∃ o, h.get? a = some o := by
  intro a ha
  cases src with
  | range a n => cases List.mem_singleton.mp ha; exact ⟨_, k⟩
  | list ax => cases List.mem_singleton.mp ha; obtain ⟨o, ho, _⟩ := k; exact ⟨o, ho⟩
  | enum ax =>
    obtain ⟨⟨old, h3⟩, ⟨o', ho, r⟩, _⟩ := k
    rcases List.mem_cons.mp ha with rfl | ha
    · exact ⟨_, h3⟩
    · cases List.mem_singleton.mp ha; exact ⟨_, ho⟩

def enumOnTuple (target : Expr) : Src → Bool
  | .enum _ => match target with
    | .Tuple _ _ _ => true
    | _ => false
  | _ => true

/-- one more item, and the tuple that enumerate hands out is let go -/
theorem iter_item {E : Value → Shared → Prop} {P : Value → Shared → Prop} {I J : Addr} {src : Src} {i : Nat} {xs : List V} {x : V} {target : Expr} (R : Rel X bs L m σ s) (hS : ∀ a ∈ fpOf I J src, Loose bs L σ a) (k : IterAt s.heap I J src i) (hi : itemsOf σ src = some xs) (hx : xs[i]? = some x) (het : enumOnTuple target src = true)
    (h : ∀ u h' tk, VR h'.get? u x → IterAt h' I J src (i + 1) → Rel X bs L m σ { s with heap := h', toks := tk } → P u { s with heap := h', toks := tk }) :
    wpAny X.M A (pyNext (.ref I)) (fun r s₁ => match r with | none => False | some v => wpAny X.M A (letOwnedTupleGo target (.ref I) v) (fun _ s₂ => P v s₂) E s₁) E s := by
  have pass : ∀ {I' : Addr} {v : Value} {s₁ : Shared} {PP : Unit → Shared → Prop} {o : Obj} {nm : String} {vs : Array Value}, s₁.heap.get? I' = some o → o.cls = .type nm → o.data = .fields vs →
      ["enumerate", "zip", "dict_itemiterator", "dict_reverseitemiterator", "odict_iterator", "itertools.zip_longest", "itertools.pairwise"].contains nm = false → PP () s₁ → wpAny X.M A (letOwnedTupleGo target (.ref I') v) PP E s₁ := by
    intro I' v s₁ PP o nm vs ho hc hd hnm hP
    unfold letOwnedTupleGo
    split
    · cases v <;> first | exact wpAny_pure hP | skip
      refine wpAny_bind (wpAny_load ho ?_)
      rw [hc, hd]
      dsimp only
      rw [hnm, Bool.false_and]
      exact wpAny_pure hP
    · cases v <;> first | exact wpAny_pure hP | skip
      refine wpAny_bind (wpAny_load ho ?_)
      rw [hc, hd]
      dsimp only
      rw [hnm, Bool.false_and]
      exact wpAny_pure hP
    · exact wpAny_pure hP
  cases src with
  | range a n =>
    simp only [itemsOf, Option.some.injEq] at hi
    subst hi
    have hlt : i < n := by
      have := (List.getElem?_eq_some_iff.mp hx).1
      simpa using this
    have hxe : x = .int (a + i) := by simpa [hlt] using hx.symm
    subst hxe
    refine wpAny_pyNext_range_item k (by omega) fun h' hit hs => ?_
    refine pass hit rfl rfl (by decide) (h _ h' _ (.int _ _) ?_ (R.touch hS (fun b o hb e => (hs.2 b fun q => hb (by rw [q]; exact .head _)).trans e) k.not_tup _))
    show IsRangeIter h' I _ _ 1
    have e1 : a + ((i + 1 : Nat) : Int) = a + (i : Int) + 1 := by omega
    have e2 : (n : Int) - ((i + 1 : Nat) : Int) = (n : Int) - (i : Int) - 1 := by omega
    rw [e1, e2]; exact hit
  | list ax =>
    unfold itemsOf at hi
    dsimp only at hi
    split at hi
    · rename_i ys hys
      cases hi
      obtain ⟨vs, hp, hr⟩ := R.st ax _ hys; have hl := hp.isList
      obtain ⟨v, hv, hvr⟩ := hr.get hx
      have k' : s.heap.IsListIter I ax i := k
      refine wpAny_pyNext_list_item k' hl (by rw [← Array.getElem?_toList]; exact hv) fun h' hit hs => ?_
      obtain ⟨o, ho, hc, hd⟩ := id hit
      have ht : TupKeep s.heap.get? h'.get? := tup_touch (S := [I]) (fun b o hb e => (hs.2 b fun q => hb (by rw [q]; exact .head _)).trans e) k.not_tup
      exact pass ho hc hd (by decide) (h v h' s.toks (hvr.mono ht) hit (R.touch hS (fun b o hb e => (hs.2 b fun q => hb (by rw [q]; exact .head _)).trans e) k.not_tup _))
    · cases hi
  | enum ax =>
    unfold itemsOf at hi
    dsimp only at hi
    split at hi
    · rename_i ys hys
      cases hi
      obtain ⟨vs, hp, hr⟩ := R.st ax _ hys; have hl := hp.isList
      obtain ⟨⟨old, he⟩, hit, hne⟩ := id k
      rw [List.getElem?_map] at hx
      obtain ⟨p, hp, rfl⟩ := Option.map_eq_some_iff.mp hx
      rw [List.getElem?_zipIdx] at hp
      obtain ⟨y, hy, rfl⟩ := Option.map_eq_some_iff.mp hp
      obtain ⟨v, hv, hvr⟩ := hr.get hy
      refine wpAny_pyNext_enum_item he hit hl (by rw [← Array.getElem?_toList]; exact hv) hne fun h' heo hit' ht hz hk => ?_
      cases target with
      | Tuple elts x1 pos =>
        refine wpAny_letOwnedTupleGo_enum heo fun h₂ he₂ hs₂ => ?_
        have keep : ∀ b o, b ∉ [I, J] → s.heap.get? b = some o → h₂.get? b = some o := fun b o hb e =>
          (hs₂.2 b fun q => hb (by rw [q]; exact .head _)).trans (hk b o (fun q => hb (by rw [q]; exact .head _)) (fun q => hb (by rw [q]; exact .tail _ (.head _))) e)
        have htk : TupKeep s.heap.get? h₂.get? := tup_touch keep k.not_tup
        have hI : I < s.heap.objs.size := Heap.lt_size he
        obtain ⟨oj, hoj, rj⟩ := hit'
        refine h _ h₂ _ ?_ ⟨⟨_, by exact_mod_cast he₂⟩, ⟨oj, (hs₂.2 J (Ne.symm hne)).trans hoj, rj⟩, hne⟩ (R.touch hS keep k.not_tup _)
        refine .tup (o := { cls := .type "tuple", data := .seq #[.int i s.toks, v] }) (vs := [.int i s.toks, v]) (n := 0) ((hs₂.2 _ (Nat.ne_of_gt hI)).trans ht) rfl rfl (.cons ?_ (.cons (hvr.mono htk) .nil))
        simpa using VR.int (g := h₂.get?) (i : Int) s.toks
      | _ => cases het
    · cases hi

theorem iter_end {E : Value → Shared → Prop} {P : Shared → Prop} {I J : Addr} {src : Src} {i : Nat} {xs : List V} (hh : A.handled = none) (R : Rel X bs L m σ s) (hS : ∀ a ∈ fpOf I J src, Loose bs L σ a) (k : IterAt s.heap I J src i) (hi : itemsOf σ src = some xs) (hx : xs.length = i)
    (h : ∀ h' tk, Rel X bs L m σ { s with heap := h', toks := tk } → P { s with heap := h', toks := tk }) :
    wpAny X.M A (pyNext (.ref I)) (fun r s₁ => match r with | none => P s₁ | some v => False) E s := by
  cases src with
  | range a n =>
    simp only [itemsOf, Option.some.injEq] at hi
    subst hi
    have hlt : i = n := by simpa using hx.symm
    exact wpAny_pyNext_range_end hh k (by omega) fun h' hs => h h' s.toks (R.touch hS (fun b o hb e => hs b o (fun q => hb (by rw [q]; exact .head _)) e) k.not_tup _)
  | list ax =>
    unfold itemsOf at hi
    dsimp only at hi
    split at hi
    · rename_i ys hys
      cases hi
      obtain ⟨vs, hp, hr⟩ := R.st ax _ hys; have hl := hp.isList
      have k' : s.heap.IsListIter I ax i := k
      have hlen : vs.size = i := by rw [← Array.length_toList, hr.length, hx]
      exact wpAny_pyNext_list_end hh k' hl (by rw [Array.getElem?_eq_none]; omega) fun h' hs => h h' s.toks (R.touch hS (fun b o hb e => hs b o (fun q => hb (by rw [q]; exact .head _)) e) k.not_tup _)
    · cases hi
  | enum ax =>
    unfold itemsOf at hi
    dsimp only at hi
    split at hi
    · rename_i ys hys
      cases hi
      obtain ⟨vs, hp, hr⟩ := R.st ax _ hys; have hl := hp.isList
      obtain ⟨⟨old, he⟩, hit, hne⟩ := id k
      have hlen : vs.size = i := by rw [← Array.length_toList, hr.length, ← hx]; simp
      exact wpAny_pyNext_enum_end hh he hit hl (by rw [Array.getElem?_eq_none]; omega) fun h' hs => h h' s.toks (R.touch hS (fun b o hb e => hs b o (fun q => hb (by rw [q]; exact .tail _ (.head _))) e) k.not_tup _)
    · cases hi
end
end Zl

set_option maxRecDepth 100000
namespace Zl
section
variable {X : Cx} {bs : Bs} {L : Addr} {m : Loc} {σ : Store} {s : Shared} {c : Lim} {A : Around} {Q : V → Store → Prop} {Ex : Exn} {env : Env} {N : Loc → Store → Prop} {O : Fl → Loc → Store → Prop} {T F : Store → Prop}

theorem evalCallB {E : Value → Shared → Prop} {P : Value → Shared → Prop} {id : Str} {p pos : Pos} {args : List Expr} {f : Value} (ok : X.Ok) (R : Rel X bs L m σ s) (e : nsIn X.K mainGlobals id = some none) (hu : bootBuiltins id = some f) (hnn : id ≠ "__name__") (hf : ∀ a, f ≠ .ref a)
    (h : wpAny X.M A (spliced (backTo pos (starEach args env))) (fun vs s₁ => wpAny X.M A (call f vs) P E s₁) E s) (hn : args.all noStar = true)
    (hfk : env.scope.kind = .function) (hg : env.globals = mainGlobals) (hb : env.builtins = builtinsNs) (hl : env.kindOf id = some .globalImplicit) (hd : (id == ("__debug__" : Str)) = false) :
    wpAny X.M A (eval (.Call (.Name id p) args [] pos) env) P E s := by
  rw [arm_eval_Call_Name']
  refine wpAny_bind (Name_function_global hfk hl (loadGlobal_builtin (hg ▸ ok.top.g.keeps R.hT) (mg_none_of ok.kin ok.top.g e) (hb ▸ ok.top.b.keeps R.hT) ((ok.top.builtins id hnn).trans hu) ?_) hd)
  have hk : ∀ h : Heap, True → ∃ k, (k = Keeper.frame ∨ k = Keeper.machine ∨ k = Keeper.boundFrame) ∧ Looks X.M h (keeperOf f) k := fun h _ => ⟨.machine, .inr (.inl rfl), Looks.of_pure (by
    cases f <;> first | rfl | exact (hf _ rfl).elim)⟩
  refine callWith_of (P := fun _ => True) (by rw [plain_backTo hn]; rfl) hk (evalArgs_any hn ?_)
  exact wpAny_mono h (fun vs s₁ h₁ => ⟨trivial, h₁⟩) fun _ _ e => e

/-- what is walked over: the value, its iterator -/
def WI (X : Cx) (c : Lim) (env : Env) (iter : Expr) (m : Loc) (σ : Store) (K : Src → Store → Prop) (Ex : Exn) : Prop :=
  ∀ A bs s, OKA A c bs.frs → Rel X bs env.locals m σ s → wpAny X.M A (eval iter env) (fun x s₁ => wpAny X.M A (pyIter x) (fun it s₂ =>
    ∃ I J src σ', it = .ref I ∧ IterAt s₂.heap I J src 0 ∧ (∀ a ∈ fpOf I J src, Loose bs env.locals σ' a) ∧ Rel X bs env.locals m σ' s₂ ∧ K src σ') (XE X bs env.locals Ex) s₁) (XE X bs env.locals Ex) s

theorem Rel.loose (R : Rel X bs L m σ s) {a : Addr} (h : s.heap.get? a = none) : Loose bs L σ a := by
  refine ⟨?_, ?_, ?_, R.fresh h⟩
  · cases e : bs.b a with
    | none => rfl
    | some o => have := R.base a o e; rw [h] at this; cases this
  · cases e : bs.d a with
    | none => rfl
    | some d => obtain ⟨o, ho, _⟩ := R.data a d e; rw [h] at ho; cases ho
  · rintro rfl; obtain ⟨o, _, _, ho, _⟩ := R.lObj; rw [h] at ho; cases ho

variable {K : Src → Store → Prop}

theorem WI_list {iter : Expr} (h : WE X c env iter m σ (fun x σ' => ∃ a xs, x = .ref a ∧ σ' a = some (.list xs) ∧ K (.list a) σ') Ex) : WI X c env iter m σ K Ex := fun A bs s hA R => by
  refine wpAny_mono (h A bs s hA R) (fun u s₁ h₁ => ?_) fun _ _ e => e
  obtain ⟨x, σ₁, h1, R₁, a, xs, rfl, ha, hK⟩ := h₁
  cases h1
  obtain ⟨vs, hp, hr⟩ := R₁.st a _ ha; have hl := hp.isList
  have g : Grows s₁.heap (s₁.heap.push { cls := .type "list_iterator", data := .fields #[.ref a, .int 0 0] }) := fun _ _ e => Heap.get?_push_of_some _ e
  refine wpAny_pyIter_list hl ⟨_, 0, .list a, σ₁, rfl, ⟨_, Heap.get?_push_size _ rfl, rfl, rfl⟩, fun b hb => ?_, R₁.grows g _, hK⟩
  cases List.mem_singleton.mp hb
  exact R₁.loose (heap_fresh _)

theorem iter_range {a b : Int} {t u v : Tok} {r : Addr} {E : Value → Shared → Prop} (R : Rel X bs L m σ s) (hr : IsRange s.heap r a b 1 t u v) (h1 : -(2 ^ 62) ≤ a) (h2 : a < 2 ^ 62) (h3 : -(2 ^ 62) ≤ b) (h4 : b < 2 ^ 62) (hK : K (.range a (b - a).toNat) σ) :
    wpAny X.M A (pyIter (.ref r)) (fun it s₂ => ∃ I J src σ', it = .ref I ∧ IterAt s₂.heap I J src 0 ∧ (∀ a ∈ fpOf I J src, Loose bs L σ' a) ∧ Rel X bs L m σ' s₂ ∧ K src σ') E s := by
  refine wpAny_pyIter_range hr (small_one h1 h2 h3 h4) ?_
  have g : Grows s.heap (s.heap.push { cls := .type "range_iterator", data := .fields #[rawInt a, rawInt (Builtin.Range.rangeSize a b 1), rawInt 1] }) := fun _ _ e => Heap.get?_push_of_some _ e
  refine ⟨_, 0, .range a (b - a).toNat, σ, rfl, ?_, fun b hb => ?_, R.grows g _, hK⟩
  · show Heap.get? _ _ = some _
    have e : Builtin.Range.rangeSize a b 1 = (((b - a).toNat : Nat) : Int) - ((0 : Nat) : Int) := by
      rw [rangeSize_one]; split <;> omega
    have e2 : a = a + ((0 : Nat) : Int) := by simp
    have := Heap.get?_push_size s.heap (o := { cls := .type "range_iterator", data := .fields #[rawInt a, rawInt (Builtin.Range.rangeSize a b 1), rawInt 1] }) rfl
    rw [e] at this ⊢
    simpa using this
  · cases List.mem_singleton.mp hb
    exact R.loose (heap_fresh _)

theorem WI_range1 {e : Expr} {p pos : Pos} (ok : X.Ok) (hg : nsIn X.K mainGlobals (Str.ofString "range") = some none) (h : WE X c env e m σ (fun x σ' => ∃ n : Int, x = .int n ∧ -(2 ^ 62) ≤ n ∧ n < 2 ^ 62 ∧ K (.range 0 n.toNat) σ') Ex) (hn : noStar e = true := by with_unfolding_all rfl)
    (hfk : env.scope.kind = .function := by with_unfolding_all rfl) (hgl : env.globals = mainGlobals := by with_unfolding_all rfl) (hb : env.builtins = builtinsNs := by with_unfolding_all rfl) (hl : env.kindOf (Str.ofString "range") = some .globalImplicit := by with_unfolding_all rfl) : WI X c env (.Call (.Name (Str.ofString "range") p) [e] [] pos) m σ K Ex := fun A bs s hA R => by
  refine evalCallB ok R hg Boot.range (by decide) (by intro a q; cases q) ?_ (by simp [hn]) hfk hgl hb hl (by decide)
  refine wpAny_mono (thenL (es := [e]) (Q := fun xs σ' => ∃ n : Int, xs = [.int n] ∧ -(2 ^ 62) ≤ n ∧ n < 2 ^ 62 ∧ K (.range 0 n.toNat) σ') (by simp [hn]) hA R (WP.mono h fun x σ' ⟨n, h1, h2⟩ => ⟨n, by rw [h1], h2⟩)) (fun vs s₁ h₁ => ?_) fun _ _ e => e
  obtain ⟨xs, σ₁, h1, R₁, _, n, rfl, h2, h3, hK⟩ := h₁
  obtain ⟨u, rfl, hu⟩ := h1.one
  cases hu
  refine call_range_1 ?_
  refine iter_range (R₁.grows (fun _ _ e => Heap.get?_push_of_some _ e) _) (IsRange.new ..) (by omega) (by omega) h2 h3 ?_
  rw [Int.sub_zero]; exact hK
theorem WI_range2 {e e' : Expr} {p pos : Pos} (ok : X.Ok) (hg : nsIn X.K mainGlobals (Str.ofString "range") = some none) (h : WE X c env e m σ (fun x σ' => WE X c env e' m σ' (fun y σ'' => ∃ a b : Int, x = .int a ∧ y = .int b ∧ -(2 ^ 62) ≤ a ∧ a < 2 ^ 62 ∧ -(2 ^ 62) ≤ b ∧ b < 2 ^ 62 ∧ K (.range a (b - a).toNat) σ'') Ex) Ex) (hn : noStar e = true := by with_unfolding_all rfl) (hn' : noStar e' = true := by with_unfolding_all rfl)
    (hfk : env.scope.kind = .function := by with_unfolding_all rfl) (hgl : env.globals = mainGlobals := by with_unfolding_all rfl) (hb : env.builtins = builtinsNs := by with_unfolding_all rfl) (hl : env.kindOf (Str.ofString "range") = some .globalImplicit := by with_unfolding_all rfl) : WI X c env (.Call (.Name (Str.ofString "range") p) [e, e'] [] pos) m σ K Ex := fun A bs s hA R => by
  refine evalCallB ok R hg Boot.range (by decide) (by intro a q; cases q) ?_ (by simp [hn, hn']) hfk hgl hb hl (by decide)
  refine wpAny_mono (thenL (es := [e, e']) (Q := fun xs σ' => ∃ a b : Int, xs = [.int a, .int b] ∧ -(2 ^ 62) ≤ a ∧ a < 2 ^ 62 ∧ -(2 ^ 62) ≤ b ∧ b < 2 ^ 62 ∧ K (.range a (b - a).toNat) σ') (by simp [hn, hn']) hA R (WP.mono h fun x σ' h' => WP.mono h' fun y σ'' ⟨a, b, h1, h2, h3⟩ => ⟨a, b, by rw [h1, h2], h3⟩)) (fun vs s₁ h₁ => ?_) fun _ _ e => e
  obtain ⟨xs, σ₁, h1, R₁, _, a, b, rfl, h2, h3, h4, h5, hK⟩ := h₁
  obtain ⟨u, v, rfl, hu, hv⟩ := h1.two
  cases hu; cases hv
  refine call_range_2 ?_
  exact iter_range (R₁.grows (fun _ _ e => Heap.get?_push_of_some _ e) _) (IsRange.new ..) h2 h3 h4 h5 hK
theorem WI_enum {e : Expr} {p pos : Pos} (ok : X.Ok) (hg : nsIn X.K mainGlobals (Str.ofString "enumerate") = some none) (h : WE X c env e m σ (fun x σ' => ∃ a xs, x = .ref a ∧ σ' a = some (.list xs) ∧ K (.enum a) σ') Ex) (hn : noStar e = true := by with_unfolding_all rfl)
    (hfk : env.scope.kind = .function := by with_unfolding_all rfl) (hgl : env.globals = mainGlobals := by with_unfolding_all rfl) (hb : env.builtins = builtinsNs := by with_unfolding_all rfl) (hl : env.kindOf (Str.ofString "enumerate") = some .globalImplicit := by with_unfolding_all rfl) : WI X c env (.Call (.Name (Str.ofString "enumerate") p) [e] [] pos) m σ K Ex := fun A bs s hA R => by
  refine evalCallB ok R hg Boot.enumerate (by decide) (by intro a q; cases q) ?_ (by simp [hn]) hfk hgl hb hl (by decide)
  refine wpAny_mono (thenL (es := [e]) (Q := fun xs σ' => ∃ a ys, xs = [.ref a] ∧ σ' a = some (.list ys) ∧ K (.enum a) σ') (by simp [hn]) hA R (WP.mono h fun x σ' ⟨a, ys, h1, h2⟩ => ⟨a, ys, by rw [h1], h2⟩)) (fun vs s₁ h₁ => ?_) fun _ _ e => e
  obtain ⟨xs, σ₁, h1, R₁, _, a, ys, rfl, ha, hK⟩ := h₁
  obtain ⟨u, rfl, hu⟩ := h1.one
  cases hu
  obtain ⟨vs, hp, hr⟩ := R₁.st a _ ha; have hl := hp.isList
  refine call_enumerate_list hl fun h' he hit hz hk => ?_
  refine wpAny_pyIter_enum he ⟨_, s₁.heap.objs.size, .enum a, σ₁, rfl, ⟨⟨_, he⟩, hit, Nat.ne_of_gt (Nat.lt_succ_self _)⟩, fun b hb => ?_, R₁.grows hk _, hK⟩
  rcases List.mem_cons.mp hb with rfl | hb
  · exact R₁.loose (heap_beyond (Nat.le_succ _))
  · cases List.mem_singleton.mp hb; exact R₁.loose (heap_fresh _)

/-! the loop -/
def LoopO (G : Loc → Store → Prop) (N : Loc → Store → Prop) (O : Fl → Loc → Store → Prop) : Fl → Loc → Store → Prop
  | .brk, m, σ => N m σ
  | .cont, m, σ => G m σ
  | .ret v, m, σ => O (.ret v) m σ

theorem forLoop_any {prog : Program} {w : World} {R : Result → Shared → Prop} {target it body orelse env} (I : Nat → Shared → Prop)
    (turn : ∀ n s, I n s → wpAny (model prog w) A (pyNext it) (fun r s₁ => match r with
      | none => wpAny (model prog w) A (execs orelse env) (fun f s₃ => R (.ok f) s₃) (fun _ _ => False) s₁
      | some v => wpAny (model prog w) A (letOwnedTupleGo target it v) (fun _ s₁' => wpAny (model prog w) A (assign target env v) (fun _ s₂ => wpAny (model prog w) A (execs body env) (fun f s₃ => match f with
          | .next | .cont => ∃ m, m < n ∧ I m s₃
          | .brk => R (.ok .next) s₃
          | .ret v => R (.ok (.ret v)) s₃) (fun _ _ => False) s₂) (fun _ _ => False) s₁') (fun _ _ => False) s₁) (fun _ _ => False) s)
    (n : Nat) (h : I n s) : codeAny (model prog w) A (.forLoop target it body orelse env) R s := by
  refine codeAny_loop' rfl I (fun n s hI => ?_) n h
  show wpAny _ _ ((forTurn target it body orelse env).onRaise (fun x => do noteFrame x env; theTreesLotGoes x)) _ _ s
  refine wpAny_noted ?_
  simp only [forTurn]
  refine wpAny_bind (wpAny_standAt (wpAny_bind (wpAny_onRaise (wpAny_mono (turn n s hI) (fun r s₁ h₁ => ?_) fun _ _ h' => h'.elim))))
  cases r with
  | none => exact wpAny_pure (.inr ⟨rfl, codeAny_block (wpAny_mono h₁ (fun _ _ e => e) fun _ _ e => e.elim)⟩)
  | some v =>
    refine wpAny_bind (wpAny_mono h₁ (fun _ s₁' h₁' => ?_) fun _ _ e => e.elim)
    refine wpAny_bind (wpAny_mono h₁' (fun _ s₂ h₂ => wpAny_bind (wpAny_mono h₂ (fun f s₃ h₃ => ?_) fun _ _ h' => h'.elim)) fun _ _ h' => h'.elim)
    cases f with
    | next => exact wpAny_pure (.inl ⟨rfl, h₃⟩)
    | cont => exact wpAny_pure (.inl ⟨rfl, h₃⟩)
    | brk => exact wpAny_pure h₃
    | ret v => exact wpAny_pure h₃

theorem WX_For {target iter : Expr} {body : List Stmt} {pos : Pos} (hq : c.q = true)
    (h : WI X c env iter m σ (fun src σ₁ => ∃ (xs : List V) (G : Nat → Loc → Store → Prop), enumOnTuple target src = true ∧ G 0 m σ₁ ∧ (∀ i m' σ', G i m' σ' → itemsOf σ' src = some xs) ∧
      (∀ i x m' σ', xs[i]? = some x → G i m' σ' → WA X c env target x m' σ' (fun m₂ σ₂ => WS X c env body m₂ σ₂ (G (i + 1)) (LoopO (G (i + 1)) N O) noEx)) ∧ (∀ m' σ', G xs.length m' σ' → N m' σ')) Ex)
    (hs : ∀ x, foldedSetIterable iter env x = pure x := by intro _; with_unfolding_all rfl) : WX X c env (.For target iter body [] pos) m σ N O Ex := fun A bs s hA R => by
  refine wpAny_For (wpAny_mono (h A bs s hA R) (fun u s₁ h₁ => wpAny_mono h₁ (fun it s₂ h₂ => ?_) fun _ _ e => e) fun _ _ e => e) hs
  obtain ⟨I, J, src, σ₁, rfl, hit, hS, R₁, xs, G, het, hG0, hGi, hturn, hend⟩ := h₂
  refine forLoop_any (fun k s' => ∃ i m' σ', k = xs.length + 1 - i ∧ i ≤ xs.length ∧ Rel X bs env.locals m' σ' s' ∧ (∀ a ∈ fpOf I J src, Loose bs env.locals σ' a) ∧ IterAt s'.heap I J src i ∧ G i m' σ') ?_ (xs.length + 1) ⟨0, m, σ₁, rfl, Nat.zero_le _, R₁, hS, hit, hG0⟩
  rintro k s' ⟨i, m', σ', rfl, hi, R', hS', hit', hG⟩
  have hit := hGi i m' σ' hG
  by_cases hlt : i < xs.length
  · have hx : xs[i]? = some xs[i] := by simp [hlt]
    refine wpAny_mono (iter_item (E := fun _ _ => False) (target := target) (P := fun v s₂ => wpAny X.M A (assign target env v) (fun _ s₂ => wpAny X.M A (execs body env) (fun f s₃ => match f with
          | .next | .cont => ∃ m, m < xs.length + 1 - i ∧ ∃ i m' σ', m = xs.length + 1 - i ∧ i ≤ xs.length ∧ Rel X bs env.locals m' σ' s₃ ∧ (∀ a ∈ fpOf I J src, Loose bs env.locals σ' a) ∧ IterAt s₃.heap I J src i ∧ G i m' σ'
          | .brk => FPost X bs env.locals N O .next s₃
          | .ret v => FPost X bs env.locals N O (.ret v) s₃) (fun _ _ => False) s₂) (fun _ _ => False) s₂) R' hS' hit' hit hx het ?_) (fun r s₁ h₁ => ?_) fun _ _ e => e
    · intro u h' tk hu hit₁ R₂
      have le := R₂.le
      have inb : ∀ a ∈ fpOf I J src, ∀ o, h'.get? a = some o → (restB bs env.locals σ' h').b a = some o := fun a ha o e => restB_get e (hS' a ha).2.2.2 (hS' a ha).2.2.1 (hS' a ha).2.1
      refine wpAny_mono (hturn i _ m' σ' hx hG A (restB bs env.locals σ' h') _ u (by exact hA) R₂.rest hu) (fun _ s₃ h₃ => ?_) fun _ _ e => e
      obtain ⟨m₂, σ₂, R₃, hb⟩ := h₃
      refine wpAny_mono (hb A _ s₃ (by exact hA) R₃) (fun f s₄ h₄ => ?_) fun _ _ e => e.no
      obtain ⟨m₃, σ₃, R₄, hf⟩ := h₄
      have S₄ : ∀ a ∈ fpOf I J src, Loose bs env.locals σ₃ a := fun a ha => ⟨(hS' a ha).1, (hS' a ha).2.1, (hS' a ha).2.2.1, fun q => by
        obtain ⟨o, ho⟩ := hit₁.there a ha
        have := (R₄.own a q).1
        rw [inb a ha o ho] at this; cases this⟩
      have it₄ : IterAt s₄.heap I J src (i + 1) := hit₁.keep fun a ha o e => R₄.base a o (inb a ha o e)
      have R₄' := R₄.weaken le R.top
      cases f with
      | next => exact ⟨_, by omega, i + 1, m₃, σ₃, rfl, hlt, R₄', S₄, it₄, hf⟩
      | cont => exact ⟨_, by omega, i + 1, m₃, σ₃, rfl, hlt, R₄', S₄, it₄, hf⟩
      | brk => exact ⟨m₃, σ₃, R₄', hf⟩
      | ret v => obtain ⟨x, hx, ho⟩ := hf; exact ⟨m₃, σ₃, R₄', x, hx, ho⟩
    · cases r with
      | none => exact h₁.elim
      | some v =>
        refine wpAny_mono h₁ (fun _ s₂ h₂ => wpAny_mono h₂ (fun _ s₃ h₃ => wpAny_mono h₃ (fun f s₄ h₄ => ?_) fun _ _ e => e) fun _ _ e => e) fun _ _ e => e
        cases f <;> exact h₄
  · have hie : xs.length = i := by omega
    refine wpAny_mono (iter_end (E := fun _ _ => False) (P := fun s₁ => wpAny X.M A (execs [] env) (fun f s₃ => match (Except.ok f : Result) with | .ok f => FPost X bs env.locals N O f s₃ | .error e => cameBackBy X.M A env (XE X bs env.locals Ex) e s₃) (fun _ _ => False) s₁) (hA.1 hq) R' hS' hit' hit hie ?_) (fun r s₁ h₁ => ?_) fun _ _ e => e
    · intro h' tk R₂
      refine wpAny_execs_nil ⟨m', σ', R₂, hend m' σ' ?_⟩
      rw [hie]; exact hG
    · cases r with
      | none => exact h₁
      | some v => exact h₁.elim
end
end Zl

set_option maxRecDepth 100000
namespace Zl
section
variable {X : Cx} {bs : Bs} {L : Addr} {m : Loc} {σ : Store} {s : Shared} {c : Lim} {A : Around} {Q : V → Store → Prop} {Ex : Exn} {env : Env} {N : Loc → Store → Prop} {O : Fl → Loc → Store → Prop} {T F : Store → Prop}

/-- what stands around a comprehension's own block: as for a callee, but no frame more -/
noncomputable def compB (bs : Bs) (L : Addr) (σ : Store) (h : Heap) : Bs :=
  { b := (restB bs L σ h).b, d := fun a => if a = L then (h.get? L).map (·.data) else bs.d a, frs := bs.frs }

theorem Rel.enterC (R : Rel X bs L m σ s) {h₁ : Heap} {mm : Str → Option Value} {C : Addr} (hC : s.heap.get? C = none) (hns : h₁.Ns C mm) (g : Grows s.heap h₁) (tk : Nat) : Rel X (compB bs L σ s.heap) C (fun _ => none) σ { s with heap := h₁, toks := tk } := by
  obtain ⟨oL, es, ep, hoL, hdL⟩ := R.lObj
  have hdL' : (compB bs L σ s.heap).d L = some (.dict es ep) := by simp [compB, hoL, hdL]
  have hd_ne : ∀ {a}, a ≠ L → (compB bs L σ s.heap).d a = bs.d a := fun h => if_neg h
  have nofresh : ∀ {a}, (∃ o, s.heap.get? a = some o) → a ≠ C := fun ⟨o, e⟩ q => by rw [q, hC] at e; cases e
  have hLne : L ≠ C := nofresh ⟨_, hoL⟩
  refine ⟨?_, fun a o e => R.in_rest (R.top a o e), fun a o e => g _ _ (restB_some e), fun a d e => ?_, ⟨mm, hns, fun x v e => by cases e⟩, fun a o e => (R.st a o e).grows g, ⟨?_, ?_⟩, fun a q => ⟨?_, ?_, ?_⟩, R.wf, fun e he => ?_, fun a o e => ?_, fun a d e vs n q => ?_⟩
  · rw [R.sh]
  · by_cases h : a = L
    · subst h; rw [hdL'] at e; cases e; exact ⟨oL, g _ _ hoL, hdL⟩
    · rw [hd_ne h] at e; obtain ⟨o, ho, hd⟩ := R.data a d e; exact ⟨o, g _ _ ho, hd⟩
  · cases e : (compB bs L σ s.heap).b C with
    | none => rfl
    | some o => have := restB_some e; rw [hC] at this; cases this
  · rw [hd_ne (Ne.symm hLne)]
    cases e : bs.d C with
    | none => rfl
    | some d => obtain ⟨o, ho, _⟩ := R.data _ d e; rw [hC] at ho; cases ho
  · exact (R.rest.own a q).1
  · rw [hd_ne (R.own a q).2.2]; exact (R.own a q).2.1
  · exact nofresh (R.own_there q)
  · obtain ⟨h1, F, hF, hb, h2⟩ := R.rest.frs e he
    refine ⟨h1, F, hF, hb, .inr ?_⟩
    rcases h2 with rfl | ⟨d, hd, hn⟩
    · exact ⟨_, hdL', fun vs q => by cases q⟩
    · have : F ≠ L := fun q => by subst q; have := R.dL.2; rw [show bs.d F = some d from hd] at this; cases this
      exact ⟨d, by rw [hd_ne this]; exact hd, hn⟩
  · have h1 := R.rest.dis a o e
    have : a ≠ L := fun q => by subst q; have := R.rest.dL.1; rw [show (restB bs a σ s.heap).b a = some o from e] at this; cases this
    rw [hd_ne this]; exact h1
  · by_cases h : a = L
    · subst h; rw [hdL'] at e; cases e; cases q
    · rw [hd_ne h] at e; exact R.dseq a d e vs n q

/-- less some places -/
def cutB (bs : Bs) (S : List Addr) : Bs := { bs with b := fun a => if a ∈ S then none else bs.b a }
theorem cutB_le {bs : Bs} {S : List Addr} : (cutB bs S).Le bs := ⟨fun a o e => by
  unfold cutB at e; dsimp only at e; split at e
  · cases e
  · exact e, rfl, rfl⟩
theorem cutB_get {bs : Bs} {S : List Addr} {a : Addr} {o : Obj} (e : bs.b a = some o) (h : a ∉ S) : (cutB bs S).b a = some o := by
  unfold cutB; dsimp only; rw [if_neg h]; exact e

theorem Rel.leaveC (R : Rel X bs L m σ s) {L' : Addr} {m' : Loc} {σ' : Store} {s' : Shared} {S : List Addr} (hS : ∀ a ∈ S, Loose bs L σ a) (hnt : ∀ I ∈ S, ∀ o vs n, s.heap.get? I = some o → o.cls = .type "tuple" → o.data = .seq vs n → False)
    (R' : Rel X (cutB (compB bs L σ s.heap) S) L' m' σ' s') : Rel X bs L m σ' s' := by
  obtain ⟨oL, es, ep, hoL, hdL⟩ := R.lObj
  have hdL' : (cutB (compB bs L σ s.heap) S).d L = some (.dict es ep) := by simp [cutB, compB, hoL, hdL]
  have hd_ne : ∀ {a}, a ≠ L → (cutB (compB bs L σ s.heap) S).d a = bs.d a := fun h => if_neg h
  have hin : ∀ {a o}, bs.b a = some o → (cutB (compB bs L σ s.heap) S).b a = some o := fun {a o} e => cutB_get (R.in_rest e) fun q => by rw [(hS a q).1] at e; cases e
  refine ⟨R'.sh, R.top, fun a o e => R'.base a o (hin e), fun a d e => ?_, ?_, R'.st, R.dL, fun a q => ?_, R'.wf, R.frs, R.dis, R.dseq⟩
  · have : a ≠ L := fun q => by subst q; rw [R.dL.2] at e; cases e
    exact R'.data a d (by rw [hd_ne this]; exact e)
  · obtain ⟨mm, ⟨o, es', ep', ho, hd, hs, hf⟩, hm⟩ := R.loc
    rw [hoL] at ho; cases ho
    rw [hdL] at hd; cases hd
    obtain ⟨o', ho', hd'⟩ := R'.data L _ hdL'
    refine ⟨mm, ⟨o', es, ep, ho', hd', hs, hf⟩, fun x v e => ?_⟩
    obtain ⟨u, hu, hv⟩ := hm x v e
    have h1 := R.keepVR hv
    exact ⟨u, hu, h1.mono fun a o vs n e c1 c2 => R'.base a o (cutB_get e fun q => hnt a q o vs n (restB_some e) c1 c2)⟩
  · obtain ⟨h1, h2, _⟩ := R'.own a q
    have hL : a ≠ L := fun e => by subst e; rw [hdL'] at h2; cases h2
    refine ⟨?_, by rw [hd_ne hL] at h2; exact h2, hL⟩
    cases e : bs.b a with
    | none => rfl
    | some o => rw [hin e] at h1; cases h1

theorem iter_self {E : Value → Shared → Prop} {P : Value → Shared → Prop} {I J : Addr} {src : Src} {i : Nat} (k : IterAt s.heap I J src i) (h : P (.ref I) s) : wpAny X.M A (pyIter (.ref I)) P E s := by
  cases src with
  | range a n => exact wpAny_pyIter_rangeiter k h
  | list ax => exact wpAny_pyIter_listiter k h
  | enum ax => obtain ⟨⟨old, he⟩, _⟩ := k; exact wpAny_pyIter_enum he h

theorem compLoop_any {prog : Program} {w : World} {R : Result → Shared → Prop} {elt target iter : Expr} {ifs : List Expr} {scope : Scope} {pos : Pos} {it acc : Value} {env : Env} (I : Nat → Shared → Prop)
    (turn : ∀ n s, I n s → wpAny (model prog w) A (pyNext it) (fun r s₁ => match r with
      | none => R (.ok .next) s₁
      | some v => wpAny (model prog w) A (letOwnedTupleGo target it v) (fun _ s₁' => wpAny (model prog w) A (assign target env v) (fun _ s₂ =>
          wpAny (model prog w) A (forIn ifs true fun c r => if r = true then do let ok ← isTrue c env (eval c env); pure (ForInStep.yield ok) else pure (ForInStep.yield r)) (fun ok s₃ =>
            if ok = true then wpAny (model prog w) A (eval elt env) (fun x s₄ =>
              wpAny (model prog w) A (call (.builtin "list.append") [acc, x]) (fun _ s₅ => ∃ m, m < n ∧ I m s₅) (fun _ _ => False) s₄) (fun _ _ => False) s₃
            else ∃ m, m < n ∧ I m s₃) (fun _ _ => False) s₂) (fun _ _ => False) s₁') (fun _ _ => False) s₁) (fun _ _ => False) s)
    (n : Nat) (h : I n s) : codeAny (model prog w) A (.compLoop (.ListComp elt [⟨target, iter, ifs, 0⟩] scope pos) 0 it acc env) R s := by
  refine codeAny_loop rfl I (fun n s hI => ?_) n h
  show wpAny _ A ((compTurn (.ListComp elt [⟨target, iter, ifs, 0⟩] scope pos) 0 it acc env).onRaise (fun x => do noteFrame x env; theTreesLotGoes x)) _ _ s
  refine wpAny_noted ?_
  rw [compTurn_list]
  refine wpAny_bind (wpAny_standAt (wpAny_bind (wpAny_mono (turn n s hI) (fun r s₁ h₁ => ?_) fun _ _ h' => h'.elim)))
  cases r with
  | none => exact wpAny_pure h₁
  | some v =>
    refine wpAny_bind (wpAny_mono h₁ (fun _ s₁' h₁' => ?_) fun _ _ h' => h'.elim)
    refine wpAny_bind (wpAny_mono h₁' (fun _ s₂ h₂ => wpAny_bind (wpAny_mono h₂ (fun ok s₃ h₃ => ?_) fun _ _ h' => h'.elim)) fun _ _ h' => h'.elim)
    cases ok with
    | false => exact wpAny_pure ⟨rfl, h₃⟩
    | true =>
      exact wpAny_bind (wpAny_bind (wpAny_mono h₃ (fun x s₄ h₄ => wpAny_bind (wpAny_mono h₄ (fun _ s₅ h₅ => wpAny_pure (wpAny_pure ⟨rfl, h₅⟩)) fun _ _ h' => h'.elim)) fun _ _ h' => h'.elim))

/-- the tests of a clause: none or one -/
def WTests (X : Cx) (c : Lim) (env : Env) (ifs : List Expr) (m : Loc) (σ : Store) (T F : Store → Prop) : Prop := match ifs with
  | [] => T σ
  | [e] => WQ X c env e m σ T F noEx
  | _ => False

theorem tests_any {ifs : List Expr} (hA : OKA A c bs.frs) (R : Rel X bs env.locals m σ s) (h : WTests X c env ifs m σ T F) :
    wpAny X.M A (forIn ifs true fun c r => if r = true then do let ok ← isTrue c env (eval c env); pure (ForInStep.yield ok) else pure (ForInStep.yield r)) (fun ok s₃ => ∃ σ', Rel X bs env.locals m σ' s₃ ∧ (ok = true → T σ') ∧ (ok = false → F σ')) (fun _ _ => False) s := by
  match ifs, h with
  | [], h => exact wpAny_tests_nil ⟨σ, R, (fun _ => h), fun e => by cases e⟩
  | [e], h => exact wpAny_tests_one (wpAny_mono (h A bs s hA R) (fun _ _ h => h) fun _ _ e => e.no)

/-- the premise about the turns of a comprehension over xs, its list at D -/
structure CompG (X : Cx) (c : Lim) (cenv : Addr → Env) (target elt : Expr) (ifs : List Expr) (src : Src) (xs : List V) (D : Addr) (G : Nat → List V → Store → Prop) : Prop where
  enumOk : enumOnTuple target src = true
  items : ∀ i ys σ', G i ys σ' → itemsOf σ' src = some xs ∧ σ' D = some (.list ys) ∧ ys.length ≤ 2 ^ 23
  turn : ∀ i x ys σ' C m', xs[i]? = some x → G i ys σ' → WA X c (cenv C) target x m' σ' (fun m₂ σ₂ => WTests X c (cenv C) ifs m₂ σ₂
    (fun σ₃ => WE X c (cenv C) elt m₂ σ₃ (fun y σ₄ => σ₄ D = some (.list ys) ∧ G (i + 1) (ys ++ [y]) (σ₄.set D (.list (ys ++ [y])))) noEx) (fun σ₃ => G (i + 1) ys σ₃))

theorem comp_core {elt target iter : Expr} {ifs : List Expr} {scope : Scope} {pos : Pos} {cl : List (Str × Addr)} {I J D C : Addr} {src : Src} {xs : List V} {G : Nat → List V → Store → Prop} {RR : Result → Shared → Prop} {m₀ : Loc} {bsC : Bs}
    (hq : c.q = true) (hA : OKA A c bsC.frs) (R : Rel X bsC C m₀ σ s) (hS : ∀ a ∈ fpOf I J src, Loose bsC C σ a) (hit : IterAt s.heap I J src 0) (hC : CompG X c (fun C => compEnvC scope cl C env) target elt ifs src xs D G) (h0 : G 0 [] σ)
    (hend : ∀ m' σ' s' ys, Rel X bsC C m' σ' s' → G xs.length ys σ' → RR (.ok .next) s') :
    codeAny X.M A (.compStart (.ListComp elt [⟨target, iter, ifs, 0⟩] scope pos) 0 (.ref I) (.ref D) (compEnvC scope cl C env)) RR s := by
  have loop : ∀ s' : Shared, s' = s → codeAny X.M A (.compLoop (.ListComp elt [⟨target, iter, ifs, 0⟩] scope pos) 0 (.ref I) (.ref D) (compEnvC scope cl C env)) RR s' := by
    rintro s' rfl
    refine compLoop_any (fun k s' => ∃ i m' σ' ys, k = xs.length + 1 - i ∧ i ≤ xs.length ∧ Rel X bsC C m' σ' s' ∧ (∀ a ∈ fpOf I J src, Loose bsC C σ' a) ∧ IterAt s'.heap I J src i ∧ G i ys σ') ?_ (xs.length + 1) ⟨0, m₀, σ, [], rfl, Nat.zero_le _, R, hS, hit, h0⟩
    rintro k s' ⟨i, m', σ', ys, rfl, hi, R', hS', hit', hG⟩
    obtain ⟨hitems, hD, hlen⟩ := hC.items i ys σ' hG
    by_cases hlt : i < xs.length
    · have hx : xs[i]? = some xs[i] := by simp [hlt]
      refine wpAny_mono (iter_item (E := fun _ _ => False) (target := target) (P := fun v s₂ => wpAny X.M A (assign target (compEnvC scope cl C env) v) (fun _ s₂ =>
          wpAny X.M A (forIn ifs true fun c r => if r = true then do let ok ← isTrue c (compEnvC scope cl C env) (eval c (compEnvC scope cl C env)); pure (ForInStep.yield ok) else pure (ForInStep.yield r)) (fun ok s₃ =>
            if ok = true then wpAny X.M A (eval elt (compEnvC scope cl C env)) (fun x s₄ =>
              wpAny X.M A (call (.builtin "list.append") [.ref D, x]) (fun _ s₅ => ∃ m, m < xs.length + 1 - i ∧ ∃ i m' σ' ys, m = xs.length + 1 - i ∧ i ≤ xs.length ∧ Rel X bsC C m' σ' s₅ ∧ (∀ a ∈ fpOf I J src, Loose bsC C σ' a) ∧ IterAt s₅.heap I J src i ∧ G i ys σ') (fun _ _ => False) s₄) (fun _ _ => False) s₃
            else ∃ m, m < xs.length + 1 - i ∧ ∃ i m' σ' ys, m = xs.length + 1 - i ∧ i ≤ xs.length ∧ Rel X bsC C m' σ' s₃ ∧ (∀ a ∈ fpOf I J src, Loose bsC C σ' a) ∧ IterAt s₃.heap I J src i ∧ G i ys σ') (fun _ _ => False) s₂) (fun _ _ => False) s₂) R' hS' hit' hitems hx hC.enumOk ?_) (fun r s₁ h₁ => ?_) fun _ _ e => e
      · intro u h' tk hu hit₁ R₂
        have le := R₂.le
        have inb : ∀ a ∈ fpOf I J src, ∀ o, h'.get? a = some o → (restB bsC C σ' h').b a = some o := fun a ha o e => restB_get e (hS' a ha).2.2.2 (hS' a ha).2.2.1 (hS' a ha).2.1
        have back : ∀ {m₃ : Loc} {σ₃ : Store} {s₃ : Shared}, Rel X (restB bsC C σ' h') C m₃ σ₃ s₃ → Rel X bsC C m₃ σ₃ s₃ ∧ (∀ a ∈ fpOf I J src, Loose bsC C σ₃ a) ∧ IterAt s₃.heap I J src (i + 1) := fun R₄ =>
          ⟨R₄.weaken le R'.top, fun a ha => ⟨(hS' a ha).1, (hS' a ha).2.1, (hS' a ha).2.2.1, fun q => by
            obtain ⟨o, ho⟩ := hit₁.there a ha
            have := (R₄.own a q).1
            rw [inb a ha o ho] at this; cases this⟩, hit₁.keep fun a ha o e => R₄.base a o (inb a ha o e)⟩
        refine wpAny_mono (hC.turn i _ ys σ' C m' hx hG A (restB bsC C σ' h') _ u (by exact hA) R₂.rest hu) (fun _ s₃ h₃ => ?_) fun _ _ e => e
        obtain ⟨m₂, σ₂, R₃, ht⟩ := h₃
        refine wpAny_mono (tests_any (env := compEnvC scope cl C env) (by exact hA) R₃ ht) (fun ok s₄ h₄ => ?_) fun _ _ e => e
        obtain ⟨σ₃, R₄, hT, hF⟩ := h₄
        cases ok with
        | false =>
          rw [if_neg (by simp)]
          obtain ⟨b1, b2, b3⟩ := back R₄
          exact ⟨_, by omega, i + 1, m₂, σ₃, ys, rfl, hlt, b1, b2, b3, hF rfl⟩
        | true =>
          rw [if_pos rfl]
          refine wpAny_mono (hT rfl A _ s₄ (by exact hA) R₄) (fun y s₅ h₅ => ?_) fun _ _ e => e.no
          obtain ⟨yv, σ₄, hy, R₅, hD₄, hG₄⟩ := h₅
          obtain ⟨vs, hl, hr⟩ := R₅.st D _ hD₄
          have hsz : vs.size ≤ sizeLine := by
            have : vs.size = ys.length := by rw [← Array.length_toList, hr.length]
            rw [this, sizeLine_eq]; omega
          refine wpAny_list_append_plain hl (fun h₂ hl₂ hs₂ => ?_) hsz
          have ht := R₅.ht hD₄ rfl hs₂
          have R₆ := R₅.upd (po' := .list (ys ++ [yv])) hD₄ rfl rfl hs₂ ⟨_, hl₂, by
            rw [Array.toList_push]; exact (hr.mono ht).append (.cons (hy.mono ht) .nil)⟩ s₅.toks
          obtain ⟨b1, b2, b3⟩ := back R₆
          exact ⟨_, by omega, i + 1, m₂, _, ys ++ [yv], rfl, hlt, b1, b2, b3, hG₄⟩
      · cases r with
        | none => exact h₁.elim
        | some v => exact h₁
    · have hie : xs.length = i := by omega
      refine wpAny_mono (iter_end (E := fun _ _ => False) (P := fun s₁ => RR (.ok .next) s₁) (hA.1 hq) R' hS' hit' hitems hie fun h' tk R₂ => hend m' σ' _ ys R₂ (hie ▸ hG)) (fun r s₁ h₁ => ?_) fun _ _ e => e
      cases r with
      | none => exact h₁
      | some v => exact h₁.elim
  exact codeAny_compStart_list (loop s rfl) (iter_self hit (loop s rfl))

theorem comp_any {E : Value → Shared → Prop} {elt target iter : Expr} {ifs : List Expr} {scope : Scope} {pos p' : Pos} {cl : List (Str × Addr)} {use : Option (Value → Sem Unit)} {P : Value → Shared → Prop} (hq : c.q = true) (hA : OKA A c bs.frs) (R : Rel X bs env.locals m σ s)
    (hclos : closureFor scope env = pure cl) (hkind : scope.kind = .function) (hnames : ∀ x ∈ scope.names, x.2 = .local → scope.names.lookup x.1 = some .local) (hcell : ∀ z ∈ scope.names, z.2 ≠ .cell) (hs : ∀ x, foldedSetIterable iter env x = pure x)
    (h : WI X c env iter m σ (fun src σ₁ => ∀ D, Fresh σ₁ D → ∃ xs G, CompG X c (fun C => compEnvC scope cl C env) target elt ifs src xs D G ∧ G 0 [] (σ₁.set D (.list [])) ∧
      (∀ ys σ' s' C, G xs.length ys σ' → Rel X bs env.locals m σ' s' → Loose bs env.locals σ' C → (∃ mm, s'.heap.Ns C mm) → compPost X.M A E use P (.ref D) C (.ok .next) s')) Ex) (hE : ∀ v s', XE X bs env.locals Ex v s' → E v s') :
    wpAny X.M A (comprehension (.ListComp elt [⟨target, iter, ifs, 0⟩] scope pos) scope env p' (newList []) false (eval iter env) use) P E s := by
  refine wpAny_comprehension_free (g := ⟨target, iter, ifs, 0⟩) (gs := []) rfl hs hclos hkind hnames (wpAny_mono (h A bs s hA R) (fun x s₁ h₁ => wpAny_mono h₁ (fun it s₂ h₂ => ?_) fun _ _ e => hE _ _ e) fun _ _ e => hE _ _ e)
  obtain ⟨I, J, src, σ₁, rfl, hit, hS, R₂, hK⟩ := h₂
  obtain ⟨hfr, R₃⟩ := R₂.pushList (n := 0) (vs := []) (xs := []) .nil
  obtain ⟨xs, G, hC, hG0, hend⟩ := hK _ hfr
  refine wpAny_newList ?_ (by simp)
  have gr : Grows s₂.heap (s₂.heap.push { cls := .type "list", data := .seq ([] : List Value).toArray }) := fun _ _ e => Heap.get?_push_of_some _ e
  have hit₃ : IterAt (s₂.heap.push { cls := .type "list", data := .seq ([] : List Value).toArray }) I J src 0 := hit.keep fun a ha o e => gr a o e
  have ne : ∀ a ∈ fpOf I J src, a ≠ s₂.heap.objs.size := fun a ha q => by
    obtain ⟨o, ho⟩ := hit.there a ha
    rw [q, heap_fresh] at ho; cases ho
  have hS₃ : ∀ a ∈ fpOf I J src, Loose bs env.locals (σ₁.set s₂.heap.objs.size (.list [])) a := fun a ha => ⟨(hS a ha).1, (hS a ha).2.1, (hS a ha).2.2.1, fun q => by
    rcases q with ⟨o, q⟩ | ⟨y, C, fs, q⟩
    · rw [Store.set_ne _ _ (ne a ha)] at q; exact (hS a ha).2.2.2 (.inl ⟨o, q⟩)
    · by_cases hy : y = s₂.heap.objs.size
      · subst hy; rw [Store.set_self] at q; cases q
      · rw [Store.set_ne _ _ hy] at q; exact (hS a ha).2.2.2 (.inr ⟨_, _, _, q⟩)⟩
  refine wpAny_newFunctionEnv hcell (by intro x hx; cases hx) (fun h₄ hns hsb => ?_) hkind
  generalize hheap : s₂.heap.push { cls := .type "list", data := .seq ([] : List Value).toArray } = h₃ at *
  have g₄ : Grows h₃ h₄ := fun b o e => hsb.extBut b o (Nat.ne_of_lt (Heap.lt_size e)) (Heap.get?_push_of_some _ e)
  have R₄ := R₃.enterC (C := h₃.objs.size) (heap_fresh h₃) hns g₄ s₂.toks
  have nt : ∀ a ∈ fpOf I J src, ∀ o vs n, h₃.get? a = some o → o.cls = .type "tuple" → o.data = .seq vs n → False := hit₃.not_tup
  have cut_top : ∀ a o, X.hT.get? a = some o → (cutB (compB bs env.locals (σ₁.set s₂.heap.objs.size (.list [])) h₃) (fpOf I J src)).b a = some o := fun a o e => cutB_get (R₄.top a o e) fun q => by
    have := R₂.top a o e; rw [(hS a q).1] at this; cases this
  have R₅ := R₄.weaken (cutB_le (S := fpOf I J src)) cut_top
  have hdL : ∀ a ∈ fpOf I J src, a ≠ env.locals := fun a ha => (hS a ha).2.2.1
  have hS₅ : ∀ a ∈ fpOf I J src, Loose (cutB (compB bs env.locals (σ₁.set s₂.heap.objs.size (.list [])) h₃) (fpOf I J src)) h₃.objs.size (σ₁.set s₂.heap.objs.size (.list [])) a := fun a ha => by
    refine ⟨by unfold cutB; dsimp only; rw [if_pos ha], ?_, ?_, (hS₃ a ha).2.2.2⟩
    · show (if a = env.locals then _ else bs.d a) = none
      rw [if_neg (hdL a ha)]; exact (hS a ha).2.1
    · obtain ⟨o, ho⟩ := hit₃.there a ha
      exact Nat.ne_of_lt (Heap.lt_size ho)
  refine comp_core (env := env) (cl := cl) hq (by exact hA) R₅ hS₅ (hit₃.keep fun a _ o e => g₄ a o e) hC hG0 fun m' σ' s' ys R' hG' => ?_
  have R₆ := R₃.leaveC hS₃ nt R'
  refine hend ys σ' s' h₃.objs.size hG' R₆ ⟨?_, ?_, ?_, fun q => (R'.own _ q).2.2 rfl⟩ (let ⟨mm, hn, _⟩ := R'.loc; ⟨mm, hn⟩)
  · cases e : bs.b h₃.objs.size with
    | none => rfl
    | some o => have := R₃.base _ o e; rw [heap_fresh] at this; cases this
  · cases e : bs.d h₃.objs.size with
    | none => rfl
    | some d => obtain ⟨o, ho, _⟩ := R₃.data _ d e; rw [heap_fresh] at ho; cases ho
  · intro q
    obtain ⟨o, es, ep, ho, _⟩ := R₃.lObj
    rw [← q, heap_fresh] at ho; cases ho

theorem Rel.touch1 (R : Rel X bs L m σ s) {C : Addr} {h' : Heap} (hC : Loose bs L σ C) (hn : ∃ mm, s.heap.Ns C mm) (hs : Heap.SameBut C s.heap h') (tk : Nat) : Rel X bs L m σ { s with heap := h', toks := tk } :=
  R.touch (S := [C]) (fun a ha => by cases List.mem_singleton.mp ha; exact hC) (fun b o hb e => (hs.2 b fun q => hb (by rw [q]; exact .head _)).trans e)
    (fun a ha o vs n e h1 h2 => by cases List.mem_singleton.mp ha; obtain ⟨mm, ⟨o', _, _, ho, hd, _⟩⟩ := hn; rw [e] at ho; cases ho; rw [h2] at hd; cases hd) tk

/-- [elt for target in iter if test] -/
theorem WE_ListComp {elt target iter : Expr} {ifs : List Expr} {scope : Scope} {pos : Pos} {cl : List (Str × Addr)} (hq : c.q = true)
    (h : WI X c env iter m σ (fun src σ₁ => ∀ D, Fresh σ₁ D → ∃ xs G, CompG X c (fun C => compEnvC scope cl C env) target elt ifs src xs D G ∧ G 0 [] (σ₁.set D (.list [])) ∧ (∀ ys σ', G xs.length ys σ' → Q (.ref D) σ')) Ex)
    (hclos : closureFor scope env = pure cl := by with_unfolding_all rfl) (hkind : scope.kind = .function := by with_unfolding_all rfl) (hnames : ∀ x ∈ scope.names, x.2 = .local → scope.names.lookup x.1 = some .local := by decide) (hcell : ∀ z ∈ scope.names, z.2 ≠ .cell := by decide)
    (hs : ∀ x, foldedSetIterable iter env x = pure x := by intro _; with_unfolding_all rfl) : WE X c env (.ListComp elt [⟨target, iter, ifs, 0⟩] scope pos) m σ Q Ex := fun A bs s hA R => by
  rw [arm_eval_ListComp]
  refine comp_any hq hA R hclos hkind hnames hcell hs (fun A' bs' s' hA' R' => ?_) fun _ _ e => e
  refine wpAny_mono (h A' bs' s' hA' R') (fun x s₁ h₁ => wpAny_mono h₁ (fun it s₂ h₂ => ?_) fun _ _ e => e) fun _ _ e => e
  obtain ⟨I, J, src, σ₁, e1, hit, hS, R₂, hK⟩ := h₂
  refine ⟨I, J, src, σ₁, e1, hit, hS, R₂, fun D hD => ?_⟩
  obtain ⟨xs, G, hC, h0, hend⟩ := hK D hD
  refine ⟨xs, G, hC, h0, fun ys σ' s'' C hG R'' hl hn => ?_⟩
  obtain ⟨mm, hmm⟩ := hn
  exact ⟨mm, hmm, fun h' hs' => ⟨.ref D, σ', .ref D, R''.touch1 hl ⟨mm, hmm⟩ hs' _, hend ys σ' hG⟩⟩

/-- x = [elt for target in iter if test], x a name of the frame -/
theorem WX_AssignComp {x : Str} {p spos : Pos} {elt target iter : Expr} {ifs : List Expr} {scope : Scope} {pos : Pos} {cl : List (Str × Addr)} (hq : c.q = true)
    (h : WI X c env iter m σ (fun src σ₁ => ∀ D, Fresh σ₁ D → ∃ xs G, CompG X c (fun C => compEnvC scope cl C env) target elt ifs src xs D G ∧ G 0 [] (σ₁.set D (.list [])) ∧ (∀ ys σ', G xs.length ys σ' → N (m.set x (.ref D)) σ')) Ex)
    (hsw : swapsWith (.ListComp elt [⟨target, iter, ifs, 0⟩] scope pos) (some (.Name x p)) spos.line env = pure true := by with_unfolding_all rfl)
    (hk : env.scope.kind = .function := by with_unfolding_all rfl) (hl : env.kindOf x = some .local := by with_unfolding_all rfl)
    (hclos : closureFor scope env = pure cl := by with_unfolding_all rfl) (hkind : scope.kind = .function := by with_unfolding_all rfl) (hnames : ∀ x ∈ scope.names, x.2 = .local → scope.names.lookup x.1 = some .local := by decide) (hcell : ∀ z ∈ scope.names, z.2 ≠ .cell := by decide)
    (hs : ∀ x, foldedSetIterable iter env x = pure x := by intro _; with_unfolding_all rfl) : WX X c env (.Assign [.Name x p] (.ListComp elt [⟨target, iter, ifs, 0⟩] scope pos) spos) m σ N O Ex := fun A bs s hA R => by
  rw [exec_Assign_Name_used _ _ _ _ hsw]
  refine wpAny_bind (wpAny_standAt (wpAny_bind ?_))
  rw [arm_evalThenUse_ListComp]
  refine wpAny_bind (wpAny_mono (Q := fun _ s' => FPost X bs env.locals N O .next s') (comp_any (use := some (assign (.Name x p) env)) (P := fun _ s' => FPost X bs env.locals N O .next s') (E := XE X bs env.locals Ex) hq hA R hclos hkind hnames hcell hs (fun A' bs' s' hA' R' => ?_) fun _ _ e => e) (fun _ s' hf => wpAny_pure (wpAny_pure hf)) fun _ _ e => e)
  refine wpAny_mono (h A' bs' s' hA' R') (fun x s₁ h₁ => wpAny_mono h₁ (fun it s₂ h₂ => ?_) fun _ _ e => e) fun _ _ e => e
  obtain ⟨I, J, src, σ₁, e1, hit, hS, R₂, hK⟩ := h₂
  refine ⟨I, J, src, σ₁, e1, hit, hS, R₂, fun D hD => ?_⟩
  obtain ⟨xs, G, hC, h0, hend⟩ := hK D hD
  refine ⟨xs, G, hC, h0, fun ys σ' s'' C hG R'' hlo hn => ?_⟩
  obtain ⟨mC, hmC⟩ := hn
  obtain ⟨mm, hnL, hm⟩ := R''.loc
  refine wpAny_assign_Name (wpAny_storeName_local hl hnL (fun h' hn' hs' => ?_) (by rw [hk]; rfl))
  have hCL : C ≠ env.locals := hlo.2.2.1
  have hmC' : Heap.Ns h' C mC := hmC.sameBut hs' hCL
  refine ⟨mC, hmC', fun h'' hs'' => ?_⟩
  have R₇ := R''.setLoc hm hn' hs' (.ref D) (s''.toks + 1)
  exact ⟨_, σ', R₇.touch1 hlo ⟨mC, hmC'⟩ hs'' _, hend ys σ' hG⟩
end
end Zl

set_option maxRecDepth 100000
namespace Zl
section
variable {X : Cx} {bs : Bs} {L : Addr} {m : Loc} {σ : Store} {s : Shared} {c : Lim} {A : Around} {Q : V → Store → Prop} {Ex : Exn} {env : Env} {N : Loc → Store → Prop} {O : Fl → Loc → Store → Prop} {T F : Store → Prop}

/-- an object that stood loose is the store's from now on -/
theorem Rel.adopt (R : Rel X bs L m σ s) {a : Addr} {po : PO} (hl : Loose bs L σ a) (ho : OAt X s.heap a po) (hd : dictOf? po = none) : Rel X bs L m (σ.set a po) s := by
  obtain ⟨sh, top, base, data, loc, st, dL, own, wf, frs, dis, dseq⟩ := R
  have back : ∀ x C d fs, σ.set a po x = some (.inst C d fs) → x ≠ a ∧ σ x = some (.inst C d fs) := by
    intro x C d fs e
    by_cases hx : x = a
    · subst hx; rw [Store.set_self] at e; cases e; cases hd
    · rw [Store.set_ne _ _ hx] at e; exact ⟨hx, e⟩
  refine ⟨sh, top, base, data, loc, fun b o e => ?_, dL, fun b q => ?_, ⟨fun x C d fs e => ?_, fun x C d fs x' C' fs' e e' => ?_⟩, frs, dis, dseq⟩
  · by_cases hb : b = a
    · subst hb; rw [Store.set_self] at e; cases e; exact ho
    · rw [Store.set_ne _ _ hb] at e; exact st b o e
  · rcases q with ⟨o, e⟩ | ⟨x, C, fs, e⟩
    · by_cases hb : b = a
      · subst hb; exact ⟨hl.1, hl.2.1, hl.2.2.1⟩
      · rw [Store.set_ne _ _ hb] at e; exact own b (.inl ⟨o, e⟩)
    · exact own b (.inr ⟨_, _, _, (back _ _ _ _ e).2⟩)
  · obtain ⟨_, e'⟩ := back _ _ _ _ e
    have : d ≠ a := fun q => hl.2.2.2 (q ▸ .inr ⟨_, _, _, e'⟩)
    rw [Store.set_ne _ _ this]; exact wf.apart _ _ _ _ e'
  · exact wf.once _ _ _ _ _ _ _ (back _ _ _ _ e).2 (back _ _ _ _ e').2

def cellσ (σ : Store) (vals : Loc) : List (Str × Addr) → Store
  | [] => σ
  | (n, a) :: r => (cellσ σ vals r).set a (.cell (vals n))

theorem cell_adopt {vals : Loc} {cm : Str → Option Value} (hv : ∀ n, match cm n, vals n with | some u, some v => VR s.heap.get? u v | none, none => True | _, _ => False) :
    ∀ {cs : List (Str × Addr)}, (cs.Pairwise fun x y => x.2 ≠ y.2) → (∀ n a, (n, a) ∈ cs → s.heap.IsCell a (cm n)) → (∀ n a, (n, a) ∈ cs → Loose bs L σ a) → Rel X bs L m σ s →
      Rel X bs L m (cellσ σ vals cs) s ∧ (∀ a, (∀ n, (n, a) ∉ cs) → Own (cellσ σ vals cs) a → Own σ a)
  | [], _, _, _, R => ⟨R, fun _ _ h => h⟩
  | (n, a) :: r, hp, hc, hl, R => by
    obtain ⟨h1, h2⟩ := List.pairwise_cons.mp hp
    obtain ⟨R', ho⟩ := cell_adopt hv h2 (fun n' a' hm => hc n' a' (.tail _ hm)) (fun n' a' hm => hl n' a' (.tail _ hm)) R
    have hlo := hl n a (.head _)
    have hno : ¬ Own (cellσ σ vals r) a := fun q => hlo.2.2.2 (ho a (fun n' hm => h1 _ hm rfl) q)
    refine ⟨R'.adopt ⟨hlo.1, hlo.2.1, hlo.2.2.1, hno⟩ ⟨cm n, hc n a (.head _), ?_⟩ rfl, fun b hb q => ?_⟩
    · have := hv n
      revert this
      cases cm n <;> cases vals n <;> intro this <;> first | exact this | trivial | exact this.elim
    · have hba : b ≠ a := fun q => hb n (by rw [q]; exact .head _)
      refine ho b (fun n' hm => hb n' (.tail _ hm)) ?_
      rcases q with ⟨o, e⟩ | ⟨x, C, fs, e⟩
      · show Own _ _
        rw [show cellσ σ vals ((n, a) :: r) = (cellσ σ vals r).set a (.cell (vals n)) from rfl, Store.set_ne _ _ hba] at e
        exact .inl ⟨o, e⟩
      · rw [show cellσ σ vals ((n, a) :: r) = (cellσ σ vals r).set a (.cell (vals n)) from rfl] at e
        by_cases hx : x = a
        · subst hx; rw [Store.set_self] at e; cases e
        · rw [Store.set_ne _ _ hx] at e; exact .inr ⟨_, _, _, e⟩

def bindLV (kindOf : Str → Option NameKind) : List (Str × V) → Loc → Loc
  | [], m => m
  | (n, v) :: r, m => bindLV kindOf r (if kindOf n = some .local then m.set n v else m)
def bindCV (kindOf : Str → Option NameKind) : List (Str × V) → Loc → Loc
  | [], m => m
  | (n, v) :: r, m => bindCV kindOf r (if kindOf n = some .local then m else m.set n v)

theorem bindL_rel {g : Gt} {k : Str → Option NameKind} : ∀ {names : List Str} {us : List Value} {xs : List V} {mm : Str → Option Value} {m : Loc}, VRs g us xs → (∀ x v, m x = some v → ∃ u, mm x = some u ∧ VR g u v) →
    ∀ x v, bindLV k (names.zip xs) m x = some v → ∃ u, bindL k (names.zip us) mm x = some u ∧ VR g u v
  | [], _, _, _, _, _, h, x, v, e => h x v e
  | n :: ns, _, _, _, _, .nil, h, x, v, e => h x v e
  | n :: ns, _, _, mm, m, .cons a r, h, x, v, e => by
    simp only [List.zip_cons_cons, bindLV, bindL] at e ⊢
    refine bindL_rel r (fun y w q => ?_) x v e
    by_cases hk : k n = some .local
    · simp only [if_pos hk] at q ⊢
      by_cases hy : y = n
      · subst hy; rw [Loc.set_self] at q; cases q; exact ⟨_, if_pos rfl, a⟩
      · rw [Loc.set_ne _ _ hy] at q; rw [if_neg hy]; exact h y w q
    · simp only [if_neg hk] at q ⊢; exact h y w q

theorem bindC_rel {g : Gt} {k : Str → Option NameKind} : ∀ {names : List Str} {us : List Value} {xs : List V} {mm : Str → Option Value} {m : Loc}, VRs g us xs → (∀ x, match mm x, m x with | some u, some v => VR g u v | none, none => True | _, _ => False) →
    ∀ x, match bindC k (names.zip us) mm x, bindCV k (names.zip xs) m x with | some u, some v => VR g u v | none, none => True | _, _ => False
  | [], _, _, _, _, _, h, x => h x
  | n :: ns, _, _, _, _, .nil, h, x => h x
  | n :: ns, _, _, mm, m, .cons a r, h, x => by
    simp only [List.zip_cons_cons, bindCV, bindC]
    refine bindC_rel r (fun y => ?_) x
    by_cases hk : k n = some .local
    · simp only [if_pos hk]; exact h y
    · simp only [if_neg hk]
      by_cases hy : y = n
      · subst hy; rw [Loc.set_self, if_pos rfl]; exact a
      · rw [Loc.set_ne _ _ hy, if_neg hy]; exact h y

/-- a def some of whose names are captured -/
theorem WC_defC {f : Addr} {xs : List V} {name qual : Str} {params : Arguments} {body : List Stmt} {scope : Scope} {dV kV doc pm cdv ct oc : Value} {an od : Option Addr} {osl : Array (Option Value)} (names : List Str) (ok : X.Ok)
    (ho : X.K.lookup f = some ⟨oc, od, .func (fnOf name qual params body scope dV kV doc pm an cdv ct), osl⟩) (hcd : codeIn X.K cdv qual = true) (hc : 1 ≤ c.n) (hlen : names.length = xs.length)
    (hb : ∀ us : List Value, us.length = names.length → bindArgs (fnOf name qual params body scope dV kV doc pm an cdv ct) ⟨us, []⟩ = pure (names.zip us))
    (hkind : ∀ x ∈ names, scope.names.lookup x = some .local ∨ (scope.names.lookup x = some .cell ∧ ∀ n, ((cellsFrom n scope.names []).lookup x).isSome = true)) (hnd : ((cellsFrom 0 scope.names []).map (·.1)).Nodup)
    (h : ∀ L', (∀ a, L' ≤ a → Fresh σ a) → WS X c.down (envX qual scope L' f cdv (cellsFrom (L' + 1) scope.names [])) body (bindLV (fun x => scope.names.lookup x) (names.zip xs) fun _ => none)
      (cellσ σ (bindCV (fun x => scope.names.lookup x) (names.zip xs) fun _ => none) (cellsFrom (L' + 1) scope.names [])) (fun _ σ' => Q .none σ') (RetO Q) Ex)
    (hco : scope.isCoroutine = false := by with_unfolding_all rfl) (hgen : scope.isGenerator = false := by with_unfolding_all rfl) (hk : scope.kind = .function := by with_unfolding_all rfl) : WC X c f xs σ Q Ex := fun A bs L m s us hA R hu => by
  have hul : us.length = names.length := by rw [hu.length, hlen]
  refine codeAny_call_function (fd := fnOf name qual params body scope dV kV doc pm an cdv ct) hA.room (R.kin ok _ _ ho) rfl hco hgen rfl (codeRec_of (R.kin ok) hcd) ?_
  rw [hb us hul]
  refine wpAny_pure (wpAny_newFunctionEnv_cells hk (fun y hy => (hkind _ (List.of_mem_zip hy).1).imp (fun e => e) fun e => ⟨e.1, e.2 _⟩) fun env' he s' x => ?_)
  subst he
  refine ⟨(ok.top.nolimit.keeps R.hT).keeps x.toInCall.keep, codeAny_func ?_⟩
  obtain ⟨h₁, tk, rfl, _⟩ := x.done
  have g : Grows s.heap h₁ := x.toInCall.keep
  have R₁ := R.enter (env' := envX qual scope s.heap.objs.size f cdv (cellsFrom (s.heap.objs.size + 1) scope.names [])) (m' := bindLV (fun x => scope.names.lookup x) (names.zip xs) fun _ => none) rfl hk x.toInCall.ns g (bindL_rel hu fun _ _ e => by cases e) tk
  have nd := cellsFrom_names scope.names 0 (s.heap.objs.size + 1) [] [] rfl ▸ hnd
  have cells : ∀ n a, (n, a) ∈ cellsFrom (s.heap.objs.size + 1) scope.names [] → h₁.IsCell a (bindC (fun x => scope.names.lookup x) (names.zip us) (fun _ => none) n) := fun n a hm => x.cell n a (lookup_of_mem_nodup nd hm)
  have fresh : ∀ a, s.heap.objs.size ≤ a → Fresh σ a := fun a ha => R.fresh (heap_beyond ha)
  have lo : ∀ n a, (n, a) ∈ cellsFrom (s.heap.objs.size + 1) scope.names [] → Loose (callB bs L σ s.heap (envX qual scope s.heap.objs.size f cdv (cellsFrom (s.heap.objs.size + 1) scope.names []))) s.heap.objs.size σ a := fun n a hm => by
    have hab : s.heap.objs.size < a := x.above n a hm
    have hno : s.heap.get? a = none := heap_beyond (Nat.le_of_lt hab)
    refine ⟨?_, ?_, Nat.ne_of_gt hab, fresh a (Nat.le_of_lt hab)⟩
    · cases e : (callB bs L σ s.heap (envX qual scope s.heap.objs.size f cdv (cellsFrom (s.heap.objs.size + 1) scope.names []))).b a with
      | none => rfl
      | some o => have := restB_some e; rw [hno] at this; cases this
    · show (if a = L then _ else bs.d a) = none
      have : a ≠ L := by rintro rfl; obtain ⟨o, _, _, ho, _⟩ := R.lObj; rw [hno] at ho; cases ho
      rw [if_neg this]
      cases e : bs.d a with
      | none => rfl
      | some d => obtain ⟨o, ho, _⟩ := R.data a d e; rw [hno] at ho; cases ho
  obtain ⟨R₂, _⟩ := cell_adopt (X := X) (s := { s with heap := h₁, toks := tk }) (vals := bindCV (fun x => scope.names.lookup x) (names.zip xs) fun _ => none) (bindC_rel (hu.mono g.tup) fun _ => trivial) x.apart cells lo R₁
  refine wpAny_mono (h s.heap.objs.size fresh (A.deeper (envX qual scope s.heap.objs.size f cdv (cellsFrom (s.heap.objs.size + 1) scope.names []))) _ _ (hA.down hc) R₂) (fun fl s' h' => ?_) fun _ _ e => e.elim
  obtain ⟨m', σ', R', k⟩ := h'
  cases fl with
  | next => exact (⟨.none, σ', .none, R.leave R', k⟩ : VPost X bs L m Q .none s')
  | brk => exact k.elim
  | cont => exact k.elim
  | ret v => obtain ⟨x, hx, hq⟩ := k; exact (⟨x, σ', hx, R.leave R', hq⟩ : VPost X bs L m Q v s')
end
end Zl

set_option maxRecDepth 100000
namespace Zl
section
variable {X : Cx} {bs : Bs} {L : Addr} {m : Loc} {σ : Store} {s : Shared} {c : Lim} {A : Around} {Q : V → Store → Prop} {Ex : Exn} {env : Env} {N : Loc → Store → Prop} {O : Fl → Loc → Store → Prop} {T F : Store → Prop}

theorem min_two {i j : Int} (hq : c.q = true) (h : Q (.int (min i j)) σ) : WN X c (fun us => call (.builtin "min") us) [.int i, .int j] σ Q Ex := fun A bs L m s us hA R hu => by
  obtain ⟨u, v, rfl, h1, h2⟩ := hu.two
  clear hu
  cases h1; cases h2
  refine min_two_ints (hA.1 hq) fun h' tk hk => ⟨_, σ, ?_, R.grows hk tk, h⟩
  split
  · rw [show min i j = j by omega]; exact .int _ _
  · rw [show min i j = i by omega]; exact .int _ _
theorem max_two {i j : Int} (hq : c.q = true) (h : Q (.int (max i j)) σ) : WN X c (fun us => call (.builtin "max") us) [.int i, .int j] σ Q Ex := fun A bs L m s us hA R hu => by
  obtain ⟨u, v, rfl, h1, h2⟩ := hu.two
  clear hu
  cases h1; cases h2
  refine max_two_ints (hA.1 hq) fun h' tk hk => ⟨_, σ, ?_, R.grows hk tk, h⟩
  split
  · rw [show max i j = j by omega]; exact .int _ _
  · rw [show max i j = i by omega]; exact .int _ _

def bools : List Bool → List V := List.map .bool
theorem all_bools {a : Addr} {bl : List Bool} (hq : c.q = true) (ha : σ a = some (.list (bools bl))) (h : Q (.bool (bl.all id)) σ) : WN X c (fun us => call (.builtin "all") us) [.ref a] σ Q Ex := fun A bs L m s us hA R hu => by
  obtain ⟨u, rfl, h1⟩ := hu.one
  clear hu
  cases h1
  obtain ⟨vs, hp, hr⟩ := R.st a _ ha; have hl := hp.isList
  have hlt : a < s.heap.objs.size := by obtain ⟨_, e, _⟩ := hl; exact Heap.lt_size e
  have hlen : vs.size = bl.length := by rw [← Array.length_toList, hr.length]; simp [bools]
  refine call_all_walk (wpAny_pyIter_list hl ?_)
  refine ⟨s.heap.objs.size, [s.heap.objs.size, a], [s.heap.objs.size], vs.size, _, _, fun i => (bl[i]?).getD true, rfl, Walks.list (A := A.in1) (hA.1 hq) _ a (Nat.ne_of_lt hlt) vs,
    ⟨⟨_, Heap.get?_push_size _ rfl, rfl, rfl⟩, hl.push _⟩, fun i v s' Q' E' hP hQ => ?_, fun h' tk hk => ?_⟩
  · have hP' : vs.toList[i]? = some v := by rw [Array.getElem?_toList]; exact hP
    obtain ⟨x, hx, hv⟩ := hr.get' hP'
    simp only [bools, List.getElem?_map] at hx
    obtain ⟨b, hb, rfl⟩ := Option.map_eq_some_iff.mp hx
    cases hv
    simp only [hb, Option.getD_some] at hQ
    exact wpAny_truthy_bool hQ
  · have e : ((List.range vs.size).all fun i => (bl[i]?).getD true) = bl.all id := by
      rw [hlen]; exact LSm.range_all bl
    rw [e]
    exact ⟨_, σ, .bool _, R.grows (LSm.kept_iter hk) tk, h⟩
end
end Zl

set_option maxRecDepth 100000
namespace Zl
section
variable {X : Cx} {bs : Bs} {L : Addr} {m : Loc} {σ : Store} {s : Shared} {c : Lim} {A : Around} {Q : V → Store → Prop} {Ex : Exn} {env : Env} {N : Loc → Store → Prop} {O : Fl → Loc → Store → Prop} {T F : Store → Prop}

/-! the lists of subtrees, one at a time -/
theorem WEs_nil {Q : List V → Store → Prop} (h : Q [] σ) : WEs X c env [] m σ Q Ex := h
theorem WEs_cons {e : Expr} {es : List Expr} {Q : List V → Store → Prop} (h : WE X c env e m σ (fun x σ₁ => WEs X c env es m σ₁ (fun xs σ₂ => Q (x :: xs) σ₂) Ex) Ex) : WEs X c env (e :: es) m σ Q Ex := h
theorem WAnd_nil (h : T σ) : WAnd X c env [] m σ T F Ex := h
theorem WAnd_cons {e : Expr} {es : List Expr} (h : WQ X c env e m σ (fun σ' => WAnd X c env es m σ' T F Ex) F Ex) : WAnd X c env (e :: es) m σ T F Ex := h
theorem WOr_nil (h : F σ) : WOr X c env [] m σ T F Ex := h
theorem WOr_cons {e : Expr} {es : List Expr} (h : WQ X c env e m σ T (fun σ' => WOr X c env es m σ' T F Ex) Ex) : WOr X c env (e :: es) m σ T F Ex := h
theorem WAndV_one {e : Expr} (h : WE X c env e m σ Q Ex) : WAndV X c env [e] m σ Q Ex := h
theorem WAndV_cons {e e' : Expr} {es : List Expr} (h : WE X c env e m σ (fun x σ₁ => Truth X c x σ₁ (fun σ₂ => WAndV X c env (e' :: es) m σ₂ Q Ex) (fun σ₂ => Q x σ₂) Ex) Ex) : WAndV X c env (e :: e' :: es) m σ Q Ex := h
theorem WOrV_one {e : Expr} (h : WE X c env e m σ Q Ex) : WOrV X c env [e] m σ Q Ex := h
theorem WOrV_cons {e e' : Expr} {es : List Expr} (h : WE X c env e m σ (fun x σ₁ => Truth X c x σ₁ (fun σ₂ => Q x σ₂) (fun σ₂ => WOrV X c env (e' :: es) m σ₂ Q Ex) Ex) Ex) : WOrV X c env (e :: e' :: es) m σ Q Ex := h
theorem WTests_nil (h : T σ) : WTests X c env [] m σ T F := h
theorem WTests_one {e : Expr} (h : WQ X c env e m σ T F noEx) : WTests X c env [e] m σ T F := h

/-! truths that are known -/
theorem truth_true (h : T σ) : Truth X c (.bool true) σ T F Ex := truth_bool (fun _ => h) fun e => by cases e
theorem truth_false (h : F σ) : Truth X c (.bool false) σ T F Ex := truth_bool (fun e => by cases e) fun _ => h
theorem truth_dec {p : Prop} [Decidable p] (hT : p → T σ) (hF : ¬ p → F σ) : Truth X c (.bool (decide p)) σ T F Ex := truth_bool (fun e => hT (of_decide_eq_true e)) fun e => hF (of_decide_eq_false e)
theorem truth_pos {p : Prop} [Decidable p] (hp : p) (hT : T σ) : Truth X c (.bool (decide p)) σ T F Ex := truth_dec (fun _ => hT) fun h => (h hp).elim
theorem truth_neg {p : Prop} [Decidable p] (hp : ¬ p) (hF : F σ) : Truth X c (.bool (decide p)) σ T F Ex := truth_dec (fun h => (hp h).elim) fun _ => hF

/-- the store holds all that it held -/
def Ext (σ σ' : Store) : Prop := ∀ a o, σ a = some o → σ' a = some o
theorem Ext.refl (σ : Store) : Ext σ σ := fun _ _ e => e
theorem Ext.trans {σ₁ σ₂ σ₃ : Store} (h : Ext σ₁ σ₂) (k : Ext σ₂ σ₃) : Ext σ₁ σ₃ := fun a o e => k a o (h a o e)
theorem Ext.set {σ σ' : Store} (h : Ext σ σ') {a : Addr} {o : PO} (ha : σ a = none) : Ext σ (σ'.set a o) := fun b p e => by
  have : b ≠ a := fun q => by rw [q, ha] at e; cases e
  rw [Store.set_ne _ _ this]; exact h b p e
theorem Ext.fresh {σ σ' : Store} (h : Ext σ σ') {a : Addr} {o : PO} (ha : Fresh σ' a) : Ext σ (σ'.set a o) := fun b p e => by
  have e' := h b p e
  rw [Store.set_ne _ _ (ha.ne e')]; exact e'
theorem Ext.new {a : Addr} {o : PO} (ha : Fresh σ a) : Ext σ (σ.set a o) := (Ext.refl σ).fresh ha
/-- a thing made behind σ may change: the store still holds what σ held -/
theorem Ext.again {σ σ' : Store} (h : Ext σ σ') {a : Addr} {o : PO} (ha : σ a = none) : Ext σ (σ'.set a o) := h.set ha

/-- one more int of the script, or nought -/
def cellV (ns : List Int) (k : Int) : Int := ns.getD k.toNat 0
theorem cellV_lt {ns : List Int} {k : Int} (h0 : 0 ≤ k) (h : k < (ns.length : Int)) : ns[k.toNat]? = some (cellV ns k) := by
  have hlt : k.toNat < ns.length := by omega
  simp [cellV, List.getD, List.getElem?_eq_getElem hlt]
theorem cellV_ge {ns : List Int} {k : Int} (h : (ns.length : Int) ≤ k) : cellV ns k = 0 := by
  have : ns.length ≤ k.toNat := by omega
  simp [cellV, List.getD, List.getElem?_eq_none this]
end
end Zl

namespace Zl
section
variable {X : Cx} {c : Lim} {env : Env} {m : Loc} {σ : Store} {Q : V → Store → Prop} {T F : Store → Prop} {Ex : Exn} {A : Around} {bs : Bs} {L : Addr} {s : Shared} {N : Loc → Store → Prop} {O : Fl → Loc → Store → Prop}

theorem Store.set_set (σ : Store) (a : Addr) (o o' : PO) : (σ.set a o).set a o' = σ.set a o' := by
  funext b; unfold Store.set; split <;> rfl
theorem Store.set_comm (σ : Store) {a b : Addr} (o o' : PO) (h : a ≠ b) : (σ.set a o).set b o' = (σ.set b o').set a o := by
  funext x; unfold Store.set
  by_cases h1 : x = a
  · have : x ≠ b := fun q => h (h1 ▸ q)
    simp [h1, h]
  · simp [h1]
theorem Store.set_same (σ : Store) {a : Addr} {o : PO} (h : σ a = some o) : σ.set a o = σ := by
  funext b; unfold Store.set; split
  · rename_i q; rw [q, h]
  · rfl

/-- an expression as a statement -/
theorem WX_Expr {e : Expr} {pos : Pos} (h : WE X c env e m σ (fun _ σ' => N m σ') Ex) (hi : interactive env = false := by with_unfolding_all rfl) (hs : swapsWith e none pos.line env = pure false := by with_unfolding_all rfl) : WX X c env (.Expr e pos) m σ N O Ex := fun A bs s hA R =>
  wpAny_Expr_any (wpAny_mono (h A bs s hA R) (fun v s' h' => by
    obtain ⟨x, σ', _, R', hN⟩ := h'
    exact ⟨m, σ', R', hN⟩) fun _ _ e => e) hi hs

theorem is_none_t (h : Q (.bool true) σ) : W2 X c (compareOp .Is) .none .none σ Q Ex := is_none rfl h
theorem is_none_f {x : V} (hx : x.known = true) (hn : x.isNone = false) (h : Q (.bool false) σ) : W2 X c (compareOp .Is) x .none σ Q Ex := is_none hx (by rw [hn]; exact h)
theorem isNot_none_f (h : Q (.bool false) σ) : W2 X c (compareOp .IsNot) .none .none σ Q Ex := isNot_none rfl h
theorem isNot_none_t {x : V} (hx : x.known = true) (hn : x.isNone = false) (h : Q (.bool true) σ) : W2 X c (compareOp .IsNot) x .none σ Q Ex := isNot_none hx (by rw [hn]; exact h)
theorem WA_intro {t : Expr} {v : V} (h : WA X c env t v m σ N) : WA X c env t v m σ N := h
theorem intBits_of {i : Int} (h : i.natAbs < 2 ^ 64) : Builtin.Int.intBits i ≤ 64 := intBits_le_iff.mpr h
theorem fmod_lo (i : Int) {j : Int} (h : 0 < j) : 0 ≤ i.fmod j := Int.fmod_nonneg_of_pos _ h
theorem fmod_hi (i : Int) {j : Int} (h : 0 < j) : i.fmod j < j := Int.fmod_lt_of_pos _ h
theorem IntMulOk.small {i j : Int} (h1 : 0 ≤ i) (h2 : i < 2 ^ 63) : IntMulOk i j := .of_left (intBits_of (by omega))
end
end Zl

namespace Zl
section
variable {X : Cx} {c : Lim} {env : Env} {m : Loc} {σ : Store} {Q : V → Store → Prop} {T F : Store → Prop} {Ex : Exn} {A : Around} {bs : Bs} {L : Addr} {s : Shared} {N : Loc → Store → Prop} {O : Fl → Loc → Store → Prop}

theorem eq_str {x y : Str} (h : Q (.bool (x == y)) σ) : W2 X c (compareOp .Eq) (.str x) (.str y) σ Q Ex := fun A bs L m s u v hA R hu hv => by
  cases hu; cases hv; exact PyProof.Rows.eq_str ⟨_, σ, .bool _, R, h⟩
theorem ne_str {x y : Str} (h : Q (.bool (x != y)) σ) : W2 X c (compareOp .NotEq) (.str x) (.str y) σ Q Ex := fun A bs L m s u v hA R hu hv => by
  cases hu; cases hv; exact PyProof.Rows.ne_str ⟨_, σ, .bool _, R, h⟩

/-- data without bools: what _law_same compares -/
inductive Dat where
  | none
  | int (i : Int)
  | str (x : Str)
  | tup (ds : List Dat)
  | list (ds : List Dat)

mutual
def DR (σ : Store) : V → Dat → Prop
  | x, .none => x = .none
  | x, .int i => x = .int i
  | x, .str t => x = .str t
  | x, .tup ds => ∃ xs, x = .tup xs ∧ DRs σ xs ds
  | x, .list ds => ∃ a xs, x = .ref a ∧ σ a = some (.list xs) ∧ DRs σ xs ds
def DRs (σ : Store) : List V → List Dat → Prop
  | xs, [] => xs = []
  | xs, d :: ds => ∃ y ys, xs = y :: ys ∧ DR σ y d ∧ DRs σ ys ds
end

mutual
def Dat.depth : Dat → Nat
  | .none => 0
  | .int _ => 0
  | .str _ => 0
  | .tup ds => depths ds + 1
  | .list ds => depths ds + 1
def depths : List Dat → Nat
  | [] => 0
  | d :: ds => max d.depth (depths ds)
end

mutual
def Dat.fits : Dat → Prop
  | .tup ds => ds.length ≤ 2 ^ 23 ∧ fitss ds
  | .list ds => ds.length ≤ 2 ^ 23 ∧ fitss ds
  | _ => True
def fitss : List Dat → Prop
  | [] => True
  | d :: ds => d.fits ∧ fitss ds
end

mutual
theorem DR.ext {σ σ' : Store} (h : Ext σ σ') : ∀ {x : V} {d : Dat}, DR σ x d → DR σ' x d
  | _, .none, k => by simpa [DR] using k
  | _, .int i, k => by simpa [DR] using k
  | _, .str t, k => by simpa [DR] using k
  | _, .tup ds, k => by
    simp only [DR] at k ⊢
    obtain ⟨xs, rfl, hd⟩ := k
    exact ⟨xs, rfl, DRs.ext h hd⟩
  | _, .list ds, k => by
    simp only [DR] at k ⊢
    obtain ⟨a, xs, rfl, ha, hd⟩ := k
    exact ⟨a, xs, rfl, h a _ ha, DRs.ext h hd⟩
theorem DRs.ext {σ σ' : Store} (h : Ext σ σ') : ∀ {xs : List V} {ds : List Dat}, DRs σ xs ds → DRs σ' xs ds
  | _, [], k => by simpa [DRs] using k
  | _, d :: ds, k => by
    simp only [DRs] at k ⊢
    obtain ⟨y, ys, rfl, h1, h2⟩ := k
    exact ⟨y, ys, rfl, DR.ext h h1, DRs.ext h h2⟩
end

theorem DRs.length {σ : Store} : ∀ {xs : List V} {ds : List Dat}, DRs σ xs ds → xs.length = ds.length
  | _, [], k => by simp only [DRs] at k; rw [k]; rfl
  | _, d :: ds, k => by
    simp only [DRs] at k
    obtain ⟨y, ys, rfl, h1, h2⟩ := k
    simp [DRs.length h2]
theorem DRs.get {σ : Store} : ∀ {xs : List V} {ds : List Dat} {i : Nat} {d : Dat}, DRs σ xs ds → ds[i]? = some d → ∃ x, xs[i]? = some x ∧ DR σ x d
  | _, d :: ds, 0, e, k, h => by
    simp only [DRs] at k
    obtain ⟨y, ys, rfl, h1, h2⟩ := k
    cases h; exact ⟨y, rfl, h1⟩
  | _, d :: ds, i + 1, e, k, h => by
    simp only [DRs] at k
    obtain ⟨y, ys, rfl, h1, h2⟩ := k
    exact DRs.get (i := i) h2 (by simpa using h)
theorem depths_get : ∀ {ds : List Dat} {i : Nat} {d : Dat}, ds[i]? = some d → d.depth ≤ depths ds
  | d :: ds, 0, e, h => by cases h; simp only [depths]; exact Nat.le_max_left _ _
  | d :: ds, i + 1, e, h => by
    have := depths_get (ds := ds) (i := i) (by simpa using h)
    simp only [depths]; exact Nat.le_trans this (Nat.le_max_right _ _)
theorem fitss_get : ∀ {ds : List Dat} {i : Nat} {d : Dat}, fitss ds → ds[i]? = some d → d.fits
  | d :: ds, 0, e, k, h => by cases h; simp only [fitss] at k; exact k.1
  | d :: ds, i + 1, e, k, h => by simp only [fitss] at k; exact fitss_get (i := i) k.2 (by simpa using h)

theorem Lim.down_n (c : Lim) : c.down.n = c.n - 1 := rfl
theorem Lim.down_q (c : Lim) : c.down.q = c.q := rfl
theorem typeV_list {a : Addr} {xs : List V} (h : σ a = some (.list xs)) : typeV σ (.ref a) = some (.type "list") := by simp [typeV, h]
theorem known_raw : (V.ref a).known = true := rfl
theorem WE_mono {e : Expr} {Q' : V → Store → Prop} (h : WE X c env e m σ Q Ex) (k : ∀ x σ', Q x σ' → Q' x σ') : WE X c env e m σ Q' Ex := WP.mono h k
end
end Zl

namespace Zl
section
variable {X : Cx} {c : Lim} {env : Env} {m : Loc} {σ : Store} {Q : V → Store → Prop} {T F : Store → Prop} {Ex : Exn} {A : Around} {bs : Bs} {L : Addr} {s : Shared} {N : Loc → Store → Prop} {O : Fl → Loc → Store → Prop}

theorem lookup_isSome_map {x : Str} : ∀ {l : List (Str × Addr)}, (l.lookup x).isSome = (l.map (·.1)).contains x
  | [] => rfl
  | (y, a) :: r => by
    simp only [List.lookup, List.map_cons, List.contains_cons]
    cases h : x == y with
    | true => simp
    | false => simp only [Bool.false_or]; exact lookup_isSome_map

theorem cells_some {ns : List (Str × NameKind)} {x : Str} (h : ((cellsFrom 0 ns []).lookup x).isSome = true) (n : Nat) : ((cellsFrom n ns []).lookup x).isSome = true := by
  rw [lookup_isSome_map] at h ⊢
  rw [cellsFrom_names ns n 0 [] [] rfl]; exact h

theorem cellσ_other {vals : Loc} : ∀ {cs : List (Str × Addr)} {a : Addr}, (∀ n, (n, a) ∉ cs) → cellσ σ vals cs a = σ a
  | [], _, _ => rfl
  | (n, b) :: r, a, h => by
    have : a ≠ b := fun q => h n (by rw [q]; exact .head _)
    show (cellσ σ vals r).set b _ a = _
    rw [Store.set_ne _ _ this]
    exact cellσ_other fun n' hm => h n' (.tail _ hm)
theorem cellσ_at {vals : Loc} : ∀ {cs : List (Str × Addr)} {n : Str} {a : Addr}, (cs.Pairwise fun x y => x.2 ≠ y.2) → (n, a) ∈ cs → cellσ σ vals cs a = some (.cell (vals n))
  | (n', b) :: r, n, a, hp, hm => by
    rw [List.pairwise_cons] at hp
    rcases List.mem_cons.mp hm with e | hm
    · cases e; exact Store.set_self _ _ _
    · have : a ≠ b := fun q => hp.1 (n, a) hm q.symm
      show (cellσ σ vals r).set b _ a = _
      rw [Store.set_ne _ _ this]
      exact cellσ_at hp.2 hm
theorem cellsFrom_lo : ∀ {ns : List (Str × NameKind)} {k lo : Nat} {acc : List (Str × Addr)}, lo ≤ k → (∀ n a, (n, a) ∈ acc → @LE.le Nat _ lo a ∧ @LT.lt Nat _ a k) → (acc.Pairwise fun x y => x.2 ≠ y.2) →
    (∀ n a, (n, a) ∈ cellsFrom k ns acc → @LE.le Nat _ lo a) ∧ ((cellsFrom k ns acc).Pairwise fun x y => x.2 ≠ y.2)
  | [], _, _, _, _, h, hp => ⟨fun n a hm => (h n a hm).1, hp⟩
  | (name, kind) :: r, k, lo, acc, hk, h, hp => by
    unfold cellsFrom
    split
    · refine cellsFrom_lo (ns := r) (k := k + 1) (by omega) (fun n a hm => ?_) ?_
      · rcases List.mem_cons.mp hm with e | hm
        · cases e; exact ⟨hk, Nat.lt_succ_self _⟩
        · have := h n a hm; exact ⟨this.1, Nat.lt_succ_of_lt this.2⟩
      · rw [List.pairwise_cons]
        refine ⟨fun y hy => ?_, hp⟩
        have := h y.1 y.2 hy
        exact Nat.ne_of_gt this.2
    · exact cellsFrom_lo hk h hp

def kindsOk (scope : Scope) (names : List Str) : Bool := names.all fun x => (match scope.names.lookup x with | some .local => true | some .cell => ((cellsFrom 0 scope.names []).lookup x).isSome | _ => false)

theorem WC_cells {f : Addr} {xs : List V} {name qual : Str} {params : Arguments} {body : List Stmt} {scope : Scope} {dV kV doc pm cdv ct oc : Value} {an od : Option Addr} {osl : Array (Option Value)} (names : List Str) (ok : X.Ok)
    (ho : X.K.lookup f = some ⟨oc, od, .func (fnOf name qual params body scope dV kV doc pm an cdv ct), osl⟩) (hcd : codeIn X.K cdv qual = true) (hc : 1 ≤ c.n) (hlen : names.length = xs.length)
    (hb : ∀ us : List Value, us.length = names.length → bindArgs (fnOf name qual params body scope dV kV doc pm an cdv ct) ⟨us, []⟩ = pure (names.zip us))
    (hkind : kindsOk scope names = true) (hnd : ((cellsFrom 0 scope.names []).map (·.1)).Nodup)
    (h : ∀ L' σ₁, (∀ a, L' ≤ a → Fresh σ a) → Ext σ σ₁ → (∀ a, a < L' → σ₁ a = σ a) → (∀ n a, (n, a) ∈ cellsFrom (L' + 1) scope.names [] → σ₁ a = some (.cell (bindCV (fun x => scope.names.lookup x) (names.zip xs) (fun _ => none) n))) →
      WS X c.down (envX qual scope L' f cdv (cellsFrom (L' + 1) scope.names [])) body (bindLV (fun x => scope.names.lookup x) (names.zip xs) fun _ => none) σ₁ (fun _ σ' => Q .none σ') (RetO Q) Ex)
    (hco : scope.isCoroutine = false := by with_unfolding_all rfl) (hgen : scope.isGenerator = false := by with_unfolding_all rfl) (hk : scope.kind = .function := by with_unfolding_all rfl) : WC X c f xs σ Q Ex := by
  refine WC_defC names ok ho hcd hc hlen hb (fun x hx => ?_) hnd (fun L' hL => ?_) hco hgen hk
  · have := List.all_eq_true.mp hkind x hx
    revert this
    cases e : scope.names.lookup x with
    | none => intro q; cases q
    | some k => cases k <;> first | (intro q; exact .inl rfl) | (intro q; exact .inr ⟨rfl, cells_some q⟩) | (intro q; cases q)
  · have lo := cellsFrom_lo (ns := scope.names) (k := L' + 1) (lo := L' + 1) (acc := []) (Nat.le_refl _) (fun _ _ h => by cases h) .nil
    refine h L' _ hL (fun a o e => ?_) (fun a ha => cellσ_other fun n hm => Nat.lt_irrefl _ (Nat.lt_of_lt_of_le (Nat.lt_succ_of_lt ha) (lo.1 n a hm))) fun n a hm => cellσ_at lo.2 hm
    rw [cellσ_other]; exact e
    intro n hm
    exact absurd (.inl ⟨o, e⟩) (hL a (Nat.le_of_succ_le (lo.1 n a hm)))
end
end Zl

namespace Zl
section
variable {X : Cx} {c : Lim} {env : Env} {m : Loc} {σ : Store} {Q : V → Store → Prop} {T F : Store → Prop} {Ex : Exn} {A : Around} {bs : Bs} {L : Addr} {s : Shared} {N : Loc → Store → Prop} {O : Fl → Loc → Store → Prop}

theorem range_get {a : Int} {n i : Nat} {x : V} (h : ((List.range n).map fun (i : Nat) => V.int (a + i))[i]? = some x) : x = .int (a + i) ∧ i < n := by
  rw [List.getElem?_map] at h
  by_cases hi : i < n
  · rw [List.getElem?_range hi] at h; simp at h; exact ⟨h.symm, hi⟩
  · rw [List.getElem?_eq_none (by simpa using hi)] at h; cases h

theorem seqIndex_nat {i n : Nat} (h : i < n) : seqIndex? (i : Int) n = some i := by
  unfold seqIndex?
  simp
  omega
theorem sub_tup_nat {value slice : Expr} {xs : List V} {k : Int} {i : Nat} {x : V} (hk : k = i) (hi : i < 2 ^ 62) (hx : xs[i]? = some x) (h : Q x σ)
    (hs : ∀ o i, subscripted slice false o i = operate [o, i] (getItem o i) := by intro _ _; with_unfolding_all rfl) : W2 X c (subscriptTail value slice) (.tup xs) (.int k) σ Q Ex := by
  subst hk
  have : i < xs.length := by rcases Nat.lt_or_ge i xs.length with h | h; exact h; rw [List.getElem?_eq_none h] at hx; cases hx
  exact sub_tup (by omega) (by omega) (seqIndex_nat this) hx h hs
theorem sub_list_nat {value slice : Expr} {a : Addr} {xs : List V} {k : Int} {i : Nat} {x : V} (ha : σ a = some (.list xs)) (hk : k = i) (hi : i < 2 ^ 62) (hx : xs[i]? = some x) (h : Q x σ)
    (hs : ∀ o i, subscripted slice false o i = operate [o, i] (getItem o i) := by intro _ _; with_unfolding_all rfl) : W2 X c (subscriptTail value slice) (.ref a) (.int k) σ Q Ex := by
  subst hk
  exact sub_list ha (by omega) (by omega) (by simpa using hx) h hs
end
end Zl

namespace Zl

def noStore : Store := fun _ => none
def lim0 : Lim := { n := 100, q := true }

theorem top_law {cw : ClaimW} {cl : Str → Option Addr} {mean : ExcName → Option Value} {args : List WData} {prog : Program} {w : World} (Kf : Params → Frag) {p : Program} {loose : List Str} {mean' : ExcName → Option Value} {mg mb mm : Str → Option Value}
    {s₁ s : Shared} {a : Addr} {ns : List Int} {vs : List Value} {env : Env} {body : List Stmt} {E : Value → Shared → Prop} (KX : (Kf w.params).In s₁.heap) (Tp : Top p loose mean' mg mb s₁.heap) (hl : s₁.heap.IsList a vs.toArray) (hI : IntsAre vs ns)
    (hg : s₁.gens = #[]) (F : Fr s₁.heap s₁.heap.objs.size s.heap mm) (hm : mm (Str.ofString "_law_script") = some (.ref a)) (hs : s = { s₁ with heap := s.heap, toks := s.toks }) (hL : env.locals = s₁.heap.objs.size) (hF : env.frame = some s₁.heap.objs.size) (hk : env.scope.kind = .function)
    (hnr : ∀ cls, cw.raises args cls = false) (hp : cw.post args (.bool true) args = true)
    (hlen : ¬ ((63 : Nat) : Int) < ((ns.length : Nat) : Int)) (h : ∀ (X : Cx) (a : Addr) (ns : List Int), X.K = Kf X.w.params → X.Ok → Scr X a ns → ns.length ≤ 63 → WS X lim0 env body (locOf [(Str.ofString "_law_script", .raw (.ref a))]) noStore (fun _ _ => False) (RetO fun x _ => x = .bool true) noEx) :
    wpAny (model prog w) (callerA.deeper env) (execs body env) (fun f s' => GoodW cw cl mean args s₁ (.ok (.ret (match f with | .ret v => v | _ => .none))) s') E s := by
  let X : Cx := { prog := prog, w := w, K := Kf w.params, hT := s₁.heap, sh := s₁, p := p, loose := loose, mean := mean', mg := mg, mb := mb }
  let bs : Bs := { b := s₁.heap.get?, d := fun _ => none, frs := [env] }
  have hfr : s₁.heap.get? s₁.heap.objs.size = none := heap_fresh _
  have R : Rel X bs env.locals (locOf [(Str.ofString "_law_script", .raw (.ref a))]) noStore s := by
    refine ⟨hs, fun _ _ e => e, F.keep, (fun _ _ e => by cases e), ⟨mm, hL ▸ F.ns, fun x v e => ?_⟩, (fun _ _ e => by cases e), ⟨hL ▸ hfr, rfl⟩, (fun b hb => ?_), ⟨fun _ _ _ _ e => (by cases e), fun _ _ _ _ _ _ _ e => by cases e⟩, fun e he => ?_, fun _ _ _ => rfl, fun _ _ e => by cases e⟩
    · simp only [locOf, List.reverse_cons, List.reverse_nil, List.nil_append, List.lookup] at e
      split at e
      · rename_i q
        cases e
        rw [eq_of_beq q]
        exact ⟨_, hm, .raw _⟩
      · cases e
    · rcases hb with ⟨o, e⟩ | ⟨x, C, fs, e⟩ <;> cases e
    · cases List.mem_singleton.mp he
      exact ⟨by rw [hk]; decide, _, hF, hfr, .inl hL.symm⟩
  have hA : OKA (callerA.deeper env) lim0 bs.frs := ⟨fun _ => rfl, by show (1 + claimMargin) + 1 + 100 ≤ 900; decide, by show callerA.units + _ + 60 * 100 ≤ 9000; decide, rfl⟩
  refine wpAny_mono (h X a ns rfl ⟨KX, Tp⟩ ⟨vs, hl, hI⟩ (by omega) _ bs s hA R) (fun f s' hf => ?_) fun _ _ e => e.elim
  obtain ⟨m', σ', R', hf⟩ := hf
  have hsh := R'.sh
  have fin : GoodW cw cl mean args s₁ (.ok (.ret (.bool true))) s' := by
    refine ⟨.inl ⟨.bool true, .bool true, [], rfl, hnr, .bool true, hp, fun _ => ⟨.nil, fun _ h => by cases h⟩⟩, fun b o e => R'.hT b o e, by rw [hsh], by rw [hsh]; exact hg⟩
  cases f with
  | next => exact hf.elim
  | brk => exact hf.elim
  | cont => exact hf.elim
  | ret v =>
    obtain ⟨x, hv, hx⟩ := hf
    have hx : x = .bool true := hx
    subst hx
    cases hv
    exact fin
section
variable {X : Cx} {c : Lim} {env : Env} {m : Loc} {σ : Store} {Q : V → Store → Prop} {Ex : Exn} {N N' : Loc → Store → Prop} {O : Fl → Loc → Store → Prop}
theorem WX_mono {st : Stmt} (N' : Loc → Store → Prop) (h : WX X c env st m σ N' O Ex) (k : ∀ m' σ', N' m' σ' → N m' σ') : WX X c env st m σ N O Ex := fun A bs s hA R =>
  wpAny_mono (h A bs s hA R) (fun f s' h' => by
    obtain ⟨m', σ', R', hf⟩ := h'
    refine ⟨m', σ', R', ?_⟩
    cases f with
    | next => exact k _ _ hf
    | brk => exact hf
    | cont => exact hf
    | ret v => exact hf) fun _ _ e => e
theorem WC_mono {f : Addr} {xs : List V} {Q' : V → Store → Prop} (h : WC X c f xs σ Q' Ex) (k : ∀ x σ', Q' x σ' → Q x σ') : WC X c f xs σ Q Ex := fun A bs L m s us hA R hu => codeAny_mono (h A bs L m s us hA R hu) fun r s' h' => by
  revert h'
  unfold CPost
  split
  · rintro ⟨x, σ', h1, h2, h3⟩; exact ⟨x, σ', h1, h2, k _ _ h3⟩
  · exact fun h => h
  · exact fun h => h
end
end Zl

namespace Zl
section
variable {X : Cx} {c : Lim} {env : Env} {m : Loc} {σ : Store} {Q : V → Store → Prop} {T F : Store → Prop} {Ex : Exn} {A : Around} {bs : Bs} {L : Addr} {s : Shared} {N : Loc → Store → Prop} {O : Fl → Loc → Store → Prop}

theorem Store.set_fresh {a b : Addr} {o o' : PO} (h : Fresh σ b) (e : σ a = some o) : σ.set b o' a = some o := by rw [Store.set_ne _ _ (h.ne e)]; exact e
theorem div_small {i j : Int} (hj : j ≠ 0) (hp : j.natAbs < 1073741824) (h : Q (.int (i.fdiv j)) σ) : W2 X c (binaryOp .FloorDiv) (.int i) (.int j) σ Q Ex := div_int hj (PyProof.noPylong_small hp) h
theorem mul_left {i j : Int} (hm : Builtin.Int.intBits i ≤ 64) (h : Q (.int (i * j)) σ) : W2 X c (binaryOp .Mult) (.int i) (.int j) σ Q Ex := mul_int (.of_left hm) h
theorem mul_right {i j : Int} (hm : Builtin.Int.intBits j ≤ 64) (h : Q (.int (i * j)) σ) : W2 X c (binaryOp .Mult) (.int i) (.int j) σ Q Ex := mul_int (.of_right hm) h
theorem Ext.get {σ σ' : Store} (h : Ext σ σ') {a : Addr} {o : PO} (e : σ a = some o) : σ' a = some o := h a o e
end
end Zl

namespace Zl
section
variable {X : Cx} {c : Lim} {env : Env} {m : Loc} {σ : Store} {Q : V → Store → Prop} {T F : Store → Prop} {Ex : Exn} {A : Around} {bs : Bs} {L : Addr} {s : Shared} {N : Loc → Store → Prop} {O : Fl → Loc → Store → Prop}

theorem OKA.cunits {frs : List Env} (h : OKA A c frs) : A.units < cLine := by
  have := h.2.2.1
  unfold cLine; omega

/-- pairs of ints, in order -/
def pairLt (a b c d : Int) : Bool := if a = c then decide (b < d) else decide (a < c)

theorem tup_pair_tree {E : Value → Shared → Prop} {x y : Addr} {a b c d : Int} {t1 t2 t3 t4 : Tok} {P : PySem.Fin → Shared → Prop} (hx : IsTup s.heap x [Value.int a t1, .int b t2].toArray) (hy : IsTup s.heap y [Value.int c t3, .int d t4].toArray)
    (h : P (.done (.ret (.bool (pairLt a b c d)))) s) : wpAny X.M A (Builtin.«tuple.__lt__» ⟨[.ref x, .ref y], []⟩) P E s := by
  have hTb := hy.typeIs
  obtain ⟨oa, hoa, _, na, hda⟩ := hx
  obtain ⟨ob, hob, _, nb, hdb⟩ := hy
  show wpAny _ _ (isInstance (.ref y) (.type "tuple") >>= _) _ _ s
  refine wpAny_bind (wpAny_isInstance hTb isSubtype_tuple_tuple ?_)
  simp only [Bool.not_true, Bool.false_eq_true, if_false]
  refine wpAny_bind (wpAny_tupleItemsOf hoa hda ?_)
  refine wpAny_bind (wpAny_tupleItemsOf hob hdb ?_)
  refine wpAny_bind ?_
  simp only [List.zip_cons_cons, List.zip_nil_right, List.forIn_cons, List.forIn_nil]
  refine wpAny_bind (wpAny_bind (wpAny_eqBool_int ?_))
  unfold pairLt at h
  by_cases hac : a = c
  · rw [if_pos hac] at h
    rw [show (a == c) = true by simpa using hac]
    simp only [Bool.not_true, Bool.false_eq_true, if_false]
    refine wpAny_pure (wpAny_bind (wpAny_bind (wpAny_eqBool_int ?_)))
    by_cases hbd : b = d
    · rw [show (b == d) = true by simpa using hbd]
      simp only [Bool.not_true, Bool.false_eq_true, if_false]
      refine wpAny_pure (wpAny_pure (wpAny_pure ?_))
      rw [show decide (b < d) = false by rw [hbd]; simp] at h
      exact h
    · rw [show (b == d) = false by simpa using hbd]
      simp only [Bool.not_false, if_true]
      exact wpAny_bind (wpAny_rule (wpAny_bind (PyProof.Rows.lt_int (wpAny_bind (wpAny_pure (wpAny_pure (wpAny_pure (wpAny_pure h))))))))
  · rw [if_neg hac] at h
    rw [show (a == c) = false by simpa using hac]
    simp only [Bool.not_false, if_true]
    exact wpAny_bind (wpAny_rule (wpAny_bind (PyProof.Rows.lt_int (wpAny_bind (wpAny_pure (wpAny_pure (wpAny_pure (wpAny_pure h))))))))
end
end Zl

namespace Zl
section
variable {X : Cx} {c : Lim} {env : Env} {m : Loc} {σ : Store} {Q : V → Store → Prop} {T F : Store → Prop} {Ex : Exn} {A : Around} {bs : Bs} {L : Addr} {s : Shared} {N : Loc → Store → Prop} {O : Fl → Loc → Store → Prop}

theorem tup_pair_gt {E : Value → Shared → Prop} {x y : Addr} {a b c d : Int} {t1 t2 t3 t4 : Tok} {P : PySem.Fin → Shared → Prop} (hx : IsTup s.heap x [Value.int a t1, .int b t2].toArray) (hy : IsTup s.heap y [Value.int c t3, .int d t4].toArray)
    (h : P (.done (.ret (.bool (pairLt c d a b)))) s) : wpAny X.M A (Builtin.«tuple.__gt__» ⟨[.ref x, .ref y], []⟩) P E s := by
  have hTb := hy.typeIs
  obtain ⟨oa, hoa, _, na, hda⟩ := hx
  obtain ⟨ob, hob, _, nb, hdb⟩ := hy
  show wpAny _ _ (isInstance (.ref y) (.type "tuple") >>= _) _ _ s
  refine wpAny_bind (wpAny_isInstance hTb isSubtype_tuple_tuple ?_)
  simp only [Bool.not_true, Bool.false_eq_true, if_false]
  refine wpAny_bind (wpAny_tupleItemsOf hoa hda ?_)
  refine wpAny_bind (wpAny_tupleItemsOf hob hdb ?_)
  refine wpAny_bind ?_
  simp only [List.zip_cons_cons, List.zip_nil_right, List.forIn_cons, List.forIn_nil]
  refine wpAny_bind (wpAny_bind (wpAny_eqBool_int ?_))
  unfold pairLt at h
  by_cases hac : a = c
  · rw [if_pos hac.symm] at h
    rw [show (a == c) = true by simpa using hac]
    simp only [Bool.not_true, Bool.false_eq_true, if_false]
    refine wpAny_pure (wpAny_bind (wpAny_bind (wpAny_eqBool_int ?_)))
    by_cases hbd : b = d
    · rw [show (b == d) = true by simpa using hbd]
      simp only [Bool.not_true, Bool.false_eq_true, if_false]
      refine wpAny_pure (wpAny_pure (wpAny_pure ?_))
      rw [show decide (d < b) = false by rw [hbd]; simp] at h
      exact h
    · rw [show (b == d) = false by simpa using hbd]
      simp only [Bool.not_false, if_true]
      exact wpAny_bind (wpAny_rule (wpAny_bind (PyProof.Rows.gt_int (wpAny_bind (wpAny_pure (wpAny_pure (wpAny_pure (wpAny_pure h))))))))
  · rw [if_neg (Ne.symm hac)] at h
    rw [show (a == c) = false by simpa using hac]
    simp only [Bool.not_false, if_true]
    exact wpAny_bind (wpAny_rule (wpAny_bind (PyProof.Rows.gt_int (wpAny_bind (wpAny_pure (wpAny_pure (wpAny_pure (wpAny_pure h))))))))

theorem VR.isPair {u : Value} {a b : Int} (h : VR s.heap.get? u (.tup [.int a, .int b])) : ∃ x t t', u = .ref x ∧ IsTup s.heap x [Value.int a t, .int b t'].toArray := by
  obtain ⟨x, vs, rfl, hx, hr⟩ := h.isTup
  obtain ⟨u1, u2, rfl, h1, h2⟩ := hr.two
  cases h1; cases h2
  exact ⟨x, _, _, rfl, hx⟩
theorem gt_pair {a b c' d : Int} (h : Q (.bool (pairLt c' d a b)) σ) : W2 X c (compareOp .Gt) (.tup [.int a, .int b]) (.tup [.int c', .int d]) σ Q Ex := fun A bs L m s u v hA R hu hv => by
  obtain ⟨x, t1, t2, rfl, hx⟩ := hu.isPair
  obtain ⟨y, t3, t4, rfl, hy⟩ := hv.isPair
  show wpAny _ _ (richCompare .Gt _ _) _ _ _
  exact wpAny_richCompare_same_room (op := .Gt) hx.typeIs hy.typeIs F.slot_tuple_gt (wpAny_call_entry F.slot_tuple_gt hx.typeIs F.entry_tuple_gt (tup_pair_gt hx hy ⟨_, rfl, (fun e => by cases e), ⟨_, σ, .bool _, R, h⟩⟩) (F.args_tuple_gt_2 _ _)) hA.cunits
theorem lt_pair {a b c' d : Int} (h : Q (.bool (pairLt a b c' d)) σ) : W2 X c (compareOp .Lt) (.tup [.int a, .int b]) (.tup [.int c', .int d]) σ Q Ex := fun A bs L m s u v hA R hu hv => by
  obtain ⟨x, t1, t2, rfl, hx⟩ := hu.isPair
  obtain ⟨y, t3, t4, rfl, hy⟩ := hv.isPair
  show wpAny _ _ (richCompare .Lt _ _) _ _ _
  exact wpAny_richCompare_same_room (op := .Lt) hx.typeIs hy.typeIs F.slot_tuple_lt (wpAny_call_entry F.slot_tuple_lt hx.typeIs F.entry_tuple_lt (tup_pair_tree hx hy ⟨_, rfl, (fun e => by cases e), ⟨_, σ, .bool _, R, h⟩⟩) (F.args_tuple_lt_2 _ _)) hA.cunits

theorem ne_bool {b b' : Bool} (h : Q (.bool (b != b')) σ) : W2 X c (compareOp .NotEq) (.bool b) (.bool b') σ Q Ex := fun A bs L m s u v hA R hu hv => by
  cases hu; cases hv; exact PyProof.Rows.ne_bool ⟨_, σ, .bool _, R, h⟩
theorem eq_bool {b b' : Bool} (h : Q (.bool (b == b')) σ) : W2 X c (compareOp .Eq) (.bool b) (.bool b') σ Q Ex := fun A bs L m s u v hA R hu hv => by
  cases hu; cases hv; exact PyProof.Rows.eq_bool ⟨_, σ, .bool _, R, h⟩

/-! data, compared by == and != -/
mutual
def PD (σ : Store) : V → PyData → Prop
  | x, .none => x = .none
  | x, .bool b => x = .bool b
  | x, .int i => x = .int i
  | x, .str t => x = .str t
  | x, .tuple ds => ∃ xs, x = .tup xs ∧ PDs σ xs ds
  | x, .list ds => ∃ a xs, x = .ref a ∧ σ a = some (.list xs) ∧ PDs σ xs ds
  | _, .dict _ => False
def PDs (σ : Store) : List V → List PyData → Prop
  | xs, [] => xs = []
  | xs, d :: ds => ∃ y ys, xs = y :: ys ∧ PD σ y d ∧ PDs σ ys ds
end

mutual
theorem PD.reads (R : Rel X bs L m σ s) : ∀ {d : PyData} {x : V} {u : Value}, PD σ x d → VR s.heap.get? u x → ∃ as, Reads s.heap u d as
  | .none, _, _, k, h => by simp only [PD] at k; subst k; cases h; exact ⟨_, .none⟩
  | .bool b, _, _, k, h => by simp only [PD] at k; subst k; cases h; exact ⟨_, .bool b⟩
  | .int i, _, _, k, h => by simp only [PD] at k; subst k; cases h; exact ⟨_, .int i _⟩
  | .str t, _, _, k, h => by simp only [PD] at k; subst k; cases h; exact ⟨_, .str t _⟩
  | .tuple ds, _, _, k, h => by
    simp only [PD] at k
    obtain ⟨xs, rfl, hd⟩ := k
    cases h with
    | tup e h1 h2 r => obtain ⟨as, ha⟩ := PDs.reads R hd r; exact ⟨_, .tuple e h1 h2 (by simpa using ha)⟩
  | .list ds, _, _, k, h => by
    simp only [PD] at k
    obtain ⟨a, xs, rfl, ha, hd⟩ := k
    cases h
    obtain ⟨vs, hp, hr⟩ := R.st a _ ha
    obtain ⟨o, ho, hc, n, hdt⟩ := hp.isList
    obtain ⟨as, ha⟩ := PDs.reads R hd hr
    exact ⟨_, .list ho hc hdt ha⟩
  | .dict _, _, _, k, _ => by simp only [PD] at k
theorem PDs.reads (R : Rel X bs L m σ s) : ∀ {ds : List PyData} {xs : List V} {us : List Value}, PDs σ xs ds → VRs s.heap.get? us xs → ∃ as, ReadsAll s.heap us ds as
  | [], _, _, k, h => by simp only [PDs] at k; subst k; cases h; exact ⟨_, .nil⟩
  | d :: ds, _, _, k, h => by
    simp only [PDs] at k
    obtain ⟨y, ys, rfl, h1, h2⟩ := k
    cases h with
    | cons a r =>
      obtain ⟨as, ha⟩ := PD.reads R h1 a
      obtain ⟨bs, hb⟩ := PDs.reads R h2 r
      exact ⟨_, .cons ha hb⟩
end

theorem eq_dat {x y : V} {d e : PyData} (hx : PD σ x d) (hy : PD σ y e) (h1 : SeqAt.shaped d = true) (h2 : SeqAt.shaped e = true) (h : Q (.bool (PyData.eqv d e)) σ) : W2 X c (compareOp .Eq) x y σ Q Ex := fun A bs L m s u v hA R hu hv => by
  obtain ⟨as, r1⟩ := hx.reads R hu
  obtain ⟨bs', r2⟩ := hy.reads R hv
  exact eq_dataH r1 r2 h1 h2 (by have := hA.2.2.1; unfold cLine; omega) ⟨_, σ, .bool _, R, h⟩
theorem ne_dat {x y : V} {d e : PyData} (hx : PD σ x d) (hy : PD σ y e) (h1 : SeqAt.shaped d = true) (h2 : SeqAt.shaped e = true) (h : Q (.bool (!PyData.eqv d e)) σ) : W2 X c (compareOp .NotEq) x y σ Q Ex := fun A bs L m s u v hA R hu hv => by
  obtain ⟨as, r1⟩ := hx.reads R hu
  obtain ⟨bs', r2⟩ := hy.reads R hv
  exact ne_dataH r1 r2 h1 h2 (by have := hA.2.2.1; unfold cLine; omega) ⟨_, σ, .bool _, R, h⟩

/-! methods of a built-in list -/
theorem callWithB_any {f : Value} {first : List Value} {xs : List V} {args : List Expr} {pos : Pos} (hA : OKA A c bs.frs) (R : Rel X bs env.locals m σ s) (hf : ∀ a, f ≠ .ref a) (hfs : VRs s.heap.get? first xs) (hn : args.all noStar = true)
    (h : WEs X c env args m σ (fun ys σ' => WN X c (fun us => call f us) (xs ++ ys) σ' Q Ex) Ex) :
    wpAny X.M A (callWith pos f first (backTo pos (starEach args env)) []) (VPost X bs env.locals m Q) (XE X bs env.locals Ex) s := by
  have hk : ∀ h : Heap, True → ∃ k, (k = Keeper.frame ∨ k = Keeper.machine ∨ k = Keeper.boundFrame) ∧ Looks X.M h (keeperOf f) k := fun h _ => ⟨.machine, .inr (.inl rfl), Looks.of_pure (by
    cases f <;> first | rfl | exact (hf _ rfl).elim)⟩
  refine callWith_of (P := fun _ => True) (by rw [plain_backTo hn]; rfl) hk (evalArgs_any hn ?_)
  have le := R.le
  have kept : ∀ {vs : List Value} {ys : List V}, VRs s.heap.get? vs ys → VRs (restB bs env.locals σ s.heap).b vs ys := by
    intro vs ys h
    induction vs generalizing ys with
    | nil => cases h; exact .nil
    | cons v vs ih => cases h with | cons a r => exact .cons (R.keepVR a) (ih r)
  have hf' := kept hfs
  refine wpAny_mono (thenL (bs := restB bs env.locals σ s.heap) hn (by exact hA) R.rest h) (fun vs s₁ h₁ => ?_) fun _ _ e => e.le le
  obtain ⟨ys, σ₁, h1, R₁, _, h3⟩ := h₁
  refine ⟨trivial, ?_⟩
  refine wpAny_mono (h3 A _ env.locals m s₁ (first ++ vs) (by exact hA) R₁ (VRs.append (hf'.mono fun a o _ _ e _ _ => R₁.base a o e) h1)) (fun v s₂ h₂ => h₂.le le R.top) fun _ _ e => e.le le

theorem WE_MethL {o : Expr} {name : Str} {id : String} {apos pos : Pos} {args : List Expr} (slot : Slot "list" name id) (hty : typeOf (.builtin id) = pure (.type "method_descriptor"))
    (h : WE X c env o m σ (fun x σ₁ => ∃ a xs, x = .ref a ∧ σ₁ a = some (.list xs) ∧ WEs X c env args m σ₁ (fun ys σ' => WN X c (fun us => call (.builtin id) us) (.ref a :: ys) σ' Q Ex) Ex) Ex)
    (hn : args.all noStar = true := by with_unfolding_all rfl) (hns : notSuper o = true := by with_unfolding_all rfl) (hlen : args.length < 30 := by decide) (hline : (apos.endLine == pos.line) = true := by with_unfolding_all rfl) :
    WE X c env (.Call (.Attribute o name apos) args [] pos) m σ Q Ex := fun A bs s hA R => by
  rw [arm_eval_Call, attributeBase_of hns]
  refine wpAny_bind (wpAny_mono (h A bs s hA R) (fun u s₁ h₁ => wpAny_bind (wpAny_standAt ?_)) fun _ _ e => e)
  obtain ⟨x, σ₁, h1, R₁, a, xs, rfl, ha, h3⟩ := h₁
  cases h1
  obtain ⟨vs, hp, hr⟩ := R₁.st a _ ha
  have few : methodCallForm (args.length + ([] : List Keyword).length) (backTo pos (starEach args env)) (backToKw pos (keywordEach [] env)) = true := by
    unfold methodCallForm
    have h1 : (backTo pos (starEach args env)).all (!·.1) = true := by
      have := plain_backTo (env := env) (pos := pos) hn
      rw [List.any_eq_false] at this
      rw [List.all_eq_true]
      intro x hx
      simpa using this x hx
    simp [h1, backToKw, keywordEach, hlen]
  unfold methodCall
  rw [few]
  refine wpAny_bind (wpAny_holding ?_)
  show wpAny _ _ (getMethod _ _ _) _ _ _
  refine getMethod_list_of slot hty hp.isList (let ⟨n, ho⟩ := hp; ⟨_, ho, rfl⟩) ?_
  refine wpAny_bind ?_
  unfold methodCallPos
  rw [if_pos (by rw [hline]; rfl)]
  refine wpAny_pure ?_
  exact callWithB_any (xs := [.ref a]) hA R₁ (fun a e => by cases e) (.cons (.ref a) .nil) hn h3

theorem wn_append {a : Addr} {xs : List V} {x : V} (ha : σ a = some (.list xs)) (hz : xs.length ≤ 2 ^ 23) (h : Q .none (σ.set a (.list (xs ++ [x])))) : WN X c (fun us => call (.builtin "list.append") us) [.ref a, x] σ Q Ex := fun A bs L m s us hA R hu => by
  obtain ⟨u, v, rfl, hu1, hv⟩ := hu.two
  clear hu
  cases hu1
  obtain ⟨vs, hp, hr⟩ := R.st a _ ha
  have hlen : vs.size = xs.length := by rw [← Array.length_toList, hr.length]
  refine wpAny_list_append_plain hp (fun h' hp' hs' => ?_) (by rw [hlen, sizeLine_eq]; omega)
  have ht := R.ht ha (c := a) rfl hs'
  refine ⟨.none, _, .none, R.upd (po' := .list (xs ++ [x])) ha (c := a) rfl rfl hs' ⟨_, hp', ?_⟩ _, h⟩
  rw [Array.toList_push]
  exact (hr.mono ht).append (.cons (hv.mono ht) .nil)

theorem wn_pop0 {a : Addr} {xs : List V} {x : V} (ha : σ a = some (.list (x :: xs))) (hz : xs.length ≤ 2 ^ 22) (h : Q x (σ.set a (.list xs))) : WN X c (fun us => call (.builtin "list.pop") us) [.ref a, .int 0] σ Q Ex := fun A bs L m s us hA R hu => by
  obtain ⟨u, v, rfl, hu1, hv⟩ := hu.two
  clear hu
  cases hu1; cases hv
  obtain ⟨vs, ⟨n, ho⟩, hr⟩ := R.st a _ ha
  obtain ⟨vl⟩ := vs
  dsimp only at hr
  cases hr with
  | cons hy hr =>
  rename_i y vs
  have hlen : vs.length = xs.length := hr.length
  refine call_meets F.slot_list_pop ⟨_, ho, rfl⟩ F.entry_list_pop (F.args_list_pop_2 _ _) (MeetsSeq.list_pop_at a _ n 0 _ 0 y rfl (seqIndex_nat (i := 0) (by simp)) rfl (by simp [sizeLine_eq]; omega)) ⟨ho, ?_⟩
  have hs' : Heap.SameBut a s.heap (s.heap.update a (Obj.mapSeq fun xs => xs.eraseIdxIfInBounds 0)) := Heap.SameBut.update ..
  have ht := R.ht ha (c := a) rfl hs'
  refine ⟨x, _, hy.mono ht, R.upd (po' := .list xs) ha (c := a) rfl rfl hs' ⟨vs.toArray, ⟨n + 1, ?_⟩, by simpa using hr.mono ht⟩ _, h⟩
  rw [Heap.get?_update_self _ ho rfl]
  simp [Obj.mapSeq]

theorem wn_copy {a : Addr} {xs : List V} (ha : σ a = some (.list xs)) (hz : xs.length ≤ 2 ^ 23) (h : ∀ b, Fresh σ b → Q (.ref b) (σ.set b (.list xs))) : WN X c (fun us => call (.type "list") us) [.ref a] σ Q Ex := fun A bs L m s us hA R hu => by
  obtain ⟨u, rfl, hu1⟩ := hu.one
  clear hu
  cases hu1
  obtain ⟨vs, ⟨n, ho⟩, hr⟩ := R.st a _ ha
  have hlen : vs.size = xs.length := by rw [← Array.length_toList, hr.length]
  refine call_list_seq a (.inl rfl) ho rfl rfl (fun h' c' g hn => ?_) (by rw [hlen, sizeLine_eq]; omega)
  exact ⟨.ref _, _, .ref _, R.new (po := .list xs) g (heap_fresh _) (fun d e => by cases e) ⟨vs, ⟨_, hn⟩, hr.mono (Grows.tup g)⟩ _, h _ (R.fresh (heap_fresh _))⟩

/-! a target of several names -/
def WAs (X : Cx) (c : Lim) (env : Env) : List Expr → List V → Loc → Store → (Loc → Store → Prop) → Prop
  | [], [], m, σ, N => N m σ
  | t :: ts, v :: vs, m, σ, N => WA X c env t v m σ (fun m' σ' => WAs X c env ts vs m' σ' N)
  | _, _, _, _, _ => False

theorem assignEach_cons {e : Expr} {es : List Expr} (h : noStar e = true) : assignEach (e :: es) env = (false, assign e env) :: assignEach es env := by
  cases e <;> first | rfl | cases h

theorem WAs_run : ∀ {ts : List Expr} {us : List Value} {xs : List V} {m : Loc} {σ : Store} {s : Shared}, ts.all noStar = true → OKA A c bs.frs → Rel X bs env.locals m σ s → VRs bs.b us xs → WAs X c env ts xs m σ N →
    wpAny X.M A (assignInOrder ((assignEach ts env).map (·.2)) us) (fun _ s' => ∃ m' σ', Rel X bs env.locals m' σ' s' ∧ N m' σ') (fun _ _ => False) s
  | [], us, xs, m, σ, s, _, hA, R, hu, h => by
    cases xs with
    | nil => cases hu; exact wpAny_pure ⟨m, σ, R, h⟩
    | cons => exact h.elim
  | t :: ts, us, xs, m, σ, s, hn, hA, R, hu, h => by
    simp only [List.all_cons, Bool.and_eq_true] at hn
    cases hu with
    | nil => exact h.elim
    | cons a r =>
      rw [assignEach_cons hn.1]
      show wpAny _ _ (holding _ _ >>= fun _ => _) _ _ _
      refine wpAny_bind (wpAny_holding (wpAny_mono (h A bs s _ hA R (R.liftVR a)) (fun _ s₁ h₁ => ?_) fun _ _ e => e))
      obtain ⟨m', σ', R', h'⟩ := h₁
      exact WAs_run hn.2 hA R' r h'

theorem VRs.len_each {ts : List Expr} : ts.all noStar = true → (assignEach ts env).length = ts.length ∧ (assignEach ts env).findIdx? (·.1) = none := by
  induction ts with
  | nil => intro _; exact ⟨rfl, rfl⟩
  | cons t ts ih =>
    intro hn
    simp only [List.all_cons, Bool.and_eq_true] at hn
    obtain ⟨h1, h2⟩ := ih hn.2
    rw [assignEach_cons hn.1]
    refine ⟨by simp [h1], ?_⟩
    rw [List.findIdx?_cons]
    simp [h2]

theorem WA_Tuple {ts : List Expr} {k} {pos : Pos} {xs : List V} (hq : c.q = true) (h : WAs X c env ts xs m σ N) (hl : ts.length = xs.length := by rfl) (hn : ts.all noStar = true := by with_unfolding_all rfl) : WA X c env (.Tuple ts k pos) (.tup xs) m σ N := fun A bs s u hA R hu => by
  obtain ⟨a, vs, rfl, ht, hr⟩ := hu.isTup
  obtain ⟨e1, e2⟩ := VRs.len_each (env := env) hn
  refine wpAny_assign_Tuple (hA.1 hq) (items := vs.toArray) ht (by rw [e1, hl, ← hr.length]; simp) e2 fun h' he => ?_
  have g : Grows s.heap h' := fun b o e => he b o (fun q => by rw [q, heap_fresh] at e; cases e) e
  have R' : Rel X bs env.locals m σ { s with heap := h' } := R.grows g _
  have le := R'.le
  have kept : ∀ {vs : List Value} {ys : List V}, VRs h'.get? vs ys → VRs (restB bs env.locals σ h').b vs ys := by
    intro vs ys h
    induction vs generalizing ys with
    | nil => cases h; exact .nil
    | cons v vs ih => cases h with | cons a r => exact .cons (R'.keepVR a) (ih r)
  refine wpAny_mono (WAs_run (bs := restB bs env.locals σ h') (us := vs) hn (by exact hA) R'.rest (kept (hr.mono g.tup)) h) (fun _ s₁ h₁ => ?_) fun _ _ e => e
  obtain ⟨m', σ', R₁, h'⟩ := h₁
  exact ⟨m', σ', R₁.weaken le R.top, h'⟩
theorem WAs_nil (h : N m σ) : WAs X c env [] [] m σ N := h
theorem WAs_cons {t : Expr} {ts : List Expr} {v : V} {vs : List V} (h : WA X c env t v m σ (fun m' σ' => WAs X c env ts vs m' σ' N)) : WAs X c env (t :: ts) (v :: vs) m σ N := h

theorem WQ_mono {e : Expr} {T' F' : Store → Prop} (h : WQ X c env e m σ T' F' Ex) (hT : ∀ σ', T' σ' → T σ') (hF : ∀ σ', F' σ' → F σ') : WQ X c env e m σ T F Ex := fun A bs s hA R =>
  wpAny_mono (h A bs s hA R) (fun b s' ⟨σ', R', h1, h2⟩ => ⟨σ', R', fun e => hT _ (h1 e), fun e => hF _ (h2 e)⟩) fun _ _ e => e

theorem fmod_nat {i j : Nat} (h : 0 < j) : (i : Int).fmod (j : Int) = ((i % j : Nat) : Int) := by
  rw [Int.fmod_eq_emod_of_nonneg _ (by omega)]; rfl
end
end Zl

set_option maxRecDepth 100000
set_option maxHeartbeats 8000000
open_top hd for PySem.Challenge.rw_uf030013_02
set_option maxHeartbeats 1000000
namespace Zl
local macro_rules | `(tactic| walk_at "zb") => `(tactic| (intro us hu; first
  | (match us, hu with | [], _ => rfl)
  | (match us, hu with | [_], _ => rfl)
  | (match us, hu with | [_, _], _ => rfl)
  | (match us, hu with | [_, _, _], _ => rfl)
  | (match us, hu with | [_, _, _, _], _ => rfl)
  | (match us, hu with | [_, _, _, _, _], _ => rfl)
  | (match us, hu with | [_, _, _, _, _, _], _ => rfl)))
local macro_rules | `(tactic| walk_at "zk") => `(tactic| (rename Cx.K _ = _ => hK9; rw [hK9]; with_unfolding_all rfl))
local macro_rules | `(tactic| walk_at "z") => `(tactic| first
  | with_reducible refine WS_cons ?_
  | with_reducible refine WEs_nil ?_
  | with_reducible refine WEs_cons ?_
  | ((with_reducible refine' WE_local ?hv ?h); (case hv => walk_at "zl"))
  | with_reducible refine WE_int ?_
  | with_reducible refine WS_nil ?_
  | with_reducible refine WX_If ?_
  | with_reducible refine WX_Return ?_
  | with_reducible refine WX_Pass ?_
  | with_reducible refine WE_none ?_
  | with_reducible refine WE_bool ?_
  | with_reducible refine WE_str ?_
  | with_reducible refine WX_Assign ?_
  | with_reducible refine WE_BinOp ?_
  | with_reducible refine WE_Subscript ?_
  | with_reducible refine WE_Attribute ?_
  | with_reducible refine WE_Compare1 ?_
  | with_reducible refine WE_Compare2 ?_
  | with_reducible refine WQ_Compare1 ?_
  | with_reducible refine WQ_Not ?_
  | with_reducible refine WQ_And ?_
  | with_reducible refine WQ_Or ?_
  | with_reducible refine WAnd_nil ?_
  | with_reducible refine WAnd_cons ?_
  | with_reducible refine WOr_nil ?_
  | with_reducible refine WOr_cons ?_
  | with_reducible refine WAndV_one ?_
  | with_reducible refine WAndV_cons ?_
  | with_reducible refine WOrV_one ?_
  | with_reducible refine WOrV_cons ?_
  | with_reducible refine WE_And ?_
  | with_reducible refine WE_Or ?_
  | with_reducible refine WE_Tuple ?_
  | with_reducible refine WE_List ?_
  | with_reducible refine WE_UnaryOp ?_
  | with_reducible refine WTests_nil ?_
  | with_reducible refine WTests_one ?_
  | with_reducible refine add_int ?_
  | with_reducible refine sub_int ?_
  | ((with_reducible refine mod_int ?hj ?h); (case hj => decide))
  | ((with_reducible refine div_small ?hj ?hp ?h); (case hj => decide); (case hp => decide))
  | ((with_reducible refine mul_left ?hm ?h); (case hm => decide))
  | ((with_reducible refine mul_right ?hm ?h); (case hm => decide))
  | ((with_reducible refine pow_int ?h0 ?h1 ?h2 ?h); (case h0 => decide); (case h1 => decide); (case h2 => decide))
  | with_reducible refine eq_int ?_
  | with_reducible refine ne_int ?_
  | with_reducible refine lt_int ?_
  | with_reducible refine le_int ?_
  | with_reducible refine gt_int ?_
  | with_reducible refine ge_int ?_
  | with_reducible refine neg_int ?_
  | with_reducible refine truth_true ?_
  | with_reducible refine truth_false ?_
  | with_reducible refine truth_none ?_
  | with_reducible refine not_of ?_
  | with_reducible refine is_none_t ?_
  | with_reducible refine isNot_none_f ?_
  | with_reducible refine is_none_f (by with_unfolding_all rfl) (by with_unfolding_all rfl) ?_
  | with_reducible refine isNot_none_t (by with_unfolding_all rfl) (by with_unfolding_all rfl) ?_
  | ((with_reducible refine' WE_Call ?ok ?e ?hk ?h); (case ok => assumption); (case e => walk_at "zk"); (case hk => walk_at "zk"))
  | ((with_reducible refine' WE_CallB ?ok ?e ?hu ?hnn ?hf ?h); (case ok => assumption); (case e => walk_at "zk"); (case hu => boot_fast); (case hnn => decide); (case hf => intro a q; cases q))
  | ((with_reducible refine' WE_cell ?ha ?hv ?h); (case ha => with_unfolding_all rfl); (case hv => walk_at "zs"))
  | ((with_reducible refine' WE_free ?ha ?hv ?h); (case ha => with_unfolding_all rfl); (case hv => walk_at "zs"))
  | ((with_reducible refine' WE_builtin ?ok ?e ?hu ?hn ?h); (case ok => assumption); (case e => walk_at "zk"); (case hu => boot_fast); (case hn => decide))
  | ((with_reducible refine' isinstance_one (b := true) ?ok ?ht ?e ?h); (case ok => assumption); (case ht => first | with_unfolding_all rfl | exact typeV_list (by walk_at "zs")); (case e => walk_at "zk"))
  | ((with_reducible refine' isinstance_one (b := false) ?ok ?ht ?e ?h); (case ok => assumption); (case ht => first | with_unfolding_all rfl | exact typeV_list (by walk_at "zs")); (case e => walk_at "zk"))
  | ((with_reducible refine' attr_inst ?ok ?ha ?hC ?hn ?hx ?hk ?h); (case ok => assumption); (case ha => walk_at "zs"); (case hC => assumption); (case hn => walk_at "zn"); (case hx => with_unfolding_all rfl); (case hk => first | assumption | with_unfolding_all rfl))
  | with_reducible refine WX_AssignAttr (by assumption) ?_
  | with_reducible refine WE_MethL F.slot_list_append F.type_list_append ?_
  | with_reducible refine WE_MethL F.slot_list_pop F.type_list_pop ?_
  | with_reducible refine WE_Meth (by assumption) ?_
  | ((with_reducible refine' ⟨_, _, rfl, ?ha, ?h⟩); (case ha => walk_at "zs"))
  | with_reducible refine WAs_cons ?_
  | with_reducible refine WAs_nil ?_
  | with_reducible refine WA_Name ?_
  | with_reducible refine ne_bool ?_
  | with_reducible refine eq_bool ?_
  | with_reducible refine gt_pair ?_
  | with_reducible refine lt_pair ?_
  | with_reducible refine WX_Expr ?_
  | ((with_reducible refine' ⟨_, _, _, _, rfl, ?ha, ?hC, ?hn, ?hl, ?h⟩); (case ha => walk_at "zs"); (case hC => assumption); (case hn => walk_at "zn"); (case hl => exact Nat.le_of_ble_eq_true rfl))
  | ((with_reducible refine' ⟨_, _, _, _, _, rfl, ?ha, ?hC, ?hf, ?ht, ?hk, ?hg, ?h⟩); (case ha => walk_at "zs"); (case hC => assumption); (case hf => walk_at "zk"); (case ht => walk_at "zk"); (case hk => walk_at "zk"); (case hg => with_unfolding_all rfl))
  | with_reducible refine WQ_plain ?_
  | (intro D9 hD9; (have h9 : Fresh _ D9 := hD9); clear h9))
local macro_rules | `(tactic| walk_at "zn") => `(tactic| (unfold NoAttr; rename Cx.K _ = _ => hK9; rw [hK9]; with_unfolding_all rfl))

local macro_rules | `(tactic| walk_at "zs") => `(tactic| first
  | assumption
  | exact Store.set_self _ _ _
  | exact Store.set_fresh (by assumption) (by walk_at "zs")
  | exact Ext.get (by assumption) (by assumption)
  | (refine (Store.set_ne _ _ (by first | assumption | exact Ne.symm (by assumption))).trans ?_; walk_at "zs"))

local macro_rules | `(tactic| walk_at "zl") => `(tactic| first
  | assumption
  | exact Loc.set_self _ _ _
  | (refine (Loc.set_ne _ _ (by decide)).trans ?_; walk_at "zl")
  | with_unfolding_all rfl)
section
variable {X : Cx} {L : Addr} {m : Loc} {σ : Store} {c : Lim} {Q : V → Store → Prop} {Ex : Exn} (hK : X.K = hd.heap_39 X.w.params) (ok : X.Ok)

def mixH (cell k : Int) : Int := ((cell + 7919 * k) * 48271).fmod 2147483647
def mixV (cell k : Int) : Int := (mixH cell k * ((mixH cell k).fmod 65537 + k + 1)).fmod 2147483647
theorem mixV_lo (a b : Int) : 0 ≤ mixV a b := fmod_lo _ (by decide)
theorem mixV_hi (a b : Int) : mixV a b < 2147483647 := fmod_hi _ (by decide)

include hK ok
theorem mixed_spec {i k : Int} (hc : 1 ≤ c.n) (h : Q (.int (mixV i k)) σ) : WC X c 84 [.int i, .int k] σ Q Ex := by
  refine WC_def [Str.ofString "_law_cell", Str.ofString "_law_k"] ok (by rw [hK]; rfl) (by rw [hK]; rfl) hc rfl (by walk_at "zb") (by decide) (fun L' => ?_)
  repeat walk_at "z"
  refine mul_int (IntMulOk.small (fmod_lo _ (by decide)) (Int.lt_trans (fmod_hi _ (by decide)) (by decide))) ?_
  repeat walk_at "z"
  exact h
end

section
variable {X : Cx} {L : Addr} {m : Loc} {σ : Store} {c : Lim} {Q : V → Store → Prop} {Ex : Exn} (hK : X.K = hd.heap_39 X.w.params) (ok : X.Ok)
include hK ok
theorem whole_spec {i : Int} (hc : 1 ≤ c.n) (h : Q (.bool true) σ) : WC X c 77 [.int i] σ Q Ex := by
  refine WC_def [Str.ofString "_law_found"] ok (by rw [hK]; rfl) (by rw [hK]; rfl) hc rfl (by walk_at "zb") (by decide) (fun L' => ?_)
  repeat walk_at "z"
  exact h
end

section
variable {X : Cx} {L : Addr} {m : Loc} (hK : X.K = hd.heap_39 X.w.params) (ok : X.Ok)
include hK ok
theorem same_leaf {d : Dat} {x y : V} {σ : Store} {c : Lim} {Q : V → Store → Prop} {Ex : Exn} (hd : d.depth ≤ 0) (hx : DR σ x d) (hy : DR σ y d) (hc : 2 ≤ c.n) (h : ∀ σ', Ext σ σ' → Q (.bool true) σ') : WC X c 96 [x, y] σ Q Ex := by
  refine WC_cells [Str.ofString "_law_found", Str.ofString "_law_due"] ok (by rw [hK]; rfl) (by rw [hK]; rfl) (by omega) rfl (by walk_at "zb") (by decide) (by decide) (fun L' σ₁ hL hE hlo hcell => ?_)
  have e1 : σ₁ (L' + 1) = some (.cell (some x)) := hcell (Str.ofString "_law_found") _ (by exact .tail _ (.head _))
  have e2 : σ₁ (L' + 2) = some (.cell (some y)) := hcell (Str.ofString "_law_due") _ (by exact .head _)
  clear hcell
  have hc1 : 1 ≤ c.down.n := by show 1 ≤ c.n - 1; omega
  cases d with
  | none =>
    simp only [DR] at hx hy; subst hx; subst hy
    repeat walk_at "z"
    exact h _ hE
  | int i =>
    simp only [DR] at hx hy; subst hx; subst hy
    repeat walk_at "z"
    refine whole_spec hK ok hc1 ?_
    repeat walk_at "z"
    refine whole_spec hK ok hc1 ?_
    repeat walk_at "z"
    show Q _ _
    rw [show decide (i = i) = true by simp]
    exact h _ hE
  | str t =>
    simp only [DR] at hx hy; subst hx; subst hy
    repeat walk_at "z"
    refine eq_str ?_
    show Q _ _
    rw [show (t == t) = true by simp]
    exact h _ hE
  | tup ds => simp [Dat.depth] at hd
  | list ds => simp [Dat.depth] at hd

theorem same_spec : ∀ (n : Nat) {d : Dat} {x y : V} {σ : Store} {c : Lim} {Q : V → Store → Prop} {Ex : Exn}, d.depth ≤ n → d.fits → DR σ x d → DR σ y d → n + 2 ≤ c.n → c.q = true → (∀ σ', Ext σ σ' → Q (.bool true) σ') → WC X c 96 [x, y] σ Q Ex := by
  intro n
  induction n with
  | zero => exact fun hd hf hx hy hc hq h => same_leaf hK ok hd hx hy hc h
  | succ n ih =>
    intro d x y σ c Q Ex hd hf hx hy hc hq h
    by_cases h0 : d.depth ≤ 0
    · exact same_leaf hK ok h0 hx hy (by omega) h
    refine WC_cells [Str.ofString "_law_found", Str.ofString "_law_due"] ok (by rw [hK]; rfl) (by rw [hK]; rfl) (by omega) rfl (by walk_at "zb") (by decide) (by decide) (fun L' σ₁ hL hE hlo hcell => ?_)
    have e1 : σ₁ (L' + 1) = some (.cell (some x)) := hcell (Str.ofString "_law_found") _ (by exact .tail _ (.head _))
    have e2 : σ₁ (L' + 2) = some (.cell (some y)) := hcell (Str.ofString "_law_due") _ (by exact .head _)
    clear hcell
    have hc1 : 1 ≤ c.down.n := by show 1 ≤ c.n - 1; omega
    cases d with
    | none => exact (h0 (Nat.le_refl _)).elim
    | int i => exact (h0 (Nat.le_refl _)).elim
    | str t => exact (h0 (Nat.le_refl _)).elim
    | tup ds =>
      simp only [DR] at hx hy
      obtain ⟨xs, rfl, hx⟩ := hx
      obtain ⟨ys, rfl, hy⟩ := hy
      simp only [Dat.fits] at hf
      simp only [Dat.depth] at hd
      have hd : depths ds ≤ n := by omega
      have hlx := hx.length
      have hly := hy.length
      have hdl := hf.1
      repeat walk_at "z"
      refine len_tup (by omega) ?_
      repeat walk_at "z"
      refine len_tup (by omega) ?_
      repeat walk_at "z"
      refine truth_neg (by omega) ?_
      repeat walk_at "z"
      refine WE_ListComp hq ?_
      refine WI_range1 ok (by rw [hK]; rfl) ?_
      repeat walk_at "z"
      refine len_tup (by omega) ?_
      refine ⟨(ys.length : Int), rfl, by omega, by omega, ?_⟩
      intro D hD
      refine ⟨_, fun i bl σ' => Ext σ₁ σ' ∧ bl = bools (List.replicate i true) ∧ σ' D = some (.list bl) ∧ i ≤ ds.length, ⟨rfl, fun i bl σ' hG => ⟨rfl, hG.2.2.1, ?_⟩, ?_⟩, ⟨Ext.new hD, rfl, Store.set_self _ _ _, Nat.zero_le _⟩, ?_⟩
      · rw [hG.2.1]; simp [bools]; omega
      · intro i x bl σ' C m' hx' hG
        obtain ⟨rfl, hi⟩ := range_get hx'
        obtain ⟨hE', hbl, hDl, _⟩ := hG
        have f1 := hE' _ _ e1
        have f2 := hE' _ _ e2
        have hi' : i < ds.length := by omega
        obtain ⟨dd, hdd⟩ : ∃ dd, ds[i]? = some dd := ⟨_, List.getElem?_eq_getElem hi'⟩
        obtain ⟨xi, hxi, hxd⟩ := hx.get hdd
        obtain ⟨yi, hyi, hyd⟩ := hy.get hdd
        refine WA_Name ?_
        repeat walk_at "z"
        refine sub_tup_nat (i := i) (by omega) (by omega) hxi ?_
        repeat walk_at "z"
        refine sub_tup_nat (i := i) (by omega) (by omega) hyi ?_
        repeat walk_at "z"
        refine ih (d := dd) (Nat.le_trans (depths_get hdd) hd) (fitss_get hf.2 hdd) ((hxd.ext hE).ext hE') ((hyd.ext hE).ext hE') (by show n + 2 ≤ c.n - 1; omega) hq fun σ'' hE'' => ?_
        refine ⟨hE'' _ _ hDl, (hE'.trans hE'').set hD.none, ?_, Store.set_self _ _ _, by omega⟩
        rw [hbl, List.replicate_succ']; simp [bools]
      · intro bl σ' hG
        obtain ⟨hE', hbl, hDl, _⟩ := hG
        repeat walk_at "z"
        refine all_bools (by exact hq) (hbl ▸ hDl) ?_
        show Q _ _
        rw [show (List.replicate _ true).all id = true by simp]
        exact h _ (hE.trans hE')
    | list ds =>
      simp only [DR] at hx hy
      obtain ⟨ax, xs, rfl, hax, hx⟩ := hx
      obtain ⟨ay, ys, rfl, hay, hy⟩ := hy
      simp only [Dat.fits] at hf
      simp only [Dat.depth] at hd
      have hd : depths ds ≤ n := by omega
      have hlx := hx.length
      have hly := hy.length
      have hdl := hf.1
      have hax1 := hE _ _ hax
      have hay1 := hE _ _ hay
      repeat walk_at "z"
      refine len_list hax1 (by omega) ?_
      repeat walk_at "z"
      refine len_list hay1 (by omega) ?_
      repeat walk_at "z"
      refine truth_neg (by omega) ?_
      repeat walk_at "z"
      refine WE_ListComp hq ?_
      refine WI_range1 ok (by rw [hK]; rfl) ?_
      repeat walk_at "z"
      refine len_list hay1 (by omega) ?_
      refine ⟨(ys.length : Int), rfl, by omega, by omega, ?_⟩
      intro D hD
      refine ⟨_, fun i bl σ' => Ext σ₁ σ' ∧ bl = bools (List.replicate i true) ∧ σ' D = some (.list bl) ∧ i ≤ ds.length, ⟨rfl, fun i bl σ' hG => ⟨rfl, hG.2.2.1, ?_⟩, ?_⟩, ⟨Ext.new hD, rfl, Store.set_self _ _ _, Nat.zero_le _⟩, ?_⟩
      · rw [hG.2.1]; simp [bools]; omega
      · intro i x bl σ' C m' hx' hG
        obtain ⟨rfl, hi⟩ := range_get hx'
        obtain ⟨hE', hbl, hDl, _⟩ := hG
        have f1 := hE' _ _ e1
        have f2 := hE' _ _ e2
        have hi' : i < ds.length := by omega
        obtain ⟨dd, hdd⟩ : ∃ dd, ds[i]? = some dd := ⟨_, List.getElem?_eq_getElem hi'⟩
        obtain ⟨xi, hxi, hxd⟩ := hx.get hdd
        obtain ⟨yi, hyi, hyd⟩ := hy.get hdd
        refine WA_Name ?_
        repeat walk_at "z"
        refine sub_list_nat (hE' _ _ hax1) (i := i) (by omega) (by omega) hxi ?_
        repeat walk_at "z"
        refine sub_list_nat (hE' _ _ hay1) (i := i) (by omega) (by omega) hyi ?_
        repeat walk_at "z"
        refine ih (d := dd) (Nat.le_trans (depths_get hdd) hd) (fitss_get hf.2 hdd) ((hxd.ext hE).ext hE') ((hyd.ext hE).ext hE') (by show n + 2 ≤ c.n - 1; omega) hq fun σ'' hE'' => ?_
        refine ⟨hE'' _ _ hDl, (hE'.trans hE'').set hD.none, ?_, Store.set_self _ _ _, by omega⟩
        rw [hbl, List.replicate_succ']; simp [bools]
      · intro bl σ' hG
        obtain ⟨hE', hbl, hDl, _⟩ := hG
        repeat walk_at "z"
        refine all_bools (by exact hq) (hbl ▸ hDl) ?_
        show Q _ _
        rw [show (List.replicate _ true).all id = true by simp]
        exact h _ (hE.trans hE')
end

theorem Fresh.unset {σ : Store} {t w : Addr} {po : PO} (h : Fresh (σ.set t po) w) (ht : Fresh σ t) : Fresh σ w := by
  intro q
  apply h
  rcases q with ⟨o, e⟩ | ⟨x, C, fs, e⟩
  · exact .inl ⟨o, by rw [Store.set_ne _ _ (ht.ne e)]; exact e⟩
  · exact .inr ⟨x, C, fs, by rw [Store.set_ne _ _ (ht.ne e)]; exact e⟩
theorem Fresh.under {σ : Store} {t w : Addr} {po po' : PO} (h : Fresh (σ.set t po') w) (ht : σ t = some po) (hd : dictOf? po' = dictOf? po) : Fresh σ w := by
  intro q
  apply h
  rcases q with ⟨o, e⟩ | ⟨x, C, fs, e⟩
  · by_cases hw : w = t
    · exact .inl ⟨_, by rw [hw]; exact Store.set_self _ _ _⟩
    · exact .inl ⟨o, by rw [Store.set_ne _ _ hw]; exact e⟩
  · by_cases hx : x = t
    · subst hx
      rw [ht] at e; cases e
      cases po' with
      | inst C' d' fs' => simp only [dictOf?, Option.some.injEq] at hd; subst hd; exact .inr ⟨x, _, _, Store.set_self _ _ _⟩
      | _ => simp [dictOf?] at hd
    · exact .inr ⟨x, C, fs, by rw [Store.set_ne _ _ hx]; exact e⟩
def pairsV (ws : List (Int × Int)) : List V := ws.map fun p => .tup [.int p.1, .int p.2]
def pairsD (ws : List (Int × Int)) : List Dat := ws.map fun p => .tup [.int p.1, .int p.2]
def pairsP (ws : List (Int × Int)) : List PyData := ws.map fun p => .tuple [.int p.1, .int p.2]
def needV (ws : List (Int × Int)) (cnt : Int) : V := match ws with | [] => .none | p :: _ => .int (p.1 + cnt)
theorem pairsV_PD {σ : Store} : ∀ (ws : List (Int × Int)), PDs σ (pairsV ws) (pairsP ws)
  | [] => by simp [pairsV, pairsP, PDs]
  | p :: ws => by simp only [pairsV, pairsP, List.map_cons, PDs]; exact ⟨_, _, rfl, by simp [PD, PDs], pairsV_PD ws⟩
theorem pairsV_DR {σ : Store} : ∀ (ws : List (Int × Int)), DRs σ (pairsV ws) (pairsD ws)
  | [] => by simp [pairsV, pairsD, DRs]
  | p :: ws => by simp only [pairsV, pairsD, List.map_cons, DRs]; exact ⟨_, _, rfl, by simp [DR, DRs], pairsV_DR ws⟩
theorem pairsD_depth : ∀ (ws : List (Int × Int)), depths (pairsD ws) ≤ 1
  | [] => by simp [pairsD, depths]
  | p :: ws => by
    have := pairsD_depth ws
    simp only [pairsD, List.map_cons, depths] at this ⊢
    have h1 : (Dat.tup [.int p.1, .int p.2]).depth = 1 := by simp [Dat.depth, depths]
    rw [h1]; exact Nat.max_le.mpr ⟨Nat.le_refl _, this⟩
theorem pairsD_fits : ∀ (ws : List (Int × Int)), fitss (pairsD ws)
  | [] => by simp [pairsD, fitss]
  | p :: ws => by
    have := pairsD_fits ws
    simp only [pairsD, List.map_cons, fitss] at this ⊢
    exact ⟨by simp [Dat.fits, fitss], this⟩
theorem pairsP_can : ∀ (ws : List (Int × Int)), PyData.canLayAll0 (pairsP ws) = true
  | [] => rfl
  | p :: ws => by
    have := pairsP_can ws
    simp only [pairsP, List.map_cons, PyData.canLayAll0] at this ⊢
    rw [this]; rfl
theorem pairsP_depth : ∀ (ws : List (Int × Int)), PyData.depthAll (pairsP ws) ≤ 1
  | [] => by simp [pairsP, PyData.depthAll]
  | p :: ws => by
    have := pairsP_depth ws
    simp only [pairsP, List.map_cons, PyData.depthAll] at this ⊢
    have h1 : PyData.depth (.tuple [.int p.1, .int p.2]) = 1 := by simp [PyData.depth, PyData.depthAll]
    rw [h1]; exact Nat.max_le.mpr ⟨Nat.le_refl _, this⟩
theorem pairsP_shaped (ws : List (Int × Int)) : SeqAt.shaped (.list (pairsP ws)) = true := by
  have h1 := pairsP_can ws
  have h2 := pairsP_depth ws
  simp only [SeqAt.shaped, PyData.canLay0, PyData.depth, h1, Bool.true_and]
  exact decide_eq_true (by omega)
theorem eqv_pairs_nil (ws : List (Int × Int)) : PyData.eqv (.list (pairsP ws)) (.list []) = decide (ws = []) := by
  cases ws <;> simp [pairsP, PyData.eqv, PyData.eqvAll]
section
variable {X : Cx} {L : Addr} {m : Loc} {σ : Store} {c : Lim} {Q : V → Store → Prop} {Ex : Exn} (hK : X.K = hd.heap_39 X.w.params) (ok : X.Ok)

def stF (on : Bool) (s1 s2 sil : Int) (w : Addr) (cnt : Int) : List (Str × V) := [(Str.ofString "on", .bool on), (Str.ofString "seen", .tup [.int s1, .int s2]), (Str.ofString "silence", .int sil), (Str.ofString "waiting", .ref w), (Str.ofString "count", .int cnt)]

include hK ok
theorem cls_Station : Cls X 66 := ⟨by rw [hK]; rfl, by rw [hK]; rfl, by rw [hK]; rfl, by rw [hK]; rfl⟩

theorem init_Station {t d : Addr} (ht : σ t = some (.inst 66 d [])) (hc : 1 ≤ c.n)
    (h : ∀ w, Fresh σ w → w ≠ t → Q .none ((σ.set w (.list [])).set t (.inst 66 d (stF true 0 0 0 w 0)))) : WC X c 28 [.ref t] σ Q Ex := by
  have hC := cls_Station hK ok
  refine WC_def [Str.ofString "self"] ok (by rw [hK]; rfl) (by rw [hK]; rfl) hc rfl (by walk_at "zb") (by decide) (fun L' => ?_)
  repeat walk_at "z"
  rename_i D hD
  simp only [Store.set_set] at hD ⊢
  have hn : D ≠ t := fun e => hD (.inl ⟨_, by rw [e]; exact Store.set_self _ _ _⟩)
  rw [← Store.set_comm σ _ _ hn, Store.set_set]
  exact h D (hD.under ht rfl) hn

theorem make_Station (hc : 2 ≤ c.n) (h : ∀ t d w, Fresh σ t → Fresh σ w → w ≠ t → Q (.ref t) ((σ.set w (.list [])).set t (.inst 66 d (stF true 0 0 0 w 0)))) : WC X c 66 [] σ Q Ex := by
  refine WC_make (fI := 28) ok (by rw [hK]; rfl) (by rw [hK]; rfl) (by rw [hK]; rfl) (by omega) fun a d ha hd => ?_
  refine init_Station hK ok (Store.set_self _ _ _) (by show 1 ≤ c.n - 1; omega) fun w hw hwt => ⟨rfl, ?_⟩
  have := h a d w ha (hw.unset ha) hwt
  rw [Store.set_comm _ _ _ hwt, Store.set_set] 
  rw [Store.set_comm _ _ _ hwt] at this
  exact this

theorem messages_spec {t d w : Addr} {on : Bool} {s1 s2 sil cnt : Int} {xs : List V} (ht : σ t = some (.inst 66 d (stF on s1 s2 sil w cnt))) (hw : σ w = some (.list xs)) (hl : xs.length ≤ 2 ^ 20) (hc : 1 ≤ c.n)
    (h : ∀ b, Fresh σ b → Q (.ref b) (σ.set b (.list xs))) : WC X c 42 [.ref t] σ Q Ex := by
  have hC := cls_Station hK ok
  refine WC_def [Str.ofString "self"] ok (by rw [hK]; rfl) (by rw [hK]; rfl) hc rfl (by walk_at "zb") (by decide) (fun L' => ?_)
  repeat walk_at "z"
  refine wn_copy hw (by omega) fun b hb => ?_
  repeat walk_at "z"
  exact h b hb

theorem need_spec {t d w : Addr} {on : Bool} {s1 s2 sil cnt : Int} {ws : List (Int × Int)} (ht : σ t = some (.inst 66 d (stF on s1 s2 sil w cnt))) (hw : σ w = some (.list (pairsV ws))) (hc : 1 ≤ c.n)
    (h : ∀ σ', Ext σ σ' → Q (needV ws cnt) σ') : WC X c 49 [.ref t] σ Q Ex := by
  have hC := cls_Station hK ok
  refine WC_def [Str.ofString "self"] ok (by rw [hK]; rfl) (by rw [hK]; rfl) hc rfl (by walk_at "zb") (by decide) (fun L' => ?_)
  repeat walk_at "z"
  rename_i D hD
  have hw' : (σ.set D (.list [])) w = some (.list (pairsV ws)) := by walk_at "zs"
  have ht' : (σ.set D (.list [])) t = some (.inst 66 d (stF on s1 s2 sil w cnt)) := by walk_at "zs"
  have hE : Ext σ (σ.set D (.list [])) := Ext.new hD
  refine eq_dat (d := .list (pairsP ws)) (e := .list []) (by simp only [PD]; exact ⟨_, _, rfl, hw', pairsV_PD ws⟩) (by simp only [PD]; exact ⟨_, _, rfl, Store.set_self _ _ _, by simp [PDs]⟩) (pairsP_shaped ws) rfl ?_
  rw [eqv_pairs_nil]
  refine truth_dec (fun hT => ?_) fun hF => ?_
  · subst hT
    repeat walk_at "z"
    exact h _ hE
  · obtain ⟨p, ws, rfl⟩ := List.exists_cons_of_ne_nil hF
    repeat walk_at "z"
    refine sub_list_nat (i := 0) hw' rfl (by decide) rfl ?_
    repeat walk_at "z"
    refine sub_tup_nat (i := 0) rfl (by decide) rfl ?_
    repeat walk_at "z"
    exact h _ hE

theorem tell_spec {t d w : Addr} {on : Bool} {s1 s2 sil cnt : Int} {ws : List (Int × Int)} (ht : σ t = some (.inst 66 d (stF on s1 s2 sil w cnt))) (hw : σ w = some (.list (pairsV ws))) (hc : 2 ≤ c.n)
    (h : ∀ σ', Ext σ σ' → Q (needV ws cnt) (σ'.set t (.inst 66 d (stF on s1 s2 sil w (cnt + 1))))) : WC X c 56 [.ref t] σ Q Ex := by
  have hC := cls_Station hK ok
  refine WC_def [Str.ofString "self"] ok (by rw [hK]; rfl) (by rw [hK]; rfl) (by omega) rfl (by walk_at "zb") (by decide) (fun L' => ?_)
  repeat walk_at "z"
  refine need_spec hK ok ht hw (by show 1 ≤ c.n - 1; omega) fun σ' hE => ?_
  have ht' := hE _ _ ht
  repeat walk_at "z"
  exact h _ hE

theorem send_spec {t d w : Addr} {on : Bool} {s1 s2 sil cnt : Int} {xs : List V} {x : V} (ht : σ t = some (.inst 66 d (stF on s1 s2 sil w cnt))) (hw : σ w = some (.list (x :: xs))) (hn : w ≠ t) (hl : xs.length ≤ 2 ^ 20) (hc : 1 ≤ c.n)
    (h : Q x ((σ.set t (.inst 66 d (stF on s1 s2 sil w 0))).set w (.list xs))) : WC X c 63 [.ref t] σ Q Ex := by
  have hC := cls_Station hK ok
  refine WC_def [Str.ofString "self"] ok (by rw [hK]; rfl) (by rw [hK]; rfl) (by omega) rfl (by walk_at "zb") (by decide) (fun L' => ?_)
  repeat walk_at "z"
  refine wn_pop0 (by walk_at "zs") (by omega) ?_
  repeat walk_at "z"
  exact h

theorem putS_spec {t d w : Addr} {on : Bool} {s1 s2 sil cnt : Int} {ws : List (Int × Int)} {r k : Int} (ht : σ t = some (.inst 66 d (stF on s1 s2 sil w cnt))) (hw : σ w = some (.list (pairsV ws))) (hl : ws.length ≤ 2 ^ 20) (hc : 1 ≤ c.n)
    (h : Q .none (σ.set w (.list (pairsV (ws ++ [(r, k)]))))) : WC X c 35 [.ref t, .int r, .int k] σ Q Ex := by
  have hC := cls_Station hK ok
  refine WC_def [Str.ofString "self", Str.ofString "rank", Str.ofString "mark"] ok (by rw [hK]; rfl) (by rw [hK]; rfl) (by omega) rfl (by walk_at "zb") (by decide) (fun L' => ?_)
  repeat walk_at "z"
  refine wn_append hw (by simp [pairsV]; omega) ?_
  repeat walk_at "z"
  have e : pairsV ws ++ [.tup [.int r, .int k]] = pairsV (ws ++ [(r, k)]) := by simp [pairsV]
  rw [e]
  exact h
end

def HeldOk (σ : Store) (us : List Addr) (h : V) : Prop := ∃ f f' ws, h = .tup [.ref f, .ref f'] ∧ σ f = some (.list (pairsV ws ++ [.none])) ∧ σ f' = some (.list (pairsV ws ++ [.none])) ∧ f ∉ us ∧ f' ∉ us
theorem HeldOk.set {σ : Store} {us : List Addr} {h : V} (k : HeldOk σ us h) {a : Addr} {o : PO} (ha : a ∈ us) : HeldOk (σ.set a o) us h := by
  obtain ⟨f, f', ws, rfl, h1, h2, h3, h4⟩ := k
  have q1 : f ≠ a := fun e => h3 (by rw [e]; exact ha)
  have q2 : f' ≠ a := fun e => h4 (by rw [e]; exact ha)
  exact ⟨f, f', ws, rfl, by rw [Store.set_ne _ _ q1]; exact h1, by rw [Store.set_ne _ _ q2]; exact h2, h3, h4⟩
theorem HeldOk.ext {σ σ' : Store} {us : List Addr} {h : V} (k : HeldOk σ us h) (e : Ext σ σ') : HeldOk σ' us h := by
  obtain ⟨f, f', ws, rfl, h1, h2, h3, h4⟩ := k
  exact ⟨f, f', ws, rfl, e _ _ h1, e _ _ h2, h3, h4⟩
theorem PDs.snoc {σ : Store} : ∀ {xs : List V} {ds : List PyData} {x : V} {d : PyData}, PDs σ xs ds → PD σ x d → PDs σ (xs ++ [x]) (ds ++ [d])
  | _, [], _, _, h, k => by simp only [PDs] at h; subst h; simp only [List.nil_append, PDs]; exact ⟨_, _, rfl, k, rfl⟩
  | _, e :: ds, _, _, h, k => by
    simp only [PDs] at h
    obtain ⟨y, ys, rfl, h1, h2⟩ := h
    simp only [List.cons_append, PDs]
    exact ⟨_, _, rfl, h1, PDs.snoc h2 k⟩
theorem pairsN_can : ∀ (ws : List (Int × Int)), PyData.canLayAll0 (pairsP ws ++ [.none]) = true
  | [] => rfl
  | p :: ws => by
    have := pairsN_can ws
    simp only [pairsP, List.map_cons, List.cons_append, PyData.canLayAll0] at this ⊢
    rw [this]; rfl
theorem pairsN_depth : ∀ (ws : List (Int × Int)), PyData.depthAll (pairsP ws ++ [.none]) ≤ 1
  | [] => by simp [pairsP, PyData.depthAll, PyData.depth]
  | p :: ws => by
    have := pairsN_depth ws
    simp only [pairsP, List.map_cons, List.cons_append, PyData.depthAll] at this ⊢
    have h1 : PyData.depth (.tuple [.int p.1, .int p.2]) = 1 := by simp [PyData.depth, PyData.depthAll]
    rw [h1]; exact Nat.max_le.mpr ⟨Nat.le_refl _, this⟩
theorem pairsN_shaped (ws : List (Int × Int)) : SeqAt.shaped (.list (pairsP ws ++ [.none])) = true := by
  have h1 := pairsN_can ws
  have h2 := pairsN_depth ws
  simp only [SeqAt.shaped, PyData.canLay0, PyData.depth, h1, Bool.true_and]
  exact decide_eq_true (by omega)
section
variable {X : Cx} {L : Addr} {m : Loc} {σ : Store} {c : Lim} {Q : V → Store → Prop} {Ex : Exn} (hK : X.K = hd.heap_39 X.w.params) (ok : X.Ok)
include hK ok
theorem held_spec {a : Addr} {us : List Addr} {hs : List V} (ha : σ a = some (.list hs)) (hh : ∀ h ∈ hs, HeldOk σ us h) (hc : 1 ≤ c.n) (hq : c.q = true) (h : Q (.bool true) σ) : WC X c 91 [.ref a] σ Q Ex := by
  refine WC_def [Str.ofString "_law_held_here"] ok (by rw [hK]; rfl) (by rw [hK]; rfl) hc rfl (by walk_at "zb") (by decide) (fun L' => ?_)
  refine WS_cons ?_
  refine WX_For hq ?_
  refine WI_list ?_
  repeat walk_at "z"
  refine ⟨hs, fun i m' σ' => σ' = σ, rfl, rfl, fun i m' σ' h => by subst h; simp only [itemsOf, ha], ?_, ?_⟩
  · rintro i x m' σ' hx rfl
    obtain ⟨f, f', ws, rfl, h1, h2, h3, h4⟩ := hh x (List.mem_of_getElem? hx)
    repeat walk_at "z"
    refine sub_tup_nat (i := 0) rfl (by decide) rfl ?_
    repeat walk_at "z"
    refine sub_tup_nat (i := 1) rfl (by decide) rfl ?_
    have pd : ∀ f, σ' f = some (.list (pairsV ws ++ [.none])) → PD σ' (.ref f) (.list (pairsP ws ++ [.none])) := by
      intro f hf
      simp only [PD]
      exact ⟨_, _, rfl, hf, (pairsV_PD ws).snoc (by simp [PD])⟩
    refine ne_dat (pd f h1) (pd f' h2) (pairsN_shaped ws) (pairsN_shaped ws) ?_
    rw [PySem.SeqAt.eqv_refl _ (by simpa [PyData.canLay0] using pairsN_can ws)]
    refine truth_false ?_
    repeat walk_at "z"
    rfl
  · rintro m' σ' rfl
    repeat walk_at "z"
    exact h
end

structure I02 (a st d w be d2 w2 li he : Addr) (i : Nat) (m : Loc) (σ : Store) (ws : List (Int × Int)) (told : Int) (hs : List V) : Prop where
  scr : m (Str.ofString "_law_script") = some (.raw (.ref a))
  sta : m (Str.ofString "_law_station") = some (.ref st)
  bes : m (Str.ofString "_law_beside") = some (.ref be)
  lin : m (Str.ofString "_law_line") = some (.ref li)
  tol : m (Str.ofString "_law_told") = some (.int told)
  hel : m (Str.ofString "_law_held_here") = some (.ref he)
  s1 : σ st = some (.inst 66 d (stF true 0 0 0 w told))
  s2 : σ w = some (.list (pairsV ws))
  s3 : σ be = some (.inst 66 d2 (stF true 0 0 0 w2 0))
  s4 : σ w2 = some (.list (pairsV [(7, 5)]))
  s5 : σ li = some (.list (pairsV ws))
  s6 : σ he = some (.list hs)
  l1 : ws.length ≤ i
  l2 : hs.length ≤ i
  ho : ∀ h ∈ hs, HeldOk σ [st, w, be, w2, li, he] h
theorem I02.ext {a st d w be d2 w2 li he : Addr} {i : Nat} {m : Loc} {σ σ' : Store} {ws : List (Int × Int)} {told : Int} {hs : List V} (I : I02 a st d w be d2 w2 li he i m σ ws told hs) (e : Ext σ σ') : I02 a st d w be d2 w2 li he i m σ' ws told hs :=
  ⟨I.scr, I.sta, I.bes, I.lin, I.tol, I.hel, e _ _ I.s1, e _ _ I.s2, e _ _ I.s3, e _ _ I.s4, e _ _ I.s5, e _ _ I.s6, I.l1, I.l2, fun h hh => (I.ho h hh).ext e⟩
theorem needD {σ : Store} (ws : List (Int × Int)) (cnt : Int) : ∃ d, DR σ (needV ws cnt) d ∧ d.depth ≤ 1 ∧ d.fits ∧ ∀ σ', DR σ' (needV ws cnt) d := by
  cases ws with
  | nil => exact ⟨.none, by simp [needV, DR], by simp [Dat.depth], by simp [Dat.fits], fun σ' => by simp [needV, DR]⟩
  | cons p ws => exact ⟨.int (p.1 + cnt), by simp [needV, DR], by simp [Dat.depth], by simp [Dat.fits], fun σ' => by simp [needV, DR]⟩
theorem needV_known (ws : List (Int × Int)) (cnt : Int) : (needV ws cnt).known = true := by cases ws <;> rfl


end Zl
open Zl
local macro_rules | `(tactic| walk_at "zb") => `(tactic| (intro us hu; first
  | (match us, hu with | [], _ => rfl)
  | (match us, hu with | [_], _ => rfl)
  | (match us, hu with | [_, _], _ => rfl)
  | (match us, hu with | [_, _, _], _ => rfl)
  | (match us, hu with | [_, _, _, _], _ => rfl)
  | (match us, hu with | [_, _, _, _, _], _ => rfl)
  | (match us, hu with | [_, _, _, _, _, _], _ => rfl)))
local macro_rules | `(tactic| walk_at "zk") => `(tactic| (rename Cx.K _ = _ => hK9; rw [hK9]; with_unfolding_all rfl))
local macro_rules | `(tactic| walk_at "z") => `(tactic| first
  | with_reducible refine WS_cons ?_
  | with_reducible refine WEs_nil ?_
  | with_reducible refine WEs_cons ?_
  | ((with_reducible refine' WE_local ?hv ?h); (case hv => walk_at "zl"))
  | with_reducible refine WE_int ?_
  | with_reducible refine WS_nil ?_
  | with_reducible refine WX_If ?_
  | with_reducible refine WX_Return ?_
  | with_reducible refine WX_Pass ?_
  | with_reducible refine WE_none ?_
  | with_reducible refine WE_bool ?_
  | with_reducible refine WE_str ?_
  | with_reducible refine WX_Assign ?_
  | with_reducible refine WE_BinOp ?_
  | with_reducible refine WE_Subscript ?_
  | with_reducible refine WE_Attribute ?_
  | with_reducible refine WE_Compare1 ?_
  | with_reducible refine WE_Compare2 ?_
  | with_reducible refine WQ_Compare1 ?_
  | with_reducible refine WQ_Not ?_
  | with_reducible refine WQ_And ?_
  | with_reducible refine WQ_Or ?_
  | with_reducible refine WAnd_nil ?_
  | with_reducible refine WAnd_cons ?_
  | with_reducible refine WOr_nil ?_
  | with_reducible refine WOr_cons ?_
  | with_reducible refine WAndV_one ?_
  | with_reducible refine WAndV_cons ?_
  | with_reducible refine WOrV_one ?_
  | with_reducible refine WOrV_cons ?_
  | with_reducible refine WE_And ?_
  | with_reducible refine WE_Or ?_
  | with_reducible refine WE_Tuple ?_
  | with_reducible refine WE_List ?_
  | with_reducible refine WE_UnaryOp ?_
  | with_reducible refine WTests_nil ?_
  | with_reducible refine WTests_one ?_
  | with_reducible refine add_int ?_
  | with_reducible refine sub_int ?_
  | ((with_reducible refine mod_int ?hj ?h); (case hj => decide))
  | ((with_reducible refine div_small ?hj ?hp ?h); (case hj => decide); (case hp => decide))
  | ((with_reducible refine mul_left ?hm ?h); (case hm => decide))
  | ((with_reducible refine mul_right ?hm ?h); (case hm => decide))
  | ((with_reducible refine pow_int ?h0 ?h1 ?h2 ?h); (case h0 => decide); (case h1 => decide); (case h2 => decide))
  | with_reducible refine eq_int ?_
  | with_reducible refine ne_int ?_
  | with_reducible refine lt_int ?_
  | with_reducible refine le_int ?_
  | with_reducible refine gt_int ?_
  | with_reducible refine ge_int ?_
  | with_reducible refine neg_int ?_
  | with_reducible refine truth_true ?_
  | with_reducible refine truth_false ?_
  | with_reducible refine truth_none ?_
  | with_reducible refine not_of ?_
  | with_reducible refine is_none_t ?_
  | with_reducible refine isNot_none_f ?_
  | with_reducible refine is_none_f (by with_unfolding_all rfl) (by with_unfolding_all rfl) ?_
  | with_reducible refine isNot_none_t (by with_unfolding_all rfl) (by with_unfolding_all rfl) ?_
  | ((with_reducible refine' WE_Call ?ok ?e ?hk ?h); (case ok => assumption); (case e => walk_at "zk"); (case hk => walk_at "zk"))
  | ((with_reducible refine' WE_CallB ?ok ?e ?hu ?hnn ?hf ?h); (case ok => assumption); (case e => walk_at "zk"); (case hu => boot_fast); (case hnn => decide); (case hf => intro a q; cases q))
  | ((with_reducible refine' WE_cell ?ha ?hv ?h); (case ha => with_unfolding_all rfl); (case hv => walk_at "zs"))
  | ((with_reducible refine' WE_free ?ha ?hv ?h); (case ha => with_unfolding_all rfl); (case hv => walk_at "zs"))
  | ((with_reducible refine' WE_builtin ?ok ?e ?hu ?hn ?h); (case ok => assumption); (case e => walk_at "zk"); (case hu => boot_fast); (case hn => decide))
  | ((with_reducible refine' isinstance_one (b := true) ?ok ?ht ?e ?h); (case ok => assumption); (case ht => first | with_unfolding_all rfl | exact typeV_list (by walk_at "zs")); (case e => walk_at "zk"))
  | ((with_reducible refine' isinstance_one (b := false) ?ok ?ht ?e ?h); (case ok => assumption); (case ht => first | with_unfolding_all rfl | exact typeV_list (by walk_at "zs")); (case e => walk_at "zk"))
  | ((with_reducible refine' attr_inst ?ok ?ha ?hC ?hn ?hx ?hk ?h); (case ok => assumption); (case ha => walk_at "zs"); (case hC => assumption); (case hn => walk_at "zn"); (case hx => with_unfolding_all rfl); (case hk => first | assumption | with_unfolding_all rfl))
  | with_reducible refine WX_AssignAttr (by assumption) ?_
  | with_reducible refine WE_MethL F.slot_list_append F.type_list_append ?_
  | with_reducible refine WE_MethL F.slot_list_pop F.type_list_pop ?_
  | with_reducible refine WE_Meth (by assumption) ?_
  | ((with_reducible refine' ⟨_, _, rfl, ?ha, ?h⟩); (case ha => walk_at "zs"))
  | with_reducible refine WAs_cons ?_
  | with_reducible refine WAs_nil ?_
  | with_reducible refine WA_Name ?_
  | with_reducible refine ne_bool ?_
  | with_reducible refine eq_bool ?_
  | with_reducible refine gt_pair ?_
  | with_reducible refine lt_pair ?_
  | with_reducible refine WX_Expr ?_
  | ((with_reducible refine' ⟨_, _, _, _, rfl, ?ha, ?hC, ?hn, ?hl, ?h⟩); (case ha => walk_at "zs"); (case hC => assumption); (case hn => walk_at "zn"); (case hl => exact Nat.le_of_ble_eq_true rfl))
  | ((with_reducible refine' ⟨_, _, _, _, _, rfl, ?ha, ?hC, ?hf, ?ht, ?hk, ?hg, ?h⟩); (case ha => walk_at "zs"); (case hC => assumption); (case hf => walk_at "zk"); (case ht => walk_at "zk"); (case hk => walk_at "zk"); (case hg => with_unfolding_all rfl))
  | with_reducible refine WQ_plain ?_
  | (intro D9 hD9; (have h9 : Fresh _ D9 := hD9); clear h9))
local macro_rules | `(tactic| walk_at "zn") => `(tactic| (unfold NoAttr; rename Cx.K _ = _ => hK9; rw [hK9]; with_unfolding_all rfl))

local macro_rules | `(tactic| walk_at "zs") => `(tactic| first
  | assumption
  | exact Store.set_self _ _ _
  | exact Store.set_fresh (by assumption) (by walk_at "zs")
  | exact Ext.get (by assumption) (by assumption)
  | (refine (Store.set_ne _ _ (by first | assumption | exact Ne.symm (by assumption))).trans ?_; walk_at "zs"))

local macro_rules | `(tactic| walk_at "zl") => `(tactic| first
  | assumption
  | exact Loc.set_self _ _ _
  | (refine (Loc.set_ne _ _ (by decide)).trans ?_; walk_at "zl")
  | with_unfolding_all rfl)
set_option maxHeartbeats 8000000 in
theorem PySem.Challenge.cw_uf030013_02_holds : PySem.Challenge.rw_uf030013_02.Holds := by
  refine hd ?_
  k_go0
  refine top_law hd.heap_39 (by assumption) (by assumption) (by assumption) (by assumption) (by assumption) (by assumption) (by with_unfolding_all rfl) rfl rfl rfl rfl (by refine raisesW_false ?_; wrow_none_raised) (by first | wrow_post | kc_post) (by assumption) ?_
  intro X a ns hK ok hs hlen
  have hC := cls_Station hK ok
  repeat walk_at "z"
  refine make_Station hK ok (by decide) fun st d w hst hw n1 => ?_
  repeat walk_at "z"
  refine make_Station hK ok (by decide) fun be d2 w2 hbe hw2 n2 => ?_
  have n3 : st ≠ be := hbe.ne (by walk_at "zs")
  have n4 : w ≠ be := hbe.ne (by walk_at "zs")
  have n5 : st ≠ w2 := hw2.ne (by walk_at "zs")
  have n6 : w ≠ w2 := hw2.ne (by walk_at "zs")
  repeat walk_at "z"
  refine putS_spec (ws := []) hK ok (by walk_at "zs") (by walk_at "zs") (by decide) (by decide) ?_
  repeat walk_at "z"
  rename_i li hli he hhe
  have n7 : st ≠ li := hli.ne (by walk_at "zs")
  have n8 : w ≠ li := hli.ne (by walk_at "zs")
  have n9 : be ≠ li := hli.ne (by walk_at "zs")
  have n10 : w2 ≠ li := hli.ne (by walk_at "zs")
  have n11 : st ≠ he := hhe.ne (by walk_at "zs")
  have n12 : w ≠ he := hhe.ne (by walk_at "zs")
  have n13 : be ≠ he := hhe.ne (by walk_at "zs")
  have n14 : w2 ≠ he := hhe.ne (by walk_at "zs")
  have n15 : li ≠ he := hhe.ne (by walk_at "zs")
  refine WX_For rfl ?_
  refine WI_range1 ok (by rw [hK]; rfl) ?_
  repeat walk_at "z"
  refine len_scr hs (by omega) ?_
  repeat walk_at "z"
  refine min_two rfl ?_
  refine ⟨_, rfl, by omega, by omega, ?_⟩
  refine ⟨_, fun i m' σ' => ∃ ws told hs, I02 a st d w be d2 w2 li he i m' σ' ws told hs, rfl, ⟨[], 0, [], ⟨by walk_at "zl", by walk_at "zl", by walk_at "zl", by walk_at "zl", by walk_at "zl", by walk_at "zl", by walk_at "zs", by walk_at "zs", by walk_at "zs", by walk_at "zs", by walk_at "zs", by walk_at "zs", by simp, by simp, by simp⟩⟩, fun i m' σ' h => rfl, ?_, ?_⟩
  · rintro i x m' σ' hx ⟨ws, told, hl, I⟩
    obtain ⟨rfl, hi⟩ := range_get hx
    obtain ⟨i1, i2, i3, i4, i5, i6, j1, j2, j3, j4, j5, j6, l1, l2, ho⟩ := I
    have l20 : hl.length ≤ i := l2
    repeat walk_at "z"
    refine sub_scr hs (by omega) (by omega) (cellV_lt (by omega) (by omega)) ?_
    repeat walk_at "z"
    refine mixed_spec hK ok (by decide) ?_
    generalize mixV _ _ = pick
    walk_at "z"
    refine WX_mono (fun m' σ' => ∃ ws told, I02 a st d w be d2 w2 li he (i + 1) m' σ' ws told hl ∧ m' (Str.ofString "_law_pick") = some (.int pick)) ?_ ?_
    · refine WX_If (WQ_mono (T' := fun σ'' => Ext σ' σ'') (F' := fun σ'' => Ext σ' σ'' ∧ ws ≠ []) ?_ ?_ ?_)
      · repeat walk_at "z"
        rename_i D hD
        have hE := Ext.new (o := .list []) hD
        refine eq_dat (d := .list (pairsP ws)) (e := .list []) (by simp only [PD]; exact ⟨_, _, rfl, hE _ _ j5, pairsV_PD ws⟩) (by simp only [PD]; exact ⟨_, _, rfl, Store.set_self _ _ _, by simp [PDs]⟩) (pairsP_shaped ws) rfl ?_
        rw [eqv_pairs_nil]
        refine truth_dec (fun hT => ?_) fun hF => ?_
        · repeat walk_at "z"
          exact hE
        · repeat walk_at "z"
          refine truth_dec (fun hT => ?_) fun hF' => ?_
          · repeat walk_at "z"
            exact hE
          · repeat walk_at "z"
            exact ⟨hE, hF⟩
      · intro σ'' hE
        have j1 := hE _ _ j1; have j2 := hE _ _ j2; have j3 := hE _ _ j3; have j4 := hE _ _ j4; have j5 := hE _ _ j5; have j6 := hE _ _ j6
        have ho := fun h hh => (ho h hh).ext hE
        repeat walk_at "z"
        refine sub_scr hs (by omega) (by omega) (cellV_lt (by omega) (by omega)) ?_
        repeat walk_at "z"
        generalize (pick.fdiv 5).fmod 8 = r
        generalize (cellV ns (0 + ↑i)).fmod _ = mk
        refine wn_append j5 (by simp [pairsV]; omega) ?_
        have e : pairsV ws ++ [.tup [.int r, .int mk]] = pairsV (ws ++ [(r, mk)]) := by simp [pairsV]
        rw [e]
        have eg : (pairsV (ws ++ [(r, mk)]))[((-1 : Int) + (pairsV (ws ++ [(r, mk)])).length).toNat]? = some (.tup [.int r, .int mk]) := by
          have e0 : ((-1 : Int) + ((pairsV (ws ++ [(r, mk)])).length : Int)).toNat = ws.length := by simp [pairsV]; omega
          rw [e0]; simp [pairsV]
        repeat walk_at "z"
        refine sub_list_neg (Store.set_self _ _ _) (by decide) (by simp [pairsV]; omega) (by decide) eg ?_
        repeat walk_at "z"
        refine sub_tup_nat (i := 0) rfl (by decide) rfl ?_
        repeat walk_at "z"
        refine sub_list_neg (Store.set_self _ _ _) (by decide) (by simp [pairsV]; omega) (by decide) eg ?_
        repeat walk_at "z"
        refine sub_tup_nat (i := 1) rfl (by decide) rfl ?_
        repeat walk_at "z"
        refine putS_spec hK ok (by walk_at "zs") (by walk_at "zs") (by omega) (by decide) ?_
        repeat walk_at "z"
        exact ⟨_, told, ⟨by walk_at "zl", by walk_at "zl", by walk_at "zl", by walk_at "zl", by walk_at "zl", by walk_at "zl", by walk_at "zs", by walk_at "zs", by walk_at "zs", by walk_at "zs", by walk_at "zs", by walk_at "zs", by simp; omega, by omega, fun h hh => ((ho h hh).set (by simp)).set (by simp)⟩, by walk_at "zl"⟩
      · rintro σ'' ⟨hE, hne⟩
        have j1 := hE _ _ j1; have j2 := hE _ _ j2; have j3 := hE _ _ j3; have j4 := hE _ _ j4; have j5 := hE _ _ j5; have j6 := hE _ _ j6
        have ho := fun h hh => (ho h hh).ext hE
        obtain ⟨p, ws, rfl⟩ := List.exists_cons_of_ne_nil hne
        simp only [List.length_cons] at l1
        repeat walk_at "z"
        refine truth_dec (fun hT => ?_) fun hF => ?_
        · repeat walk_at "z"
          refine send_spec hK ok j1 j2 (by assumption) (by simp; omega) (by decide) ?_
          repeat walk_at "z"
          refine wn_pop0 (x := .tup [.int p.1, .int p.2]) (xs := pairsV ws) (by walk_at "zs") (by simp [pairsV]; omega) ?_
          repeat walk_at "z"
          refine same_spec hK ok 1 (d := .tup [.int p.1, .int p.2]) (by simp [Dat.depth, depths]) (by simp [Dat.fits, fitss]) (by simp [DR, DRs]) (by simp [DR, DRs]) (by decide) rfl fun σ₃ hE' => ?_
          repeat walk_at "z"
          have e1 := hE' st _ (by walk_at "zs")
          have e2 := hE' w _ (by walk_at "zs")
          have e3 := hE' be _ (by walk_at "zs")
          have e4 := hE' w2 _ (by walk_at "zs")
          have e5 := hE' li _ (by walk_at "zs")
          have e6 := hE' he _ (by walk_at "zs")
          exact ⟨ws, 0, ⟨by walk_at "zl", by walk_at "zl", by walk_at "zl", by walk_at "zl", by walk_at "zl", by walk_at "zl", e1, e2, e3, e4, e5, e6, by omega, by omega, fun h hh => ((((ho h hh).set (by simp)).set (by simp)).set (by simp)).ext hE'⟩, by walk_at "zl"⟩
        · repeat walk_at "z"
          refine truth_dec (fun hT => ?_) fun hF => ?_
          · repeat walk_at "z"
            refine tell_spec hK ok j1 j2 (by decide) fun σ₂ hE₂ => ?_
            have k1 := hE₂ _ _ j1; have k2 := hE₂ _ _ j2; have k3 := hE₂ _ _ j3; have k4 := hE₂ _ _ j4; have k5 := hE₂ _ _ j5; have k6 := hE₂ _ _ j6
            repeat walk_at "z"
            refine sub_list_nat (i := 0) (x := .tup [.int p.1, .int p.2]) (by walk_at "zs") rfl (by decide) rfl ?_
            repeat walk_at "z"
            refine sub_tup_nat (i := 0) rfl (by decide) rfl ?_
            repeat walk_at "z"
            refine same_spec hK ok 1 (d := .int (p.1 + told)) (by simp [Dat.depth]) (by simp [Dat.fits]) (by simp [DR, needV]) (by simp [DR]) (by decide) rfl fun σ₃ hE' => ?_
            repeat walk_at "z"
            have e1 := hE' st _ (by walk_at "zs")
            have e2 := hE' w _ (by walk_at "zs")
            have e3 := hE' be _ (by walk_at "zs")
            have e4 := hE' w2 _ (by walk_at "zs")
            have e5 := hE' li _ (by walk_at "zs")
            have e6 := hE' he _ (by walk_at "zs")
            exact ⟨p :: ws, _, ⟨by walk_at "zl", by walk_at "zl", by walk_at "zl", by walk_at "zl", by walk_at "zl", by walk_at "zl", e1, e2, e3, e4, e5, e6, by simp; omega, by omega, fun h hh => (((ho h hh).ext hE₂).set (by simp)).ext hE'⟩, by walk_at "zl"⟩
          · repeat walk_at "z"
            exact ⟨p :: ws, told, ⟨by walk_at "zl", by walk_at "zl", by walk_at "zl", by walk_at "zl", by walk_at "zl", by walk_at "zl", j1, j2, j3, j4, j5, j6, by simp; omega, by omega, ho⟩, by walk_at "zl"⟩
    · clear j1 j2 j3 j4 j5 j6 l1 l2 ho i1 i2 i3 i4 i5 i6 ws told
      rintro m' σ' ⟨ws, told, ⟨i1, i2, i3, i4, i5, i6, j1, j2, j3, j4, j5, j6, l1, l2, ho⟩, i7⟩
      refine WS_cons (WX_Assign (WE_none (WS_cons ?_)))
      refine WX_mono (fun m' σ' => I02 a st d w be d2 w2 li he (i + 1) m' σ' ws told hl ∧ m' (Str.ofString "_law_pick") = some (.int pick) ∧ m' (Str.ofString "_law_due") = some (needV ws told)) ?_ ?_
      · refine WX_If (WQ_mono (T' := fun σ'' => Ext σ' σ'' ∧ ws ≠ []) (F' := fun σ'' => Ext σ' σ'' ∧ ws = []) ?_ ?_ ?_)
        · repeat walk_at "z"
          rename_i D hD
          have hE := Ext.new (o := .list []) hD
          refine ne_dat (d := .list (pairsP ws)) (e := .list []) (by simp only [PD]; exact ⟨_, _, rfl, hE _ _ j5, pairsV_PD ws⟩) (by simp only [PD]; exact ⟨_, _, rfl, Store.set_self _ _ _, by simp [PDs]⟩) (pairsP_shaped ws) rfl ?_
          rw [eqv_pairs_nil]
          exact truth_bool (fun hT => ⟨hE, by simpa using hT⟩) fun hF => ⟨hE, by simpa using hF⟩
        · rintro σ'' ⟨hE, hne⟩
          have j1 := hE _ _ j1; have j2 := hE _ _ j2; have j3 := hE _ _ j3; have j4 := hE _ _ j4; have j5 := hE _ _ j5; have j6 := hE _ _ j6
          have ho := fun h hh => (ho h hh).ext hE
          obtain ⟨p, ws, rfl⟩ := List.exists_cons_of_ne_nil hne
          repeat walk_at "z"
          refine sub_list_nat (i := 0) (x := .tup [.int p.1, .int p.2]) j5 rfl (by decide) rfl ?_
          repeat walk_at "z"
          refine sub_tup_nat (i := 0) rfl (by decide) rfl ?_
          repeat walk_at "z"
          exact ⟨⟨by walk_at "zl", by walk_at "zl", by walk_at "zl", by walk_at "zl", by walk_at "zl", by walk_at "zl", j1, j2, j3, j4, j5, j6, l1, l2, ho⟩, by walk_at "zl", by walk_at "zl"⟩
        · rintro σ'' ⟨hE, rfl⟩
          repeat walk_at "z"
          exact ⟨⟨by walk_at "zl", by walk_at "zl", by walk_at "zl", by walk_at "zl", by walk_at "zl", by walk_at "zl", hE _ _ j1, hE _ _ j2, hE _ _ j3, hE _ _ j4, hE _ _ j5, hE _ _ j6, l1, l2, fun h hh => (ho h hh).ext hE⟩, by walk_at "zl", by walk_at "zl"⟩
      · clear j1 j2 j3 j4 j5 j6 l1 l2 ho i1 i2 i3 i4 i5 i6 i7
        rintro m' σ' ⟨I, i7, i8⟩
        obtain ⟨nd, -, nd1, nd2, nd3⟩ := needD (σ := σ') ws told
        have nkn := needV_known ws told
        refine WS_cons (WX_mono (fun m'' σ'' => m'' = m' ∧ I02 a st d w be d2 w2 li he (i + 1) m' σ'' ws told hl) ?_ ?_)
        · obtain ⟨i1, i2, i3, i4, i5, i6, j1, j2, j3, j4, j5, j6, l1, l2, ho⟩ := id I
          refine WX_If (WQ_mono (T' := fun _ => False) (F' := fun σ'' => Ext σ' σ'') ?_ (fun _ h => h.elim) ?_)
          · repeat walk_at "z"
            refine truth_dec (fun hT => ?_) fun hF => ?_
            · repeat walk_at "z"
              refine need_spec hK ok j1 j2 (by decide) fun σ₂ hE₂ => ?_
              repeat walk_at "z"
              refine same_spec hK ok 1 nd1 nd2 (nd3 _) (nd3 _) (by decide) rfl fun σ₃ hE₃ => ?_
              repeat walk_at "z"
              exact hE₂.trans hE₃
            · repeat walk_at "z"
              exact Ext.refl _
          · intro σ'' hE
            repeat walk_at "z"
            exact ⟨rfl, I.ext hE⟩
        · clear I σ'
          rintro m'' σ' ⟨rfl, ⟨i1, i2, i3, i4, i5, i6, j1, j2, j3, j4, j5, j6, l1, l2, ho⟩⟩
          repeat walk_at "z"
          refine messages_spec hK ok j1 j2 (by simp [pairsV]; omega) (by decide) fun b hb => ?_
          have b1 := hb.ne j1; have b2 := hb.ne j2; have b3 := hb.ne j3; have b4 := hb.ne j4; have b5 := hb.ne j5; have b6 := hb.ne j6
          walk_at "z"
          refine WX_If (WQ_mono (T' := fun _ => False) (F' := fun σ'' => Ext (σ'.set b (.list (pairsV ws))) σ'') ?_ (fun _ h => h.elim) ?_)
          · repeat walk_at "z"
            refine same_spec hK ok 2 (d := .list (pairsD ws)) (by have := pairsD_depth ws; simp only [Dat.depth]; omega) (by have := pairsD_fits ws; simp only [Dat.fits]; exact ⟨by simp [pairsD]; omega, this⟩)
              (by simp only [DR]; exact ⟨_, _, rfl, Store.set_self _ _ _, pairsV_DR ws⟩) (by simp only [DR]; exact ⟨_, _, rfl, by walk_at "zs", pairsV_DR ws⟩) (by decide) rfl fun σ₂ hE₂ => ?_
            have k1 := hE₂ st _ (by walk_at "zs")
            have k2 := hE₂ w _ (by walk_at "zs")
            repeat walk_at "z"
            refine need_spec hK ok k1 k2 (by decide) fun σ₃ hE₃ => ?_
            repeat walk_at "z"
            refine same_spec hK ok 1 nd1 nd2 (nd3 _) (nd3 _) (by decide) rfl fun σ₄ hE₄ => ?_
            repeat walk_at "z"
            exact (hE₂.trans hE₃).trans hE₄
          · intro σ₂ hE
            have k1 := hE st _ (by walk_at "zs")
            have k2 := hE w _ (by walk_at "zs")
            have k3 := hE be _ (by walk_at "zs")
            have k4 := hE w2 _ (by walk_at "zs")
            have k5 := hE li _ (by walk_at "zs")
            have k6 := hE he _ (by walk_at "zs")
            have kb := hE b _ (Store.set_self _ _ _)
            repeat walk_at "z"
            refine wn_append kb (by simp [pairsV]; omega) ?_
            repeat walk_at "z"
            refine wn_copy (Store.set_self _ _ _) (by simp [pairsV]; omega) fun b' hb' => ?_
            have c1 : st ≠ b' := hb'.ne (by walk_at "zs")
            have c2 : w ≠ b' := hb'.ne (by walk_at "zs")
            have c3 : be ≠ b' := hb'.ne (by walk_at "zs")
            have c4 : w2 ≠ b' := hb'.ne (by walk_at "zs")
            have c5 : li ≠ b' := hb'.ne (by walk_at "zs")
            have c6 : he ≠ b' := hb'.ne (by walk_at "zs")
            have c7 : b ≠ b' := hb'.ne (by walk_at "zs")
            repeat walk_at "z"
            refine wn_append (by walk_at "zs") (by omega) ?_
            repeat walk_at "z"
            refine ⟨ws, told, hl ++ [_], ⟨by walk_at "zl", by walk_at "zl", by walk_at "zl", by walk_at "zl", by walk_at "zl", by walk_at "zl", by walk_at "zs", by walk_at "zs", by walk_at "zs", by walk_at "zs", by walk_at "zs", Store.set_self _ _ _, l1, by simp; omega, fun h hh => ?_⟩⟩
            rcases List.mem_append.mp hh with hh | hh
            · obtain ⟨f, f', ws', rfl, h1, h2, h3, h4⟩ := ((ho h hh).ext (Ext.new (o := .list (pairsV ws)) hb)).ext hE
              have q1 : f ≠ b := by
                obtain ⟨g, g', ws'', e, g1, g2, -, -⟩ := ho _ hh
                cases e; exact hb.ne g1
              have q2 : f' ≠ b := by
                obtain ⟨g, g', ws'', e, g1, g2, -, -⟩ := ho _ hh
                cases e; exact hb.ne g2
              have q3 : f ≠ b' := hb'.ne (by walk_at "zs")
              have q4 : f' ≠ b' := hb'.ne (by walk_at "zs")
              have q5 : f ≠ he := fun e => h3 (by simp [e])
              have q6 : f' ≠ he := fun e => h4 (by simp [e])
              exact ⟨f, f', ws', rfl, by walk_at "zs", by walk_at "zs", h3, h4⟩
            · cases List.mem_singleton.mp hh
              exact ⟨b, b', ws, rfl, by walk_at "zs", by walk_at "zs", by simp only [List.mem_cons, List.not_mem_nil, or_false, not_or]; exact ⟨b1.symm, b2.symm, b3.symm, b4.symm, b5.symm, b6.symm⟩, by simp only [List.mem_cons, List.not_mem_nil, or_false, not_or]; exact ⟨c1.symm, c2.symm, c3.symm, c4.symm, c5.symm, c6.symm⟩⟩
  · rintro m' σ' ⟨ws, told, hl, ⟨i1, i2, i3, i4, i5, i6, j1, j2, j3, j4, j5, j6, l1, l2, ho⟩⟩
    repeat walk_at "z"
    refine isNot_bool rfl ?_
    refine truth_bool (fun hT => by simp [V.isBool] at hT) fun _ => ?_
    repeat walk_at "z"
    refine ne_dat (d := .tuple [.int 0, .int 0]) (e := .tuple [.int 0, .int 0]) (by simp [PD, PDs]) (by simp [PD, PDs]) rfl rfl ?_
    refine truth_bool (fun hT => by simp [PyData.eqv, PyData.eqvAll] at hT) fun _ => ?_
    repeat walk_at "z"
    refine truth_neg (by simp) ?_
    repeat walk_at "z"
    refine held_spec hK ok j6 ho (by decide) rfl ?_
    repeat walk_at "z"
    refine messages_spec hK ok j3 j4 (by decide) (by decide) fun b hb => ?_
    repeat walk_at "z"
    rename_i D hD
    refine same_spec hK ok 2 (d := .list (pairsD [(7, 5)])) (by have := pairsD_depth [(7, 5)]; simp only [Dat.depth]; omega) (by have := pairsD_fits [(7, 5)]; simp only [Dat.fits]; exact ⟨by simp [pairsD], this⟩)
      (by simp only [DR]; exact ⟨_, _, rfl, by walk_at "zs", pairsV_DR [(7, 5)]⟩) (by simp only [DR]; exact ⟨_, _, rfl, Store.set_self _ _ _, pairsV_DR [(7, 5)]⟩) (by decide) rfl fun σ₂ hE₂ => ?_
    have k3 := hE₂ be _ (by walk_at "zs")
    have k4 := hE₂ w2 _ (by walk_at "zs")
    repeat walk_at "z"
    refine need_spec hK ok k3 k4 (by decide) fun σ₃ hE₃ => ?_
    show WE _ _ _ _ _ _ (fun y σ => W2 _ _ _ (V.int (7 + 0)) y σ _ _) _
    repeat walk_at "z"
    rfl
