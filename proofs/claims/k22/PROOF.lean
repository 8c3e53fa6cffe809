import PyProof.Rows.All
import Wide.All
import OpenK.AllK
import Wide.FinOn
import HandS.ForMost
import HandS.Exc
import HandS.ExcOwn
import HandS.TryMany
import HandS.ExcInit
import HandS.WordsExc
import HandS.Conv
import HandS.Wide
import HandS.Gcd
import HandS.ExcValue
import HandS.ExcIs
import KE.KExcIs
import HandS.Zip
import HandS.Iter
import HandS.IsInst
import HandS.Text
import HandS.TupAny
import HandS.ExcField
import HandS.DictComp
import HandS.Style
import HandS.HeadHook1
import PySem.Challenge.RW_keptpapers_k22_whole_rests_put_together
import PyProof.ReprLen
set_option Elab.async false
set_option linter.all false
set_option maxRecDepth 100000
/-! Dn 1: data trees, the world, how they lie in the abstract heap. -/
namespace Dn
open PySem PySem.Spec PyProof.Rows L2

/-- data: what is never written, as trees; ref n: the n-th thing that is written; glo x: what stands at the module's name x; exn: an error of an own class, its fields by name -/
inductive D where
  | non | bl (b : Bool) | int (i : Int) | str (s : Str)
  | tup (l : List D) | lst (l : List D) | ref (n : Nat) | glo (x : Str) | exn (c : Str) (ns : List Str) (ds : List D)
/-- a thing that is written -/
inductive MO where
  | dct (kvs : List (Key × D))
  | exo (c : Str) (fs : List (Str × D))
abbrev Wd := List MO
/-- what comes of an expression -/
inductive Res (α : Type) where
  | stuck
  | ok (a : α) (w : Wd)
  | exc (c : Str) (fs : List (Str × D)) (w : Wd)
abbrev M (α : Type) := Wd → Res α
/-- a name's slot: nothing yet, a value, an own list -/
inductive Slot where
  | un | val (d : D) | own (l : List D) | xc (c : Str) (fs : List (Str × D))
abbrev Env' := List Slot
/-- what comes of a statement -/
inductive SRes where
  | stuck
  | nx (η : Env') (w : Wd)
  | rt (d : D) (w : Wd)
  | bk (η : Env') (w : Wd)
  | ct (η : Env') (w : Wd)
  | exc (c : Str) (fs : List (Str × D)) (η : Env') (w : Wd)
def M.pure {α : Type} (a : α) : M α := fun w => .ok a w
def M.bind {α β : Type} (m : M α) (k : α → M β) : M β := fun w => match m w with
  | .stuck => .stuck
  | .ok a w' => k a w'
  | .exc c fs w' => .exc c fs w'
def M.fail {α : Type} : M α := fun _ => .stuck

/-! ### where things lie -/
structure Zt where
  F : Hp
  ι : List Addr
  H : Hp
  /-- within an except suite: the exception, its class, its dict -/
  x : Option (Addr × Value × Option Addr) := none
structure Mo (Z Z' : Zt) : Prop where
  f : ∀ a o, Z.F a = some o → Z'.F a = some o
  i : ∀ (n : Nat) (a : Addr), Z.ι[n]? = some a → Z'.ι[n]? = some a
structure Ext (Z Z' : Zt) : Prop extends toMo : Mo Z Z' where
  nf : ∀ a o, Z.H a = some o → Z'.F a = Z.F a
  ni : ∀ a, a ∈ Z'.ι → a ∉ Z.ι → Z.H a = none
  h : ∀ a o, Z.H a = some o → a ∉ Z.ι → Z'.H a = some o
  d : ∀ a o, Z.H a = some o → ∃ o', Z'.H a = some o'
  x : Z'.x = Z.x
theorem Mo.refl (Z : Zt) : Mo Z Z := ⟨fun _ _ h => h, fun _ _ h => h⟩
theorem Mo.trans {Z Z1 Z2 : Zt} (a : Mo Z Z1) (b : Mo Z1 Z2) : Mo Z Z2 := ⟨fun x o h => b.f x o (a.f x o h), fun n x h => b.i n x (a.i n x h)⟩
theorem Ext.refl (Z : Zt) : Ext Z Z := { Mo.refl Z with nf := fun _ _ _ => rfl, ni := fun _ h n => absurd h n, h := fun _ _ h _ => h, d := fun _ o h => ⟨o, h⟩, x := rfl }
theorem Ext.trans {Z Z1 Z2 : Zt} (a : Ext Z Z1) (b : Ext Z1 Z2) : Ext Z Z2 :=
  { Mo.trans a.toMo b.toMo with
    nf := fun x o h => by
      obtain ⟨o', h'⟩ := a.d x o h
      rw [b.nf x o' h', a.nf x o h]
    ni := fun x h n => by
      by_cases hx : x ∈ Z1.ι
      · exact a.ni x hx n
      · have z := b.ni x h hx
        cases q : Z.H x with
        | none => rfl
        | some o =>
          obtain ⟨o', h'⟩ := a.d x o q
          rw [h'] at z; cases z
    h := fun x o h n => by
      have h1 := a.h x o h n
      refine b.h x o h1 fun hx => ?_
      have z := a.ni x hx n
      rw [h] at z; cases z
    d := fun x o h => by
      obtain ⟨o', h'⟩ := a.d x o h
      exact b.d x o' h'
    x := b.x.trans a.x }
theorem Ext.nin {Z Z' : Zt} (e : Ext Z Z') {a : Addr} {o : HO} (h : Z.H a = some o) (n : a ∉ Z.ι) : a ∉ Z'.ι := fun q => by
  have z := e.ni a q n
  rw [h] at z; cases z

section
variable (K : PySem.W.Frag) (mg : Str → Option Value)
mutual
inductive Rel (Z : Zt) : D → V → Prop where
  | non : Rel Z .non .non
  | bl (b : Bool) : Rel Z (.bl b) (.bl b)
  | int (i : Int) : Rel Z (.int i) (.int i)
  | str (s : Str) : Rel Z (.str s) (.str s)
  | tup {ds : List D} {vs : List V} {a : Addr} (h : SqT K Z.F a vs) (r : RelL Z ds vs) : Rel Z (.tup ds) (.ref a)
  | lst {ds : List D} {vs : List V} {a : Addr} (h : SqL K Z.F a vs) (r : RelL Z ds vs) : Rel Z (.lst ds) (.ref a)
  | ref {n : Nat} {a : Addr} (h : Z.ι[n]? = some a) : Rel Z (.ref n) (.ref a)
  | glo {x : Str} {a : Addr} (h : mg x = some (.ref a)) : Rel Z (.glo x) (.ref a)
  | exn0 {c : Str} {C a : Addr} (h : mg c = some (.ref C)) (e : Z.F a = some (ExO (.ref C) a)) : Rel Z (.exn c [] []) (.ref a)
  | exn1 {c : Str} {C a d : Addr} {ns : List Str} {ds : List D} {vs : List V} (h : mg c = some (.ref C)) (e : Z.F a = some (exo a C (some d))) (ed : Z.F d = some (L2.exd d (ns.zip vs).reverse)) (r : RelL Z ds vs) : Rel Z (.exn c ns ds) (.ref a)
inductive RelL (Z : Zt) : List D → List V → Prop where
  | nil : RelL Z [] []
  | cons {d : D} {v : V} {ds : List D} {vs : List V} (h : Rel Z d v) (r : RelL Z ds vs) : RelL Z (d :: ds) (v :: vs)
end
end
section
variable {K : PySem.W.Frag} {mg : Str → Option Value} {Z Z' : Zt}
theorem sqT_mo (m : Mo Z Z') {a : Addr} {xs : List V} (h : SqT K Z.F a xs) : SqT K Z'.F a xs := by
  rcases h with (h | ⟨o, h⟩) | h
  · exact .inl (.inl (m.f _ _ h))
  · exact .inl (.inr ⟨o, m.f _ _ h⟩)
  · exact .inr h
theorem sqL_mo (m : Mo Z Z') {a : Addr} {xs : List V} (h : SqL K Z.F a xs) : SqL K Z'.F a xs := by
  rcases h with (h | ⟨o, h⟩) | h
  · exact .inl (.inl (m.f _ _ h))
  · exact .inl (.inr ⟨o, m.f _ _ h⟩)
  · exact .inr h
mutual
theorem Rel.mo (m : Mo Z Z') : ∀ {d : D} {v : V}, Rel K mg Z d v → Rel K mg Z' d v
  | _, _, .non => .non
  | _, _, .bl b => .bl b
  | _, _, .int i => .int i
  | _, _, .str s => .str s
  | _, _, .tup h r => .tup (sqT_mo m h) (RelL.mo m r)
  | _, _, .lst h r => .lst (sqL_mo m h) (RelL.mo m r)
  | _, _, .ref h => .ref (m.i _ _ h)
  | _, _, .glo h => .glo h
  | _, _, .exn0 h e => .exn0 h (m.f _ _ e)
  | _, _, .exn1 h e ed r => .exn1 h (m.f _ _ e) (m.f _ _ ed) (RelL.mo m r)
theorem RelL.mo (m : Mo Z Z') : ∀ {ds : List D} {vs : List V}, RelL K mg Z ds vs → RelL K mg Z' ds vs
  | _, _, .nil => .nil
  | _, _, .cons h r => .cons (Rel.mo m h) (RelL.mo m r)
end
theorem RelL.length : ∀ {ds : List D} {vs : List V}, RelL K mg Z ds vs → ds.length = vs.length
  | _, _, .nil => rfl
  | _, _, .cons _ r => congrArg (· + 1) (RelL.length r)
theorem RelL.get : ∀ {ds : List D} {vs : List V} {i : Nat} {d : D}, RelL K mg Z ds vs → ds[i]? = some d → ∃ v, vs[i]? = some v ∧ Rel K mg Z d v
  | _, _, _, _, .nil, e => by simp at e
  | _, _, 0, _, .cons h _, e => by simp at e; subst e; exact ⟨_, rfl, h⟩
  | _, _, i + 1, d, .cons _ r, e => by
    obtain ⟨v, h1, h2⟩ := RelL.get (i := i) (d := d) r (by simpa using e)
    exact ⟨v, by simpa using h1, h2⟩
theorem RelL.getV : ∀ {ds : List D} {vs : List V} {i : Nat} {v : V}, RelL K mg Z ds vs → vs[i]? = some v → ∃ d, ds[i]? = some d ∧ Rel K mg Z d v
  | _, _, _, _, .nil, e => by simp at e
  | _, _, 0, _, .cons h _, e => by simp at e; subst e; exact ⟨_, rfl, h⟩
  | _, _, i + 1, v, .cons _ r, e => by
    obtain ⟨d, h1, h2⟩ := RelL.getV (i := i) (v := v) r (by simpa using e)
    exact ⟨d, by simpa using h1, h2⟩
theorem RelL.append : ∀ {ds es : List D} {vs us : List V}, RelL K mg Z ds vs → RelL K mg Z es us → RelL K mg Z (ds ++ es) (vs ++ us)
  | _, _, _, _, .nil, s => s
  | _, _, _, _, .cons h r, s => .cons h (RelL.append r s)
theorem RelL.take : ∀ {ds : List D} {vs : List V} (n : Nat), RelL K mg Z ds vs → RelL K mg Z (ds.take n) (vs.take n)
  | _, _, 0, _ => .nil
  | _, _, _ + 1, .nil => .nil
  | _, _, n + 1, .cons h r => .cons h (RelL.take n r)
theorem RelL.drop : ∀ {ds : List D} {vs : List V} (n : Nat), RelL K mg Z ds vs → RelL K mg Z (ds.drop n) (vs.drop n)
  | _, _, 0, r => r
  | _, _, _ + 1, .nil => .nil
  | _, _, n + 1, .cons _ r => RelL.drop n r
theorem RelL.reverse {ds : List D} {vs : List V} (r : RelL K mg Z ds vs) : RelL K mg Z ds.reverse vs.reverse := by
  induction ds generalizing vs with
  | nil => cases r; exact .nil
  | cons d ds ih =>
    cases r with
    | cons h r =>
      rw [List.reverse_cons, List.reverse_cons]
      exact (ih r).append (.cons h .nil)
theorem RelL.set {d : D} {v : V} (h : Rel K mg Z d v) : ∀ {ds : List D} {vs : List V} (i : Nat), RelL K mg Z ds vs → RelL K mg Z (ds.set i d) (vs.set i v)
  | _, _, _, .nil => .nil
  | _, _, 0, .cons _ r => .cons h r
  | _, _, i + 1, .cons q r => .cons q (RelL.set h i r)
end

/-! ### the world -/
section
variable (K : PySem.W.Frag) (mg : Str → Option Value)
def RelKV (Z : Zt) : List (Key × D) → List (Key × V) → Prop := Paired fun (p : Key × D) (q : Key × V) => p.1 = q.1 ∧ Rel K mg Z p.2 q.2
def RelFs (Z : Zt) : List (Str × D) → List (Str × V) → Prop := Paired fun (p : Str × D) (q : Str × V) => p.1 = q.1 ∧ Rel K mg Z p.2 q.2
/-- a made exception of the class c, held: it and its own dict -/
def MOk (Z : Zt) (a : Addr) : MO → Prop
  | .dct kvs => ∃ vs, Z.H a = some (.dK vs) ∧ RelKV K mg Z kvs vs
  | .exo _ _ => False
structure Wk (Z : Zt) (μ : Wd) : Prop where
  sub : ∀ a o, Z.F a = some o → Z.H a = some o
  len : Z.ι.length = μ.length
  nd : Z.ι.Nodup
  obj : ∀ (n : Nat) (a : Addr) (o : MO), Z.ι[n]? = some a → μ[n]? = some o → Z.F a = none ∧ MOk K mg Z a o
/-- an exception's fields as they lie -/
def XRel (Z : Zt) (c : Str) (fs : List (Str × D)) (cls : Value) (dx : Option Addr) : Prop :=
  ∃ C, mg c = some (.ref C) ∧ cls = .ref C ∧ ((fs = [] ∧ dx = none) ∨ ∃ d vs, dx = some d ∧ Z.H d = some (.xd vs) ∧ RelFs K mg Z fs vs)
def SlotOk (Z : Zt) : Slot → Option V → Prop
  | .un, _ => True
  | .val d, v => ∃ x, v = some x ∧ Rel K mg Z d x
  | .own ds, v => ∃ a xs, v = some (.ref a) ∧ Z.H a = some (.lst xs) ∧ RelL K mg Z ds xs ∧ Z.F a = none ∧ a ∉ Z.ι
  | .xc c fs, v => ∃ a cls d, Z.x = some (a, cls, d) ∧ v = some (.ref a) ∧ XRel K mg Z c fs cls d
structure EnvOk (H0 : Hp) (Z : Zt) (η : Env') (σ : L2.St) : Prop where
  len : η.length = σ.length
  slot : ∀ (i : Nat) (s : Slot) (v : Option V), η[i]? = some s → σ[i]? = some v → SlotOk K mg Z s v
  apart : ∀ (i j : Nat) (ds es : List D) (a : Addr), i ≠ j → η[i]? = some (.own ds) → η[j]? = some (.own es) → σ[i]? = some (some (.ref a)) → σ[j]? ≠ some (some (.ref a))
  young : ∀ (i : Nat) (ds : List D) (a : Addr), η[i]? = some (.own ds) → σ[i]? = some (some (.ref a)) → H0 a = none
/-- the state within a def that was entered at Z0 -/
structure Stt (Z0 Z : Zt) (μ : Wd) (η : Env') (σ : L2.St) : Prop where
  wk : Wk K mg Z μ
  env : EnvOk K mg Z0.H Z η σ
  ext : Ext Z0 Z
end
section
variable {K : PySem.W.Frag} {mg : Str → Option Value} {Z Z' Z0 : Zt} {μ μ' : Wd} {η : Env'} {σ : L2.St}
theorem paired_imp {α β : Type} {R S : α → β → Prop} (h : ∀ a b, R a b → S a b) : ∀ {l : List α} {r : List β}, Paired R l r → Paired S l r
  | _, _, .nil => .nil
  | _, _, .cons p q => .cons (h _ _ p) (paired_imp h q)
theorem RelKV.mo (m : Mo Z Z') {l : List (Key × D)} {r : List (Key × V)} (h : RelKV K mg Z l r) : RelKV K mg Z' l r := paired_imp (fun _ _ q => ⟨q.1, q.2.mo m⟩) h
theorem RelFs.mo (m : Mo Z Z') {l : List (Str × D)} {r : List (Str × V)} (h : RelFs K mg Z l r) : RelFs K mg Z' l r := paired_imp (fun _ _ q => ⟨q.1, q.2.mo m⟩) h
theorem XRel.step {c : Str} {fs : List (Str × D)} {cls : Value} {d : Option Addr} (r : XRel K mg Z c fs cls d) (m : Mo Z Z') (h : ∀ a vs, Z.H a = some (.xd vs) → Z'.H a = some (.xd vs)) : XRel K mg Z' c fs cls d := by
  obtain ⟨C, h1, h2, h3⟩ := r
  refine ⟨C, h1, h2, ?_⟩
  rcases h3 with h3 | ⟨dx, vs, e, hd, rf⟩
  · exact .inl h3
  · exact .inr ⟨dx, vs, e, h _ _ hd, rf.mo m⟩
theorem Wk.xd_nin (wk : Wk K mg Z μ) {a : Addr} {vs : List (Str × V)} (h : Z.H a = some (.xd vs)) : a ∉ Z.ι := fun hm => by
  obtain ⟨k, hk⟩ := List.getElem?_of_mem hm
  have lt : k < μ.length := by rw [← wk.len]; exact (List.getElem?_eq_some_iff.mp hk).1
  obtain ⟨_, m⟩ := wk.obj k a _ hk (List.getElem?_eq_getElem lt)
  cases q : μ[k] with
  | dct kvs =>
    rw [q] at m
    obtain ⟨vs, e, _⟩ := m
    rw [h] at e; cases e
  | exo c fs => rw [q] at m; exact m.elim
theorem EnvOk.ext (e : EnvOk K mg Z0.H Z η σ) (x : Ext Z Z') (wk : Wk K mg Z μ) : EnvOk K mg Z0.H Z' η σ := by
  refine ⟨e.len, fun i s v h1 h2 => ?_, e.apart, e.young⟩
  have q := e.slot i s v h1 h2
  cases s with
  | un => trivial
  | val d =>
    obtain ⟨y, e1, r⟩ := q
    exact ⟨y, e1, r.mo x.toMo⟩
  | own ds =>
    obtain ⟨a, xs, e1, hh, r, hf, hi⟩ := q
    exact ⟨a, xs, e1, x.h a _ hh hi, r.mo x.toMo, by rw [x.nf a _ hh]; exact hf, x.nin hh hi⟩
  | xc c fs =>
    obtain ⟨a, cls, d, e1, e2, r⟩ := q
    exact ⟨a, cls, d, x.x.trans e1, e2, r.step x.toMo fun b vs hb => x.h b _ hb (wk.xd_nin hb)⟩
theorem Stt.go (s : Stt K mg Z0 Z μ η σ) (x : Ext Z Z') (w : Wk K mg Z' μ') : Stt K mg Z0 Z' μ' η σ := ⟨w, s.env.ext x s.wk, s.ext.trans x⟩
/-- a new thing that is never written -/
theorem ext_new {p : Addr} {o : HO} (n : Z.H p = none) (wk : Wk K mg Z μ) : Ext Z ⟨upd Z.F p o, Z.ι, upd Z.H p o, Z.x⟩ := by
  have nF : Z.F p = none := by
    cases q : Z.F p with
    | none => rfl
    | some u => rw [wk.sub p u q] at n; cases n
  refine { f := fun a u h => ?_, i := fun _ _ h => h, nf := fun a u h => ?_, ni := fun a h n => absurd h n, h := fun a u h _ => ?_, d := fun a u h => ⟨u, ?_⟩, x := rfl }
  · show upd Z.F p o a = some u
    rw [upd_ne (ne_of_none h nF)]; exact h
  · show upd Z.F p o a = Z.F a
    rw [upd_ne (ne_of_none h n)]
  · show upd Z.H p o a = some u
    rw [upd_ne (ne_of_none h n)]; exact h
  · show upd Z.H p o a = some u
    rw [upd_ne (ne_of_none h n)]; exact h
theorem MOk.mo {Z Z' : Zt} {a : Addr} {o : MO} (m : Mo Z Z') (e : Z'.H a = Z.H a) (h : MOk K mg Z a o) : MOk K mg Z' a o := by
  cases o with
  | dct kvs =>
    obtain ⟨vs, h1, h2⟩ := h
    exact ⟨vs, e.trans h1, h2.mo m⟩
  | exo c fs => exact h
theorem wk_new {p : Addr} {o : HO} (n : Z.H p = none) (wk : Wk K mg Z μ) : Wk K mg ⟨upd Z.F p o, Z.ι, upd Z.H p o, Z.x⟩ μ := by
  have x := ext_new (o := o) n wk
  refine ⟨fun a u h => ?_, wk.len, wk.nd, fun k a u h1 h2 => ?_⟩
  · by_cases e : a = p
    · subst e
      have h' : upd Z.F a o a = some u := h
      rw [upd_same] at h'
      show upd Z.H a o a = some u
      rw [upd_same]; exact h'
    · have h' : upd Z.F p o a = some u := h
      rw [upd_ne e] at h'
      show upd Z.H p o a = some u
      rw [upd_ne e]; exact wk.sub a u h'
  · obtain ⟨f, m⟩ := wk.obj k a u h1 h2
    have hne : a ≠ p := by
      cases u with
      | dct kvs =>
        obtain ⟨vs, e, _⟩ := m
        exact ne_of_none e n
      | exo c fs => exact m.elim
    refine ⟨?_, m.mo x.toMo ?_⟩
    · show upd Z.F p o a = none
      rw [upd_ne hne]; exact f
    · show upd Z.H p o a = Z.H a
      rw [upd_ne hne]
/-- a new list of one's own (not yet known as data) -/
theorem ext_own {p : Addr} {o : HO} (n : Z.H p = none) : Ext Z ⟨Z.F, Z.ι, upd Z.H p o, Z.x⟩ :=
  { f := fun _ _ h => h, i := fun _ _ h => h, nf := fun _ _ _ => rfl, ni := fun _ h n => absurd h n
    h := fun a u h _ => by show upd Z.H p o a = some u; rw [upd_ne (ne_of_none h n)]; exact h
    d := fun a u h => ⟨u, by show upd Z.H p o a = some u; rw [upd_ne (ne_of_none h n)]; exact h⟩, x := rfl }
theorem Wk.ne_obj (wk : Wk K mg Z μ) {p : Addr} (n : Z.H p = none) : p ∉ Z.ι := fun h => by
  obtain ⟨k, hk⟩ := List.getElem?_of_mem h
  have lt : k < μ.length := by rw [← wk.len]; exact (List.getElem?_eq_some_iff.mp hk).1
  obtain ⟨_, m⟩ := wk.obj k p _ hk (List.getElem?_eq_getElem lt)
  cases q : μ[k] with
  | dct kvs =>
    rw [q] at m
    obtain ⟨vs, e, _⟩ := m
    rw [n] at e; cases e
  | exo c fs => rw [q] at m; exact m.elim
theorem wk_own {p : Addr} {o : HO} (n : Z.H p = none) (wk : Wk K mg Z μ) : Wk K mg ⟨Z.F, Z.ι, upd Z.H p o, Z.x⟩ μ := by
  have x := ext_own (o := o) n
  refine ⟨fun a u h => ?_, wk.len, wk.nd, fun k a u h1 h2 => ?_⟩
  · have h' := wk.sub a u h
    show upd Z.H p o a = some u
    rw [upd_ne (ne_of_none h' n)]; exact h'
  · obtain ⟨f, m⟩ := wk.obj k a u h1 h2
    have hne : a ≠ p := fun e => wk.ne_obj n (by rw [← e]; exact List.mem_of_getElem? h1)
    exact ⟨f, m.mo x.toMo (by show upd Z.H p o a = Z.H a; rw [upd_ne hne])⟩
end
end Dn

/-! Dn 2: readings that say what a den says; how they are put together. -/
namespace Dn
open PySem PySem.Spec PyProof.Rows L2

/-! ### weakening -/
theorem peI {X : Cx} {e : Expr} {t t' : TE} (h : PE X e t) (i : ∀ σ H Q, t' σ H Q → t σ H Q) : PE X e t' := ⟨fun pins s σ H Q I q => h.run pins s σ H Q I (i σ H Q q)⟩
theorem ptI {X : Cx} {e : Expr} {t t' : TT} (h : PT X e t) (i : ∀ σ H Q, t' σ H Q → t σ H Q) : PT X e t' := ⟨fun pins s σ H Q I q => h.run pins s σ H Q I (i σ H Q q)⟩
theorem pwI {X : Cx} {e : Expr} {t t' : TT} (h : PW X e t) (i : ∀ σ H Q, t' σ H Q → t σ H Q) : PW X e t' := ⟨fun wh pins s σ H Q I q => h.run wh pins s σ H Q I (i σ H Q q)⟩
theorem paI {X : Cx} {e : List Expr} {t t' : TA} (h : PA X e t) (i : ∀ σ H Q, t' σ H Q → t σ H Q) : PA X e t' := ⟨fun pos pins s σ H Q I q => h.run pos pins s σ H Q I (i σ H Q q)⟩
theorem psI {X : Cx} {e : Stmt} {t t' : TS} (h : PS X e t) (i : ∀ D σ H, t' D σ H → t D σ H) : PS X e t' := ⟨fun pins s σ H D I q => h.run pins s σ H D I (i D σ H q)⟩
theorem pssI {X : Cx} {e : List Stmt} {t t' : TS} (h : PSs X e t) (i : ∀ D σ H, t' D σ H → t D σ H) : PSs X e t' := ⟨fun pins s σ H D I q => h.run pins s σ H D I (i D σ H q)⟩
theorem piI {X : Cx} {tg e : Expr} {t t' : TI} (h : PI X tg e t) (i : ∀ σ H R, t' σ H R → t σ H R) : PI X tg e t' := ⟨fun pins s σ H R I q => h.run pins s σ H R I (i σ H R q)⟩
theorem piOr {X : Cx} {tg e : Expr} {t t' : TI} (h : PI X tg e t) (h' : PI X tg e t') : PI X tg e (fun σ H R => t σ H R ∨ t' σ H R) := ⟨fun pins s σ H R I q => q.elim (h.run pins s σ H R I) (h'.run pins s σ H R I)⟩
theorem peOr {X : Cx} {e : Expr} {t t' : TE} (h : PE X e t) (h' : PE X e t') : PE X e (fun σ H R => t σ H R ∨ t' σ H R) := ⟨fun pins s σ H R I q => q.elim (h.run pins s σ H R I) (h'.run pins s σ H R I)⟩
theorem ptOr {X : Cx} {e : Expr} {t t' : TT} (h : PT X e t) (h' : PT X e t') : PT X e (fun σ H R => t σ H R ∨ t' σ H R) := ⟨fun pins s σ H R I q => q.elim (h.run pins s σ H R I) (h'.run pins s σ H R I)⟩
theorem psOr {X : Cx} {e : Stmt} {t t' : TS} (h : PS X e t) (h' : PS X e t') : PS X e (fun D σ H => t D σ H ∨ t' D σ H) := ⟨fun pins s σ H D I q => q.elim (h.run pins s σ H D I) (h'.run pins s σ H D I)⟩

section
variable (K : PySem.W.Frag) (mg : Str → Option Value)
/-- what an expression's end gives -/
def Gd {α β : Type} (R : Zt → α → β → Prop) (Z0 : Zt) (W : WX) (σ : L2.St) (η : Env') (Z : Zt) (r : Res α) (Q : β → Hp → Prop) : Prop :=
  match r with
  | .stuck => False
  | .ok a μ' => ∀ Z' b, Stt K mg Z0 Z' μ' η σ → Ext Z Z' → R Z' a b → Q b Z'.H
  | .exc c fs μ' => ∀ Z' cls dx, Stt K mg Z0 Z' μ' η σ → Ext Z Z' → XRel K mg Z' c fs cls dx → W cls dx σ Z'.H
def tG {α β : Type} (R : Zt → α → β → Prop) (Z0 : Zt) (W : WX) (m : Env' → M α) : L2.St → Hp → (β → Hp → Prop) → Prop := fun σ H Q =>
  ∃ Z μ η, Z.H = H ∧ Stt K mg Z0 Z μ η σ ∧ Gd K mg R Z0 W σ η Z (m η μ) Q
abbrev tE (Z0 : Zt) (W : WX) (m : Env' → M D) : TE := tG K mg (Rel K mg) Z0 W m
abbrev tT (Z0 : Zt) (W : WX) (m : Env' → M Bool) : TT := tG K mg (fun _ (a b : Bool) => a = b) Z0 W m
abbrev tA (Z0 : Zt) (W : WX) (m : Env' → M (List D)) : TA := tG K mg (RelL K mg) Z0 W m
/-- a new list at p -/
def GdL (Z0 : Zt) (W : WX) (σ : L2.St) (η : Env') (Z : Zt) (r : Res (List D)) (Q : VK) : Prop :=
  match r with
  | .stuck => False
  | .ok ds μ' => ∀ Z' p xs, Stt K mg Z0 Z' μ' η σ → Ext Z Z' → RelL K mg Z' ds xs → Z'.H p = none → Q (.ref p) (upd Z'.H p (.lst xs))
  | .exc c fs μ' => ∀ Z' cls dx, Stt K mg Z0 Z' μ' η σ → Ext Z Z' → XRel K mg Z' c fs cls dx → W cls dx σ Z'.H
def tL (Z0 : Zt) (W : WX) (m : Env' → M (List D)) : TE := fun σ H Q =>
  ∃ Z μ η, Z.H = H ∧ Stt K mg Z0 Z μ η σ ∧ GdL K mg Z0 W σ η Z (m η μ) Q
abbrev SM := Env' → Wd → SRes
def GdS (Z0 : Zt) (W : WX) (Z : Zt) (r : SRes) (D : Ends) : Prop :=
  match r with
  | .stuck => False
  | .nx η' μ' => ∀ Z' σ', Stt K mg Z0 Z' μ' η' σ' → Mo Z Z' → D.nx σ' Z'.H
  | .rt d μ' => ∀ Z' v, Wk K mg Z' μ' → Ext Z0 Z' → Rel K mg Z' d v → D.rt v Z'.H
  | .bk η' μ' => ∀ Z' σ', Stt K mg Z0 Z' μ' η' σ' → Mo Z Z' → D.bk σ' Z'.H
  | .ct η' μ' => ∀ Z' σ', Stt K mg Z0 Z' μ' η' σ' → Mo Z Z' → D.ct σ' Z'.H
  | .exc c fs η' μ' => ∀ Z' σ' cls dx, Stt K mg Z0 Z' μ' η' σ' → Mo Z Z' → XRel K mg Z' c fs cls dx → W cls dx σ' Z'.H
def tS (Z0 : Zt) (W : WX) (m : SM) : TS := fun D σ H => ∃ Z μ η, Z.H = H ∧ Stt K mg Z0 Z μ η σ ∧ GdS K mg Z0 W Z (m η μ) D
end
def SM.seq (a b : SM) : SM := fun η μ => match a η μ with
  | .nx η' μ' => b η' μ'
  | r => r
def SM.of {α : Type} (m : Env' → M α) (k : α → SM) : SM := fun η μ => match m η μ with
  | .stuck => .stuck
  | .ok a μ' => k a η μ'
  | .exc c fs μ' => .exc c fs η μ'
def SM.skip : SM := fun η μ => .nx η μ

section
variable {K : PySem.W.Frag} {mg : Str → Option Value} {Z Z' Z0 : Zt} {μ μ' : Wd} {η : Env'} {σ : L2.St} {W : WX}
theorem Gd.shift {α β : Type} {R : Zt → α → β → Prop} {r : Res α} {Q : β → Hp → Prop} (x : Ext Z Z') (g : Gd K mg R Z0 W σ η Z r Q) : Gd K mg R Z0 W σ η Z' r Q := by
  cases r with
  | stuck => exact g
  | ok a w => exact fun Z2 b s e q => g Z2 b s (x.trans e) q
  | exc c fs w => exact fun Z2 cls dx s e q => g Z2 cls dx s (x.trans e) q
theorem GdL.shift {r : Res (List D)} {Q : VK} (x : Ext Z Z') (g : GdL K mg Z0 W σ η Z r Q) : GdL K mg Z0 W σ η Z' r Q := by
  cases r with
  | stuck => exact g
  | ok a w => exact fun Z2 p xs s e q n => g Z2 p xs s (x.trans e) q n
  | exc c fs w => exact fun Z2 cls dx s e q => g Z2 cls dx s (x.trans e) q
theorem GdS.shift {r : SRes} {D : Ends} (x : Mo Z Z') (g : GdS K mg Z0 W Z r D) : GdS K mg Z0 W Z' r D := by
  cases r with
  | stuck => exact g
  | nx a w => exact fun Z2 s2 s e => g Z2 s2 s (x.trans e)
  | rt d w => exact g
  | bk a w => exact fun Z2 s2 s e => g Z2 s2 s (x.trans e)
  | ct a w => exact fun Z2 s2 s e => g Z2 s2 s (x.trans e)
  | exc c fs a w => exact fun Z2 s2 cls dx s e q => g Z2 s2 cls dx s (x.trans e) q
/-- one after the other -/
theorem Gd.bind {α β γ δ : Type} {R : Zt → α → β → Prop} {S : Zt → γ → δ → Prop} {m : M α} {k : α → M γ} {Q : δ → Hp → Prop} {Q' : β → Hp → Prop} (g : Gd K mg S Z0 W σ η Z (M.bind m k μ) Q)
    (hk : ∀ Z' μ' a b, Stt K mg Z0 Z' μ' η σ → Ext Z Z' → R Z' a b → Gd K mg S Z0 W σ η Z' (k a μ') Q → Q' b Z'.H) : Gd K mg R Z0 W σ η Z (m μ) Q' := by
  unfold M.bind at g
  cases e : m μ with
  | stuck => rw [e] at g; exact g
  | ok a w =>
    rw [e] at g
    exact fun Z2 b s x r => hk Z2 w a b s x r (g.shift x)
  | exc c fs w => rw [e] at g; exact g
theorem Gd.bindL {α β : Type} {R : Zt → α → β → Prop} {m : M α} {k : α → M (List D)} {Q : VK} {Q' : β → Hp → Prop} (g : GdL K mg Z0 W σ η Z (M.bind m k μ) Q)
    (hk : ∀ Z' μ' a b, Stt K mg Z0 Z' μ' η σ → Ext Z Z' → R Z' a b → GdL K mg Z0 W σ η Z' (k a μ') Q → Q' b Z'.H) : Gd K mg R Z0 W σ η Z (m μ) Q' := by
  unfold M.bind at g
  cases e : m μ with
  | stuck => rw [e] at g; exact g
  | ok a w =>
    rw [e] at g
    exact fun Z2 b s x r => hk Z2 w a b s x r (g.shift x)
  | exc c fs w => rw [e] at g; exact g
theorem Gd.bindS {α β : Type} {R : Zt → α → β → Prop} {m : Env' → M α} {k : α → SM} {D : Ends} {Q' : β → Hp → Prop} (g : GdS K mg Z0 W Z (SM.of m k η μ) D)
    (hk : ∀ Z' μ' a b, Stt K mg Z0 Z' μ' η σ → Ext Z Z' → R Z' a b → GdS K mg Z0 W Z' (k a η μ') D → Q' b Z'.H) : Gd K mg R Z0 W σ η Z (m η μ) Q' := by
  unfold SM.of at g
  cases e : m η μ with
  | stuck => rw [e] at g; exact g
  | ok a w =>
    rw [e] at g
    exact fun Z2 b s x r => hk Z2 w a b s x r (g.shift x.toMo)
  | exc c fs w =>
    rw [e] at g
    exact fun Z2 cls dx s x r => g Z2 σ cls dx s x.toMo r
theorem GdL.bindS {m : Env' → M (List D)} {k : List D → SM} {D : Ends} {Q' : VK} (g : GdS K mg Z0 W Z (SM.of m k η μ) D)
    (hk : ∀ Z' μ' ds p xs, Stt K mg Z0 Z' μ' η σ → Ext Z Z' → RelL K mg Z' ds xs → Z'.H p = none → GdS K mg Z0 W Z' (k ds η μ') D → Q' (.ref p) (upd Z'.H p (.lst xs))) : GdL K mg Z0 W σ η Z (m η μ) Q' := by
  unfold SM.of at g
  cases e : m η μ with
  | stuck => rw [e] at g; exact g
  | ok a w =>
    rw [e] at g
    exact fun Z2 p xs s x r n => hk Z2 w a p xs s x r n (g.shift x.toMo)
  | exc c fs w =>
    rw [e] at g
    exact fun Z2 cls dx s x r => g Z2 σ cls dx s x.toMo r
/-- the end of a plain value -/
theorem Gd.pure {α β : Type} {R : Zt → α → β → Prop} {a : α} {b : β} {Q : β → Hp → Prop} (g : Gd K mg R Z0 W σ η Z (M.pure a μ) Q) (s : Stt K mg Z0 Z μ η σ) (r : R Z a b) : Q b Z.H := g Z b s (Ext.refl Z) r
/-- a new thing that is known as data -/
theorem Gd.new {d : D} {p : Addr} {o : HO} {Q : VK} (g : Gd K mg (Rel K mg) Z0 W σ η Z (M.pure d μ) Q) (s : Stt K mg Z0 Z μ η σ) (n : Z.H p = none)
    (r : Rel K mg ⟨upd Z.F p o, Z.ι, upd Z.H p o, Z.x⟩ d (.ref p)) : Q (.ref p) (upd Z.H p o) :=
  g ⟨upd Z.F p o, Z.ι, upd Z.H p o, Z.x⟩ (.ref p) (s.go (ext_new n s.wk) (wk_new n s.wk)) (ext_new n s.wk) r
theorem Gd.newTup {ds : List D} {vs : List V} {p : Addr} {Q : VK} (g : Gd K mg (Rel K mg) Z0 W σ η Z (M.pure (.tup ds) μ) Q) (s : Stt K mg Z0 Z μ η σ) (n : Z.H p = none) (r : RelL K mg Z ds vs) : Q (.ref p) (upd Z.H p (.tup vs)) :=
  g.new s n (.tup (.inl (.inl upd_same)) (r.mo (ext_new n s.wk).toMo))
theorem Gd.newLst {ds : List D} {vs : List V} {p : Addr} {Q : VK} (g : Gd K mg (Rel K mg) Z0 W σ η Z (M.pure (.lst ds) μ) Q) (s : Stt K mg Z0 Z μ η σ) (n : Z.H p = none) (r : RelL K mg Z ds vs) : Q (.ref p) (upd Z.H p (.lst vs)) :=
  g.new s n (.lst (.inl (.inl upd_same)) (r.mo (ext_new n s.wk).toMo))
/-- a new list, known as data from then on -/
theorem GdL.frz {m : M (List D)} {Q : VK} (g : Gd K mg (Rel K mg) Z0 W σ η Z (M.bind m (fun ds => M.pure (.lst ds)) μ) Q) : GdL K mg Z0 W σ η Z (m μ) Q := by
  unfold M.bind at g
  cases e : m μ with
  | stuck => rw [e] at g; exact g
  | ok ds w =>
    rw [e] at g
    exact fun Z2 p xs s x r n => Gd.newLst (g.shift x) s n r
  | exc c fs w => rw [e] at g; exact g
theorem pe_frz {X : Cx} {e : Expr} {m : Env' → M (List D)} (h : PE X e (tL K mg Z0 W m)) : PE X e (tE K mg Z0 W fun η => M.bind (m η) fun ds => M.pure (.lst ds)) :=
  peI h fun σ H Q ⟨Z, μ, η, e, s, g⟩ => ⟨Z, μ, η, e, s, GdL.frz g⟩

/-! ### slots -/
theorem Stt.setVal {d : D} {v : V} (s : Stt K mg Z0 Z μ η σ) (r : Rel K mg Z d v) (i : Nat) : Stt K mg Z0 Z μ (η.set i (.val d)) (σ.set i (some v)) := by
  refine ⟨s.wk, ⟨by simp [s.env.len], fun j t w h1 h2 => ?_, fun j k ds es a ne h1 h2 h3 => ?_, fun j ds a h1 h2 => ?_⟩, s.ext⟩
  · by_cases hj : i = j
    · subst hj
      rw [List.getElem?_set] at h1 h2
      simp only [if_true] at h1 h2
      split at h1
      · split at h2
        · cases h1; cases h2
          exact ⟨v, rfl, r⟩
        · cases h2
      · cases h1
    · rw [List.getElem?_set_ne hj] at h1 h2
      exact s.env.slot j t w h1 h2
  · by_cases hj : i = j
    · subst hj
      rw [List.getElem?_set] at h1
      simp only [if_true] at h1
      split at h1 <;> cases h1
    · by_cases hk : i = k
      · subst hk
        rw [List.getElem?_set] at h2
        simp only [if_true] at h2
        split at h2 <;> cases h2
      · rw [List.getElem?_set_ne hj] at h1 h3
        rw [List.getElem?_set_ne hk] at h2 ⊢
        exact s.env.apart j k ds es a ne h1 h2 h3
  · by_cases hj : i = j
    · subst hj
      rw [List.getElem?_set] at h1
      simp only [if_true] at h1
      split at h1 <;> cases h1
    · rw [List.getElem?_set_ne hj] at h1 h2
      exact s.env.young j ds a h1 h2
theorem Stt.setOwn {ds : List D} {xs : List V} {p : Addr} (s : Stt K mg Z0 Z μ η σ) (r : RelL K mg Z ds xs) (n : Z.H p = none) (i : Nat) :
    Stt K mg Z0 ⟨Z.F, Z.ι, upd Z.H p (.lst xs), Z.x⟩ μ (η.set i (.own ds)) (σ.set i (some (.ref p))) := by
  have x := ext_own (Z := Z) (o := .lst xs) n
  have s' := s.go x (wk_own n s.wk)
  have nF : Z.F p = none := by
    cases q : Z.F p with
    | none => rfl
    | some u => rw [s.wk.sub p u q] at n; cases n
  have n0 : Z0.H p = none := by
    cases q : Z0.H p with
    | none => rfl
    | some u =>
      obtain ⟨u', h'⟩ := s.ext.d p u q
      rw [n] at h'; cases h'
  have old : ∀ {j : Nat} {es : List D} {a : Addr}, η[j]? = some (.own es) → σ[j]? = some (some (.ref a)) → a ≠ p := fun {j es a} h1 h2 => by
    obtain ⟨b, xs, e1, hh, _⟩ := s.env.slot j _ _ h1 h2
    cases e1
    exact ne_of_none hh n
  refine ⟨s'.wk, ⟨by simp [s.env.len], fun j t w h1 h2 => ?_, fun j k ds' es a ne h1 h2 h3 h4 => ?_, fun j ds' a h1 h2 => ?_⟩, s'.ext⟩
  · by_cases hj : i = j
    · subst hj
      rw [List.getElem?_set] at h1 h2
      simp only [if_true] at h1 h2
      split at h1
      · split at h2
        · cases h1; cases h2
          exact ⟨p, xs, rfl, upd_same, r.mo x.toMo, nF, s.wk.ne_obj n⟩
        · cases h2
      · cases h1
    · rw [List.getElem?_set_ne hj] at h1 h2
      exact s'.env.slot j t w h1 h2
  · by_cases hj : i = j
    · subst hj
      rw [List.getElem?_set_ne ne] at h2 h4
      rw [List.getElem?_set] at h3
      simp only [if_true] at h3
      split at h3
      · cases h3
        exact old h2 h4 rfl
      · cases h3
    · rw [List.getElem?_set_ne hj] at h1 h3
      by_cases hk : i = k
      · subst hk
        rw [List.getElem?_set] at h4
        simp only [if_true] at h4
        split at h4
        · cases h4
          exact old h1 h3 rfl
        · cases h4
      · rw [List.getElem?_set_ne hk] at h2 h4
        exact s.env.apart j k ds' es a ne h1 h2 h3 h4
  · by_cases hj : i = j
    · subst hj
      rw [List.getElem?_set] at h2
      simp only [if_true] at h2
      split at h2
      · cases h2; exact n0
      · cases h2
    · rw [List.getElem?_set_ne hj] at h1 h2
      exact s.env.young j ds' a h1 h2
/-- an own list is known as data from now on -/
theorem Stt.freeze {i : Nat} {ds : List D} (s : Stt K mg Z0 Z μ η σ) (h : η[i]? = some (.own ds)) : ∃ Z', Z'.H = Z.H ∧ Mo Z Z' ∧ Stt K mg Z0 Z' μ (η.set i (.val (.lst ds))) σ := by
  have lt : i < η.length := (List.getElem?_eq_some_iff.mp h).1
  have lt' : i < σ.length := by rw [← s.env.len]; exact lt
  obtain ⟨a, xs, e1, hh, r, nF, nI⟩ := s.env.slot i _ _ h (List.getElem?_eq_getElem lt')
  have m : Mo Z ⟨upd Z.F a (.lst xs), Z.ι, Z.H, Z.x⟩ := ⟨fun b o q => by show upd Z.F a (.lst xs) b = some o; rw [upd_ne (ne_of_none q nF)]; exact q, fun _ _ q => q⟩
  have ea : σ[i]? = some (some (.ref a)) := by rw [List.getElem?_eq_getElem lt', e1]
  refine ⟨⟨upd Z.F a (.lst xs), Z.ι, Z.H, Z.x⟩, rfl, m, ⟨fun b o q => ?_, s.wk.len, s.wk.nd, fun k b o h1 h2 => ?_⟩, ⟨by simp [s.env.len], fun j t w h1 h2 => ?_, fun j k ds' es b ne h1 h2 h3 h4 => ?_, fun j ds' b h1 h2 => ?_⟩, ?_⟩
  · by_cases e : b = a
    · subst e
      have q' : upd Z.F b (.lst xs) b = some o := q
      rw [upd_same] at q'; cases q'
      exact hh
    · have q' : upd Z.F a (.lst xs) b = some o := q
      rw [upd_ne e] at q'
      exact s.wk.sub b o q'
  · obtain ⟨f, mm⟩ := s.wk.obj k b o h1 h2
    have ne : b ≠ a := fun e => nI (by rw [← e]; exact List.mem_of_getElem? h1)
    exact ⟨by show upd Z.F a (.lst xs) b = none; rw [upd_ne ne]; exact f, mm.mo m rfl⟩
  · by_cases hj : i = j
    · subst hj
      rw [List.getElem?_set] at h1
      simp only [if_true] at h1
      rw [if_pos lt] at h1
      cases h1
      rw [ea] at h2; cases h2
      exact ⟨.ref a, rfl, .lst (.inl (.inl upd_same)) (r.mo m)⟩
    · rw [List.getElem?_set_ne hj] at h1
      have q := s.env.slot j t w h1 h2
      cases t with
      | un => trivial
      | val d =>
        obtain ⟨y, e2, r2⟩ := q
        exact ⟨y, e2, r2.mo m⟩
      | own es =>
        obtain ⟨b, ys, e2, hb, rb, nb, ib⟩ := q
        subst e2
        have ne : b ≠ a := fun e => by
          subst e
          exact s.env.apart i j ds es b hj h h1 ea h2
        exact ⟨b, ys, rfl, hb, rb.mo m, by show upd Z.F a (.lst xs) b = none; rw [upd_ne ne]; exact nb, ib⟩
      | xc c fs =>
        obtain ⟨b, cls, d, e1, e2, r2⟩ := q
        exact ⟨b, cls, d, e1, e2, r2.step m fun _ _ hb => hb⟩
  · by_cases hj : i = j
    · subst hj
      rw [List.getElem?_set] at h1
      simp only [if_true] at h1
      rw [if_pos lt] at h1; cases h1
    · by_cases hk : i = k
      · subst hk
        rw [List.getElem?_set] at h2
        simp only [if_true] at h2
        rw [if_pos lt] at h2; cases h2
      · rw [List.getElem?_set_ne hj] at h1
        rw [List.getElem?_set_ne hk] at h2
        exact s.env.apart j k ds' es b ne h1 h2 h3 h4
  · by_cases hj : i = j
    · subst hj
      rw [List.getElem?_set] at h1
      simp only [if_true] at h1
      rw [if_pos lt] at h1; cases h1
    · rw [List.getElem?_set_ne hj] at h1
      exact s.env.young j ds' b h1 h2
  · have n0 := s.env.young i ds a h ea
    refine { f := fun b o q => m.f b o (s.ext.f b o q), i := fun k b q => m.i k b (s.ext.i k b q), nf := fun b o q => ?_, ni := s.ext.ni, h := s.ext.h, d := s.ext.d, x := s.ext.x }
    have ne : b ≠ a := ne_of_none q n0
    show upd Z.F a (.lst xs) b = _
    rw [upd_ne ne]
    exact s.ext.nf b o q
/-- an own list is written -/
theorem Stt.write {i : Nat} {ds es : List D} {a : Addr} {ys : List V} (s : Stt K mg Z0 Z μ η σ) (h : η[i]? = some (.own ds)) (ha : σ[i]? = some (some (.ref a))) (r : RelL K mg Z es ys) :
    Stt K mg Z0 ⟨Z.F, Z.ι, upd Z.H a (.lst ys), Z.x⟩ μ (η.set i (.own es)) σ := by
  have lt : i < η.length := (List.getElem?_eq_some_iff.mp h).1
  obtain ⟨a', xs, e1, hh, _, nF, nI⟩ := s.env.slot i _ _ h ha
  cases e1
  have n0 := s.env.young i ds a h ha
  have m : Mo Z ⟨Z.F, Z.ι, upd Z.H a (.lst ys), Z.x⟩ := ⟨fun _ _ q => q, fun _ _ q => q⟩
  refine ⟨⟨fun b o q => ?_, s.wk.len, s.wk.nd, fun k b o h1 h2 => ?_⟩, ⟨by simp [s.env.len], fun j t w h1 h2 => ?_, fun j k ds' fs b ne h1 h2 h3 h4 => ?_, fun j ds' b h1 h2 => ?_⟩, ?_⟩
  · have q' := s.wk.sub b o q
    show upd Z.H a (.lst ys) b = some o
    rw [upd_ne (ne_of_none q nF)]; exact q'
  · obtain ⟨f, mm⟩ := s.wk.obj k b o h1 h2
    have ne : b ≠ a := fun e => nI (by rw [← e]; exact List.mem_of_getElem? h1)
    exact ⟨f, mm.mo m (by show upd Z.H a (.lst ys) b = Z.H b; rw [upd_ne ne])⟩
  · by_cases hj : i = j
    · subst hj
      rw [List.getElem?_set] at h1
      simp only [if_true] at h1
      rw [if_pos lt] at h1
      cases h1
      rw [ha] at h2; cases h2
      exact ⟨a, ys, rfl, upd_same, r.mo m, nF, nI⟩
    · rw [List.getElem?_set_ne hj] at h1
      have q := s.env.slot j t w h1 h2
      cases t with
      | un => trivial
      | val d =>
        obtain ⟨y, e2, r2⟩ := q
        exact ⟨y, e2, r2.mo m⟩
      | own fs =>
        obtain ⟨b, zs, e2, hb, rb, nb, ib⟩ := q
        subst e2
        have ne : b ≠ a := fun e => by
          subst e
          exact s.env.apart i j ds fs b hj h h1 ha h2
        exact ⟨b, zs, rfl, by show upd Z.H a (.lst ys) b = _; rw [upd_ne ne]; exact hb, rb.mo m, nb, ib⟩
      | xc c fs =>
        obtain ⟨b, cls, d, e1, e2, r2⟩ := q
        refine ⟨b, cls, d, e1, e2, r2.step m fun k vs hb => ?_⟩
        show upd Z.H a (.lst ys) k = _
        rw [upd_ne (ne_of hb hh (by intro z; cases z))]
        exact hb
  · have get : ∀ {j : Nat} {gs : List D}, (η.set i (.own es))[j]? = some (.own gs) → ∃ gs', η[j]? = some (.own gs') := fun {j gs} q => by
      by_cases hj : i = j
      · subst hj; exact ⟨ds, h⟩
      · rw [List.getElem?_set_ne hj] at q; exact ⟨gs, q⟩
    obtain ⟨_, g1⟩ := get h1
    obtain ⟨_, g2⟩ := get h2
    exact s.env.apart j k _ _ b ne g1 g2 h3 h4
  · have get : ∀ {j : Nat} {gs : List D}, (η.set i (.own es))[j]? = some (.own gs) → ∃ gs', η[j]? = some (.own gs') := fun {j gs} q => by
      by_cases hj : i = j
      · subst hj; exact ⟨ds, h⟩
      · rw [List.getElem?_set_ne hj] at q; exact ⟨gs, q⟩
    obtain ⟨_, g1⟩ := get h1
    exact s.env.young j _ b g1 h2
  · refine { f := s.ext.f, i := s.ext.i, nf := s.ext.nf, ni := s.ext.ni, h := fun b o q n => ?_, d := fun b o q => ?_, x := s.ext.x }
    · show upd Z.H a (.lst ys) b = some o
      rw [upd_ne (ne_of_none q n0)]; exact s.ext.h b o q n
    · obtain ⟨o', h'⟩ := s.ext.d b o q
      exact ⟨o', by show upd Z.H a (.lst ys) b = some o'; rw [upd_ne (ne_of_none q n0)]; exact h'⟩
theorem Stt.un (s : Stt K mg Z0 Z μ η σ) (i : Nat) (v : Option V) : Stt K mg Z0 Z μ (η.set i .un) (σ.set i v) := by
  refine ⟨s.wk, ⟨by simp [s.env.len], fun j t w h1 h2 => ?_, fun j k ds es a ne h1 h2 h3 => ?_, fun j ds a h1 h2 => ?_⟩, s.ext⟩
  · by_cases hj : i = j
    · subst hj
      rw [List.getElem?_set] at h1
      simp only [if_true] at h1
      split at h1
      · cases h1; trivial
      · cases h1
    · rw [List.getElem?_set_ne hj] at h1 h2
      exact s.env.slot j t w h1 h2
  · by_cases hj : i = j
    · subst hj
      rw [List.getElem?_set] at h1
      simp only [if_true] at h1
      split at h1 <;> cases h1
    · by_cases hk : i = k
      · subst hk
        rw [List.getElem?_set] at h2
        simp only [if_true] at h2
        split at h2 <;> cases h2
      · rw [List.getElem?_set_ne hj] at h1 h3
        rw [List.getElem?_set_ne hk] at h2 ⊢
        exact s.env.apart j k ds es a ne h1 h2 h3
  · by_cases hj : i = j
    · subst hj
      rw [List.getElem?_set] at h1
      simp only [if_true] at h1
      split at h1 <;> cases h1
    · rw [List.getElem?_set_ne hj] at h1 h2
      exact s.env.young j ds a h1 h2
end
end Dn

/-! Dn 3: a def's promise by its den; calls; the law's end. (The proofs of fng_of, run_fng, law_callG follow those of the hand layer for FnOk; here the frames' guards are told, too.) -/
namespace Dn
open PySem PySem.Spec PyProof.Rows L2

theorem guards_deeper {A : Around} {env : PySem.Env} (h : A.guards = some []) : (A.deeper env).guards = some [] := by
  first
    | exact h
    | (show (Around.deeper A env).guards = some []
       simp [Around.deeper, h, pushGuards])

structure FnG (P : Program) (w : World) (K : PySem.W.Frag) (mg : Str → Option Value) (base : Heap) (k : Nat) (f : Addr) (n : Nat) (sp : Sp) : Prop where
  len : ∀ vs H Q E, sp vs H Q E → vs.length = n
  run : ∀ (A : Around) (outer : List PySem.Env) (s : Shared) (H : Hp) (us : List Value) (vs : List V) (Q : VK) (E : XK), Room k A → A.guards = some [] → Env0 P w K mg base A outer s H → Vals vs us → sp vs H Q E →
    codeAny (model P w) A (.call (.ref f) ⟨us, []⟩) (CR (L2.CX P w) outer P w H s Q E) s
theorem FnG.mono {P : Program} {w : World} {K : PySem.W.Frag} {mg : Str → Option Value} {base : Heap} {j k : Nat} {f : Addr} {n : Nat} {sp : Sp} (F : FnG P w K mg base j f n sp) (h : j ≤ k) : FnG P w K mg base k f n sp :=
  ⟨F.len, fun A outer s H us vs Q E hr => F.run A outer s H us vs Q E (hr.mono h)⟩
theorem FnG.imp {P : Program} {w : World} {K : PySem.W.Frag} {mg : Str → Option Value} {base : Heap} {k : Nat} {f : Addr} {n : Nat} {sp sp' : Sp} (F : FnG P w K mg base k f n sp) (h : ∀ vs H Q E, sp' vs H Q E → sp vs H Q E) : FnG P w K mg base k f n sp' :=
  ⟨fun vs H Q E q => F.len vs H Q E (h _ _ _ _ q), fun A outer s H us vs Q E hr hg he hv hs => F.run A outer s H us vs Q E hr hg he hv (h _ _ _ _ hs)⟩

section
variable {P : Program} {w : World} {K : PySem.W.Frag} {mg : Str → Option Value} {base : Heap}
theorem fng_of {x qual : Str} {st : Stmt} {f : Addr} {fd : FuncData} {N ps : List Str} {k : Nat} {sp : Sp} (F : Fun K x qual st f fd) (S : FnScope N ps (defScope st)) (hb : Binds K fd ps []) (len : ∀ vs H Q E, sp vs H Q E → vs.length = ps.length)
    (hbody : ∀ (cdv : Value) (A : Around) (outer : List PySem.Env) (s : Shared) (H : Hp) (vs : List V) (Q : VK) (E : XK), Room k (A.deeper (envOfC qual (defScope st) s.heap.objs.size f cdv)) → A.guards = some [] → sp vs H Q E →
      ∃ t, PSs (cxOf (L2.CX P w) P w K mg base N qual (defScope st) f cdv A outer s H E) (defBody st) t ∧ t { nx := fun _ H' => Q .non H', rt := Q } (L2.start N vs) H) : FnG P w K mg base (k + 1) f ps.length sp := by
  obtain ⟨oc, od, kV, doc, pm, an, cdv, ct, osl, rfl, lk, hcd⟩ := F.ex
  refine ⟨len, fun A outer s H us vs Q E hr hgd e0 r hsp => ?_⟩
  have hl := len _ _ _ _ hsp
  have KX : K.In s.heap := e0.mod.kin.keeps fun b o e => (e0.bs b o e).1
  have lim : s.heap.NoLimit := e0.mod.nolimit.keeps fun b o e => (e0.bs b o e).1
  have hus : us.length = ps.length := by rw [← r.length]; exact hl
  have b := hb s us KX (by rw [List.append_nil]; exact hus)
  rw [List.append_nil] at b
  have hkind : ∀ y ∈ ps.zip us, (defScope st).names.lookup y.1 = some .local ∨ ((defScope st).names.lookup y.1 = some .cell ∧ ((cellsFrom (s.heap.objs.size + 1) (defScope st).names []).lookup y.1).isSome = true) := fun ⟨n, v⟩ hy => by
    rcases S.par n (List.of_mem_zip hy).1 with q | q
    · exact .inl q
    · exact .inr ⟨q, PySem.W.cellsFrom_some _ _ _ (.inl q)⟩
  refine codeAny_call_function hr.depth (KX _ _ lk) rfl S.co S.gen rfl (PySem.W.codeRec_of KX hcd) (b _ _ _ _ ?_)
  refine wpAny_newFunctionEnv_cells S.kind hkind fun env he s1 x => ?_
  subst he
  refine ⟨lim.keeps x.toInCall.keep, codeAny_func ?_⟩
  obtain ⟨t, ht, hq⟩ := hbody cdv A outer s H vs Q E (hr.deeper _) hgd hsp
  have I : Inv (cxOf (L2.CX P w) P w K mg base N qual (defScope st) f cdv A outer s H E) [] (L2.start N vs) H s1 := inv_start S hr.hd e0 hl r x
  refine wpAny_mono (ht.run [] s1 (L2.start N vs) H _ I hq) (fun fl s' hs => ?_) fun e s' hs => hs
  have fin : ∀ {σ' : L2.St} {H' : Hp} {v : V} {u : Value}, Inv (cxOf (L2.CX P w) P w K mg base N qual (defScope st) f cdv A outer s H E) [] σ' H' s' → RelV v u → Q v H' → CE outer P w H s Q u s' :=
    fun {σ' H' v u} J rv q => ⟨v, H', J.os, J.bare, J.base, J.hok, rv, q⟩
  cases fl with
  | ret u =>
    obtain ⟨v, σ', H', J, rv, q⟩ := hs
    exact fin J rv q
  | next =>
    obtain ⟨σ', H', J, q⟩ := hs
    exact fin (v := V.non) (u := Value.none) J rfl q
  | brk =>
    obtain ⟨_, _, _, q⟩ := hs
    exact False.elim q
  | cont =>
    obtain ⟨_, _, _, q⟩ := hs
    exact False.elim q
end
section
variable {X : Cx} {k n : Nat} {f : Addr} {sp : Sp} {E : L2.St → XK} {x : Str} {p pos : Pos} {e : Expr} {es : List Expr} {t : TA}
theorem run_fng {pins : List (Addr × Obj)} {σ : L2.St} {H : Hp} {s : Shared} {Q : VK} {us : List Value} {vs : List V} (F : FnG X.prog X.w X.K X.mg X.base k f n sp) (hr : Room k X.A) (hgd : X.A.guards = some []) (hx : PassesAt (L2.CX X.prog X.w) X σ (E σ))
    (I : Inv X pins σ H s) (r : Vals vs us) (h : sp vs H Q (E σ)) : wpAny (model X.prog X.w) X.A (call (.ref f) us) (EP X pins σ Q) X.xe s := by
  refine wpAny_call (codeAny_mono (F.run X.A X.stack s H us vs Q (E σ) hr hgd I.env0 r h) fun r s' hq => ?_)
  cases r with
  | error e => exact hx pins H s e s' I hq
  | ok fl =>
    cases fl with
    | ret u => exact I.after hq
    | next => exact False.elim hq
    | brk => exact False.elim hq
    | cont => exact False.elim hq
theorem pe_callG (F : FnG X.prog X.w X.K X.mg X.base k f n sp) (hr : Room k X.A) (hgd : X.A.guards = some []) (hg : Gl X x) (hm : X.mg x = some (.ref f)) (hk : PySem.W.keepIn X.K (.ref f) = true) (hx : ∀ σ, PassesAt (L2.CX X.prog X.w) X σ (E σ))
    (ha : PA X (e :: es) t) (hdb : (x == ("__debug__" : Str)) = false) (he : starEach (e :: es) X.env = (false, eval e X.env) :: starEach es X.env) (hpl : (backTo pos (starEach es X.env)).any (·.1) = false) :
    PE X (.Call (.Name x p) (e :: es) [] pos) (tCallS sp E t) := by
  refine ⟨fun pins s σ H Q I h => ?_⟩
  refine wpAny_Call_Name_kw (ld_glob I hg hm ?_ hdb)
  refine PySem.W.callWith_K (h₀ := X.base) I.ok.mod.kin hk (thn (ha.run pos pins s σ H _ I h) fun us s1 ⟨vs, H1, I1, r, q⟩ => ⟨I1.kIn, ?_⟩) he hpl
  exact run_fng F hr hgd (hx σ) I1 r q
end

/-! ### the promise -/
section
variable (K : PySem.W.Frag) (mg : Str → Option Value)
def GdF (Z : Zt) (r : Res D) (Q : VK) (E : XK) : Prop :=
  match r with
  | .stuck => False
  | .ok d μ' => ∀ Z' v, Wk K mg Z' μ' → Ext Z Z' → Rel K mg Z' d v → Q v Z'.H
  | .exc c fs μ' => ∀ Z' cls dx, Wk K mg Z' μ' → Ext Z Z' → XRel K mg Z' c fs cls dx → E cls dx Z'.H
def spOf (n : Nat) (m : List D → M D) : Sp := fun vs H Q E => ∃ Z μ ds, Z.H = H ∧ Wk K mg Z μ ∧ RelL K mg Z ds vs ∧ ds.length = n ∧ Z.x = none ∧ GdF K mg Z (m ds μ) Q E
end
/-- a def's den, from its body's -/
def fnDen (n slots : Nat) (b : SM) : List D → M D := fun ds μ =>
  if ds.length = n then
    match b (ds.map .val ++ List.replicate (slots - n) .un) μ with
    | .nx _ w => .ok .non w
    | .rt d w => .ok d w
    | .exc c fs _ w => .exc c fs w
    | _ => .stuck
  else .stuck
section
variable {K : PySem.W.Frag} {mg : Str → Option Value} {Z Z0 : Zt} {μ : Wd}
theorem stt_start {N : List Str} {ds : List D} {vs : List V} (wk : Wk K mg Z μ) (r : RelL K mg Z ds vs) (hl : ds.length ≤ N.length) : Stt K mg Z Z μ (ds.map .val ++ List.replicate (N.length - ds.length) .un) (L2.start N vs) := by
  have hlen := r.length
  have noOwn : ∀ {i : Nat} {es : List D}, (ds.map Slot.val ++ List.replicate (N.length - ds.length) Slot.un)[i]? = some (.own es) → False := fun {i es} h => by
    rcases List.mem_append.mp (List.mem_of_getElem? h) with q | q
    · obtain ⟨_, _, q⟩ := List.mem_map.mp q; cases q
    · have := (List.mem_replicate.mp q).2; cases this
  refine ⟨wk, ⟨?_, fun i s v h1 h2 => ?_, fun i j ds' es a _ h1 => (noOwn h1).elim, fun i ds' a h1 => (noOwn h1).elim⟩, Ext.refl Z⟩
  · unfold L2.start
    simp only [List.length_append, List.length_map, List.length_replicate]
    omega
  · by_cases hi : i < ds.length
    · rw [List.getElem?_append_left (by simpa using hi), List.getElem?_map, List.getElem?_eq_getElem hi] at h1
      cases h1
      unfold L2.start at h2
      rw [List.getElem?_append_left (by rw [List.length_map]; omega), List.getElem?_map] at h2
      obtain ⟨y, e1, e2⟩ := r.get (List.getElem?_eq_getElem hi)
      rw [e1] at h2
      cases h2
      exact ⟨y, rfl, e2⟩
    · rw [List.getElem?_append_right (by simpa using hi), List.getElem?_replicate] at h1
      split at h1
      · cases h1; trivial
      · cases h1
end
/-- a def by its body -/
theorem fn_den {P : Program} {w : World} {K : PySem.W.Frag} {mg : Str → Option Value} {base : Heap} {x qual : Str} {st : Stmt} {f : Addr} {fd : FuncData} {N ps : List Str} {k : Nat} {b : SM} (F : Fun K x qual st f fd) (S : FnScope N ps (defScope st)) (hb : Binds K fd ps [])
    (hbody : ∀ (cdv : Value) (A : Around) (outer : List PySem.Env) (s : Shared) (H : Hp) (E : XK) (Z0 : Zt), Z0.x = none → Room k (A.deeper (envOfC qual (defScope st) s.heap.objs.size f cdv)) → A.guards = some [] →
      PSs (cxOf (L2.CX P w) P w K mg base N qual (defScope st) f cdv A outer s H E) (defBody st) (tS K mg Z0 (fun cls d _ H => E cls d H) b)) : FnG P w K mg base (k + 1) f ps.length (spOf K mg ps.length (fnDen ps.length N.length b)) := by
  have hpl : ps.length ≤ N.length := by have := congrArg List.length S.pre; rw [List.length_take] at this; omega
  refine fng_of F S hb (fun vs H Q E ⟨Z, μ, ds, _, _, r, hl, _⟩ => by rw [← r.length]; exact hl) fun cdv A outer s H vs Q E hr hgd ⟨Z, μ, ds, eH, wk, r, hl, hx0, g⟩ => ?_
  refine ⟨_, hbody cdv A outer s H E Z hx0 hr hgd, Z, μ, ds.map .val ++ List.replicate (N.length - ds.length) .un, eH, stt_start wk r (by omega), ?_⟩
  unfold fnDen at g
  rw [if_pos hl] at g
  rw [hl]
  cases e : b (ds.map .val ++ List.replicate (N.length - ps.length) .un) μ with
  | stuck => rw [e] at g; exact g
  | nx η' μ' => rw [e] at g; exact fun Z' σ' s _ => g Z' .non s.wk s.ext .non
  | rt d μ' => rw [e] at g; exact fun Z' v w x r => g Z' v w x r
  | bk η' μ' => rw [e] at g; exact g.elim
  | ct η' μ' => rw [e] at g; exact g.elim
  | exc c fs η' μ' => rw [e] at g; exact fun Z' σ' cls dx s _ r => g Z' cls dx s.wk s.ext r

/-! ### the law's end -/
theorem law_callG {P : Program} {w : World} {K : PySem.W.Frag} {mg mb : Str → Option Value} {k : Nat} {fa a : Addr} {sp : Sp} {s₁ : Shared} {vs : List Value} {ns : List Int}
    (KX : K.In s₁.heap) (hns : s₁.heap.Ns mainGlobals mg) (hb : s₁.heap.Ns builtinsNs mb) (hbb : ∀ x : Str, x ≠ "__name__" → mb x = bootBuiltins x) (hlim : s₁.heap.NoLimit) (hg : s₁.gens = #[])
    (ha : s₁.heap.get? a = some { cls := .type "list", data := .seq vs.toArray }) (hi : IntsAre vs ns) (hl : ns.length ≤ sizeLine) (hr : Room k callerA)
    (F : ∀ base : Heap, K.In base → base.Ns mainGlobals mg → FnG P w K mg base k fa 1 sp)
    (hsp : ∀ H : Hp, Only H → SqL K H a (ns.map V.int) → sp [.ref a] H (fun v _ => v = .bl true) fun _ _ _ => False) :
    codeAny (model P w) callerA (.call (.ref fa) ⟨[.ref a], []⟩) (fun r s' => r = .ok (.ret (.bool true)) ∧ OldK s₁.heap s'.heap ∧ s'.os = s₁.os ∧ AllBare s'.gens) s₁ := by
  have rv := vals_ints hi
  have lenV := hi.length
  have hCX : ∀ H e s', L2.CX P w [] H s₁ (fun _ _ _ => False) e s' → False := fun H e s' h => by
    obtain ⟨_, _, _, _, _, _, _, _, _, _, _, _, z⟩ := h
    exact z
  have core : ∀ H : Hp, Only H → SqL K H a (ns.map V.int) → HOk P w H s₁.heap → (∀ b, H b ≠ none → b = a) → (H a ≠ none → K.lookup a = none) →
      codeAny (model P w) callerA (.call (.ref fa) ⟨[.ref a], []⟩) (fun r s' => r = .ok (.ret (.bool true)) ∧ OldK s₁.heap s'.heap ∧ s'.os = s₁.os ∧ AllBare s'.gens) s₁ := by
    intro H hO hS hok hA hK
    have base_of : ∀ {b : Addr} {o : Obj}, s₁.heap.get? b = some o → H b = none → (hidT s₁.heap H).get? b = some o := fun e n => hidT_get e n
    have noA : ∀ {b : Addr} {o : Obj} {es : Array DictEntry} {ep : Nat}, s₁.heap.get? b = some o → o.data = .dict es ep → H b = none := fun {b o es ep} e d => by
      cases q : H b with
      | none => rfl
      | some u =>
        have e' : b = a := hA b (by rw [q]; simp)
        subst e'
        rw [ha] at e; cases e
        have d' : Data.seq vs.toArray _ = Data.dict es ep := d
        cases d'
    have nsK : ∀ {b : Addr} {m : Str → Option Value}, s₁.heap.Ns b m → (hidT s₁.heap H).Ns b m := fun {b m} ⟨o, es, ep, e, d, r⟩ => ⟨o, es, ep, base_of e (noA e d), d, r⟩
    have hKb : K.In (hidT s₁.heap H) := fun b o e => base_of (KX b o e) (by
      cases q : H b with
      | none => rfl
      | some u =>
        have e' : b = a := hA b (by rw [q]; simp)
        subst e'
        rw [hK (by rw [q]; simp)] at e; cases e)
    have hM : Mod K mg (hidT s₁.heap H) := ⟨hKb, nsK hns, ⟨mb, nsK hb, hbb⟩, let ⟨mc, h1, h2⟩ := hlim; ⟨mc, nsK h1, h2⟩⟩
    have e0 : Env0 P w K mg (hidT s₁.heap H) callerA [] s₁ H := ⟨rfl, hM, fun b o e => of_hidT e, Nat.le_of_eq (hidT_size _ _), trivial, fun b hb => absurd (show b ∈ ([] : List Addr) from hb) (by simp), hok, .of_eq hg⟩
    refine codeAny_mono ((F _ hKb (nsK hns)).run callerA [] s₁ H [.ref a] [.ref a] _ _ hr rfl e0 (.cons rfl .nil) (hsp H hO hS)) fun r s' h => ?_
    cases r with
    | error e => exact (hCX H e s' h).elim
    | ok fl =>
      cases fl with
      | next => exact False.elim h
      | brk => exact False.elim h
      | cont => exact False.elim h
      | ret u =>
        obtain ⟨v, H', os, bare, un, hok', r', q⟩ := h
        have q' : v = .bl true := q
        subst q'
        obtain rfl : u = Value.bool true := r'
        refine ⟨rfl, OldK.of_keep fun b o e => ?_, os, bare⟩
        cases q : H b with
        | none => exact un.keep b o e q (by intro z; exact absurd (show b ∈ ([] : List Addr) from z) (by simp)) (by simp)
        | some u =>
          rcases hO b with z | ⟨ob, xs, z⟩
          · rw [q] at z; cases z
          · have z2 := un.frzs b ob _ z
            obtain ⟨e1, _⟩ := hok b _ z
            obtain ⟨e2, _⟩ := hok' b _ z2
            rw [e] at e1; cases e1
            exact e2
  cases hk : K.lookup a with
  | some o =>
    have e := KX a o hk
    rw [ha] at e
    cases e
    refine core (fun _ => none) (fun _ => .inl rfl) (.inr ⟨_, vs.toArray, _, hk, rfl, rfl, rfl, by rw [List.size_toArray, lenV]; exact hl, by simpa using rv⟩) (fun b u z => by have z' : (none : Option HO) = some u := z; cases z') (fun b z => absurd rfl z) fun z => absurd rfl z
  | none =>
    refine core (fun b => if b = a then some (.frz { cls := .type "list", data := .seq vs.toArray } (.lst (ns.map V.int))) else none) (fun b => ?_) (.inl (.inr ⟨{ cls := .type "list", data := .seq vs.toArray }, if_pos rfl⟩)) (fun b u z => ?_) (fun b z => ?_) fun _ => hk
    · by_cases hb : b = a
      · exact .inr ⟨_, _, if_pos hb⟩
      · exact .inl (if_neg hb)
    · by_cases hb : b = a
      · have z' := (if_pos hb).symm.trans z
        cases z'
        subst hb
        exact ⟨ha, by rw [List.length_map]; exact hl, vs, _, rv, ha⟩
      · have z' := (if_neg hb).symm.trans z
        cases z'
    · by_cases hb : b = a
      · exact hb
      · exact absurd (if_neg hb) z
/-- the goal that k_head leaves -/
theorem walk_ofG {l : PySem.W.OpenLaw} {n k : Nat} {q : Program} {loose : List Str} {XP : (Str → Option Value) → Heap → Prop} {YP : World → Heap → Prop} {d : DefRec} {K : Params → PySem.W.Frag} {m : List D → M D}
    (hn : l.most = some n) (hn2 : n ≤ sizeLine) (hdf : d.params.defaults = []) (hr : Room k callerA)
    (hY : ∀ (w : World) (h : Heap), YP w h → (K w.params).In h)
    (F : ∀ (w : World) (mg : Str → Option Value) (fa : Addr) (h : Heap), (K w.params).In h → h.Ns mainGlobals mg → mg d.name = some (.ref fa) →
        ∀ base : Heap, (K w.params).In base → base.Ns mainGlobals mg → FnG l.prog w (K w.params) mg base k fa 1 (spOf (K w.params) mg 1 m))
    (hm : ∀ ns : List Int, ns.length ≤ n → ∃ μ, m [.lst (ns.map .int)] [] = .ok (.bl true) μ) :
    PySem.W.WalkO q loose XP YP l.row.toRowW d [] (fun f vs => PySem.call f vs) := by
  refine Att.attach_call hn hdf fun w s₀ s₁ mg mb fa o pm cd doc a vs ns G Y ho hd hcd hmg hobj hints hlen hg => ?_
  have KX := hY w _ Y
  refine law_callG KX G.T.g G.T.b G.T.builtins G.T.nolimit hg hobj hints (Nat.le_trans hlen hn2) hr (F w mg fa _ KX G.T.g hmg) fun H hO hS => ?_
  obtain ⟨μ, e⟩ := hm ns hlen
  have rl : ∀ ns : List Int, RelL (K w.params) mg ⟨H, [], H, none⟩ (ns.map .int) (ns.map V.int) := by
    intro ns
    induction ns with
    | nil => exact .nil
    | cons i r ih => exact .cons (.int i) ih
  refine ⟨⟨H, [], H, none⟩, [], [.lst (ns.map .int)], rfl, ⟨fun _ _ h => h, rfl, List.nodup_nil, fun n a o h => by simp at h⟩, .cons (.lst hS (rl ns)) .nil, rfl, rfl, ?_⟩
  rw [e]
  intro Z' v _ _ r
  cases r
  rfl
end Dn

/-! Dn 4: a core syntax, its den, and the look that holds it against the program's own syntax. -/
namespace Dn
open PySem PySem.Spec PyProof.Rows L2

/-- a target: a slot, or a tuple of targets -/
inductive Tg where
  | nm (i : Nat)
  | tp (is : List Nat)
  | tt (i : Nat) (is : List Nat)
/-- built-in functions -/
inductive Bf where
  | len | int | str | abs | max | min | repr | gcd | all | any | sum | tuple
  deriving DecidableEq
def Bf.name : Bf → Str
  | .len => "len" | .int => "int" | .str => "str" | .abs => "abs" | .max => "max" | .min => "min" | .repr => "repr" | .gcd => "gcd"
  | .all => "all" | .any => "any" | .sum => "sum" | .tuple => "tuple"
inductive Ex where
  | cst (c : Const) | var (i : Nat) | glf (x : Str) | glc (x : Str)
  | bin (op : Operator) (a b : Ex) | neg (a : Ex)
  | cmp (op : CmpOp) (a b : Ex) | chn (o1 o2 : CmpOp) (a b c : Ex)
  | bop (k : Bool) (as : Ex) | nt (a : Ex) | ite (t a b : Ex)
  | tup (as : Ex) | lst (as : Ex)
  | ix (a i : Ex) | slc (a lo hi : Ex) | no
  | call (f : Str) (as : Ex) | blt (f : Bf) (as : Ex) | lsl (a : Ex) | isi (a : Ex) (ts : List String)
  | lc (elt : Ex) (tg : Tg) (it : Ex) (ifs : Ex)
  | rg1 (a : Ex) | rg2 (a b : Ex) | zp (a b : Ex) | enm (a : Ex)
  | owx (i : Nat) (e : Ex) | owl (i : Nat) | owt (i : Nat)
  | xat (i : Nat) (f : Str)
  | mkx (c : Str) (as : Ex) | mk0 (c : Str) | fld (a : Ex) (f : Str) | isx (a : Ex) (c : Str)
  | dsp (as : Ex) | lrg (a b : Ex) | rep (as k : Ex)
  | dcl (k v : Ex) (tg : Tg) (it : Ex)
  | nil | cons (a b : Ex)
inductive Sm where
  | skip | exp (e : Ex) | set (i : Nat) (e : Ex) | setL (i : Nat) (e : Ex)
  | unp (tg : Tg) (e : Ex) | par (is : List Nat) (as : Ex) | aug (i : Nat) (op : Operator) (e : Ex)
  | app (i : Nat) (e : Ex) | ext (i : Nat) (e : Ex) | seto (i : Nat) (k e : Ex) | dset (o k e : Ex)
  | ite (t : Ex) (a b : Sm) | for_ (tg : Tg) (it : Ex) (body : Sm) | whl (t : Ex) (body : Sm)
  | ret (e : Ex) | retn | rai (c : Str) (as : Ex) | try_ (body : Sm) (hs : Sm)
  | hdl (c : Str) (i : Option Nat) (body rest : Sm)
  | brk | cnt | frz (i : Nat)
  | nil | cons (a b : Sm)

/-! ### data -/
mutual
def D.py : D → Option PyData
  | .non => some .none
  | .bl b => some (.bool b)
  | .int i => some (.int i)
  | .str s => some (.str s)
  | .tup l => (D.pys l).map .tuple
  | .lst l => (D.pys l).map .list
  | .ref _ => none
  | .glo _ => none
  | .exn _ _ _ => none
def D.pys : List D → Option (List PyData)
  | [] => some []
  | d :: r => match D.py d, D.pys r with
    | some p, some q => some (p :: q)
    | _, _ => none
end
def cstD : Const → Option D
  | .none => some .non
  | .bool b => some (.bl b)
  | .int i => some (.int i)
  | .str s => some (.str s)
  | _ => none
def M.opt {α : Type} : Option α → M α
  | some a => M.pure a
  | none => M.fail
def truO : D → Option Bool
  | .non => some false
  | .bl b => some b
  | .int i => some (i != 0)
  | .str s => if s.length ≤ sizeLine then some (s.length != 0) else none
  | .tup l => some (!l.isEmpty)
  | .lst l => some (!l.isEmpty)
  | _ => none
def itemsO : D → Option (List D)
  | .tup l => some l
  | .lst l => some l
  | .str s => some (s.cps.toList.map fun c => .str ⟨#[c]⟩)
  | _ => none
def addO : D → D → Option D
  | .int i, .int j => some (.int (i + j))
  | .str s, .str t => if s.length + t.length ≤ sizeLine then some (.str (s ++ t)) else none
  | .tup l, .tup r => if l.length + r.length ≤ sizeLine ∧ l ≠ [] then some (.tup (l ++ r)) else none
  | .lst l, .lst r => if l.length + r.length ≤ sizeLine then some (.lst (l ++ r)) else none
  | _, _ => none
def binO (op : Operator) (a b : D) : Option D :=
  match op with
  | .Add => addO a b
  | .Sub => match a, b with | .int i, .int j => some (.int (i - j)) | _, _ => none
  | .Mult => match a, b with
    | .int i, .int j => if i.natAbs.log2 + j.natAbs.log2 < 1000000 then some (.int (i * j)) else none
    | _, _ => none
  | .FloorDiv => match a, b with
    | .int i, .int j => if (j ≠ 0 ∧ j.natAbs < 1073741824) ∨ (0 < j ∧ j.natAbs.log2 < 9000) then some (.int (i.fdiv j)) else none
    | _, _ => none
  | .Mod => match a, b with | .int i, .int j => if j ≠ 0 then some (.int (i.fmod j)) else none | _, _ => none
  | .Pow => match a, b with | .int i, .int j => if 0 ≤ j ∧ j ≤ 1000000 ∧ i.natAbs < 2 ^ 64 then some (.int (i ^ j.toNat)) else none | _, _ => none
  | _ => none
def eqP (a b : D) : Option Bool :=
  match a.py, b.py with
  | some p, some q => if SeqAt.shaped p = true ∧ SeqAt.shaped q = true then some (PyData.eqv p q) else none
  | _, _ => none
def eqO (a b : D) : Option Bool :=
  match a, b with
  | .str s, .str t => some (s == t)
  | _, _ => eqP a b
def isN : D → Bool
  | .non => true
  | _ => false
def inO (a : D) : D → Option Bool
  | .str t => match a with
    | .str s => some (!(Builtin.Str.occurrences t s 0 t.length 1).isEmpty)
    | _ => none
  | _ => none
def cmpO (op : CmpOp) (a b : D) : Option Bool :=
  match op with
  | .Eq => eqO a b
  | .NotEq => (eqO a b).map (!·)
  | .Lt => match a, b with | .int i, .int j => some (decide (i < j)) | _, _ => none
  | .LtE => match a, b with | .int i, .int j => some (decide (i ≤ j)) | _, _ => none
  | .Gt => match a, b with | .int i, .int j => some (decide (j < i)) | _, _ => none
  | .GtE => match a, b with | .int i, .int j => some (decide (j ≤ i)) | _, _ => none
  | .Is => if isN b then some (isN a) else none
  | .IsNot => if isN b then some (!isN a) else none
  | .In => inO a b
  | .NotIn => (inO a b).map (!·)
/-- a[i] of what is never written -/
def ixO (a i : D) : Option D :=
  match a, i with
  | .tup l, .int k => atI l k
  | .lst l, .int k => atI l k
  | .str s, .int k => if s.length ≤ sizeLine then (atI s.cps.toList k).map fun c => .str ⟨#[c]⟩ else none
  | _, _ => none
def keyO : D → Option Key
  | .int i => some (.inl i)
  | .str s => some (.inr s)
  | _ => none
def kvGet (k : Key) : List (Key × D) → Option D
  | [] => none
  | (x, d) :: r => if x = k then some d else kvGet k r
def kvPut (k : Key) (d : D) (l : List (Key × D)) : List (Key × D) :=
  if (l.any fun kv => decide (kv.1 = k)) = true then l.map (fun kv => if kv.1 = k then (kv.1, d) else kv) else l ++ [(k, d)]
/-- a row of keys and values by turns -/
def pairsO : List D → Option (List (Key × D))
  | [] => some []
  | [_] => none
  | k :: v :: r => match keyO k, pairsO r with
    | some key, some l => some ((key, v) :: l)
    | _, _ => none
def ixM (a i : D) : M D := fun μ =>
  match a with
  | .ref n => match μ[n]?, keyO i with
    | some (.dct kvs), some k => (match kvGet k kvs with | some d => .ok d μ | none => .stuck)
    | _, _ => .stuck
  | _ => (match ixO a i with | some d => .ok d μ | none => .stuck)
def cutD {α : Type} (l : List α) (lo hi : Option Int) : List α := List.take (HT.sIx l.length l.length hi - HT.sIx l.length 0 lo) (List.drop (HT.sIx l.length 0 lo) l)
def slcO (a : D) (lo hi : Option Int) : Option D :=
  match a with
  | .tup l => some (.tup (cutD l lo hi))
  | .lst l => some (.lst (cutD l lo hi))
  | .str s => if s.length ≤ sizeLine then some (.str ⟨(cutD s.cps.toList lo hi).toArray⟩) else none
  | _ => none
def boolsD : List D → Option (List Bool)
  | [] => some []
  | .bl b :: r => (boolsD r).map (b :: ·)
  | _ => none
def reprO (d : D) : Option D :=
  match d.py with
  | some p => if p.showable = true ∧ p.depth ≤ 40 ∧ p.hasDict = false ∧ p.shown.length ≤ sizeLine then some (.str p.shown) else none
  | none => none
def intsD : List D → Option (List Int)
  | [] => some []
  | .int b :: r => (intsD r).map (b :: ·)
  | _ => none
/-- built-in functions -/
def bltO (f : Bf) (as : List D) : Option D :=
  match f with
  | .len => (match as with
    | [.tup l] => some (.int l.length)
    | [.lst l] => some (.int l.length)
    | [.str s] => if s.length ≤ sizeLine then some (.int s.length) else none
    | _ => none)
  | .int => (match as with
    | [.int i] => some (.int i)
    | _ => none)
  | .str => (match as with
    | [.int i] => if i.natAbs.log2 < 1920 then some (.str (toString i)) else none
    | _ => none)
  | .abs => (match as with
    | [.int i] => some (.int (if i < 0 then -i else i))
    | _ => none)
  | .max => (match as with
    | [.int i, .int j] => some (.int (if j > i then j else i))
    | _ => none)
  | .min => (match as with
    | [.int i, .int j] => some (.int (if j < i then j else i))
    | _ => none)
  | .repr => (match as with
    | [d] => reprO d
    | _ => none)
  | .gcd => (match as with
    | [.int i, .int j] => some (.int ((Nat.gcd i.natAbs j.natAbs : Nat) : Int))
    | _ => none)
  | .all => (match as with
    | [.lst l] => (boolsD l).map fun bs => .bl (bs.all id)
    | _ => none)
  | .any => (match as with
    | [.lst l] => (boolsD l).map fun bs => .bl (bs.any id)
    | _ => none)
  | .sum => (match as with
    | [.lst l] => (intsD l).map fun ns => .int ns.sum
    | _ => none)
  | .tuple => (match as with
    | [.lst l] => some (.tup l)
    | [.tup l] => some (.tup l)
    | _ => none)
/-- list(x) -/
def listO : D → Option (List D)
  | .lst l => some l
  | .tup l => some l
  | _ => none
def tyName : D → Option String
  | .non => some "NoneType"
  | .bl _ => some "bool"
  | .int _ => some "int"
  | .str _ => some "str"
  | .tup _ => some "tuple"
  | .lst _ => some "list"
  | _ => none
/-- isinstance of these built-in types: a bool is an int, too -/
def isiO (d : D) (ts : List String) : Option Bool := (tyName d).map fun t => ts.contains t || (t == "bool" && ts.contains "int")
def zipD : List D → List D → List D
  | a :: l, b :: r => .tup [a, b] :: zipD l r
  | _, _ => []
def enumD : Nat → List D → List D
  | _, [] => []
  | k, a :: l => .tup [.int k, a] :: enumD (k + 1) l
def rangeD (lo : Int) (n : Nat) : List D := (List.range n).map fun (k : Nat) => .int (lo + (k : Int))
/-- a value given to a target -/
def setAll : List Nat → List D → Env' → Option Env'
  | [], [], η => some η
  | i :: is, d :: ds, η => setAll is ds (η.set i (.val d))
  | _, _, _ => none
def tgSet : Tg → D → Env' → Option Env'
  | .nm i, d, η => some (η.set i (.val d))
  | .tp is, .tup ds, η => if is.length = ds.length then setAll is ds η else none
  | .tt i is, .tup [d, .tup ds], η => if is.length = ds.length then setAll is ds (η.set i (.val d)) else none
  | _, _, _ => none
def Tg.slots : Tg → List Nat
  | .nm i => [i]
  | .tp is => is
  | .tt i is => i :: is
def wipeE (η : Env') : List Nat → Env'
  | [] => η
  | v :: vs => (wipeE η vs).set v .un

def isFrz : Sm → Option Nat
  | .frz i => some i
  | _ => none
def isNil : Ex → Bool
  | .nil => true
  | _ => false
def isNo : Ex → Bool
  | .no => true
  | _ => false
/-! ### the den -/
structure Tb where
  fn : Str → List D → M D
  cn : Str → Option D
  /-- the fields of an own error class, in the order of its __init__ -/
  xf : Str → Option (List Str)
  /-- whether an error of the one class is caught by the other's name -/
  sub : Str → Str → Option Bool
  /-- isinstance of an error of the one class, asked for the other -/
  isa : Str → Str → Option Bool
structure Dd where
  v : Env' → M D
  t : Env' → M Bool
  a : Env' → M (List D)
  l : Env' → M (List D)
  i : Env' → M (List D)
  av : Env' → M D
  ov : Env' → M D
  at_ : Env' → M Bool
  ot : Env' → M Bool
def no1 {α : Type} : Env' → M α := fun _ => M.fail
def Dd.ofV (v : Env' → M D) : Dd := ⟨v, fun η => M.bind (v η) fun d => M.opt (truO d), no1, no1, fun η => M.bind (v η) fun d => M.opt (itemsO d), no1, no1, no1, no1⟩
/-- a test by its own way -/
def Dd.ofT (v : Env' → M D) (t : Env' → M Bool) : Dd := ⟨v, t, no1, no1, no1, no1, no1, no1, no1⟩
def Dd.ofL (l : Env' → M (List D)) : Dd := ⟨fun η => M.bind (l η) fun ds => M.pure (.lst ds), fun η => M.bind (l η) fun ds => M.pure (!ds.isEmpty), no1, l, l, no1, no1, no1, no1⟩
def Dd.ofI (i : Env' → M (List D)) : Dd := ⟨no1, no1, no1, no1, i, no1, no1, no1, no1⟩
def Dd.none : Dd := ⟨no1, no1, no1, no1, no1, no1, no1, no1, no1⟩
def blM (d : D) : M Bool := match d with
  | .bl b => M.pure b
  | _ => M.fail
def bind2 (a b : Env' → M D) (f : D → D → M D) : Env' → M D := fun η => M.bind (a η) fun x => M.bind (b η) fun y => f x y
def andM (a b : Env' → M D) : Env' → M D := fun η => M.bind (a η) fun d => M.bind (blM d) fun c => if c = true then b η else M.pure (.bl false)
def orM (a b : Env' → M D) : Env' → M D := fun η => M.bind (a η) fun d => M.bind (blM d) fun c => if c = true then M.pure (.bl true) else b η
def andT (a b : Env' → M Bool) : Env' → M Bool := fun η => M.bind (a η) fun c => if c = true then b η else M.pure false
def orT (a b : Env' → M Bool) : Env' → M Bool := fun η => M.bind (a η) fun c => if c = true then M.pure true else b η
/-- a comprehension's turns -/
def lcLoop (tg : Tg) (test : Env' → M Bool) (elt : Env' → M D) (η : Env') : List D → List D → M (List D)
  | [], acc => M.pure acc
  | d :: ds, acc => match tgSet tg d η with
    | none => M.fail
    | some η' => M.bind (test η') fun c => if c = true then M.bind (elt η') (fun y => if acc.length < sizeLine then lcLoop tg test elt η ds (acc ++ [y]) else M.fail) else lcLoop tg test elt η ds acc
/-- a dict comprehension's turns: the keys' row grows -/
def dcLoop (tg : Tg) (key val : Env' → M D) (η : Env') : List D → List (Key × D) → M (List (Key × D))
  | [], acc => M.pure acc
  | d :: ds, acc => match tgSet tg d η with
    | none => M.fail
    | some η' => M.bind (key η') fun k => M.bind (val η') fun v => match keyO k with
      | some kk => if acc.length < sizeLine then dcLoop tg key val η ds (kvPut kk v acc) else M.fail
      | none => M.fail
/-- nothing is raised out of it -/
def M.nox {α : Type} (m : M α) : M α := fun μ => match m μ with
  | .exc _ _ _ => .stuck
  | r => r
def rangeM (lo hi : D) : M (List D) := match lo, hi with
  | .int i, .int j => if -(2 ^ 62) ≤ i ∧ i < 2 ^ 62 ∧ -(2 ^ 62) ≤ j ∧ j < 2 ^ 62 then M.pure (rangeD i (j - i).toNat) else M.fail
  | _, _ => M.fail
def zipM : D → D → M (List D)
  | .tup l, .tup r => M.pure (zipD l r)
  | .lst l, .lst r => M.pure (zipD l r)
  | .tup l, .lst r => M.pure (zipD l r)
  | .lst l, .tup r => M.pure (zipD l r)
  | _, _ => M.fail
def lrgM (lo hi : D) : M (List D) := match lo, hi with
  | .int i, .int j => if -(2 ^ 62) ≤ i ∧ i < 2 ^ 62 ∧ -(2 ^ 62) ≤ j ∧ j < 2 ^ 62 ∧ (j - i).toNat ≤ 2 ^ 24 then M.pure (rangeD i (j - i).toNat) else M.fail
  | _, _ => M.fail
def repM (ds : List D) (k : D) : M (List D) := match k with
  | .int n => if ds.length ≤ sizeLine ∧ -(2 ^ 63) ≤ n ∧ n < 2 ^ 63 ∧ ds.length * n.toNat ≤ sizeLine then M.pure (List.replicate n.toNat ds).flatten else M.fail
  | _ => M.fail
def bndM (m : Env' → M D) : Env' → M (Option Int) := fun η => M.bind (m η) fun d => match d with
  | .int i => M.pure (some i)
  | _ => M.fail
def den (T : Tb) : Ex → Dd
  | .cst c => .ofV fun _ => M.opt (cstD c)
  | .var i => .ofV fun η => match η[i]? with
    | some (.val d) => M.pure d
    | _ => M.fail
  | .glf x => .ofV fun _ => M.pure (.glo x)
  | .glc x => .ofV fun _ => M.opt (T.cn x)
  | .bin op a b => .ofV (bind2 (den T a).v (den T b).v fun x y => M.opt (binO op x y))
  | .neg a => .ofV fun η => M.bind ((den T a).v η) fun x => match x with
    | .int i => M.pure (.int (-i))
    | _ => M.fail
  | .cmp op a b => .ofT (bind2 (den T a).v (den T b).v fun x y => M.opt ((cmpO op x y).map .bl)) (fun η => M.bind ((den T a).v η) fun x => M.bind ((den T b).v η) fun y => M.opt (cmpO op x y))
  | .chn o1 o2 a b c => .ofT (fun η => M.bind ((den T a).v η) fun x => M.bind ((den T b).v η) fun y => M.bind (M.opt (cmpO o1 x y)) fun k => if k = true then M.bind ((den T c).v η) (fun z => M.opt ((cmpO o2 y z).map .bl)) else M.pure (.bl false))
      (fun η => M.bind ((den T a).v η) fun x => M.bind ((den T b).v η) fun y => M.bind (M.opt (cmpO o1 x y)) fun k => if k = true then M.bind ((den T c).v η) (fun z => M.opt (cmpO o2 y z)) else M.pure false)
  | .bop k as => .ofT (if k = true then (den T as).av else (den T as).ov) (if k = true then (den T as).at_ else (den T as).ot)
  | .nt a => .ofT (fun η => M.bind ((den T a).v η) fun d => M.bind (blM d) fun c => M.pure (.bl (!c))) (fun η => M.bind ((den T a).t η) fun c => M.pure (!c))
  | .ite t a b => .ofT (fun η => M.bind ((den T t).t η) fun c => if c = true then (den T a).v η else (den T b).v η) (fun η => M.bind ((den T t).t η) fun c => if c = true then (den T a).t η else (den T b).t η)
  | .tup as => .ofV fun η => M.bind ((den T as).a η) fun ds => if ds.length ≤ sizeLine then M.pure (.tup ds) else M.fail
  | .lst as => .ofL fun η => M.bind ((den T as).a η) fun ds => if ds.length ≤ sizeLine then M.pure ds else M.fail
  | .ix a i => .ofV (bind2 (den T a).v (den T i).v ixM)
  | .slc a lo hi => .ofV fun η => M.bind ((den T a).v η) fun x => M.bind ((bif isNo lo then fun _ => M.pure none else bndM (den T lo).v) η) fun l =>
      M.bind ((bif isNo hi then fun _ => M.pure none else bndM (den T hi).v) η) fun h => M.opt (slcO x l h)
  | .no => .ofV fun _ => M.pure .non
  | .call f as => .ofV fun η => M.bind ((den T as).a η) fun ds => T.fn f ds
  | .blt f as => .ofV fun η => M.bind ((den T as).a η) fun ds => M.opt (bltO f ds)
  | .lsl a => .ofL fun η => M.bind ((den T a).v η) fun d => M.opt (listO d)
  | .isi a ts => .ofV fun η => M.bind ((den T a).v η) fun d => M.opt ((isiO d ts).map .bl)
  | .lc elt tg it ifs => .ofL fun η => M.bind ((den T it).i η) fun ds => M.nox (lcLoop tg (den T ifs).at_ (den T elt).v (wipeE η tg.slots) ds [])
  | .rg1 a => .ofI fun η => M.bind ((den T a).v η) fun j => rangeM (.int 0) j
  | .rg2 a b => .ofI fun η => M.bind ((den T a).v η) fun i => M.bind ((den T b).v η) fun j => rangeM i j
  | .zp a b => .ofI fun η => M.bind ((den T a).v η) fun x => M.bind ((den T b).v η) fun y => zipM x y
  | .enm a => .ofI fun η => M.bind ((den T a).v η) fun x => match x with
    | .lst l => M.pure (enumD 0 l)
    | _ => M.fail
  | .owx i e => .ofV fun η => match η[i]? with
    | some (.own l) => M.bind ((den T e).v η) fun k => match k with
      | .int j => M.opt (atI l j)
      | _ => M.fail
    | _ => M.fail
  | .owl i => .ofV fun η => match η[i]? with
    | some (.own l) => M.pure (.int l.length)
    | _ => M.fail
  | .owt i => .ofV fun η => match η[i]? with
    | some (.own l) => M.pure (.tup l)
    | _ => M.fail
  | .xat i f => .ofV fun η => match η[i]? with
    | some (.xc c fs) => (match T.xf c with
      | some ns => if ns.contains f = true then M.opt (fs.lookup f) else M.fail
      | none => M.fail)
    | _ => M.fail
  | .mkx c as => .ofV fun η => M.bind ((den T as).a η) fun ds => match T.xf c with
    | some ns => if ns.length = ds.length then M.pure (.exn c ns ds) else M.fail
    | none => M.fail
  | .mk0 c => .ofV fun _ => M.pure (.exn c [] [])
  | .fld a f => .ofV fun η => M.bind ((den T a).v η) fun d => match d with
    | .exn c ns ds => (match T.xf c with
      | some ns' => if ns'.contains f = true then M.opt ((ns.zip ds).reverse.lookup f) else M.fail
      | none => M.fail)
    | _ => M.fail
  | .isx a c => .ofV fun η => M.bind ((den T a).v η) fun d => match d with
    | .exn c1 _ _ => M.opt ((T.isa c1 c).map .bl)
    | _ => M.fail
  | .lrg a b => .ofL fun η => M.bind ((den T a).v η) fun x => M.bind ((den T b).v η) fun y => lrgM x y
  | .rep as k => .ofL fun η => M.bind ((den T as).a η) fun ds => if ds.length ≤ sizeLine then M.bind ((den T k).v η) fun k => repM ds k else M.fail
  | .dcl k v tg it => .ofV fun η => M.bind ((den T it).i η) fun ds => M.bind (M.nox (dcLoop tg (den T k).v (den T v).v (wipeE η tg.slots) ds [])) fun kvs => M.pure (.int kvs.length)
  | .dsp as => .ofV fun η μ => match (den T as).a η (μ ++ [.dct []]) with
    | .stuck => .stuck
    | .exc c fs w => .exc c fs w
    | .ok ds w => (match pairsO ds, w[μ.length]? with
      | some kvs, some (.dct []) => if kvs.length ≤ 15 then .ok (.ref μ.length) (w.set μ.length (.dct (kvs.foldl (fun acc kv => kvPut kv.1 kv.2 acc) []))) else .stuck
      | _, _ => .stuck)
  | .nil => { Dd.none with a := fun _ => M.pure [], at_ := fun _ => M.pure true }
  | .cons a b =>
    { Dd.none with
      a := fun η => M.bind ((den T a).v η) fun d => M.bind ((den T b).a η) fun ds => M.pure (d :: ds)
      av := bif isNil b then (den T a).v else andM (den T a).v (den T b).av
      ov := bif isNil b then (den T a).v else orM (den T a).v (den T b).ov
      at_ := bif isNil b then (den T a).t else andT (den T a).t (den T b).at_
      ot := bif isNil b then (den T a).t else orT (den T a).t (den T b).ot }

/-- a while's turns, at most n -/
def whlN (t : Env' → M Bool) (body : SM) : Nat → SM
  | 0 => fun _ _ => .stuck
  | n + 1 => SM.of t fun c => if c = true then (fun η μ => match body η μ with
    | .nx η' w => whlN t body n η' w
    | .ct η' w => whlN t body n η' w
    | .bk η' w => .nx η' w
    | r => r) else SM.skip
open Classical in
/-- a while, however many turns it takes -/
noncomputable def whl (t : Env' → M Bool) (body : SM) : SM := fun η μ =>
  if h : ∃ n r, whlN t body n η μ = r ∧ r ≠ .stuck then Classical.choose (Classical.choose_spec h) else .stuck
def forN (tg : Tg) (body : SM) : List D → SM
  | [] => SM.skip
  | d :: ds => fun η μ => match tgSet tg d η with
    | none => .stuck
    | some η' => match body η' μ with
      | .nx η'' w => forN tg body ds η'' w
      | .ct η'' w => forN tg body ds η'' w
      | .bk η'' w => .nx η'' w
      | r => r
/-- a op= b at a name -/
def augO (op : Operator) (a b : D) : Option D := match a, b with
  | .int _, .int _ => (match op with | .Add | .Sub | .FloorDiv | .Mult => binO op a b | _ => none)
  | .str _, .str _ => (match op with | .Add => binO op a b | _ => none)
  | _, _ => none
/-- a statement's den, a row of except clauses' den -/
structure Sd where
  s : SM
  h : Str → List (Str × D) → SM := fun c fs η μ => .exc c fs η μ
def enterE : Option Nat → Str → List (Str × D) → Env' → Env'
  | some i, c, fs, η => η.set i (.xc c fs)
  | none, _, _, η => η
def leaveE : Option Nat → Env' → Env'
  | some i, η => η.set i .un
  | none, η => η
def noXc (η : Env') : Bool := η.all fun s => match s with
  | .xc _ _ => false
  | _ => true
def leaveS (i : Option Nat) : SRes → SRes
  | .nx η w => if noXc (leaveE i η) = true then .nx (leaveE i η) w else .stuck
  | .rt d w => .rt d w
  | .bk η w => if noXc (leaveE i η) = true then .bk (leaveE i η) w else .stuck
  | .ct η w => if noXc (leaveE i η) = true then .ct (leaveE i η) w else .stuck
  | _ => .stuck
noncomputable def denS (T : Tb) : Sm → Sd
  | .skip => { s := SM.skip }
  | .exp e => { s := SM.of (den T e).v fun _ => SM.skip }
  | .set i e => { s := SM.of (den T e).v fun d η μ => .nx (η.set i (.val d)) μ }
  | .setL i e => { s := SM.of (den T e).l fun ds η μ => .nx (η.set i (.own ds)) μ }
  | .unp tg e => { s := SM.of (den T e).v fun d η μ => match tgSet tg d η with
    | some η' => .nx η' μ
    | none => .stuck }
  | .par is as => { s := SM.of (den T as).a fun ds η μ => match setAll is ds η with
    | some η' => .nx η' μ
    | none => .stuck }
  | .aug i op e => { s := fun η μ => match η[i]? with
    | some (.val x) => SM.of (den T e).v (fun y η μ => match augO op x y with | some z => .nx (η.set i (.val z)) μ | none => .stuck) η μ
    | _ => .stuck }
  | .app i e => { s := fun η μ => match η[i]? with
    | some (.own _) => SM.of (den T e).v (fun d η μ => match η[i]? with
      | some (.own l) => if l.length < sizeLine then .nx (η.set i (.own (l ++ [d]))) μ else .stuck
      | _ => .stuck) η μ
    | _ => .stuck }
  | .ext _ _ => { s := fun _ _ => .stuck }
  | .seto _ _ _ => { s := fun _ _ => .stuck }
  | .dset o k e => { s := SM.of (den T e).v fun d => SM.of (den T o).v fun x => SM.of (den T k).v fun kk η μ => match x, keyO kk with
    | .ref n, some key => (match μ[n]? with
      | some (.dct kvs) => if kvs.length < sizeLine then .nx η (μ.set n (.dct (kvPut key d kvs))) else .stuck
      | _ => .stuck)
    | _, _ => .stuck }
  | .ite t a b => { s := SM.of (den T t).t fun c => if c = true then (denS T a).s else (denS T b).s }
  | .for_ tg it body => { s := SM.of (den T it).i fun ds => forN tg ((denS T body).s) ds }
  | .whl t body => { s := whl (den T t).t ((denS T body).s) }
  | .ret e => { s := SM.of (den T e).v fun d _ μ => .rt d μ }
  | .retn => { s := fun _ μ => .rt .non μ }
  | .rai c as => { s := SM.of (den T as).a fun ds η μ => match T.xf c with
    | some fs => if fs.length = ds.length then .exc c (fs.zip ds).reverse η μ else .stuck
    | none => .stuck }
  | .try_ b hs => { s := fun η μ => match (denS T b).s η μ with
    | .exc c fs η' w => (denS T hs).h c fs η' w
    | r => r }
  | .hdl c i b rest => { s := fun _ _ => .stuck, h := fun c' fs η μ => match T.sub c' c with
    | some true => leaveS i ((denS T b).s (enterE i c' fs η) μ)
    | some false => (denS T rest).h c' fs η μ
    | none => .stuck }
  | .brk => { s := fun η μ => .bk η μ }
  | .cnt => { s := fun η μ => .ct η μ }
  | .frz i => { s := fun η μ => match η[i]? with
    | some (.own l) => .nx (η.set i (.val (.lst l))) μ
    | _ => .stuck }
  | .nil => { s := SM.skip }
  | .cons a b => { s := ((denS T a).s).seq ((denS T b).s) }
end Dn

/-! Dn 5: operations on data, by values. -/
namespace Dn
open PySem PySem.Spec PyProof.Rows L2

section
variable (K : PySem.W.Frag) (mg : Str → Option Value)
def PostD (Z : Zt) (μ : Wd) (r : Option D) (Q : VK) : Prop :=
  match r with
  | none => False
  | some d => ∀ Z' v, Wk K mg Z' μ → Ext Z Z' → Rel K mg Z' d v → Q v Z'.H
def rD2 (f : D → D → Option D) : R2 := fun x y H Q => ∃ Z μ d e, Z.H = H ∧ Wk K mg Z μ ∧ Rel K mg Z d x ∧ Rel K mg Z e y ∧ PostD K mg Z μ (f d e) Q
def rDs (f : List D → Option D) : List V → Hp → VK → Prop := fun xs H Q => ∃ Z μ ds, Z.H = H ∧ Wk K mg Z μ ∧ RelL K mg Z ds xs ∧ PostD K mg Z μ (f ds) Q
end
section
variable {K : PySem.W.Frag} {mg : Str → Option Value} {Z : Zt} {μ : Wd}
theorem PostD.here {d : D} {v : V} {Q : VK} (p : PostD K mg Z μ (some d) Q) (wk : Wk K mg Z μ) (r : Rel K mg Z d v) : Q v Z.H := p Z v wk (Ext.refl Z) r
theorem PostD.newTup {ds : List D} {vs : List V} {Q : VK} (p : PostD K mg Z μ (some (.tup ds)) Q) (wk : Wk K mg Z μ) (r : RelL K mg Z ds vs) {q : Addr} (n : Z.H q = none) : Q (.ref q) (upd Z.H q (.tup vs)) :=
  p ⟨upd Z.F q (.tup vs), Z.ι, upd Z.H q (.tup vs), Z.x⟩ (.ref q) (wk_new n wk) (ext_new n wk) (.tup (.inl (.inl upd_same)) (r.mo (ext_new n wk).toMo))
theorem PostD.newLst {ds : List D} {vs : List V} {Q : VK} (p : PostD K mg Z μ (some (.lst ds)) Q) (wk : Wk K mg Z μ) (r : RelL K mg Z ds vs) {q : Addr} (n : Z.H q = none) : Q (.ref q) (upd Z.H q (.lst vs)) :=
  p ⟨upd Z.F q (.lst vs), Z.ι, upd Z.H q (.lst vs), Z.x⟩ (.ref q) (wk_new n wk) (ext_new n wk) (.lst (.inl (.inl upd_same)) (r.mo (ext_new n wk).toMo))
theorem Wk.sqT (wk : Wk K mg Z μ) {a : Addr} {xs : List V} (h : SqT K Z.F a xs) : SqT K Z.H a xs := by
  rcases h with (h | ⟨o, h⟩) | h
  · exact .inl (.inl (wk.sub _ _ h))
  · exact .inl (.inr ⟨o, wk.sub _ _ h⟩)
  · exact .inr h
theorem Wk.sqL (wk : Wk K mg Z μ) {a : Addr} {xs : List V} (h : SqL K Z.F a xs) : SqL K Z.H a xs := by
  rcases h with (h | ⟨o, h⟩) | h
  · exact .inl (.inl (wk.sub _ _ h))
  · exact .inl (.inr ⟨o, wk.sub _ _ h⟩)
  · exact .inr h
end

/-! ### operators -/
section
variable {X : Cx}
theorem op_catL : OpR X (binaryOp .Add) (fun x y H Q => ∃ l b xs zs, x = .ref l ∧ y = .ref b ∧ SqL X.K H l xs ∧ SqL X.K H b zs ∧ xs.length + zs.length ≤ sizeLine ∧ ∀ p, H p = none → Q (.ref p) (upd H p (.lst (xs ++ zs)))) := by
  intro pins s σ H x y v u Q I rx ry h
  obtain ⟨l, b, xs, zs, rfl, rfl, hl, hb, hz, q⟩ := h
  cases rx
  cases ry
  obtain ⟨its, r, pl, _⟩ := I.list hl
  obtain ⟨its2, r2, pl2, _⟩ := I.list hb
  obtain ⟨⟨cls, dd, data, sl⟩, ho, hc, n, hd⟩ := pl.isList
  obtain ⟨⟨cls2, dd2, data2, sl2⟩, ho2, hc2, n2, hd2⟩ := pl2.isList
  simp only at hc hd hc2 hd2
  subst hc hd hc2 hd2
  have h1 := r.length
  have h2 := r2.length
  have e : its.toArray ++ its2.toArray = (its ++ its2).toArray := by simp
  refine concat_meets ⟨_, ho, rfl⟩ ⟨_, ho2, rfl⟩ noFill_list_add seq_list_add PySem.F.slot_list_add PySem.F.entry_list_add (PySem.F.args_list_add_2 _ _) (list_addW l b its.toArray its2.toArray n n2 dd dd2 sl sl2 (by simp only [List.size_toArray]; omega)) ⟨ho, ho2, ?_⟩
  rw [e]
  exact ⟨.ref _, _, I.lnew (t' := s.toks) (r.append r2) (by rw [List.length_append]; omega), rfl, q _ I.fresh⟩
theorem op_addO {mg : Str → Option Value} : OpR X (binaryOp .Add) (rD2 X.K mg addO) := by
  intro pins s σ H x y v u Q I rx ry h
  obtain ⟨Z, μ, d, e, rfl, wk, rd, re, p⟩ := h
  cases rd with
  | int i =>
    cases re with
    | int j => exact op_add pins s σ _ _ _ v u Q I rx ry ⟨i, j, rfl, rfl, p.here wk (.int _)⟩
    | _ => exact False.elim p
  | str a =>
    cases re with
    | str b =>
      have p' : PostD X.K mg Z μ (if a.length + b.length ≤ sizeLine then some (.str (a ++ b)) else none) Q := p
      by_cases hz : a.length + b.length ≤ sizeLine
      · rw [if_pos hz] at p'
        exact op_add_str pins s σ _ _ _ v u Q I rx ry ⟨a, b, rfl, rfl, hz, p'.here wk (.str _)⟩
      · rw [if_neg hz] at p'; exact p'.elim
    | _ => exact False.elim p
  | @tup ds vs a h r =>
    cases re with
    | @tup es us b h2 r2 =>
      have p' : PostD X.K mg Z μ (if ds.length + es.length ≤ sizeLine ∧ ds ≠ [] then some (.tup (ds ++ es)) else none) Q := p
      by_cases hz : ds.length + es.length ≤ sizeLine ∧ ds ≠ []
      · rw [if_pos hz] at p'
        refine op_catT pins s σ _ _ _ v u Q I rx ry ⟨a, b, vs, us, rfl, rfl, wk.sqT h, wk.sqT h2, fun z => ?_, by rw [← r.length, ← r2.length]; exact hz.1, fun z => ?_, fun _ q n => p'.newTup wk (r.append r2) n⟩
        · subst z; cases r; exact hz.2 rfl
        · subst z; cases r2
          rw [List.append_nil] at p'
          exact p'.here wk (.tup h r)
      · rw [if_neg hz] at p'; exact p'.elim
    | _ => exact False.elim p
  | @lst ds vs a h r =>
    cases re with
    | @lst es us b h2 r2 =>
      have p' : PostD X.K mg Z μ (if ds.length + es.length ≤ sizeLine then some (.lst (ds ++ es)) else none) Q := p
      by_cases hz : ds.length + es.length ≤ sizeLine
      · rw [if_pos hz] at p'
        exact op_catL pins s σ _ _ _ v u Q I rx ry ⟨a, b, vs, us, rfl, rfl, wk.sqL h, wk.sqL h2, by rw [← r.length, ← r2.length]; exact hz, fun q n => p'.newLst wk (r.append r2) n⟩
      · rw [if_neg hz] at p'; exact p'.elim
    | _ => exact False.elim p
  | _ => cases re <;> exact False.elim p
theorem fdiv_pos {i j : Int} (h : 0 < j) : i.fdiv j = i / j := Int.fdiv_eq_ediv_of_nonneg i (by omega)
theorem op_binO {mg : Str → Option Value} (op : Operator) : OpR X (binaryOp op) (rD2 X.K mg (binO op)) := by
  cases op with
  | Add => exact op_addO
  | Sub =>
    intro pins s σ H x y v u Q I rx ry h
    obtain ⟨Z, μ, d, e, rfl, wk, rd, re, p⟩ := h
    cases rd with
    | int i =>
      cases re with
      | int j => exact op_sub pins s σ _ _ _ v u Q I rx ry ⟨i, j, rfl, rfl, p.here wk (.int _)⟩
      | _ => exact False.elim p
    | _ => cases re <;> exact False.elim p
  | Mult =>
    intro pins s σ H x y v u Q I rx ry h
    obtain ⟨Z, μ, d, e, rfl, wk, rd, re, p⟩ := h
    cases rd with
    | int i =>
      cases re with
      | int j =>
        have p' : PostD X.K mg Z μ (if i.natAbs.log2 + j.natAbs.log2 < 1000000 then some (.int (i * j)) else none) Q := p
        by_cases hz : i.natAbs.log2 + j.natAbs.log2 < 1000000
        · rw [if_pos hz] at p'
          exact op_mulW pins s σ _ _ _ v u Q I rx ry ⟨i, j, rfl, rfl, hz, p'.here wk (.int _)⟩
        · rw [if_neg hz] at p'; exact p'.elim
      | _ => exact False.elim p
    | _ => cases re <;> exact False.elim p
  | FloorDiv =>
    intro pins s σ H x y v u Q I rx ry h
    obtain ⟨Z, μ, d, e, rfl, wk, rd, re, p⟩ := h
    cases rd with
    | int i =>
      cases re with
      | int j =>
        have p' : PostD X.K mg Z μ (if (j ≠ 0 ∧ j.natAbs < 1073741824) ∨ (0 < j ∧ j.natAbs.log2 < 9000) then some (.int (i.fdiv j)) else none) Q := p
        by_cases hz : (j ≠ 0 ∧ j.natAbs < 1073741824) ∨ (0 < j ∧ j.natAbs.log2 < 9000)
        · rw [if_pos hz] at p'
          rcases hz with hz | hz
          · exact op_fdivN pins s σ _ _ _ v u Q I rx ry ⟨i, j, rfl, rfl, hz, p'.here wk (.int _)⟩
          · rw [fdiv_pos hz.1] at p'
            exact op_fdivW pins s σ _ _ _ v u Q I rx ry ⟨i, j, rfl, rfl, hz, p'.here wk (.int _)⟩
        · rw [if_neg hz] at p'; exact p'.elim
      | _ => exact False.elim p
    | _ => cases re <;> exact False.elim p
  | Mod =>
    intro pins s σ H x y v u Q I rx ry h
    obtain ⟨Z, μ, d, e, rfl, wk, rd, re, p⟩ := h
    cases rd with
    | int i =>
      cases re with
      | int j =>
        have p' : PostD X.K mg Z μ (if j ≠ 0 then some (.int (i.fmod j)) else none) Q := p
        by_cases hz : j ≠ 0
        · rw [if_pos hz] at p'
          exact op_modN pins s σ _ _ _ v u Q I rx ry ⟨i, j, rfl, rfl, hz, p'.here wk (.int _)⟩
        · rw [if_neg hz] at p'; exact p'.elim
      | _ => exact False.elim p
    | _ => cases re <;> exact False.elim p
  | Pow =>
    intro pins s σ H x y v u Q I rx ry h
    obtain ⟨Z, μ, d, e, rfl, wk, rd, re, p⟩ := h
    cases rd with
    | int i =>
      cases re with
      | int j =>
        have p' : PostD X.K mg Z μ (if 0 ≤ j ∧ j ≤ 1000000 ∧ i.natAbs < 2 ^ 64 then some (.int (i ^ j.toNat)) else none) Q := p
        by_cases hz : 0 ≤ j ∧ j ≤ 1000000 ∧ i.natAbs < 2 ^ 64
        · rw [if_pos hz] at p'
          exact op_pow pins s σ _ _ _ v u Q I rx ry ⟨i, j, rfl, rfl, hz, p'.here wk (.int _)⟩
        · rw [if_neg hz] at p'; exact p'.elim
      | _ => exact False.elim p
    | _ => cases re <;> exact False.elim p
  | _ =>
    intro pins s σ H x y v u Q I rx ry h
    obtain ⟨Z, μ, d, e, rfl, wk, rd, re, p⟩ := h
    exact False.elim p
theorem iop_binO {mg : Str → Option Value} (op : Operator) : OpR X (inplaceOp op) (rD2 X.K mg (augO op)) := by
  intro pins s σ H x y v u Q I rx ry h
  obtain ⟨Z, μ, d, e, rfl, wk, rd, re, p⟩ := h
  cases rd with
  | int i =>
    cases re with
    | int j =>
      cases op with
      | Add => exact iop_add pins s σ _ _ _ v u Q I rx ry ⟨i, j, rfl, rfl, p.here wk (.int _)⟩
      | Sub => exact iop_sub pins s σ _ _ _ v u Q I rx ry ⟨i, j, rfl, rfl, p.here wk (.int _)⟩
      | Mult =>
        have p' : PostD X.K mg Z μ (if i.natAbs.log2 + j.natAbs.log2 < 1000000 then some (.int (i * j)) else none) Q := p
        by_cases hz : i.natAbs.log2 + j.natAbs.log2 < 1000000
        · rw [if_pos hz] at p'
          obtain ⟨t, rfl⟩ := rx
          obtain ⟨t', rfl⟩ := ry
          exact imul_int ⟨.int (i * j), Z.H, I.tok _, ⟨_, rfl⟩, p'.here wk (.int _)⟩ (CMulW.ok (show CMulW i j from hz))
        · rw [if_neg hz] at p'; exact p'.elim
      | FloorDiv =>
        have p' : PostD X.K mg Z μ (if (j ≠ 0 ∧ j.natAbs < 1073741824) ∨ (0 < j ∧ j.natAbs.log2 < 9000) then some (.int (i.fdiv j)) else none) Q := p
        by_cases hz : (j ≠ 0 ∧ j.natAbs < 1073741824) ∨ (0 < j ∧ j.natAbs.log2 < 9000)
        · rw [if_pos hz] at p'
          obtain ⟨t, rfl⟩ := rx
          obtain ⟨t', rfl⟩ := ry
          have fin : EP X pins σ Q (.int (i.fdiv j) s.toks) { s with toks := s.toks + 1 } := ⟨.int (i.fdiv j), Z.H, I.tok _, ⟨_, rfl⟩, p'.here wk (.int _)⟩
          rcases hz with hz | hz
          · exact ifloordiv_int hz.1 fin (.inl (PyProof.noPylong_small hz.2))
          · exact ifloordiv_int (by omega) fin (.inl (PyProof.noPylong_of_log2 hz.2))
        · rw [if_neg hz] at p'; exact p'.elim
      | _ => exact False.elim p
    | _ => cases op <;> exact False.elim p
  | str a =>
    cases re with
    | str b =>
      cases op with
      | Add =>
        have p' : PostD X.K mg Z μ (if a.length + b.length ≤ sizeLine then some (.str (a ++ b)) else none) Q := p
        by_cases hz : a.length + b.length ≤ sizeLine
        · rw [if_pos hz] at p'
          exact iop_add_str pins s σ _ _ _ v u Q I rx ry ⟨a, b, rfl, rfl, hz, p'.here wk (.str _)⟩
        · rw [if_neg hz] at p'; exact p'.elim
      | _ => exact False.elim p
    | _ => exact False.elim p
  | _ => cases re <;> exact False.elim p

/-! ### comparisons -/
mutual
theorem Rel.dp {mg : Str → Option Value} {K : PySem.W.Frag} {Z : Zt} {μ : Wd} (wk : Wk K mg Z μ) : ∀ (d : D) (v : V) (p : PyData), Rel K mg Z d v → d.py = some p → Dp K Z.H v p
  | .non, _, _, .non, e => by cases e; exact .non
  | .bl b, _, _, .bl _, e => by cases e; exact .bl b
  | .int i, _, _, .int _, e => by cases e; exact .int i
  | .str s, _, _, .str _, e => by cases e; exact .str s
  | .tup l, _, p, .tup h r, e => by
    have e' : (D.pys l).map PyData.tuple = some p := e
    cases q : D.pys l with
    | none => rw [q] at e'; cases e'
    | some ps =>
      rw [q] at e'
      cases e'
      exact .tup (wk.sqT h) (RelL.dp wk l _ ps r q)
  | .lst l, _, p, .lst h r, e => by
    have e' : (D.pys l).map PyData.list = some p := e
    cases q : D.pys l with
    | none => rw [q] at e'; cases e'
    | some ps =>
      rw [q] at e'
      cases e'
      exact .lst (wk.sqL h) (RelL.dp wk l _ ps r q)
  | .ref _, _, _, _, e => by cases e
  | .glo _, _, _, _, e => by cases e
  | .exn _ _ _, _, _, _, e => by cases e
theorem RelL.dp {mg : Str → Option Value} {K : PySem.W.Frag} {Z : Zt} {μ : Wd} (wk : Wk K mg Z μ) : ∀ (l : List D) (vs : List V) (ps : List PyData), RelL K mg Z l vs → D.pys l = some ps → DpAll K Z.H vs ps
  | [], _, _, .nil, e => by cases e; exact .nil
  | d :: r, _, ps, .cons h t, e => by
    have e' : (match D.py d, D.pys r with | some p, some q => some (p :: q) | _, _ => none) = some ps := e
    cases q1 : D.py d with
    | none => rw [q1] at e'; cases e'
    | some p =>
      cases q2 : D.pys r with
      | none => rw [q1, q2] at e'; cases e'
      | some q =>
        rw [q1, q2] at e'
        cases e'
        exact .cons (Rel.dp wk d _ p h q1) (RelL.dp wk r _ q t q2)
end
theorem Rel.non_iff {mg : Str → Option Value} {K : PySem.W.Frag} {Z : Zt} {d : D} {v : V} (r : Rel K mg Z d v) : isN d = decide (v = .non) := by
  cases r <;> simp [isN]
theorem eqP_some {a b : D} {k : Bool} (h : eqP a b = some k) : ∃ p q, a.py = some p ∧ b.py = some q ∧ SeqAt.shaped p = true ∧ SeqAt.shaped q = true ∧ k = PyData.eqv p q := by
  unfold eqP at h
  cases h1 : a.py with
  | none => rw [h1] at h; cases h
  | some p =>
    cases h2 : b.py with
    | none => rw [h1, h2] at h; cases h
    | some q =>
      rw [h1, h2] at h
      simp only at h
      by_cases hs : SeqAt.shaped p = true ∧ SeqAt.shaped q = true
      · rw [if_pos hs] at h
        exact ⟨p, q, rfl, rfl, hs.1, hs.2, (Option.some.inj h).symm⟩
      · rw [if_neg hs] at h; cases h
theorem op_cmpO {mg : Str → Option Value} (hu : X.A.units + 64 < cLine) (op : CmpOp) : OpR X (compareOp op) (rD2 X.K mg fun a b => (cmpO op a b).map .bl) := by
  intro pins s σ H x y v u Q I rx ry h
  obtain ⟨Z, μ, d, e, rfl, wk, rd, re, p⟩ := h
  cases op with
  | Eq =>
    have gen : PostD X.K mg Z μ ((eqP d e).map .bl) Q → wpAny (model X.prog X.w) X.A (compareOp .Eq v u) (EP X pins σ Q) X.xe s := fun p' => by
      cases q : eqP d e with
      | none => rw [q] at p'; exact p'.elim
      | some k =>
        rw [q] at p'
        obtain ⟨p1, q1, e1, e2, s1, s2, rfl⟩ := eqP_some q
        exact op_eqD hu pins s σ _ x y v u Q I rx ry ⟨p1, q1, rd.dp wk _ _ _ e1, re.dp wk _ _ _ e2, s1, s2, p'.here wk (.bl _)⟩
    cases rd with
    | str a =>
      cases re with
      | str b => exact op_eq pins s σ _ _ _ v u Q I rx ry ⟨rfl, by rw [dec_str]; exact p.here wk (.bl _)⟩
      | _ => exact gen p
    | _ => exact gen p
  | NotEq =>
    have gen : PostD X.K mg Z μ (((eqP d e).map (!·)).map .bl) Q → wpAny (model X.prog X.w) X.A (compareOp .NotEq v u) (EP X pins σ Q) X.xe s := fun p' => by
      cases q : eqP d e with
      | none => rw [q] at p'; exact p'.elim
      | some k =>
        rw [q] at p'
        obtain ⟨p1, q1, e1, e2, s1, s2, rfl⟩ := eqP_some q
        exact op_neD hu pins s σ _ x y v u Q I rx ry ⟨p1, q1, rd.dp wk _ _ _ e1, re.dp wk _ _ _ e2, s1, s2, p'.here wk (.bl _)⟩
    cases rd with
    | str a =>
      cases re with
      | str b => exact op_ne pins s σ _ _ _ v u Q I rx ry ⟨rfl, by rw [dec_str]; exact p.here wk (.bl _)⟩
      | _ => exact gen p
    | _ => exact gen p
  | Lt =>
    cases rd with
    | int i =>
      cases re with
      | int j => exact op_lt pins s σ _ _ _ v u Q I rx ry ⟨i, j, rfl, rfl, p.here wk (.bl _)⟩
      | _ => exact False.elim p
    | _ => cases re <;> exact False.elim p
  | LtE =>
    cases rd with
    | int i =>
      cases re with
      | int j => exact op_le pins s σ _ _ _ v u Q I rx ry ⟨i, j, rfl, rfl, p.here wk (.bl _)⟩
      | _ => exact False.elim p
    | _ => cases re <;> exact False.elim p
  | Gt =>
    cases rd with
    | int i =>
      cases re with
      | int j => exact op_gt pins s σ _ _ _ v u Q I rx ry ⟨i, j, rfl, rfl, p.here wk (.bl _)⟩
      | _ => exact False.elim p
    | _ => cases re <;> exact False.elim p
  | GtE =>
    cases rd with
    | int i =>
      cases re with
      | int j => exact op_ge pins s σ _ _ _ v u Q I rx ry ⟨i, j, rfl, rfl, p.here wk (.bl _)⟩
      | _ => exact False.elim p
    | _ => cases re <;> exact False.elim p
  | Is =>
    have p' : PostD X.K mg Z μ ((if isN e = true then some (isN d) else none).map .bl) Q := p
    cases hn : isN e with
    | false => rw [hn] at p'; exact False.elim p'
    | true =>
      rw [hn] at p'
      have hy : y = .non := by
        have q := re.non_iff
        rw [hn] at q
        exact of_decide_eq_true q.symm
      refine op_isN pins s σ _ _ _ v u Q I rx ry ⟨hy, ?_⟩
      have p2 : PostD X.K mg Z μ (some (.bl (isN d))) Q := p'
      rw [rd.non_iff] at p2
      exact p2.here wk (.bl _)
  | IsNot =>
    have p' : PostD X.K mg Z μ ((if isN e = true then some (!isN d) else none).map .bl) Q := p
    cases hn : isN e with
    | false => rw [hn] at p'; exact False.elim p'
    | true =>
      rw [hn] at p'
      have hy : y = .non := by
        have q := re.non_iff
        rw [hn] at q
        exact of_decide_eq_true q.symm
      refine op_notN pins s σ _ _ _ v u Q I rx ry ⟨hy, ?_⟩
      have p2 : PostD X.K mg Z μ (some (.bl (!isN d))) Q := p'
      rw [rd.non_iff] at p2
      exact p2.here wk (.bl _)
  | In =>
    cases re with
    | str j =>
      cases rd with
      | str i => exact op_in_str pins s σ _ _ _ v u Q I rx ry ⟨i, j, rfl, rfl, p.here wk (.bl _)⟩
      | _ => exact False.elim p
    | _ => cases rd <;> exact False.elim p
  | NotIn =>
    cases re with
    | str j =>
      cases rd with
      | str i => exact op_notin_str pins s σ _ _ _ v u Q I rx ry ⟨i, j, rfl, rfl, p.here wk (.bl _)⟩
      | _ => exact False.elim p
    | _ => cases rd <;> exact False.elim p
end
end Dn

/-! Dn 6: built-in functions; expressions. -/
namespace Dn
open PySem PySem.Spec PyProof.Rows L2

section
variable {X : Cx} {mg : Str → Option Value}
theorem boolsD_rel {K : PySem.W.Frag} {Z : Zt} : ∀ {l : List D} {vs : List V} {bs : List Bool}, RelL K mg Z l vs → boolsD l = some bs → vs = bs.map V.bl
  | _, _, _, .nil, e => by cases e; rfl
  | _, _, bs, @RelL.cons _ _ _ d v ds vs h r, e => by
    cases h with
    | bl b =>
      have e' : (boolsD ds).map (b :: ·) = some bs := e
      cases q : boolsD ds with
      | none => rw [q] at e'; cases e'
      | some cs =>
        rw [q] at e'
        cases e'
        rw [boolsD_rel r q]; rfl
    | _ => cases e
theorem intsD_rel {K : PySem.W.Frag} {Z : Zt} : ∀ {l : List D} {vs : List V} {bs : List Int}, RelL K mg Z l vs → intsD l = some bs → vs = bs.map V.int
  | _, _, _, .nil, e => by cases e; rfl
  | _, _, bs, @RelL.cons _ _ _ d v ds vs h r, e => by
    cases h with
    | int b =>
      have e' : (intsD ds).map (b :: ·) = some bs := e
      cases q : intsD ds with
      | none => rw [q] at e'; cases e'
      | some cs =>
        rw [q] at e'
        cases e'
        rw [intsD_rel r q]; rfl
    | _ => cases e
/-- the function's value -/
def Bf.val : Bf → Value
  | .len => .builtin "len" | .int => .type "int" | .str => .type "str" | .abs => .builtin "abs" | .max => .builtin "max" | .min => .builtin "min" | .repr => .builtin "repr" | .gcd => .builtin "math.gcd"
  | .all => .builtin "all" | .any => .builtin "any" | .sum => .builtin "sum" | .tuple => .type "tuple"
theorem cr_repr (hgd : X.A.guards = some []) (hu : X.A.units + 64 < cLine) : CallR X (.builtin "repr") (rDs X.K mg (bltO .repr)) := by
  intro pins s σ H xs us Q I r h
  obtain ⟨Z, μ, ds, rfl, wk, rl, p⟩ := h
  cases rl with
  | nil => exact False.elim p
  | @cons d x ds' xs' rd rl =>
    cases rl with
    | cons _ _ => exact False.elim p
    | nil =>
      obtain ⟨u, rfl, rx⟩ := vals1 r
      have p' : PostD X.K mg Z μ (reprO d) Q := p
      unfold reprO at p'
      cases e : d.py with
      | none => rw [e] at p'; exact p'.elim
      | some q =>
        rw [e] at p'
        simp only at p'
        by_cases hc : q.showable = true ∧ q.depth ≤ 40 ∧ q.hasDict = false ∧ q.shown.length ≤ sizeLine
        · rw [if_pos hc] at p'
          obtain ⟨h1, h2, h3, h4⟩ := hc
          have hq := p'.here wk (.str _)
          obtain ⟨as, rr⟩ := Dp.reads I q x u (rd.dp wk _ _ _ e) rx
          cases rd with
          | non =>
            cases e
            cases rx
            exact PySem.P.repr_of_none ⟨.str _, _, I.tok _, ⟨_, rfl⟩, hq⟩
          | bl b =>
            cases e
            cases rx
            exact PySem.P.repr_of_bool ⟨.str _, _, I.tok _, ⟨_, rfl⟩, hq⟩
          | int i =>
            cases e
            obtain ⟨t, rfl⟩ := rx
            exact PySem.P.repr_of_int (by simpa [PyData.showable] using h1) ⟨.str _, _, I.tok _, ⟨_, rfl⟩, hq⟩
          | str b =>
            cases e
            obtain ⟨t, rfl⟩ := rx
            exact PySem.P.repr_of_str ⟨.str _, _, I.tok _, ⟨_, rfl⟩, hq⟩ h4
          | tup h r =>
            cases rx
            exact repr_of_reads' rr h1 (PyData.noDict_hsm h3) hgd (by omega) (fun _ _ q => q) (fun h' u tk hk => ⟨.str _, _, I.kept hk, ⟨_, rfl⟩, hq⟩) h4
          | lst h r =>
            cases rx
            exact repr_of_reads' rr h1 (PyData.noDict_hsm h3) hgd (by omega) (fun _ _ q => q) (fun h' u tk hk => ⟨.str _, _, I.kept hk, ⟨_, rfl⟩, hq⟩) h4
          | _ => cases e
        · rw [if_neg hc] at p'; exact p'.elim
theorem cr_bltO (hc : X.calm = true) (hgd : X.A.guards = some []) (hu : X.A.units + 64 < cLine) (f : Bf) : CallR X f.val (rDs X.K mg (bltO f)) := by
  cases f with
  | repr => exact cr_repr hgd hu
  | len =>
    intro pins s σ H xs us Q I r h
    obtain ⟨Z, μ, ds, rfl, wk, rl, p⟩ := h
    cases rl with
    | nil => exact False.elim p
    | @cons d x ds' xs' rd rl =>
      cases rl with
      | cons _ _ => cases rd <;> exact False.elim p
      | nil =>
        cases rd with
        | tup h r' => exact call_len_seq pins s σ _ _ _ Q I r ⟨_, _, rfl, .inr (wk.sqT h), by rw [← r'.length]; exact p.here wk (.int _)⟩
        | lst h r' => exact call_len_seq pins s σ _ _ _ Q I r ⟨_, _, rfl, .inl (wk.sqL h), by rw [← r'.length]; exact p.here wk (.int _)⟩
        | str a =>
          have p' : PostD X.K mg Z μ (if a.length ≤ sizeLine then some (.int a.length) else none) Q := p
          by_cases hz : a.length ≤ sizeLine
          · rw [if_pos hz] at p'
            exact call_len_str pins s σ _ _ _ Q I r ⟨_, rfl, hz, p'.here wk (.int _)⟩
          · rw [if_neg hz] at p'; exact p'.elim
        | _ => exact False.elim p
  | int =>
    intro pins s σ H xs us Q I r h
    obtain ⟨Z, μ, ds, rfl, wk, rl, p⟩ := h
    cases rl with
    | nil => exact False.elim p
    | @cons d x ds' xs' rd rl =>
      cases rl with
      | cons _ _ => cases rd <;> exact False.elim p
      | nil =>
        cases rd with
        | int i => exact call_int1 pins s σ _ _ _ Q I r (.inl ⟨_, rfl, p.here wk (.int _)⟩)
        | _ => exact False.elim p
  | str =>
    intro pins s σ H xs us Q I r h
    obtain ⟨Z, μ, ds, rfl, wk, rl, p⟩ := h
    cases rl with
    | nil => exact False.elim p
    | @cons d x ds' xs' rd rl =>
      cases rl with
      | cons _ _ => cases rd <;> exact False.elim p
      | nil =>
        cases rd with
        | int i =>
          have p' : PostD X.K mg Z μ (if i.natAbs.log2 < 1920 then some (.str (toString i)) else none) Q := p
          by_cases hz : i.natAbs.log2 < 1920
          · rw [if_pos hz] at p'
            exact call_str_int pins s σ _ _ _ Q I r ⟨_, rfl, hz, p'.here wk (.str _)⟩
          · rw [if_neg hz] at p'; exact p'.elim
        | _ => exact False.elim p
  | abs =>
    intro pins s σ H xs us Q I r h
    obtain ⟨Z, μ, ds, rfl, wk, rl, p⟩ := h
    cases rl with
    | nil => exact False.elim p
    | @cons d x ds' xs' rd rl =>
      cases rl with
      | cons _ _ => cases rd <;> exact False.elim p
      | nil =>
        cases rd with
        | int i => exact call_abs pins s σ _ _ _ Q I r ⟨_, rfl, p.here wk (.int _)⟩
        | _ => exact False.elim p
  | max =>
    intro pins s σ H xs us Q I r h
    obtain ⟨Z, μ, ds, rfl, wk, rl, p⟩ := h
    cases rl with
    | nil => exact False.elim p
    | @cons d x ds' xs' rd rl =>
      cases rl with
      | nil => cases rd <;> exact False.elim p
      | @cons d2 x2 ds2 xs2 rd2 rl2 =>
        cases rl2 with
        | cons _ _ => cases rd <;> cases rd2 <;> exact False.elim p
        | nil =>
          cases rd with
          | int i =>
            cases rd2 with
            | int j => exact call_max2 hc pins s σ _ _ _ Q I r ⟨_, _, rfl, p.here wk (.int _)⟩
            | _ => exact False.elim p
          | _ => cases rd2 <;> exact False.elim p
  | min =>
    intro pins s σ H xs us Q I r h
    obtain ⟨Z, μ, ds, rfl, wk, rl, p⟩ := h
    cases rl with
    | nil => exact False.elim p
    | @cons d x ds' xs' rd rl =>
      cases rl with
      | nil => cases rd <;> exact False.elim p
      | @cons d2 x2 ds2 xs2 rd2 rl2 =>
        cases rl2 with
        | cons _ _ => cases rd <;> cases rd2 <;> exact False.elim p
        | nil =>
          cases rd with
          | int i =>
            cases rd2 with
            | int j => exact call_min2 hc pins s σ _ _ _ Q I r ⟨_, _, rfl, p.here wk (.int _)⟩
            | _ => exact False.elim p
          | _ => cases rd2 <;> exact False.elim p
  | gcd =>
    intro pins s σ H xs us Q I r h
    obtain ⟨Z, μ, ds, rfl, wk, rl, p⟩ := h
    cases rl with
    | nil => exact False.elim p
    | @cons d x ds' xs' rd rl =>
      cases rl with
      | nil => cases rd <;> exact False.elim p
      | @cons d2 x2 ds2 xs2 rd2 rl2 =>
        cases rl2 with
        | cons _ _ => cases rd <;> cases rd2 <;> exact False.elim p
        | nil =>
          cases rd with
          | int i =>
            cases rd2 with
            | int j => exact cr_gcd pins s σ _ _ _ Q I r ⟨_, _, rfl, p.here wk (.int _)⟩
            | _ => exact False.elim p
          | _ => cases rd2 <;> exact False.elim p
  | all =>
    intro pins s σ H xs us Q I r h
    obtain ⟨Z, μ, ds, rfl, wk, rl, p⟩ := h
    cases rl with
    | nil => exact False.elim p
    | @cons d x ds' xs' rd rl =>
      cases rl with
      | cons _ _ => cases rd <;> exact False.elim p
      | nil =>
        cases rd with
        | @lst l vs a h r' =>
          have p' : PostD X.K mg Z μ ((boolsD l).map fun bs => .bl (bs.all id)) Q := p
          cases e : boolsD l with
          | none => rw [e] at p'; exact p'.elim
          | some bs =>
            rw [e] at p'
            have h' := wk.sqL h
            rw [boolsD_rel r' e] at h'
            exact cr_all hc pins s σ _ _ _ Q I r ⟨_, _, rfl, h', p'.here wk (.bl _)⟩
        | _ => exact False.elim p
  | any =>
    intro pins s σ H xs us Q I r h
    obtain ⟨Z, μ, ds, rfl, wk, rl, p⟩ := h
    cases rl with
    | nil => exact False.elim p
    | @cons d x ds' xs' rd rl =>
      cases rl with
      | cons _ _ => cases rd <;> exact False.elim p
      | nil =>
        cases rd with
        | @lst l vs a h r' =>
          have p' : PostD X.K mg Z μ ((boolsD l).map fun bs => .bl (bs.any id)) Q := p
          cases e : boolsD l with
          | none => rw [e] at p'; exact p'.elim
          | some bs =>
            rw [e] at p'
            have h' := wk.sqL h
            rw [boolsD_rel r' e] at h'
            exact cr_any hc pins s σ _ _ _ Q I r ⟨_, _, rfl, h', p'.here wk (.bl _)⟩
        | _ => exact False.elim p
  | sum =>
    intro pins s σ H xs us Q I r h
    obtain ⟨Z, μ, ds, rfl, wk, rl, p⟩ := h
    cases rl with
    | nil => exact False.elim p
    | @cons d x ds' xs' rd rl =>
      cases rl with
      | cons _ _ => cases rd <;> exact False.elim p
      | nil =>
        cases rd with
        | @lst l vs a h r' =>
          have p' : PostD X.K mg Z μ ((intsD l).map fun ns => .int ns.sum) Q := p
          cases e : intsD l with
          | none => rw [e] at p'; exact p'.elim
          | some bs =>
            rw [e] at p'
            have h' := wk.sqL h
            rw [intsD_rel r' e] at h'
            exact cr_sum hc pins s σ _ _ _ Q I r ⟨_, _, rfl, h', p'.here wk (.int _)⟩
        | _ => exact False.elim p
  | tuple =>
    intro pins s σ H xs us Q I r h
    obtain ⟨Z, μ, ds, rfl, wk, rl, p⟩ := h
    cases rl with
    | nil => exact False.elim p
    | @cons d x ds' xs' rd rl =>
      cases rl with
      | cons _ _ => cases rd <;> exact False.elim p
      | nil =>
        cases rd with
        | tup h r' => exact call_tuple_of pins s σ _ _ _ Q I r ⟨_, _, rfl, .inr ⟨wk.sqT h, p.here wk (.tup h r')⟩⟩
        | lst h r' => exact call_tuple_of pins s σ _ _ _ Q I r ⟨_, _, rfl, .inl ⟨wk.sqL h, fun q n => p.newTup wk r' n⟩⟩
        | _ => exact False.elim p
/-- f(e, ..), f a value that the module's name or the built-ins' holds -/
theorem pe_callV {f : Value} {x : Str} {r : List V → Hp → VK → Prop} {e : Expr} {es : List Expr} {t : TA} {p pos : Pos} (hv : (∃ id, f = .builtin id) ∨ ∃ T, f = .type T) (hc : CallR X f r) (hg : Gl X x) (hm : X.mg x = some f ∨ (X.mg x = none ∧ bootBuiltins x = some f)) (ha : PA X (e :: es) t)
    (hn : x ≠ "__name__") (hdb : (x == ("__debug__" : Str)) = false) (he : starEach (e :: es) X.env = (false, eval e X.env) :: starEach es X.env) (hpl : (backTo pos (starEach es X.env)).any (·.1) = false) : PE X (.Call (.Name x p) (e :: es) [] pos) (tCB r t) := by
  refine ⟨fun pins s σ H Q I h => ?_⟩
  have go : wpAny (model X.prog X.w) X.A (callWith pos f [] (backTo pos (starEach (e :: es) X.env)) (backToKw pos (keywordEach [] X.env))) (EP X pins σ Q) X.xe s := by
    rcases hv with ⟨id, rfl⟩ | ⟨T, rfl⟩
    · exact PyProof.Rows.callWith_builtin1 (thn (ha.run pos pins s σ H _ I h) fun us s1 ⟨vs, H1, I1, r1, q1⟩ => hc pins s1 σ H1 vs us Q I1 r1 q1) he hpl
    · exact PyProof.Rows.callWith_type1 (thn (ha.run pos pins s σ H _ I h) fun us s1 ⟨vs, H1, I1, r1, q1⟩ => hc pins s1 σ H1 vs us Q I1 r1 q1) he hpl
  rcases hm with hm | ⟨hm, hb⟩
  · exact wpAny_Call_Name_kw (ld_glob I hg hm go hdb)
  · exact wpAny_Call_Name_kw (ld_blt I hg hm hb go hn hdb)
theorem Bf.kind (f : Bf) : (∃ id, f.val = .builtin id) ∨ ∃ T, f.val = .type T := by
  cases f <;> first | exact .inl ⟨_, rfl⟩ | exact .inr ⟨_, rfl⟩
theorem Bf.boot (f : Bf) (h : f ≠ .gcd) : bootBuiltins f.name = some f.val := by
  cases f <;> first | exact absurd rfl h | decide +kernel
end
end Dn

/-! Dn 7: the look; expressions, each by its rule. -/
namespace Dn
open PySem PySem.Spec PyProof.Rows L2

structure Cg where
  N : List Str
  sc : Scope
  calm : Bool
  isF : Str → Bool
  isC : Str → Bool
  /-- the fields of an own error class, in the order of its __init__ -/
  isX : Str → Option (List Str)
  gcd : Bool
  /-- within an except suite that names the error -/
  xc : Bool
  /-- own error classes made as values: with an __init__, without; classes asked by isinstance -/
  isM : Str → Bool
  isM0 : Str → Bool
  isI : Str → Bool

def isVis (sc : Scope) (x : Str) : Bool := match sc.names.lookup x with
  | some .local => true
  | some .cell => true
  | some .free => true
  | _ => false
def isLoc (sc : Scope) (x : Str) : Bool := match sc.names.lookup x with
  | some .local => true
  | some .cell => true
  | _ => false
def isGl (sc : Scope) (x : Str) : Bool := match sc.names.lookup x with
  | some .globalImplicit => true
  | _ => false
def okN (x : Str) : Bool := !(x == ("__debug__" : Str)) && !(x == ("__classdict__" : Str)) && !(x == ("__name__" : Str))
def noStar : Expr → Bool
  | .Starred _ _ => false
  | _ => true
def noSet : Expr → Bool
  | .Set _ _ _ => false
  | _ => true
def noSlice : Expr → Bool
  | .Slice _ _ _ _ => false
  | .Tuple _ _ _ => false
  | .Set _ _ _ => false
  | _ => true
def isTuple : Expr → Bool
  | .Tuple _ _ _ => true
  | _ => false
/-- whose attribute is read plainly -/
def plainAt : Expr → Bool
  | .Name _ _ => true
  | _ => false
/-- built-in names that are looked for -/
def bltNames : List Str := ["len", "int", "str", "abs", "max", "min", "repr", "all", "any", "sum", "tuple", "list", "range", "zip", "enumerate", "isinstance", "bool", "sorted", "ValueError"]
def ckTys : List String → List Expr → Bool
  | [], [] => true
  | t :: ts, .Name x _ :: es => decide (x = Str.ofString t) && bltNames.contains x && ckTys ts es
  | _, _ => false
/-- the class, or the tuple of classes, of an isinstance -/
def ckTy (sc : Scope) (ts : List String) : Expr → Bool
  | .Name x _ => (match ts with
    | [t] => decide (x = Str.ofString t) && ["int", "bool", "str", "tuple", "list"].contains t && isGl sc x
    | _ => false)
  | .Tuple es _ _ => (match es with
    | [.Name x _, .Name y _] => decide (ts = ["list", "tuple"]) && decide (x = "list") && decide (y = "tuple") && isGl sc x && isGl sc y
    | _ => false)
  | _ => false
def ckNames (N : List Str) (sc : Scope) : List Nat → List Expr → Bool
  | [], [] => true
  | i :: is, .Name x _ :: es => decide (N[i]? = some x) && isLoc sc x && ckNames N sc is es
  | _, _ => false
def ckTg (N : List Str) (sc : Scope) : Tg → Expr → Bool
  | .nm i, .Name x _ => decide (N[i]? = some x) && isLoc sc x
  | .tp is, .Tuple es _ _ => ckNames N sc is es
  | .tt i is, .Tuple [.Name x _, .Tuple es _ _] _ _ => decide (N[i]? = some x) && isLoc sc x && ckNames N sc is es
  | _, _ => false
def ownOf (N : List Str) (is : List Nat) : List (Str × Nat) := is.filterMap fun i => (N[i]?).map fun x => (x, i)
mutual
/-- the look: a value; with a target, what a for walks -/
def ck (Γ : Cg) (m : Option Expr) : Ex → Expr → Bool
  | .cst c, .Constant c' _ _ => decide (c = c')
  | .var i, .Name x _ => decide (Γ.N[i]? = some x) && isVis Γ.sc x && okN x
  | .glf x, .Name y _ => decide (x = y) && isGl Γ.sc x && Γ.isF x && okN x
  | .glc x, .Name y _ => decide (x = y) && isGl Γ.sc x && Γ.isC x && okN x
  | .bin op a b, .BinOp e op' f _ => decide (op = op') && ck Γ none a e && ck Γ none b f
  | .neg a, .UnaryOp op e _ => decide (op = .USub) && ck Γ none a e
  | .nt a, .UnaryOp op e _ => decide (op = .Not) && ck Γ none a e
  | .cmp op a b, .Compare e ops fs _ => (match ops, fs with
    | [op'], [f] => decide (op = op') && noSet f && ck Γ none a e && ck Γ none b f
    | _, _ => false)
  | .chn o1 o2 a b c, .Compare e ops fs _ => (match ops, fs with
    | [p1, p2], [f, g] => decide (o1 = p1) && decide (o2 = p2) && noSet f && noSet g && ck Γ none a e && ck Γ none b f && ck Γ none c g
    | _, _ => false)
  | .bop k as, .BoolOp op es _ => decide (op = if k = true then .And else .Or) && !es.isEmpty && ckA Γ as es
  | .ite t a b, .IfExp e f g _ => ck Γ none t e && ck Γ none a f && ck Γ none b g
  | .tup as, .Tuple es _ _ => ckA Γ as es
  | .lst as, .List es _ => ckA Γ as es
  | .ix a i, .Subscript e f _ => noSlice f && ck Γ none a e && ck Γ none i f
  | .slc a lo hi, .Subscript e f _ => (match f with
    | .Slice l h none _ => ck Γ none a e && (match l with | none => isNo lo | some l' => ck Γ none lo l') && (match h with | none => isNo hi | some h' => ck Γ none hi h')
    | _ => false)
  | .call f as, .Call g es ks _ => (match g, ks with
    | .Name x _, [] => decide (f = x) && isGl Γ.sc x && Γ.isF x && okN x && !es.isEmpty && Γ.calm && ckA Γ as es
    | _, _ => false)
  | .blt f as, .Call g es ks _ => (match g, ks with
    | .Name x _, [] => decide (x = f.name) && isGl Γ.sc x && !es.isEmpty && (Γ.calm || decide (f = .repr)) && (Γ.gcd || !decide (f = .gcd)) && ckA Γ as es
    | _, _ => false)
  | .lsl a, .Call g es ks _ => (match g, es, ks with
    | .Name x _, [e], [] => decide (x = "list") && isGl Γ.sc x && noStar e && ck Γ none a e
    | _, _, _ => false)
  | .isi a ts, .Call g es ks _ => (match g, es, ks with
    | .Name x _, [e, t], [] => decide (x = "isinstance") && isGl Γ.sc x && noStar e && ck Γ none a e && ckTy Γ.sc ts t
    | _, _, _ => false)
  | .lc elt tg it ifs, .ListComp e gs scope _ => (match gs with
    | [⟨t, i, fs, 0⟩] => Γ.calm && blkC Γ.N Γ.sc scope (ownOf Γ.N tg.slots) && decide ((ownOf Γ.N tg.slots).map (·.2) = tg.slots) && ckTg Γ.N scope tg t && ck Γ (some t) it i
        && decide (fs.length ≤ 1) && ckA { Γ with sc := relS scope Γ.sc, xc := false } ifs fs && ck { Γ with sc := relS scope Γ.sc, xc := false } none elt e
    | _ => false)
  | .owx i k, .Subscript e f _ => (match e with
    | .Name x _ => decide (Γ.N[i]? = some x) && isVis Γ.sc x && okN x && noSlice f && ck Γ none k f
    | _ => false)
  | .owl i, .Call g es ks _ => (match g, es, ks with
    | .Name x _, [.Name y _], [] => decide (x = "len") && isGl Γ.sc x && decide (Γ.N[i]? = some y) && isVis Γ.sc y && okN y
    | _, _, _ => false)
  | .owt i, .Call g es ks _ => (match g, es, ks with
    | .Name x _, [.Name y _], [] => decide (x = "tuple") && isGl Γ.sc x && decide (Γ.N[i]? = some y) && isVis Γ.sc y && okN y
    | _, _, _ => false)
  | .xat i f, .Attribute e g _ => (match e with
    | .Name x _ => Γ.xc && decide (Γ.N[i]? = some x) && isVis Γ.sc x && okN x && decide (f = g)
    | _ => false)
  | .mkx c as, .Call g es ks _ => (match g, ks with
    | .Name x _, [] => decide (c = x) && isGl Γ.sc x && Γ.isM x && okN x && !es.isEmpty && Γ.calm && ckA Γ as es
    | _, _ => false)
  | .mk0 c, .Call g es ks _ => (match g, ks with
    | .Name x _, [] => decide (c = x) && isGl Γ.sc x && Γ.isM0 x && okN x && es.isEmpty
    | _, _ => false)
  | .fld a f, .Attribute e g _ => decide (f = g) && plainAt e && ck Γ none a e
  | .isx a c, .Call g es ks _ => (match g, es, ks with
    | .Name x _, [e, .Name y _], [] => decide (x = "isinstance") && isGl Γ.sc x && noStar e && ck Γ none a e && decide (y = c) && isGl Γ.sc y && okN y && Γ.isI y
    | _, _, _ => false)
  | .lrg a b, .Call g es ks _ => (match g, es, ks with
    | .Name x _, [.Call g2 es2 ks2 _], [] => (match g2, es2, ks2 with
      | .Name y _, [e, f], [] => Γ.calm && decide (x = "list") && isGl Γ.sc x && decide (y = "range") && isGl Γ.sc y && noStar e && noStar f && ck Γ none a e && ck Γ none b f
      | _, _, _ => false)
    | _, _, _ => false)
  | .dcl k v tg it, .Call g es ks _ => (match g, es, ks with
    | .Name x _, [.DictComp ke ve gs scope _], [] => (match gs with
      | [⟨t, i, fs, 0⟩] => Γ.calm && decide (x = "len") && isGl Γ.sc x && fs.isEmpty && blkC Γ.N Γ.sc scope (ownOf Γ.N tg.slots) && decide ((ownOf Γ.N tg.slots).map (·.2) = tg.slots) && ckTg Γ.N scope tg t && ck Γ (some t) it i
          && ck { Γ with sc := relS scope Γ.sc, xc := false } none k ke && ck { Γ with sc := relS scope Γ.sc, xc := false } none v ve
      | _ => false)
    | _, _, _ => false)
  | .rep as k, .BinOp e op f _ => (match e with
    | .List es _ => decide (op = .Mult) && ckA Γ as es && ck Γ none k f
    | _ => false)
  | .dsp as, .Dict ks vs _ => !ks.isEmpty && decide (ks.length ≤ 15) && decide (ks.length = vs.length) && ckP Γ as ks vs
  | .rg1 a, .Call g es ks _ => (match g, es, ks with
    | .Name x _, [e], [] => m.isSome && decide (x = "range") && isGl Γ.sc x && noStar e && ck Γ none a e
    | _, _, _ => false)
  | .rg2 a b, .Call g es ks _ => (match g, es, ks with
    | .Name x _, [e, f], [] => m.isSome && decide (x = "range") && isGl Γ.sc x && noStar e && noStar f && ck Γ none a e && ck Γ none b f
    | _, _, _ => false)
  | .zp a b, .Call g es ks _ => (match g, es, ks with
    | .Name x _, [e, f], [] => m.any isTuple && decide (x = "zip") && isGl Γ.sc x && noStar e && noStar f && ck Γ none a e && ck Γ none b f
    | _, _, _ => false)
  | .enm a, .Call g es ks _ => (match g, es, ks with
    | .Name x _, [e], [] => m.any isTuple && decide (x = "enumerate") && isGl Γ.sc x && noStar e && ck Γ none a e
    | _, _, _ => false)
  | _, _ => false
def ckP (Γ : Cg) : Ex → List (Option Expr) → List Expr → Bool
  | .nil, [], [] => true
  | .cons a b, ks, vs => (match b, ks, vs with
    | .cons c d, some k :: ks, v :: vs => ck Γ none a k && ck Γ none c v && ckP Γ d ks vs
    | _, _, _ => false)
  | _, _, _ => false
def ckA (Γ : Cg) : Ex → List Expr → Bool
  | .nil, [] => true
  | .cons a b, e :: es => noStar e && ck Γ none a e && ckA Γ b es
  | _, _ => false
end
end Dn

/-! Dn 8: expressions, each by its rule. -/
namespace Dn
open PySem PySem.Spec PyProof.Rows L2

section
variable {K : PySem.W.Frag} {mg : Str → Option Value} {Z Z' Z0 : Zt} {μ μ' : Wd} {η : Env'} {σ : L2.St} {W : WX}
theorem tG_no {α β : Type} {R : Zt → α → β → Prop} {σ : L2.St} {H : Hp} {Q : β → Hp → Prop} (h : tG K mg R Z0 W (no1 : Env' → M α) σ H Q) : False := by
  obtain ⟨_, _, _, _, _, g⟩ := h
  exact g
theorem tL_no {σ : L2.St} {H : Hp} {Q : VK} (h : tL K mg Z0 W no1 σ H Q) : False := by
  obtain ⟨_, _, _, _, _, g⟩ := h
  exact g
/-- the end of an operation that may have no value -/
theorem Gd.post {o : Option D} {Q : VK} (g : Gd K mg (Rel K mg) Z0 W σ η Z (M.opt o μ) Q) (s : Stt K mg Z0 Z μ η σ) : PostD K mg Z μ o Q := by
  cases o with
  | none => exact g
  | some d => exact fun Z' v wk x r => g Z' v (s.go x wk) x r
theorem Gd.opt {α β : Type} {R : Zt → α → β → Prop} {o : Option α} {Q : β → Hp → Prop} (g : Gd K mg R Z0 W σ η Z (M.opt o μ) Q) (s : Stt K mg Z0 Z μ η σ) : ∃ a, o = some a ∧ ∀ b, R Z a b → Q b Z.H := by
  cases o with
  | none => exact g.elim
  | some a => exact ⟨a, rfl, fun b r => g Z b s (Ext.refl Z) r⟩
theorem Gd.bindOpt {α γ δ : Type} {S : Zt → γ → δ → Prop} {o : Option α} {k : α → M γ} {Q : δ → Hp → Prop} (g : Gd K mg S Z0 W σ η Z (M.bind (M.opt o) k μ) Q) : ∃ a, o = some a ∧ Gd K mg S Z0 W σ η Z (k a μ) Q := by
  cases o with
  | none => exact g.elim
  | some a => exact ⟨a, rfl, g⟩
end

section
variable {X : Cx} {Z0 : Zt} {W : WX}
abbrev VE (X : Cx) (Z0 : Zt) (W : WX) (e : Expr) (m : Env' → M D) : Prop := PE X e (tE X.K X.mg Z0 W m)
abbrev VT (X : Cx) (Z0 : Zt) (W : WX) (e : Expr) (m : Env' → M Bool) : Prop := PT X e (tT X.K X.mg Z0 W m)
abbrev VA (X : Cx) (Z0 : Zt) (W : WX) (es : List Expr) (m : Env' → M (List D)) : Prop := PA X es (tA X.K X.mg Z0 W m)
abbrev VL (X : Cx) (Z0 : Zt) (W : WX) (e : Expr) (m : Env' → M (List D)) : Prop := PE X e (tL X.K X.mg Z0 W m)

theorem s_no {e : Expr} : VE X Z0 W e no1 := ⟨fun _ _ _ _ _ _ h => (tG_no h).elim⟩
theorem s_noT {e : Expr} : VT X Z0 W e no1 := ⟨fun _ _ _ _ _ _ h => (tG_no h).elim⟩
theorem s_noA {e : List Expr} : VA X Z0 W e no1 := ⟨fun _ _ _ _ _ _ _ h => (tG_no h).elim⟩
theorem s_noL {e : Expr} : VL X Z0 W e no1 := ⟨fun _ _ _ _ _ _ h => (tL_no h).elim⟩

theorem s_var {i : Nat} {x : Str} {pos : Pos} (hN : X.N[i]? = some x) (hv : Vis X.env.scope x) (hd : (x == ("__debug__" : Str)) = false) (hcd : (x == ("__classdict__" : Str)) = false) :
    VE X Z0 W (.Name x pos) (fun η => match η[i]? with | some (.val d) => M.pure d | _ => M.fail) := by
  refine peI (pe_var hN hv hd hcd) fun σ H Q ⟨Z, μ, η, e, st, g⟩ => ?_
  subst e
  cases h : η[i]? with
  | none => simp only [h] at g; exact g.elim
  | some s =>
    cases s with
    | val d =>
      simp only [h] at g
      have lt : i < σ.length := by rw [← st.env.len]; exact (List.getElem?_eq_some_iff.mp h).1
      obtain ⟨v, e1, r⟩ := st.env.slot i _ _ h (List.getElem?_eq_getElem lt)
      exact ⟨v, by rw [List.getElem?_eq_getElem lt, e1], Gd.pure g st r⟩
    | un => simp only [h] at g; exact g.elim
    | own l => simp only [h] at g; exact g.elim
    | xc c fs => simp only [h] at g; exact g.elim
theorem s_cst {c : Const} {k : Nat} {pos : Pos} : VE X Z0 W (.Constant c k pos) (fun _ => M.opt (cstD c)) := by
  cases c with
  | none => exact peI pe_non fun σ H Q ⟨Z, μ, η, e, st, g⟩ => by subst e; exact Gd.pure g st .non
  | bool b => exact peI pe_bl fun σ H Q ⟨Z, μ, η, e, st, g⟩ => by subst e; exact Gd.pure g st (.bl b)
  | int b => exact peI pe_int fun σ H Q ⟨Z, μ, η, e, st, g⟩ => by subst e; exact Gd.pure g st (.int b)
  | str b => exact peI pe_str fun σ H Q ⟨Z, μ, η, e, st, g⟩ => by subst e; exact Gd.pure g st (.str b)
  | _ => exact ⟨fun _ _ _ _ _ _ ⟨_, _, _, _, _, g⟩ => g.elim⟩
theorem s_glf {x : Str} {f : Addr} {pos : Pos} (hg : Gl X x) (hm : X.mg x = some (.ref f)) (hd : (x == ("__debug__" : Str)) = false) : VE X Z0 W (.Name x pos) (fun _ => M.pure (.glo x)) :=
  peI (pe_glob (v := .ref f) hg hm rfl hd) fun σ H Q ⟨Z, μ, η, e, st, g⟩ => by subst e; exact Gd.pure g st (.glo hm)
theorem s_glc {x : Str} {u : Value} {v : V} {d : D} {pos : Pos} (hg : Gl X x) (hm : X.mg x = some u) (r : RelV v u) (hr : ∀ Z, Rel X.K X.mg Z d v) (hd : (x == ("__debug__" : Str)) = false) : VE X Z0 W (.Name x pos) (fun _ => M.opt (some d)) :=
  peI (pe_glob hg hm r hd) fun σ H Q ⟨Z, μ, η, e, st, g⟩ => by subst e; exact Gd.pure g st (hr Z)
variable {a b c : Expr} {ma mb mc : Env' → M D} {pos : Pos}
/-- two values, then an operation -/
theorem two {f : D → D → Option D} {σ : L2.St} {H : Hp} {Q : VK} (h : tE X.K X.mg Z0 W (bind2 ma mb fun x y => M.opt (f x y)) σ H Q) : tOp (rD2 X.K X.mg f) (tE X.K X.mg Z0 W ma) (tE X.K X.mg Z0 W mb) σ H Q := by
  obtain ⟨Z, μ, η, e, st, g⟩ := h
  subst e
  refine ⟨Z, μ, η, rfl, st, g.bind fun Z1 μ1 d v s1 x1 r1 g1 => ?_⟩
  refine ⟨Z1, μ1, η, rfl, s1, g1.bind fun Z2 μ2 d2 v2 s2 x2 r2 g2 => ?_⟩
  exact ⟨Z2, μ2, d, d2, rfl, s2.wk, r1.mo x2.toMo, r2, g2.post s2⟩
theorem s_bin {op : Operator} (ha : VE X Z0 W a ma) (hb : VE X Z0 W b mb) : VE X Z0 W (.BinOp a op b pos) (bind2 ma mb fun x y => M.opt (binO op x y)) :=
  peI (pe_op (op_binO op) ha hb) fun σ H Q h => two h
theorem s_neg (ha : VE X Z0 W a ma) : VE X Z0 W (.UnaryOp .USub a pos) (fun η => M.bind (ma η) fun x => match x with | .int i => M.pure (.int (-i)) | _ => M.fail) := by
  refine peI (pe_un un_neg ha) fun σ H Q ⟨Z, μ, η, e, st, g⟩ => ?_
  subst e
  refine ⟨Z, μ, η, rfl, st, Gd.bind g fun Z1 μ1 d v s1 x1 r1 g1 => ?_⟩
  cases r1 with
  | int i => exact ⟨i, rfl, Gd.pure g1 s1 (.int _)⟩
  | _ => exact False.elim g1
theorem nb {op : CmpOp} (h : noSet b = true) : behindInMarks op b = false := by
  cases b <;> first | rfl | cases h
theorem s_cmp {op : CmpOp} (hu : X.A.units + 64 < cLine) (ha : VE X Z0 W a ma) (hb : VE X Z0 W b mb) (hm : noSet b = true) : VE X Z0 W (.Compare a [op] [b] pos) (bind2 ma mb fun x y => M.opt ((cmpO op x y).map .bl)) :=
  peI (pe_cmpR (op_cmpO hu op) ha hb (nb hm)) fun σ H Q h => two h
/-- a test from the value of the same bool -/
theorem two_t {f : D → D → Option Bool} {σ : L2.St} {H : Hp} {Q : Bool → Hp → Prop} (h : tT X.K X.mg Z0 W (fun η => M.bind (ma η) fun x => M.bind (mb η) fun y => M.opt (f x y)) σ H Q) :
    tOp (rD2 X.K X.mg fun x y => (f x y).map .bl) (tE X.K X.mg Z0 W ma) (tE X.K X.mg Z0 W mb) σ H (fun x H' => ∃ k, x = .bl k ∧ Q k H') := by
  obtain ⟨Z, μ, η, e, st, g⟩ := h
  subst e
  refine ⟨Z, μ, η, rfl, st, Gd.bind g fun Z1 μ1 d v s1 x1 r1 g1 => ?_⟩
  refine ⟨Z1, μ1, η, rfl, s1, Gd.bind g1 fun Z2 μ2 d2 v2 s2 x2 r2 g2 => ?_⟩
  refine ⟨Z2, μ2, d, d2, rfl, s2.wk, r1.mo x2.toMo, r2, ?_⟩
  show PostD X.K X.mg Z2 μ2 ((f d d2).map .bl) _
  cases q : f d d2 with
  | none => rw [q] at g2; exact g2
  | some k =>
    rw [q] at g2
    intro Z' v' wk x r
    cases r
    exact ⟨k, rfl, g2 Z' k (s2.go x wk) x rfl⟩
theorem s_cmpT {op : CmpOp} (hu : X.A.units + 64 < cLine) (ha : VE X Z0 W a ma) (hb : VE X Z0 W b mb) (hm : noSet b = true) : VT X Z0 W (.Compare a [op] [b] pos) (fun η => M.bind (ma η) fun x => M.bind (mb η) fun y => M.opt (cmpO op x y)) :=
  ptI (pt_cmpR (op_cmpO hu op) ha hb (nb hm)) fun σ H Q h => two_t h
theorem lm {o1 o2 : CmpOp} (h : noSet c = true) : lastMarks [o1, o2] [b, c] = false := by
  cases c <;> first | rfl | cases h
theorem s_chn {o1 o2 : CmpOp} (hu : X.A.units + 64 < cLine) (ha : VE X Z0 W a ma) (hb : VE X Z0 W b mb) (hc : VE X Z0 W c mc) (hm : noSet c = true) : VE X Z0 W (.Compare a [o1, o2] [b, c] pos)
    (fun η => M.bind (ma η) fun x => M.bind (mb η) fun y => M.bind (M.opt (cmpO o1 x y)) fun k => if k = true then M.bind (mc η) (fun z => M.opt ((cmpO o2 y z).map .bl)) else M.pure (.bl false)) := by
  refine peI (pe_chain (op_cmpO (mg := X.mg) hu o1) (op_cmpO (mg := X.mg) hu o2) ha hb hc (lm hm)) fun σ H Q ⟨Z, μ, η, e, st, g⟩ => ?_
  subst e
  refine ⟨Z, μ, η, rfl, st, Gd.bind g fun Z1 μ1 d v s1 x1 r1 g1 => ?_⟩
  refine ⟨Z1, μ1, η, rfl, s1, Gd.bind g1 fun Z2 μ2 d2 v2 s2 x2 r2 g2 => ?_⟩
  obtain ⟨k, ek, g3⟩ := Gd.bindOpt g2
  refine ⟨Z2, μ2, d, d2, rfl, s2.wk, r1.mo x2.toMo, r2, ?_⟩
  show PostD X.K X.mg Z2 μ2 ((cmpO o1 d d2).map .bl) _
  rw [ek]
  intro Z3 v3 wk3 x3 r3
  cases r3
  refine ⟨k, rfl, ?_⟩
  have s3 := s2.go x3 wk3
  cases k with
  | false =>
    rw [if_neg Bool.false_ne_true]
    rw [if_neg Bool.false_ne_true] at g3
    exact Gd.pure (Gd.shift x3 g3) s3 (.bl false)
  | true =>
    rw [if_pos rfl]
    rw [if_pos rfl] at g3
    refine ⟨Z3, μ2, η, rfl, s3, Gd.bind (Gd.shift x3 g3) fun Z4 μ4 d4 v4 s4 x4 r4 g4 => ?_⟩
    exact ⟨Z4, μ4, d2, d4, rfl, s4.wk, (r2.mo x3.toMo).mo x4.toMo, r4, g4.post s4⟩
theorem s_chnT {o1 o2 : CmpOp} (hu : X.A.units + 64 < cLine) (ha : VE X Z0 W a ma) (hb : VE X Z0 W b mb) (hc : VE X Z0 W c mc) (hm : noSet c = true) : VT X Z0 W (.Compare a [o1, o2] [b, c] pos)
    (fun η => M.bind (ma η) fun x => M.bind (mb η) fun y => M.bind (M.opt (cmpO o1 x y)) fun k => if k = true then M.bind (mc η) (fun z => M.opt (cmpO o2 y z)) else M.pure false) := by
  refine ptI (pt_chain (op_cmpO (mg := X.mg) hu o1) (op_cmpO (mg := X.mg) hu o2) ha hb hc (lm hm)) fun σ H Q ⟨Z, μ, η, e, st, g⟩ => ?_
  subst e
  refine ⟨Z, μ, η, rfl, st, Gd.bind g fun Z1 μ1 d v s1 x1 r1 g1 => ?_⟩
  refine ⟨Z1, μ1, η, rfl, s1, Gd.bind g1 fun Z2 μ2 d2 v2 s2 x2 r2 g2 => ?_⟩
  obtain ⟨k, ek, g3⟩ := Gd.bindOpt g2
  refine ⟨Z2, μ2, d, d2, rfl, s2.wk, r1.mo x2.toMo, r2, ?_⟩
  show PostD X.K X.mg Z2 μ2 ((cmpO o1 d d2).map .bl) _
  rw [ek]
  intro Z3 v3 wk3 x3 r3
  cases r3
  refine ⟨k, rfl, ?_⟩
  have s3 := s2.go x3 wk3
  cases k with
  | false =>
    rw [if_neg Bool.false_ne_true]
    rw [if_neg Bool.false_ne_true] at g3
    exact ⟨false, rfl, Gd.pure (Gd.shift x3 g3) s3 rfl⟩
  | true =>
    rw [if_pos rfl]
    rw [if_pos rfl] at g3
    refine ⟨Z3, μ2, η, rfl, s3, Gd.bind (Gd.shift x3 g3) fun Z4 μ4 d4 v4 s4 x4 r4 g4 => ?_⟩
    refine ⟨Z4, μ4, d2, d4, rfl, s4.wk, (r2.mo x3.toMo).mo x4.toMo, r4, ?_⟩
    cases q : cmpO o2 d2 d4 with
    | none => rw [q] at g4; exact g4.elim
    | some k2 =>
      rw [q] at g4
      show PostD X.K X.mg Z4 μ4 ((cmpO o2 d2 d4).map .bl) _
      rw [q]
      intro Z5 v5 wk5 x5 r5
      cases r5
      exact ⟨k2, rfl, g4 Z5 k2 (s4.go x5 wk5) x5 rfl⟩
/-! and, or, not -/
theorem s_one {op : BoolOp} (h : VE X Z0 W a ma) : VE X Z0 W (.BoolOp op [a] pos) ma := pe_one h
theorem blM_inv {K : PySem.W.Frag} {mg : Str → Option Value} {Z : Zt} {μ : Wd} {η : Env'} {σ : L2.St} {γ δ : Type} {S : Zt → γ → δ → Prop} {d : D} {v : V} {k : Bool → M γ} {Q : δ → Hp → Prop} (r : Rel K mg Z d v) (g : Gd K mg S Z0 W σ η Z (M.bind (blM d) k μ) Q) : ∃ c, d = .bl c ∧ v = .bl c ∧ Gd K mg S Z0 W σ η Z (k c μ) Q := by
  cases r with
  | bl c => exact ⟨c, rfl, rfl, g⟩
  | _ => exact False.elim g
theorem s_and {rest : List Expr} (ha : VE X Z0 W a ma) (hb : VE X Z0 W (.BoolOp .And (b :: rest) pos) mb) : VE X Z0 W (.BoolOp .And (a :: b :: rest) pos) (andM ma mb) := by
  refine peI (pe_and ha hb) fun σ H Q ⟨Z, μ, η, e, st, g⟩ => ?_
  subst e
  refine ⟨Z, μ, η, rfl, st, Gd.bind g fun Z1 μ1 d v s1 x1 r1 g1 => ?_⟩
  obtain ⟨c, rfl, rfl, g2⟩ := blM_inv r1 g1
  refine ⟨c, rfl, ?_⟩
  cases c with
  | true => rw [if_pos rfl] at g2 ⊢; exact ⟨Z1, μ1, η, rfl, s1, g2⟩
  | false => rw [if_neg Bool.false_ne_true] at g2 ⊢; exact Gd.pure g2 s1 (.bl false)
theorem s_or {rest : List Expr} (ha : VE X Z0 W a ma) (hb : VE X Z0 W (.BoolOp .Or (b :: rest) pos) mb) : VE X Z0 W (.BoolOp .Or (a :: b :: rest) pos) (orM ma mb) := by
  refine peI (pe_or ha hb) fun σ H Q ⟨Z, μ, η, e, st, g⟩ => ?_
  subst e
  refine ⟨Z, μ, η, rfl, st, Gd.bind g fun Z1 μ1 d v s1 x1 r1 g1 => ?_⟩
  obtain ⟨c, rfl, rfl, g2⟩ := blM_inv r1 g1
  refine ⟨c, rfl, ?_⟩
  cases c with
  | true => rw [if_pos rfl] at g2 ⊢; exact Gd.pure g2 s1 (.bl true)
  | false => rw [if_neg Bool.false_ne_true] at g2 ⊢; exact ⟨Z1, μ1, η, rfl, s1, g2⟩
theorem s_not (ha : VE X Z0 W a ma) : VE X Z0 W (.UnaryOp .Not a pos) (fun η => M.bind (ma η) fun d => M.bind (blM d) fun c => M.pure (.bl (!c))) := by
  refine peI (pe_not ha) fun σ H Q ⟨Z, μ, η, e, st, g⟩ => ?_
  subst e
  refine ⟨Z, μ, η, rfl, st, Gd.bind g fun Z1 μ1 d v s1 x1 r1 g1 => ?_⟩
  obtain ⟨c, rfl, rfl, g2⟩ := blM_inv r1 g1
  exact ⟨c, rfl, Gd.pure g2 s1 (.bl _)⟩
variable {ta tb : Env' → M Bool}
abbrev VW (X : Cx) (Z0 : Zt) (W : WX) (e : Expr) (m : Env' → M Bool) : Prop := PW X e (tT X.K X.mg Z0 W m)
theorem s_and1 (ha : VT X Z0 W a ta) : VW X Z0 W (.BoolOp .And [a] pos) ta := pw_and1 ha
theorem s_or1 (ha : VT X Z0 W a ta) : VW X Z0 W (.BoolOp .Or [a] pos) ta := pw_or1 ha
theorem s_andT {rest : List Expr} (ha : VT X Z0 W a ta) (hb : VW X Z0 W (.BoolOp .And (b :: rest) pos) tb) : VW X Z0 W (.BoolOp .And (a :: b :: rest) pos) (andT ta tb) := by
  refine pwI (pw_and ha hb) fun σ H Q ⟨Z, μ, η, e, st, g⟩ => ?_
  subst e
  refine ⟨Z, μ, η, rfl, st, Gd.bind g fun Z1 μ1 c c' s1 x1 r1 g1 => ?_⟩
  subst r1
  cases c with
  | true => rw [if_pos rfl] at g1 ⊢; exact ⟨Z1, μ1, η, rfl, s1, g1⟩
  | false => rw [if_neg Bool.false_ne_true] at g1 ⊢; exact Gd.pure g1 s1 rfl
theorem s_orT {rest : List Expr} (ha : VT X Z0 W a ta) (hb : VW X Z0 W (.BoolOp .Or (b :: rest) pos) tb) : VW X Z0 W (.BoolOp .Or (a :: b :: rest) pos) (orT ta tb) := by
  refine pwI (pw_or ha hb) fun σ H Q ⟨Z, μ, η, e, st, g⟩ => ?_
  subst e
  refine ⟨Z, μ, η, rfl, st, Gd.bind g fun Z1 μ1 c c' s1 x1 r1 g1 => ?_⟩
  subst r1
  cases c with
  | true => rw [if_pos rfl] at g1 ⊢; exact Gd.pure g1 s1 rfl
  | false => rw [if_neg Bool.false_ne_true] at g1 ⊢; exact ⟨Z1, μ1, η, rfl, s1, g1⟩
theorem s_notT (ha : VT X Z0 W a ta) : VT X Z0 W (.UnaryOp .Not a pos) (fun η => M.bind (ta η) fun c => M.pure (!c)) := by
  refine ptI (pt_not ha) fun σ H Q ⟨Z, μ, η, e, st, g⟩ => ?_
  subst e
  refine ⟨Z, μ, η, rfl, st, Gd.bind g fun Z1 μ1 c c' s1 x1 r1 g1 => ?_⟩
  subst r1
  exact Gd.pure g1 s1 rfl
theorem s_ite {t : Expr} {tt : Env' → M Bool} (ht : VT X Z0 W t tt) (ha : VE X Z0 W a ma) (hb : VE X Z0 W b mb) : VE X Z0 W (.IfExp t a b pos) (fun η => M.bind (tt η) fun c => if c = true then ma η else mb η) := by
  refine peI (pe_ifExp ht ha hb) fun σ H Q ⟨Z, μ, η, e, st, g⟩ => ?_
  subst e
  refine ⟨Z, μ, η, rfl, st, Gd.bind g fun Z1 μ1 c c' s1 x1 r1 g1 => ?_⟩
  subst r1
  cases c with
  | true => rw [if_pos rfl] at g1 ⊢; exact ⟨Z1, μ1, η, rfl, s1, g1⟩
  | false => rw [if_neg Bool.false_ne_true] at g1 ⊢; exact ⟨Z1, μ1, η, rfl, s1, g1⟩
theorem pt_ifE {t a b : Expr} {tc tA tB : TT} {pos : Pos} (hc : PT X t tc) (ha : PT X a tA) (hb : PT X b tB) : PT X (.IfExp t a b pos) (fun σ H Q => tc σ H fun c H1 => if c = true then tA σ H1 Q else tB σ H1 Q) := by
  refine ⟨fun pins s σ H Q I h => ?_⟩
  show wpAny _ _ (do if ← isTrue t X.env (eval t X.env) then isTrue a X.env (eval a X.env) else isTrue b X.env (eval b X.env)) _ _ _
  refine wpAny_bind (thn (hc.run pins s σ H _ I h) fun d s1 ⟨H1, I1, q1⟩ => ?_)
  cases d with
  | true => exact ha.run pins s1 σ H1 Q I1 q1
  | false => exact hb.run pins s1 σ H1 Q I1 q1
theorem s_iteT {t : Expr} {tt : Env' → M Bool} (ht : VT X Z0 W t tt) (ha : VT X Z0 W a ta) (hb : VT X Z0 W b tb) : VT X Z0 W (.IfExp t a b pos) (fun η => M.bind (tt η) fun c => if c = true then ta η else tb η) := by
  refine ptI (pt_ifE ht ha hb) fun σ H Q ⟨Z, μ, η, e, st, g⟩ => ?_
  subst e
  refine ⟨Z, μ, η, rfl, st, Gd.bind g fun Z1 μ1 c c' s1 x1 r1 g1 => ?_⟩
  subst r1
  cases c with
  | true => rw [if_pos rfl] at g1 ⊢; exact ⟨Z1, μ1, η, rfl, s1, g1⟩
  | false => rw [if_neg Bool.false_ne_true] at g1 ⊢; exact ⟨Z1, μ1, η, rfl, s1, g1⟩
/-! truth -/
theorem truV_of {K : PySem.W.Frag} {mg : Str → Option Value} {Z : Zt} {μ : Wd} (wk : Wk K mg Z μ) {d : D} {v : V} {k : Bool} (r : Rel K mg Z d v) (h : truO d = some k) : TruV K v Z.H k := by
  cases r with
  | non => cases h; exact rfl
  | bl b => cases h; exact rfl
  | int i => cases h; exact rfl
  | str s =>
    have h' : (if s.length ≤ sizeLine then some (s.length != 0) else none) = some k := h
    by_cases hz : s.length ≤ sizeLine
    · rw [if_pos hz] at h'
      cases h'
      refine ⟨hz, ?_⟩
      cases hl : s.length with
      | zero => rfl
      | succ n => rfl
    · rw [if_neg hz] at h'; cases h'
  | @tup ds vs a hq rl =>
    cases h
    refine .inr (.inl ⟨vs, wk.sqT hq, ?_⟩)
    cases rl <;> rfl
  | @lst ds vs a hq rl =>
    cases h
    refine .inl ⟨vs, wk.sqL hq, ?_⟩
    cases rl <;> rfl
  | ref h' => cases h
  | glo h' => cases h
  | exn0 h' e => cases h
  | exn1 h' e ed r => cases h
def plainT (e : Expr) : Bool := match e with
  | .UnaryOp op _ _ => !decide (op = .Not)
  | .BoolOp _ _ _ => false
  | .IfExp _ _ _ _ => false
  | .Compare _ _ _ _ => false
  | _ => true
theorem plainT_is {X : Cx} {e : Expr} (h : plainT e = true) : ∀ whole, isTrue e X.env whole = (do let v ← whole; standAt e.pos; holding [v] (truthy v)) := by
  intro whole
  cases e with
  | UnaryOp op x p => cases op <;> first | rfl | cases h
  | BoolOp _ _ _ => cases h
  | IfExp _ _ _ _ => cases h
  | Compare _ _ _ _ => cases h
  | _ => rfl
theorem s_tru (hp : plainT a = true) (ha : VE X Z0 W a ma) : VT X Z0 W a (fun η => M.bind (ma η) fun d => M.opt (truO d)) := by
  refine ptI (pt_truth ha (plainT_is hp)) fun σ H Q ⟨Z, μ, η, e, st, g⟩ => ?_
  subst e
  refine ⟨Z, μ, η, rfl, st, Gd.bind g fun Z1 μ1 d v s1 x1 r1 g1 => ?_⟩
  obtain ⟨k, e, q⟩ := Gd.opt g1 s1
  exact ⟨k, truV_of s1.wk r1 e, q k rfl⟩
theorem s_truL {ml : Env' → M (List D)} (hp : plainT a = true) (ha : VL X Z0 W a ml) : VT X Z0 W a (fun η => M.bind (ml η) fun ds => M.pure (!ds.isEmpty)) := by
  refine ptI (s_tru hp (pe_frz ha)) fun σ H Q ⟨Z, μ, η, e, st, g⟩ => ⟨Z, μ, η, e, st, ?_⟩
  have ee : (M.bind (M.bind (ml η) fun ds => M.pure (.lst ds)) fun d => M.opt (truO d)) μ = (M.bind (ml η) fun ds => M.pure (!ds.isEmpty)) μ := by
    unfold M.bind
    cases ml η μ <;> rfl
  show Gd X.K X.mg _ Z0 W σ η Z ((M.bind (M.bind (ml η) fun ds => M.pure (.lst ds)) fun d => M.opt (truO d)) μ) Q
  rw [ee]
  exact g
/-! arguments, displays -/
variable {es : List Expr} {as : Env' → M (List D)}
theorem s_nil : VA X Z0 W [] (fun _ => M.pure []) := paI pa_nil fun σ H Q ⟨Z, μ, η, e, st, g⟩ => by subst e; exact Gd.pure g st .nil
theorem star_eq {X : Cx} {e : Expr} {es : List Expr} (h : noStar e = true) : starEach (e :: es) X.env = (false, eval e X.env) :: starEach es X.env := by
  cases e <;> first | rfl | cases h
theorem s_cons (hs : noStar a = true) (ha : VE X Z0 W a ma) (hb : VA X Z0 W es as) : VA X Z0 W (a :: es) (fun η => M.bind (ma η) fun d => M.bind (as η) fun ds => M.pure (d :: ds)) := by
  refine paI (pa_cons ha hb (star_eq hs)) fun σ H Q ⟨Z, μ, η, e, st, g⟩ => ?_
  subst e
  refine ⟨Z, μ, η, rfl, st, Gd.bind g fun Z1 μ1 d v s1 x1 r1 g1 => ?_⟩
  refine ⟨Z1, μ1, η, rfl, s1, Gd.bind g1 fun Z2 μ2 ds vs s2 x2 r2 g2 => ?_⟩
  exact Gd.pure g2 s2 (.cons (r1.mo x2.toMo) r2)
theorem s_tup {k : Nat} (h : VA X Z0 W es as) : VE X Z0 W (.Tuple es k pos) (fun η => M.bind (as η) fun ds => if ds.length ≤ sizeLine then M.pure (.tup ds) else M.fail) := by
  refine peI (pe_tup h) fun σ H Q ⟨Z, μ, η, e, st, g⟩ => ?_
  subst e
  refine ⟨Z, μ, η, rfl, st, Gd.bind g fun Z1 μ1 ds vs s1 x1 r1 g1 => ?_⟩
  by_cases hz : ds.length ≤ sizeLine
  · rw [if_pos hz] at g1
    exact ⟨by rw [← r1.length]; exact hz, fun p n => Gd.newTup g1 s1 n r1⟩
  · rw [if_neg hz] at g1; exact g1.elim
theorem s_lst (h : VA X Z0 W es as) : VL X Z0 W (.List es pos) (fun η => M.bind (as η) fun ds => if ds.length ≤ sizeLine then M.pure ds else M.fail) := by
  refine peI (pe_lst h) fun σ H Q ⟨Z, μ, η, e, st, g⟩ => ?_
  subst e
  refine ⟨Z, μ, η, rfl, st, Gd.bindL g fun Z1 μ1 ds vs s1 x1 r1 g1 => ?_⟩
  by_cases hz : ds.length ≤ sizeLine
  · rw [if_pos hz] at g1
    exact ⟨by rw [← r1.length]; exact hz, fun p n => g1 Z1 p vs s1 (Ext.refl Z1) r1 n⟩
  · rw [if_neg hz] at g1; exact g1.elim
/-! calls -/
theorem plain_args {X : Cx} {pos : Pos} : ∀ {es : List Expr}, (es.all noStar) = true → (backTo pos (starEach es X.env)).any (·.1) = false
  | [], _ => rfl
  | e :: es, h => by
    rw [List.all_cons, Bool.and_eq_true] at h
    rw [star_eq h.1]
    show (false || (backTo pos (starEach es X.env)).any (·.1)) = false
    rw [plain_args h.2]; rfl
theorem s_call {x : Str} {f : Addr} {k n : Nat} {fn : List D → M D} {e : Expr} {p : Pos} (hx0 : Z0.x = none) (hr : Room k X.A) (hgd : X.A.guards = some []) (tk : Takes X W) (hg : Gl X x) (hm : X.mg x = some (.ref f)) (hk : PySem.W.keepIn X.K (.ref f) = true)
    (F : FnG X.prog X.w X.K X.mg X.base k f n (spOf X.K X.mg n fn)) (hs : ((e :: es).all noStar) = true) (ha : VA X Z0 W (e :: es) as) (hd : (x == ("__debug__" : Str)) = false) (hn : ∀ ds μ, ds.length ≠ n → fn ds μ = .stuck) :
    VE X Z0 W (.Call (.Name x p) (e :: es) [] pos) (fun η => M.bind (as η) fun ds => fn ds) := by
  have hs' : noStar e = true ∧ es.all noStar = true := by rw [List.all_cons, Bool.and_eq_true] at hs; exact hs
  refine peI (pe_callG F hr hgd hg hm hk (fun σ => passAt tk σ) ha hd (star_eq hs'.1) (plain_args hs'.2)) fun σ H Q ⟨Z, μ, η, e, st, g⟩ => ?_
  subst e
  refine ⟨Z, μ, η, rfl, st, Gd.bind g fun Z1 μ1 ds vs s1 x1 r1 g1 => ?_⟩
  by_cases hl : ds.length = n
  · refine ⟨Z1, μ1, ds, rfl, s1.wk, r1, hl, by rw [s1.ext.x]; exact hx0, ?_⟩
    cases q : fn ds μ1 with
    | stuck => rw [q] at g1; exact g1
    | ok d w =>
      rw [q] at g1
      exact fun Z2 v wk x r => g1 Z2 v (s1.go x wk) x r
    | exc c fs w =>
      rw [q] at g1
      exact fun Z2 cls dx wk x r => g1 Z2 cls dx (s1.go x wk) x r
  · rw [hn ds μ1 hl] at g1; exact g1.elim
theorem s_blt {f : Bf} {e : Expr} {p : Pos} (hc : X.calm = true ∨ f = .repr) (hgd : X.A.guards = some []) (hu : X.A.units + 64 < cLine) (hg : Gl X f.name) (hm : (f ≠ .gcd → X.mg f.name = none) ∧ (f = .gcd → X.mg f.name = some (.builtin "math.gcd"))) (hs : ((e :: es).all noStar) = true) (ha : VA X Z0 W (e :: es) as) :
    VE X Z0 W (.Call (.Name f.name p) (e :: es) [] pos) (fun η => M.bind (as η) fun ds => M.opt (bltO f ds)) := by
  have hs' : noStar e = true ∧ es.all noStar = true := by rw [List.all_cons, Bool.and_eq_true] at hs; exact hs
  have hv : X.mg f.name = some f.val ∨ (X.mg f.name = none ∧ bootBuiltins f.name = some f.val) := by
    by_cases h : f = .gcd
    · subst h; exact .inl (hm.2 rfl)
    · exact .inr ⟨hm.1 h, f.boot h⟩
  have cr : CallR X f.val (rDs X.K X.mg (bltO f)) := by
    rcases hc with hc | rfl
    · exact cr_bltO hc hgd hu f
    · exact cr_repr hgd hu
  refine peI (pe_callV f.kind cr hg hv ha (by cases f <;> decide) (by cases f <;> decide) (star_eq hs'.1) (plain_args hs'.2)) fun σ H Q ⟨Z, μ, η, e, st, g⟩ => ?_
  subst e
  exact ⟨Z, μ, η, rfl, st, Gd.bind g fun Z1 μ1 ds vs s1 x1 r1 g1 => ⟨Z1, μ1, ds, rfl, s1.wk, r1, Gd.post g1 s1⟩⟩
theorem s_lsl {p : Pos} (hg : Gl X "list") (hm : X.mg "list" = none) (hs : noStar a = true) (ha : VE X Z0 W a ma) : VL X Z0 W (.Call (.Name "list" p) [a] [] pos) (fun η => M.bind (ma η) fun d => M.opt (listO d)) := by
  refine peI (pe_callV (.inr ⟨_, rfl⟩) call_list_of hg (.inr ⟨hm, boot_list⟩) (pa_cons ha pa_nil (star_eq hs)) (by decide) (by decide) (star_eq hs) rfl) fun σ H Q ⟨Z, μ, η, e, st, g⟩ => ?_
  subst e
  refine ⟨Z, μ, η, rfl, st, Gd.bindL g fun Z1 μ1 d v s1 x1 r1 g1 => ?_⟩
  cases r1 with
  | @tup ds vs q h r => exact ⟨q, vs, rfl, .inr (s1.wk.sqT h), fun l n => g1 Z1 l vs s1 (Ext.refl Z1) r n⟩
  | @lst ds vs q h r => exact ⟨q, vs, rfl, .inl (s1.wk.sqL h), fun l n => g1 Z1 l vs s1 (Ext.refl Z1) r n⟩
  | _ => exact False.elim g1
end
end Dn

/-! Dn 9: subscripts, slices, isinstance, own lists, fields of a caught error. -/
namespace Dn
open PySem PySem.Spec PyProof.Rows L2

section
variable {K : PySem.W.Frag} {mg : Str → Option Value} {Z Z' Z0 : Zt} {μ μ' : Wd} {η : Env'} {σ : L2.St} {W : WX}
theorem Gd.bindE {α β γ δ : Type} {R : Zt → α → β → Prop} {S : Zt → γ → δ → Prop} {m : M α} {k : α → M γ} {Q : δ → Hp → Prop} {Q' : β → Hp → Prop} (g : Gd K mg S Z0 W σ η Z (M.bind m k μ) Q)
    (hk : ∀ Z' μ' a b, m μ = .ok a μ' → Stt K mg Z0 Z' μ' η σ → Ext Z Z' → R Z' a b → Gd K mg S Z0 W σ η Z' (k a μ') Q → Q' b Z'.H) : Gd K mg R Z0 W σ η Z (m μ) Q' := by
  unfold M.bind at g
  cases e : m μ with
  | stuck => rw [e] at g; exact g
  | ok a w =>
    rw [e] at g
    exact fun Z2 b s x r => hk Z2 w a b e s x r (g.shift x)
  | exc c fs w => rw [e] at g; exact g
theorem RelL.atI {ds : List D} {vs : List V} {i : Int} {d : D} (r : RelL K mg Z ds vs) (h : atI ds i = some d) : ∃ v, L2.atI vs i = some v ∧ Rel K mg Z d v := by
  unfold L2.atI at h ⊢
  rw [← r.length]
  cases e : ixN ds.length i with
  | none => rw [e] at h; cases h
  | some j =>
    rw [e] at h
    exact r.get h
theorem kvGet_rel {l : List (Key × D)} {r : List (Key × V)} {k : Key} {d : D} (h : RelKV K mg Z l r) (e : kvGet k l = some d) : ∃ v, valV r k = some v ∧ Rel K mg Z d v := by
  induction h with
  | nil => cases e
  | @cons p q l r h t ih =>
    obtain ⟨x, e1⟩ := p
    obtain ⟨y, v⟩ := q
    obtain ⟨h1, h2⟩ := h
    simp only at h1 h2
    subst h1
    have e' : (if x = k then some e1 else kvGet k l) = some d := e
    by_cases hx : x = k
    · rw [if_pos hx] at e'
      cases e'
      exact ⟨v, valV_pos (p := (x, v)) hx, h2⟩
    · rw [if_neg hx] at e'
      rw [valV_neg (p := (x, v)) hx]
      exact ih e'
theorem keyO_rel {d : D} {v : V} {k : Key} (r : Rel K mg Z d v) (e : keyO d = some k) : v = kV k := by
  cases r with
  | int i => cases e; rfl
  | str s => cases e; rfl
  | _ => cases e
end
section
variable {X : Cx} {Z0 : Zt} {W : WX} {a b c : Expr} {ma mb mc : Env' → M D} {pos : Pos}
theorem plainIx_of {b : Expr} (h : noSlice b = true) : PlainIx b := by
  intro o i
  cases b <;> first | rfl | cases h
theorem s_ix (hu : X.A.units + 64 < cLine) (ha : VE X Z0 W a ma) (hb : VE X Z0 W b mb) (hs : noSlice b = true) : VE X Z0 W (.Subscript a b pos) (bind2 ma mb ixM) := by
  refine peI (peOr (pe_ix ix_seq ha hb (plainIx_of hs)) (pe_dget (by omega) ha hb (plainIx_of hs))) fun σ H Q ⟨Z, μ, η, e, st, g⟩ => ?_
  subst e
  by_cases hr : ∃ n w, ma η μ = .ok (.ref n) w
  · obtain ⟨n, w, hr⟩ := hr
    right
    refine ⟨Z, μ, η, rfl, st, Gd.bindE g fun Z1 μ1 d v e1 s1 x1 r1 g1 => ?_⟩
    rw [hr] at e1
    cases e1
    cases r1 with
    | @ref _ a h =>
      refine ⟨Z1, w, η, rfl, s1, Gd.bind g1 fun Z2 μ2 d2 v2 s2 x2 r2 g2 => ?_⟩
      have h2 := x2.i _ _ h
      have g3 : Gd X.K X.mg (Rel X.K X.mg) Z0 W σ η Z2 (match μ2[n]?, keyO d2 with
        | some (.dct kvs), some k => (match kvGet k kvs with | some d => .ok d μ2 | none => .stuck)
        | _, _ => .stuck) Q := g2
      cases e3 : μ2[n]? with
      | none => rw [e3] at g3; exact g3.elim
      | some o =>
        rw [e3] at g3
        cases o with
        | exo c fs => exact g3.elim
        | dct kvs =>
          cases e4 : keyO d2 with
          | none => rw [e4] at g3; exact g3.elim
          | some k =>
            rw [e4] at g3
            simp only at g3
            cases e5 : kvGet k kvs with
            | none => rw [e5] at g3; exact g3.elim
            | some d3 =>
              rw [e5] at g3
              obtain ⟨hF, vs, hH, hkv⟩ := s2.wk.obj n a _ h2 e3
              obtain ⟨v3, ev, rv⟩ := kvGet_rel hkv e5
              have ek := keyO_rel r2 e4
              exact ⟨a, v3, rfl, .inl ⟨vs, k, .inl hH, ek, ev.symm⟩, Gd.pure g3 s2 rv⟩
  · left
    refine ⟨Z, μ, η, rfl, st, Gd.bindE g fun Z1 μ1 d v e1 s1 x1 r1 g1 => ?_⟩
    refine ⟨Z1, μ1, η, rfl, s1, Gd.bind g1 fun Z2 μ2 d2 v2 s2 x2 r2 g2 => ?_⟩
    have r1' := r1.mo x2.toMo
    have fin : ∀ {o : Option D}, Gd X.K X.mg (Rel X.K X.mg) Z0 W σ η Z2 (match o with | some d => .ok d μ2 | none => .stuck) Q → ∃ d, o = some d ∧ ∀ v, Rel X.K X.mg Z2 d v → Q v Z2.H := fun {o} g => by
      cases o with
      | none => exact g.elim
      | some d => exact ⟨d, rfl, fun v r => Gd.pure g s2 r⟩
    cases r1' with
    | ref _ => exact (hr ⟨_, _, e1⟩).elim
    | @tup ds vs q h r =>
      cases r2 with
      | int i =>
        obtain ⟨d, e, q2⟩ := fin (o := atI ds i) g2
        obtain ⟨v3, ev, rv⟩ := r.atI e
        exact .inr (.inl ⟨q, vs, i, v3, rfl, rfl, s2.wk.sqT h, ev, q2 _ rv⟩)
      | _ => exact False.elim g2
    | @lst ds vs q h r =>
      cases r2 with
      | int i =>
        obtain ⟨d, e, q2⟩ := fin (o := atI ds i) g2
        obtain ⟨v3, ev, rv⟩ := r.atI e
        exact .inl ⟨q, vs, i, v3, rfl, rfl, s2.wk.sqL h, ev, q2 _ rv⟩
      | _ => exact False.elim g2
    | str s =>
      cases r2 with
      | int i =>
        obtain ⟨d, e, q2⟩ := fin (o := if s.length ≤ sizeLine then (atI s.cps.toList i).map fun c => .str ⟨#[c]⟩ else none) g2
        by_cases hz : s.length ≤ sizeLine
        · rw [if_pos hz] at e
          cases ec : atI s.cps.toList i with
          | none => rw [ec] at e; cases e
          | some c =>
            rw [ec] at e
            cases e
            exact .inr (.inr ⟨s, i, c, rfl, rfl, hz, ec, q2 _ (.str _)⟩)
        · rw [if_neg hz] at e; cases e
      | _ => exact False.elim g2
    | _ => cases r2 <;> exact False.elim g2

/-! slices -/
abbrev VO (X : Cx) (Z0 : Zt) (W : WX) (l : Option Expr) (m : Env' → M (Option Int)) : Prop := PO X l (tG X.K X.mg (fun _ (o o' : Option Int) => o = o') Z0 W m)
theorem poI {X : Cx} {e : Option Expr} {t t' : TO} (h : PO X e t) (i : ∀ σ H Q, t' σ H Q → t σ H Q) : PO X e t' := ⟨fun pins s σ H Q I q => h.run pins s σ H Q I (i σ H Q q)⟩
theorem s_o0 : VO X Z0 W none (fun _ => M.pure none) := poI po_none fun σ H Q ⟨Z, μ, η, e, st, g⟩ => by subst e; exact Gd.pure g st rfl
theorem s_o1 (ha : VE X Z0 W a ma) : VO X Z0 W (some a) (bndM ma) := by
  refine poI (po_some ha) fun σ H Q ⟨Z, μ, η, e, st, g⟩ => ?_
  subst e
  refine ⟨Z, μ, η, rfl, st, Gd.bind g fun Z1 μ1 d v s1 x1 r1 g1 => ?_⟩
  cases r1 with
  | int i => exact ⟨i, rfl, Gd.pure g1 s1 rfl⟩
  | _ => exact False.elim g1
theorem RelL.cut {K : PySem.W.Frag} {mg : Str → Option Value} {Z : Zt} {ds : List D} {vs : List V} (r : RelL K mg Z ds vs) (lo hi : Option Int) : RelL K mg Z (cutD ds lo hi) (cutV vs lo hi) := by
  unfold cutD cutV
  rw [← r.length]
  exact (r.drop _).take _
theorem cutD_whole {α : Type} {ds : List α} {lo hi : Option Int} (h : HT.sIx ds.length 0 lo = 0 ∧ HT.sIx ds.length ds.length hi = ds.length) : cutD ds lo hi = ds := by
  unfold cutD
  rw [h.1, h.2]
  simp
theorem cutD_str (s : Str) (lo hi : Option Int) : (⟨(cutD s.cps.toList lo hi).toArray⟩ : Str) = cutS s lo hi := by
  unfold cutD cutS
  have e : s.cps.toList.length = s.length := by simp [Str.length]
  rw [e]
theorem s_slc {l h : Option Expr} {ml mh : Env' → M (Option Int)} {p2 : Pos} (ha : VE X Z0 W a ma) (hl : VO X Z0 W l ml) (hh : VO X Z0 W h mh) :
    VE X Z0 W (.Subscript a (.Slice l h none p2) pos) (fun η => M.bind (ma η) fun x => M.bind (ml η) fun l => M.bind (mh η) fun h => M.opt (slcO x l h)) := by
  refine peI (pe_slice ((sl_list (X := X)).or ((sl_tupA (X := X)).or sl_str)) ha hl hh) fun σ H Q ⟨Z, μ, η, e, st, g⟩ => ?_
  subst e
  refine ⟨Z, μ, η, rfl, st, Gd.bind g fun Z1 μ1 d v s1 x1 r1 g1 => ?_⟩
  refine ⟨Z1, μ1, η, rfl, s1, Gd.bind g1 fun Z2 μ2 lo lo' s2 x2 r2 g2 => ?_⟩
  subst r2
  refine ⟨Z2, μ2, η, rfl, s2, Gd.bind g2 fun Z3 μ3 hi hi' s3 x3 r3 g3 => ?_⟩
  subst r3
  have r1' := (r1.mo x2.toMo).mo x3.toMo
  cases r1' with
  | @tup ds vs q hq r =>
    refine .inr (.inl ⟨q, vs, rfl, s3.wk.sqT hq, fun hw => ?_, fun _ p n => Gd.newTup g3 s3 n (r.cut lo hi)⟩)
    rw [← r.length] at hw
    have g4 : Gd X.K X.mg (Rel X.K X.mg) Z0 W σ η Z3 (M.pure (.tup (cutD ds lo hi)) μ3) Q := g3
    rw [cutD_whole hw] at g4
    exact Gd.pure g4 s3 (.tup hq r)
  | @lst ds vs q hq r => exact .inl ⟨q, vs, rfl, s3.wk.sqL hq, fun p n => Gd.newLst g3 s3 n (r.cut lo hi)⟩
  | str s =>
    have g4 : Gd X.K X.mg (Rel X.K X.mg) Z0 W σ η Z3 (M.opt (if s.length ≤ sizeLine then some (.str ⟨(cutD s.cps.toList lo hi).toArray⟩) else none) μ3) Q := g3
    by_cases hz : s.length ≤ sizeLine
    · rw [if_pos hz, cutD_str] at g4
      exact .inr (.inr ⟨s, rfl, hz, Gd.pure g4 s3 (.str _)⟩)
    · rw [if_neg hz] at g4; exact g4.elim
  | _ => exact False.elim g3

/-! isinstance of built-in types -/
theorem tyX_of {K : PySem.W.Frag} {mg : Str → Option Value} {Z : Zt} {μ : Wd} (wk : Wk K mg Z μ) {d : D} {v : V} {n : String} (r : Rel K mg Z d v) (h : tyName d = some n) : TyX K Z.H v (.type n) := by
  cases r with
  | non => cases h; exact .base .non
  | bl b => cases h; exact .base (.bl b)
  | int i => cases h; exact .base (.int i)
  | str s => cases h; exact .base (.str s)
  | @tup ds vs q hq r =>
    cases h
    rcases wk.sqT hq with (h | ⟨o, h⟩) | ⟨o, its, n, h1, h2, _⟩
    · exact .base (.tup h)
    · exact .fTuple h
    · exact .kTuple h1 h2
  | @lst ds vs q hq r =>
    cases h
    rcases wk.sqL hq with (h | ⟨o, h⟩) | ⟨o, its, n, h1, h2, _⟩
    · exact .base (.lst h)
    · exact .base (.frz h)
    · exact .kList h1 h2
  | ref _ => cases h
  | glo _ => cases h
  | exn0 _ _ => cases h
  | exn1 _ _ _ _ => cases h
def tyNames : List String := ["NoneType", "bool", "int", "str", "tuple", "list"]
theorem tyName_mem {d : D} {n : String} (h : tyName d = some n) : n ∈ tyNames := by
  cases d <;> first | (cases h; decide) | cases h
theorem kitB_all : ∀ n ∈ tyNames, ∀ m ∈ ["int", "bool", "str", "tuple", "list"], kitB n m = some (n == m || (n == "bool" && m == "int")) := by decide +kernel
theorem boot_isi : bootBuiltins "isinstance" = some (.builtin "isinstance") := by decide +kernel
theorem boot_ty : ∀ m ∈ ["int", "bool", "str", "tuple", "list"], bootBuiltins (Str.ofString m) = some (.type m) ∧ Str.ofString m ≠ "__name__" ∧ (Str.ofString m == ("__debug__" : Str)) = false := by decide +kernel
theorem s_isi {m : String} {x : Str} {p q : Pos} (hg : Gl X "isinstance") (hm : X.mg "isinstance" = none) (hs : noStar a = true) (ha : VE X Z0 W a ma) (hx : x = Str.ofString m) (hmem : m ∈ ["int", "bool", "str", "tuple", "list"]) (hgx : Gl X x) (hmx : X.mg x = none) :
    VE X Z0 W (.Call (.Name "isinstance" p) [a, .Name x q] [] pos) (fun η => M.bind (ma η) fun d => M.opt ((isiO d [m]).map .bl)) := by
  subst hx
  obtain ⟨hb, hn, hd⟩ := boot_ty m hmem
  refine peI (pe_callV (.inl ⟨_, rfl⟩) call_isi hg (.inr ⟨hm, boot_isi⟩) (pa_cons ha (pa_cons (pe_bltn (v := .ty m) hgx hmx hb rfl hn hd) pa_nil rfl) (star_eq hs)) (by decide) (by decide) (star_eq hs) rfl) fun σ H Q ⟨Z, μ, η, e, st, g⟩ => ?_
  subst e
  refine ⟨Z, μ, η, rfl, st, Gd.bind g fun Z1 μ1 d v s1 x1 r1 g1 => ?_⟩
  have g2 : Gd X.K X.mg (Rel X.K X.mg) Z0 W σ η Z1 (M.opt (((tyName d).map fun t => [m].contains t || (t == "bool" && [m].contains "int")).map .bl) μ1) Q := g1
  cases et : tyName d with
  | none => rw [et] at g2; exact g2.elim
  | some t =>
    rw [et] at g2
    refine ⟨v, .ty m, .type t, .type m, _, rfl, .ty m, tyX_of s1.wk r1 et, kit_ty (kitB_all t (tyName_mem et) m hmem), ?_⟩
    have e2 : ([m].contains t || (t == "bool" && [m].contains "int")) = (t == m || (t == "bool" && m == "int")) := by
      simp only [List.contains_cons, List.contains_nil, Bool.or_false]
      congr 2
      exact Bool.beq_comm
    have g3 : Gd X.K X.mg (Rel X.K X.mg) Z0 W σ η Z1 (M.pure (.bl ([m].contains t || (t == "bool" && [m].contains "int"))) μ1) Q := g2
    rw [e2] at g3
    exact Gd.pure g3 s1 (.bl _)
theorem s_isi2 {p q q1 q2 : Pos} {k : Nat} (hg : Gl X "isinstance") (hm : X.mg "isinstance" = none) (hs : noStar a = true) (ha : VE X Z0 W a ma) (hgl : Gl X "list") (hml : X.mg "list" = none) (hgt : Gl X "tuple") (hmt : X.mg "tuple" = none) :
    VE X Z0 W (.Call (.Name "isinstance" p) [a, .Tuple [.Name "list" q1, .Name "tuple" q2] k q] [] pos) (fun η => M.bind (ma η) fun d => M.opt ((isiO d ["list", "tuple"]).map .bl)) := by
  refine peI (pe_callV (.inl ⟨_, rfl⟩) call_isiT hg (.inr ⟨hm, boot_isi⟩) (pa_cons ha (pa_cons (pe_tup (pa_cons (pe_bltn (v := .ty "list") hgl hml (boot_ty "list" (by decide)).1 rfl) (pa_cons (pe_bltn (v := .ty "tuple") hgt hmt (boot_ty "tuple" (by decide)).1 rfl) pa_nil rfl) rfl)) pa_nil rfl) (star_eq hs)) (by decide) (by decide) (star_eq hs) rfl) fun σ H Q ⟨Z, μ, η, e, st, g⟩ => ?_
  subst e
  refine ⟨Z, μ, η, rfl, st, Gd.bind g fun Z1 μ1 d v s1 x1 r1 g1 => ?_⟩
  have g2 : Gd X.K X.mg (Rel X.K X.mg) Z0 W σ η Z1 (M.opt (((tyName d).map fun t => ["list", "tuple"].contains t || (t == "bool" && ["list", "tuple"].contains "int")).map .bl) μ1) Q := g1
  cases et : tyName d with
  | none => rw [et] at g2; exact g2.elim
  | some t =>
    rw [et] at g2
    refine ⟨by rw [sizeLine_eq]; decide, fun l n => ?_⟩
    have x2 := ext_own (Z := Z1) (o := .tup [.ty "list", .ty "tuple"]) n
    have w2 := wk_own (o := .tup [.ty "list", .ty "tuple"]) n s1.wk
    have hmem := tyName_mem et
    have h1 := kitB_all t hmem "list" (by decide)
    have h2 := kitB_all t hmem "tuple" (by decide)
    have ty := tyX_of (Z := ⟨Z1.F, Z1.ι, upd Z1.H l (.tup [.ty "list", .ty "tuple"]), Z1.x⟩) w2 (r1.mo x2.toMo) et
    refine ⟨v, l, [.ty "list", .ty "tuple"], .type t, [.type "list", .type "tuple"], ["list", "tuple"].contains t || (t == "bool" && ["list", "tuple"].contains "int"), rfl, upd_same, .cons (.ty _) (.cons (.ty _) .nil), ty, ?_, ?_⟩
    · refine kitAny_cons (kit_ty h1) (fun hf => kitAny_cons (kit_ty h2) (fun hf2 => ?_) fun ht => ?_) fun ht => ?_
      · rw [kitAny_nil]
        revert hf hf2
        clear h1 h2 ty g2 et
        revert t
        decide
      · revert ht
        clear h1 h2 ty g2 et hf
        revert t
        decide
      · revert ht
        clear h1 h2 ty g2 et
        revert t
        decide
    · exact g2 ⟨Z1.F, Z1.ι, upd Z1.H l (.tup [.ty "list", .ty "tuple"]), Z1.x⟩ _ (s1.go x2 w2) x2 (.bl _)

/-! own lists -/
variable {i : Nat} {x : Str} {p q : Pos}
theorem own_ref {K : PySem.W.Frag} {mg : Str → Option Value} {Z Z0 : Zt} {μ : Wd} {η : Env'} {σ : L2.St} (st : Stt K mg Z0 Z μ η σ) {l : List D} (h : η[i]? = some (.own l)) : ∃ a xs, σ[i]? = some (some (.ref a)) ∧ Z.H a = some (.lst xs) ∧ RelL K mg Z l xs := by
  have lt : i < σ.length := by rw [← st.env.len]; exact (List.getElem?_eq_some_iff.mp h).1
  obtain ⟨a, xs, e1, h1, h2, _⟩ := st.env.slot i _ _ h (List.getElem?_eq_getElem lt)
  exact ⟨a, xs, by rw [List.getElem?_eq_getElem lt, e1], h1, h2⟩
theorem s_owx (hN : X.N[i]? = some x) (hv : Vis X.env.scope x) (hd : (x == ("__debug__" : Str)) = false) (hcd : (x == ("__classdict__" : Str)) = false) (hb : VE X Z0 W b mb) (hs : noSlice b = true) :
    VE X Z0 W (.Subscript (.Name x p) b pos) (fun η => match η[i]? with
      | some (.own l) => M.bind (mb η) fun k => match k with
        | .int j => M.opt (atI l j)
        | _ => M.fail
      | _ => M.fail) := by
  refine peI (pe_ix ix_seq (pe_var hN hv hd hcd) hb (plainIx_of hs)) fun σ H Q ⟨Z, μ, η, e, st, g⟩ => ?_
  subst e
  cases ho : η[i]? with
  | none => simp only [ho] at g; exact g.elim
  | some s =>
    cases s with
    | own l =>
      simp only [ho] at g
      obtain ⟨a, xs, e1, h1, h2⟩ := own_ref st ho
      refine ⟨.ref a, e1, Z, μ, η, rfl, st, Gd.bind g fun Z1 μ1 d v s1 x1 r1 g1 => ?_⟩
      cases r1 with
      | int j =>
        obtain ⟨a', xs', e2, h3, h4⟩ := own_ref s1 ho
        rw [e1] at e2; cases e2
        obtain ⟨dd, ed, q⟩ := Gd.opt g1 s1
        obtain ⟨v, ev, rv⟩ := h4.atI ed
        exact .inl ⟨a, xs', j, v, rfl, rfl, .inl (.inl h3), ev, q v rv⟩
      | _ => exact False.elim g1
    | val d => simp only [ho] at g; exact g.elim
    | un => simp only [ho] at g; exact g.elim
    | xc c fs => simp only [ho] at g; exact g.elim
theorem s_owl {y : Str} (hg : Gl X "len") (hm : X.mg "len" = none) (hN : X.N[i]? = some y) (hv : Vis X.env.scope y) (hd : (y == ("__debug__" : Str)) = false) (hcd : (y == ("__classdict__" : Str)) = false) :
    VE X Z0 W (.Call (.Name "len" p) [.Name y q] [] pos) (fun η => match η[i]? with
      | some (.own l) => M.pure (.int l.length)
      | _ => M.fail) := by
  refine peI (pe_callV (.inl ⟨_, rfl⟩) call_len_seq hg (.inr ⟨hm, Bf.boot .len (by decide)⟩) (pa_cons (pe_var hN hv hd hcd) pa_nil rfl) (by decide) (by decide) rfl rfl) fun σ H Q ⟨Z, μ, η, e, st, g⟩ => ?_
  subst e
  cases ho : η[i]? with
  | none => simp only [ho] at g; exact g.elim
  | some s =>
    cases s with
    | own l =>
      simp only [ho] at g
      obtain ⟨a, xs, e1, h1, h2⟩ := own_ref st ho
      rw [h2.length] at g
      exact ⟨.ref a, e1, a, xs, rfl, .inl (.inl (.inl h1)), Gd.pure g st (.int _)⟩
    | val d => simp only [ho] at g; exact g.elim
    | un => simp only [ho] at g; exact g.elim
    | xc c fs => simp only [ho] at g; exact g.elim
theorem s_owt {y : Str} (hg : Gl X "tuple") (hm : X.mg "tuple" = none) (hN : X.N[i]? = some y) (hv : Vis X.env.scope y) (hd : (y == ("__debug__" : Str)) = false) (hcd : (y == ("__classdict__" : Str)) = false) :
    VE X Z0 W (.Call (.Name "tuple" p) [.Name y q] [] pos) (fun η => match η[i]? with
      | some (.own l) => M.pure (.tup l)
      | _ => M.fail) := by
  refine peI (pe_callV (.inr ⟨_, rfl⟩) call_tuple_of hg (.inr ⟨hm, Bf.boot .tuple (by decide)⟩) (pa_cons (pe_var hN hv hd hcd) pa_nil rfl) (by decide) (by decide) rfl rfl) fun σ H Q ⟨Z, μ, η, e, st, g⟩ => ?_
  subst e
  cases ho : η[i]? with
  | none => simp only [ho] at g; exact g.elim
  | some s =>
    cases s with
    | own l =>
      simp only [ho] at g
      obtain ⟨a, xs, e1, h1, h2⟩ := own_ref st ho
      exact ⟨.ref a, e1, a, xs, rfl, .inl ⟨.inl (.inl h1), fun p n => Gd.newTup g st n h2⟩⟩
    | val d => simp only [ho] at g; exact g.elim
    | un => simp only [ho] at g; exact g.elim
    | xc c fs => simp only [ho] at g; exact g.elim
/-! a caught error's field -/
/-- what the context gives of the caught error -/
def XRead (X : Cx) (a : Addr) (cls : Value) (d : Option Addr) : Prop :=
  ∀ (C : Addr) (n : Str) (e : Expr) (te : TE) (pos : Pos), XfC X.K C → PySem.W.findIn X.K (.ref C) n = some none → PE X e te → attributeBase e n X.env (eval e X.env) = eval e X.env → PE X (.Attribute e n pos) (tXf a cls d C n te)
theorem lookup_fs {K : PySem.W.Frag} {mg : Str → Option Value} {Z : Zt} {f : Str} {d : D} : ∀ {fs : List (Str × D)} {vs : List (Str × V)}, RelFs K mg Z fs vs → fs.lookup f = some d → ∃ v, vs.lookup f = some v ∧ Rel K mg Z d v
  | _, _, .nil, h => by cases h
  | (n, d') :: fs, (n', v) :: vs, .cons h r, e => by
    obtain ⟨h1, h2⟩ := h
    simp only at h1 h2
    subst h1
    rw [List.lookup_cons] at e ⊢
    cases q : f == n with
    | true =>
      rw [q] at e
      cases e
      exact ⟨v, rfl, h2⟩
    | false =>
      rw [q] at e
      exact lookup_fs r e
theorem s_xat {T : Tb} {f : Str} {a0 : Addr} {cls : Value} {dx : Option Addr} (hN : X.N[i]? = some x) (hv : Vis X.env.scope x) (hd : (x == ("__debug__" : Str)) = false) (hcd : (x == ("__classdict__" : Str)) = false)
    (hx : Z0.x = some (a0, cls, dx)) (hX : XRead X a0 cls dx) (hC : ∀ c ns C, T.xf c = some ns → ns.contains f = true → X.mg c = some (.ref C) → XfC X.K C ∧ PySem.W.findIn X.K (.ref C) f = some none) :
    VE X Z0 W (.Attribute (.Name x p) f pos) (fun η => match η[i]? with
      | some (.xc c fs) => (match T.xf c with
        | some ns => if ns.contains f = true then M.opt (fs.lookup f) else M.fail
        | none => M.fail)
      | _ => M.fail) := by
  refine ⟨fun pins s σ H Q I ⟨Z, μ, η, e, st, g⟩ => ?_⟩
  subst e
  cases ho : η[i]? with
  | none => simp only [ho] at g; exact g.elim
  | some s =>
    cases s with
    | xc c fs =>
      simp only [ho] at g
      cases en : T.xf c with
      | none => rw [en] at g; exact g.elim
      | some ns =>
        rw [en] at g
        simp only at g
        by_cases hf : ns.contains f = true
        · rw [if_pos hf] at g
          have lt : i < σ.length := by rw [← st.env.len]; exact (List.getElem?_eq_some_iff.mp ho).1
          obtain ⟨a, cls', d', e1, e2, C, hmg, ec, h3⟩ := st.env.slot i _ _ ho (List.getElem?_eq_getElem lt)
          rw [st.ext.x, hx] at e1
          cases e1
          obtain ⟨T1, T2⟩ := hC c ns C en hf hmg
          obtain ⟨dd, ed, q⟩ := Gd.opt g st
          refine (hX C f (.Name x p) _ pos T1 T2 (pe_var hN hv hd hcd) rfl).run pins _ σ Z.H Q I ⟨.ref a0, by rw [List.getElem?_eq_getElem lt, e2], rfl, ec, ?_⟩
          rcases h3 with ⟨rfl, _⟩ | ⟨d, vs, e5, e6, e7⟩
          · cases ed
          · obtain ⟨v, ev, rv⟩ := lookup_fs e7 ed
            exact ⟨d, vs, v, e5, e6, ev, q v rv⟩
        · rw [if_neg hf] at g; exact g.elim
    | val d => simp only [ho] at g; exact g.elim
    | un => simp only [ho] at g; exact g.elim
    | own l => simp only [ho] at g; exact g.elim
end
end Dn

set_option maxHeartbeats 1000000
/-! Dn 9z: zip of a list or a tuple with a list or a tuple; t = true: a tuple. -/
namespace Dn
open PySem PySem.Spec PyProof.Rows L2
/-- the items of a list (false) or a tuple (true), in the machine's heap -/
def HSq (t : Bool) (h : Heap) (l : Addr) (xs : Array Value) : Prop := cond t (h.IsTuple l xs) (h.IsList l xs)
/-- its walker -/
def HIt (t : Bool) (h : Heap) (i l : Addr) (n : Nat) : Prop := cond t (h.IsTupleIter i l n) (h.IsListIter i l n)
def SqK (K : PySem.W.Frag) (t : Bool) (H : Hp) (a : Addr) (xs : List V) : Prop := cond t (SqT K H a xs) (SqL K H a xs)
theorem HSq.mv {t : Bool} {h h' : Heap} {l : Addr} {xs : Array Value} (q : HSq t h l xs) (e : ∀ o, h.get? l = some o → h'.get? l = some o) : HSq t h' l xs := by
  cases t
  · exact Heap.IsList.at q e
  · exact Heap.IsTuple.at q e
theorem HIt.mv {t : Bool} {h h' : Heap} {i l : Addr} {n : Nat} (q : HIt t h i l n) (e : ∀ o, h.get? i = some o → h'.get? i = some o) : HIt t h' i l n := by
  cases t
  · exact Heap.IsListIter.at q e
  · exact Heap.IsTupleIter.at q e
theorem HIt.ob {t : Bool} {h : Heap} {i l : Addr} {n : Nat} (q : HIt t h i l n) : ∃ o, h.get? i = some o ∧ ∀ v, o.data ≠ .cell v := by
  cases t
  · obtain ⟨o, e, _, d⟩ := q; exact ⟨o, e, fun v z => by rw [d] at z; cases z⟩
  · obtain ⟨o, e, _, d⟩ := q; exact ⟨o, e, fun v z => by rw [d] at z; cases z⟩
theorem HSq.lt {t : Bool} {h : Heap} {l : Addr} {xs : Array Value} (q : HSq t h l xs) : l < h.objs.size := by
  cases t
  · obtain ⟨o, e, _⟩ := q; exact Heap.lt_size e
  · obtain ⟨o, e, _⟩ := q; exact Heap.lt_size e
section
variable {prog : Program} {w : World} {A : Around} {E : Value → Shared → Prop} {s : Shared}
theorem nx_item {t : Bool} {i l : Addr} {n : Nat} {xs : Array Value} {x : Value} {Q : Value → Shared → Prop} (hi : HIt t s.heap i l n) (hl : HSq t s.heap l xs) (e : xs[n]? = some x)
    (k : ∀ h', HIt t h' i l (n + 1) → Heap.SameBut i s.heap h' → Q x { s with heap := h' }) : wpAny (model prog w) A (Builtin.SmallTypes.nextOf (.ref i)) Q E s := by
  cases t
  · exact wpAny_nextOf_list_item hi hl e k
  · exact RZ.nextOf_tuple_item hi hl e k
theorem nx_end {t : Bool} {i l : Addr} {n : Nat} {xs : Array Value} {Q : Value → Shared → Prop} (hh : A.handled = none) (hi : HIt t s.heap i l n) (hl : HSq t s.heap l xs) (e : xs[n]? = none)
    (k : ∀ h' x, Heap.ExtBut i s.heap h' → (∃ o, h'.get? x = some o ∧ o.cls = .type "StopIteration") → E (.ref x) { s with heap := h' }) : wpAny (model prog w) A (Builtin.SmallTypes.nextOf (.ref i)) Q E s := by
  cases t
  · exact wpAny_nextOf_list_end hh hi hl e k
  · exact RZ.nextOf_tuple_end hh hi hl e k
/-- one step of zip(l1, l2): both walkers give their item -/
theorem zn_item {t1 t2 : Bool} {z TI TO i1 i2 l1 l2 : Addr} {n m : Nat} {xs ys : Array Value} {x y u v : Value} {Q : Value → Shared → Prop} (D : ZipApart z TI TO i1 i2 l1 l2)
    (q0 : IsZip s.heap z TI TO .none) (qI : IsPair s.heap TI (.ref i1) (.ref i2)) (qO : IsPair s.heap TO u v)
    (a1 : HIt t1 s.heap i1 l1 n) (a2 : HIt t2 s.heap i2 l2 m) (b1 : HSq t1 s.heap l1 xs) (b2 : HSq t2 s.heap l2 ys) (e1 : xs[n]? = some x) (e2 : ys[m]? = some y)
    (k : ∀ h', IsZip h' z TI TO (rawInt s.heap.objs.size) → IsPair h' TO x y → HIt t1 h' i1 l1 (n + 1) → HIt t2 h' i2 l2 (m + 1) → IsPair h' s.heap.objs.size x y → h'.objs.size = s.heap.objs.size + 1 →
      (∀ c o, c ≠ z → c ≠ TO → c ≠ i1 → c ≠ i2 → s.heap.get? c = some o → h'.get? c = some o) → Q (.ref s.heap.objs.size) { s with heap := h' }) :
    wpAny (model prog w) A (Builtin.«zip.__next__» ⟨[.ref z], []⟩) (fun r s2 => ∃ w2, r = .done (.ret w2) ∧ Q w2 s2) E s := by
  show wpAny _ _ (field (.ref z) 2 >>= fun _ => _) _ _ _
  refine wpAny_bind (wpAny_field q0 rfl (x := .bool false) rfl (wpAny_bind (wpAny_field q0 rfl (x := .ref TI) rfl (wpAny_bind (wpAny_seqItems qI rfl ?_)))))
  refine wpAny_bind (m := Builtin.SmallTypes.ownedTupleIsFree (.ref z)) ?_
  unfold Builtin.SmallTypes.ownedTupleIsFree
  refine wpAny_bind (wpAny_field q0 rfl (x := .none) rfl (wpAny_pure (?_ : wpAny _ _ (if true = true then _ else _) _ _ _)))
  rw [if_pos rfl]
  refine wpAny_bind (wpAny_rule (wpAny_bind (wpAny_field q0 rfl (x := .ref TO) rfl (wpAny_bind (wpAny_setField_rec q0 (by simp) fun ha za sa => ?_)))))
  replace za : IsZip ha z TI TO .ellipsis := za
  refine wpAny_bind ?_
  simp only [List.zipIdx_nil, List.zipIdx_cons, List.forIn_nil, List.forIn_cons]
  have oa : ∀ c o, c ≠ z → s.heap.get? c = some o → ha.get? c = some o := fun c o h e => sa.extBut _ _ h e
  refine wpAny_bind (wpAny_bind (wpAny_onRaise (wpAny_bind (m := Builtin.SmallTypes.nextOf (.ref i1)) (nx_item (a1.mv fun o => oa _ o D.i1z) (b1.mv fun o => oa _ o D.l1z) e1 fun hb ib sb => wpAny_pure ?_))))
  have ob : ∀ c o, c ≠ z → c ≠ i1 → s.heap.get? c = some o → hb.get? c = some o := fun c o h h2 e => sb.extBut _ _ h2 (oa c o h e)
  refine wpAny_bind (wpAny_seqItems (ob _ _ D.TOz D.TOi1 qO) rfl (wpAny_bind (wpAny_updateSeq_pair (ob _ _ D.TOz D.TOi1 qO) fun hc qc sc => ?_)))
  replace qc : IsPair hc TO x v := qc
  have oc : ∀ c o, c ≠ z → c ≠ i1 → c ≠ TO → s.heap.get? c = some o → hc.get? c = some o := fun c o h h2 h3 e => sc.extBut _ _ h3 (ob c o h h2 e)
  refine wpAny_bind (wpAny_letGo (wpAny_pure (wpAny_bind (wpAny_bind (wpAny_onRaise (wpAny_bind (m := Builtin.SmallTypes.nextOf (.ref i2)) (nx_item (a2.mv fun o => oc _ o D.i2z D.i12.symm D.TOi2.symm) (b2.mv fun o => oc _ o D.l2z D.l2i1 D.l2TO) e2 fun hd id sd => wpAny_pure ?_)))))))
  have qd : IsPair hd TO x v := sd.extBut _ _ D.TOi2 qc
  refine wpAny_bind (wpAny_seqItems qd rfl (wpAny_bind (wpAny_updateSeq_pair qd fun he qe se => ?_)))
  replace qe : IsPair he TO x y := qe
  have oe : ∀ c o, c ≠ z → c ≠ i1 → c ≠ TO → c ≠ i2 → s.heap.get? c = some o → he.get? c = some o := fun c o h h2 h3 h4 e => se.extBut _ _ h3 (sd.extBut _ _ h4 (oc c o h h2 h3 e))
  refine wpAny_bind (wpAny_letGo (wpAny_pure (wpAny_pure (wpAny_bind (wpAny_seqItems qe rfl (wpAny_bind (wpAny_newTuple ?_)))))))
  have size : he.objs.size = s.heap.objs.size := se.1.trans (sd.1.trans (sc.1.trans (sb.1.trans sa.1)))
  have ze : IsZip he z TI TO .ellipsis := se.extBut _ _ D.TOz.symm (sd.extBut _ _ D.i2z.symm (sc.extBut _ _ D.TOz.symm (sb.extBut _ _ D.i1z.symm za)))
  have ie : HIt t1 he i1 l1 (n + 1) := ib.mv fun o e => se.extBut _ _ D.TOi1.symm (sd.extBut _ _ D.i12 (sc.extBut _ _ D.TOi1.symm e))
  have je : HIt t2 he i2 l2 (m + 1) := id.mv fun o e => se.extBut _ _ D.TOi2.symm e
  have nz : he.objs.size ≠ z := Nat.ne_of_gt (Heap.lt_size ze)
  refine wpAny_bind (m := Builtin.SmallTypes.ownedTupleHandOut (.ref z) (.ref he.objs.size)) ?_
  unfold Builtin.SmallTypes.ownedTupleHandOut
  have zf : IsZip (he.push { cls := .type "tuple", data := .seq #[x, y] }) z TI TO .ellipsis := Heap.get?_push_of_some _ ze
  refine wpAny_bind (wpAny_setField_rec zf (by simp) fun hf zg sf => ?_)
  replace zg : IsZip hf z TI TO (rawInt he.objs.size) := zg
  refine wpAny_setField_rec zg (by simp) fun hg zk sg => wpAny_pure ⟨_, rfl, ?_⟩
  replace zk : IsZip hg z TI TO (rawInt he.objs.size) := zk
  have og : ∀ c o, c ≠ z → he.get? c = some o → hg.get? c = some o := fun c o h e => sg.extBut _ _ h (sf.extBut _ _ h (Heap.get?_push_of_some _ e))
  have new : IsPair hg he.objs.size x y := sg.extBut _ _ nz (sf.extBut _ _ nz (Heap.get?_push_size _ rfl))
  have size2 : hg.objs.size = he.objs.size + 1 := sg.1.trans (sf.1.trans (Heap.size_push ..))
  show Q (.ref he.objs.size) _
  rw [size] at zk new size2
  rw [size]
  exact k hg zk (og _ _ D.TOz qe) (ie.mv fun o => og _ o D.i1z) (je.mv fun o => og _ o D.i2z) new size2 fun c o h1 h2 h3 h4 e => og c o h1 (oe c o h1 h3 h2 h4 e)
/-- the end of zip(l1, l2): a walker is through -/
theorem zn_end {t1 t2 : Bool} {z TI TO i1 i2 l1 l2 : Addr} {n m : Nat} {xs ys : Array Value} {u v : Value} {Q : Fin → Shared → Prop} (hh : A.handled = none) (D : ZipApart z TI TO i1 i2 l1 l2)
    (q0 : IsZip s.heap z TI TO .none) (qI : IsPair s.heap TI (.ref i1) (.ref i2)) (qO : IsPair s.heap TO u v)
    (a1 : HIt t1 s.heap i1 l1 n) (a2 : HIt t2 s.heap i2 l2 m) (b1 : HSq t1 s.heap l1 xs) (b2 : HSq t2 s.heap l2 ys) (e : xs[n]? = none ∨ ys[m]? = none)
    (k : ∀ h' e, (∀ c o, c ≠ z → c ≠ TO → c ≠ i1 → c ≠ i2 → s.heap.get? c = some o → h'.get? c = some o) → (∃ o, h'.get? e = some o ∧ o.cls = .type "StopIteration") → E (.ref e) { s with heap := h' }) :
    wpAny (model prog w) A (Builtin.«zip.__next__» ⟨[.ref z], []⟩) Q E s := by
  show wpAny _ _ (field (.ref z) 2 >>= fun _ => _) _ _ _
  refine wpAny_bind (wpAny_field q0 rfl (x := .bool false) rfl (wpAny_bind (wpAny_field q0 rfl (x := .ref TI) rfl (wpAny_bind (wpAny_seqItems qI rfl ?_)))))
  refine wpAny_bind (m := Builtin.SmallTypes.ownedTupleIsFree (.ref z)) ?_
  unfold Builtin.SmallTypes.ownedTupleIsFree
  refine wpAny_bind (wpAny_field q0 rfl (x := .none) rfl (wpAny_pure (?_ : wpAny _ _ (if true = true then _ else _) _ _ _)))
  rw [if_pos rfl]
  refine wpAny_bind (wpAny_rule (wpAny_bind (wpAny_field q0 rfl (x := .ref TO) rfl (wpAny_bind (wpAny_setField_rec q0 (by simp) fun ha za sa => ?_)))))
  replace za : IsZip ha z TI TO .ellipsis := za
  refine wpAny_bind ?_
  simp only [List.zipIdx_nil, List.zipIdx_cons, List.forIn_nil, List.forIn_cons]
  have oa : ∀ c o, c ≠ z → s.heap.get? c = some o → ha.get? c = some o := fun c o h e => sa.extBut _ _ h e
  have sep : ∀ {h : Heap} {r : Addr} {o : Obj}, IsZip h z TI TO .ellipsis → h.get? r = some o → o.cls = .type "StopIteration" → r ≠ z := fun qz e c z => by
    subst z
    have qz' := qz.symm.trans e
    injection qz' with qz'
    rw [← qz'] at c
    simp at c
  cases e1 : xs[n]? with
  | none =>
    refine wpAny_bind (wpAny_bind (wpAny_onRaise (wpAny_bind (m := Builtin.SmallTypes.nextOf (.ref i1)) (nx_end hh (a1.mv fun o => oa _ o D.i1z) (b1.mv fun o => oa _ o D.l1z) e1 fun hb r sb ⟨ro, e, c⟩ => ?_))))
    have zb : IsZip hb z TI TO .ellipsis := sb _ _ D.i1z.symm za
    refine wpAny_setField_rec zb (by simp) fun hc _ sc => k hc r (fun c o h1 h2 h3 h4 e => sc.extBut _ _ h1 (sb _ _ h3 (oa c o h1 e))) ⟨ro, sc.extBut _ _ (sep zb e c) e, c⟩
  | some x =>
    have e2 : ys[m]? = none := e.resolve_left fun h => by rw [e1] at h; cases h
    refine wpAny_bind (wpAny_bind (wpAny_onRaise (wpAny_bind (m := Builtin.SmallTypes.nextOf (.ref i1)) (nx_item (a1.mv fun o => oa _ o D.i1z) (b1.mv fun o => oa _ o D.l1z) e1 fun hb ib sb => wpAny_pure ?_))))
    have ob : ∀ c o, c ≠ z → c ≠ i1 → s.heap.get? c = some o → hb.get? c = some o := fun c o h h2 e => sb.extBut _ _ h2 (oa c o h e)
    refine wpAny_bind (wpAny_seqItems (ob _ _ D.TOz D.TOi1 qO) rfl (wpAny_bind (wpAny_updateSeq_pair (ob _ _ D.TOz D.TOi1 qO) fun hc qc sc => ?_)))
    have oc : ∀ c o, c ≠ z → c ≠ i1 → c ≠ TO → s.heap.get? c = some o → hc.get? c = some o := fun c o h h2 h3 e => sc.extBut _ _ h3 (ob c o h h2 e)
    refine wpAny_bind (wpAny_letGo (wpAny_pure (wpAny_bind (wpAny_bind (wpAny_onRaise (wpAny_bind (m := Builtin.SmallTypes.nextOf (.ref i2)) (nx_end hh (a2.mv fun o => oc _ o D.i2z D.i12.symm D.TOi2.symm) (b2.mv fun o => oc _ o D.l2z D.l2i1 D.l2TO) e2 fun hd r sd ⟨ro, e, c⟩ => ?_)))))))
    have zd : IsZip hd z TI TO .ellipsis := sd _ _ D.i2z.symm (sc.extBut _ _ D.TOz.symm (sb.extBut _ _ D.i1z.symm za))
    refine wpAny_setField_rec zd (by simp) fun he _ se => k he r (fun c o h1 h2 h3 h4 e => se.extBut _ _ h1 (sd _ _ h4 (oc c o h1 h3 h2 e))) ⟨ro, se.extBut _ _ (sep zd e c) e, c⟩
theorem nxt_item {t1 t2 : Bool} {z TI TO i1 i2 l1 l2 : Addr} {n m : Nat} {xs ys : Array Value} {x y u v : Value} {Q : Option Value → Shared → Prop} (D : ZipApart z TI TO i1 i2 l1 l2)
    (q0 : IsZip s.heap z TI TO .none) (qI : IsPair s.heap TI (.ref i1) (.ref i2)) (qO : IsPair s.heap TO u v)
    (a1 : HIt t1 s.heap i1 l1 n) (a2 : HIt t2 s.heap i2 l2 m) (b1 : HSq t1 s.heap l1 xs) (b2 : HSq t2 s.heap l2 ys) (e1 : xs[n]? = some x) (e2 : ys[m]? = some y)
    (k : ∀ h', IsZip h' z TI TO (rawInt s.heap.objs.size) → IsPair h' TO x y → HIt t1 h' i1 l1 (n + 1) → HIt t2 h' i2 l2 (m + 1) → IsPair h' s.heap.objs.size x y → h'.objs.size = s.heap.objs.size + 1 →
      (∀ c o, c ≠ z → c ≠ TO → c ≠ i1 → c ≠ i2 → s.heap.get? c = some o → h'.get? c = some o) → Q (some (.ref s.heap.objs.size)) { s with heap := h' }) :
    wpAny (model prog w) A (pyNext (.ref z)) Q E s := by
  unfold pyNext
  have ty : s.TypeIs (.ref z) "zip" := ⟨_, q0, rfl⟩
  exact wpAny_bind (wpAny_attempt (wpAny_callSpecial?_slot (name := Str.ofString "__next__") ty F.slot_zip_next (wpAny_call_entry F.slot_zip_next ty F.entry_zip_next
    (zn_item D q0 qI qO a1 a2 b1 b2 e1 e2 fun h k1 k2 k3 k4 k5 k6 k7 => wpAny_pure (k h k1 k2 k3 k4 k5 k6 k7)) (F.args_zip_next_1 _))))
theorem nxt_end {t1 t2 : Bool} {z TI TO i1 i2 l1 l2 : Addr} {n m : Nat} {xs ys : Array Value} {u v : Value} {Q : Option Value → Shared → Prop} (hh : A.handled = none) (D : ZipApart z TI TO i1 i2 l1 l2)
    (q0 : IsZip s.heap z TI TO .none) (qI : IsPair s.heap TI (.ref i1) (.ref i2)) (qO : IsPair s.heap TO u v)
    (a1 : HIt t1 s.heap i1 l1 n) (a2 : HIt t2 s.heap i2 l2 m) (b1 : HSq t1 s.heap l1 xs) (b2 : HSq t2 s.heap l2 ys) (e : xs[n]? = none ∨ ys[m]? = none)
    (k : ∀ h', (∀ c o, c ≠ z → c ≠ TO → c ≠ i1 → c ≠ i2 → s.heap.get? c = some o → h'.get? c = some o) → Q none { s with heap := h' }) : wpAny (model prog w) A (pyNext (.ref z)) Q E s := by
  unfold pyNext
  have ty : s.TypeIs (.ref z) "zip" := ⟨_, q0, rfl⟩
  exact wpAny_bind (wpAny_attempt (wpAny_callSpecial?_slot (name := Str.ofString "__next__") ty F.slot_zip_next (wpAny_call_entry F.slot_zip_next ty F.entry_zip_next
    (zn_end hh D q0 qI qO a1 a2 b1 b2 e fun h r kk ⟨ro, e, c⟩ => wpAny_bind (wpAny_isInstance (T := "StopIteration") (b := true) ⟨ro, e, c⟩ isSubtype_stop (wpAny_pure (k h kk)))) (F.args_zip_next_1 _))))
end
/-- the walker's object as it is made -/
def wk0 (t : Bool) (l : Addr) : Obj := { cls := .type (cond t "tuple_iterator" "list_iterator"), data := .fields #[.ref l, .int 0 0] }
theorem wk0_it {t : Bool} {h : Heap} {i l : Addr} (e : h.get? i = some (wk0 t l)) : HIt t h i l 0 := by
  cases t
  · exact ⟨_, e, rfl, rfl⟩
  · exact ⟨_, e, rfl, rfl⟩
abbrev zA (t1 : Bool) (h : Heap) (l1 : Addr) : Heap := h.push (wk0 t1 l1)
abbrev zB (t1 t2 : Bool) (h : Heap) (l1 l2 : Addr) : Heap := (zA t1 h l1).push (wk0 t2 l2)
abbrev zC (t1 t2 : Bool) (h : Heap) (l1 l2 : Addr) : Heap := (zB t1 t2 h l1 l2).push { cls := .type "tuple", data := .seq #[.ref h.objs.size, .ref (zA t1 h l1).objs.size] }
abbrev zD (t1 t2 : Bool) (h : Heap) (l1 l2 : Addr) : Heap := (zC t1 t2 h l1 l2).push { cls := .type "tuple", data := .seq #[.none, .none] }
abbrev zE (t1 t2 : Bool) (h : Heap) (l1 l2 : Addr) : Heap :=
  (zD t1 t2 h l1 l2).push { cls := .type "zip", data := .fields #[.none, .bool false, .bool false, .ref (zB t1 t2 h l1 l2).objs.size, .ref (zC t1 t2 h l1 l2).objs.size] }
section
variable {prog : Program} {w : World} {A : Around} {E : Value → Shared → Prop} {s : Shared}
theorem it_sq {t : Bool} {l : Addr} {xs : Array Value} {Q : Value → Shared → Prop} (q : HSq t s.heap l xs) (k : Q (.ref s.heap.objs.size) { s with heap := s.heap.push (wk0 t l) }) :
    wpAny (model prog w) A (pyIter (.ref l)) Q E s := by
  cases t
  · exact wpAny_pyIter_list q k
  · exact wpAny_pyIter_tuple q k
end
theorem HSq.psh {t : Bool} {h : Heap} {l : Addr} {xs : Array Value} (q : HSq t h l xs) (o : Obj) : HSq t (h.push o) l xs := q.mv fun _ e => Heap.get?_push_of_some _ e
theorem zip_mk (t1 t2 : Bool) (l1 l2 : Addr) (xs ys : Array Value) :
    Meets (Builtin.«zip.__new__» ⟨[.type "zip", .ref l1, .ref l2], []⟩) (fun _ R s => HSq t1 s.heap l1 xs ∧ HSq t2 s.heap l2 ys ∧
      R (.ok (.ret (.ref (zD t1 t2 s.heap l1 l2).objs.size))) { s with heap := zE t1 t2 s.heap l1 l2 }) :=
  .of_wp fun prog w A R s q => by
    obtain ⟨h, g, d, tk, os⟩ := s
    obtain ⟨q1, q2, r⟩ := q
    have su := sub_zip
    have w1 : HSq t1 (Shared.heap ⟨h, g, d, tk, os⟩) l1 xs := q1
    have w2 : HSq t2 (Shared.heap ⟨h.push (wk0 t1 l1), g, d, tk, os⟩) l2 ys := HSq.psh q2 _
    wp_walk using it_sq w1, it_sq w2
    exact ⟨_, rfl, r⟩
end Dn

/-! Dn 9y: the call zip(a, b) of lists and tuples mixed, as something a for walks. -/
namespace Dn
open PySem PySem.Spec PyProof.Rows L2
section
variable {prog : Program} {w : World} {A : Around} {E : Value → Shared → Prop} {s : Shared}
theorem zip_call {t1 t2 : Bool} {l1 l2 : Addr} {xs ys : Array Value} {Q : Value → Shared → Prop} (b1 : HSq t1 s.heap l1 xs) (b2 : HSq t2 s.heap l2 ys)
    (k : ∀ h', IsZip h' (s.heap.objs.size + 4) (s.heap.objs.size + 2) (s.heap.objs.size + 3) .none → IsPair h' (s.heap.objs.size + 2) (.ref s.heap.objs.size) (.ref (s.heap.objs.size + 1)) →
      IsPair h' (s.heap.objs.size + 3) .none .none → HIt t1 h' s.heap.objs.size l1 0 → HIt t2 h' (s.heap.objs.size + 1) l2 0 →
      (∀ c o, s.heap.get? c = some o → h'.get? c = some o) → Q (.ref (s.heap.objs.size + 4)) { s with heap := h' }) :
    wpAny (model prog w) A (call (.type "zip") [.ref l1, .ref l2]) Q E s := by
  refine callType_new F.called_zip (by decide) (F.typeCall_zip_2 _ _) (F.newCall_zip_2 _ _) (fun _ => F.args_object_init_3 _ _ _) F.entry_zip_new (zip_mk t1 t2 l1 l2 xs ys) ⟨b1, b2, ?_⟩
  generalize eh : s.heap = h at *
  have nA : (zA t1 h l1).objs.size = h.objs.size + 1 := Heap.size_push ..
  have nB : (zB t1 t2 h l1 l2).objs.size = h.objs.size + 2 := (Heap.size_push ..).trans (congrArg (· + 1) nA)
  have nC : (zC t1 t2 h l1 l2).objs.size = h.objs.size + 3 := (Heap.size_push ..).trans (congrArg (· + 1) nB)
  have nD : (zD t1 t2 h l1 l2).objs.size = h.objs.size + 4 := (Heap.size_push ..).trans (congrArg (· + 1) nC)
  have up : ∀ c o, (zC t1 t2 h l1 l2).get? c = some o → (zE t1 t2 h l1 l2).get? c = some o := fun c o e => Heap.get?_push_of_some _ (Heap.get?_push_of_some _ e)
  have m1 : (zE t1 t2 h l1 l2).get? h.objs.size = some (wk0 t1 l1) := up _ _ (Heap.get?_push_of_some _ (Heap.get?_push_of_some _ (Heap.get?_push_size _ (by cases t1 <;> rfl))))
  have m2 : (zE t1 t2 h l1 l2).get? (zA t1 h l1).objs.size = some (wk0 t2 l2) := up _ _ (Heap.get?_push_of_some _ (Heap.get?_push_size _ (by cases t2 <;> rfl)))
  have m3 : IsPair (zE t1 t2 h l1 l2) (zB t1 t2 h l1 l2).objs.size (.ref h.objs.size) (.ref (zA t1 h l1).objs.size) := up _ _ (Heap.get?_push_size _ rfl)
  have m4 : IsPair (zE t1 t2 h l1 l2) (zC t1 t2 h l1 l2).objs.size .none .none := Heap.get?_push_of_some _ (Heap.get?_push_size _ rfl)
  have m5 : IsZip (zE t1 t2 h l1 l2) (zD t1 t2 h l1 l2).objs.size (zB t1 t2 h l1 l2).objs.size (zC t1 t2 h l1 l2).objs.size .none := Heap.get?_push_size _ rfl
  have up0 : ∀ c o, h.get? c = some o → (zE t1 t2 h l1 l2).get? c = some o := fun c o e => up c o (Heap.get?_push_of_some _ (Heap.get?_push_of_some _ (Heap.get?_push_of_some _ e)))
  have m6 := m5
  rw [nA] at m2 m3
  rw [nB] at m3 m5
  rw [nC] at m4 m5
  show _ ∧ _
  refine ⟨?_, ?_⟩
  · exact ⟨_, m6, rfl⟩
  · rw [nD] at m5 ⊢
    exact k _ m5 m3 m4 (wk0_it m1) (wk0_it m2) up0
end
theorem sq_in {X : Cx} {pins : List (Addr × Obj)} {σ : L2.St} {H : Hp} {s : Shared} (I : Inv X pins σ H s) : ∀ {t : Bool} {a : Addr} {xs : List V}, SqK X.K t H a xs → ∃ us : List Value, Vals xs us ∧ HSq t s.heap a us.toArray
  | false, a, xs, h => by
    obtain ⟨us, r, p, _⟩ := I.list h
    exact ⟨us, r, p.isList⟩
  | true, a, xs, h => by
    obtain ⟨us, r, p, _⟩ := I.tuple h
    exact ⟨us, r, p⟩
theorem sq_one {X : Cx} {pins : List (Addr × Obj)} {σ : L2.St} {H : Hp} {s : Shared} (I : Inv X pins σ H s) : ∀ {t : Bool} {a : Addr} {xs ys : List V}, SqK X.K t H a xs → SqK X.K t H a ys → xs = ys
  | false, _, _, _, h, h2 => I.list_inj h h2
  | true, _, _, _, h, h2 => I.tuple_inj h h2
/-- what a for walks: the pairs of the items of a and of b -/
def Itg (K : PySem.W.Frag) (t1 t2 : Bool) (a b : Addr) : It where
  go := fun n H => ∃ (l r : List V) (u v : V), SqK K t1 H a l ∧ SqK K t2 H b r ∧ l[n]? = some u ∧ r[n]? = some v
  yld := fun n H w G => ∃ T u v, w = .ref T ∧ H T = none ∧ G = upd H T (.tup [u, v]) ∧ (∀ l, SqK K t1 H a l → l[n]? = some u) ∧ (∀ r, SqK K t2 H b r → r[n]? = some v)
  stop := fun n H => ∃ l r : List V, SqK K t1 H a l ∧ SqK K t2 H b r ∧ (l.length ≤ n ∨ r.length ≤ n)
theorem five {P : Addr → Prop} {z a b c d x : Addr} (h : x ∈ [z, a, b, c, d]) (p1 : P z) (p2 : P a) (p3 : P b) (p4 : P c) (p5 : P d) : P x := by
  simp only [List.mem_cons, List.not_mem_nil, or_false] at h
  rcases h with rfl | rfl | rfl | rfl | rfl <;> assumption
theorem turn_g {P : Program} {w : World} {K : PySem.W.Frag} {elts : List Expr} {kk : Nat} {tpos : Pos} {t1 t2 : Bool} {a b z TI TO i1 i2 : Addr} (D : ZipApart z TI TO i1 i2 a b) :
    Turn P w K (.Tuple elts kk tpos) (Itg K t1 t2 a b) [z, TI, TO, i1, i2] z (fun n h => IsZip h z TI TO .none ∧ IsPair h TI (.ref i1) (.ref i2) ∧ (∃ u v, IsPair h TO u v) ∧ HIt t1 h i1 a n ∧ HIt t2 h i2 b n) where
  mem := List.mem_cons_self
  obj := fun n h ⟨q, qi, ⟨u, v, qo⟩, j1, j2⟩ c hc => five (P := fun c => ∃ o, h.get? c = some o ∧ ∀ v, o.data ≠ .cell v) hc ⟨_, q, fun v e => nomatch e⟩ ⟨_, qi, fun v e => nomatch e⟩ ⟨_, qo, fun v e => nomatch e⟩ j1.ob j2.ob
  keep := fun n h h' ⟨q, qi, ⟨u, v, qo⟩, j1, j2⟩ k => ⟨k _ (by simp) _ q, k _ (by simp) _ qi, ⟨u, v, k _ (by simp) _ qo⟩, j1.mv fun o => k _ (by simp) o, j2.mv fun o => k _ (by simp) o⟩
  self := fun _ _ _ _ _ st k => wpAny_pyIter_zip st.1 k
  done := by
    intro X e1 e2 e3 calm n pins s σ H E I fp ⟨q, qi, ⟨u, v, qo⟩, j1, j2⟩ ⟨l, r, hl, hr, le⟩
    subst e1 e2 e3
    obtain ⟨us, rl, ul⟩ := sq_in I hl
    obtain ⟨vs, rr, ur⟩ := sq_in I hr
    have n1 := rl.length
    have n2 := rr.length
    refine nxt_end (I.ok.hd calm) D q qi qo j1 j2 ul ur ?_ fun h' k => ⟨rfl, I.turnedL (t' := s.toks) (ch := [z, TI, TO, i1, i2]) (fun c o nc e => ?_) fp⟩
    · rcases le with le | le
      · exact .inl (Array.getElem?_eq_none (by simp only [List.size_toArray]; omega))
      · exact .inr (Array.getElem?_eq_none (by simp only [List.size_toArray]; omega))
    · simp only [List.mem_cons, List.not_mem_nil, or_false, not_or] at nc
      exact k c o nc.1 nc.2.2.1 nc.2.2.2.1 nc.2.2.2.2 e
  item := by
    intro X e1 e2 e3 calm n pins s σ H E I fp ⟨q, qi, ⟨x0, y0, qo⟩, j1, j2⟩ ⟨l, r, u, v, hl, hr, el, er⟩
    subst e1 e2 e3
    obtain ⟨us, rl, ul⟩ := sq_in I hl
    obtain ⟨vs, rr, ur⟩ := sq_in I hr
    obtain ⟨x, ex, rx⟩ := rl.get el
    obtain ⟨y, ey, ry⟩ := rr.get er
    have zlt : z < s.heap.objs.size := Heap.lt_size q
    refine nxt_item D q qi qo j1 j2 ul ur (x := x) (y := y) (by rw [List.getElem?_toArray]; exact ex) (by rw [List.getElem?_toArray]; exact ey) fun h' k1 k2 k3 k4 k5 k6 k7 => ⟨_, rfl, ?_⟩
    refine wpAny_letOwnedTupleGo_zip (s := { s with heap := h' }) k1 fun g kz sb => ?_
    have up : ∀ c o, c ≠ z → h'.get? c = some o → g.get? c = some o := fun c o h e => (sb.2 c h).trans e
    have nT : IsPair g s.heap.objs.size x y := up _ _ (Nat.ne_of_gt zlt) k5
    have ob : ObjOk X.prog X.w (upd H s.heap.objs.size (.tup [u, v])) g s.heap.objs.size (.tup [u, v]) := ⟨show 2 ≤ sizeLine by decide, [x, y], .cons rx (.cons ry .nil), _, nT, rfl, _, rfl⟩
    have J : Inv X pins σ (upd H s.heap.objs.size (.tup [u, v])) { s with heap := g } := I.turnedNew (t' := s.toks) (ch := [z, TI, TO, i1, i2]) (fun c o nc e => by
      simp only [List.mem_cons, List.not_mem_nil, or_false, not_or] at nc
      exact up c o nc.1 (k7 c o nc.1 nc.2.2.1 nc.2.2.2.1 nc.2.2.2.2 e)) fp (Nat.le_refl _) ob
    refine ⟨.ref s.heap.objs.size, _, J, rfl, ⟨_, u, v, rfl, I.hok.fresh (Nat.le_refl _), rfl, fun l' h => ?_, fun r' h => ?_⟩, ⟨kz, up _ _ D.TIz (k7 _ _ D.TIz D.TITO D.TIi1 D.TIi2 qi), ⟨x, y, up _ _ D.TOz k2⟩, k3.mv fun o => up _ o D.i1z, k4.mv fun o => up _ o D.i2z⟩, fun c hc => ?_⟩
    · rw [sq_one I h hl]; exact el
    · rw [sq_one I h hr]; exact er
    · have lt : c < s.heap.objs.size := by
        obtain ⟨o1, w1, _⟩ := j1.ob
        obtain ⟨o2, w2, _⟩ := j2.ob
        exact five (P := (· < s.heap.objs.size)) hc zlt (Heap.lt_size qi) (Heap.lt_size qo) (Heap.lt_size w1) (Heap.lt_size w2)
      exact (upd_ne (Nat.ne_of_lt lt)).trans (fp c hc).1
def iZipG (K : PySem.W.Frag) (ta : TA) : TI := fun σ H R => ta σ H fun vs G => ∃ t1 t2 a b l r, vs = [.ref a, .ref b] ∧ SqK K t1 G a l ∧ SqK K t2 G b r ∧ R (Itg K t1 t2 a b) G
theorem pi_zipG {X : Cx} {e f : Expr} {ta : TA} {p pos tpos : Pos} {elts : List Expr} {kk : Nat} (hg : Gl X "zip") (hm : X.mg "zip" = none) (ha : PA X [e, f] ta)
    (h1 : starEach [e, f] X.env = (false, eval e X.env) :: starEach [f] X.env) (h2 : (backTo pos (starEach [f] X.env)).any (·.1) = false) :
    PI X (.Tuple elts kk tpos) (.Call (.Name "zip" p) [e, f] [] pos) (iZipG X.K ta) where
  run := by
    intro pins s σ H R I q
    refine Call_ (ld_blt I hg hm PyProof.Rows.boot_zip (PyProof.Rows.callWith_type1 (thn (ha.run pos pins s σ H _ I q) fun us s1 ⟨vs, G, I1, rv, t1, t2, a, b, l, r, ev, hl, hr, k⟩ => ?_) h1 h2))
    subst ev
    obtain ⟨w1, w2, eus, r1, r2⟩ : ∃ w1 w2, us = [w1, w2] ∧ RelV (.ref a) w1 ∧ RelV (.ref b) w2 := by
      cases rv with
      | cons r1 q => cases q with
        | cons r2 q => cases q; exact ⟨_, _, rfl, r1, r2⟩
    cases r1
    cases r2
    subst eus
    obtain ⟨xs, _, ux⟩ := sq_in I1 hl
    obtain ⟨ys, _, uy⟩ := sq_in I1 hr
    have fr : ∀ c, s1.heap.objs.size ≤ c → FpOk X pins G c := fun c h => I1.fpOk h (I1.hok.fresh h)
    refine zip_call ux uy fun h' m1 m2 m3 m4 m5 up => wpAny_pyIter_zip m1 ⟨_, _, _, Itg X.K t1 t2 a b, G, rfl, I1.kept (t' := s1.toks) up, turn_g (PySem.W.ktu_apart s1.heap.objs.size a b ux.lt uy.lt), ⟨m1, m2, ⟨_, _, m3⟩, m4, m5⟩, fun c hc => ?_, k⟩
    exact five (P := FpOk X pins G) hc (fr _ (by omega)) (fr _ (by omega)) (fr _ (by omega)) (fr _ (by omega)) (fr _ (by omega))
end Dn

/-! Dn 10: what a for walks, targets, comprehensions. -/
namespace Dn
open PySem PySem.Spec PyProof.Rows L2

/-- J walks these items -/
def WlkD (K : PySem.W.Frag) (mg : Str → Option Value) (Z : Zt) (l : List D) (J : It) : Prop :=
  ∀ Z' μ', Mo Z Z' → Wk K mg Z' μ' → ∀ i, (∀ d, l[i]? = some d → J.go i Z'.H ∧ ∀ v H', J.yld i Z'.H v H' → ∃ Z'', Z''.H = H' ∧ Ext Z' Z'' ∧ Wk K mg Z'' μ' ∧ Rel K mg Z'' d v) ∧ (l.length ≤ i → J.stop i Z'.H)
section
variable {K : PySem.W.Frag} {mg : Str → Option Value} {Z Z' Z0 : Zt} {μ μ' : Wd} {η : Env'} {σ : L2.St} {W : WX}
theorem WlkD.mo {l : List D} {J : It} (w : WlkD K mg Z l J) (m : Mo Z Z') : WlkD K mg Z' l J := fun Z2 μ2 m2 => w Z2 μ2 (m.trans m2)
theorem wlk_list {a : Addr} {ds : List D} {vs : List V} (h : SqL K Z.F a vs) (r : RelL K mg Z ds vs) : WlkD K mg Z ds (Itl K a) := by
  intro Z' μ' m wk i
  have h' := wk.sqL (sqL_mo m h)
  refine ⟨fun d hd => ?_, fun hi => ⟨vs, h', by rw [← r.length]; exact hi⟩⟩
  obtain ⟨v, hv, rv⟩ := (r.mo m).get hd
  refine ⟨⟨vs, v, h', hv⟩, fun x H' ⟨e, q⟩ => ?_⟩
  subst e
  have := q vs h'
  rw [hv] at this; cases this
  exact ⟨Z', rfl, Ext.refl Z', wk, rv⟩
theorem wlk_tup {a : Addr} {ds : List D} {vs : List V} (h : SqT K Z.F a vs) (r : RelL K mg Z ds vs) : WlkD K mg Z ds (Itt K a) := by
  intro Z' μ' m wk i
  have h' := wk.sqT (sqT_mo m h)
  refine ⟨fun d hd => ?_, fun hi => ⟨vs, h', by rw [← r.length]; exact hi⟩⟩
  obtain ⟨v, hv, rv⟩ := (r.mo m).get hd
  refine ⟨⟨vs, v, h', hv⟩, fun x H' ⟨e, q⟩ => ?_⟩
  subst e
  have := q vs h'
  rw [hv] at this; cases this
  exact ⟨Z', rfl, Ext.refl Z', wk, rv⟩
theorem wlk_str (s : Str) : WlkD K mg Z (s.cps.toList.map fun c => .str ⟨#[c]⟩) (Its s) := by
  intro Z' μ' m wk i
  refine ⟨fun d hd => ?_, fun hi => by rw [List.length_map, Array.length_toList] at hi; exact hi⟩
  rw [List.getElem?_map] at hd
  cases hc : s.cps.toList[i]? with
  | none => rw [hc] at hd; cases hd
  | some c =>
    rw [hc] at hd
    cases hd
    have lt : i < s.cps.toList.length := (List.getElem?_eq_some_iff.mp hc).1
    refine ⟨by rw [Array.length_toList] at lt; exact lt, fun x H' ⟨e, c', q, ex⟩ => ?_⟩
    subst e ex
    rw [Array.getElem?_toList] at hc
    rw [hc] at q; cases q
    exact ⟨Z', rfl, Ext.refl Z', wk, .str _⟩
theorem wlk_range (lo : Int) (n : Nat) : WlkD K mg Z (rangeD lo n) (Itr lo n) := by
  intro Z' μ' m wk i
  refine ⟨fun d hd => ?_, fun hi => by show n ≤ i; simpa [rangeD] using hi⟩
  unfold rangeD at hd
  rw [List.getElem?_map] at hd
  cases hc : (List.range n)[i]? with
  | none => rw [hc] at hd; cases hd
  | some c =>
    rw [hc] at hd
    cases hd
    have lt : i < (List.range n).length := (List.getElem?_eq_some_iff.mp hc).1
    rw [List.length_range] at lt
    rw [List.getElem?_range lt] at hc
    cases hc
    refine ⟨lt, fun x H' ⟨e, ex⟩ => ?_⟩
    subst e ex
    exact ⟨Z', rfl, Ext.refl Z', wk, .int _⟩
theorem zipD_get : ∀ {l r : List D} {i : Nat} {d : D}, (zipD l r)[i]? = some d → ∃ a b, l[i]? = some a ∧ r[i]? = some b ∧ d = .tup [a, b]
  | [], _, i, d, h => by simp [zipD] at h
  | a :: l, [], i, d, h => by simp [zipD] at h
  | a :: l, b :: r, 0, d, h => by
    simp [zipD] at h
    exact ⟨a, b, rfl, rfl, h.symm⟩
  | a :: l, b :: r, i + 1, d, h => by
    have h' : (zipD l r)[i]? = some d := by simpa [zipD] using h
    obtain ⟨x, y, h1, h2, h3⟩ := zipD_get h'
    exact ⟨x, y, by simpa using h1, by simpa using h2, h3⟩
theorem zipD_end : ∀ {l r : List D} {i : Nat}, (zipD l r).length ≤ i → l.length ≤ i ∨ r.length ≤ i
  | [], _, i, _ => .inl (Nat.zero_le _)
  | a :: l, [], i, _ => .inr (Nat.zero_le _)
  | a :: l, b :: r, 0, h => by simp [zipD] at h
  | a :: l, b :: r, i + 1, h => by
    have h' : (zipD l r).length ≤ i := by simpa [zipD] using h
    rcases zipD_end h' with q | q
    · exact .inl (by simpa using q)
    · exact .inr (by simpa using q)
/-- a new pair -/
theorem pair_new {x y : D} {v u : V} {T : Addr} (wk : Wk K mg Z μ) (n : Z.H T = none) (rx : Rel K mg Z x v) (ry : Rel K mg Z y u) :
    ∃ Z'', Z''.H = upd Z.H T (.tup [v, u]) ∧ Ext Z Z'' ∧ Wk K mg Z'' μ ∧ Rel K mg Z'' (.tup [x, y]) (.ref T) :=
  ⟨⟨upd Z.F T (.tup [v, u]), Z.ι, upd Z.H T (.tup [v, u]), Z.x⟩, rfl, ext_new n wk, wk_new n wk, .tup (.inl (.inl upd_same)) (.cons (rx.mo (ext_new n wk).toMo) (.cons (ry.mo (ext_new n wk).toMo) .nil))⟩
theorem sqK_mo (m : Mo Z Z') : ∀ {t : Bool} {a : Addr} {xs : List V}, SqK K t Z.F a xs → SqK K t Z'.F a xs
  | false, _, _, h => sqL_mo m h
  | true, _, _, h => sqT_mo m h
theorem Wk.sqK (wk : Wk K mg Z μ) : ∀ {t : Bool} {a : Addr} {xs : List V}, SqK K t Z.F a xs → SqK K t Z.H a xs
  | false, _, _, h => wk.sqL h
  | true, _, _, h => wk.sqT h
theorem wlk_zipG {t1 t2 : Bool} {a b : Addr} {ds es : List D} {vs us : List V} (h : SqK K t1 Z.F a vs) (r : RelL K mg Z ds vs) (h2 : SqK K t2 Z.F b us) (r2 : RelL K mg Z es us) : WlkD K mg Z (zipD ds es) (Itg K t1 t2 a b) := by
  intro Z' μ' m wk i
  have h' := wk.sqK (sqK_mo m h)
  have h2' := wk.sqK (sqK_mo m h2)
  refine ⟨fun d hd => ?_, fun hi => ⟨vs, us, h', h2', ?_⟩⟩
  · obtain ⟨x, y, e1, e2, rfl⟩ := zipD_get hd
    obtain ⟨v, hv, rv⟩ := (r.mo m).get e1
    obtain ⟨u, hu, ru⟩ := (r2.mo m).get e2
    refine ⟨⟨vs, us, v, u, h', h2', hv, hu⟩, fun w H' ⟨T, v', u', e, n, eH, q1, q2⟩ => ?_⟩
    subst e eH
    have := q1 vs h'
    rw [hv] at this; cases this
    have := q2 us h2'
    rw [hu] at this; cases this
    exact pair_new wk n rv ru
  · rw [← r.length, ← r2.length]
    exact zipD_end hi
theorem enumD_get : ∀ {l : List D} {k i : Nat} {d : D}, (enumD k l)[i]? = some d → ∃ a, l[i]? = some a ∧ d = .tup [.int ((k + i : Nat) : Int), a]
  | [], k, i, d, h => by simp [enumD] at h
  | a :: l, k, 0, d, h => by
    simp [enumD] at h
    exact ⟨a, rfl, h.symm⟩
  | a :: l, k, i + 1, d, h => by
    have h' : (enumD (k + 1) l)[i]? = some d := by simpa [enumD] using h
    obtain ⟨x, h1, h2⟩ := enumD_get h'
    refine ⟨x, by simpa using h1, ?_⟩
    rw [h2, show k + 1 + i = k + (i + 1) by omega]
theorem enumD_length : ∀ (l : List D) (k : Nat), (enumD k l).length = l.length
  | [], _ => rfl
  | _ :: l, k => by unfold enumD; rw [List.length_cons, List.length_cons, enumD_length l]
theorem wlk_enum {a : Addr} {ds : List D} {vs : List V} (h : SqL K Z.F a vs) (r : RelL K mg Z ds vs) : WlkD K mg Z (enumD 0 ds) (Ite K a) := by
  intro Z' μ' m wk i
  have h' := wk.sqL (sqL_mo m h)
  refine ⟨fun d hd => ?_, fun hi => ⟨vs, h', by rw [← r.length, ← enumD_length ds 0]; exact hi⟩⟩
  obtain ⟨x, e1, rfl⟩ := enumD_get hd
  obtain ⟨v, hv, rv⟩ := (r.mo m).get e1
  refine ⟨⟨vs, v, h', hv⟩, fun w H' ⟨T, v', e, n, eH, q1⟩ => ?_⟩
  subst e eH
  have := q1 vs h'
  rw [hv] at this; cases this
  rw [Nat.zero_add]
  exact pair_new wk n (.int _) rv
end
section
variable {X : Cx} {Z0 : Zt} {W : WX} {a b c : Expr} {ma mb mc : Env' → M D} {pos : Pos}
abbrev VI (X : Cx) (Z0 : Zt) (W : WX) (tg e : Expr) (m : Env' → M (List D)) : Prop := PI X tg e (tG X.K X.mg (WlkD X.K X.mg) Z0 W m)
theorem s_noI {tg e : Expr} : VI X Z0 W tg e no1 := ⟨fun _ _ _ _ _ _ h => (tG_no h).elim⟩
theorem s_iv {tg : Expr} (ha : VE X Z0 W a ma) : VI X Z0 W tg a (fun η => M.bind (ma η) fun d => M.opt (itemsO d)) := by
  refine piI (piOr (pi_list ha) (piOr (pi_tup ha) (pi_str ha))) fun σ H R ⟨Z, μ, η, e, st, g⟩ => ?_
  subst e
  by_cases h1 : ∃ l w, ma η μ = .ok (.lst l) w
  · obtain ⟨l, w, h1⟩ := h1
    refine .inl ⟨Z, μ, η, rfl, st, Gd.bindE g fun Z1 μ1 d v e1 s1 x1 r1 g1 => ?_⟩
    rw [h1] at e1; cases e1
    cases r1 with
    | @lst ds vs q h r => exact ⟨q, rfl, ⟨vs, s1.wk.sqL h⟩, Gd.pure g1 s1 (wlk_list h r)⟩
  · by_cases h2 : ∃ l w, ma η μ = .ok (.tup l) w
    · obtain ⟨l, w, h2⟩ := h2
      refine .inr (.inl ⟨Z, μ, η, rfl, st, Gd.bindE g fun Z1 μ1 d v e1 s1 x1 r1 g1 => ?_⟩)
      rw [h2] at e1; cases e1
      cases r1 with
      | @tup ds vs q h r => exact ⟨q, rfl, ⟨vs, s1.wk.sqT h⟩, Gd.pure g1 s1 (wlk_tup h r)⟩
    · refine .inr (.inr ⟨Z, μ, η, rfl, st, Gd.bindE g fun Z1 μ1 d v e1 s1 x1 r1 g1 => ?_⟩)
      cases r1 with
      | str s => exact ⟨s, rfl, Gd.pure g1 s1 (wlk_str s)⟩
      | @lst ds vs q h r => exact (h1 ⟨_, _, e1⟩).elim
      | @tup ds vs q h r => exact (h2 ⟨_, _, e1⟩).elim
      | _ => exact False.elim g1
theorem s_il {tg : Expr} {ml : Env' → M (List D)} (ha : VL X Z0 W a ml) : VI X Z0 W tg a ml := by
  refine piI (s_iv (pe_frz ha)) fun σ H R ⟨Z, μ, η, e, st, g⟩ => ⟨Z, μ, η, e, st, ?_⟩
  have ee : (M.bind (M.bind (ml η) fun ds => M.pure (.lst ds)) fun d => M.opt (itemsO d)) μ = ml η μ := by
    unfold M.bind
    cases ml η μ <;> rfl
  show Gd X.K X.mg _ Z0 W σ η Z ((M.bind (M.bind (ml η) fun ds => M.pure (.lst ds)) fun d => M.opt (itemsO d)) μ) R
  rw [ee]
  exact g
theorem s_rg1 {tg : Expr} {p : Pos} (hg : Gl X "range") (hm : X.mg "range" = none) (hs : noStar a = true) (ha : VE X Z0 W a ma) : VI X Z0 W tg (.Call (.Name "range" p) [a] [] pos) (fun η => M.bind (ma η) fun j => rangeM (.int 0) j) := by
  refine piI (pi_range1 hg hm (pa_cons ha pa_nil (star_eq hs)) (star_eq hs)) fun σ H R ⟨Z, μ, η, e, st, g⟩ => ?_
  subst e
  refine ⟨Z, μ, η, rfl, st, Gd.bind g fun Z1 μ1 d v s1 x1 r1 g1 => ?_⟩
  cases r1 with
  | int j =>
    have g2 : Gd X.K X.mg (WlkD X.K X.mg) Z0 W σ η Z1 ((if -(2 ^ 62) ≤ (0 : Int) ∧ (0 : Int) < 2 ^ 62 ∧ -(2 ^ 62) ≤ j ∧ j < 2 ^ 62 then M.pure (rangeD 0 (j - 0).toNat) else M.fail) μ1) R := g1
    by_cases hz : -(2 ^ 62) ≤ (0 : Int) ∧ (0 : Int) < 2 ^ 62 ∧ -(2 ^ 62) ≤ j ∧ j < 2 ^ 62
    · rw [if_pos hz] at g2
      have e0 : (j - 0).toNat = j.toNat := by rw [Int.sub_zero]
      rw [e0] at g2
      exact ⟨j, rfl, hz.2.2.1, hz.2.2.2, Gd.pure g2 s1 (wlk_range 0 _)⟩
    · rw [if_neg hz] at g2; exact g2.elim
  | _ => exact False.elim g1
theorem s_rg2 {tg : Expr} {p : Pos} (hg : Gl X "range") (hm : X.mg "range" = none) (hs : noStar a = true) (hs2 : noStar b = true) (ha : VE X Z0 W a ma) (hb : VE X Z0 W b mb) :
    VI X Z0 W tg (.Call (.Name "range" p) [a, b] [] pos) (fun η => M.bind (ma η) fun i => M.bind (mb η) fun j => rangeM i j) := by
  refine piI (pi_range2 hg hm (pa_cons ha (pa_cons hb pa_nil (star_eq hs2)) (star_eq hs)) (by rw [star_eq hs, star_eq hs2]; rfl) (star_eq hs2)) fun σ H R ⟨Z, μ, η, e, st, g⟩ => ?_
  subst e
  refine ⟨Z, μ, η, rfl, st, Gd.bind g fun Z1 μ1 d v s1 x1 r1 g1 => ?_⟩
  refine ⟨Z1, μ1, η, rfl, s1, Gd.bind g1 fun Z2 μ2 d2 v2 s2 x2 r2 g2 => ?_⟩
  cases r1 with
  | int i =>
    cases r2 with
    | int j =>
      have g3 : Gd X.K X.mg (WlkD X.K X.mg) Z0 W σ η Z2 ((if -(2 ^ 62) ≤ i ∧ i < 2 ^ 62 ∧ -(2 ^ 62) ≤ j ∧ j < 2 ^ 62 then M.pure (rangeD i (j - i).toNat) else M.fail) μ2) R := g2
      by_cases hz : -(2 ^ 62) ≤ i ∧ i < 2 ^ 62 ∧ -(2 ^ 62) ≤ j ∧ j < 2 ^ 62
      · rw [if_pos hz] at g3
        exact ⟨i, j, rfl, hz, Gd.pure g3 s2 (wlk_range i _)⟩
      · rw [if_neg hz] at g3; exact g3.elim
    | _ => exact False.elim g2
  | _ => cases r2 <;> exact False.elim g2
theorem s_zp {tg : Expr} {p : Pos} (ht : isTuple tg = true) (hg : Gl X "zip") (hm : X.mg "zip" = none) (hs : noStar a = true) (hs2 : noStar b = true) (ha : VE X Z0 W a ma) (hb : VE X Z0 W b mb) :
    VI X Z0 W tg (.Call (.Name "zip" p) [a, b] [] pos) (fun η => M.bind (ma η) fun x => M.bind (mb η) fun y => zipM x y) := by
  cases tg with
  | Tuple elts kk tpos =>
    refine piI (pi_zipG hg hm (pa_cons ha (pa_cons hb pa_nil (star_eq hs2)) (star_eq hs)) (star_eq hs) (by rw [star_eq hs2]; rfl)) fun σ H R ⟨Z, μ, η, e, st, g⟩ => ?_
    subst e
    refine ⟨Z, μ, η, rfl, st, Gd.bind g fun Z1 μ1 d v s1 x1 r1 g1 => ?_⟩
    refine ⟨Z1, μ1, η, rfl, s1, Gd.bind g1 fun Z2 μ2 d2 v2 s2 x2 r2 g2 => ?_⟩
    have r1' := r1.mo x2.toMo
    cases r1' with
    | @tup ds vs q h r =>
      cases r2 with
      | @tup es us q2 h2 r2 => exact ⟨true, true, q, q2, vs, us, rfl, s2.wk.sqT h, s2.wk.sqT h2, Gd.pure g2 s2 (wlk_zipG (t1 := true) (t2 := true) h r h2 r2)⟩
      | @lst es us q2 h2 r2 => exact ⟨true, false, q, q2, vs, us, rfl, s2.wk.sqT h, s2.wk.sqL h2, Gd.pure g2 s2 (wlk_zipG (t1 := true) (t2 := false) h r h2 r2)⟩
      | _ => exact False.elim g2
    | @lst ds vs q h r =>
      cases r2 with
      | @tup es us q2 h2 r2 => exact ⟨false, true, q, q2, vs, us, rfl, s2.wk.sqL h, s2.wk.sqT h2, Gd.pure g2 s2 (wlk_zipG (t1 := false) (t2 := true) h r h2 r2)⟩
      | @lst es us q2 h2 r2 => exact ⟨false, false, q, q2, vs, us, rfl, s2.wk.sqL h, s2.wk.sqL h2, Gd.pure g2 s2 (wlk_zipG (t1 := false) (t2 := false) h r h2 r2)⟩
      | _ => exact False.elim g2
    | _ => cases r2 <;> exact False.elim g2
  | _ => cases ht
theorem s_enm {tg : Expr} {p : Pos} (ht : isTuple tg = true) (hg : Gl X "enumerate") (hm : X.mg "enumerate" = none) (hs : noStar a = true) (ha : VE X Z0 W a ma) :
    VI X Z0 W tg (.Call (.Name "enumerate" p) [a] [] pos) (fun η => M.bind (ma η) fun x => match x with
      | .lst l => M.pure (enumD 0 l)
      | _ => M.fail) := by
  cases tg with
  | Tuple elts kk tpos =>
    refine piI (pi_enum hg hm (pa_cons ha pa_nil (star_eq hs)) (star_eq hs)) fun σ H R ⟨Z, μ, η, e, st, g⟩ => ?_
    subst e
    refine ⟨Z, μ, η, rfl, st, Gd.bind g fun Z1 μ1 d v s1 x1 r1 g1 => ?_⟩
    cases r1 with
    | @lst ds vs q h r => exact ⟨q, vs, rfl, s1.wk.sqL h, Gd.pure g1 s1 (wlk_enum h r)⟩
    | _ => exact False.elim g1
  | _ => cases ht
end
end Dn

/-! Dn 11: targets, comprehensions. -/
namespace Dn
open PySem PySem.Spec PyProof.Rows L2

/-! ### targets -/
def gNs : List Nat → TGs
  | [] => gNil
  | i :: is => gCons (gName i) (gNs is)
def gT (K : PySem.W.Frag) : Tg → TG
  | .nm i => gName i
  | .tp is => gTup K is.length (gNs is)
  | .tt i is => gTup K 2 (gCons (gName i) (gCons (gTup K is.length (gNs is)) gNil))
/-- what a store to a name asks -/
def TgtOk (X : Cx) (x : Str) : Prop := Loc X.env.scope x ∧ (X.fn x = true ∨ X.env.scope.names.lookup x = some .local)
section
variable {K : PySem.W.Frag} {mg : Str → Option Value} {Z Z' Z0 : Zt} {μ μ' : Wd} {W : WX}
theorem gNs_ok : ∀ {is : List Nat} {ds : List D} {vs : List V} {η η' : Env'} {σ : L2.St} {H : Hp} {Q : L2.St → Hp → Prop}, Z.H = H → Stt K mg Z0 Z μ η σ → RelL K mg Z ds vs → setAll is ds η = some η' →
    (∀ σ', Stt K mg Z0 Z μ η' σ' → (∀ j, j ∉ is → σ'[j]? = σ[j]?) → σ'.length = σ.length → Q σ' H) → gNs is vs σ H Q
  | [], ds, vs, η, η', σ, H, Q, eH, st, r, e, q => by
    cases r with
    | nil => cases e; exact ⟨rfl, q σ st (fun _ _ => rfl) rfl⟩
    | cons _ _ => cases e
  | i :: is, ds, vs, η, η', σ, H, Q, eH, st, r, e, q => by
    cases r with
    | nil => cases e
    | @cons d v ds vs h r =>
      refine ⟨v, vs, rfl, ?_⟩
      show gNs is vs (σ.set i (some v)) H Q
      refine gNs_ok eH (st.setVal h i) r e fun σ' s' hj hl => q σ' s' (fun j hm => ?_) (by rw [hl, List.length_set])
      rw [hj j (fun z => hm (List.mem_cons_of_mem _ z)), List.getElem?_set_ne (fun z => hm (by rw [z]; exact List.mem_cons_self))]
theorem setAll_length : ∀ {is : List Nat} {ds : List D} {η η' : Env'}, setAll is ds η = some η' → is.length = ds.length
  | [], [], _, _, _ => rfl
  | [], _ :: _, _, _, h => by cases h
  | _ :: _, [], _, _, h => by cases h
  | i :: is, d :: ds, η, η', h => by rw [List.length_cons, List.length_cons, setAll_length (is := is) (ds := ds) h]
theorem gT_ok {t : Tg} {η η' : Env'} {σ : L2.St} {d : D} {v : V} {H : Hp} {Q : L2.St → Hp → Prop} (eH : Z.H = H) (st : Stt K mg Z0 Z μ η σ) (r : Rel K mg Z d v) (e : tgSet t d η = some η')
    (q : ∀ σ', Stt K mg Z0 Z μ η' σ' → (∀ j, j ∉ t.slots → σ'[j]? = σ[j]?) → σ'.length = σ.length → Q σ' H) : gT K t v σ H Q := by
  cases t with
  | nm i =>
    cases e
    refine q _ (st.setVal r i) (fun j hj => ?_) (by rw [List.length_set])
    rw [List.getElem?_set_ne (fun z => hj (by rw [z]; exact List.mem_cons_self))]
  | tp is =>
    cases r with
    | @tup ds vs a h r =>
      have e' : (if is.length = ds.length then setAll is ds η else none) = some η' := e
      by_cases hl : is.length = ds.length
      · rw [if_pos hl] at e'
        exact ⟨a, vs, rfl, by rw [← eH]; exact st.wk.sqT h, by rw [← r.length, hl], gNs_ok eH st r e' q⟩
      · rw [if_neg hl] at e'; cases e'
    | _ => cases e
  | tt i is =>
    cases r with
    | @tup ds vs a h r =>
      cases r with
      | nil => cases e
      | @cons d1 v1 ds vs h1 r =>
        cases r with
        | nil => cases e
        | @cons d2 v2 ds vs h2 r =>
          cases r with
          | cons _ _ =>
            unfold tgSet at e
            cases d2 <;> cases e
          | nil =>
            cases h2 with
            | @tup es us b hb r2 =>
              have e' : (if is.length = es.length then setAll is es (η.set i (.val d1)) else none) = some η' := e
              by_cases hl : is.length = es.length
              · rw [if_pos hl] at e'
                refine ⟨a, _, rfl, by rw [← eH]; exact st.wk.sqT h, rfl, v1, _, rfl, ?_⟩
                refine ⟨.ref b, [], rfl, b, us, rfl, by rw [← eH]; exact st.wk.sqT hb, by rw [← r2.length, hl], ?_⟩
                refine gNs_ok eH (st.setVal h1 i) r2 e' fun σ' s' hj hl' => ⟨rfl, q σ' s' (fun j hm => ?_) (by rw [hl', List.length_set])⟩
                rw [hj j (fun z => hm (List.mem_cons_of_mem _ z)), List.getElem?_set_ne (fun z => hm (by rw [z]; exact List.mem_cons_self))]
              · rw [if_neg hl] at e'; cases e'
            | _ => cases e
    | _ => cases e
end
section
variable {X : Cx}
theorem ckNames_pg {sc : Scope} (hN : X.N.Nodup) (hP : ∀ x, isLoc sc x = true → TgtOk X x) : ∀ {is : List Nat} {es : List Expr}, ckNames X.N sc is es = true → PGs X es (gNs is) ∧ (assignEach es X.env).length = is.length ∧ (assignEach es X.env).findIdx? (·.1) = none
  | [], [], _ => ⟨pgs_nil, rfl, rfl⟩
  | [], _ :: _, h => by cases h
  | i :: is, [], h => by cases h
  | i :: is, e :: es, h => by
    cases e with
    | Name x p =>
      have h' : (decide (X.N[i]? = some x) && isLoc sc x && ckNames X.N sc is es) = true := h
      rw [Bool.and_eq_true, Bool.and_eq_true] at h'
      obtain ⟨⟨h1, h2⟩, h3⟩ := h'
      obtain ⟨q1, q2, q3⟩ := ckNames_pg hN hP h3
      obtain ⟨t1, t2⟩ := hP x h2
      refine ⟨pgs_cons (pg_name hN (of_decide_eq_true h1) t1 t2) q1 rfl, ?_, ?_⟩
      · show ((false, assign (.Name x p) X.env) :: assignEach es X.env).length = _
        rw [List.length_cons, List.length_cons, q2]
      · show ((false, assign (.Name x p) X.env) :: assignEach es X.env).findIdx? (·.1) = none
        rw [List.findIdx?_cons]
        simp [q3]
    | _ => cases h
def Tg.plain : Tg → Bool
  | .nm _ => true
  | _ => false
theorem ckTg_pg {sc : Scope} (hN : X.N.Nodup) (hP : ∀ x, isLoc sc x = true → TgtOk X x) {t : Tg} {e : Expr} (hc : X.calm = true ∨ t.plain = true) (h : ckTg X.N sc t e = true) : PG X e (gT X.K t) := by
  cases t with
  | nm i =>
    cases e with
    | Name x p =>
      have h' : (decide (X.N[i]? = some x) && isLoc sc x) = true := h
      rw [Bool.and_eq_true] at h'
      obtain ⟨t1, t2⟩ := hP x h'.2
      exact pg_name hN (of_decide_eq_true h'.1) t1 t2
    | _ => cases h
  | tp is =>
    have hc' : X.calm = true := hc.elim id fun z => by cases z
    cases e with
    | Tuple es k p =>
      obtain ⟨q1, q2, q3⟩ := ckNames_pg hN hP (show ckNames X.N sc is es = true from h)
      exact pg_tup hc' q1 q2 q3
    | _ => cases h
  | tt i is =>
    have hc' : X.calm = true := hc.elim id fun z => by cases z
    cases e with
    | Tuple es k p =>
      cases es with
      | nil => cases h
      | cons e1 es =>
        cases e1 with
        | Name x q =>
          cases es with
          | nil => cases h
          | cons e2 es =>
            cases e2 with
            | Tuple es2 k2 p2 =>
              cases es with
              | cons _ _ => cases h
              | nil =>
                have h' : (decide (X.N[i]? = some x) && isLoc sc x && ckNames X.N sc is es2) = true := h
                rw [Bool.and_eq_true, Bool.and_eq_true] at h'
                obtain ⟨⟨h1, h2⟩, h3⟩ := h'
                obtain ⟨q1, q2, q3⟩ := ckNames_pg hN hP h3
                obtain ⟨t1, t2⟩ := hP _ h2
                exact pg_tup hc' (pgs_cons (pg_name hN (of_decide_eq_true h1) t1 t2) (pgs_cons (pg_tup hc' q1 q2 q3) pgs_nil rfl) rfl) rfl rfl
            | _ => cases es <;> cases h
        | _ => cases es <;> cases h
    | _ => cases h
end

/-! ### a new list aside -/
section
variable {K : PySem.W.Frag} {mg : Str → Option Value} {Z Z' Z0 : Zt} {μ μ' : Wd} {η : Env'} {σ : L2.St} {W : WX}
def Zt.less (Z : Zt) (p : Addr) : Zt := ⟨Z.F, Z.ι, fun a => if a = p then none else Z.H a, Z.x⟩
theorem upd_upd {H : Hp} {p : Addr} {o o' : HO} : upd (upd H p o) p o' = upd H p o' := by
  funext a
  by_cases h : a = p
  · subst h; rw [upd_same, upd_same]
  · rw [upd_ne h, upd_ne h, upd_ne h]
theorem less_upd {p : Addr} {o : HO} : upd (Z.less p).H p o = upd Z.H p o := by
  funext a
  by_cases h : a = p
  · subst h; rw [upd_same, upd_same]
  · rw [upd_ne h, upd_ne h]
    exact if_neg h
theorem upd_id {H : Hp} {p : Addr} {o : HO} (h : H p = some o) : upd H p o = H := by
  funext a
  by_cases e : a = p
  · subst e; rw [upd_same, h]
  · rw [upd_ne e]
theorem ext_minus {Z2 Z4 : Zt} {p : Addr} {o : HO} (n : Z2.H p = none) (wk2 : Wk K mg Z2 μ) (x : Ext ⟨Z2.F, Z2.ι, upd Z2.H p o, Z2.x⟩ Z4) (wk4 : Wk K mg Z4 μ') :
    Ext Z2 (Z4.less p) ∧ Wk K mg (Z4.less p) μ' ∧ (Z4.less p).H p = none ∧ Z4.H p = some o := by
  have np := wk2.ne_obj n
  have hp : (upd Z2.H p o) p = some o := upd_same
  have h4 : Z4.H p = some o := x.h p o hp np
  have n4 : p ∉ Z4.ι := x.nin (Z := ⟨Z2.F, Z2.ι, upd Z2.H p o, Z2.x⟩) hp np
  have nF2 : Z2.F p = none := by
    cases q : Z2.F p with
    | none => rfl
    | some u => rw [wk2.sub p u q] at n; cases n
  have nF : Z4.F p = none := by rw [x.nf p o hp]; exact nF2
  refine ⟨{ f := x.f, i := x.i, nf := fun a u h => ?_, ni := fun a h1 h2 => ?_, h := fun a u h1 h2 => ?_, d := fun a u h1 => ?_, x := x.x }, ⟨fun a u h => ?_, wk4.len, wk4.nd, fun k a u h1 h2 => ?_⟩, if_pos rfl, h4⟩
  · exact x.nf a u (by show upd Z2.H p o a = some u; rw [upd_ne (ne_of_none h n)]; exact h)
  · have q : upd Z2.H p o a = none := x.ni a h1 h2
    by_cases e : a = p
    · subst e; exact n
    · rw [upd_ne e] at q; exact q
  · have ne := ne_of_none h1 n
    show (if a = p then none else Z4.H a) = some u
    rw [if_neg ne]
    exact x.h a u (by show upd Z2.H p o a = some u; rw [upd_ne ne]; exact h1) h2
  · have ne := ne_of_none h1 n
    obtain ⟨u', q⟩ := x.d a u (by show upd Z2.H p o a = some u; rw [upd_ne ne]; exact h1)
    exact ⟨u', by show (if a = p then none else Z4.H a) = some u'; rw [if_neg ne]; exact q⟩
  · show (if a = p then none else Z4.H a) = some u
    rw [if_neg (ne_of_none h nF)]
    exact wk4.sub a u h
  · obtain ⟨f, m⟩ := wk4.obj k a u h1 h2
    have ne : a ≠ p := fun e => n4 (by rw [← e]; exact List.mem_of_getElem? h1)
    exact ⟨f, m.mo (Z := Z4) (Z' := Z4.less p) ⟨fun _ _ h => h, fun _ _ h => h⟩ (by show (if a = p then none else Z4.H a) = Z4.H a; rw [if_neg ne])⟩
theorem stt_wipe (st : Stt K mg Z0 Z μ η σ) : ∀ vs : List Nat, Stt K mg Z0 Z μ (wipeE η vs) (wipe σ vs)
  | [] => st
  | v :: vs => (stt_wipe st vs).un v none
theorem wipe_in {σ : L2.St} {i : Nat} : ∀ {vs : List Nat}, i ∈ vs → i < σ.length → (wipe σ vs)[i]? = some none
  | [], h, _ => by cases h
  | v :: vs, h, hl => by
    unfold wipe
    by_cases e : v = i
    · subst e
      rw [List.getElem?_set, if_pos rfl, if_pos (by rw [wipe_length]; exact hl)]
    · rw [List.getElem?_set_ne e]
      rcases List.mem_cons.mp h with z | z
      · exact (e z.symm).elim
      · exact wipe_in z hl
theorem wipe_eq {σ σ' : L2.St} {vs : List Nat} (h : ∀ j, j ∉ vs → σ'[j]? = (wipe σ vs)[j]?) (hl : σ'.length = (wipe σ vs).length) : wipe σ' vs = wipe σ vs := by
  rw [wipe_length] at hl
  apply List.ext_getElem?
  intro i
  by_cases hi : i ∈ vs
  · by_cases lt : i < σ.length
    · rw [wipe_in hi lt, wipe_in hi (by rw [hl]; exact lt)]
    · rw [List.getElem?_eq_none (by rw [wipe_length]; omega), List.getElem?_eq_none (by rw [wipe_length]; omega)]
  · rw [wipe_out hi, h i hi]
end

/-! ### comprehensions -/
def WF : WX := fun _ _ _ _ => False
theorem M.nox_ok {α : Type} {m : M α} {μ : Wd} {a : α} {w : Wd} (h : m μ = .ok a w) : M.nox m μ = .ok a w := by unfold M.nox; rw [h]
section
variable {K : PySem.W.Frag} {mg : Str → Option Value} {Z Z' Z0 : Zt} {μ μ' : Wd} {η : Env'} {σ : L2.St} {W : WX}
/-- within nox: the first step gives a value or the whole is stuck -/
theorem nox_bind {α β : Type} {m : M α} {k : α → M β} {r : Res β} (h : M.nox (M.bind m k) μ = r) (hr : r ≠ .stuck) : ∃ a w, m μ = .ok a w ∧ M.nox (k a) w = r := by
  unfold M.nox M.bind at h
  cases e : m μ with
  | stuck => rw [e] at h; exact (hr h.symm).elim
  | exc c fs w => rw [e] at h; exact (hr h.symm).elim
  | ok a w => rw [e] at h; exact ⟨a, w, rfl, h⟩
theorem GdL.ne {r : Res (List D)} {Q : VK} (g : GdL K mg Z0 W σ η Z r Q) : r ≠ .stuck := fun e => by rw [e] at g; exact g
end
section
variable {X : Cx} {Z0 : Zt} {W : WX}
theorem lc_imp {own : List (Str × Nat)} {t : Tg} {mi : Env' → M (List D)} {mt : Env' → M Bool} {me : Env' → M D} (hown : own.map (·.2) = t.slots) {σ : L2.St} {H : Hp} {Q : VK}
    (h : tL X.K X.mg Z0 W (fun η => M.bind (mi η) fun ds => M.nox (lcLoop t mt me (wipeE η t.slots) ds [])) σ H Q) :
    tLc (tG X.K X.mg (WlkD X.K X.mg) Z0 W mi) (gT X.K t) (tT X.K X.mg Z0 WF mt) (tE X.K X.mg Z0 WF me) (own.map (·.2)) σ H Q := by
  obtain ⟨Z, μ, η, e, st, g⟩ := h
  subst e
  rw [hown]
  refine ⟨Z, μ, η, rfl, st, Gd.bindL g fun Z1 μ1 ds J s1 x1 r1 g1 => ?_⟩
  intro p hp
  refine ⟨fun i m H => m = ds.length - i ∧ i ≤ ds.length ∧ ∃ Z2 μ2 acc xs, H = upd Z2.H p (.lst xs) ∧ Z2.H p = none ∧ Stt X.K X.mg Z0 Z2 μ2 η σ ∧ Mo Z1 Z2 ∧ RelL X.K X.mg Z2 acc xs ∧
    GdL X.K X.mg Z0 W σ η Z2 (M.nox (lcLoop t mt me (wipeE η t.slots) (ds.drop i) acc) μ2) Q, ⟨ds.length, rfl, Nat.zero_le _, Z1, μ1, [], [], rfl, hp, s1, Mo.refl _, .nil, g1⟩, ?_⟩
  rintro i m H ⟨rfl, hi', Z2, μ2, acc, xs, rfl, hp2, s2, m2, ra, g2⟩
  have xp := ext_own (Z := Z2) (o := .lst xs) hp2
  have wp := wk_own (o := .lst xs) hp2 s2.wk
  have walk := r1 ⟨Z2.F, Z2.ι, upd Z2.H p (.lst xs), Z2.x⟩ μ2 (m2.trans xp.toMo) wp i
  by_cases hlt : i < ds.length
  · right
    obtain ⟨go, yl⟩ := walk.1 _ (List.getElem?_eq_getElem hlt)
    refine ⟨go, fun H' => ∃ Z2 μ2 acc xs, H' = upd Z2.H p (.lst xs) ∧ Z2.H p = none ∧ Stt X.K X.mg Z0 Z2 μ2 η σ ∧ Mo Z1 Z2 ∧ RelL X.K X.mg Z2 acc xs ∧
      GdL X.K X.mg Z0 W σ η Z2 (M.nox (lcLoop t mt me (wipeE η t.slots) (ds.drop (i + 1)) acc) μ2) Q, fun H' h => ⟨ds.length - (i + 1), by omega, rfl, hlt, h⟩, fun x H' y => ?_⟩
    obtain ⟨Z3, rfl, x3, wk3, rd⟩ := yl x H' y
    have x23 := xp.trans x3
    have s3 := stt_wipe (s2.go x23 wk3) t.slots
    have ed : ds.drop i = ds[i] :: ds.drop (i + 1) := List.drop_eq_getElem_cons hlt
    have hne := g2.ne
    rw [ed] at g2 hne
    unfold lcLoop at g2 hne
    cases et : tgSet t ds[i] (wipeE η t.slots) with
    | none => rw [et] at hne; exact (hne rfl).elim
    | some η' =>
      rw [et] at g2 hne
      simp only at g2 hne
      refine gT_ok rfl s3 rd et fun σ' s' hj hl => ⟨wipe_eq hj hl, ?_⟩
      obtain ⟨c, w, ec, ek⟩ := nox_bind rfl hne
      rw [← ek] at g2 hne
      refine ⟨Z3, μ2, η', rfl, s', ?_⟩
      rw [ec]
      intro Z4 b s4 x4 hb
      subst hb
      have xm : Ext ⟨Z2.F, Z2.ι, upd Z2.H p (.lst xs), Z2.x⟩ Z4 := x3.trans x4
      cases c with
      | false =>
        rw [if_neg Bool.false_ne_true] at g2 ⊢
        obtain ⟨e1, e2, e3, e4⟩ := ext_minus hp2 s2.wk xm s4.wk
        exact ⟨Z4.less p, w, acc, xs, by rw [less_upd, upd_id e4], e3, s2.go e1 e2, m2.trans e1.toMo, ra.mo e1.toMo, g2.shift e1⟩
      | true =>
        rw [if_pos rfl] at g2 hne ⊢
        obtain ⟨y, w2, ec2, ek2⟩ := nox_bind rfl hne
        rw [← ek2] at g2
        refine ⟨Z4, w, η', rfl, s4, ?_⟩
        rw [ec2]
        intro Z5 v s5 x5 rv
        obtain ⟨e1, e2, e3, e4⟩ := ext_minus hp2 s2.wk (xm.trans x5) s5.wk
        by_cases hz : acc.length < sizeLine
        · rw [if_pos hz] at g2
          refine ⟨xs, e4, by rw [← ra.length]; exact hz, Z5.less p, w2, acc ++ [y], xs ++ [v], less_upd.symm, e3, s2.go e1 e2, m2.trans e1.toMo, (ra.mo e1.toMo).append (.cons ?_ .nil), g2.shift e1⟩
          exact rv.mo (Z := Z5) (Z' := Z5.less p) ⟨fun _ _ h => h, fun _ _ h => h⟩
        · rw [if_neg hz] at g2; exact g2.elim
  · left
    have e : i = ds.length := by omega
    subst e
    refine ⟨walk.2 (Nat.le_refl _), ?_⟩
    rw [List.drop_length] at g2
    exact g2 Z2 p xs s2 (Ext.refl _) ra hp2
theorem s_lc {elt tg iter : Expr} {ifs : List Expr} {scope : Scope} {own : List (Str × Nat)} {pos : Pos} {t : Tg} {mi : Env' → M (List D)} {mt : Env' → M Bool} {me : Env' → M D} (hc : X.calm = true) (hN : X.N.Nodup) (hi : VI X Z0 W tg iter mi) (ok : BlkOk X.N X.env.scope scope own) (hown : own.map (·.2) = t.slots)
    (hg : ∀ (s : Shared) (H : Hp) (C : Addr) (cl : List (Str × Addr)) (fp : List Addr), PG (X.blk s H scope (compEnvC scope cl C X.env) fp) tg (gT X.K t)) (ht : ∀ (s : Shared) (H : Hp) (C : Addr) (cl : List (Str × Addr)) (fp : List Addr), PTs (X.blk s H scope (compEnvC scope cl C X.env) fp) ifs (tT X.K X.mg Z0 WF mt))
    (he : ∀ (s : Shared) (H : Hp) (C : Addr) (cl : List (Str × Addr)) (fp : List Addr), PE (X.blk s H scope (compEnvC scope cl C X.env) fp) elt (tE X.K X.mg Z0 WF me)) (hs : ∀ x, foldedSetIterable iter X.env x = pure x) :
    VL X Z0 W (.ListComp elt [⟨tg, iter, ifs, 0⟩] scope pos) (fun η => M.bind (mi η) fun ds => M.nox (lcLoop t mt me (wipeE η t.slots) ds [])) :=
  peI (pe_lc hc hN hi ok hg ht he hs) fun σ H Q h => lc_imp hown h
theorem s_pts0 : PTs X [] (tT X.K X.mg Z0 W fun _ => M.pure true) := ⟨fun pins s σ H Q I ⟨Z, μ, η, e, st, g⟩ => by subst e; exact pts_nil.run pins s σ _ Q I (Gd.pure g st rfl)⟩
end
end Dn

/-! Dn 11x: errors as values; dict displays. -/
namespace Dn
open PySem PySem.Spec PyProof.Rows L2

/-! ### an own error class with an __init__ that keeps its arguments -/
/-- what __init__(self, f1, .., fn) does -/
def spInit (C : Addr) (ns : List Str) : Sp := fun vs H Q E => ∃ a ws, vs = .ref a :: ws ∧ ws.length = ns.length ∧ H a = some (exo a C none) ∧
  ∀ dx, H dx = none → dx ≠ a → Q .non (upd (upd H dx (L2.exd dx (ns.zip ws).reverse)) a (exo a C (some dx)))
structure XcOk (P : Program) (w : World) (K : PySem.W.Frag) (mg : Str → Option Value) (base : Heap) (c : Str) (ns : List Str) (C : Addr) : Prop where
  T : OexC K C
  hm : mg c = some (.ref C)
  init : ∃ fI fd k, PySem.W.findIn K (.ref C) "__init__" = some (some (.ref fI)) ∧ PySem.W.typeIn K (.ref fI) = some (.type "function") ∧ FnOk P w K mg base (L2.CX P w) k fI fd ("self" :: ns) (spInit C ns) ∧ Binds K fd ("self" :: ns) [] ∧ k ≤ 1
/-- what its class must say, so that isinstance asks its instances rightly -/
structure XiC (K : PySem.W.Frag) (C : Addr) : Prop where
  cl : (PySem.W.clsIn K C).isSome = true
  ga : PySem.W.findIn K (.ref C) "__getattribute__" = some (some (.builtin "BaseException.__getattribute__"))
  gt : PySem.W.findIn K (.ref C) "__getattr__" = some none
  sb : PySem.W.subIn K (.ref C) (.type "BaseException") = some true
  ha : PySem.W.findIn K (.ref C) "__class__" = some (some (.builtin "object.__class__"))
  hn : PySem.W.specialIn K (.builtin "object.__class__") "__get__" = some (some (.builtin "getset_descriptor.__get__"))
  ht : PySem.W.takesIn K (.builtin "object.__class__") = some true
  hm : PySem.W.mroIn K C (.type "object") = some true
section
variable {X : Cx} {Z0 : Zt} {W : WX} {c : Str} {ns : List Str} {C : Addr} {e : Expr} {es : List Expr} {ta : TA} {p pos : Pos}
def tMkV (C : Addr) (ns : List Str) (ta : TA) : TE := fun σ H Q => ta σ H fun vs H1 => vs.length = ns.length ∧ ∀ a d, H1 a = none → H1 d = none → d ≠ a → Q (.ref a) (upd (upd H1 d (L2.exd d (ns.zip vs).reverse)) a (exo a C (some d)))
theorem upd_over {H : Hp} {a d : Addr} {o1 o2 o3 : HO} (hne : d ≠ a) : upd (upd (upd H a o1) d o2) a o3 = upd (upd H d o2) a o3 := by
  funext b
  by_cases h : b = a
  · subst h; rw [upd_same, upd_same]
  · rw [upd_ne h, upd_ne h]
    by_cases h2 : b = d
    · subst h2; rw [upd_same, upd_same]
    · rw [upd_ne h2, upd_ne h2, upd_ne h]
theorem pe_mkx (O : XcOk X.prog X.w X.K X.mg X.base c ns C) (hr : Room 2 X.A) (hg : Gl X c) (ha : PA X (e :: es) ta) (hn : ns.length ≤ 900) (hdb : (c == ("__debug__" : Str)) = false) (he : starEach (e :: es) X.env = (false, eval e X.env) :: starEach es X.env)
    (hpl : (backTo pos (starEach es X.env)).any (·.1) = false) : PE X (.Call (.Name c p) (e :: es) [] pos) (tMkV C ns ta) := by
  refine ⟨fun pins s σ H Q I h => ?_⟩
  obtain ⟨fI, fd, k, iC, tI, F1, hb, hk⟩ := O.init
  have T := O.T
  obtain ⟨nm, q, N, bs, bm, sn, sub, ab, col, dd, k0, k1, k2, k3, k5, hC, hbm⟩ := T.cls
  refine wpAny_Call_Name_kw (ld_glob I hg O.hm ?_ hdb)
  refine PySem.W.callWith_K (h₀ := X.base) I.ok.mod.kin T.kC (thn (ha.run pos pins s σ H _ I h) fun us s1 ⟨vs, H1, I1, r1, hz, q1⟩ => ⟨I1.kIn, ?_⟩) he hpl
  show wpAny _ _ (call (.ref C) us) _ _ _
  obtain ⟨hp, g, dr, tk, os⟩ := s1
  have hsz : hp.objs.size ≤ hp.objs.size + 1 := Nat.le_succ _
  have hn1 : H1 (hp.objs.size + 1) = none := I1.hok.fresh hsz
  have kk : ∀ b o, hp.get? b = some o → ((hp.push (PySem.W.kdv_tup us)).push (PySem.HandSPX.excO C hp.objs.size)).get? b = some o := fun b o e => Heap.get?_push_of_some _ (Heap.get?_push_of_some _ e)
  have hget : ((hp.push (PySem.W.kdv_tup us)).push (PySem.HandSPX.excO C hp.objs.size)).get? (hp.objs.size + 1) = some (PySem.HandSPX.excO C hp.objs.size) := by heap_get
  have I2 : Inv X pins σ (upd H1 (hp.objs.size + 1) (exo (hp.objs.size + 1) C none)) ⟨(hp.push (PySem.W.kdv_tup us)).push (PySem.HandSPX.excO C hp.objs.size), g, dr, tk, os⟩ :=
    I1.laid (t' := tk) (a := hp.objs.size + 1) (o := exo (hp.objs.size + 1) C none) (h' := (hp.push (PySem.W.kdv_tup us)).push (PySem.HandSPX.excO C hp.objs.size)) kk hsz (exo_ok hget)
  have r2 : Vals (V.ref (hp.objs.size + 1) :: vs) (Value.ref (hp.objs.size + 1) :: us) := .cons rfl r1
  have hus : us.length = ns.length := by rw [← Paired.length r1]; exact hz
  have hl : (Value.ref (hp.objs.size + 1) :: us).length = (("self" : Str) :: ns).length := by rw [List.length_cons, List.length_cons, hus]
  have hsp : spInit C ns (V.ref (hp.objs.size + 1) :: vs) (upd H1 (hp.objs.size + 1) (exo (hp.objs.size + 1) C none)) (fun v H2 => v = .non ∧ Q (.ref (hp.objs.size + 1)) H2) (fun _ _ _ => False) := by
    refine ⟨_, vs, rfl, hz, upd_same, fun dx nd ne => ⟨rfl, ?_⟩⟩
    have nd1 : H1 dx = none := by rw [upd_ne ne] at nd; exact nd
    rw [upd_over ne]
    exact q1 _ dx hn1 nd1 ne
  have hbt := hb _ (Value.ref (hp.objs.size + 1) :: us) I2.kIn (by rw [List.append_nil]; exact hl)
  rw [List.append_nil] at hbt
  refine wpAny_call (PySem.HandSPX.call_own F.excBase_ValueError (fun Y => PySem.HandSPX.refsVE_contains Y bm hbm) (I1.kIn _ _ hC) (PySem.W.looks_findIn I1.kIn iC) (fun self => PySem.W.bind_fn I1.kIn self tI) (by rw [hus, sizeLine_eq]; omega)
    (codeAny_mono ((F1.mono hk).run _ X.stack _ _ ⟨Value.ref (hp.objs.size + 1) :: us, []⟩ (Value.ref (hp.objs.size + 1) :: us) _ _ (fun _ _ _ => False) (hr.make C us []) (I2.env0.make C us []) hbt r2 hsp) fun r s' hq' => ?_))
  cases r with
  | error er => exact passL pins σ _ _ er s' I2 hq'
  | ok fl =>
    cases fl with
    | ret u =>
      obtain ⟨v, H2, os2, bare2, un2, hok2, rv, ev, q2⟩ := hq'
      subst ev
      obtain ⟨h2, g2, d2, t2, os'⟩ := s'
      obtain rfl : os' = os := os2
      exact ⟨rv, .ref (hp.objs.size + 1), H2, I2.call (h' := h2) (g' := g2) (d' := d2) (t' := t2) (ch := []) un2 hok2 bare2 (fun b z => absurd z (by simp)), rfl, q2⟩
    | next => exact False.elim hq'
    | brk => exact False.elim hq'
    | cont => exact False.elim hq'
theorem s_mkx {ma : Env' → M (List D)} (O : XcOk X.prog X.w X.K X.mg X.base c ns C) (hr : Room 2 X.A) (hg : Gl X c) (ha : VA X Z0 W (e :: es) ma) (hn : ns.length ≤ 900) (hdb : (c == ("__debug__" : Str)) = false) (hs : ((e :: es).all noStar) = true) :
    VE X Z0 W (.Call (.Name c p) (e :: es) [] pos) (fun η => M.bind (ma η) fun ds => if ns.length = ds.length then M.pure (.exn c ns ds) else M.fail) := by
  have hs' : noStar e = true ∧ es.all noStar = true := by rw [List.all_cons, Bool.and_eq_true] at hs; exact hs
  refine peI (pe_mkx O hr hg ha hn hdb (star_eq hs'.1) (plain_args hs'.2)) fun σ H Q ⟨Z, μ, η, e, st, g⟩ => ?_
  subst e
  refine ⟨Z, μ, η, rfl, st, Gd.bind g fun Z1 μ1 ds vs s1 x1 r1 g1 => ?_⟩
  by_cases hl : ns.length = ds.length
  · rw [if_pos hl] at g1
    refine ⟨by rw [← r1.length, hl], fun a d na nd ne => ?_⟩
    have x2 := ext_new (o := L2.exd d (ns.zip vs).reverse) nd s1.wk
    have w2 := wk_new (o := L2.exd d (ns.zip vs).reverse) nd s1.wk
    have na2 : (upd Z1.H d (L2.exd d (ns.zip vs).reverse)) a = none := by rw [upd_ne (Ne.symm ne)]; exact na
    have x3 := ext_new (Z := ⟨upd Z1.F d (L2.exd d (ns.zip vs).reverse), Z1.ι, upd Z1.H d (L2.exd d (ns.zip vs).reverse), Z1.x⟩) (o := exo a C (some d)) na2 w2
    have w3 := wk_new (Z := ⟨upd Z1.F d (L2.exd d (ns.zip vs).reverse), Z1.ι, upd Z1.H d (L2.exd d (ns.zip vs).reverse), Z1.x⟩) (o := exo a C (some d)) na2 w2
    have x4 := x2.trans x3
    refine g1 _ (.ref a) (s1.go x4 w3) x4 (.exn1 O.hm upd_same ?_ (r1.mo x4.toMo))
    show upd (upd Z1.F d _) a _ d = _
    rw [upd_ne ne, upd_same]
  · rw [if_neg hl] at g1; exact g1.elim
/-- C(), no __init__ of its own -/
theorem pe_mk0 {bmB : List Value} {B newId initId : String} (F : ExcBaseFacts B newId initId bmB) (q : PySem.W.excIn X.K C bmB newId = true) (gC : X.mg c = some (.ref C)) (kC : PySem.W.keepIn X.K (.ref C) = true) (hg : Gl X c) (hdb : (c == ("__debug__" : Str)) = false) :
    PE X (.Call (.Name c p) [] [] pos) (fun σ H Q => ∀ a, H a = none → Q (.ref a) (upd H a (ExO (.ref C) a))) := by
  refine ⟨fun pins s σ H Q I h => ?_⟩
  refine wpAny_Call_Name_kw (ld_glob I hg gC ?_ hdb)
  refine PySem.W.callWith_K0 I.kIn kC ?_
  show wpAny _ _ (call (.ref C) []) _ _ _
  obtain ⟨bm, N, nm, qn, bs, hdct, sn, sub, ab, col, dd, k0, k1, k2, k3, k5, mN, hC, hN, hni, T⟩ := exc_obj I.kIn q
  refine wpAny_call_exc_subT F T hC hN hni (fun h' a hm => ?_) (by show 0 ≤ sizeLine; rw [sizeLine_eq]; omega)
  have hn : H a = none := I.hok.gone hm.new
  obtain ⟨t, ht, _, _⟩ := hm.there
  exact ⟨.ref a, upd H a (ExO (.ref C) a), I.laidN hm.keeps hm.new hn (exO_ok ht ⟨rfl, rfl⟩ rfl rfl rfl (show 4 < 6 by decide)), rfl, h a hn⟩
theorem s_mk0 {bmB : List Value} {B newId initId : String} (F : ExcBaseFacts B newId initId bmB) (q : PySem.W.excIn X.K C bmB newId = true) (gC : X.mg c = some (.ref C)) (kC : PySem.W.keepIn X.K (.ref C) = true) (hg : Gl X c) (hdb : (c == ("__debug__" : Str)) = false) :
    VE X Z0 W (.Call (.Name c p) [] [] pos) (fun _ => M.pure (.exn c [] [])) := by
  refine peI (pe_mk0 F q gC kC hg hdb) fun σ H Q ⟨Z, μ, η, e, st, g⟩ => ?_
  subst e
  exact fun a n => Gd.new g st n (.exn0 gC upd_same)
/-- e.f, e an error that is held as a value -/
def tFld (K : PySem.W.Frag) (f : Str) (te : TE) : TE := fun σ H Q => te σ H fun x H1 => ∃ a C d fs v, x = .ref a ∧ H1 a = some (exo a C (some d)) ∧ H1 d = some (L2.exd d fs) ∧ XfC K C ∧ PySem.W.findIn K (.ref C) f = some none ∧ fs.lookup f = some v ∧ Q v H1
theorem pe_fld0 {te : TE} {f : Str} (he : PE X e te) (hb : attributeBase e f X.env (eval e X.env) = eval e X.env) : PE X (.Attribute e f pos) (tFld X.K f te) := by
  refine ⟨fun pins s σ H Q I h => ?_⟩
  refine attr_of hb (thn (he.run pins s σ H _ I h) fun u s1 hh => ?_)
  obtain ⟨x, H1, I1, rx, a, C, d, fs, v, ex, ea, ed, T, hno, l, q⟩ := hh
  subst ex
  obtain rfl : u = Value.ref a := rx
  obtain ⟨t1, ha⟩ := exo_at I1.hok ea
  obtain ⟨mA, hns, hr⟩ := exd_at I1.hok ed
  obtain ⟨od, ho, hl⟩ := lookIn_ns (by
    obtain ⟨o, es, ep, h1, h2, h3⟩ := hns
    exact ⟨o, es, ep, h1, h2, h3⟩)
  obtain ⟨u, hu, ru⟩ := RelO.some_of (v := v) (o := mA f) (by rw [← l]; exact hr f)
  have J : PySem.W.InstAt s1.heap a { cls := .ref C, dict := some d, data := .fields #[.ref t1, .none, .none, .none, .bool false, .none] } C (some od) := ⟨ha, rfl, rfl, ho⟩
  exact HandSPX.exc_get I1.kIn J T.ga T.gg T.exC (PySem.W.findObj_own T.hdC hno rfl (by rw [hl, hu])) (handed_of ru) ⟨v, H1, I1.tok _, ru, q⟩
theorem lookup_rel {K : PySem.W.Frag} {mg : Str → Option Value} {Z : Zt} {f : Str} {d : D} : ∀ {fs : List (Str × D)} {vs : List (Str × V)}, RelFs K mg Z fs vs → fs.lookup f = some d → ∃ v, vs.lookup f = some v ∧ Rel K mg Z d v := lookup_fs
theorem zip_relL {K : PySem.W.Frag} {mg : Str → Option Value} {Z : Zt} : ∀ {ns : List Str} {ds : List D} {vs : List V}, RelL K mg Z ds vs → RelFs K mg Z (ns.zip ds) (ns.zip vs)
  | [], _, _, _ => .nil
  | n :: ns, _, _, .nil => .nil
  | n :: ns, _, _, .cons h r => .cons ⟨rfl, h⟩ (zip_relL r)
theorem app_rel0 {α β : Type} {R : α → β → Prop} {l l' : List α} {r r' : List β} (h : Paired R l r) (h' : Paired R l' r') : Paired R (l ++ l') (r ++ r') := by
  induction h with
  | nil => exact h'
  | cons p _ ih => exact .cons p ih
theorem rev_rel0 {α β : Type} {R : α → β → Prop} {l : List α} {r : List β} (h : Paired R l r) : Paired R l.reverse r.reverse := by
  induction h with
  | nil => exact .nil
  | cons p t ih =>
    rw [List.reverse_cons, List.reverse_cons]
    exact app_rel0 ih (.cons p .nil)
theorem s_fld {T : Tb} {f : Str} {ma : Env' → M D} (he : VE X Z0 W e ma) (hb : attributeBase e f X.env (eval e X.env) = eval e X.env) (hC : ∀ c ns C, T.xf c = some ns → ns.contains f = true → X.mg c = some (.ref C) → XfC X.K C ∧ PySem.W.findIn X.K (.ref C) f = some none) :
    VE X Z0 W (.Attribute e f pos) (fun η => M.bind (ma η) fun d => match d with
      | .exn c ns ds => (match T.xf c with
        | some ns' => if ns'.contains f = true then M.opt ((ns.zip ds).reverse.lookup f) else M.fail
        | none => M.fail)
      | _ => M.fail) := by
  refine peI (pe_fld0 he hb) fun σ H Q ⟨Z, μ, η, e, st, g⟩ => ?_
  subst e
  refine ⟨Z, μ, η, rfl, st, Gd.bind g fun Z1 μ1 d v s1 x1 r1 g1 => ?_⟩
  cases r1 with
  | @exn0 c C a h e =>
    simp only at g1
    cases ex : T.xf c with
    | none => rw [ex] at g1; exact g1.elim
    | some ns' =>
      rw [ex] at g1
      simp only at g1
      by_cases hf : ns'.contains f = true
      · rw [if_pos hf] at g1; exact g1.elim
      · rw [if_neg hf] at g1; exact g1.elim
  | @exn1 c C a d ns ds vs h e ed r =>
    simp only at g1
    cases ex : T.xf c with
    | none => rw [ex] at g1; exact g1.elim
    | some ns' =>
      rw [ex] at g1
      simp only at g1
      by_cases hf : ns'.contains f = true
      · rw [if_pos hf] at g1
        obtain ⟨t1, t2⟩ := hC c ns' C ex hf h
        obtain ⟨dd, el, q⟩ := Gd.opt g1 s1
        obtain ⟨v, ev, rv⟩ := lookup_rel (rev_rel0 (zip_relL r)) el
        exact ⟨a, C, d, _, v, rfl, s1.wk.sub _ _ e, s1.wk.sub _ _ ed, t1, t2, ev, q v rv⟩
      · rw [if_neg hf] at g1; exact g1.elim
  | _ => exact False.elim g1
/-- isinstance(e, C), e an error that is held as a value -/
def rIsX (K : PySem.W.Frag) : List V → Hp → VK → Prop := fun xs H Q => ∃ (a C : Addr) (c : V) (cv : Value) (b : Bool), xs = [.ref a, c] ∧ ((∃ d, H a = some (exo a C d) ∧ ∀ x, d = some x → ∃ fs, H x = some (L2.exd x fs)) ∨ H a = some (ExO (.ref C) a)) ∧ XiC K C ∧ (∀ u, RelV c u → u = cv) ∧ PySem.W.kitOne K (.ref C) cv = some b ∧ Q (.bl b) H
theorem call_isX : CallR X (.builtin "isinstance") (rIsX X.K) := by
  intro pins s σ H xs us Q I r h
  obtain ⟨a, C, c, cv, b, rfl, hx, T, hcv, e, q⟩ := h
  cases r with
  | cons rx rr =>
    cases rr with
    | cons rt rr =>
      cases rr
      cases rx
      have ec := hcv _ rt
      subst ec
      have fin : ∀ {ox : Obj} {od : Option Obj}, PySem.W.InstAt s.heap a ox C od → wpAny (model X.prog X.w) X.A (call (.builtin "isinstance") [.ref a, _]) (EP X pins σ Q) X.xe s := fun {ox od} J =>
        PySem.W.kia_one (PySem.W.kitx_exc T.cl T.ga T.gt T.sb T.ha T.hn T.ht T.hm) I.kIn J e (fun z => nomatch z) fun tk => ⟨.bl b, H, I.kept (t' := tk) fun _ _ z => z, rfl, q⟩
      rcases hx with ⟨d, hx, hd⟩ | hx
      · obtain ⟨t1, ha⟩ := exo_at I.hok hx
        cases d with
        | none => exact fin (od := none) ⟨ha, rfl, rfl, trivial⟩
        | some x =>
          obtain ⟨fs, hxd⟩ := hd x rfl
          obtain ⟨mA, hns, hr⟩ := exd_at I.hok hxd
          obtain ⟨o, es, ep, h1, h2, h3⟩ := hns
          exact fin (od := some o) ⟨ha, rfl, rfl, h1⟩
      · have x : ObjOk X.prog X.w H s.heap a (ExO (.ref C) a) := I.hok a _ hx
        obtain ⟨⟨oe, vs, e1, hz, hd, _⟩, _⟩ := x
        obtain ⟨oc, od, oda, osl⟩ := oe
        obtain ⟨z1, z2⟩ := hz
        dsimp only at z1 z2 hd
        subst z1 z2 hd
        exact fin (od := none) ⟨e1, rfl, rfl, trivial⟩
theorem boot_isi0 : bootBuiltins "isinstance" = some (.builtin "isinstance") := boot_isi
theorem s_isx {T : Tb} {y : Str} {ma : Env' → M D} {q : Pos} {cv : Value} {cV : V} (hg : Gl X "isinstance") (hm : X.mg "isinstance" = none) (hs : noStar e = true) (ha : VE X Z0 W e ma) (hy : PE X (.Name y q) (fun _ H Q => Q cV H)) (hcv : ∀ u, RelV cV u → u = cv)
    (hC : ∀ c1 b C, T.isa c1 y = some b → X.mg c1 = some (.ref C) → XiC X.K C ∧ PySem.W.kitOne X.K (.ref C) cv = some b) :
    VE X Z0 W (.Call (.Name "isinstance" p) [e, .Name y q] [] pos) (fun η => M.bind (ma η) fun d => match d with
      | .exn c1 _ _ => M.opt ((T.isa c1 y).map .bl)
      | _ => M.fail) := by
  refine peI (pe_callV (.inl ⟨_, rfl⟩) call_isX hg (.inr ⟨hm, boot_isi⟩) (pa_cons ha (pa_cons hy pa_nil rfl) (star_eq hs)) (by decide) (by decide) (star_eq hs) rfl) fun σ H Q ⟨Z, μ, η, e, st, g⟩ => ?_
  subst e
  refine ⟨Z, μ, η, rfl, st, Gd.bind g fun Z1 μ1 d v s1 x1 r1 g1 => ?_⟩
  cases r1 with
  | @exn0 c C a h e =>
    simp only at g1
    cases es : T.isa c y with
    | none => rw [es] at g1; exact g1.elim
    | some b =>
      rw [es] at g1
      obtain ⟨t1, t2⟩ := hC c b C es h
      exact ⟨a, C, cV, cv, b, rfl, .inr (s1.wk.sub _ _ e), t1, hcv, t2, Gd.pure g1 s1 (.bl b)⟩
  | @exn1 c C a d ns ds vs h e ed r =>
    simp only at g1
    cases es : T.isa c y with
    | none => rw [es] at g1; exact g1.elim
    | some b =>
      rw [es] at g1
      obtain ⟨t1, t2⟩ := hC c b C es h
      exact ⟨a, C, cV, cv, b, rfl, .inl ⟨some d, s1.wk.sub _ _ e, fun x hx => by cases hx; exact ⟨_, s1.wk.sub _ _ ed⟩⟩, t1, hcv, t2, Gd.pure g1 s1 (.bl b)⟩
  | _ => exact False.elim g1
end
end Dn

/-! Dn 11y: dicts that are written; dict displays. -/
namespace Dn
open PySem PySem.Spec PyProof.Rows L2

/-! ### the world behind a store -/
section
variable {K : PySem.W.Frag} {mg : Str → Option Value} {Z Z' Z0 : Zt} {μ μ' : Wd} {η : Env'} {σ : L2.St} {W : WX}
theorem any_rel {l : List (Key × D)} {r : List (Key × V)} {k : Key} (h : RelKV K mg Z l r) : (l.any fun kv => decide (kv.1 = k)) = (r.any fun kv => decide (kv.1 = k)) := by
  induction h with
  | nil => rfl
  | cons h t ih => rw [List.any_cons, List.any_cons, h.1, ih]
theorem map_rel {l : List (Key × D)} {r : List (Key × V)} {k : Key} {d : D} {v : V} (h : RelKV K mg Z l r) (rd : Rel K mg Z d v) : RelKV K mg Z (l.map fun kv => if kv.1 = k then (kv.1, d) else kv) (r.map fun kv => if kv.1 = k then (kv.1, v) else kv) := by
  induction h with
  | nil => exact .nil
  | @cons p q l r h t ih =>
    rw [List.map_cons, List.map_cons]
    refine .cons ?_ ih
    have h1 := h.1
    by_cases e : p.1 = k
    · rw [if_pos e, if_pos (by rw [← h1]; exact e)]
      exact ⟨h1, rd⟩
    · rw [if_neg e, if_neg (by rw [← h1]; exact e)]
      exact h
theorem app_rel {α β : Type} {R : α → β → Prop} {l l' : List α} {r r' : List β} (h : Paired R l r) (h' : Paired R l' r') : Paired R (l ++ l') (r ++ r') := by
  induction h with
  | nil => exact h'
  | cons p _ ih => exact .cons p ih
theorem RelKV.put {l : List (Key × D)} {r : List (Key × V)} {k : Key} {d : D} {v : V} (h : RelKV K mg Z l r) (rd : Rel K mg Z d v) : RelKV K mg Z (kvPut k d l) (putK r k v) := by
  unfold kvPut putK
  rw [any_rel h]
  split
  · exact map_rel h rd
  · exact app_rel h (.cons ⟨rfl, rd⟩ .nil)
theorem nodup_at {α : Type} : ∀ {l : List α} {i j : Nat} {a : α}, l.Nodup → l[i]? = some a → l[j]? = some a → i = j
  | [], i, j, a, _, h, _ => by simp at h
  | x :: l, 0, 0, a, _, _, _ => rfl
  | x :: l, 0, j + 1, a, hn, h1, h2 => by
    simp at h1 h2
    subst h1
    exact ((List.nodup_cons.mp hn).1 (List.mem_of_getElem? h2)).elim
  | x :: l, i + 1, 0, a, hn, h1, h2 => by
    simp at h1 h2
    subst h2
    exact ((List.nodup_cons.mp hn).1 (List.mem_of_getElem? h1)).elim
  | x :: l, i + 1, j + 1, a, hn, h1, h2 => by
    simp at h1 h2
    rw [nodup_at (List.nodup_cons.mp hn).2 h1 h2]
/-- a dict is written -/
theorem put_dct {n : Nat} {a : Addr} {kvs kvs' : List (Key × D)} {vs' : List (Key × V)} (wk : Wk K mg Z μ) (hi : Z.ι[n]? = some a) (hm : μ[n]? = some (.dct kvs)) (r : RelKV K mg Z kvs' vs') :
    Ext Z ⟨Z.F, Z.ι, upd Z.H a (.dK vs'), Z.x⟩ ∧ Wk K mg ⟨Z.F, Z.ι, upd Z.H a (.dK vs'), Z.x⟩ (μ.set n (.dct kvs')) := by
  obtain ⟨nF, _⟩ := wk.obj n a _ hi hm
  have mem : a ∈ Z.ι := List.mem_of_getElem? hi
  have m : Mo Z ⟨Z.F, Z.ι, upd Z.H a (.dK vs'), Z.x⟩ := ⟨fun _ _ h => h, fun _ _ h => h⟩
  refine ⟨{ m with nf := fun _ _ _ => rfl, ni := fun _ h n => absurd h n, h := fun b o h nb => ?_, d := fun b o h => ?_, x := rfl }, ⟨fun b o h => ?_, by rw [List.length_set]; exact wk.len, wk.nd, fun k b o h1 h2 => ?_⟩⟩
  · show upd Z.H a (.dK vs') b = some o
    rw [upd_ne (fun e => nb (by rw [e]; exact mem))]; exact h
  · by_cases e : b = a
    · subst e; exact ⟨_, upd_same⟩
    · exact ⟨o, by show upd Z.H a (.dK vs') b = some o; rw [upd_ne e]; exact h⟩
  · show upd Z.H a (.dK vs') b = some o
    rw [upd_ne (ne_of_none h nF)]; exact wk.sub b o h
  · by_cases hk : n = k
    · subst hk
      have h1' : Z.ι[n]? = some b := h1
      rw [hi] at h1'; cases h1'
      rw [List.getElem?_set] at h2
      simp only [if_true] at h2
      split at h2
      · cases h2
        exact ⟨nF, vs', upd_same, r.mo m⟩
      · cases h2
    · rw [List.getElem?_set_ne hk] at h2
      obtain ⟨f, mm⟩ := wk.obj k b o h1 h2
      have ne : b ≠ a := fun e => by
        subst e
        have h1' : Z.ι[k]? = some b := h1
        exact hk (nodup_at wk.nd hi h1')
      exact ⟨f, mm.mo m (by show upd Z.H a (.dK vs') b = Z.H b; rw [upd_ne ne])⟩
/-- a dict is made -/
theorem new_dct {p : Addr} {kvs : List (Key × D)} {vs : List (Key × V)} (wk : Wk K mg Z μ) (n : Z.H p = none) (r : RelKV K mg Z kvs vs) :
    Ext Z ⟨Z.F, Z.ι ++ [p], upd Z.H p (.dK vs), Z.x⟩ ∧ Wk K mg ⟨Z.F, Z.ι ++ [p], upd Z.H p (.dK vs), Z.x⟩ (μ ++ [.dct kvs]) ∧ (Z.ι ++ [p])[μ.length]? = some p := by
  have np := wk.ne_obj n
  have nF : Z.F p = none := by
    cases q : Z.F p with
    | none => rfl
    | some u => rw [wk.sub p u q] at n; cases n
  have gi : (Z.ι ++ [p])[μ.length]? = some p := by
    rw [← wk.len, List.getElem?_append_right (Nat.le_refl _), Nat.sub_self]; rfl
  have m : Mo Z ⟨Z.F, Z.ι ++ [p], upd Z.H p (.dK vs), Z.x⟩ := ⟨fun _ _ h => h, fun k a h => by
    have lt : k < Z.ι.length := (List.getElem?_eq_some_iff.mp h).1
    show (Z.ι ++ [p])[k]? = some a
    rw [List.getElem?_append_left lt]; exact h⟩
  refine ⟨{ m with nf := fun _ _ _ => rfl, ni := fun a h1 h2 => ?_, h := fun b o h _ => ?_, d := fun b o h => ⟨o, ?_⟩, x := rfl }, ⟨fun b o h => ?_, ?_, ?_, fun k b o h1 h2 => ?_⟩, gi⟩
  · rcases List.mem_append.mp h1 with z | z
    · exact absurd z h2
    · rw [List.mem_singleton.mp z]; exact n
  · show upd Z.H p (.dK vs) b = some o
    rw [upd_ne (ne_of_none h n)]; exact h
  · show upd Z.H p (.dK vs) b = some o
    rw [upd_ne (ne_of_none h n)]; exact h
  · show upd Z.H p (.dK vs) b = some o
    rw [upd_ne (ne_of_none h nF)]; exact wk.sub b o h
  · show (Z.ι ++ [p]).length = (μ ++ [MO.dct kvs]).length
    rw [List.length_append, List.length_append, wk.len]; rfl
  · show (Z.ι ++ [p]).Nodup
    rw [List.nodup_append]
    refine ⟨wk.nd, by simp, fun a ha b hb e => ?_⟩
    rw [List.mem_singleton] at hb
    subst hb e
    exact np ha
  · by_cases hk : k < μ.length
    · have h1' : (Z.ι ++ [p])[k]? = some b := h1
      rw [List.getElem?_append_left (by rw [wk.len]; exact hk)] at h1'
      rw [List.getElem?_append_left hk] at h2
      obtain ⟨f, mm⟩ := wk.obj k b o h1' h2
      have ne : b ≠ p := fun e => np (by rw [← e]; exact List.mem_of_getElem? h1')
      exact ⟨f, mm.mo m (by show upd Z.H p (.dK vs) b = Z.H b; rw [upd_ne ne])⟩
    · have hl := (List.getElem?_eq_some_iff.mp h2).1
      rw [List.length_append, List.length_singleton] at hl
      have e : k = μ.length := by omega
      subst e
      have h1' : (Z.ι ++ [p])[μ.length]? = some b := h1
      rw [gi] at h1'; cases h1'
      rw [List.getElem?_append_right (Nat.le_refl _), Nat.sub_self] at h2
      cases h2
      exact ⟨nF, vs, upd_same, r.mo m⟩


theorem mergeK_rel : ∀ {kvs : List (Key × D)} {vs : List (Key × V)} {acc : List (Key × D)} {acc' : List (Key × V)}, RelKV K mg Z kvs vs → RelKV K mg Z acc acc' → RelKV K mg Z (kvs.foldl (fun acc kv => kvPut kv.1 kv.2 acc) acc) (mergeK acc' vs)
  | [], _, _, _, .nil, h => h
  | p :: l, q :: r, acc, acc', .cons h t, ha => by
    have e : RelKV K mg Z (kvPut p.1 p.2 acc) (putK acc' q.1 q.2) := by
      rw [← h.1]
      exact ha.put h.2
    exact mergeK_rel (kvs := l) (vs := r) t e
def pairUp : List V → List (V × V)
  | k :: v :: r => (k, v) :: pairUp r
  | _ => []
theorem pairsO_rel : ∀ {ds : List D} {vs : List V} {kvs : List (Key × D)}, RelL K mg Z ds vs → pairsO ds = some kvs → ∃ kv : List (Key × V), pairUp vs = kv.map (fun kv => (kV kv.1, kv.2)) ∧ RelKV K mg Z kvs kv
  | [], _, _, .nil, h => by cases h; exact ⟨[], rfl, .nil⟩
  | [_], _, _, .cons _ .nil, h => by cases h
  | k :: v :: r, _, kvs, .cons h1 (.cons h2 t), h => by
    have h' : (match keyO k, pairsO r with
      | some key, some l => some ((key, v) :: l)
      | _, _ => none) = some kvs := h
    cases e1 : keyO k with
    | none => rw [e1] at h'; cases h'
    | some key =>
      cases e2 : pairsO r with
      | none => rw [e1, e2] at h'; cases h'
      | some l =>
        rw [e1, e2] at h'
        cases h'
        obtain ⟨kv, e3, r3⟩ := pairsO_rel t e2
        have ek := keyO_rel h1 e1
        subst ek
        refine ⟨(key, _) :: kv, ?_, .cons ⟨rfl, h2⟩ r3⟩
        show (_, _) :: pairUp _ = _
        rw [e3]
        rfl
theorem M.bind_assoc {α β γ : Type} (m : M α) (f : α → M β) (g : β → M γ) (μ : Wd) : M.bind (M.bind m f) g μ = M.bind m (fun a => M.bind (f a) g) μ := by
  unfold M.bind
  cases m μ <;> rfl
def trsOf (T : Tb) (K : PySem.W.Frag) (mg : Str → Option Value) (Z0 : Zt) (W : WX) : Ex → List (TE × TE)
  | .cons a (.cons c d) => (tE K mg Z0 W (den T a).v, tE K mg Z0 W (den T c).v) :: trsOf T K mg Z0 W d
  | _ => []
def evn : Ex → Bool
  | .nil => true
  | .cons _ (.cons _ d) => evn d
  | _ => false
theorem pairs_imp {T : Tb} : ∀ (as : Ex), evn as = true → ∀ {Q : List (V × V) → Hp → Prop} {Z : Zt} {μ : Wd}, Stt K mg Z0 Z μ η σ → Gd K mg (RelL K mg) Z0 W σ η Z ((den T as).a η μ) (fun vs H => Q (pairUp vs) H) → tPairs (trsOf T K mg Z0 W as) σ Z.H Q
  | .nil, _, Q, Z, μ, st, g => Gd.pure (R := RelL K mg) (a := []) (b := ([] : List V)) (Q := fun vs H => Q (pairUp vs) H) g st RelL.nil
  | .cons a (.cons c d), h, Q, Z, μ, st, g => by
    refine ⟨Z, μ, η, rfl, st, Gd.bind (k := fun k => M.bind (M.bind ((den T c).v η) fun d2 => M.bind ((den T d).a η) fun ds => M.pure (d2 :: ds)) fun ds => M.pure (k :: ds)) g fun Z1 μ1 k x s1 x1 r1 g1 => ?_⟩
    rw [M.bind_assoc] at g1
    refine ⟨Z1, μ1, η, rfl, s1, Gd.bind g1 fun Z2 μ2 v y s2 x2 r2 g2 => ?_⟩
    rw [M.bind_assoc] at g2
    refine pairs_imp d h s2 (Gd.bind g2 fun Z3 μ3 ds vs s3 x3 r3 g3 => ?_)
    exact Gd.pure (R := RelL K mg) (b := x :: y :: vs) (Q := fun vs H => Q (pairUp vs) H) g3 s3 (RelL.cons ((r1.mo x2.toMo).mo x3.toMo) (RelL.cons (r2.mo x3.toMo) r3))
end
section
variable {X : Cx} {Z0 : Zt} {W : WX}
theorem s_dsp {T : Tb} {as : Ex} {ks : List (Option Expr)} {vs : List Expr} {pos : Pos} (hP : PPs X pos ks vs (trsOf T X.K X.mg Z0 W as)) (he : evn as = true) (hall : ks.all (·.isSome) = true) (hl : ks.length = vs.length) (h0 : ks ≠ []) (h15 : ks.length ≤ 15) :
    VE X Z0 W (.Dict ks vs pos) (fun η μ => match (den T as).a η (μ ++ [.dct []]) with
      | .stuck => .stuck
      | .exc c fs w => .exc c fs w
      | .ok ds w => (match pairsO ds, w[μ.length]? with
        | some kvs, some (.dct []) => if kvs.length ≤ 15 then .ok (.ref μ.length) (w.set μ.length (.dct (kvs.foldl (fun acc kv => kvPut kv.1 kv.2 acc) []))) else .stuck
        | _, _ => .stuck)) := by
  refine peI (pe_disp hP hall hl h0 h15) fun σ H Q ⟨Z, μ, η, e, st, g⟩ => ?_
  subst e
  intro p n
  obtain ⟨x1, w1, gi⟩ := new_dct (kvs := []) (vs := []) st.wk n Paired.nil
  have g' : Gd X.K X.mg (Rel X.K X.mg) Z0 W σ η Z (match (den T as).a η (μ ++ [.dct []]) with
      | .stuck => .stuck
      | .exc c fs w => .exc c fs w
      | .ok ds w => (match pairsO ds, w[μ.length]? with
        | some kvs, some (.dct []) => if kvs.length ≤ 15 then .ok (.ref μ.length) (w.set μ.length (.dct (kvs.foldl (fun acc kv => kvPut kv.1 kv.2 acc) []))) else .stuck
        | _, _ => .stuck)) Q := g
  refine pairs_imp (Z := ⟨Z.F, Z.ι ++ [p], upd Z.H p (.dK []), Z.x⟩) as he (st.go x1 w1) ?_
  cases er : (den T as).a η (μ ++ [.dct []]) with
  | stuck => rw [er] at g'; exact g'.elim
  | exc c fs w =>
    rw [er] at g'
    exact Gd.shift x1 g'
  | ok ds w =>
    rw [er] at g'
    simp only at g'
    intro Z2 us s2 x2 r2
    cases e1 : pairsO ds with
    | none => rw [e1] at g'; exact g'.elim
    | some kvs =>
      rw [e1] at g'
      cases e2 : w[μ.length]? with
      | none => rw [e2] at g'; exact g'.elim
      | some o =>
        rw [e2] at g'
        cases o with
        | exo c fs => exact g'.elim
        | dct l =>
          cases l with
          | cons _ _ => exact g'.elim
          | nil =>
            simp only at g'
            by_cases hz : kvs.length ≤ 15
            · rw [if_pos hz] at g'
              have hi := x2.i _ _ gi
              obtain ⟨nF, v0, hH, h0⟩ := s2.wk.obj μ.length p _ hi e2
              cases h0
              obtain ⟨kv, ek, rk⟩ := pairsO_rel r2 e1
              have hm : RelKV X.K X.mg Z2 (kvs.foldl (fun acc kv => kvPut kv.1 kv.2 acc) []) (mergeK [] kv) := mergeK_rel (acc := []) (acc' := []) rk Paired.nil
              obtain ⟨x3, w3⟩ := put_dct s2.wk hi e2 hm
              refine ⟨hH, kv, ek, by rw [← Paired.length rk]; exact hz, ?_⟩
              exact g' _ (.ref p) (s2.go x3 w3) ((x1.trans x2).trans x3) (.ref (x3.i _ _ hi))
            · rw [if_neg hz] at g'; exact g'.elim
end
end Dn

/-! Dn 11z: list(range(..)), [..] * n. -/
namespace Dn
open PySem PySem.Spec PyProof.Rows L2

section
variable {K : PySem.W.Frag} {mg : Str → Option Value} {Z : Zt}
theorem relL_map {α : Type} {f : α → D} {g : α → V} : ∀ (l : List α), (∀ x, Rel K mg Z (f x) (g x)) → RelL K mg Z (l.map f) (l.map g)
  | [], _ => .nil
  | x :: l, h => .cons (h x) (relL_map l h)
theorem relL_rep {ds : List D} {vs : List V} (r : RelL K mg Z ds vs) : ∀ n : Nat, RelL K mg Z (List.replicate n ds).flatten (List.replicate n vs).flatten
  | 0 => .nil
  | n + 1 => by
    rw [List.replicate_succ, List.replicate_succ, List.flatten_cons, List.flatten_cons]
    exact r.append (relL_rep r n)
end
section
variable {X : Cx} {Z0 : Zt} {W : WX} {a b : Expr} {ma mb : Env' → M D} {pos pos2 p q : Pos}
theorem s_lrg (hc : X.calm = true) (hg : Gl X "list") (hm : X.mg "list" = none) (hg2 : Gl X "range") (hm2 : X.mg "range" = none) (hs : noStar a = true) (hs2 : noStar b = true) (ha : VE X Z0 W a ma) (hb : VE X Z0 W b mb) :
    VL X Z0 W (.Call (.Name "list" p) [.Call (.Name "range" q) [a, b] [] pos2] [] pos) (fun η => M.bind (ma η) fun x => M.bind (mb η) fun y => lrgM x y) := by
  refine peI (pe_listRg hc hg hm (prg_2 hg2 hm2 ha hb (star_eq hs) (star_eq hs2) (by rw [star_eq hs2]; rfl)) rfl) fun σ H Q ⟨Z, μ, η, e, st, g⟩ => ?_
  subst e
  refine ⟨Z, μ, η, rfl, st, Gd.bindL g fun Z1 μ1 d v s1 x1 r1 g1 => ?_⟩
  refine ⟨Z1, μ1, η, rfl, s1, Gd.bindL g1 fun Z2 μ2 d2 v2 s2 x2 r2 g2 => ?_⟩
  cases r1 with
  | int i =>
    cases r2 with
    | int j =>
      have g3 : GdL X.K X.mg Z0 W σ η Z2 ((if -(2 ^ 62) ≤ i ∧ i < 2 ^ 62 ∧ -(2 ^ 62) ≤ j ∧ j < 2 ^ 62 ∧ (j - i).toNat ≤ 2 ^ 24 then M.pure (rangeD i (j - i).toNat) else M.fail) μ2) Q := g2
      by_cases hz : -(2 ^ 62) ≤ i ∧ i < 2 ^ 62 ∧ -(2 ^ 62) ≤ j ∧ j < 2 ^ 62 ∧ (j - i).toNat ≤ 2 ^ 24
      · rw [if_pos hz] at g3
        exact ⟨i, j, rfl, rfl, hz, fun l n => g3 Z2 l (rgV i j) s2 (Ext.refl _) (relL_map _ fun k => .int _) n⟩
      · rw [if_neg hz] at g3; exact g3.elim
    | _ => exact False.elim g2
  | _ => cases r2 <;> exact False.elim g2
theorem s_rep {es : List Expr} {mas : Env' → M (List D)} (ha : VA X Z0 W es mas) (hb : VE X Z0 W b mb) : VL X Z0 W (.BinOp (.List es p) .Mult b pos) (fun η => M.bind (mas η) fun ds => if ds.length ≤ sizeLine then M.bind (mb η) fun k => repM ds k else M.fail) := by
  refine peI (pe_op op_rep (pe_lst ha) hb) fun σ H Q ⟨Z, μ, η, e, st, g⟩ => ?_
  subst e
  refine ⟨Z, μ, η, rfl, st, Gd.bindL g fun Z1 μ1 ds vs s1 x1 r1 g1 => ?_⟩
  by_cases hl : ds.length ≤ sizeLine
  · rw [if_pos hl] at g1
    refine ⟨by rw [← r1.length]; exact hl, fun l n => ?_⟩
    have x2 := ext_new (o := .lst vs) n s1.wk
    have w2 := wk_new (o := .lst vs) n s1.wk
    refine ⟨⟨upd Z1.F l (.lst vs), Z1.ι, upd Z1.H l (.lst vs), Z1.x⟩, μ1, η, rfl, s1.go x2 w2, Gd.bindL (g1.shift x2) fun Z2 μ2 d v s2 x3 r2 g2 => ?_⟩
    cases r2 with
    | int k =>
      have g3 : GdL X.K X.mg Z0 W σ η Z2 ((if ds.length ≤ sizeLine ∧ -(2 ^ 63) ≤ k ∧ k < 2 ^ 63 ∧ ds.length * k.toNat ≤ sizeLine then M.pure (List.replicate k.toNat ds).flatten else M.fail) μ2) Q := g2
      by_cases hz : ds.length ≤ sizeLine ∧ -(2 ^ 63) ≤ k ∧ k < 2 ^ 63 ∧ ds.length * k.toNat ≤ sizeLine
      · rw [if_pos hz] at g3
        have hH : Z2.H l = some (.lst vs) := s2.wk.sub l _ (x3.f l _ upd_same)
        have rr := relL_rep ((r1.mo x2.toMo).mo x3.toMo) k.toNat
        exact ⟨l, k, vs, rfl, rfl, hH, hz.2.1, hz.2.2.1, by rw [← r1.length]; exact hz.2.2.2, fun p' n' => g3 Z2 p' _ s2 (Ext.refl _) rr n'⟩
      · rw [if_neg hz] at g3; exact g3.elim
    | _ => exact False.elim g2
  · rw [if_neg hl] at g1; exact g1.elim
end
end Dn

/-! Dn 11v: len({k: v for ..}). -/
namespace Dn
open PySem PySem.Spec PyProof.Rows L2

section
variable {X : Cx} {Z0 : Zt} {W : WX}
theorem dc_imp {own : List (Str × Nat)} {t : Tg} {mi : Env' → M (List D)} {mk mv : Env' → M D} (hown : own.map (·.2) = t.slots) {σ : L2.St} {H : Hp} {Q : VK}
    (h : ∃ Z μ η, Z.H = H ∧ Stt X.K X.mg Z0 Z μ η σ ∧ Gd X.K X.mg (fun _ (n : Nat) (p : Nat × Addr) => n = p.1) Z0 W σ η Z (M.bind (mi η) (fun ds => M.bind (M.nox (dcLoop t mk mv (wipeE η t.slots) ds [])) fun kvs => M.pure kvs.length) μ) (fun p H' => ∀ kvs : List (Key × V), kvs.length = p.1 → H' p.2 = none → Q (.ref p.2) (upd H' p.2 (.dK kvs)))) :
    tDc (tG X.K X.mg (WlkD X.K X.mg) Z0 W mi) (gT X.K t) tYes (tE X.K X.mg Z0 WF mk) (tE X.K X.mg Z0 WF mv) (own.map (·.2)) σ H Q := by
  obtain ⟨Z, μ, η, e, st, g⟩ := h
  subst e
  rw [hown]
  refine ⟨Z, μ, η, rfl, st, Gd.bind g fun Z1 μ1 ds J s1 x1 r1 g1 => ?_⟩
  intro p hp
  refine ⟨fun i m H => m = ds.length - i ∧ i ≤ ds.length ∧ ∃ Z2 μ2 acc kvs, H = upd Z2.H p (.dK kvs) ∧ Z2.H p = none ∧ Stt X.K X.mg Z0 Z2 μ2 η σ ∧ Mo Z1 Z2 ∧ RelKV X.K X.mg Z2 acc kvs ∧
    Gd X.K X.mg (fun _ (n : Nat) (p : Nat × Addr) => n = p.1) Z0 W σ η Z2 (M.bind (M.nox (dcLoop t mk mv (wipeE η t.slots) (ds.drop i) acc)) (fun kvs => M.pure kvs.length) μ2) (fun p H' => ∀ kvs : List (Key × V), kvs.length = p.1 → H' p.2 = none → Q (.ref p.2) (upd H' p.2 (.dK kvs))), ⟨ds.length, rfl, Nat.zero_le _, Z1, μ1, [], [], rfl, hp, s1, Mo.refl _, Paired.nil, g1⟩, ?_⟩
  rintro i m H ⟨rfl, hi', Z2, μ2, acc, kvs, rfl, hp2, s2, m2, ra, g2⟩
  have xp := ext_own (Z := Z2) (o := .dK kvs) hp2
  have wp := wk_own (o := .dK kvs) hp2 s2.wk
  have walk := r1 ⟨Z2.F, Z2.ι, upd Z2.H p (.dK kvs), Z2.x⟩ μ2 (m2.trans xp.toMo) wp i
  have gne : ∀ {m : M (List (Key × D))} {μ : Wd} {Z : Zt} {Q' : (Nat × Addr) → Hp → Prop}, Gd X.K X.mg (fun _ (n : Nat) (p : Nat × Addr) => n = p.1) Z0 W σ η Z (M.bind (M.nox m) (fun kvs => M.pure kvs.length) μ) Q' → M.nox m μ ≠ .stuck := fun g e => by
    unfold M.bind at g
    rw [e] at g
    exact g
  by_cases hlt : i < ds.length
  · right
    obtain ⟨go, yl⟩ := walk.1 _ (List.getElem?_eq_getElem hlt)
    refine ⟨go, fun H' => ∃ Z2 μ2 acc kvs, H' = upd Z2.H p (.dK kvs) ∧ Z2.H p = none ∧ Stt X.K X.mg Z0 Z2 μ2 η σ ∧ Mo Z1 Z2 ∧ RelKV X.K X.mg Z2 acc kvs ∧
      Gd X.K X.mg (fun _ (n : Nat) (p : Nat × Addr) => n = p.1) Z0 W σ η Z2 (M.bind (M.nox (dcLoop t mk mv (wipeE η t.slots) (ds.drop (i + 1)) acc)) (fun kvs => M.pure kvs.length) μ2) (fun p H' => ∀ kvs : List (Key × V), kvs.length = p.1 → H' p.2 = none → Q (.ref p.2) (upd H' p.2 (.dK kvs))), fun H' h => ⟨ds.length - (i + 1), by omega, rfl, hlt, h⟩, fun x H' y => ?_⟩
    obtain ⟨Z3, rfl, x3, wk3, rd⟩ := yl x H' y
    have x23 := xp.trans x3
    have s3 := stt_wipe (s2.go x23 wk3) t.slots
    have ed : ds.drop i = ds[i] :: ds.drop (i + 1) := List.drop_eq_getElem_cons hlt
    have hne := gne g2
    rw [ed] at g2 hne
    unfold dcLoop at g2 hne
    cases et : tgSet t ds[i] (wipeE η t.slots) with
    | none => rw [et] at hne; exact (hne rfl).elim
    | some η' =>
      rw [et] at g2 hne
      simp only at g2 hne
      refine gT_ok rfl s3 rd et fun σ' s' hj hl => ⟨wipe_eq hj hl, ?_⟩
      simp only [tYes, if_true]
      obtain ⟨k, w, ec, ek⟩ := nox_bind rfl hne
      have hne2 := hne
      rw [← ek] at hne2
      refine ⟨Z3, μ2, η', rfl, s', ?_⟩
      rw [ec]
      intro Z4 u s4 x4 ru
      obtain ⟨v, w2, ec2, ek2⟩ := nox_bind rfl hne2
      refine ⟨Z4, w, η', rfl, s4, ?_⟩
      rw [ec2]
      intro Z5 z s5 x5 rz
      obtain ⟨e1, e2, e3, e4⟩ := ext_minus (o := .dK kvs) hp2 s2.wk ((x3.trans x4).trans x5) s5.wk
      have eall : ∀ (F : List (Key × D) → M Nat), M.bind (M.nox (M.bind (mk η') fun k => M.bind (mv η') fun v => match keyO k with
        | some kk => if acc.length < sizeLine then dcLoop t mk mv (wipeE η t.slots) (ds.drop (i + 1)) (kvPut kk v acc) else M.fail
        | none => M.fail)) F μ2 = M.bind (M.nox (match keyO k with
        | some kk => if acc.length < sizeLine then dcLoop t mk mv (wipeE η t.slots) (ds.drop (i + 1)) (kvPut kk v acc) else M.fail
        | none => M.fail)) F w2 := fun F => by
        unfold M.bind M.nox
        simp only [M.bind, ec, ec2]
      have g3 : Gd X.K X.mg (fun _ (n : Nat) (p : Nat × Addr) => n = p.1) Z0 W σ η Z2 (M.bind (M.nox (match keyO k with
        | some kk => if acc.length < sizeLine then dcLoop t mk mv (wipeE η t.slots) (ds.drop (i + 1)) (kvPut kk v acc) else M.fail
        | none => M.fail)) (fun kvs => M.pure kvs.length) w2) (fun p H' => ∀ kvs : List (Key × V), kvs.length = p.1 → H' p.2 = none → Q (.ref p.2) (upd H' p.2 (.dK kvs))) := by
        rw [← eall]; exact g2
      clear g2
      have g2 := g3
      cases eo : keyO k with
      | none => rw [eo] at g2; exact g2.elim
      | some kk =>
        rw [eo] at g2
        simp only at g2
        by_cases hz : acc.length < sizeLine
        · rw [if_pos hz] at g2
          have ku := keyO_rel ru eo
          have mless : Mo Z5 (Z5.less p) := ⟨fun _ _ h => h, fun _ _ h => h⟩
          have rk : RelKV X.K X.mg (Z5.less p) (kvPut kk v acc) (putK kvs kk z) := (ra.mo e1.toMo).put (Rel.mo (Z := Z5) (Z' := Z5.less p) mless rz)
          exact ⟨kvs, kk, ku, e4, by rw [← Paired.length ra]; exact hz, Z5.less p, w2, kvPut kk v acc, putK kvs kk z, less_upd.symm, e3, s2.go e1 e2, m2.trans e1.toMo, rk, g2.shift e1⟩
        · rw [if_neg hz] at g2; exact g2.elim
  · left
    have e : i = ds.length := by omega
    subst e
    refine ⟨walk.2 (Nat.le_refl _), ?_⟩
    rw [List.drop_length] at g2
    exact g2 Z2 (acc.length, p) s2 (Ext.refl _) rfl kvs (Paired.length ra).symm hp2
/-- len(d) -/
theorem call_len_d : CallR X (.builtin "len") (fun xs H Q => ∃ a kvs, xs = [.ref a] ∧ H a = some (.dK kvs) ∧ Q (.int kvs.length) H) := by
  intro pins s σ H xs us Q I r h
  obtain ⟨a, kvs, rfl, e, q⟩ := h
  cases r with
  | cons rx rr =>
    cases rr
    cases rx
    exact d_len I (.inl e) fun t s' I' => ⟨.int kvs.length, H, I', ⟨t, rfl⟩, q⟩
theorem s_dcl {kx vx tg iter : Expr} {scope : Scope} {own : List (Str × Nat)} {pos pos2 p : Pos} {t : Tg} {mi : Env' → M (List D)} {mk mv : Env' → M D} (hc : X.calm = true) (hN : X.N.Nodup) (hgl : Gl X "len") (hm : X.mg "len" = none) (hi : VI X Z0 W tg iter mi) (ok : BlkOk X.N X.env.scope scope own) (hown : own.map (·.2) = t.slots)
    (hg : ∀ (s : Shared) (H : Hp) (C : Addr) (cl : List (Str × Addr)) (fp : List Addr), PG (X.blk s H scope (compEnvC scope cl C X.env) fp) tg (gT X.K t))
    (hk : ∀ (s : Shared) (H : Hp) (C : Addr) (cl : List (Str × Addr)) (fp : List Addr), PE (X.blk s H scope (compEnvC scope cl C X.env) fp) kx (tE X.K X.mg Z0 WF mk))
    (hv : ∀ (s : Shared) (H : Hp) (C : Addr) (cl : List (Str × Addr)) (fp : List Addr), PE (X.blk s H scope (compEnvC scope cl C X.env) fp) vx (tE X.K X.mg Z0 WF mv)) (hs : ∀ x, foldedSetIterable iter X.env x = pure x) :
    VE X Z0 W (.Call (.Name "len" p) [.DictComp kx vx [⟨tg, iter, [], 0⟩] scope pos] [] pos2) (fun η => M.bind (mi η) fun ds => M.bind (M.nox (dcLoop t mk mv (wipeE η t.slots) ds [])) fun kvs => M.pure (.int kvs.length)) := by
  refine peI (pe_callV (.inl ⟨_, rfl⟩) call_len_d hgl (.inr ⟨hm, Bf.boot .len (by decide)⟩) (pa_cons (pe_dc hc hN hi ok hg (fun _ _ _ _ _ => pts_nil) hk hv hs) pa_nil rfl) (by decide) (by decide) rfl rfl) fun σ H Q ⟨Z, μ, η, e, st, g⟩ => ?_
  subst e
  show tDc (tG X.K X.mg (WlkD X.K X.mg) Z0 W mi) (gT X.K t) tYes (tE X.K X.mg Z0 WF mk) (tE X.K X.mg Z0 WF mv) (own.map (·.2)) σ Z.H (fun x H1 => ∃ (a : Addr) (kvs : List (Key × V)), [x] = [V.ref a] ∧ H1 a = some (.dK kvs) ∧ Q (.int kvs.length) H1)
  refine dc_imp hown ⟨Z, μ, η, rfl, st, ?_⟩
  have g' : Gd X.K X.mg (Rel X.K X.mg) Z0 W σ η Z (M.bind (mi η) (fun ds => M.bind (M.nox (dcLoop t mk mv (wipeE η t.slots) ds [])) fun kvs => M.pure (.int kvs.length)) μ) Q := g
  unfold M.bind at g' ⊢
  cases e1 : mi η μ with
  | stuck => rw [e1] at g'; exact g'
  | exc c fs w => rw [e1] at g'; exact g'
  | ok ds w =>
    rw [e1] at g'
    simp only at g' ⊢
    cases e2 : M.nox (dcLoop t mk mv (wipeE η t.slots) ds []) w with
    | stuck => rw [e2] at g'; exact g'
    | exc c fs w2 => rw [e2] at g'; exact g'
    | ok kvs w2 =>
      rw [e2] at g'
      simp only at g' ⊢
      intro Z' b s' x' hb kvs' hl n
      have x2 := ext_own (o := .dK kvs') n
      have w3 := wk_own (o := .dK kvs') n s'.wk
      refine ⟨b.2, kvs', rfl, upd_same, ?_⟩
      rw [hl, ← hb]
      exact g' ⟨Z'.F, Z'.ι, upd Z'.H b.2 (.dK kvs'), Z'.x⟩ _ (s'.go x2 w3) (x'.trans x2) (.int _)
end
end Dn

/-! Dn 12: what the look sees is what the den says: expressions. -/
namespace Dn
open PySem PySem.Spec PyProof.Rows L2

structure Ok (T : Tb) (Γ : Cg) (Z0 : Zt) (X : Cx) : Prop where
  N : X.N = Γ.N
  nd : X.N.Nodup
  sc : X.env.scope = Γ.sc
  calm : Γ.calm = true → X.calm = true
  hu : X.A.units + 64 < cLine
  hgd : X.A.guards = some []
  gl : ∀ f, Γ.isF f = true → ∃ a, X.mg f = some (.ref a)
  fnok : Γ.calm = true → ∀ f, Γ.isF f = true → ∃ k n a, Room k X.A ∧ X.mg f = some (.ref a) ∧ PySem.W.keepIn X.K (.ref a) = true ∧ FnG X.prog X.w X.K X.mg X.base k a n (spOf X.K X.mg n (T.fn f)) ∧ ∀ ds μ, ds.length ≠ n → T.fn f ds μ = .stuck
  cn : ∀ x, Γ.isC x = true → ∃ u v d, T.cn x = some d ∧ X.mg x = some u ∧ RelV v u ∧ ∀ Z, Rel X.K X.mg Z d v
  blt : ∀ x, bltNames.contains x = true → X.mg x = none
  gcd : Γ.gcd = true → X.mg "gcd" = some (.builtin "math.gcd")
  x0 : Γ.calm = true → Z0.x = none
  xr : Γ.xc = true → ∃ a cls d, Z0.x = some (a, cls, d) ∧ XRead X a cls d
  mkx : Γ.calm = true → ∀ c, Γ.isM c = true → ∃ ns C, T.xf c = some ns ∧ ns.length ≤ 900 ∧ XcOk X.prog X.w X.K X.mg X.base c ns C ∧ Room 2 X.A
  mk0 : ∀ c, Γ.isM0 c = true → ∃ C bmB B newId initId, ExcBaseFacts B newId initId bmB ∧ PySem.W.excIn X.K C bmB newId = true ∧ X.mg c = some (.ref C) ∧ PySem.W.keepIn X.K (.ref C) = true
  isx : ∀ c, Γ.isI c = true → ∃ cv cV, ((X.mg c = some cv ∧ RelV cV cv) ∨ (X.mg c = none ∧ bootBuiltins c = some cv ∧ RelV cV cv ∧ c ≠ "__name__")) ∧ (∀ u, RelV cV u → u = cv) ∧ ∀ c1 b C, T.isa c1 c = some b → X.mg c1 = some (.ref C) → XiC X.K C ∧ PySem.W.kitOne X.K (.ref C) cv = some b
  xf : ∀ c ns f C, T.xf c = some ns → ns.contains f = true → X.mg c = some (.ref C) → XfC X.K C ∧ PySem.W.findIn X.K (.ref C) f = some none
section
variable {T : Tb} {Γ : Cg} {Z0 : Zt} {X : Cx} {W : WX}
theorem Ok.vis (ok : Ok T Γ Z0 X) {x : Str} (h : isVis Γ.sc x = true) : Vis X.env.scope x := by
  unfold isVis at h
  unfold Vis
  rw [ok.sc]
  split at h
  · rename_i e; exact .inl e
  · rename_i e; exact .inr (.inl e)
  · rename_i e; exact .inr (.inr e)
  · cases h
theorem Ok.gl' (ok : Ok T Γ Z0 X) {x : Str} (h : isGl Γ.sc x = true) : Gl X x := by
  unfold isGl at h
  show X.env.scope.names.lookup x = some .globalImplicit
  rw [ok.sc]
  split at h
  · assumption
  · cases h
theorem isLoc_loc {sc : Scope} {x : Str} (h : isLoc sc x = true) : sc.names.lookup x = some .local ∨ sc.names.lookup x = some .cell := by
  unfold isLoc at h
  split at h
  · exact .inl (by assumption)
  · exact .inr (by assumption)
  · cases h
theorem okN_1 {x : Str} (h : okN x = true) : (x == ("__debug__" : Str)) = false ∧ (x == ("__classdict__" : Str)) = false := by
  unfold okN at h
  rw [Bool.and_eq_true, Bool.and_eq_true] at h
  exact ⟨by simpa using h.1.1, by simpa using h.1.2⟩
/-- the context of a comprehension's block -/
theorem Ok.blk (ok : Ok T Γ Z0 X) (s : Shared) (H : Hp) (scope : Scope) (C : Addr) (cl : List (Str × Addr)) (fp : List Addr) :
    Ok T { Γ with sc := relS scope Γ.sc, xc := false } Z0 (X.blk s H scope (compEnvC scope cl C X.env) fp) :=
  { N := ok.N, nd := ok.nd, sc := by show relS scope X.env.scope = relS scope Γ.sc; rw [ok.sc], calm := ok.calm, hu := ok.hu, hgd := ok.hgd, gl := ok.gl, fnok := ok.fnok, cn := ok.cn, blt := ok.blt, gcd := ok.gcd, x0 := ok.x0, mkx := ok.mkx, mk0 := ok.mk0, isx := ok.isx
    xr := fun h => by cases h
    xf := ok.xf }
theorem takesWF {X : Cx} : Takes X WF := fun _ _ ⟨_, _, _, _, _, _, _, _, _, _, _, _, _, _, _, _, w⟩ => w.elim
end

def ckQ (Γ : Cg) (e : Ex) (v : Expr) (ks : List (Option Expr)) (vs : List Expr) : Bool := match e with
  | .cons c d => ck Γ none c v && ckP Γ d ks vs
  | _ => false
def isRow : Ex → Bool
  | .nil => true
  | .cons _ _ => true
  | _ => false
theorem noRowP {Γ : Cg} {e : Ex} {ks : List (Option Expr)} {vs : List Expr} (hr : isRow e = false) (h : ckP Γ e ks vs = true) : False := by
  cases e <;> first | (cases hr; done) | (cases h; done) | (cases ks <;> cases vs <;> cases h)
theorem noRowQ {Γ : Cg} {e : Ex} {v : Expr} {ks : List (Option Expr)} {vs : List Expr} (hr : isRow e = false) (h : ckQ Γ e v ks vs = true) : False := by
  cases e <;> first | (cases hr; done) | (cases h; done)
structure Snd (T : Tb) (e : Ex) : Prop where
  v : ∀ Γ X Z0 W m E, Ok T Γ Z0 X → Takes X W → ck Γ m e E = true → VE X Z0 W E (den T e).v
  t : ∀ Γ X Z0 W m E, Ok T Γ Z0 X → Takes X W → ck Γ m e E = true → VT X Z0 W E (den T e).t
  l : ∀ Γ X Z0 W m E, Ok T Γ Z0 X → Takes X W → ck Γ m e E = true → VL X Z0 W E (den T e).l
  i : ∀ Γ X Z0 W tg E, Ok T Γ Z0 X → Takes X W → ck Γ (some tg) e E = true → VI X Z0 W tg E (den T e).i
  a : ∀ Γ X Z0 W Es, Ok T Γ Z0 X → Takes X W → ckA Γ e Es = true → VA X Z0 W Es (den T e).a
  av : ∀ Γ X Z0 W Es pos, Ok T Γ Z0 X → Takes X W → ckA Γ e Es = true → Es ≠ [] → VE X Z0 W (.BoolOp .And Es pos) (den T e).av
  ov : ∀ Γ X Z0 W Es pos, Ok T Γ Z0 X → Takes X W → ckA Γ e Es = true → Es ≠ [] → VE X Z0 W (.BoolOp .Or Es pos) (den T e).ov
  at_ : ∀ Γ X Z0 W Es pos, Ok T Γ Z0 X → Takes X W → ckA Γ e Es = true → Es ≠ [] → VW X Z0 W (.BoolOp .And Es pos) (den T e).at_
  ot : ∀ Γ X Z0 W Es pos, Ok T Γ Z0 X → Takes X W → ckA Γ e Es = true → Es ≠ [] → VW X Z0 W (.BoolOp .Or Es pos) (den T e).ot
  c : ∀ Γ X Z0 W Es, Ok T Γ Z0 X → Takes X W → ckA Γ e Es = true → Es.length ≤ 1 → PTs X Es (tT X.K X.mg Z0 W (den T e).at_)
  p : ∀ Γ X Z0 W ks vs pos, Ok T Γ Z0 X → Takes X W → ckP Γ e ks vs = true → PPs X pos ks vs (trsOf T X.K X.mg Z0 W e) ∧ evn e = true ∧ ks.all (·.isSome) = true
  q : ∀ Γ X Z0 W v ks vs pos, Ok T Γ Z0 X → Takes X W → ckQ Γ e v ks vs = true → ∃ c d, e = .cons c d ∧ VE X Z0 W v (den T c).v ∧ PPs X pos ks vs (trsOf T X.K X.mg Z0 W d) ∧ evn d = true ∧ ks.all (·.isSome) = true
theorem s_noP {X : Cx} {Z0 : Zt} {W : WX} {es : List Expr} : PTs X es (tT X.K X.mg Z0 W no1) := ⟨fun _ _ _ _ _ _ h => (tG_no h).elim⟩
theorem s_noW {X : Cx} {Z0 : Zt} {W : WX} {e : Expr} : VW X Z0 W e no1 := ⟨fun _ _ _ _ _ _ _ h => (tG_no h).elim⟩
section
variable {T : Tb} {e : Ex}
theorem snd_V {f : Env' → M D} (hd : den T e = .ofV f) (hv : ∀ Γ X Z0 W m E, Ok T Γ Z0 X → Takes X W → ck Γ m e E = true → VE X Z0 W E f ∧ plainT E = true) (hr : isRow e = false := by rfl) : Snd T e where
  v := fun Γ X Z0 W m E ok tk h => by rw [hd]; exact (hv Γ X Z0 W m E ok tk h).1
  t := fun Γ X Z0 W m E ok tk h => by rw [hd]; exact s_tru (hv Γ X Z0 W m E ok tk h).2 (hv Γ X Z0 W m E ok tk h).1
  l := fun Γ X Z0 W m E ok tk h => by rw [hd]; exact s_noL
  i := fun Γ X Z0 W tg E ok tk h => by rw [hd]; exact s_iv (hv Γ X Z0 W _ E ok tk h).1
  a := fun Γ X Z0 W Es ok tk h => by rw [hd]; exact s_noA
  av := fun Γ X Z0 W Es pos ok tk h hn => by rw [hd]; exact s_no
  ov := fun Γ X Z0 W Es pos ok tk h hn => by rw [hd]; exact s_no
  at_ := fun Γ X Z0 W Es pos ok tk h hn => by rw [hd]; exact s_noW
  ot := fun Γ X Z0 W Es pos ok tk h hn => by rw [hd]; exact s_noW
  c := fun Γ X Z0 W Es ok tk h hn => by rw [hd]; exact s_noP
  p := fun Γ X Z0 W ks vs pos ok tk h => (noRowP hr h).elim
  q := fun Γ X Z0 W v ks vs pos ok tk h => (noRowQ hr h).elim
theorem snd_T {f : Env' → M D} {g : Env' → M Bool} (hd : den T e = .ofT f g) (hv : ∀ Γ X Z0 W m E, Ok T Γ Z0 X → Takes X W → ck Γ m e E = true → VE X Z0 W E f ∧ VT X Z0 W E g) (hr : isRow e = false := by rfl) : Snd T e where
  v := fun Γ X Z0 W m E ok tk h => by rw [hd]; exact (hv Γ X Z0 W m E ok tk h).1
  t := fun Γ X Z0 W m E ok tk h => by rw [hd]; exact (hv Γ X Z0 W m E ok tk h).2
  l := fun Γ X Z0 W m E ok tk h => by rw [hd]; exact s_noL
  i := fun Γ X Z0 W tg E ok tk h => by rw [hd]; exact s_noI
  a := fun Γ X Z0 W Es ok tk h => by rw [hd]; exact s_noA
  av := fun Γ X Z0 W Es pos ok tk h hn => by rw [hd]; exact s_no
  ov := fun Γ X Z0 W Es pos ok tk h hn => by rw [hd]; exact s_no
  at_ := fun Γ X Z0 W Es pos ok tk h hn => by rw [hd]; exact s_noW
  ot := fun Γ X Z0 W Es pos ok tk h hn => by rw [hd]; exact s_noW
  c := fun Γ X Z0 W Es ok tk h hn => by rw [hd]; exact s_noP
  p := fun Γ X Z0 W ks vs pos ok tk h => (noRowP hr h).elim
  q := fun Γ X Z0 W v ks vs pos ok tk h => (noRowQ hr h).elim
theorem snd_L {f : Env' → M (List D)} (hd : den T e = .ofL f) (hv : ∀ Γ X Z0 W m E, Ok T Γ Z0 X → Takes X W → ck Γ m e E = true → VL X Z0 W E f ∧ plainT E = true) (hr : isRow e = false := by rfl) : Snd T e where
  v := fun Γ X Z0 W m E ok tk h => by rw [hd]; exact pe_frz (hv Γ X Z0 W m E ok tk h).1
  t := fun Γ X Z0 W m E ok tk h => by rw [hd]; exact s_truL (hv Γ X Z0 W m E ok tk h).2 (hv Γ X Z0 W m E ok tk h).1
  l := fun Γ X Z0 W m E ok tk h => by rw [hd]; exact (hv Γ X Z0 W m E ok tk h).1
  i := fun Γ X Z0 W tg E ok tk h => by rw [hd]; exact s_il (hv Γ X Z0 W _ E ok tk h).1
  a := fun Γ X Z0 W Es ok tk h => by rw [hd]; exact s_noA
  av := fun Γ X Z0 W Es pos ok tk h hn => by rw [hd]; exact s_no
  ov := fun Γ X Z0 W Es pos ok tk h hn => by rw [hd]; exact s_no
  at_ := fun Γ X Z0 W Es pos ok tk h hn => by rw [hd]; exact s_noW
  ot := fun Γ X Z0 W Es pos ok tk h hn => by rw [hd]; exact s_noW
  c := fun Γ X Z0 W Es ok tk h hn => by rw [hd]; exact s_noP
  p := fun Γ X Z0 W ks vs pos ok tk h => (noRowP hr h).elim
  q := fun Γ X Z0 W v ks vs pos ok tk h => (noRowQ hr h).elim
theorem snd_I {f : Env' → M (List D)} (hd : den T e = .ofI f) (hv : ∀ Γ X Z0 W tg E, Ok T Γ Z0 X → Takes X W → ck Γ (some tg) e E = true → VI X Z0 W tg E f) (hr : isRow e = false := by rfl) : Snd T e where
  v := fun Γ X Z0 W m E ok tk h => by rw [hd]; exact s_no
  t := fun Γ X Z0 W m E ok tk h => by rw [hd]; exact s_noT
  l := fun Γ X Z0 W m E ok tk h => by rw [hd]; exact s_noL
  i := fun Γ X Z0 W tg E ok tk h => by rw [hd]; exact hv Γ X Z0 W tg E ok tk h
  a := fun Γ X Z0 W Es ok tk h => by rw [hd]; exact s_noA
  av := fun Γ X Z0 W Es pos ok tk h hn => by rw [hd]; exact s_no
  ov := fun Γ X Z0 W Es pos ok tk h hn => by rw [hd]; exact s_no
  at_ := fun Γ X Z0 W Es pos ok tk h hn => by rw [hd]; exact s_noW
  ot := fun Γ X Z0 W Es pos ok tk h hn => by rw [hd]; exact s_noW
  c := fun Γ X Z0 W Es ok tk h hn => by rw [hd]; exact s_noP
  p := fun Γ X Z0 W ks vs pos ok tk h => (noRowP hr h).elim
  q := fun Γ X Z0 W v ks vs pos ok tk h => (noRowQ hr h).elim
end
theorem and2 {a b : Bool} (h : (a && b) = true) : a = true ∧ b = true := by rw [Bool.and_eq_true] at h; exact h
theorem ck_noSet {Γ : Cg} {m : Option Expr} {c : Ex} {e : Expr} (h : ck Γ m c e = true) : noSet e = true := by
  cases e with
  | Set _ _ _ => cases c <;> cases h
  | _ => rfl
theorem noSet_fold {iter : Expr} {env : PySem.Env} (h : noSet iter = true) : ∀ x, foldedSetIterable iter env x = pure x := by
  intro x
  cases iter <;> first | rfl | cases h
theorem ckA_noStar {Γ : Cg} : ∀ {c : Ex} {es : List Expr}, ckA Γ c es = true → es.all noStar = true
  | .nil, [], _ => rfl
  | .nil, _ :: _, h => by cases h
  | .cons a b, [], h => by cases h
  | .cons a b, e :: es, h => by
    have h' : (noStar e && ck Γ none a e && ckA Γ b es) = true := h
    obtain ⟨h1, h2⟩ := and2 h'
    obtain ⟨h3, h4⟩ := and2 h1
    rw [List.all_cons, h3, ckA_noStar h2]; rfl
  | .cst _, es, h => by cases es <;> cases h
  | .var _, es, h => by cases es <;> cases h
  | .glf _, es, h => by cases es <;> cases h
  | .glc _, es, h => by cases es <;> cases h
  | .bin _ _ _, es, h => by cases es <;> cases h
  | .neg _, es, h => by cases es <;> cases h
  | .cmp _ _ _, es, h => by cases es <;> cases h
  | .chn _ _ _ _ _, es, h => by cases es <;> cases h
  | .bop _ _, es, h => by cases es <;> cases h
  | .nt _, es, h => by cases es <;> cases h
  | .ite _ _ _, es, h => by cases es <;> cases h
  | .tup _, es, h => by cases es <;> cases h
  | .lst _, es, h => by cases es <;> cases h
  | .ix _ _, es, h => by cases es <;> cases h
  | .slc _ _ _, es, h => by cases es <;> cases h
  | .no, es, h => by cases es <;> cases h
  | .call _ _, es, h => by cases es <;> cases h
  | .blt _ _, es, h => by cases es <;> cases h
  | .lsl _, es, h => by cases es <;> cases h
  | .isi _ _, es, h => by cases es <;> cases h
  | .lc _ _ _ _, es, h => by cases es <;> cases h
  | .rg1 _, es, h => by cases es <;> cases h
  | .rg2 _ _, es, h => by cases es <;> cases h
  | .zp _ _, es, h => by cases es <;> cases h
  | .enm _, es, h => by cases es <;> cases h
  | .owx _ _, es, h => by cases es <;> cases h
  | .owl _, es, h => by cases es <;> cases h
  | .owt _, es, h => by cases es <;> cases h
  | .xat _ _, es, h => by cases es <;> cases h
  | .mkx _ _, es, h => by cases es <;> cases h
  | .mk0 _, es, h => by cases es <;> cases h
  | .fld _ _, es, h => by cases es <;> cases h
  | .isx _ _, es, h => by cases es <;> cases h
  | .dsp _, es, h => by cases es <;> cases h
  | .lrg _ _, es, h => by cases es <;> cases h
  | .dcl _ _ _ _, es, h => by cases es <;> cases h
  | .rep _ _, es, h => by cases es <;> cases h
theorem and_ne {T : Tb} {a b : Ex} {Γ : Cg} {es : List Expr} (h : ckA Γ (.cons a b) es = true) : ∃ e r, es = e :: r ∧ noStar e = true ∧ ck Γ none a e = true ∧ ckA Γ b r = true := by
  cases es with
  | nil => cases h
  | cons e r =>
    obtain ⟨h1, h2⟩ := and2 (show (noStar e && ck Γ none a e && ckA Γ b r) = true from h)
    obtain ⟨h3, h4⟩ := and2 h1
    exact ⟨e, r, rfl, h3, h4, h2⟩
theorem ckA_shape {Γ : Cg} {b : Ex} {es : List Expr} (h : ckA Γ b es = true) : (b = .nil ∧ es = []) ∨ ∃ a c, b = .cons a c := by
  cases b with
  | nil => cases es with
    | nil => exact .inl ⟨rfl, rfl⟩
    | cons _ _ => cases h
  | cons a c => exact .inr ⟨a, c, rfl⟩
  | _ => cases es <;> cases h
/-- what is seen of a comprehension -/
structure LcP (T : Tb) (Z0 : Zt) (X : Cx) (W : WX) (elt : Ex) (tg : Tg) (it ifs : Ex) (e t i : Expr) (fs : List Expr) (scope : Scope) (own : List (Str × Nat)) : Prop where
  hc : X.calm = true
  hi : VI X Z0 W t i (den T it).i
  bk : BlkOk X.N X.env.scope scope own
  hown : own.map (·.2) = tg.slots
  hg : ∀ (s : Shared) (H : Hp) (C : Addr) (cl : List (Str × Addr)) (fp : List Addr), PG (X.blk s H scope (compEnvC scope cl C X.env) fp) t (gT X.K tg)
  ht : ∀ (s : Shared) (H : Hp) (C : Addr) (cl : List (Str × Addr)) (fp : List Addr), PTs (X.blk s H scope (compEnvC scope cl C X.env) fp) fs (tT X.K X.mg Z0 WF (den T ifs).at_)
  he : ∀ (s : Shared) (H : Hp) (C : Addr) (cl : List (Str × Addr)) (fp : List Addr), PE (X.blk s H scope (compEnvC scope cl C X.env) fp) e (tE X.K X.mg Z0 WF (den T elt).v)
  hs : ∀ x, foldedSetIterable i X.env x = pure x
theorem blk_tg {T : Tb} {Γ : Cg} {Z0 : Zt} {X : Cx} (ok : Ok T Γ Z0 X) (hc : X.calm = true) {scope : Scope} {tg : Tg} {t : Expr} (h4 : ckTg Γ.N scope tg t = true) (s : Shared) (H : Hp) (C : Addr) (cl : List (Str × Addr)) (fp : List Addr) : PG (X.blk s H scope (compEnvC scope cl C X.env) fp) t (gT X.K tg) := by
  refine ckTg_pg (X := X.blk s H scope (compEnvC scope cl C X.env) fp) (sc := scope) ok.nd (fun x hx => ?_) (.inl hc) (by rw [show (X.blk s H scope (compEnvC scope cl C X.env) fp).N = Γ.N from ok.N]; exact h4)
  rcases isLoc_loc hx with z | z
  · have q := lookup_relS_keep (sc := X.env.scope) (by intro k; cases k) z
    exact ⟨.inl q, .inr q⟩
  · have q := lookup_relS_keep (sc := X.env.scope) (by intro k; cases k) z
    exact ⟨.inr q, .inl (by show (scope.names.lookup x == some .cell) = true; rw [z]; rfl)⟩
theorem lc_inv {T : Tb} {Γ : Cg} {Z0 : Zt} {X : Cx} {W : WX} {m : Option Expr} {elt it ifs : Ex} {tg : Tg} {E : Expr} (si : Snd T it) (sf : Snd T ifs) (se : Snd T elt) (ok : Ok T Γ Z0 X) (tk : Takes X W) (h : ck Γ m (.lc elt tg it ifs) E = true) :
    ∃ e t i fs scope p own, E = .ListComp e [⟨t, i, fs, 0⟩] scope p ∧ LcP T Z0 X W elt tg it ifs e t i fs scope own := by
  cases E with
  | ListComp e gs scope p =>
    match gs, h with
    | [⟨t, i, fs, k⟩], h =>
      have hk : k = 0 := by
        cases k with
        | ofNat n => cases n with
          | zero => rfl
          | succ n => cases h
        | negSucc n => cases h
      subst hk
      obtain ⟨h1, h8⟩ := and2 (show (Γ.calm && blkC Γ.N Γ.sc scope (ownOf Γ.N tg.slots) && decide ((ownOf Γ.N tg.slots).map (·.2) = tg.slots) && ckTg Γ.N scope tg t && ck Γ (some t) it i && decide (fs.length ≤ 1) && ckA { Γ with sc := relS scope Γ.sc, xc := false } ifs fs && ck { Γ with sc := relS scope Γ.sc, xc := false } none elt e) = true from h)
      obtain ⟨h1, h7⟩ := and2 h1
      obtain ⟨h1, h6⟩ := and2 h1
      obtain ⟨h1, h5⟩ := and2 h1
      obtain ⟨h1, h4⟩ := and2 h1
      obtain ⟨h1, h3⟩ := and2 h1
      obtain ⟨h1, h2⟩ := and2 h1
      have hc := ok.calm h1
      refine ⟨e, t, i, fs, scope, p, _, rfl, hc, si.i Γ X Z0 W _ _ ok tk h5, blkOk_by (by rw [ok.N, ok.sc]; exact h2), of_decide_eq_true h3, blk_tg ok hc h4, fun s H C cl fp => ?_, fun s H C cl fp => ?_, noSet_fold (ck_noSet h5)⟩
      · exact sf.c _ _ Z0 WF _ (ok.blk s H scope C cl fp) takesWF h7 (of_decide_eq_true h6)
      · exact se.v _ _ Z0 WF _ _ (ok.blk s H scope C cl fp) takesWF h8
    | [], h => cases h
    | ⟨_, _, _, k⟩ :: _ :: _, h =>
      cases k with
      | ofNat n => cases n <;> cases h
      | negSucc n => cases h
  | _ => cases h
theorem snd (T : Tb) : ∀ e : Ex, Snd T e
  | .cst c => snd_V rfl fun Γ X Z0 W m E ok tk h => by
    cases E with
    | Constant c' k p => cases of_decide_eq_true (show decide (c = c') = true from h); exact ⟨s_cst, rfl⟩
    | _ => cases h
  | .var i => snd_V rfl fun Γ X Z0 W m E ok tk h => by
    cases E with
    | Name x p =>
      obtain ⟨h1, h3⟩ := and2 (show (decide (Γ.N[i]? = some x) && isVis Γ.sc x && okN x) = true from h)
      obtain ⟨h1, h2⟩ := and2 h1
      obtain ⟨d1, d2⟩ := okN_1 h3
      exact ⟨s_var (by rw [ok.N]; exact of_decide_eq_true h1) (ok.vis h2) d1 d2, rfl⟩
    | _ => cases h
  | .glf x => snd_V rfl fun Γ X Z0 W m E ok tk h => by
    cases E with
    | Name y p =>
      obtain ⟨h1, h4⟩ := and2 (show (decide (x = y) && isGl Γ.sc x && Γ.isF x && okN x) = true from h)
      obtain ⟨h1, h3⟩ := and2 h1
      obtain ⟨h1, h2⟩ := and2 h1
      cases of_decide_eq_true h1
      obtain ⟨a, ha⟩ := ok.gl x h3
      exact ⟨s_glf (ok.gl' h2) ha (okN_1 h4).1, rfl⟩
    | _ => cases h
  | .glc x => snd_V rfl fun Γ X Z0 W m E ok tk h => by
    cases E with
    | Name y p =>
      obtain ⟨h1, h4⟩ := and2 (show (decide (x = y) && isGl Γ.sc x && Γ.isC x && okN x) = true from h)
      obtain ⟨h1, h3⟩ := and2 h1
      obtain ⟨h1, h2⟩ := and2 h1
      cases of_decide_eq_true h1
      obtain ⟨u, v, d, e1, e2, r, q⟩ := ok.cn x h3
      rw [e1]
      exact ⟨s_glc (ok.gl' h2) e2 r q (okN_1 h4).1, rfl⟩
    | _ => cases h
  | .bin op a b => snd_V rfl fun Γ X Z0 W m E ok tk h => by
    cases E with
    | BinOp e op' f p =>
      obtain ⟨h1, h3⟩ := and2 (show (decide (op = op') && ck Γ none a e && ck Γ none b f) = true from h)
      obtain ⟨h1, h2⟩ := and2 h1
      cases of_decide_eq_true h1
      exact ⟨s_bin ((snd T a).v Γ X Z0 W _ _ ok tk h2) ((snd T b).v Γ X Z0 W _ _ ok tk h3), rfl⟩
    | _ => cases h
  | .neg a => snd_V rfl fun Γ X Z0 W m E ok tk h => by
    cases E with
    | UnaryOp op e p =>
      obtain ⟨h1, h2⟩ := and2 (show (decide (op = .USub) && ck Γ none a e) = true from h)
      cases of_decide_eq_true h1
      exact ⟨s_neg ((snd T a).v Γ X Z0 W _ _ ok tk h2), rfl⟩
    | _ => cases h
  | .nt a => snd_T rfl fun Γ X Z0 W m E ok tk h => by
    cases E with
    | UnaryOp op e p =>
      obtain ⟨h1, h2⟩ := and2 (show (decide (op = .Not) && ck Γ none a e) = true from h)
      cases of_decide_eq_true h1
      exact ⟨s_not ((snd T a).v Γ X Z0 W _ _ ok tk h2), s_notT ((snd T a).t Γ X Z0 W _ _ ok tk h2)⟩
    | _ => cases h
  | .cmp op a b => snd_T rfl fun Γ X Z0 W m E ok tk h => by
    cases E with
    | Compare e ops fs p =>
      match ops, fs, h with
      | [op'], [f], h =>
        obtain ⟨h1, h4⟩ := and2 (show (decide (op = op') && noSet f && ck Γ none a e && ck Γ none b f) = true from h)
        obtain ⟨h1, h3⟩ := and2 h1
        obtain ⟨h1, h2⟩ := and2 h1
        cases of_decide_eq_true h1
        have ha := (snd T a).v Γ X Z0 W _ _ ok tk h3
        have hb := (snd T b).v Γ X Z0 W _ _ ok tk h4
        exact ⟨s_cmp ok.hu ha hb h2, s_cmpT ok.hu ha hb h2⟩
      | [], [], h => cases h
      | [], _ :: _, h => cases h
      | [_], [], h => cases h
      | [_], _ :: _ :: _, h => cases h
      | _ :: _ :: _, fs, h => cases fs <;> cases h
    | _ => cases h
  | .chn o1 o2 a b c => snd_T rfl fun Γ X Z0 W m E ok tk h => by
    cases E with
    | Compare e ops fs p =>
      match ops, fs, h with
      | [p1, p2], [f, g], h =>
        obtain ⟨h1, h7⟩ := and2 (show (decide (o1 = p1) && decide (o2 = p2) && noSet f && noSet g && ck Γ none a e && ck Γ none b f && ck Γ none c g) = true from h)
        obtain ⟨h1, h6⟩ := and2 h1
        obtain ⟨h1, h5⟩ := and2 h1
        obtain ⟨h1, h4⟩ := and2 h1
        obtain ⟨h1, h3⟩ := and2 h1
        obtain ⟨h1, h2⟩ := and2 h1
        cases of_decide_eq_true h1
        cases of_decide_eq_true h2
        have ha := (snd T a).v Γ X Z0 W _ _ ok tk h5
        have hb := (snd T b).v Γ X Z0 W _ _ ok tk h6
        have hc := (snd T c).v Γ X Z0 W _ _ ok tk h7
        exact ⟨s_chn ok.hu ha hb hc h4, s_chnT ok.hu ha hb hc h4⟩
      | [], fs, h => cases fs <;> cases h
      | [_], fs, h => cases fs <;> cases h
      | _ :: _ :: _ :: _, fs, h => cases fs <;> cases h
      | [_, _], [], h => cases h
      | [_, _], [_], h => cases h
      | [_, _], _ :: _ :: _ :: _, h => cases h
    | _ => cases h
  | .bop k as => snd_T rfl fun Γ X Z0 W m E ok tk h => by
    cases E with
    | BoolOp op es p =>
      obtain ⟨h1, h3⟩ := and2 (show (decide (op = if k = true then .And else .Or) && !es.isEmpty && ckA Γ as es) = true from h)
      obtain ⟨h1, h2⟩ := and2 h1
      have hne : es ≠ [] := fun z => by rw [z] at h2; cases h2
      have e1 := of_decide_eq_true h1
      cases k with
      | true =>
        rw [if_pos rfl] at e1
        subst e1
        rw [if_pos rfl, if_pos rfl]
        exact ⟨(snd T as).av Γ X Z0 W es p ok tk h3 hne, ((snd T as).at_ Γ X Z0 W es p ok tk h3 hne).pt⟩
      | false =>
        rw [if_neg Bool.false_ne_true] at e1
        subst e1
        rw [if_neg Bool.false_ne_true, if_neg Bool.false_ne_true]
        exact ⟨(snd T as).ov Γ X Z0 W es p ok tk h3 hne, ((snd T as).ot Γ X Z0 W es p ok tk h3 hne).pt⟩
    | _ => cases h
  | .ite t a b => snd_T rfl fun Γ X Z0 W m E ok tk h => by
    cases E with
    | IfExp e f g p =>
      obtain ⟨h1, h3⟩ := and2 (show (ck Γ none t e && ck Γ none a f && ck Γ none b g) = true from h)
      obtain ⟨h1, h2⟩ := and2 h1
      have ht := (snd T t).t Γ X Z0 W _ _ ok tk h1
      exact ⟨s_ite ht ((snd T a).v Γ X Z0 W _ _ ok tk h2) ((snd T b).v Γ X Z0 W _ _ ok tk h3), s_iteT ht ((snd T a).t Γ X Z0 W _ _ ok tk h2) ((snd T b).t Γ X Z0 W _ _ ok tk h3)⟩
    | _ => cases h
  | .tup as => snd_V rfl fun Γ X Z0 W m E ok tk h => by
    cases E with
    | Tuple es k p => exact ⟨s_tup ((snd T as).a Γ X Z0 W es ok tk h), rfl⟩
    | _ => cases h
  | .lst as => snd_L rfl fun Γ X Z0 W m E ok tk h => by
    cases E with
    | List es p => exact ⟨s_lst ((snd T as).a Γ X Z0 W es ok tk h), rfl⟩
    | _ => cases h
  | .ix a i => snd_V rfl fun Γ X Z0 W m E ok tk h => by
    cases E with
    | Subscript e f p =>
      obtain ⟨h1, h3⟩ := and2 (show (noSlice f && ck Γ none a e && ck Γ none i f) = true from h)
      obtain ⟨h1, h2⟩ := and2 h1
      exact ⟨s_ix ok.hu ((snd T a).v Γ X Z0 W _ _ ok tk h2) ((snd T i).v Γ X Z0 W _ _ ok tk h3) h1, rfl⟩
    | _ => cases h
  | .slc a lo hi => snd_V rfl fun Γ X Z0 W m E ok tk h => by
    cases E with
    | Subscript e f p =>
      cases f with
      | Slice l hh st p2 =>
        cases st with
        | some _ => cases h
        | none =>
          obtain ⟨h1, h3⟩ := and2 (show (ck Γ none a e && (fun l : Option Expr => match l with | none => isNo lo | some l' => ck Γ none lo l') l && (fun l : Option Expr => match l with | none => isNo hi | some l' => ck Γ none hi l') hh) = true from h)
          obtain ⟨h1, h2⟩ := and2 h1
          have part : ∀ (l : Option Expr) (lo : Ex), Snd T lo → (fun l : Option Expr => match l with | none => isNo lo | some l' => ck Γ none lo l') l = true → VO X Z0 W l (bif isNo lo then fun _ => M.pure none else bndM (den T lo).v) := fun l lo sl hl => by
            cases l with
            | none => cases lo <;> first | exact s_o0 | cases hl
            | some l' =>
              have q := s_o1 (sl.v Γ X Z0 W _ _ ok tk hl)
              cases lo <;> first | exact q | (cases l' <;> cases hl)
          exact ⟨s_slc ((snd T a).v Γ X Z0 W _ _ ok tk h1) (part l lo (snd T lo) h2) (part hh hi (snd T hi) h3), rfl⟩
      | _ => cases h
    | _ => cases h
  | .no => snd_V rfl fun Γ X Z0 W m E ok tk h => by cases E <;> cases h
  | .call f as => snd_V rfl fun Γ X Z0 W m E ok tk h => by
    cases E with
    | Call g es ks p =>
      cases g with
      | Name x q =>
        cases ks with
        | cons _ _ => cases h
        | nil =>
          obtain ⟨h1, h7⟩ := and2 (show (decide (f = x) && isGl Γ.sc x && Γ.isF x && okN x && !es.isEmpty && Γ.calm && ckA Γ as es) = true from h)
          obtain ⟨h1, h6⟩ := and2 h1
          obtain ⟨h1, h5⟩ := and2 h1
          obtain ⟨h1, h4⟩ := and2 h1
          obtain ⟨h1, h3⟩ := and2 h1
          obtain ⟨h1, h2⟩ := and2 h1
          cases of_decide_eq_true h1
          cases es with
          | nil => cases h5
          | cons e es =>
            obtain ⟨k, n, a, hr, hm, hk, F, hn⟩ := ok.fnok h6 f h3
            exact ⟨s_call (ok.x0 h6) hr ok.hgd tk (ok.gl' h2) hm hk F (ckA_noStar h7) ((snd T as).a Γ X Z0 W _ ok tk h7) (okN_1 h4).1 hn, rfl⟩
      | _ => cases h
    | _ => cases h
  | .blt f as => snd_V rfl fun Γ X Z0 W m E ok tk h => by
    cases E with
    | Call g es ks p =>
      cases g with
      | Name x q =>
        cases ks with
        | cons _ _ => cases h
        | nil =>
          obtain ⟨h1, h6⟩ := and2 (show (decide (x = f.name) && isGl Γ.sc x && !es.isEmpty && (Γ.calm || decide (f = .repr)) && (Γ.gcd || !decide (f = .gcd)) && ckA Γ as es) = true from h)
          obtain ⟨h1, h5⟩ := and2 h1
          obtain ⟨h1, h4⟩ := and2 h1
          obtain ⟨h1, h3⟩ := and2 h1
          obtain ⟨h1, h2⟩ := and2 h1
          have ex := of_decide_eq_true h1
          subst ex
          cases es with
          | nil => cases h3
          | cons e es =>
            refine ⟨s_blt ?_ ok.hgd ok.hu (ok.gl' h2) ⟨fun hf => ok.blt _ (by revert hf; cases f <;> decide), fun hf => ?_⟩ (ckA_noStar h6) ((snd T as).a Γ X Z0 W _ ok tk h6), rfl⟩
            · rcases Bool.or_eq_true _ _ ▸ h4 with z | z
              · exact .inl (ok.calm z)
              · exact .inr (of_decide_eq_true z)
            · subst hf
              exact ok.gcd (by simpa using h5)
      | _ => cases h
    | _ => cases h
  | .lsl a => snd_L rfl fun Γ X Z0 W m E ok tk h => by
    cases E with
    | Call g es ks p =>
      cases g with
      | Name x q =>
        match es, ks, h with
        | [e], [], h =>
          obtain ⟨h1, h4⟩ := and2 (show (decide (x = "list") && isGl Γ.sc x && noStar e && ck Γ none a e) = true from h)
          obtain ⟨h1, h3⟩ := and2 h1
          obtain ⟨h1, h2⟩ := and2 h1
          have ex := of_decide_eq_true h1
          subst ex
          exact ⟨s_lsl (ok.gl' h2) (ok.blt _ (by decide)) h3 ((snd T a).v Γ X Z0 W _ _ ok tk h4), rfl⟩
        | [], ks, h => cases ks <;> cases h
        | [_], _ :: _, h => cases h
        | _ :: _ :: _, ks, h => cases ks <;> cases h
      | _ => cases h
    | _ => cases h
  | .isi a ts => snd_V rfl fun Γ X Z0 W m E ok tk h => by
    cases E with
    | Call g es ks p =>
      cases g with
      | Name x q =>
        match es, ks, h with
        | [e, t], [], h =>
          obtain ⟨h1, h5⟩ := and2 (show (decide (x = "isinstance") && isGl Γ.sc x && noStar e && ck Γ none a e && ckTy Γ.sc ts t) = true from h)
          obtain ⟨h1, h4⟩ := and2 h1
          obtain ⟨h1, h3⟩ := and2 h1
          obtain ⟨h1, h2⟩ := and2 h1
          have ex := of_decide_eq_true h1
          subst ex
          have ha := (snd T a).v Γ X Z0 W _ _ ok tk h4
          cases t with
          | Name y q2 =>
            match ts, h5 with
            | [n], h5 =>
              obtain ⟨g1, g3⟩ := and2 (show (decide (y = Str.ofString n) && ["int", "bool", "str", "tuple", "list"].contains n && isGl Γ.sc y) = true from h5)
              obtain ⟨g1, g2⟩ := and2 g1
              have ey := of_decide_eq_true g1
              have hmem : n ∈ ["int", "bool", "str", "tuple", "list"] := by simpa using g2
              have hb : ∀ n ∈ ["int", "bool", "str", "tuple", "list"], bltNames.contains (Str.ofString n) = true := by decide +kernel
              exact ⟨s_isi (ok.gl' h2) (ok.blt _ (by decide +kernel)) h3 ha ey hmem (ok.gl' g3) (by rw [ey]; exact ok.blt _ (hb n hmem)), rfl⟩
            | [], h5 => cases h5
            | _ :: _ :: _, h5 => cases h5
          | Tuple es k q2 =>
            match es, h5 with
            | [.Name y q3, .Name z q4], h5 =>
              obtain ⟨g1, g5⟩ := and2 (show (decide (ts = ["list", "tuple"]) && decide (y = "list") && decide (z = "tuple") && isGl Γ.sc y && isGl Γ.sc z) = true from h5)
              obtain ⟨g1, g4⟩ := and2 g1
              obtain ⟨g1, g3⟩ := and2 g1
              obtain ⟨g1, g2⟩ := and2 g1
              have e1 := of_decide_eq_true g1
              have e2 := of_decide_eq_true g2
              have e3 := of_decide_eq_true g3
              subst e1 e2 e3
              exact ⟨s_isi2 (ok.gl' h2) (ok.blt _ (by decide +kernel)) h3 ha (ok.gl' g4) (ok.blt _ (by decide +kernel)) (ok.gl' g5) (ok.blt _ (by decide +kernel)), rfl⟩
            | [], h5 => cases h5
            | [e1], h5 => cases e1 <;> cases h5
            | e1 :: e2 :: _ :: _, h5 => cases e1 <;> first | cases h5 | (cases e2 <;> cases h5)
          | _ => cases h5
        | [], ks, h => cases ks <;> cases h
        | [_], ks, h => cases ks <;> cases h
        | [_, _], _ :: _, h => cases h
        | _ :: _ :: _ :: _, ks, h => cases ks <;> cases h
      | _ => cases h
    | _ => cases h
  | .lc elt tg it ifs => snd_L rfl fun Γ X Z0 W m E ok tk h => by
    obtain ⟨e, t, i, fs, scope, p, own, rfl, P⟩ := lc_inv (snd T it) (snd T ifs) (snd T elt) ok tk h
    exact ⟨s_lc P.hc ok.nd P.hi P.bk P.hown P.hg P.ht P.he P.hs, rfl⟩
  | .rg1 a => snd_I rfl fun Γ X Z0 W tg E ok tk h => by
    cases E with
    | Call g es ks p =>
      cases g with
      | Name x q =>
        match es, ks, h with
        | [e], [], h =>
          obtain ⟨h1, h4⟩ := and2 (show (true && decide (x = "range") && isGl Γ.sc x && noStar e && ck Γ none a e) = true from h)
          obtain ⟨h1, h3⟩ := and2 h1
          obtain ⟨h1, h2⟩ := and2 h1
          have ex := of_decide_eq_true (and2 h1).2
          subst ex
          exact s_rg1 (ok.gl' h2) (ok.blt _ (by decide)) h3 ((snd T a).v Γ X Z0 W _ _ ok tk h4)
        | [], ks, h => cases ks <;> cases h
        | [_], _ :: _, h => cases h
        | _ :: _ :: _, ks, h => cases ks <;> cases h
      | _ => cases h
    | _ => cases h
  | .rg2 a b => snd_I rfl fun Γ X Z0 W tg E ok tk h => by
    cases E with
    | Call g es ks p =>
      cases g with
      | Name x q =>
        match es, ks, h with
        | [e, f], [], h =>
          obtain ⟨h1, h6⟩ := and2 (show (true && decide (x = "range") && isGl Γ.sc x && noStar e && noStar f && ck Γ none a e && ck Γ none b f) = true from h)
          obtain ⟨h1, h5⟩ := and2 h1
          obtain ⟨h1, h4⟩ := and2 h1
          obtain ⟨h1, h3⟩ := and2 h1
          obtain ⟨h1, h2⟩ := and2 h1
          have ex := of_decide_eq_true (and2 h1).2
          subst ex
          exact s_rg2 (ok.gl' h2) (ok.blt _ (by decide)) h3 h4 ((snd T a).v Γ X Z0 W _ _ ok tk h5) ((snd T b).v Γ X Z0 W _ _ ok tk h6)
        | [], ks, h => cases ks <;> cases h
        | [_], ks, h => cases ks <;> cases h
        | [_, _], _ :: _, h => cases h
        | _ :: _ :: _ :: _, ks, h => cases ks <;> cases h
      | _ => cases h
    | _ => cases h
  | .zp a b => snd_I rfl fun Γ X Z0 W tg E ok tk h => by
    cases E with
    | Call g es ks p =>
      cases g with
      | Name x q =>
        match es, ks, h with
        | [e, f], [], h =>
          obtain ⟨h1, h6⟩ := and2 (show (isTuple tg && decide (x = "zip") && isGl Γ.sc x && noStar e && noStar f && ck Γ none a e && ck Γ none b f) = true from h)
          obtain ⟨h1, h5⟩ := and2 h1
          obtain ⟨h1, h4⟩ := and2 h1
          obtain ⟨h1, h3⟩ := and2 h1
          obtain ⟨h1, h2⟩ := and2 h1
          have ex := of_decide_eq_true (and2 h1).2
          subst ex
          exact s_zp (and2 h1).1 (ok.gl' h2) (ok.blt _ (by decide)) h3 h4 ((snd T a).v Γ X Z0 W _ _ ok tk h5) ((snd T b).v Γ X Z0 W _ _ ok tk h6)
        | [], ks, h => cases ks <;> cases h
        | [_], ks, h => cases ks <;> cases h
        | [_, _], _ :: _, h => cases h
        | _ :: _ :: _ :: _, ks, h => cases ks <;> cases h
      | _ => cases h
    | _ => cases h
  | .enm a => snd_I rfl fun Γ X Z0 W tg E ok tk h => by
    cases E with
    | Call g es ks p =>
      cases g with
      | Name x q =>
        match es, ks, h with
        | [e], [], h =>
          obtain ⟨h1, h4⟩ := and2 (show (isTuple tg && decide (x = "enumerate") && isGl Γ.sc x && noStar e && ck Γ none a e) = true from h)
          obtain ⟨h1, h3⟩ := and2 h1
          obtain ⟨h1, h2⟩ := and2 h1
          have ex := of_decide_eq_true (and2 h1).2
          subst ex
          exact s_enm (and2 h1).1 (ok.gl' h2) (ok.blt _ (by decide)) h3 ((snd T a).v Γ X Z0 W _ _ ok tk h4)
        | [], ks, h => cases ks <;> cases h
        | [_], _ :: _, h => cases h
        | _ :: _ :: _, ks, h => cases ks <;> cases h
      | _ => cases h
    | _ => cases h
  | .owx i k => snd_V rfl fun Γ X Z0 W m E ok tk h => by
    cases E with
    | Subscript e f p =>
      cases e with
      | Name x q =>
        obtain ⟨h1, h5⟩ := and2 (show (decide (Γ.N[i]? = some x) && isVis Γ.sc x && okN x && noSlice f && ck Γ none k f) = true from h)
        obtain ⟨h1, h4⟩ := and2 h1
        obtain ⟨h1, h3⟩ := and2 h1
        obtain ⟨h1, h2⟩ := and2 h1
        obtain ⟨d1, d2⟩ := okN_1 h3
        exact ⟨s_owx (by rw [ok.N]; exact of_decide_eq_true h1) (ok.vis h2) d1 d2 ((snd T k).v Γ X Z0 W _ _ ok tk h5) h4, rfl⟩
      | _ => cases h
    | _ => cases h
  | .owl i => snd_V rfl fun Γ X Z0 W m E ok tk h => by
    cases E with
    | Call g es ks p =>
      cases g with
      | Name x q =>
        match es, ks, h with
        | [.Name y q2], [], h =>
          obtain ⟨h1, h5⟩ := and2 (show (decide (x = "len") && isGl Γ.sc x && decide (Γ.N[i]? = some y) && isVis Γ.sc y && okN y) = true from h)
          obtain ⟨h1, h4⟩ := and2 h1
          obtain ⟨h1, h3⟩ := and2 h1
          obtain ⟨h1, h2⟩ := and2 h1
          have ex := of_decide_eq_true h1
          subst ex
          obtain ⟨d1, d2⟩ := okN_1 h5
          exact ⟨s_owl (ok.gl' h2) (ok.blt _ (by decide)) (by rw [ok.N]; exact of_decide_eq_true h3) (ok.vis h4) d1 d2, rfl⟩
        | [], ks, h => cases ks <;> cases h
        | [e], _ :: _, h => cases e <;> cases h
        | e :: _ :: _, ks, h => cases e <;> (cases ks <;> cases h)
      | _ => cases h
    | _ => cases h
  | .owt i => snd_V rfl fun Γ X Z0 W m E ok tk h => by
    cases E with
    | Call g es ks p =>
      cases g with
      | Name x q =>
        match es, ks, h with
        | [.Name y q2], [], h =>
          obtain ⟨h1, h5⟩ := and2 (show (decide (x = "tuple") && isGl Γ.sc x && decide (Γ.N[i]? = some y) && isVis Γ.sc y && okN y) = true from h)
          obtain ⟨h1, h4⟩ := and2 h1
          obtain ⟨h1, h3⟩ := and2 h1
          obtain ⟨h1, h2⟩ := and2 h1
          have ex := of_decide_eq_true h1
          subst ex
          obtain ⟨d1, d2⟩ := okN_1 h5
          exact ⟨s_owt (ok.gl' h2) (ok.blt _ (by decide)) (by rw [ok.N]; exact of_decide_eq_true h3) (ok.vis h4) d1 d2, rfl⟩
        | [], ks, h => cases ks <;> cases h
        | [e], _ :: _, h => cases e <;> cases h
        | e :: _ :: _, ks, h => cases e <;> (cases ks <;> cases h)
      | _ => cases h
    | _ => cases h
  | .xat i f => snd_V rfl fun Γ X Z0 W m E ok tk h => by
    cases E with
    | Attribute e g p =>
      cases e with
      | Name x q =>
        obtain ⟨h1, h5⟩ := and2 (show (Γ.xc && decide (Γ.N[i]? = some x) && isVis Γ.sc x && okN x && decide (f = g)) = true from h)
        obtain ⟨h1, h4⟩ := and2 h1
        obtain ⟨h1, h3⟩ := and2 h1
        obtain ⟨h1, h2⟩ := and2 h1
        have ex := of_decide_eq_true h5
        subst ex
        obtain ⟨d1, d2⟩ := okN_1 h4
        obtain ⟨a, cls, d, hx, hX⟩ := ok.xr h1
        exact ⟨s_xat (T := T) (by rw [ok.N]; exact of_decide_eq_true h2) (ok.vis h3) d1 d2 hx hX (fun c ns C => ok.xf c ns f C), rfl⟩
      | _ => cases h
    | _ => cases h
  | .mkx c as => snd_V rfl fun Γ X Z0 W m E ok tk h => by
    cases E with
    | Call g es ks p =>
      cases g with
      | Name x q =>
        cases ks with
        | cons _ _ => cases h
        | nil =>
          obtain ⟨h1, h7⟩ := and2 (show (decide (c = x) && isGl Γ.sc x && Γ.isM x && okN x && !es.isEmpty && Γ.calm && ckA Γ as es) = true from h)
          obtain ⟨h1, h6⟩ := and2 h1
          obtain ⟨h1, h5⟩ := and2 h1
          obtain ⟨h1, h4⟩ := and2 h1
          obtain ⟨h1, h3⟩ := and2 h1
          obtain ⟨h1, h2⟩ := and2 h1
          cases of_decide_eq_true h1
          cases es with
          | nil => cases h5
          | cons e es =>
            obtain ⟨ns, C, e1, e2, O, hr⟩ := ok.mkx h6 c h3
            rw [e1]
            exact ⟨s_mkx O hr (ok.gl' h2) ((snd T as).a Γ X Z0 W _ ok tk h7) e2 (okN_1 h4).1 (ckA_noStar h7), rfl⟩
      | _ => cases h
    | _ => cases h
  | .mk0 c => snd_V rfl fun Γ X Z0 W m E ok tk h => by
    cases E with
    | Call g es ks p =>
      cases g with
      | Name x q =>
        cases ks with
        | cons _ _ => cases h
        | nil =>
          obtain ⟨h1, h5⟩ := and2 (show (decide (c = x) && isGl Γ.sc x && Γ.isM0 x && okN x && es.isEmpty) = true from h)
          obtain ⟨h1, h4⟩ := and2 h1
          obtain ⟨h1, h3⟩ := and2 h1
          obtain ⟨h1, h2⟩ := and2 h1
          cases of_decide_eq_true h1
          cases es with
          | cons _ _ => cases h5
          | nil =>
            obtain ⟨C, bmB, B, n1, n2, F, e1, e2, e3⟩ := ok.mk0 c h3
            exact ⟨s_mk0 F e1 e2 e3 (ok.gl' h2) (okN_1 h4).1, rfl⟩
      | _ => cases h
    | _ => cases h
  | .fld a f => snd_V rfl fun Γ X Z0 W m E ok tk h => by
    cases E with
    | Attribute e g p =>
      obtain ⟨h1, h3⟩ := and2 (show (decide (f = g) && plainAt e && ck Γ none a e) = true from h)
      obtain ⟨h1, h2⟩ := and2 h1
      have ex := of_decide_eq_true h1
      subst ex
      refine ⟨s_fld (T := T) ((snd T a).v Γ X Z0 W _ _ ok tk h3) ?_ (fun c ns C => ok.xf c ns f C), rfl⟩
      cases e <;> first | rfl | cases h2
    | _ => cases h
  | .isx a c => snd_V rfl fun Γ X Z0 W m E ok tk h => by
    cases E with
    | Call g es ks p =>
      cases g with
      | Name x q =>
        match es, ks, h with
        | [e, .Name y q2], [], h =>
          obtain ⟨h1, h8⟩ := and2 (show (decide (x = "isinstance") && isGl Γ.sc x && noStar e && ck Γ none a e && decide (y = c) && isGl Γ.sc y && okN y && Γ.isI y) = true from h)
          obtain ⟨h1, h7⟩ := and2 h1
          obtain ⟨h1, h6⟩ := and2 h1
          obtain ⟨h1, h5⟩ := and2 h1
          obtain ⟨h1, h4⟩ := and2 h1
          obtain ⟨h1, h3⟩ := and2 h1
          obtain ⟨h1, h2⟩ := and2 h1
          have ex := of_decide_eq_true h1
          have ey := of_decide_eq_true h5
          subst ex ey
          obtain ⟨cv, cV, hv, hu, hC⟩ := ok.isx y h8
          have hy : PE X (.Name y q2) (fun _ H Q => Q cV H) := by
            rcases hv with ⟨z1, z2⟩ | ⟨z1, z2, z3, z4⟩
            · exact pe_glob (ok.gl' h6) z1 z2 (okN_1 h7).1
            · exact pe_bltn (ok.gl' h6) z1 z2 z3 z4 (okN_1 h7).1
          exact ⟨s_isx (T := T) (ok.gl' h2) (ok.blt _ (by decide +kernel)) h3 ((snd T a).v Γ X Z0 W _ _ ok tk h4) hy hu hC, rfl⟩
        | [], ks, h => cases ks <;> cases h
        | [_], ks, h => cases ks <;> cases h
        | [_, t], _ :: _, h => cases t <;> cases h
        | _ :: t :: _ :: _, ks, h => cases t <;> (cases ks <;> cases h)
      | _ => cases h
    | _ => cases h
  | .lrg a b => snd_L rfl fun Γ X Z0 W m E ok tk h => by
    cases E with
    | Call g es ks p =>
      cases g with
      | Name x q =>
        match es, ks, h with
        | [.Call g2 es2 ks2 p2], [], h =>
          cases g2 with
          | Name y q2 =>
            match es2, ks2, h with
            | [e, f], [], h =>
              obtain ⟨h1, h9⟩ := and2 (show (Γ.calm && decide (x = "list") && isGl Γ.sc x && decide (y = "range") && isGl Γ.sc y && noStar e && noStar f && ck Γ none a e && ck Γ none b f) = true from h)
              obtain ⟨h1, h8⟩ := and2 h1
              obtain ⟨h1, h7⟩ := and2 h1
              obtain ⟨h1, h6⟩ := and2 h1
              obtain ⟨h1, h5⟩ := and2 h1
              obtain ⟨h1, h4⟩ := and2 h1
              obtain ⟨h1, h3⟩ := and2 h1
              obtain ⟨h1, h2⟩ := and2 h1
              have hcm := ok.calm h1
              have ex := of_decide_eq_true h2
              have ey := of_decide_eq_true h4
              subst ex ey
              exact ⟨s_lrg hcm (ok.gl' h3) (ok.blt _ (by decide)) (ok.gl' h5) (ok.blt _ (by decide)) h6 h7 ((snd T a).v Γ X Z0 W _ _ ok tk h8) ((snd T b).v Γ X Z0 W _ _ ok tk h9), rfl⟩
            | [], ks2, h => cases ks2 <;> cases h
            | [_], ks2, h => cases ks2 <;> cases h
            | [_, _], _ :: _, h => cases h
            | _ :: _ :: _ :: _, ks2, h => cases ks2 <;> cases h
          | _ => cases h
        | [], ks, h => cases ks <;> cases h
        | [e], _ :: _, h => cases e <;> cases h
        | e :: _ :: _, ks, h => cases e <;> (cases ks <;> cases h)
      | _ => cases h
    | _ => cases h
  | .dcl k v tg it => snd_V rfl fun Γ X Z0 W m E ok tk h => by
    cases E with
    | Call g es ks p =>
      cases g with
      | Name x q =>
        match es, ks, h with
        | [.DictComp ke ve gs scope p2], [], h =>
          match gs, h with
          | [⟨t, i, fs, n⟩], h =>
            have hk : n = 0 := by
              cases n with
              | ofNat n => cases n with
                | zero => rfl
                | succ n => cases h
              | negSucc n => cases h
            subst hk
            obtain ⟨h1, h10⟩ := and2 (show (Γ.calm && decide (x = "len") && isGl Γ.sc x && fs.isEmpty && blkC Γ.N Γ.sc scope (ownOf Γ.N tg.slots) && decide ((ownOf Γ.N tg.slots).map (·.2) = tg.slots) && ckTg Γ.N scope tg t && ck Γ (some t) it i && ck { Γ with sc := relS scope Γ.sc, xc := false } none k ke && ck { Γ with sc := relS scope Γ.sc, xc := false } none v ve) = true from h)
            obtain ⟨h1, h9⟩ := and2 h1
            obtain ⟨h1, h8⟩ := and2 h1
            obtain ⟨h1, h7⟩ := and2 h1
            obtain ⟨h1, h6⟩ := and2 h1
            obtain ⟨h1, h5⟩ := and2 h1
            obtain ⟨h1, h4⟩ := and2 h1
            obtain ⟨h1, h3⟩ := and2 h1
            obtain ⟨h1, h2⟩ := and2 h1
            have hc := ok.calm h1
            have ex := of_decide_eq_true h2
            subst ex
            cases fs with
            | cons _ _ => cases h4
            | nil =>
              exact ⟨s_dcl hc ok.nd (ok.gl' h3) (ok.blt _ (by decide)) ((snd T it).i Γ X Z0 W _ _ ok tk h8) (blkOk_by (by rw [ok.N, ok.sc]; exact h5)) (of_decide_eq_true h6) (blk_tg ok hc h7)
                (fun s H C cl fp => (snd T k).v _ _ Z0 WF _ _ (ok.blk s H scope C cl fp) takesWF h9) (fun s H C cl fp => (snd T v).v _ _ Z0 WF _ _ (ok.blk s H scope C cl fp) takesWF h10) (noSet_fold (ck_noSet h8)), rfl⟩
          | [], h => cases h
          | ⟨_, _, _, n⟩ :: _ :: _, h =>
            cases n with
            | ofNat n => cases n <;> cases h
            | negSucc n => cases h
        | [], ks, h => cases ks <;> cases h
        | [e], _ :: _, h => cases e <;> cases h
        | e :: _ :: _, ks, h => cases e <;> (cases ks <;> cases h)
      | _ => cases h
    | _ => cases h
  | .rep as k => snd_L rfl fun Γ X Z0 W m E ok tk h => by
    cases E with
    | BinOp e op f p =>
      cases e with
      | List es q =>
        obtain ⟨h1, h3⟩ := and2 (show (decide (op = .Mult) && ckA Γ as es && ck Γ none k f) = true from h)
        obtain ⟨h1, h2⟩ := and2 h1
        have eo := of_decide_eq_true h1
        subst eo
        exact ⟨s_rep ((snd T as).a Γ X Z0 W _ ok tk h2) ((snd T k).v Γ X Z0 W _ _ ok tk h3), rfl⟩
      | _ => cases h
    | _ => cases h
  | .dsp as => snd_V rfl fun Γ X Z0 W m E ok tk h => by
    cases E with
    | Dict ks vs p =>
      obtain ⟨h1, h4⟩ := and2 (show (!ks.isEmpty && decide (ks.length ≤ 15) && decide (ks.length = vs.length) && ckP Γ as ks vs) = true from h)
      obtain ⟨h1, h3⟩ := and2 h1
      obtain ⟨h1, h2⟩ := and2 h1
      obtain ⟨e1, e2, e3⟩ := (snd T as).p Γ X Z0 W ks vs p ok tk h4
      exact ⟨s_dsp e1 e2 e3 (of_decide_eq_true h3) (fun z => by rw [z] at h1; cases h1) (of_decide_eq_true h2), rfl⟩
    | _ => cases h
  | .nil =>
    { v := fun Γ X Z0 W m E ok tk h => s_no
      t := fun Γ X Z0 W m E ok tk h => s_noT
      l := fun Γ X Z0 W m E ok tk h => s_noL
      i := fun Γ X Z0 W tg E ok tk h => s_noI
      a := fun Γ X Z0 W Es ok tk h => by
        cases Es with
        | nil => exact s_nil
        | cons _ _ => cases h
      av := fun Γ X Z0 W Es pos ok tk h hn => s_no
      ov := fun Γ X Z0 W Es pos ok tk h hn => s_no
      at_ := fun Γ X Z0 W Es pos ok tk h hn => by
        cases Es with
        | nil => exact (hn rfl).elim
        | cons _ _ => cases h
      ot := fun Γ X Z0 W Es pos ok tk h hn => s_noW
      c := fun Γ X Z0 W Es ok tk h hn => by
        cases Es with
        | nil => exact s_pts0
        | cons _ _ => cases h
      p := fun Γ X Z0 W ks vs pos ok tk h => by
        cases ks with
        | nil => cases vs with
          | nil => exact ⟨pps_nil, rfl, rfl⟩
          | cons _ _ => cases h
        | cons _ _ => cases h
      q := fun Γ X Z0 W v ks vs pos ok tk h => by cases h }
  | .cons a b => by
    have sa := snd T a
    have sb := snd T b
    exact {
      v := fun Γ X Z0 W m E ok tk h => s_no
      t := fun Γ X Z0 W m E ok tk h => s_noT
      l := fun Γ X Z0 W m E ok tk h => s_noL
      i := fun Γ X Z0 W tg E ok tk h => s_noI
      a := fun Γ X Z0 W Es ok tk h => by
        obtain ⟨e, r, rfl, h1, h2, h3⟩ := and_ne (T := T) h
        exact s_cons h1 (sa.v Γ X Z0 W _ _ ok tk h2) (sb.a Γ X Z0 W _ ok tk h3)
      av := fun Γ X Z0 W Es pos ok tk h hn => by
        obtain ⟨e, r, rfl, h1, h2, h3⟩ := and_ne (T := T) h
        rcases ckA_shape h3 with ⟨e1, e2⟩ | ⟨a', c, e1⟩
        · subst e1 e2
          exact s_one (sa.v Γ X Z0 W _ _ ok tk h2)
        · subst e1
          obtain ⟨e2, r2, rfl, _⟩ := and_ne (T := T) h3
          exact s_and (sa.v Γ X Z0 W _ _ ok tk h2) (sb.av Γ X Z0 W _ pos ok tk h3 (by simp))
      ov := fun Γ X Z0 W Es pos ok tk h hn => by
        obtain ⟨e, r, rfl, h1, h2, h3⟩ := and_ne (T := T) h
        rcases ckA_shape h3 with ⟨e1, e2⟩ | ⟨a', c, e1⟩
        · subst e1 e2
          exact s_one (sa.v Γ X Z0 W _ _ ok tk h2)
        · subst e1
          obtain ⟨e2, r2, rfl, _⟩ := and_ne (T := T) h3
          exact s_or (sa.v Γ X Z0 W _ _ ok tk h2) (sb.ov Γ X Z0 W _ pos ok tk h3 (by simp))
      at_ := fun Γ X Z0 W Es pos ok tk h hn => by
        obtain ⟨e, r, rfl, h1, h2, h3⟩ := and_ne (T := T) h
        rcases ckA_shape h3 with ⟨e1, e2⟩ | ⟨a', c, e1⟩
        · subst e1 e2
          exact s_and1 (sa.t Γ X Z0 W _ _ ok tk h2)
        · subst e1
          obtain ⟨e2, r2, rfl, _⟩ := and_ne (T := T) h3
          exact s_andT (sa.t Γ X Z0 W _ _ ok tk h2) (sb.at_ Γ X Z0 W _ pos ok tk h3 (by simp))
      ot := fun Γ X Z0 W Es pos ok tk h hn => by
        obtain ⟨e, r, rfl, h1, h2, h3⟩ := and_ne (T := T) h
        rcases ckA_shape h3 with ⟨e1, e2⟩ | ⟨a', c, e1⟩
        · subst e1 e2
          exact s_or1 (sa.t Γ X Z0 W _ _ ok tk h2)
        · subst e1
          obtain ⟨e2, r2, rfl, _⟩ := and_ne (T := T) h3
          exact s_orT (sa.t Γ X Z0 W _ _ ok tk h2) (sb.ot Γ X Z0 W _ pos ok tk h3 (by simp))
      c := fun Γ X Z0 W Es ok tk h hn => by
        obtain ⟨e, r, rfl, h1, h2, h3⟩ := and_ne (T := T) h
        rcases ckA_shape h3 with ⟨e1, e2⟩ | ⟨a', c, e1⟩
        · subst e1 e2
          exact pts_one (sa.t Γ X Z0 W _ _ ok tk h2)
        · subst e1
          obtain ⟨e2, r2, rfl, _⟩ := and_ne (T := T) h3
          simp at hn
      p := fun Γ X Z0 W ks vs pos ok tk h => by
        cases ks with
        | nil => cases b <;> cases h
        | cons k ks =>
          cases k with
          | none => cases b <;> cases h
          | some k =>
            cases vs with
            | nil => cases b <;> cases h
            | cons v vs =>
              have h' : ck Γ none a k = true ∧ ckQ Γ b v ks vs = true := by
                cases b with
                | cons c d =>
                  obtain ⟨h1, h3⟩ := and2 (show (ck Γ none a k && ck Γ none c v && ckP Γ d ks vs) = true from h)
                  obtain ⟨h1, h2⟩ := and2 h1
                  exact ⟨h1, by show (ck Γ none c v && ckP Γ d ks vs) = true; rw [h2, h3]; rfl⟩
                | _ => cases h
              obtain ⟨c, d, e1, e2, e3, e4, e5⟩ := sb.q Γ X Z0 W v ks vs pos ok tk h'.2
              subst e1
              refine ⟨pps_cons (sa.v Γ X Z0 W _ _ ok tk h'.1) e2 e3, e4, ?_⟩
              rw [List.all_cons, e5]
              rfl
      q := fun Γ X Z0 W v ks vs pos ok tk h => by
        obtain ⟨h1, h2⟩ := and2 (show (ck Γ none a v && ckP Γ b ks vs) = true from h)
        obtain ⟨e1, e2, e3⟩ := sb.p Γ X Z0 W ks vs pos ok tk h2
        exact ⟨a, b, rfl, sa.v Γ X Z0 W _ _ ok tk h1, e1, e2, e3⟩ }
end Dn

/-! Dn 13: try with several clauses, each with a name or without. (The proof puts together those of the hand layer for one named clause and for several unnamed ones.) -/
namespace Dn
open PySem PySem.Spec PyProof.Rows L2

abbrev Cl := Value × Option Nat × (Addr → Value → Option Addr → TS)
def endsA : Option Nat → Ends → Ends
  | none, D => D
  | some i, D => { nx := fun σ' H' => D.nx (σ'.set i none) H', rt := D.rt, bk := fun σ' H' => D.bk (σ'.set i none) H', ct := fun σ' H' => D.ct (σ'.set i none) H' }
def setA : Option Nat → Addr → L2.St → L2.St
  | none, _, σ => σ
  | some i, a, σ => σ.set i (some (.ref a))
def wMix (K : PySem.W.Frag) (Wout : WX) (D : Ends) : List Cl → WX
  | [] => Wout
  | (c, oi, ts) :: r => fun cls d σ H => ∃ b, PySem.W.exmOne K cls c = some b ∧ (b = true → ∀ a, H a = none → ts a cls d (endsA oi D) (setA oi a σ) H) ∧ (b = false → wMix K Wout D r cls d σ H)
def NamOk (X : Cx) : Option Str → Option Nat → Prop
  | none, none => True
  | some n, some i => X.N[i]? = some n ∧ X.env.kindOf n = some .local
  | _, _ => False
inductive HdsMix (X : Cx) : List ExceptHandler → List Cl → Prop
  | nil : HdsMix X [] []
  | cons {x : Str} {c : Value} {nm : Option Str} {oi : Option Nat} {ts : Addr → Value → Option Addr → TS} {b₀ : Stmt} {suite : List Stmt} {np pos' : Pos} {hds : List ExceptHandler} {l : List Cl} (hc : Names X x c) (hn : NamOk X nm oi)
      (hsu : ∀ (a : Addr) (oe : Obj) (cls : Value) (d : Option Addr) (pn : List (Addr × Obj)), Zc cls d oe → (∃ vs, oe.data = .fields vs) → PSs (X.suite a ((a, oe) :: pn)) (b₀ :: suite) (ts a cls d)) (r : HdsMix X hds l) :
      HdsMix X (.ExceptHandler (some (.Name x np)) nm (b₀ :: suite) pos' :: hds) ((c, oi, ts) :: l)
section
variable {X : Cx} {body : List Stmt} {h₀ : ExceptHandler} {hds : List ExceptHandler} {l : List Cl} {pos : Pos} {tb : WX → TS} {Wout : WX}
theorem ps_try_mix (hs : X.stack = X.env :: X.outer) (hf : X.env.frame = some X.env.locals) (hN : X.N.Nodup) (tk : Takes X Wout)
    (hb : ∀ (W : WX) (pn : List (Addr × Obj)) (xe : Value → Shared → Prop), Takes (X.tr pn xe) W → PassesOwn (model X.prog X.w) X.A X.env xe → PSs (X.tr pn xe) body (tb W))
    (hh : HdsMix X (h₀ :: hds) l) : PS X (.Try body (h₀ :: hds) [] [] pos) (fun D σ H => tb (wMix X.K Wout D l) D σ H) := by
  refine ⟨fun pins s σ H D I h => ?_⟩
  have ok := I.ok
  have hfr : X.A.frames = some (X.env :: X.outer) := by rw [ok.frames, hs]
  refine wpAny_Try_except ?_
  refine wpAny_mono ((hb (wMix X.K Wout D l) (X.pn ++ pins) (fun e s₁ => wpAny (model X.prog X.w) X.A (noteFrame e X.env) (fun _ s₂ => wpAny (model X.prog X.w) X.A (setFlight e none) (fun _ s₃ =>
    wpAny (model X.prog X.w) X.A (handleBy e X.env (h₀ :: hds)) (SP X pins D) X.xe s₃) X.xe s₂) X.xe s₁) (fun u s' xx => ?_) PassesOwn.looking).run [] s σ H D (I.toTry _) h) (fun f s1 hsp => ?_) (fun e s1 he => he)
  · obtain ⟨a, B, sI, pins', σ', H', cls, d, rfl, J', nb, up, sky, na, os, ag, w⟩ := xx
    have J : Inv X pins σ' H' sI := J'.ofTry ok
    have sky' : Sky B (X.env :: X.outer) a (Zc cls d) X.env.locals s'.heap := by rw [← hs]; exact sky
    show wpAny (model X.prog X.w) X.A (noteFrame (.ref a) X.env) _ _ _
    refine Sky.land Zc.steady hfr hf sky' fun h3 fl3 up3 => ?_
    have J3 : Inv X pins σ' H' { s' with heap := h3 } := J.landed nb fl3.1 (up.trans up3) os ag
    obtain ⟨oe3, vs3, he3, hz3, hd3⟩ := fl3.there
    have notFr : ∀ {h : Heap} {o : Obj} {vs : Array Value}, h.FunFrames B (X.env :: X.outer) → h.get? a = some o → o.data = .fields vs → a ∉ frs (X.env :: X.outer) := fun {h o vs} ff e dd hm => by
      obtain ⟨_, o', e', hnf⟩ := ff.mem hm
      rw [e] at e'; cases e'
      exact hnf _ dd
    have nfr := notFr fl3.2.2.1 he3 hd3
    have nL : a ≠ X.env.locals := fun z => nfr (List.mem_filterMap.mpr ⟨X.env, List.mem_cons_self, by rw [hf, z]⟩)
    have nF : a ∉ X.fs := fun hm => by
      obtain ⟨e, he, q⟩ := List.mem_filterMap.mp hm
      exact nfr (List.mem_filterMap.mpr ⟨e, List.mem_cons_of_mem _ he, q⟩)
    have S3 := J3.suite he3 hd3 na nL nF
    have go : ∀ {hds' : List ExceptHandler} {l' : List Cl}, HdsMix X hds' l' → wMix X.K Wout D l' cls d σ' H' →
        wpAny (model X.prog X.w) X.A (handleBy (.ref a) X.env hds') (SP X pins D) X.xe { s' with heap := h3 } := by
      intro hds' l' hk
      induction hk with
      | nil =>
        intro w
        refine wpAny_handleBy_nil ?_
        obtain ⟨k1, k2, k3, oe, vs, T, oT, ts', he, hz, hd, h1, hr⟩ := id fl3
        unfold PySem.passOn
        refine wpAny_bind (wpAny_field he hd h1 ?_)
        rw [if_neg (show ¬ ((Value.ref T == Value.none) = true) from by simp)]
        have fin : wpAny (model X.prog X.w) X.A (setFlight (.ref a) X.env.frame) (fun _ s4 => wpAny (model X.prog X.w) X.A (throw (.ref a) : Sem Flow) (SP X pins D) X.xe s4) X.xe { s' with heap := h3 } := by
          rw [hf]
          refine HandSPX.setFlight_upZ fl3 fun h4 hh4 up4 => wpAny_throw (tk _ _ ?_)
          exact ⟨a, B, sI, pins, σ', H', cls, d, rfl, J, nb, (up.trans up3).trans up4, .inr (.inr (by rw [hs]; exact hh4)), na, os, ag, w⟩
        first
          | exact wpAny_bind (wpAny_pure (wpAny_bind fin))
          | exact wpAny_bind fin
      | @cons x c nm oi ts b₀ suite np pos' hds2 l2 hc hn hsu r ih =>
        intro w
        obtain ⟨b, hb1, hyes, hno⟩ := w
        refine wpAny_handleBy_cons (codeAny_handlers_test ?_) (by intro q; cases q)
        have LT : PySem.W.Looks (model X.prog X.w) h3 (typeOf (.ref a)) cls := fun A Q E s k q => wpAny_typeOf_ref (k _ _ he3) (by rw [hz3.1]; exact q)
        have LM := PySem.W.exm_one (M := model X.prog X.w) (J3.kIn) LT hb1
        have test : ∀ {Q : Value → Shared → Prop} {E : Value → Shared → Prop}, Q c { s' with heap := h3 } → wpAny (model X.prog X.w) (X.A.mark (some (.ref a))) (eval (.Name x np) X.env) Q E { s' with heap := h3 } := fun {Q E} q => by
          obtain ⟨hg, hdbg, hm | ⟨hm, hv, hnn⟩⟩ := hc
          · exact ld_glob (X := X.suite a ((a, oe3) :: (X.pn ++ pins))) S3 hg hm q hdbg
          · exact ld_blt (X := X.suite a ((a, oe3) :: (X.pn ++ pins))) S3 hg hm hv q hnn hdbg
        refine test (LM.here ?_)
        cases b with
        | false =>
          show wpAny _ X.A (handleBy (.ref a) X.env hds2) _ _ _
          exact ih (hno rfl)
        | true =>
          cases nm with
          | none =>
            cases oi with
            | some i => exact hn.elim
            | none =>
              refine codeAny_handlers_suite ?_
              refine HandSPX.lands_againZ fl3 fun h4 fl4 up4 => ?_
              have J4 : Inv X pins σ' H' { s' with heap := h4 } := J.landed nb fl4.1 ((up.trans up3).trans up4) os ag
              obtain ⟨oe4, vs4, he4, hz4, hd4⟩ := fl4.there
              have S4 := J4.suite he4 hd4 na nL nF
              refine wpAny_mono ((hsu a oe4 cls d (X.pn ++ pins) hz4 ⟨_, hd4⟩).run [] _ _ H' _ S4 (hyes rfl a na)) (fun f s6 hsp => ?_) (fun _ _ z => False.elim z)
              cases f with
              | next =>
                obtain ⟨σ6, H6, S6, q6⟩ := hsp
                exact ⟨_, _, S6.unsuite ok, q6⟩
              | brk =>
                obtain ⟨σ6, H6, S6, q6⟩ := hsp
                exact ⟨_, _, S6.unsuite ok, q6⟩
              | cont =>
                obtain ⟨σ6, H6, S6, q6⟩ := hsp
                exact ⟨_, _, S6.unsuite ok, q6⟩
              | ret u =>
                obtain ⟨v6, σ6, H6, S6, r6, q6⟩ := hsp
                exact ⟨_, _, _, S6.unsuite ok, r6, q6⟩
          | some n =>
            cases oi with
            | none => exact hn.elim
            | some i =>
              obtain ⟨hi, hln⟩ := hn
              have hloc : Loc X.env.scope n := .inl hln
              refine codeAny_handlers_suite_as ?_
              refine HandSPX.lands_againZ fl3 fun h4 fl4 up4 => ?_
              have J4 : Inv X pins σ' H' { s' with heap := h4 } := J.landed nb fl4.1 ((up.trans up3).trans up4) os ag
              obtain ⟨oe4, vs4, he4, hz4, hd4⟩ := fl4.there
              have S4 := J4.suite he4 hd4 na nL nF
              refine store_ok (X := X.suite a ((a, oe4) :: (X.pn ++ pins))) (v := .ref a) S4 hN hi hloc rfl (fun s5 S5 => ?_) (.inr hln)
              refine wpAny_mono ((hsu a oe4 cls d (X.pn ++ pins) hz4 ⟨_, hd4⟩).run [] s5 _ H' _ S5 (hyes rfl a na)) (fun f s6 hsp => ?_) (fun _ _ z => False.elim z)
              have end_ : ∀ {σ6 : L2.St} {H6 : Hp} {Q : Shared → Prop}, Inv (X.suite a ((a, oe4) :: (X.pn ++ pins))) [] σ6 H6 s6 → (∀ s7, Inv X pins (σ6.set i none) H6 s7 → Q s7) →
                  wpAny (model X.prog X.w) X.A (do bindName X.env n .none; unbindBehindTheSuite X.env n pos') (fun _ s7 => Q s7) X.xe s6 := fun {σ6 H6 Q} S6 hq => gone_ok (S6.unsuite ok) hN hi hln hq
              cases f with
              | next =>
                obtain ⟨σ6, H6, S6, q6⟩ := hsp
                exact end_ S6 fun s7 J7 => ⟨_, _, J7, q6⟩
              | brk =>
                obtain ⟨σ6, H6, S6, q6⟩ := hsp
                exact end_ S6 fun s7 J7 => ⟨_, _, J7, q6⟩
              | cont =>
                obtain ⟨σ6, H6, S6, q6⟩ := hsp
                exact end_ S6 fun s7 J7 => ⟨_, _, J7, q6⟩
              | ret u =>
                obtain ⟨v6, σ6, H6, S6, r6, q6⟩ := hsp
                exact end_ S6 fun s7 J7 => ⟨_, _, _, J7, r6, q6⟩
    exact go hh w
  · cases f with
    | next =>
      obtain ⟨σ', H', J', q⟩ := hsp
      exact wpAny_execs_nil ⟨σ', H', J'.ofTry ok, q⟩
    | brk =>
      obtain ⟨σ', H', J', q⟩ := hsp
      exact ⟨σ', H', J'.ofTry ok, q⟩
    | cont =>
      obtain ⟨σ', H', J', q⟩ := hsp
      exact ⟨σ', H', J'.ofTry ok, q⟩
    | ret u =>
      obtain ⟨v, σ', H', J', r, q⟩ := hsp
      exact ⟨v, σ', H', J'.ofTry ok, r, q⟩
end
end Dn

/-! Dn 14: statements, each by its rule. -/
namespace Dn
open PySem PySem.Spec PyProof.Rows L2

/-! ### what a store swaps -/
def noComp : Expr → Bool
  | .ListComp _ _ _ _ => false
  | .SetComp _ _ _ _ => false
  | .DictComp _ _ _ _ _ => false
  | _ => true
def compScope : Expr → Option Scope
  | .ListComp _ _ s _ => some s
  | .SetComp _ _ s _ => some s
  | .DictComp _ _ _ s _ => some s
  | _ => none
/-- a comprehension given to the name x: whether they are swapped -/
def swB (sc : Scope) (E : Expr) (x : Str) (py : Pos) : Bool := match compScope E with
  | none => false
  | some s => (sc.names.lookup x == some .local) && (py.line == E.pos.line) && !(s.names.any fun (n, k) => n == x && (k == .local || k == .cell))
theorem sw_eq {env : PySem.Env} (hk : env.scope.kind = .function) (E : Expr) (x : Str) (py : Pos) (l : Nat) : swapsWith E (some (.Name x py)) l env = pure (swB env.scope E x py) := by
  have hb : env.blockKind = .function := by unfold Env.blockKind; rw [hk]; rfl
  have hb2 : (env.blockKind == .function) = true := by rw [hb]; rfl
  cases E with
  | ListComp a b s p => unfold swapsWith swB compScope; simp only [hb2, Bool.true_and]; rfl
  | SetComp a b s p => unfold swapsWith swB compScope; simp only [hb2, Bool.true_and]; rfl
  | DictComp a b c s p => unfold swapsWith swB compScope; simp only [hb2, Bool.true_and]; rfl
  | _ => rfl
theorem sw_no {env : PySem.Env} {E : Expr} (h : noComp E = true) (t : Option Expr) (l : Nat) : swapsWith E t l env = pure false := by
  cases E <;> first | rfl | cases h
def isStar : Expr → Bool
  | .Starred _ _ => true
  | _ => false
def swNames (sc : Scope) (ts : List Expr) : List Str :=
  ts.filterMap fun
    | .Name id pos => if (sc.names.lookup id == some .local && pos.line == (ts.head?.map (·.pos.line)).getD 0) = true then some id else none
    | _ => none
def anyStar (vs : List Expr) : Bool := vs.any fun | .Starred .. => true | _ => false
/-- 1: the tuple is made and unpacked; 2: the names are stored from the right; 0: not covered -/
def swK (sc : Scope) (ts vs : List Expr) : Nat :=
  if (!(ts.length == 2 || ts.length == 3) || vs.length != ts.length) = true then 1
  else if anyStar vs = true then 1
  else if ((swNames sc ts).length != ts.length || (swNames sc ts).eraseDups.length != (swNames sc ts).length) = true then 1
  else if (vs.all (foldedForSure 8)) = true then 1
  else if (vs.all (constantsAlone 8)) = true then 0
  else 2
theorem sw_key {env : PySem.Env} {ts vs : List Expr} {k k2 : Nat} {p p2 : Pos} : swappedStores [.Tuple ts k p] (.Tuple vs k2 p2) env =
    (if (!(ts.length == 2 || ts.length == 3) || vs.length != ts.length || env.blockKind != .function) = true then pure none
     else if anyStar vs = true then pure none
     else if ((swNames env.scope ts).length != ts.length || (swNames env.scope ts).eraseDups.length != (swNames env.scope ts).length) = true then pure none
     else if (vs.all (foldedForSure 8)) = true then pure none
     else if (vs.all (constantsAlone 8)) = true then (do unsupported "assign.tuple-of-constant-expressions:order-of-the-stores"; pure (some (swNames env.scope ts)))
     else pure (some (swNames env.scope ts))) := rfl
theorem swSt {env : PySem.Env} (hk : env.scope.kind = .function) {ts vs : List Expr} {k k2 : Nat} {p p2 : Pos} :
    (swK env.scope ts vs = 1 → swappedStores [.Tuple ts k p] (.Tuple vs k2 p2) env = pure none) ∧ (swK env.scope ts vs = 2 → swappedStores [.Tuple ts k p] (.Tuple vs k2 p2) env = pure (some (swNames env.scope ts))) := by
  have hb : env.blockKind = .function := by unfold Env.blockKind; rw [hk]; rfl
  have hb2 : (env.blockKind != .function) = false := by rw [hb]; rfl
  rw [sw_key]
  unfold swK
  rw [hb2, Bool.or_false]
  by_cases h1 : (!(ts.length == 2 || ts.length == 3) || vs.length != ts.length) = true
  · rw [if_pos h1, if_pos h1]; exact ⟨fun _ => rfl, fun h => by cases h⟩
  rw [if_neg h1, if_neg h1]
  by_cases h2 : anyStar vs = true
  · rw [if_pos h2, if_pos h2]; exact ⟨fun _ => rfl, fun h => by cases h⟩
  rw [if_neg h2, if_neg h2]
  by_cases h3 : ((swNames env.scope ts).length != ts.length || (swNames env.scope ts).eraseDups.length != (swNames env.scope ts).length) = true
  · rw [if_pos h3, if_pos h3]; exact ⟨fun _ => rfl, fun h => by cases h⟩
  rw [if_neg h3, if_neg h3]
  by_cases h4 : (vs.all (foldedForSure 8)) = true
  · rw [if_pos h4, if_pos h4]; exact ⟨fun _ => rfl, fun h => by cases h⟩
  rw [if_neg h4, if_neg h4]
  by_cases h5 : (vs.all (constantsAlone 8)) = true
  · rw [if_pos h5, if_pos h5]; exact ⟨fun h => (by cases h), fun h => (by cases h)⟩
  rw [if_neg h5, if_neg h5]
  exact ⟨fun h => (by cases h), fun _ => rfl⟩
theorem sw_noT {env : PySem.Env} {T E : Expr} (h : (match E with | .Tuple _ _ _ => false | _ => true) = true) : swappedStores [T] E env = pure none := by
  cases E <;> first | (cases T <;> rfl) | cases h

section
variable {K : PySem.W.Frag} {mg : Str → Option Value} {Z Z' Z0 : Zt} {μ μ' : Wd} {η : Env'} {σ : L2.St} {W : WX}
/-! ### into a suite, and out of it -/
def Zt.at (Z : Zt) (x : Option (Addr × Value × Option Addr)) : Zt := { Z with x := x }
theorem noXc_get {η : Env'} {i : Nat} {c : Str} {fs : List (Str × D)} (h : noXc η = true) (e : η[i]? = some (.xc c fs)) : False := by
  unfold noXc at h
  rw [List.all_eq_true] at h
  have := h _ (List.mem_of_getElem? e)
  cases this
theorem stt_at {x x' : Option (Addr × Value × Option Addr)} (hn : ∀ (i : Nat) (c : Str) (fs : List (Str × D)), η[i]? = some (.xc c fs) → False) (s : Stt K mg Z0 Z μ η σ) : Stt K mg (Z0.at x) (Z.at x) μ η σ := by
  have m : Mo Z (Z.at x) := ⟨fun _ _ h => h, fun _ _ h => h⟩
  refine ⟨⟨s.wk.sub, s.wk.len, s.wk.nd, fun k a o h1 h2 => ?_⟩, ⟨s.env.len, fun i t v h1 h2 => ?_, s.env.apart, s.env.young⟩, { s.ext with x := rfl }⟩
  · obtain ⟨f, mm⟩ := s.wk.obj k a o h1 h2
    exact ⟨f, mm.mo m rfl⟩
  · have q := s.env.slot i t v h1 h2
    cases t with
    | un => trivial
    | val d =>
      obtain ⟨y, e1, r⟩ := q
      exact ⟨y, e1, r.mo m⟩
    | own ds =>
      obtain ⟨a, xs, e1, hh, r, hf, hi⟩ := q
      exact ⟨a, xs, e1, hh, r.mo m, hf, hi⟩
    | xc c fs => exact (hn i c fs h1).elim
theorem stt_enter {c : Str} {fs : List (Str × D)} {cls : Value} {d : Option Addr} (h0 : Z0.x = none) (s : Stt K mg Z0 Z μ η σ) (xr : XRel K mg Z c fs cls d) (oi : Option Nat) (a : Addr) :
    Stt K mg (Z0.at (some (a, cls, d))) (Z.at (some (a, cls, d))) μ (enterE oi c fs η) (setA oi a σ) := by
  have hn : ∀ (i : Nat) (c : Str) (fs : List (Str × D)), η[i]? = some (.xc c fs) → False := fun i c fs h => by
    have lt : i < σ.length := by rw [← s.env.len]; exact (List.getElem?_eq_some_iff.mp h).1
    obtain ⟨a, cls, d, e1, _⟩ := s.env.slot i _ _ h (List.getElem?_eq_getElem lt)
    rw [s.ext.x, h0] at e1; cases e1
  have s1 := stt_at (x := some (a, cls, d)) (x' := none) hn s
  have m : Mo Z (Z.at (some (a, cls, d))) := ⟨fun _ _ h => h, fun _ _ h => h⟩
  cases oi with
  | none => exact s1
  | some i =>
    have s2 := s1.un i (some (.ref a))
    refine ⟨s2.wk, ⟨by have := s2.env.len; simp only [List.length_set] at this ⊢; show (η.set i (.xc c fs)).length = (σ.set i (some (.ref a))).length; rw [List.length_set, List.length_set]; exact this, fun j t v h1 h2 => ?_, fun j k ds es b ne h1 h2 h3 => ?_, fun j ds b h1 h2 => ?_⟩, s2.ext⟩
    · have h1' : (η.set i (.xc c fs))[j]? = some t := h1
      have h2' : (σ.set i (some (.ref a)))[j]? = some v := h2
      by_cases hj : i = j
      · subst hj
        rw [List.getElem?_set] at h1' h2'
        simp only [if_true] at h1' h2'
        split at h1'
        · split at h2'
          · cases h1'; cases h2'
            exact ⟨a, cls, d, rfl, rfl, xr.step m fun _ _ h => h⟩
          · cases h2'
        · cases h1'
      · rw [List.getElem?_set_ne hj] at h1' h2'
        exact s1.env.slot j t v h1' h2'
    · have h1' : (η.set i (.xc c fs))[j]? = some (.own ds) := h1
      have h2' : (η.set i (.xc c fs))[k]? = some (.own es) := h2
      have h3' : (σ.set i (some (.ref a)))[j]? = some (some (.ref b)) := h3
      show (σ.set i (some (.ref a)))[k]? ≠ some (some (.ref b))
      by_cases hj : i = j
      · subst hj
        rw [List.getElem?_set] at h1'
        simp only [if_true] at h1'
        split at h1' <;> cases h1'
      · by_cases hk : i = k
        · subst hk
          rw [List.getElem?_set] at h2'
          simp only [if_true] at h2'
          split at h2' <;> cases h2'
        · rw [List.getElem?_set_ne hj] at h1' h3'
          rw [List.getElem?_set_ne hk] at h2' ⊢
          exact s1.env.apart j k ds es b ne h1' h2' h3'
    · have h1' : (η.set i (.xc c fs))[j]? = some (.own ds) := h1
      have h2' : (σ.set i (some (.ref a)))[j]? = some (some (.ref b)) := h2
      by_cases hj : i = j
      · subst hj
        rw [List.getElem?_set] at h1'
        simp only [if_true] at h1'
        split at h1' <;> cases h1'
      · rw [List.getElem?_set_ne hj] at h1' h2'
        exact s1.env.young j ds b h1' h2'
def leaveA : Option Nat → L2.St → L2.St
  | none, σ => σ
  | some i, σ => σ.set i none
theorem stt_leave {x : Option (Addr × Value × Option Addr)} {oi : Option Nat} (hn : noXc (leaveE oi η) = true) (s : Stt K mg (Z0.at x) Z μ η σ) : Stt K mg Z0 (Z.at Z0.x) μ (leaveE oi η) (leaveA oi σ) := by
  have s1 : Stt K mg (Z0.at x) Z μ (leaveE oi η) (leaveA oi σ) := by
    cases oi with
    | none => exact s
    | some i => exact s.un i none
  exact stt_at (Z0 := Z0.at x) (x := Z0.x) (x' := none) (fun i c fs h => noXc_get hn h) s1
end
end Dn

/-! Dn 15: statements, each by its rule. -/
namespace Dn
open PySem PySem.Spec PyProof.Rows L2

section
variable {X : Cx} {Z0 : Zt} {W : WX} {E F G : Expr} {me mf mg' : Env' → M D} {pos p q : Pos} {i : Nat} {x : Str}
abbrev VS (X : Cx) (Z0 : Zt) (W : WX) (st : Stmt) (m : SM) : Prop := PS X st (tS X.K X.mg Z0 W m)
abbrev VB (X : Cx) (Z0 : Zt) (W : WX) (st : List Stmt) (m : SM) : Prop := PSs X st (tS X.K X.mg Z0 W m)
theorem tS_no {σ : L2.St} {H : Hp} {D : Ends} (h : tS X.K X.mg Z0 W (fun _ _ => .stuck) D σ H) : False := by
  obtain ⟨_, _, _, _, _, g⟩ := h
  exact g
theorem r_skip {st : Stmt} (h : PS X st tNext) : VS X Z0 W st SM.skip := psI h fun D σ H ⟨Z, μ, η, e, st, g⟩ => by
  subst e
  exact g Z σ st (Mo.refl Z)
theorem r_exp (hc : noComp E = true) (he : VE X Z0 W E me) : VS X Z0 W (.Expr E pos) (SM.of me fun _ => SM.skip) := by
  refine psI (ps_expr he (sw_no hc _ _)) fun D σ H ⟨Z, μ, η, e, st, g⟩ => ?_
  subst e
  exact ⟨Z, μ, η, rfl, st, Gd.bindS g fun Z1 μ1 d v s1 x1 r1 g1 => g1 Z1 σ s1 (Mo.refl _)⟩
theorem r_set (hN : X.N.Nodup) (hi : X.N[i]? = some x) (ht : TgtOk X x) (he : VE X Z0 W E me) (hs : swapsWith E (some (.Name x p)) pos.line X.env = pure false) :
    VS X Z0 W (.Assign [.Name x p] E pos) (SM.of me fun d η μ => .nx (η.set i (.val d)) μ) := by
  refine psI (ps_set hN hi ht.1 he hs ht.2) fun D σ H ⟨Z, μ, η, e, st, g⟩ => ?_
  subst e
  exact ⟨Z, μ, η, rfl, st, Gd.bindS g fun Z1 μ1 d v s1 x1 r1 g1 => g1 Z1 _ (s1.setVal r1 i) (Mo.refl _)⟩
theorem setL_imp {te : TE} {ml : Env' → M (List D)} (h : ∀ σ H Q, tL X.K X.mg Z0 W ml σ H Q → te σ H Q) : ∀ D σ H, tS X.K X.mg Z0 W (SM.of ml fun ds η μ => .nx (η.set i (.own ds)) μ) D σ H → tAsg te (gName i) D σ H := by
  intro D σ H ⟨Z, μ, η, e, st, g⟩
  subst e
  refine h _ _ _ ⟨Z, μ, η, rfl, st, GdL.bindS g fun Z1 μ1 ds p xs s1 x1 r1 n g1 => ?_⟩
  exact g1 ⟨Z1.F, Z1.ι, upd Z1.H p (.lst xs), Z1.x⟩ _ (s1.setOwn r1 n i) ⟨fun _ _ h => h, fun _ _ h => h⟩
theorem r_setL {ml : Env' → M (List D)} (hN : X.N.Nodup) (hi : X.N[i]? = some x) (ht : TgtOk X x) (he : VL X Z0 W E ml) (hs : swapsWith E (some (.Name x p)) pos.line X.env = pure false) :
    VS X Z0 W (.Assign [.Name x p] E pos) (SM.of ml fun ds η μ => .nx (η.set i (.own ds)) μ) :=
  psI (ps_set hN hi ht.1 he hs ht.2) (setL_imp fun _ _ _ h => h)
theorem r_setLc {T : Tb} {elt it ifs : Ex} {tg : Tg} {e t it' : Expr} {fs : List Expr} {scope : Scope} {own : List (Str × Nat)} (P : LcP T Z0 X W elt tg it ifs e t it' fs scope own) (hN : X.N.Nodup) (hi : X.N[i]? = some x) (hl : X.env.scope.names.lookup x = some .local)
    (hs : swapsWith (.ListComp e [⟨t, it', fs, 0⟩] scope q) (some (.Name x p)) pos.line X.env = pure true) :
    VS X Z0 W (.Assign [.Name x p] (.ListComp e [⟨t, it', fs, 0⟩] scope q) pos) (SM.of (den T (.lc elt tg it ifs)).l fun ds η μ => .nx (η.set i (.own ds)) μ) :=
  psI (ps_setLc P.hc hN hi hl hs P.hi P.bk P.hg P.ht P.he P.hs) (setL_imp fun σ H Q h => lc_imp P.hown h)
theorem r_unp {tg : Tg} (hg : PG X F (gT X.K tg)) (he : VE X Z0 W E me) (hs : swapsWithSole [F] E pos.line X.env = pure false) (hw : swappedStores [F] E X.env = pure none) (h1 : (assignEach [F] X.env).map (·.2) = [assign F X.env]) :
    VS X Z0 W (.Assign [F] E pos) (SM.of me fun d η μ => match tgSet tg d η with
      | some η' => .nx η' μ
      | none => .stuck) := by
  refine psI (ps_asg he hg hs hw h1) fun D σ H ⟨Z, μ, η, e, st, g⟩ => ?_
  subst e
  refine ⟨Z, μ, η, rfl, st, Gd.bindS g fun Z1 μ1 d v s1 x1 r1 g1 => ?_⟩
  cases et : tgSet tg d η with
  | none => rw [et] at g1; exact g1.elim
  | some η' =>
    rw [et] at g1
    exact gT_ok rfl s1 r1 et fun σ' s' _ _ => g1 Z1 σ' s' (Mo.refl _)
variable {es ts : List Expr} {ma : Env' → M (List D)} {k k2 : Nat} {p2 : Pos}
def parS (is : List Nat) (ma : Env' → M (List D)) : SM := SM.of ma fun ds η μ => match setAll is ds η with
  | some η' => .nx η' μ
  | none => .stuck
theorem r_par1 {is : List Nat} (hz : is.length ≤ 1000) (hg : PG X (.Tuple ts k p) (gT X.K (.tp is))) (ha : VA X Z0 W es ma) (hw : swappedStores [.Tuple ts k p] (.Tuple es k2 p2) X.env = pure none) :
    VS X Z0 W (.Assign [.Tuple ts k p] (.Tuple es k2 p2) pos) (parS is ma) := by
  refine psI (ps_asg (pe_tup ha) hg rfl hw rfl) fun D σ H ⟨Z, μ, η, e, st, g⟩ => ?_
  subst e
  refine ⟨Z, μ, η, rfl, st, Gd.bindS g fun Z1 μ1 ds vs s1 x1 r1 g1 => ?_⟩
  cases et : setAll is ds η with
  | none => rw [et] at g1; exact g1.elim
  | some η' =>
    rw [et] at g1
    have hl := setAll_length et
    refine ⟨by rw [← r1.length, ← hl, sizeLine_eq]; omega, fun a n => ?_⟩
    have x2 := ext_new (o := .tup vs) n s1.wk
    have w2 := wk_new (o := .tup vs) n s1.wk
    have e2 : tgSet (.tp is) (.tup ds) η = some η' := by
      show (if is.length = ds.length then setAll is ds η else none) = some η'
      rw [if_pos hl, et]
    exact gT_ok (Z := ⟨upd Z1.F a (.tup vs), Z1.ι, upd Z1.H a (.tup vs), Z1.x⟩) rfl (s1.go x2 w2) (.tup (.inl (.inl upd_same)) (r1.mo x2.toMo)) e2 fun σ' s' _ _ => g1 _ σ' s' x2.toMo
theorem setAll_two {i j : Nat} {ds : List D} {η η' : Env'} (h : setAll [i, j] ds η = some η') : ∃ a b, ds = [a, b] ∧ η' = (η.set i (.val a)).set j (.val b) := by
  match ds, h with
  | [a, b], h => cases h; exact ⟨a, b, rfl, rfl⟩
  | [], h => cases h
  | [_], h => cases h
  | _ :: _ :: _ :: _, h => cases h
theorem setAll_three {i j l : Nat} {ds : List D} {η η' : Env'} (h : setAll [i, j, l] ds η = some η') : ∃ a b c, ds = [a, b, c] ∧ η' = ((η.set i (.val a)).set j (.val b)).set l (.val c) := by
  match ds, h with
  | [a, b, c], h => cases h; exact ⟨a, b, c, rfl, rfl⟩
  | [], h => cases h
  | [_], h => cases h
  | [_, _], h => cases h
  | _ :: _ :: _ :: _ :: _, h => cases h
theorem r_par2 {i j : Nat} {x y : Str} {a b : Expr} {px py : Pos} (hc : X.calm = true) (hN : X.N.Nodup) (hi : X.N[i]? = some x) (hj : X.N[j]? = some y) (hij : i ≠ j) (hx : X.env.scope.names.lookup x = some .local) (hy : X.env.scope.names.lookup y = some .local)
    (ha : VA X Z0 W [a, b] ma) (hw : swappedStores [.Tuple [.Name x px, .Name y py] k p] (.Tuple [a, b] k2 p2) X.env = pure (some [x, y])) :
    VS X Z0 W (.Assign [.Tuple [.Name x px, .Name y py] k p] (.Tuple [a, b] k2 p2) pos) (parS [i, j] ma) := by
  refine psI (ps_par hc hN hi hj hij hx hy ha hw rfl) fun D σ H ⟨Z, μ, η, e, st, g⟩ => ?_
  subst e
  refine ⟨Z, μ, η, rfl, st, Gd.bindS g fun Z1 μ1 ds vs s1 x1 r1 g1 => ?_⟩
  cases et : setAll [i, j] ds η with
  | none => rw [et] at g1; exact g1.elim
  | some η' =>
    rw [et] at g1
    obtain ⟨d1, d2, rfl, rfl⟩ := setAll_two et
    cases r1 with
    | cons h1 r1 =>
      cases r1 with
      | cons h2 r1 =>
        cases r1
        exact ⟨_, _, rfl, g1 Z1 _ ((s1.setVal h1 i).setVal h2 j) (Mo.refl _)⟩
theorem r_par3 {i j l : Nat} {x y z : Str} {a b c : Expr} {px py pz : Pos} (hc : X.calm = true) (hN : X.N.Nodup) (hi : X.N[i]? = some x) (hj : X.N[j]? = some y) (hl : X.N[l]? = some z) (hij : i ≠ j) (hil : i ≠ l) (hjl : j ≠ l)
    (hx : X.env.scope.names.lookup x = some .local) (hy : X.env.scope.names.lookup y = some .local) (hz : X.env.scope.names.lookup z = some .local)
    (ha : VA X Z0 W [a, b, c] ma) (hw : swappedStores [.Tuple [.Name x px, .Name y py, .Name z pz] k p] (.Tuple [a, b, c] k2 p2) X.env = pure (some [x, y, z])) :
    VS X Z0 W (.Assign [.Tuple [.Name x px, .Name y py, .Name z pz] k p] (.Tuple [a, b, c] k2 p2) pos) (parS [i, j, l] ma) := by
  refine psI (ps_par3 hc hN hi hj hl hij hil hjl hx hy hz ha hw rfl) fun D σ H ⟨Z, μ, η, e, st, g⟩ => ?_
  subst e
  refine ⟨Z, μ, η, rfl, st, Gd.bindS g fun Z1 μ1 ds vs s1 x1 r1 g1 => ?_⟩
  cases et : setAll [i, j, l] ds η with
  | none => rw [et] at g1; exact g1.elim
  | some η' =>
    rw [et] at g1
    obtain ⟨d1, d2, d3, rfl, rfl⟩ := setAll_three et
    cases r1 with
    | cons h1 r1 =>
      cases r1 with
      | cons h2 r1 =>
        cases r1 with
        | cons h3 r1 =>
          cases r1
          exact ⟨_, _, _, rfl, g1 Z1 _ (((s1.setVal h1 i).setVal h2 j).setVal h3 l) (Mo.refl _)⟩
theorem r_aug {op : Operator} (hN : X.N.Nodup) (hi : X.N[i]? = some x) (ht : TgtOk X x) (he : VE X Z0 W E me) : VS X Z0 W (.AugAssign (.Name x p) op E pos) (fun η μ => match η[i]? with
    | some (.val x) => SM.of me (fun y η μ => match augO op x y with | some z => .nx (η.set i (.val z)) μ | none => .stuck) η μ
    | _ => .stuck) := by
  refine psI (ps_aug hN hi ht.1 he (iop_binO (mg := X.mg) op) ht.2) fun D σ H ⟨Z, μ, η, e, st, g⟩ => ?_
  subst e
  cases h : η[i]? with
  | none => simp only [h] at g; exact g.elim
  | some s =>
    cases s with
    | val d =>
      simp only [h] at g
      have lt : i < σ.length := by rw [← st.env.len]; exact (List.getElem?_eq_some_iff.mp h).1
      obtain ⟨v, e1, r⟩ := st.env.slot i _ _ h (List.getElem?_eq_getElem lt)
      refine ⟨v, by rw [List.getElem?_eq_getElem lt, e1], Z, μ, η, rfl, st, Gd.bindS g fun Z1 μ1 d2 v2 s1 x1 r1 g1 => ?_⟩
      refine ⟨Z1, μ1, d, d2, rfl, s1.wk, r.mo x1.toMo, r1, ?_⟩
      cases ea : augO op d d2 with
      | none => rw [ea] at g1; exact g1.elim
      | some z =>
        rw [ea] at g1
        exact fun Z2 u wk x2 ru => g1 Z2 _ ((s1.go x2 wk).setVal ru i) x2.toMo
    | un => simp only [h] at g; exact g.elim
    | own l => simp only [h] at g; exact g.elim
    | xc c fs => simp only [h] at g; exact g.elim
theorem r_app {ap cp : Pos} (hN : X.N[i]? = some x) (hv : Vis X.env.scope x) (hd : (x == ("__debug__" : Str)) = false) (hcd : (x == ("__classdict__" : Str)) = false) (hl : (ap.endLine == cp.line) = true) (hs : noStar E = true) (he : VE X Z0 W E me) :
    VS X Z0 W (.Expr (.Call (.Attribute (.Name x p) "append" ap) [E] [] cp) pos) (fun η μ => match η[i]? with
      | some (.own _) => SM.of me (fun d η μ => match η[i]? with
        | some (.own l) => if l.length < sizeLine then .nx (η.set i (.own (l ++ [d]))) μ else .stuck
        | _ => .stuck) η μ
      | _ => .stuck) := by
  refine psI (ps_expr (pe_bm PySem.F.plainAttrs_list PySem.F.slot_list_append PySem.F.type_list_append mt_append (pe_var hN hv hd hcd) (pa_cons he pa_nil (star_eq hs)) rfl (by rw [star_eq hs]; rfl) hl (star_eq hs) rfl)) fun D σ H ⟨Z, μ, η, e, st, g⟩ => ?_
  subst e
  cases h : η[i]? with
  | none => simp only [h] at g; exact g.elim
  | some s =>
    cases s with
    | own l =>
      simp only [h] at g
      obtain ⟨a, xs, e1, h1, h2⟩ := own_ref st h
      refine ⟨.ref a, e1, .inl ⟨rfl, xs, .inl (.inl h1)⟩, Z, μ, η, rfl, st, Gd.bindS g fun Z1 μ1 d v s1 x1 r1 g1 => ?_⟩
      rw [h] at g1
      simp only at g1
      by_cases hz : l.length < sizeLine
      · rw [if_pos hz] at g1
        obtain ⟨a', xs', e2, h3, h4⟩ := own_ref s1 h
        rw [e1] at e2; cases e2
        refine ⟨a, xs', v, rfl, rfl, h3, by rw [← h4.length]; exact hz, ?_⟩
        exact g1 ⟨Z1.F, Z1.ι, upd Z1.H a (.lst (xs' ++ [v])), Z1.x⟩ σ (s1.write h e1 (h4.append (.cons r1 .nil))) ⟨fun _ _ h => h, fun _ _ h => h⟩
      · rw [if_neg hz] at g1; exact g1.elim
    | val d => simp only [h] at g; exact g.elim
    | un => simp only [h] at g; exact g.elim
    | xc c fs => simp only [h] at g; exact g.elim
theorem r_dset (hu : X.A.units + 64 < cLine) (ho : VE X Z0 W F mf) (hk : VE X Z0 W G mg') (he : VE X Z0 W E me) (hs : noSlice G = true) (hc : noComp E = true) :
    VS X Z0 W (.Assign [.Subscript F G p] E pos) (SM.of me fun d => SM.of mf fun x => SM.of mg' fun kk η μ => match x, keyO kk with
      | .ref n, some key => (match μ[n]? with
        | some (.dct kvs) => if kvs.length < sizeLine then .nx η (μ.set n (.dct (kvPut key d kvs))) else .stuck
        | _ => .stuck)
      | _, _ => .stuck) := by
  refine psI (ps_dput (by omega) ho hk he (sw_no hc _ _)) fun D σ H ⟨Z, μ, η, e, st, g⟩ => ?_
  subst e
  refine ⟨Z, μ, η, rfl, st, Gd.bindS g fun Z1 μ1 d v s1 x1 r1 g1 => ?_⟩
  refine ⟨Z1, μ1, η, rfl, s1, Gd.bindS g1 fun Z2 μ2 o w s2 x2 r2 g2 => ?_⟩
  refine ⟨Z2, μ2, η, rfl, s2, Gd.bindS g2 fun Z3 μ3 kk u s3 x3 r3 g3 => ?_⟩
  cases r2 with
  | @ref n a h =>
    cases ek : keyO kk with
    | none => rw [ek] at g3; exact g3.elim
    | some key =>
      rw [ek] at g3
      simp only at g3
      cases em : μ3[n]? with
      | none => rw [em] at g3; exact g3.elim
      | some o =>
        rw [em] at g3
        cases o with
        | exo c fs => exact g3.elim
        | dct kvs =>
          simp only at g3
          by_cases hz : kvs.length < sizeLine
          · rw [if_pos hz] at g3
            have h3 := x3.i _ _ h
            obtain ⟨hF, vs, hH, hkv⟩ := s3.wk.obj n a _ h3 em
            have eu := keyO_rel r3 ek
            subst eu
            obtain ⟨x4, w4⟩ := put_dct (kvs' := kvPut key d kvs) (vs' := putK vs key v) s3.wk h3 em (hkv.put ((r1.mo x2.toMo).mo x3.toMo))
            refine ⟨a, _, rfl, .inl ⟨vs, key, hH, rfl, by rw [← Paired.length hkv]; exact hz, rfl⟩, ?_⟩
            exact g3 ⟨Z3.F, Z3.ι, upd Z3.H a (.dK (putK vs key v)), Z3.x⟩ σ (s3.go x4 w4) x4.toMo
          · rw [if_neg hz] at g3; exact g3.elim
  | _ => exact False.elim (by cases keyO kk <;> exact g3)
/-! flow -/
variable {A B : List Stmt} {sa sb : SM} {mt : Env' → M Bool}
theorem r_ite (ht : VT X Z0 W E mt) (ha : VB X Z0 W A sa) (hb : VB X Z0 W B sb) : VS X Z0 W (.If E A B pos) (SM.of mt fun c => if c = true then sa else sb) := by
  refine psI (ps_if ht ha hb) fun D σ H ⟨Z, μ, η, e, st, g⟩ => ?_
  subst e
  refine ⟨Z, μ, η, rfl, st, Gd.bindS g fun Z1 μ1 c c' s1 x1 r1 g1 => ?_⟩
  subst r1
  cases c with
  | true => rw [if_pos rfl] at g1 ⊢; exact ⟨Z1, μ1, η, rfl, s1, g1⟩
  | false => rw [if_neg Bool.false_ne_true] at g1 ⊢; exact ⟨Z1, μ1, η, rfl, s1, g1⟩
theorem r_ret (he : VE X Z0 W E me) : VS X Z0 W (.Return (some E) pos) (SM.of me fun d _ μ => .rt d μ) := by
  refine psI (ps_ret he) fun D σ H ⟨Z, μ, η, e, st, g⟩ => ?_
  subst e
  exact ⟨Z, μ, η, rfl, st, Gd.bindS g fun Z1 μ1 d v s1 x1 r1 g1 => g1 Z1 v s1.wk s1.ext r1⟩
theorem r_retn : VS X Z0 W (.Return none pos) (fun _ μ => .rt .non μ) := psI ps_retN fun D σ H ⟨Z, μ, η, e, st, g⟩ => by subst e; exact g Z .non st.wk st.ext .non
theorem r_brk : VS X Z0 W (.Break pos) (fun η μ => .bk η μ) := psI ps_break fun D σ H ⟨Z, μ, η, e, st, g⟩ => by subst e; exact g Z σ st (Mo.refl _)
theorem r_cnt : VS X Z0 W (.Continue pos) (fun η μ => .ct η μ) := psI ps_continue fun D σ H ⟨Z, μ, η, e, st, g⟩ => by subst e; exact g Z σ st (Mo.refl _)
theorem GdS.ne {Z : Zt} {r : SRes} {D : Ends} (g : GdS X.K X.mg Z0 W Z r D) : r ≠ .stuck := fun e => by rw [e] at g; exact g
theorem r_for {tg : Tg} {mi : Env' → M (List D)} {I T : Expr} (hp : PassesOwn (model X.prog X.w) X.A X.env X.xe) (hc : X.calm = true) (hi : VI X Z0 W T I mi) (hg : PG X T (gT X.K tg)) (hb : VB X Z0 W B sb) (hs : ∀ x, foldedSetIterable I X.env x = pure x) :
    VS X Z0 W (.For T I B [] pos) (SM.of mi fun ds => forN tg sb ds) := by
  refine psI (ps_for hp hc hi hg hb hs) fun D σ H ⟨Z, μ, η, e, st, g⟩ => ?_
  subst e
  refine ⟨Z, μ, η, rfl, st, Gd.bindS g fun Z1 μ1 ds J s1 x1 r1 g1 => ?_⟩
  refine ⟨fun i m σ H => m = ds.length - i ∧ i ≤ ds.length ∧ ∃ Z2 μ2 η2, Z2.H = H ∧ Stt X.K X.mg Z0 Z2 μ2 η2 σ ∧ Mo Z1 Z2 ∧ GdS X.K X.mg Z0 W Z2 (forN tg sb (ds.drop i) η2 μ2) D, ⟨ds.length, rfl, Nat.zero_le _, Z1, μ1, η, rfl, s1, Mo.refl _, g1⟩, ?_⟩
  rintro i m σ2 H2 ⟨rfl, hi', Z2, μ2, η2, rfl, s2, m2, g2⟩
  have walk := r1 Z2 μ2 m2 s2.wk i
  by_cases hlt : i < ds.length
  · right
    obtain ⟨go, yl⟩ := walk.1 _ (List.getElem?_eq_getElem hlt)
    refine ⟨go, fun σ' H' => ∃ Z2 μ2 η2, Z2.H = H' ∧ Stt X.K X.mg Z0 Z2 μ2 η2 σ' ∧ Mo Z1 Z2 ∧ GdS X.K X.mg Z0 W Z2 (forN tg sb (ds.drop (i + 1)) η2 μ2) D, fun σ' H' h => ⟨ds.length - (i + 1), by omega, rfl, hlt, h⟩, fun x H' y => ?_⟩
    obtain ⟨Z3, rfl, x3, wk3, rd⟩ := yl x H' y
    have ed : ds.drop i = ds[i] :: ds.drop (i + 1) := List.drop_eq_getElem_cons hlt
    rw [ed] at g2
    unfold forN at g2
    cases et : tgSet tg ds[i] η2 with
    | none => rw [et] at g2; exact g2.elim
    | some η3 =>
      rw [et] at g2
      simp only at g2
      refine gT_ok rfl (s2.go x3 wk3) rd et fun σ' s' _ _ => ⟨Z3, μ2, η3, rfl, s', ?_⟩
      have m3 := m2.trans x3.toMo
      cases eb : sb η3 μ2 with
      | stuck => rw [eb] at g2; exact g2.elim
      | nx η4 w =>
        rw [eb] at g2
        exact fun Z4 σ4 s4 m4 => ⟨Z4, w, η4, rfl, s4, m3.trans m4, g2.shift (x3.toMo.trans m4)⟩
      | ct η4 w =>
        rw [eb] at g2
        exact fun Z4 σ4 s4 m4 => ⟨Z4, w, η4, rfl, s4, m3.trans m4, g2.shift (x3.toMo.trans m4)⟩
      | bk η4 w =>
        rw [eb] at g2
        exact fun Z4 σ4 s4 m4 => g2 Z4 σ4 s4 (x3.toMo.trans m4)
      | rt d w =>
        rw [eb] at g2
        exact fun Z4 v wk x r => g2 Z4 v wk x r
      | exc c fs η4 w =>
        rw [eb] at g2
        exact fun Z4 σ4 cls dx s4 m4 r => g2 Z4 σ4 cls dx s4 (x3.toMo.trans m4) r
  · left
    have e : i = ds.length := by omega
    subst e
    rw [List.drop_length] at g2
    exact ⟨walk.2 (Nat.le_refl _), g2 Z2 σ2 s2 (Mo.refl _)⟩
theorem whl_spec {t : Env' → M Bool} {body : SM} {η : Env'} {μ : Wd} (h : whl t body η μ ≠ .stuck) : ∃ n, whlN t body n η μ = whl t body η μ := by
  unfold whl at h ⊢
  by_cases hx : ∃ n r, whlN t body n η μ = r ∧ r ≠ .stuck
  · rw [dif_pos hx]
    exact ⟨Classical.choose hx, (Classical.choose_spec (Classical.choose_spec hx)).1⟩
  · rw [dif_neg hx] at h; exact (h rfl).elim
theorem r_whl (hp : PassesOwn (model X.prog X.w) X.A X.env X.xe) (ht : VT X Z0 W E mt) (hb : VB X Z0 W B sb) : VS X Z0 W (.While E B [] pos) (whl mt sb) := by
  refine psI (ps_while hp ht hb) fun D σ H ⟨Z, μ, η, e, st, g⟩ => ?_
  subst e
  obtain ⟨n0, e0⟩ := whl_spec g.ne
  refine ⟨fun m σ H => ∃ Z2 μ2 η2, Z2.H = H ∧ Stt X.K X.mg Z0 Z2 μ2 η2 σ ∧ GdS X.K X.mg Z0 W Z2 (whlN mt sb m η2 μ2) D, ⟨n0, Z, μ, η, rfl, st, by rw [e0]; exact g⟩, ?_⟩
  rintro m σ2 H2 ⟨Z2, μ2, η2, rfl, s2, g2⟩
  cases m with
  | zero => exact g2.elim
  | succ n =>
    refine ⟨Z2, μ2, η2, rfl, s2, Gd.bindS g2 fun Z3 μ3 c c' s3 x3 r3 g3 => ?_⟩
    subst r3
    cases c with
    | false => rw [if_neg Bool.false_ne_true] at g3 ⊢; exact g3 Z3 σ2 s3 (Mo.refl _)
    | true =>
      rw [if_pos rfl] at g3 ⊢
      refine ⟨fun σ' H' => ∃ Z2 μ2 η2, Z2.H = H' ∧ Stt X.K X.mg Z0 Z2 μ2 η2 σ' ∧ GdS X.K X.mg Z0 W Z2 (whlN mt sb n η2 μ2) D, fun σ' H' h => ⟨n, Nat.lt_succ_self n, h⟩, Z3, μ3, η2, rfl, s3, ?_⟩
      cases eb : sb η2 μ3 with
      | stuck => rw [eb] at g3; exact g3.elim
      | nx η4 w =>
        rw [eb] at g3
        exact fun Z4 σ4 s4 m4 => ⟨Z4, w, η4, rfl, s4, g3.shift m4⟩
      | ct η4 w =>
        rw [eb] at g3
        exact fun Z4 σ4 s4 m4 => ⟨Z4, w, η4, rfl, s4, g3.shift m4⟩
      | bk η4 w =>
        rw [eb] at g3
        exact fun Z4 σ4 s4 m4 => g3 Z4 σ4 s4 m4
      | rt d w =>
        rw [eb] at g3
        exact fun Z4 v wk x r => g3 Z4 v wk x r
      | exc c fs η4 w =>
        rw [eb] at g3
        exact fun Z4 σ4 cls dx s4 m4 r => g3 Z4 σ4 cls dx s4 m4 r
/-! rows of statements -/
theorem r_nil : VB X Z0 W [] SM.skip := pssI pss_nil fun D σ H ⟨Z, μ, η, e, st, g⟩ => by subst e; exact g Z σ st (Mo.refl _)
theorem r_cons {st : Stmt} (ha : VS X Z0 W st sa) (hb : VB X Z0 W B sb) : VB X Z0 W (st :: B) (sa.seq sb) := by
  refine pssI (pss_cons ha hb) fun D σ H ⟨Z, μ, η, e, st, g⟩ => ?_
  subst e
  refine ⟨Z, μ, η, rfl, st, ?_⟩
  unfold SM.seq at g
  cases eb : sa η μ with
  | stuck => rw [eb] at g; exact g.elim
  | nx η4 w =>
    rw [eb] at g
    exact fun Z4 σ4 s4 m4 => ⟨Z4, w, η4, rfl, s4, g.shift m4⟩
  | ct η4 w =>
    rw [eb] at g
    exact fun Z4 σ4 s4 m4 => g Z4 σ4 s4 m4
  | bk η4 w =>
    rw [eb] at g
    exact fun Z4 σ4 s4 m4 => g Z4 σ4 s4 m4
  | rt d w =>
    rw [eb] at g
    exact fun Z4 v wk x r => g Z4 v wk x r
  | exc c fs η4 w =>
    rw [eb] at g
    exact fun Z4 σ4 cls dx s4 m4 r => g Z4 σ4 cls dx s4 m4 r
theorem r_frz (hb : VB X Z0 W B sb) : VB X Z0 W B (SM.seq (fun η μ => match η[i]? with
    | some (.own l) => .nx (η.set i (.val (.lst l))) μ
    | _ => .stuck) sb) := by
  refine pssI hb fun D σ H ⟨Z, μ, η, e, st, g⟩ => ?_
  subst e
  unfold SM.seq at g
  cases h : η[i]? with
  | none => simp only [h] at g; exact g.elim
  | some s =>
    cases s with
    | own l =>
      simp only [h] at g
      obtain ⟨Z', e1, m, s'⟩ := st.freeze h
      exact ⟨Z', μ, _, e1, s', g.shift m⟩
    | val d => simp only [h] at g; exact g.elim
    | un => simp only [h] at g; exact g.elim
    | xc c fs => simp only [h] at g; exact g.elim
end
end Dn

/-! Dn 16: raise, try. -/
namespace Dn
open PySem PySem.Spec PyProof.Rows L2

section
variable {X : Cx} {Z0 : Zt} {W : WX} {c : Str} {ns : List Str} {C : Addr} {e : Expr} {es : List Expr} {ta : TA} {p pos : Pos}
def tMkF (C : Addr) (ns : List Str) (ta : TA) : L2.St → Hp → XK → Prop := fun σ H Q => ta σ H fun vs H1 => vs.length = ns.length ∧ ∀ d, H1 d = none → Q (.ref C) (some d) (upd H1 d (.xd (ns.zip vs).reverse))
theorem upd_new_end {H : Hp} {a d : Addr} {o1 o2 o3 : HO} {fs : HO} (hd : H d = none) (ha : H a = none) (hne : d ≠ a) : upd (del (upd (upd (upd H a o1) d o2) a o3) a) d fs = upd H d fs := by
  funext b
  by_cases h : b = d
  · subst h; rw [upd_same, upd_same]
  · rw [upd_ne h, upd_ne h]
    by_cases h2 : b = a
    · subst h2; rw [del_same, ha]
    · rw [del_ne h2, upd_ne h2, upd_ne h, upd_ne h2]
theorem pmkI {X : Cx} {e : Expr} {t t' : L2.St → Hp → XK → Prop} (h : PMk X e t) (i : ∀ σ H Q, t' σ H Q → t σ H Q) : PMk X e t' := fun pins s σ H Q I q => h pins s σ H Q I (i σ H Q q)
theorem mk_xc (O : XcOk X.prog X.w X.K X.mg X.base c ns C) (hr : Room 2 X.A) (hg : Gl X c) (ha : PA X (e :: es) ta) (hn : ns.length ≤ 900) (hdb : (c == ("__debug__" : Str)) = false) (he : starEach (e :: es) X.env = (false, eval e X.env) :: starEach es X.env)
    (hpl : (backTo pos (starEach es X.env)).any (·.1) = false) (hta : ∀ σ H Q Q', (∀ vs H, Q vs H → Q' vs H) → ta σ H Q → ta σ H Q') : PMk X (.Call (.Name c p) (e :: es) [] pos) (tMkF C ns ta) := by
  obtain ⟨fI, fd, k, iC, tI, F, hb, hk⟩ := O.init
  refine pmkI (pmk_oex O.T iC tI (F.mono hk) hr hb .nil passL hg O.hm ha hdb he hpl) fun σ H Q h => ?_
  refine hta σ H _ _ (fun vs H1 ⟨hl, q⟩ => ⟨by omega, fun a na => ?_⟩) h
  refine ⟨a, vs ++ [], rfl, by rw [List.append_nil]; exact hl, upd_same, fun dx nd ne => ?_⟩
  have nd1 : H1 dx = none := by rw [upd_ne ne] at nd; exact nd
  rw [List.append_nil]
  refine ⟨rfl, dx, (ns.zip vs).reverse, upd_same, by rw [upd_ne ne, upd_same], nd1, ?_⟩
  rw [upd_new_end nd1 na ne]
  exact q dx nd1
theorem tG_mono {K : PySem.W.Frag} {mg : Str → Option Value} {α β : Type} {R : Zt → α → β → Prop} {m : Env' → M α} {σ : L2.St} {H : Hp} {Q Q' : β → Hp → Prop} (h : ∀ b H, Q b H → Q' b H) (t : tG K mg R Z0 W m σ H Q) : tG K mg R Z0 W m σ H Q' := by
  obtain ⟨Z, μ, η, e, st, g⟩ := t
  refine ⟨Z, μ, η, e, st, ?_⟩
  cases q : m η μ with
  | stuck => rw [q] at g; exact g
  | ok a w => rw [q] at g; exact fun Z' b s x r => h _ _ (g Z' b s x r)
  | exc c fs w => rw [q] at g; exact g
theorem zip_rel {K : PySem.W.Frag} {mg : Str → Option Value} {Z : Zt} : ∀ {ns : List Str} {ds : List D} {vs : List V}, RelL K mg Z ds vs → RelFs K mg Z (ns.zip ds) (ns.zip vs)
  | [], _, _, _ => .nil
  | n :: ns, _, _, .nil => .nil
  | n :: ns, _, _, .cons h r => .cons ⟨rfl, h⟩ (zip_rel r)
theorem rev_rel {α β : Type} {R : α → β → Prop} {l : List α} {r : List β} (h : Paired R l r) : Paired R l.reverse r.reverse := by
  induction h with
  | nil => exact .nil
  | cons p t ih =>
    rw [List.reverse_cons, List.reverse_cons]
    exact app_rel ih (.cons p .nil)
theorem r_rai {ma : Env' → M (List D)} {pos' : Pos} (hc : X.calm = true) (tk : Takes X W) (O : XcOk X.prog X.w X.K X.mg X.base c ns C) (hr : Room 2 X.A) (hg : Gl X c) (ha : VA X Z0 W (e :: es) ma) (hn : ns.length ≤ 900) (hdb : (c == ("__debug__" : Str)) = false) (hs : ((e :: es).all noStar) = true) :
    VS X Z0 W (.Raise (some (.Call (.Name c p) (e :: es) [] pos)) none pos') (SM.of ma fun ds η μ => if ns.length = ds.length then .exc c (ns.zip ds).reverse η μ else .stuck) := by
  have hs' : noStar e = true ∧ es.all noStar = true := by rw [List.all_cons, Bool.and_eq_true] at hs; exact hs
  refine psI (ps_raise hc tk (mk_xc O hr hg ha hn hdb (star_eq hs'.1) (plain_args hs'.2) fun σ H Q Q' h t => tG_mono h t)) fun D σ H ⟨Z, μ, η, e, st, g⟩ => ?_
  subst e
  refine ⟨Z, μ, η, rfl, st, Gd.bindS g fun Z1 μ1 ds vs s1 x1 r1 g1 => ?_⟩
  by_cases hl : ns.length = ds.length
  · rw [if_pos hl] at g1
    refine ⟨by rw [← r1.length, ← hl], fun d n => ?_⟩
    have x2 := ext_own (o := .xd (ns.zip vs).reverse) n
    have w2 := wk_own (o := .xd (ns.zip vs).reverse) n s1.wk
    refine g1 ⟨Z1.F, Z1.ι, upd Z1.H d (.xd (ns.zip vs).reverse), Z1.x⟩ σ (.ref C) (some d) (s1.go x2 w2) x2.toMo ⟨C, O.hm, rfl, .inr ⟨d, _, rfl, upd_same, ?_⟩⟩
    exact rev_rel (zip_rel (r1.mo x2.toMo))
  · rw [if_neg hl] at g1; exact g1.elim
end

/-! ### try -/
/-- one clause: the class's name, its slot, its den -/
structure Hd where
  c : Str
  i : Option Nat
  b : SM
def hdsDen (T : Tb) : List Hd → Str → List (Str × D) → SM
  | [], c, fs => fun η μ => .exc c fs η μ
  | h :: r, c, fs => fun η μ => match T.sub c h.c with
    | some true => leaveS h.i (h.b (enterE h.i c fs η) μ)
    | some false => hdsDen T r c fs η μ
    | none => .stuck
section
variable {X : Cx} {Z0 : Zt} {W : WX}
def clOf (X : Cx) (Z0 : Zt) (cv : Str → Value) (h : Hd) : Cl := (cv h.c, h.i, fun a cls d => tS X.K X.mg (Z0.at (some (a, cls, d))) WF h.b)
theorem GdS_imp {K : PySem.W.Frag} {mg : Str → Option Value} {Z0 Z : Zt} {W : WX} {r : SRes} {D D' : Ends} (hn : ∀ σ H, D.nx σ H → D'.nx σ H) (hr : ∀ v H, D.rt v H → D'.rt v H) (hb : ∀ σ H, D.bk σ H → D'.bk σ H) (hc : ∀ σ H, D.ct σ H → D'.ct σ H) (g : GdS K mg Z0 W Z r D) : GdS K mg Z0 W Z r D' := by
  cases r with
  | stuck => exact g
  | nx a w => exact fun Z' σ' s m => hn _ _ (g Z' σ' s m)
  | rt d w => exact fun Z' v wk x r => hr _ _ (g Z' v wk x r)
  | bk a w => exact fun Z' σ' s m => hb _ _ (g Z' σ' s m)
  | ct a w => exact fun Z' σ' s m => hc _ _ (g Z' σ' s m)
  | exc c fs a w => exact g
theorem GdS.suite {Z : Zt} {x : Option (Addr × Value × Option Addr)} {oi : Option Nat} {r : SRes} {D : Ends} (h0 : Z0.x = none) (g : GdS X.K X.mg Z0 W Z (leaveS oi r) D) : GdS X.K X.mg (Z0.at x) WF (Z.at x) r (endsA oi D) := by
  have mo : ∀ {Z3 : Zt}, Mo (Z.at x) Z3 → Mo Z (Z3.at Z0.x) := fun m => ⟨m.f, m.i⟩
  have cond : ∀ {η : Env'} {w : Wd} {C : Env' → Wd → SRes}, GdS X.K X.mg Z0 W Z (if noXc (leaveE oi η) = true then C (leaveE oi η) w else .stuck) D → noXc (leaveE oi η) = true ∧ GdS X.K X.mg Z0 W Z (C (leaveE oi η) w) D := fun {η w C} g => by
    by_cases h : noXc (leaveE oi η) = true
    · rw [if_pos h] at g; exact ⟨h, g⟩
    · rw [if_neg h] at g; exact g.elim
  cases r with
  | stuck => exact g
  | nx η w =>
    obtain ⟨hn, g'⟩ := cond (C := fun η w => .nx η w) g
    intro Z3 σ3 s3 m3
    have q := g' (Z3.at Z0.x) (leaveA oi σ3) (stt_leave hn s3) (mo m3)
    cases oi <;> exact q
  | bk η w =>
    obtain ⟨hn, g'⟩ := cond (C := fun η w => .bk η w) g
    intro Z3 σ3 s3 m3
    have q := g' (Z3.at Z0.x) (leaveA oi σ3) (stt_leave hn s3) (mo m3)
    cases oi <;> exact q
  | ct η w =>
    obtain ⟨hn, g'⟩ := cond (C := fun η w => .ct η w) g
    intro Z3 σ3 s3 m3
    have q := g' (Z3.at Z0.x) (leaveA oi σ3) (stt_leave hn s3) (mo m3)
    cases oi <;> exact q
  | rt d w =>
    intro Z3 v wk x3 r
    have m : Mo Z3 (Z3.at Z0.x) := ⟨fun _ _ h => h, fun _ _ h => h⟩
    have q := g (Z3.at Z0.x) v ⟨wk.sub, wk.len, wk.nd, fun k a o h1 h2 => (wk.obj k a o h1 h2).imp id fun mm => mm.mo m rfl⟩ { x3 with x := rfl } (r.mo m)
    cases oi <;> exact q
  | exc c fs η w => exact g.elim
theorem try_imp {T : Tb} {cv : Str → Value} (h0 : Z0.x = none) (hsub : ∀ c1 c2 b C1, T.sub c1 c2 = some b → X.mg c1 = some (.ref C1) → PySem.W.exmOne X.K (.ref C1) (cv c2) = some b) {Ds : Ends} {c : Str} {fs : List (Str × D)} {η : Env'} {μ : Wd} {Z : Zt} {σ : L2.St} {cls : Value} {dx : Option Addr} (s : Stt X.K X.mg Z0 Z μ η σ) (xr : XRel X.K X.mg Z c fs cls dx) :
    ∀ {hds : List Hd}, GdS X.K X.mg Z0 W Z (hdsDen T hds c fs η μ) Ds → wMix X.K W Ds (hds.map (clOf X Z0 cv)) cls dx σ Z.H := by
  intro hds
  induction hds with
  | nil => intro g; exact g Z σ cls dx s (Mo.refl _) xr
  | cons h r ih =>
    intro g
    have g' : GdS X.K X.mg Z0 W Z (match T.sub c h.c with
      | some true => leaveS h.i (h.b (enterE h.i c fs η) μ)
      | some false => hdsDen T r c fs η μ
      | none => .stuck) Ds := g
    obtain ⟨C, hm, ec, _⟩ := id xr
    cases es : T.sub c h.c with
    | none => rw [es] at g'; exact g'.elim
    | some b =>
      rw [es] at g'
      have hx := hsub c h.c b C es hm
      rw [← ec] at hx
      cases b with
      | false => exact ⟨false, hx, (fun z => by cases z), fun _ => ih g'⟩
      | true =>
        refine ⟨true, hx, fun _ a na => ?_, fun z => by cases z⟩
        exact ⟨Z.at (some (a, cls, dx)), μ, enterE h.i c fs η, rfl, stt_enter h0 s xr h.i a, GdS.suite h0 g'⟩
theorem r_try {T : Tb} {cv : Str → Value} {B : List Stmt} {h₀ : ExceptHandler} {H : List ExceptHandler} {pos : Pos} {sb : SM} {hds : List Hd} (hs : X.stack = X.env :: X.outer) (hf : X.env.frame = some X.env.locals) (hN : X.N.Nodup) (tk : Takes X W) (h0 : Z0.x = none)
    (hsub : ∀ c1 c2 b C1, T.sub c1 c2 = some b → X.mg c1 = some (.ref C1) → PySem.W.exmOne X.K (.ref C1) (cv c2) = some b)
    (hb : ∀ (W : WX) (pn : List (Addr × Obj)) (xe : Value → Shared → Prop), Takes (X.tr pn xe) W → PassesOwn (model X.prog X.w) X.A X.env xe → VB (X.tr pn xe) Z0 W B sb)
    (hh : HdsMix X (h₀ :: H) (hds.map (clOf X Z0 cv))) : VS X Z0 W (.Try B (h₀ :: H) [] [] pos) (fun η μ => match sb η μ with
      | .exc c fs η' w => hdsDen T hds c fs η' w
      | r => r) := by
  refine psI (ps_try_mix (tb := fun W => tS X.K X.mg Z0 W sb) (Wout := W) hs hf hN tk hb hh) fun D σ H ⟨Z, μ, η, e, st, g⟩ => ?_
  subst e
  have g' : GdS X.K X.mg Z0 W Z (match sb η μ with
    | .exc c fs η' w => hdsDen T hds c fs η' w
    | r => r) D := g
  refine ⟨Z, μ, η, rfl, st, ?_⟩
  cases eb : sb η μ with
  | stuck => rw [eb] at g'; exact g'
  | nx a w => rw [eb] at g'; exact g'
  | rt d w => rw [eb] at g'; exact g'
  | bk a w => rw [eb] at g'; exact g'
  | ct a w => rw [eb] at g'; exact g'
  | exc c fs a w =>
    rw [eb] at g'
    exact fun Z' σ' cls dx s' m xr => try_imp h0 hsub s' xr (g'.shift m)
end
end Dn

/-! Dn 17: what the look sees is what the den says: statements. -/
namespace Dn
open PySem PySem.Spec PyProof.Rows L2

def isDoc : Expr → Bool
  | .Constant (.str _) _ _ => true
  | _ => false
def nmOk (Γ : Cg) (i : Nat) (x : Str) : Bool := decide (Γ.N[i]? = some x) && isLoc Γ.sc x
def isLc : Ex → Bool
  | .lc _ _ _ _ => true
  | _ => false
def isLocal (sc : Scope) (x : Str) : Bool := match sc.names.lookup x with
  | some .local => true
  | _ => false
def ckPar (sc : Scope) (is : List Nat) (es vs : List Expr) : Bool :=
  match is, es, vs with
  | [i, j], [.Name x _, .Name y _], [_, _] => decide (i ≠ j) && isLocal sc x && isLocal sc y && decide (swNames sc es = [x, y])
  | [i, j, l], [.Name x _, .Name y _, .Name z _], [_, _, _] => decide (i ≠ j) && decide (i ≠ l) && decide (j ≠ l) && isLocal sc x && isLocal sc y && isLocal sc z && decide (swNames sc es = [x, y, z])
  | _, _, _ => false
def ckHd (Γ : Cg) (isE : Str → Bool) (c : Str) (i : Option Nat) (t : Option Expr) (nm : Option Str) : Bool :=
  match t with
  | some (.Name x _) => decide (x = c) && isGl Γ.sc x && okN x && isE c && (match i, nm with
    | none, none => true
    | some k, some n => decide (Γ.N[k]? = some n) && isLocal Γ.sc n
    | _, _ => false)
  | _ => false
mutual
def ckS (isE : Str → Bool) (Γ : Cg) : Sm → Stmt → Bool
  | .skip, .Pass _ => true
  | .skip, .Expr E _ => isDoc E
  | .exp e, .Expr E _ => noComp E && ck Γ none e E
  | .set i e, .Assign ts E _ => (match ts with
    | [.Name x _] => nmOk Γ i x && noComp E && ck Γ none e E
    | _ => false)
  | .setL i e, .Assign ts E _ => (match ts with
    | [.Name x p] => nmOk Γ i x && (!swB Γ.sc E x p || (isLc e && isLocal Γ.sc x)) && ck Γ none e E
    | _ => false)
  | .unp tg e, .Assign ts E _ => (match ts with
    | [F] => Γ.calm && isTuple F && noComp E && !isTuple E && ckTg Γ.N Γ.sc tg F && ck Γ none e E
    | _ => false)
  | .par is as, .Assign ts E _ => (match ts, E with
    | [.Tuple es _ _], .Tuple vs _ _ => Γ.calm && ckNames Γ.N Γ.sc is es && ckA Γ as vs && decide (is.length ≤ 1000) && (decide (swK Γ.sc es vs = 1) || (decide (swK Γ.sc es vs = 2) && ckPar Γ.sc is es vs))
    | _, _ => false)
  | .aug i op e, .AugAssign t op' E _ => (match t with
    | .Name x _ => nmOk Γ i x && decide (op = op') && ck Γ none e E
    | _ => false)
  | .app i e, .Expr E _ => (match E with
    | .Call f es ks cp => (match f, es, ks with
      | .Attribute o m ap, [a], [] => (match o with
        | .Name x _ => decide (Γ.N[i]? = some x) && isVis Γ.sc x && okN x && decide (m = "append") && (ap.endLine == cp.line) && noStar a && ck Γ none e a
        | _ => false)
      | _, _, _ => false)
    | _ => false)
  | .dset o k e, .Assign ts E _ => (match ts with
    | [.Subscript F G _] => noSlice G && noComp E && ck Γ none o F && ck Γ none k G && ck Γ none e E
    | _ => false)
  | .ite t a b, .If E A B _ => ck Γ none t E && ckSs isE Γ a A && ckSs isE Γ b B
  | .for_ tg it body, .For F I B oe _ => oe.isEmpty && Γ.calm && ckTg Γ.N Γ.sc tg F && ck Γ (some F) it I && ckSs isE Γ body B
  | .whl t body, .While E B oe _ => oe.isEmpty && ck Γ none t E && ckSs isE Γ body B
  | .ret e, .Return o _ => (match o with
    | some E => ck Γ none e E
    | none => false)
  | .retn, .Return o _ => o.isNone
  | .rai c as, .Raise o cs _ => (match o, cs with
    | some (.Call f es ks _), none => (match f, ks with
      | .Name x _, [] => Γ.calm && decide (c = x) && isGl Γ.sc x && okN x && (Γ.isX x).isSome && !es.isEmpty && ckA Γ as es
      | _, _ => false)
    | _, _ => false)
  | .try_ b hs, .Try B H oe fb _ => oe.isEmpty && fb.isEmpty && Γ.calm && !Γ.xc && !H.isEmpty && ckSs isE Γ b B && ckH isE Γ hs H
  | .brk, .Break _ => true
  | .cnt, .Continue _ => true
  | _, _ => false
def ckSs (isE : Str → Bool) (Γ : Cg) : Sm → List Stmt → Bool
  | .nil, sts => sts.isEmpty
  | .cons a b, sts => bif (isFrz a).isSome then ckSs isE Γ b sts else (match sts with
    | [] => false
    | st :: r => ckS isE Γ a st && ckSs isE Γ b r)
  | _, _ => false
def ckH (isE : Str → Bool) (Γ : Cg) : Sm → List ExceptHandler → Bool
  | .nil, hs => hs.isEmpty
  | .hdl c i b rest, hs => (match hs with
    | [] => false
    | .ExceptHandler t nm suite _ :: r => ckHd Γ isE c i t nm && !suite.isEmpty && ckSs isE { Γ with calm := false, xc := i.isSome } b suite && ckH isE Γ rest r)
  | _, _ => false
end
def cvOf (mg : Str → Option Value) (c : Str) : Value := match mg c with
  | some v => v
  | none => (bootBuiltins c).getD .none
structure OkS (isE : Str → Bool) (T : Tb) (Γ : Cg) (Z0 : Zt) (X : Cx) : Prop extends Ok T Γ Z0 X where
  kind : X.env.scope.kind = .function
  fnT : ∀ x, X.fn x = true
  pas : PassesOwn (model X.prog X.w) X.A X.env X.xe
  stk : X.stack = X.env :: X.outer
  frm : X.env.frame = some X.env.locals
  rm : Γ.calm = true → Room 2 X.A
  rai : ∀ c ns, Γ.isX c = some ns → T.xf c = some ns ∧ ns.length ≤ 900 ∧ ∃ C, XcOk X.prog X.w X.K X.mg X.base c ns C
  cls : ∀ c, isE c = true → (X.mg c).isSome = true ∨ (X.mg c = none ∧ (bootBuiltins c).isSome = true ∧ c ≠ "__name__")
  sub : ∀ c1 c2 b C1, T.sub c1 c2 = some b → X.mg c1 = some (.ref C1) → PySem.W.exmOne X.K (.ref C1) (cvOf X.mg c2) = some b
section
variable {isE : Str → Bool} {T : Tb} {Γ : Cg} {Z0 : Zt} {X : Cx} {W : WX}
theorem OkS.tgt (ok : OkS isE T Γ Z0 X) {x : Str} (h : isLoc Γ.sc x = true) : TgtOk X x := by
  refine ⟨?_, .inl (ok.fnT x)⟩
  unfold L2.Loc
  rw [ok.sc]
  exact isLoc_loc h
theorem OkS.suite (ok : OkS isE T Γ Z0 X) {a : Addr} {oe : Obj} {cls : Value} {d : Option Addr} {pn : List (Addr × Obj)} (b : Bool) (hz : Zc cls d oe) (hf : ∃ vs, oe.data = .fields vs) :
    OkS isE T { Γ with calm := false, xc := b } (Z0.at (some (a, cls, d))) (X.suite a ((a, oe) :: pn)) :=
  { N := ok.N, nd := ok.nd, sc := ok.sc, calm := fun h => (by cases h), hu := ok.hu, hgd := ok.hgd, gl := ok.gl, fnok := fun h => (by cases h), cn := ok.cn, blt := ok.blt, gcd := ok.gcd, x0 := fun h => (by cases h), mkx := fun h => (by cases h), mk0 := ok.mk0, isx := ok.isx
    xr := fun _ => ⟨a, cls, d, rfl, fun C n e te pos T hno he hb => pe_xf T hno hz hf he hb⟩, xf := ok.xf
    kind := ok.kind, fnT := ok.fnT, pas := PassesOwn.never, stk := ok.stk, frm := ok.frm, rm := fun h => (by cases h), rai := ok.rai, cls := ok.cls, sub := ok.sub }
theorem OkS.tr (ok : OkS isE T Γ Z0 X) (hx : Γ.xc = false) {pn : List (Addr × Obj)} {xe : Value → Shared → Prop} (hp : PassesOwn (model X.prog X.w) X.A X.env xe) : OkS isE T Γ Z0 (X.tr pn xe) :=
  { N := ok.N, nd := ok.nd, sc := ok.sc, calm := ok.calm, hu := ok.hu, hgd := ok.hgd, gl := ok.gl, fnok := ok.fnok, cn := ok.cn, blt := ok.blt, gcd := ok.gcd, x0 := ok.x0, mkx := ok.mkx, mk0 := ok.mk0, isx := ok.isx
    xr := fun h => (by rw [hx] at h; cases h), xf := ok.xf
    kind := ok.kind, fnT := ok.fnT, pas := hp, stk := ok.stk, frm := ok.frm, rm := ok.rm, rai := ok.rai, cls := ok.cls, sub := ok.sub }
theorem isLocal_of {sc : Scope} {x : Str} (h : isLocal sc x = true) : sc.names.lookup x = some .local := by
  unfold isLocal at h
  split at h
  · assumption
  · cases h
end

structure SndS (isE : Str → Bool) (T : Tb) (sm : Sm) : Prop where
  s : ∀ Γ X Z0 W st, OkS isE T Γ Z0 X → Takes X W → ckS isE Γ sm st = true → VS X Z0 W st (denS T sm).s
  b : ∀ Γ X Z0 W sts, OkS isE T Γ Z0 X → Takes X W → ckSs isE Γ sm sts = true → VB X Z0 W sts (denS T sm).s
  h : ∀ Γ X Z0 hs, OkS isE T Γ Z0 X → ckH isE Γ sm hs = true → ∃ hds : List Hd, (denS T sm).h = hdsDen T hds ∧ HdsMix X hs (hds.map (clOf X Z0 (cvOf X.mg)))
section
variable {isE : Str → Bool} {T : Tb} {s : Sm}
/-- a statement that is no row -/
theorem sndS_of (hb : ∀ Γ sts, ckSs isE Γ s sts = true → False) (hh : ∀ Γ hs, ckH isE Γ s hs = true → False) (hs : ∀ Γ X Z0 W st, OkS isE T Γ Z0 X → Takes X W → ckS isE Γ s st = true → VS X Z0 W st (denS T s).s) : SndS isE T s :=
  ⟨hs, fun Γ X Z0 W sts ok tk h => (hb Γ sts h).elim, fun Γ X Z0 hs ok h => (hh Γ hs h).elim⟩
theorem nm_inv {Γ : Cg} {X : Cx} {Z0 : Zt} {i : Nat} {x : Str} (ok : OkS isE T Γ Z0 X) (h : nmOk Γ i x = true) : X.N[i]? = some x ∧ TgtOk X x := by
  obtain ⟨h1, h2⟩ := and2 (show (decide (Γ.N[i]? = some x) && isLoc Γ.sc x) = true from h)
  exact ⟨by rw [ok.N]; exact of_decide_eq_true h1, ok.tgt h2⟩
theorem ckNames_length {N : List Str} {sc : Scope} : ∀ {is : List Nat} {es : List Expr}, ckNames N sc is es = true → is.length = es.length
  | [], [], _ => rfl
  | [], _ :: _, h => by cases h
  | i :: is, [], h => by cases h
  | i :: is, e :: es, h => by
    cases e with
    | Name x p => rw [List.length_cons, List.length_cons, ckNames_length (and2 (show (decide (N[i]? = some x) && isLoc sc x && ckNames N sc is es) = true from h)).2]
    | _ => cases h
theorem isFrz_some {a : Sm} {i : Nat} (h : isFrz a = some i) : a = .frz i := by
  cases a <;> first | (cases h; rfl) | cases h
theorem noTup_sw {env : PySem.Env} {T E : Expr} (h : isTuple E = false) : swappedStores [T] E env = pure none := by
  refine sw_noT ?_
  cases E <;> first | rfl | cases h
theorem assignOne {F : Expr} {env : PySem.Env} (h : isTuple F = true) : (assignEach [F] env).map (·.2) = [assign F env] := by
  cases F <;> first | rfl | cases h
end
theorem sndS (isE : Str → Bool) (T : Tb) : ∀ s : Sm, SndS isE T s
  | .skip => sndS_of (fun Γ sts h => by cases h) (fun Γ hs h => by cases h) fun Γ X Z0 W st ok tk h => by
    cases st with
    | Pass p => exact r_skip ps_pass
    | Expr E p =>
      cases E with
      | Constant c k q =>
        cases c with
        | str x => exact r_skip ps_doc
        | _ => cases h
      | _ => cases h
    | _ => cases h
  | .exp e => sndS_of (fun Γ sts h => by cases h) (fun Γ hs h => by cases h) fun Γ X Z0 W st ok tk h => by
    cases st with
    | Expr E p =>
      obtain ⟨h1, h2⟩ := and2 (show (noComp E && ck Γ none e E) = true from h)
      exact r_exp h1 ((snd T e).v Γ X Z0 W _ _ ok.toOk tk h2)
    | _ => cases h
  | .set i e => sndS_of (fun Γ sts h => by cases h) (fun Γ hs h => by cases h) fun Γ X Z0 W st ok tk h => by
    cases st with
    | Assign ts E p =>
      match ts, h with
      | [.Name x q], h =>
        obtain ⟨h1, h3⟩ := and2 (show (nmOk Γ i x && noComp E && ck Γ none e E) = true from h)
        obtain ⟨h1, h2⟩ := and2 h1
        obtain ⟨g1, g2⟩ := nm_inv ok h1
        exact r_set ok.nd g1 g2 ((snd T e).v Γ X Z0 W _ _ ok.toOk tk h3) (sw_no h2 _ _)
      | [], h => cases h
      | t :: _ :: _, h => cases t <;> cases h
    | _ => cases h
  | .setL i e => sndS_of (fun Γ sts h => by cases h) (fun Γ hs h => by cases h) fun Γ X Z0 W st ok tk h => by
    cases st with
    | Assign ts E p =>
      match ts, h with
      | [.Name x q], h =>
        obtain ⟨h1, h3⟩ := and2 (show (nmOk Γ i x && (!swB Γ.sc E x q || (isLc e && isLocal Γ.sc x)) && ck Γ none e E) = true from h)
        obtain ⟨h1, h2⟩ := and2 h1
        obtain ⟨g1, g2⟩ := nm_inv ok h1
        have sw := sw_eq ok.kind E x q p.line
        rw [ok.sc] at sw
        cases hsw : swB Γ.sc E x q with
        | false =>
          rw [hsw] at sw
          exact r_setL ok.nd g1 g2 ((snd T e).l Γ X Z0 W _ _ ok.toOk tk h3) sw
        | true =>
          rw [hsw] at sw h2
          obtain ⟨k1, k2⟩ := and2 (show (isLc e && isLocal Γ.sc x) = true from h2)
          cases e with
          | lc elt tg it ifs =>
            obtain ⟨e', t, i', fs, scope, p', own, rfl, P⟩ := lc_inv (snd T it) (snd T ifs) (snd T elt) ok.toOk tk h3
            exact r_setLc P ok.nd g1 (by rw [ok.sc]; exact isLocal_of k2) sw
          | _ => cases k1
      | [], h => cases h
      | t :: _ :: _, h => cases t <;> cases h
    | _ => cases h
  | .unp tg e => sndS_of (fun Γ sts h => by cases h) (fun Γ hs h => by cases h) fun Γ X Z0 W st ok tk h => by
    cases st with
    | Assign ts E p =>
      match ts, h with
      | [F], h =>
        obtain ⟨h1, h6⟩ := and2 (show (Γ.calm && isTuple F && noComp E && !isTuple E && ckTg Γ.N Γ.sc tg F && ck Γ none e E) = true from h)
        obtain ⟨h1, h5⟩ := and2 h1
        obtain ⟨h1, h4⟩ := and2 h1
        obtain ⟨h1, h3⟩ := and2 h1
        obtain ⟨h1, h2⟩ := and2 h1
        refine r_unp (ckTg_pg (sc := Γ.sc) ok.nd (fun x hx => ok.tgt hx) (.inl (ok.calm h1)) (by rw [ok.N]; exact h5)) ((snd T e).v Γ X Z0 W _ _ ok.toOk tk h6) (sw_no h3 _ _) (noTup_sw (by simpa using h4)) (assignOne h2)
      | [], h => cases h
      | t :: _ :: _, h => cases h
    | _ => cases h
  | .par is as => sndS_of (fun Γ sts h => by cases h) (fun Γ hs h => by cases h) fun Γ X Z0 W st ok tk h => by
    cases st with
    | Assign ts E p =>
      cases E with
      | Tuple vs k2 p2 =>
        match ts, h with
        | [.Tuple es k q], h =>
          obtain ⟨h1, h5⟩ := and2 (show (Γ.calm && ckNames Γ.N Γ.sc is es && ckA Γ as vs && decide (is.length ≤ 1000) && (decide (swK Γ.sc es vs = 1) || (decide (swK Γ.sc es vs = 2) && ckPar Γ.sc is es vs))) = true from h)
          obtain ⟨h1, h4⟩ := and2 h1
          obtain ⟨h1, h3⟩ := and2 h1
          obtain ⟨h1, h2⟩ := and2 h1
          have ha := (snd T as).a Γ X Z0 W _ ok.toOk tk h3
          have hcm := ok.calm h1
          obtain ⟨w1, w2⟩ := swSt (env := X.env) ok.kind (ts := es) (vs := vs) (k := k) (k2 := k2) (p := q) (p2 := p2)
          rw [ok.sc] at w1 w2
          have hP : ∀ x, isLoc Γ.sc x = true → TgtOk X x := fun x hx => ok.tgt hx
          rcases Bool.or_eq_true _ _ ▸ h5 with z | z
          · exact r_par1 (of_decide_eq_true h4) (ckTg_pg (sc := Γ.sc) (t := .tp is) ok.nd hP (.inl hcm) (by rw [ok.N]; exact h2)) ha (w1 (of_decide_eq_true z))
          · obtain ⟨z1, z2⟩ := and2 z
            have hw := w2 (of_decide_eq_true z1)
            unfold ckPar at z2
            split at z2
            · obtain ⟨z2, y4⟩ := and2 z2
              obtain ⟨z2, y3⟩ := and2 z2
              obtain ⟨z2, y2⟩ := and2 z2
              obtain ⟨k1, k3⟩ := and2 (show (decide (Γ.N[_]? = some _) && isLoc Γ.sc _ && ckNames Γ.N Γ.sc _ _) = true from h2)
              obtain ⟨k1, _⟩ := and2 k1
              obtain ⟨k4, _⟩ := and2 (show (decide (Γ.N[_]? = some _) && isLoc Γ.sc _ && ckNames Γ.N Γ.sc _ _) = true from k3)
              obtain ⟨k4, _⟩ := and2 k4
              rw [of_decide_eq_true y4] at hw
              exact r_par2 hcm ok.nd (by rw [ok.N]; exact of_decide_eq_true k1) (by rw [ok.N]; exact of_decide_eq_true k4) (of_decide_eq_true z2) (by rw [ok.sc]; exact isLocal_of y2) (by rw [ok.sc]; exact isLocal_of y3) ha hw
            · obtain ⟨z2, y7⟩ := and2 z2
              obtain ⟨z2, y6⟩ := and2 z2
              obtain ⟨z2, y5⟩ := and2 z2
              obtain ⟨z2, y4⟩ := and2 z2
              obtain ⟨z2, y3⟩ := and2 z2
              obtain ⟨z2, y2⟩ := and2 z2
              obtain ⟨k1, k3⟩ := and2 (show (decide (Γ.N[_]? = some _) && isLoc Γ.sc _ && ckNames Γ.N Γ.sc _ _) = true from h2)
              obtain ⟨k1, _⟩ := and2 k1
              obtain ⟨k4, k5⟩ := and2 (show (decide (Γ.N[_]? = some _) && isLoc Γ.sc _ && ckNames Γ.N Γ.sc _ _) = true from k3)
              obtain ⟨k4, _⟩ := and2 k4
              obtain ⟨k6, _⟩ := and2 (show (decide (Γ.N[_]? = some _) && isLoc Γ.sc _ && ckNames Γ.N Γ.sc _ _) = true from k5)
              obtain ⟨k6, _⟩ := and2 k6
              rw [of_decide_eq_true y7] at hw
              exact r_par3 hcm ok.nd (by rw [ok.N]; exact of_decide_eq_true k1) (by rw [ok.N]; exact of_decide_eq_true k4) (by rw [ok.N]; exact of_decide_eq_true k6) (of_decide_eq_true z2) (of_decide_eq_true y2) (of_decide_eq_true y3) (by rw [ok.sc]; exact isLocal_of y4) (by rw [ok.sc]; exact isLocal_of y5) (by rw [ok.sc]; exact isLocal_of y6) ha hw
            · cases z2
        | [], h => cases h
        | t :: _ :: _, h => cases t <;> cases h
      | _ => exfalso; match ts, h with
        | [], h => cases h
        | [t], h => cases t <;> cases h
        | t :: _ :: _, h => cases t <;> cases h
    | _ => cases h
  | .aug i op e => sndS_of (fun Γ sts h => by cases h) (fun Γ hs h => by cases h) fun Γ X Z0 W st ok tk h => by
    cases st with
    | AugAssign t op' E p =>
      cases t with
      | Name x q =>
        obtain ⟨h1, h3⟩ := and2 (show (nmOk Γ i x && decide (op = op') && ck Γ none e E) = true from h)
        obtain ⟨h1, h2⟩ := and2 h1
        obtain ⟨g1, g2⟩ := nm_inv ok h1
        have eo := of_decide_eq_true h2
        subst eo
        exact r_aug ok.nd g1 g2 ((snd T e).v Γ X Z0 W _ _ ok.toOk tk h3)
      | _ => cases h
    | _ => cases h
  | .app i e => sndS_of (fun Γ sts h => by cases h) (fun Γ hs h => by cases h) fun Γ X Z0 W st ok tk h => by
    cases st with
    | Expr E p =>
      cases E with
      | Call f es ks cp =>
        cases f with
        | Attribute o m ap =>
          match es, ks, h with
          | [a], [], h =>
            cases o with
            | Name x q =>
              obtain ⟨h1, h7⟩ := and2 (show (decide (Γ.N[i]? = some x) && isVis Γ.sc x && okN x && decide (m = "append") && (ap.endLine == cp.line) && noStar a && ck Γ none e a) = true from h)
              obtain ⟨h1, h6⟩ := and2 h1
              obtain ⟨h1, h5⟩ := and2 h1
              obtain ⟨h1, h4⟩ := and2 h1
              obtain ⟨h1, h3⟩ := and2 h1
              obtain ⟨h1, h2⟩ := and2 h1
              have em := of_decide_eq_true h4
              have e1 := of_decide_eq_true h1
              subst em
              obtain ⟨d1, d2⟩ := okN_1 h3
              exact r_app (by rw [ok.N]; exact e1) (ok.vis h2) d1 d2 h5 h6 ((snd T e).v Γ X Z0 W _ _ ok.toOk tk h7)
            | _ => cases h
          | [], ks, h => cases ks <;> cases h
          | [_], _ :: _, h => cases h
          | _ :: _ :: _, ks, h => cases ks <;> cases h
        | _ => cases h
      | _ => cases h
    | _ => cases h
  | .ext _ _ => sndS_of (fun Γ sts h => by cases h) (fun Γ hs h => by cases h) fun Γ X Z0 W st ok tk h => by cases st <;> cases h
  | .seto _ _ _ => sndS_of (fun Γ sts h => by cases h) (fun Γ hs h => by cases h) fun Γ X Z0 W st ok tk h => by cases st <;> cases h
  | .dset o k e => sndS_of (fun Γ sts h => by cases h) (fun Γ hs h => by cases h) fun Γ X Z0 W st ok tk h => by
    cases st with
    | Assign ts E p =>
      match ts, h with
      | [.Subscript F G q], h =>
        obtain ⟨h1, h5⟩ := and2 (show (noSlice G && noComp E && ck Γ none o F && ck Γ none k G && ck Γ none e E) = true from h)
        obtain ⟨h1, h4⟩ := and2 h1
        obtain ⟨h1, h3⟩ := and2 h1
        obtain ⟨h1, h2⟩ := and2 h1
        exact r_dset ok.hu ((snd T o).v Γ X Z0 W _ _ ok.toOk tk h3) ((snd T k).v Γ X Z0 W _ _ ok.toOk tk h4) ((snd T e).v Γ X Z0 W _ _ ok.toOk tk h5) h1 h2
      | [], h => cases h
      | t :: _ :: _, h => cases t <;> cases h
    | _ => cases h
  | .ite t a b => sndS_of (fun Γ sts h => by cases h) (fun Γ hs h => by cases h) fun Γ X Z0 W st ok tk h => by
    cases st with
    | If E A B p =>
      obtain ⟨h1, h3⟩ := and2 (show (ck Γ none t E && ckSs isE Γ a A && ckSs isE Γ b B) = true from h)
      obtain ⟨h1, h2⟩ := and2 h1
      exact r_ite ((snd T t).t Γ X Z0 W _ _ ok.toOk tk h1) ((sndS isE T a).b Γ X Z0 W _ ok tk h2) ((sndS isE T b).b Γ X Z0 W _ ok tk h3)
    | _ => cases h
  | .for_ tg it body => sndS_of (fun Γ sts h => by cases h) (fun Γ hs h => by cases h) fun Γ X Z0 W st ok tk h => by
    cases st with
    | For F I B oe p =>
      obtain ⟨h1, h5⟩ := and2 (show (oe.isEmpty && Γ.calm && ckTg Γ.N Γ.sc tg F && ck Γ (some F) it I && ckSs isE Γ body B) = true from h)
      obtain ⟨h1, h4⟩ := and2 h1
      obtain ⟨h1, h3⟩ := and2 h1
      obtain ⟨h1, h2⟩ := and2 h1
      cases oe with
      | cons _ _ => cases h1
      | nil =>
        exact r_for ok.pas (ok.calm h2) ((snd T it).i Γ X Z0 W _ _ ok.toOk tk h4) (ckTg_pg (sc := Γ.sc) ok.nd (fun x hx => ok.tgt hx) (.inl (ok.calm h2)) (by rw [ok.N]; exact h3)) ((sndS isE T body).b Γ X Z0 W _ ok tk h5) (noSet_fold (ck_noSet h4))
    | _ => cases h
  | .whl t body => sndS_of (fun Γ sts h => by cases h) (fun Γ hs h => by cases h) fun Γ X Z0 W st ok tk h => by
    cases st with
    | While E B oe p =>
      obtain ⟨h1, h3⟩ := and2 (show (oe.isEmpty && ck Γ none t E && ckSs isE Γ body B) = true from h)
      obtain ⟨h1, h2⟩ := and2 h1
      cases oe with
      | cons _ _ => cases h1
      | nil => exact r_whl ok.pas ((snd T t).t Γ X Z0 W _ _ ok.toOk tk h2) ((sndS isE T body).b Γ X Z0 W _ ok tk h3)
    | _ => cases h
  | .ret e => sndS_of (fun Γ sts h => by cases h) (fun Γ hs h => by cases h) fun Γ X Z0 W st ok tk h => by
    cases st with
    | Return o p =>
      cases o with
      | none => cases h
      | some E => exact r_ret ((snd T e).v Γ X Z0 W _ _ ok.toOk tk h)
    | _ => cases h
  | .retn => sndS_of (fun Γ sts h => by cases h) (fun Γ hs h => by cases h) fun Γ X Z0 W st ok tk h => by
    cases st with
    | Return o p =>
      cases o with
      | none => exact r_retn
      | some E => cases h
    | _ => cases h
  | .rai c as => sndS_of (fun Γ sts h => by cases h) (fun Γ hs h => by cases h) fun Γ X Z0 W st ok tk h => by
    cases st with
    | Raise o cs p =>
      cases o with
      | none => cases h
      | some E =>
        cases cs with
        | some _ => cases E <;> cases h
        | none =>
          cases E with
          | Call f es ks cp =>
            cases f with
            | Name x q =>
              cases ks with
              | cons _ _ => cases h
              | nil =>
                obtain ⟨h1, h7⟩ := and2 (show (Γ.calm && decide (c = x) && isGl Γ.sc x && okN x && (Γ.isX x).isSome && !es.isEmpty && ckA Γ as es) = true from h)
                obtain ⟨h1, h6⟩ := and2 h1
                obtain ⟨h1, h5⟩ := and2 h1
                obtain ⟨h1, h4⟩ := and2 h1
                obtain ⟨h1, h3⟩ := and2 h1
                obtain ⟨h1, h2⟩ := and2 h1
                have ec := of_decide_eq_true h2
                have hcm := ok.calm h1
                have hrm := ok.rm h1
                subst ec
                cases es with
                | nil => cases h6
                | cons e es =>
                  cases en : Γ.isX c with
                  | none => rw [en] at h5; cases h5
                  | some ns =>
                    obtain ⟨r1, r2, C, r3⟩ := ok.rai c ns en
                    have q := r_rai (pos := cp) (pos' := p) (p := q) hcm tk r3 hrm (ok.gl' h3) ((snd T as).a Γ X Z0 W _ ok.toOk tk h7) r2 (okN_1 h4).1 (ckA_noStar h7)
                    have ed : (denS T (.rai c as)).s = SM.of (den T as).a fun ds η μ => if ns.length = ds.length then .exc c (ns.zip ds).reverse η μ else .stuck := by
                      show (SM.of (den T as).a fun ds η μ => match T.xf c with
                        | some fs => if fs.length = ds.length then .exc c (fs.zip ds).reverse η μ else .stuck
                        | none => .stuck) = _
                      rw [r1]
                    rw [ed]
                    exact q
            | _ => cases h
          | _ => cases h
    | _ => cases h
  | .try_ b hs => sndS_of (fun Γ sts h => by cases h) (fun Γ hs h => by cases h) fun Γ X Z0 W st ok tk h => by
    cases st with
    | Try B H oe fb p =>
      obtain ⟨h1, h7⟩ := and2 (show (oe.isEmpty && fb.isEmpty && Γ.calm && !Γ.xc && !H.isEmpty && ckSs isE Γ b B && ckH isE Γ hs H) = true from h)
      obtain ⟨h1, h6⟩ := and2 h1
      obtain ⟨h1, h5⟩ := and2 h1
      obtain ⟨h1, h4⟩ := and2 h1
      obtain ⟨h1, h3⟩ := and2 h1
      obtain ⟨h1, h2⟩ := and2 h1
      cases oe with
      | cons _ _ => cases h1
      | nil =>
        cases fb with
        | cons _ _ => cases h2
        | nil =>
          cases H with
          | nil => cases h5
          | cons h0 H =>
            obtain ⟨hds, e1, hm⟩ := (sndS isE T hs).h Γ X Z0 _ ok h7
            have q := r_try (T := T) (pos := p) ok.stk ok.frm ok.nd tk (ok.x0 h3) ok.sub (fun W' pn xe tk' hp => (sndS isE T b).b Γ (X.tr pn xe) Z0 W' _ (ok.tr (by simpa using h4) hp) tk' h6) hm
            have ed : (denS T (.try_ b hs)).s = fun η μ => match (denS T b).s η μ with
              | .exc c fs η' w => hdsDen T hds c fs η' w
              | r => r := by
              show (fun η μ => match (denS T b).s η μ with
                | .exc c fs η' w => (denS T hs).h c fs η' w
                | r => r) = _
              rw [e1]
            rw [ed]
            exact q
    | _ => cases h
  | .hdl c i b rest =>
    { s := fun Γ X Z0 W st ok tk h => by cases st <;> cases h
      b := fun Γ X Z0 W sts ok tk h => by cases h
      h := fun Γ X Z0 hs ok h => by
        cases hs with
        | nil => cases h
        | cons h0 r =>
          obtain ⟨t, nm, suite, pos⟩ := h0
          obtain ⟨h1, h4⟩ := and2 (show (ckHd Γ isE c i t nm && !suite.isEmpty && ckSs isE { Γ with calm := false, xc := i.isSome } b suite && ckH isE Γ rest r) = true from h)
          obtain ⟨h1, h3⟩ := and2 h1
          obtain ⟨h1, h2⟩ := and2 h1
          obtain ⟨hds, e1, hm⟩ := (sndS isE T rest).h Γ X Z0 _ ok h4
          have hd0 := h1
          cases suite with
          | nil => cases h2
          | cons b0 suite =>
            cases t with
            | none => cases hd0
            | some t =>
              cases t with
              | Name x q =>
                obtain ⟨k1, k5⟩ := and2 (show (decide (x = c) && isGl Γ.sc x && okN x && isE c && (match (generalizing := false) i, nm with
                  | none, none => true
                  | some k, some n => decide (Γ.N[k]? = some n) && isLocal Γ.sc n
                  | _, _ => false)) = true from hd0)
                obtain ⟨k1, k4⟩ := and2 k1
                obtain ⟨k1, k3⟩ := and2 k1
                obtain ⟨k1, k2⟩ := and2 k1
                have ec := of_decide_eq_true k1
                subst ec
                refine ⟨⟨x, i, (denS T b).s⟩ :: hds, ?_, .cons ⟨ok.gl' k2, (okN_1 k3).1, ?_⟩ ?_ (fun a oe cls d pn hz hf => (sndS isE T b).b _ _ _ WF _ (ok.suite i.isSome hz hf) takesWF h3) hm⟩
                · funext c' fs η μ
                  show (match T.sub c' x with
                    | some true => leaveS i ((denS T b).s (enterE i c' fs η) μ)
                    | some false => (denS T rest).h c' fs η μ
                    | none => .stuck) = _
                  rw [e1]
                  rfl
                · unfold cvOf
                  rcases ok.cls x k4 with z | ⟨z1, z2, z3⟩
                  · cases hx : X.mg x with
                    | none => rw [hx] at z; cases z
                    | some v => exact .inl rfl
                  · rw [z1]
                    cases hx : bootBuiltins x with
                    | none => rw [hx] at z2; cases z2
                    | some v => exact .inr ⟨rfl, rfl, z3⟩
                · cases i with
                  | none => cases nm with
                    | none => trivial
                    | some n => cases k5
                  | some k => cases nm with
                    | none => cases k5
                    | some n =>
                      obtain ⟨m1, m2⟩ := and2 (show (decide (Γ.N[k]? = some n) && isLocal Γ.sc n) = true from k5)
                      refine ⟨by rw [ok.N]; exact of_decide_eq_true m1, ?_⟩
                      show X.env.scope.names.lookup n = some .local
                      rw [ok.sc]
                      exact isLocal_of m2
              | _ => cases hd0 }
  | .brk => sndS_of (fun Γ sts h => by cases h) (fun Γ hs h => by cases h) fun Γ X Z0 W st ok tk h => by
    cases st with
    | Break p => exact r_brk
    | _ => cases h
  | .cnt => sndS_of (fun Γ sts h => by cases h) (fun Γ hs h => by cases h) fun Γ X Z0 W st ok tk h => by
    cases st with
    | Continue p => exact r_cnt
    | _ => cases h
  | .frz i => sndS_of (fun Γ sts h => by cases h) (fun Γ hs h => by cases h) fun Γ X Z0 W st ok tk h => by cases st <;> cases h
  | .nil =>
    { s := fun Γ X Z0 W st ok tk h => by cases st <;> cases h
      b := fun Γ X Z0 W sts ok tk h => by
        cases sts with
        | nil => exact r_nil
        | cons _ _ => cases h
      h := fun Γ X Z0 hs ok h => by
        cases hs with
        | nil => exact ⟨[], rfl, .nil⟩
        | cons _ _ => cases h }
  | .cons a b =>
    { s := fun Γ X Z0 W st ok tk h => by cases st <;> cases h
      b := fun Γ X Z0 W sts ok tk h => by
        have sa := sndS isE T a
        have sb := sndS isE T b
        have h' : (bif (isFrz a).isSome then ckSs isE Γ b sts else (match (generalizing := false) sts with
          | [] => false
          | st :: r => ckS isE Γ a st && ckSs isE Γ b r)) = true := h
        cases hf : isFrz a with
        | some i =>
          rw [hf] at h'
          have ea := isFrz_some hf
          subst ea
          exact r_frz (sb.b Γ X Z0 W sts ok tk h')
        | none =>
          rw [hf] at h'
          cases sts with
          | nil => cases h'
          | cons st r =>
            obtain ⟨h1, h2⟩ := and2 (show (ckS isE Γ a st && ckSs isE Γ b r) = true from h')
            exact r_cons (sa.s Γ X Z0 W st ok tk h1) (sb.b Γ X Z0 W r ok tk h2)
      h := fun Γ X Z0 hs ok h => by cases h }
end Dn

/-! Dn 18: a def by its core text. -/
namespace Dn
open PySem PySem.Spec PyProof.Rows L2

/-- what the program's own names are -/
structure ModOk (isE : Str → Bool) (T : Tb) (Γ : Cg) (P : Program) (w : World) (K : PySem.W.Frag) (mg : Str → Option Value) (base : Heap) (k : Nat) : Prop where
  fnok : ∀ f, Γ.isF f = true → ∃ n a, mg f = some (.ref a) ∧ PySem.W.keepIn K (.ref a) = true ∧ FnG P w K mg base k a n (spOf K mg n (T.fn f)) ∧ ∀ ds μ, ds.length ≠ n → T.fn f ds μ = .stuck
  cn : ∀ x, Γ.isC x = true → ∃ u v d, T.cn x = some d ∧ mg x = some u ∧ RelV v u ∧ ∀ Z, Rel K mg Z d v
  blt : ∀ x, bltNames.contains x = true → mg x = none
  gcd : Γ.gcd = true → mg "gcd" = some (.builtin "math.gcd")
  mkx : ∀ c, Γ.isM c = true → ∃ ns C, T.xf c = some ns ∧ ns.length ≤ 900 ∧ XcOk P w K mg base c ns C
  mk0 : ∀ c, Γ.isM0 c = true → ∃ C bmB B newId initId, ExcBaseFacts B newId initId bmB ∧ PySem.W.excIn K C bmB newId = true ∧ mg c = some (.ref C) ∧ PySem.W.keepIn K (.ref C) = true
  isx : ∀ c, Γ.isI c = true → ∃ cv cV, ((mg c = some cv ∧ RelV cV cv) ∨ (mg c = none ∧ bootBuiltins c = some cv ∧ RelV cV cv ∧ c ≠ "__name__")) ∧ (∀ u, RelV cV u → u = cv) ∧ ∀ c1 b C, T.isa c1 c = some b → mg c1 = some (.ref C) → XiC K C ∧ PySem.W.kitOne K (.ref C) cv = some b
  xf : ∀ c ns f C, T.xf c = some ns → ns.contains f = true → mg c = some (.ref C) → XfC K C ∧ PySem.W.findIn K (.ref C) f = some none
  rai : ∀ c ns, Γ.isX c = some ns → T.xf c = some ns ∧ ns.length ≤ 900 ∧ ∃ C, XcOk P w K mg base c ns C
  cls : ∀ c, isE c = true → (mg c).isSome = true ∨ (mg c = none ∧ (bootBuiltins c).isSome = true ∧ c ≠ "__name__")
  sub : ∀ c1 c2 b C1, T.sub c1 c2 = some b → mg c1 = some (.ref C1) → PySem.W.exmOne K (.ref C1) (cvOf mg c2) = some b
theorem fnDen_arity {n slots : Nat} {b : SM} : ∀ ds μ, ds.length ≠ n → fnDen n slots b ds μ = .stuck := fun ds μ h => by
  unfold fnDen
  rw [if_neg h]
theorem fn_dn {isE : Str → Bool} {T : Tb} {Γ : Cg} {P : Program} {w : World} {K : PySem.W.Frag} {mg : Str → Option Value} {base : Heap} {x qual : Str} {st : Stmt} {f : Addr} {fd : FuncData} {ps : List Str} {k : Nat} (F : Fun K x qual st f fd) (S : FnScope Γ.N ps (defScope st)) (hb : Binds K fd ps [])
    (hsc : Γ.sc = defScope st) (hx : Γ.xc = false) (hk : 2 ≤ k) (M : ModOk isE T Γ P w K mg base k) (sm : Sm) (hck : ckSs isE Γ sm (defBody st) = true) :
    FnG P w K mg base (k + 1) f ps.length (spOf K mg ps.length (fnDen ps.length Γ.N.length (denS T sm).s)) := by
  refine fn_den F S hb fun cdv A outer s H E Z0 hx0 hr hgd => ?_
  refine (sndS isE T sm).b Γ (cxOf (L2.CX P w) P w K mg base Γ.N qual (defScope st) f cdv A outer s H E) Z0 _ _ ?_ (takes_of rfl rfl rfl rfl) hck
  exact {
    N := rfl, nd := S.nd, sc := hsc.symm, calm := fun _ => rfl
    hu := by have := hr.un; show (A.deeper _).units + 64 < cLine; omega
    hgd := guards_deeper hgd
    gl := fun f h => let ⟨n, a, e, _⟩ := M.fnok f h; ⟨a, e⟩
    fnok := fun _ f h => let ⟨n, a, e1, e2, e3, e4⟩ := M.fnok f h; ⟨k, n, a, hr, e1, e2, e3, e4⟩
    cn := M.cn, blt := M.blt, gcd := M.gcd, x0 := fun _ => hx0, mkx := fun _ c h => let ⟨ns, C, e1, e2, O⟩ := M.mkx c h; ⟨ns, C, e1, e2, O, hr.mono hk⟩, mk0 := M.mk0, isx := M.isx
    xr := fun h => (by rw [hx] at h; cases h), xf := M.xf
    kind := S.kind, fnT := fun _ => rfl, pas := passes_of rfl, stk := rfl, frm := rfl, rm := fun _ => hr.mono hk, rai := M.rai, cls := M.cls, sub := M.sub }
end Dn

/-! Dn 19: from the top's facts. -/
namespace Dn
open PySem PySem.Spec PyProof.Rows L2

/-! ### functions, one after the other -/
def addF (F : Str → List D → M D) (x : Str) (d : List D → M D) : Str → List D → M D := fun f => if f = x then d else F f
theorem addF_same {F : Str → List D → M D} {x : Str} {d : List D → M D} : addF F x d x = d := if_pos rfl
theorem addF_ne {F : Str → List D → M D} {x f : Str} {d : List D → M D} (h : f ≠ x) : addF F x d f = F f := if_neg h
def Tb.withF (B : Tb) (F : Str → List D → M D) : Tb := { B with fn := F }
structure FnsOk (P : Program) (w : World) (K : PySem.W.Frag) (mg : Str → Option Value) (base : Heap) (k : Nat) (F : Str → List D → M D) (L : List Str) : Prop where
  ok : ∀ f, L.contains f = true → ∃ n a, mg f = some (.ref a) ∧ PySem.W.keepIn K (.ref a) = true ∧ FnG P w K mg base k a n (spOf K mg n (F f)) ∧ ∀ ds μ, ds.length ≠ n → F f ds μ = .stuck
theorem FnsOk.nil {P : Program} {w : World} {K : PySem.W.Frag} {mg : Str → Option Value} {base : Heap} {k : Nat} {F : Str → List D → M D} : FnsOk P w K mg base k F [] := ⟨fun f h => by cases h⟩
/-- the facts but for functions -/
structure ModB (isE : Str → Bool) (B : Tb) (Γ : Cg) (P : Program) (w : World) (K : PySem.W.Frag) (mg : Str → Option Value) (base : Heap) : Prop where
  cn : ∀ x, Γ.isC x = true → ∃ u v d, B.cn x = some d ∧ mg x = some u ∧ RelV v u ∧ ∀ Z, Rel K mg Z d v
  blt : ∀ x, bltNames.contains x = true → mg x = none
  gcd : Γ.gcd = true → mg "gcd" = some (.builtin "math.gcd")
  mkx : ∀ c, Γ.isM c = true → ∃ ns C, B.xf c = some ns ∧ ns.length ≤ 900 ∧ XcOk P w K mg base c ns C
  mk0 : ∀ c, Γ.isM0 c = true → ∃ C bmB B newId initId, ExcBaseFacts B newId initId bmB ∧ PySem.W.excIn K C bmB newId = true ∧ mg c = some (.ref C) ∧ PySem.W.keepIn K (.ref C) = true
  isx : ∀ c, Γ.isI c = true → ∃ cv cV, ((mg c = some cv ∧ RelV cV cv) ∨ (mg c = none ∧ bootBuiltins c = some cv ∧ RelV cV cv ∧ c ≠ "__name__")) ∧ (∀ u, RelV cV u → u = cv) ∧ ∀ c1 b C, B.isa c1 c = some b → mg c1 = some (.ref C) → XiC K C ∧ PySem.W.kitOne K (.ref C) cv = some b
  xf : ∀ c ns f C, B.xf c = some ns → ns.contains f = true → mg c = some (.ref C) → XfC K C ∧ PySem.W.findIn K (.ref C) f = some none
  rai : ∀ c ns, Γ.isX c = some ns → B.xf c = some ns ∧ ns.length ≤ 900 ∧ ∃ C, XcOk P w K mg base c ns C
  cls : ∀ c, isE c = true → (mg c).isSome = true ∨ (mg c = none ∧ (bootBuiltins c).isSome = true ∧ c ≠ "__name__")
  sub : ∀ c1 c2 b C1, B.sub c1 c2 = some b → mg c1 = some (.ref C1) → PySem.W.exmOne K (.ref C1) (cvOf mg c2) = some b
section
variable {isE : Str → Bool} {B : Tb} {Γc : Cg} {P : Program} {w : World} {K : PySem.W.Frag} {mg : Str → Option Value} {base : Heap} {F : Str → List D → M D} {L : List Str} {k : Nat}
/-- this def's look -/
def Cg.at_ (Γc : Cg) (N : List Str) (sc : Scope) (L : List Str) : Cg := { Γc with N := N, sc := sc, isF := fun f => L.contains f, calm := true, xc := false }
theorem FnsOk.mono {j : Nat} (A : FnsOk P w K mg base j F L) (h : j ≤ k) : FnsOk P w K mg base k F L := ⟨fun f hf => let ⟨n, a, e1, e2, e3, e4⟩ := A.ok f hf; ⟨n, a, e1, e2, e3.mono h, e4⟩⟩
theorem FnsOk.add {f : Addr} {x : Str} {n : Nat} {d : List D → M D} (A : FnsOk P w K mg base k F L) (hm : mg x = some (.ref f)) (hk : PySem.W.keepIn K (.ref f) = true) (G : FnG P w K mg base k f n (spOf K mg n d)) (ha : ∀ ds μ, ds.length ≠ n → d ds μ = .stuck) :
    FnsOk P w K mg base k (addF F x d) (x :: L) := by
  refine ⟨fun g hg => ?_⟩
  by_cases e : g = x
  · subst e
    rw [addF_same]
    exact ⟨n, f, hm, hk, G, ha⟩
  · rw [addF_ne e]
    refine A.ok g ?_
    rw [List.contains_cons] at hg
    rcases Bool.or_eq_true _ _ ▸ hg with z | z
    · exact (e (by simpa using z)).elim
    · exact z
theorem fn_step {x qual : Str} {st : Stmt} {f : Addr} {fd : FuncData} {N ps : List Str} (M0 : ModB isE B Γc P w K mg base) (A : FnsOk P w K mg base k F L) (hk : 2 ≤ k) (Fx : Fun K x qual st f fd) (S : FnScope N ps (defScope st)) (hb : Binds K fd ps [])
    (hm : mg x = some (.ref f)) (sm : Sm) (hck : ckSs isE (Γc.at_ N (defScope st) L) sm (defBody st) = true) :
    FnsOk P w K mg base (k + 1) (addF F x (fnDen ps.length N.length (denS (B.withF F) sm).s)) (x :: L) := by
  have M1 : ModOk isE (B.withF F) (Γc.at_ N (defScope st) L) P w K mg base k :=
    { fnok := A.ok, cn := M0.cn, blt := M0.blt, gcd := M0.gcd, mkx := M0.mkx, mk0 := M0.mk0, isx := M0.isx, xf := M0.xf, rai := M0.rai, cls := M0.cls, sub := M0.sub }
  have G := fn_dn (Γ := Γc.at_ N (defScope st) L) Fx S hb rfl rfl hk M1 sm hck
  exact (A.mono (Nat.le_succ k)).add hm Fx.kp G fnDen_arity
end
/-! ### an own error class with an __init__ -/
def clsB (K : PySem.W.Frag) (C : Addr) (ns : List Str) : Bool :=
  (match K.lookup C with
    | some ⟨.type "type", _, .cls cd, sl⟩ => (match cd.mro, sl.toList with
      | .ref C' :: bm, [_, _, _, _, some (.builtin n), _] => C' == C && n == "ValueError.__new__" && !cd.hasDel && cd.hasDict && PySem.HandSPX.refsVE bm
      | _, _ => false)
    | _ => false) &&
  decide (PySem.W.findIn K (.ref C) "__setattr__" = some (some (.builtin "object.__setattr__"))) &&
  decide (PySem.W.findIn K (.ref C) "__getattribute__" = some (some (.builtin "BaseException.__getattribute__"))) &&
  decide (PySem.W.findIn K (.ref C) "__getattr__" = some none) &&
  ns.all (fun f => decide (PySem.W.findIn K (.ref C) f = some none)) &&
  PySem.W.keepIn K (.ref C) && decide (PySem.W.subIn K (.ref C) (.type "BaseException") = some true) && decide (PySem.W.typeIn K (.ref C) = some (.type "type")) && PySem.W.hasDictIn K C
theorem clsB_oex {K : PySem.W.Frag} {C : Addr} {ns : List Str} (h : clsB K C ns = true) : OexC K C ∧ XfC K C ∧ ∀ f, ns.contains f = true → PySem.W.findIn K (.ref C) f = some none := by
  obtain ⟨h, h9⟩ := and2 h
  obtain ⟨h, h8⟩ := and2 h
  obtain ⟨h, h7⟩ := and2 h
  obtain ⟨h, h6⟩ := and2 h
  obtain ⟨h, h5⟩ := and2 h
  obtain ⟨h, h4⟩ := and2 h
  obtain ⟨h, h3⟩ := and2 h
  obtain ⟨h1, h2⟩ := and2 h
  refine ⟨⟨?_, of_decide_eq_true h2, of_decide_eq_true h7, of_decide_eq_true h8, h6⟩, ⟨of_decide_eq_true h3, of_decide_eq_true h4, of_decide_eq_true h7, h9⟩, fun f hf => ?_⟩
  · split at h1
    · rename_i dd cd sl ho
      split at h1
      · rename_i C' bm k0 k1 k2 k3 n k5 hm hs
        simp only [Bool.and_eq_true, beq_iff_eq, Bool.not_eq_true'] at h1
        obtain ⟨⟨⟨⟨rfl, rfl⟩, hdel⟩, hdct⟩, hr⟩ := h1
        obtain ⟨nm, bs, mro, ns, qn, hd, sn, sub, ab, col, del⟩ := cd
        dsimp only at hm hdel hdct
        subst hm hdel hdct
        have hsl : sl = #[k0, k1, k2, k3, some (.builtin "ValueError.__new__"), k5] := by
          obtain ⟨l⟩ := sl
          simp only at hs
          rw [hs]
        subst hsl
        exact ⟨nm, qn, ns, bs, bm, sn, sub, ab, col, dd, k0, k1, k2, k3, k5, ho, hr⟩
      · cases h1
    · cases h1
  · have := List.all_eq_true.mp h5 f (by simpa using hf)
    exact of_decide_eq_true this
def initB : List Str → List Stmt → Bool
  | [f1], [.Assign [.Attribute (.Name s _) a _] (.Name v _) _] => decide (s = "self") && decide (a = f1) && decide (v = f1)
  | [f1, f2], [.Assign [.Attribute (.Name s _) a _] (.Name v _) _, .Assign [.Attribute (.Name s2 _) a2 _] (.Name v2 _) _] => decide (s = "self") && decide (a = f1) && decide (v = f1) && decide (s2 = "self") && decide (a2 = f2) && decide (v2 = f2)
  | _, _ => false

theorem two_inv {f1 : Str} {b : List Stmt} (h : initB [f1] b = true) : ∃ p1 p2 p3 p4, b = [.Assign [.Attribute (.Name "self" p1) f1 p2] (.Name f1 p3) p4] := by
  unfold initB at h
  split at h
  · rename_i e2
    cases e2
    obtain ⟨h, h3⟩ := and2 h
    obtain ⟨h1, h2⟩ := and2 h
    rw [of_decide_eq_true h1, of_decide_eq_true h2, of_decide_eq_true h3]
    exact ⟨_, _, _, _, rfl⟩
  · rename_i e2
    cases e2
  · cases h
theorem three_inv {f1 f2 : Str} {b : List Stmt} (h : initB [f1, f2] b = true) : ∃ p1 p2 p3 p4 q1 q2 q3 q4, b = [.Assign [.Attribute (.Name "self" p1) f1 p2] (.Name f1 p3) p4, .Assign [.Attribute (.Name "self" q1) f2 q2] (.Name f2 q3) q4] := by
  unfold initB at h
  split at h
  · rename_i e2
    cases e2
  · rename_i e2
    cases e2
    obtain ⟨h, h6⟩ := and2 h
    obtain ⟨h, h5⟩ := and2 h
    obtain ⟨h, h4⟩ := and2 h
    obtain ⟨h, h3⟩ := and2 h
    obtain ⟨h1, h2⟩ := and2 h
    rw [of_decide_eq_true h1, of_decide_eq_true h2, of_decide_eq_true h3, of_decide_eq_true h4, of_decide_eq_true h5, of_decide_eq_true h6]
    exact ⟨_, _, _, _, _, _, _, _, rfl⟩
  · cases h
theorem upd_over2 {H : Hp} {a d : Addr} {o1 o2 o3 : HO} (hne : d ≠ a) : upd (upd (upd H d o1) a o2) d o3 = upd (upd H d o3) a o2 := by
  funext b
  by_cases h : b = d
  · subst h; rw [upd_same, upd_ne hne, upd_same]
  · rw [upd_ne h]
    by_cases h2 : b = a
    · subst h2; rw [upd_same, upd_same]
    · rw [upd_ne h2, upd_ne h2, upd_ne h, upd_ne h]
section
variable {P : Program} {w : World} {K : PySem.W.Frag} {mg : Str → Option Value} {base : Heap}
theorem visP {N ps : List Str} {sc : Scope} {x : Str} (S : FnScope N ps sc) (h : x ∈ ps) : Vis sc x := by
  rcases S.par x h with z | z
  · exact .inl z
  · exact .inr (.inl z)
theorem init_ok1 {f1 qual : Str} {C : Addr} {st : Stmt} {f : Addr} {fd : FuncData} (T : OexC K C) (hno : PySem.W.findIn K (.ref C) f1 = some none) (F : Fun K "__init__" qual st f fd) (S : FnScope ["self", f1] ["self", f1] (defScope st)) (hb : initB [f1] (defBody st) = true) (hN : okN f1 = true) :
    FnOk P w K mg base (L2.CX P w) 1 f fd ["self", f1] (spInit C [f1]) := by
  refine F.okX S (fun vs H Q E ⟨a, ws, e, hl, _⟩ => by subst e; rw [List.length_cons, hl]; rfl) fun cdv A outer s H vs Q E hr ⟨a, ws, e, hl, ha, q⟩ => ?_
  obtain ⟨p1, p2, p3, p4, eb⟩ := two_inv hb
  rw [eb]
  obtain ⟨d1, d2⟩ := okN_1 hN
  match ws, hl with
  | [w1], _ =>
    subst e
    refine ⟨_, pss_one (ps_ost (pe_var (i := 0) (x := "self") rfl (visP S (by simp))) (pe_var (i := 1) rfl (visP S (by simp)) d1 d2) rfl), ?_⟩
    refine ⟨w1, rfl, .ref a, rfl, a, C, rfl, T, hno, .inl ⟨ha, fun dx n ne => ?_⟩⟩
    exact q dx n ne
theorem init_ok2 {f1 f2 qual : Str} {C : Addr} {st : Stmt} {f : Addr} {fd : FuncData} (T : OexC K C) (hno : PySem.W.findIn K (.ref C) f1 = some none) (hno2 : PySem.W.findIn K (.ref C) f2 = some none) (F : Fun K "__init__" qual st f fd) (S : FnScope ["self", f1, f2] ["self", f1, f2] (defScope st)) (hb : initB [f1, f2] (defBody st) = true) (hN : okN f1 = true) (hN2 : okN f2 = true) :
    FnOk P w K mg base (L2.CX P w) 1 f fd ["self", f1, f2] (spInit C [f1, f2]) := by
  refine F.okX S (fun vs H Q E ⟨a, ws, e, hl, _⟩ => by subst e; rw [List.length_cons, hl]; rfl) fun cdv A outer s H vs Q E hr ⟨a, ws, e, hl, ha, q⟩ => ?_
  obtain ⟨p1, p2, p3, p4, q1, q2, q3, q4, eb⟩ := three_inv hb
  rw [eb]
  obtain ⟨d1, d2⟩ := okN_1 hN
  obtain ⟨d3, d4⟩ := okN_1 hN2
  match ws, hl with
  | [w1, w2], _ =>
    subst e
    refine ⟨_, pss_cons (ps_ost (pe_var (i := 0) (x := "self") rfl (visP S (by simp))) (pe_var (i := 1) rfl (visP S (by simp)) d1 d2) rfl)
      (pss_one (ps_ost (pe_var (i := 0) (x := "self") rfl (visP S (by simp))) (pe_var (i := 2) rfl (visP S (by simp)) d3 d4) rfl)), ?_⟩
    refine ⟨w1, rfl, .ref a, rfl, a, C, rfl, T, hno, .inl ⟨ha, fun dx n ne => ?_⟩⟩
    refine ⟨w2, rfl, .ref a, rfl, a, C, rfl, T, hno2, .inr ⟨dx, [(f1, w1)], upd_same, ?_, by simp, ?_⟩⟩
    · rw [upd_ne ne, upd_same]
    · rw [upd_over2 ne]
      exact q dx n ne
theorem xc_mk1 {h : Heap} {c f1 qual : Str} {C : Addr} {st : Stmt} {f : Addr} {oc kV doc pm cdv ct : Value} {od an : Option Addr} {osl : Array (Option Value)} (X : K.In h) (G : h.Ns mainGlobals mg) (a : PySem.W.nsIn K mainGlobals c = some (some (.ref C))) (cb : clsB K C [f1] = true)
    (i : PySem.W.findIn K (.ref C) "__init__" = some (some (.ref f))) (t : PySem.W.typeIn K (.ref f) = some (.type "function")) (l : K.lookup f = some ⟨oc, od, .func (PySem.W.fnOf "__init__" qual (defArgs st) (defBody st) (defScope st) .none kV doc pm an cdv ct), osl⟩)
    (cc : PySem.W.codeIn K cdv qual = true) (kp : PySem.W.keepIn K (.ref f) = true) (S : FnScope ["self", f1] ["self", f1] (defScope st)) (hb : initB [f1] (defBody st) = true) (hN : okN f1 = true)
    (bd : ∀ (kV doc pm : Value) (an : Option Addr) (cdv ct : Value) (us : List Value), us.length = 2 → bindArgs (PySem.W.fnOf "__init__" qual (defArgs st) (defBody st) (defScope st) .none kV doc pm an cdv ct) ⟨us, []⟩ = pure ([("self" : Str), f1].zip us)) : XcOk P w K mg base c [f1] C := by
  obtain ⟨h1, h2, h3⟩ := clsB_oex cb
  have F := fun_mk l cc kp
  exact ⟨h1, PySem.W.mg_of X G a, f, _, 1, i, t, init_ok1 h1 (h3 f1 (by simp)) F S hb hN, F.binds (ps := [("self" : Str), f1]) bd, Nat.le_refl 1⟩
theorem xc_mk2 {h : Heap} {c f1 f2 qual : Str} {C : Addr} {st : Stmt} {f : Addr} {oc kV doc pm cdv ct : Value} {od an : Option Addr} {osl : Array (Option Value)} (X : K.In h) (G : h.Ns mainGlobals mg) (a : PySem.W.nsIn K mainGlobals c = some (some (.ref C))) (cb : clsB K C [f1, f2] = true)
    (i : PySem.W.findIn K (.ref C) "__init__" = some (some (.ref f))) (t : PySem.W.typeIn K (.ref f) = some (.type "function")) (l : K.lookup f = some ⟨oc, od, .func (PySem.W.fnOf "__init__" qual (defArgs st) (defBody st) (defScope st) .none kV doc pm an cdv ct), osl⟩)
    (cc : PySem.W.codeIn K cdv qual = true) (kp : PySem.W.keepIn K (.ref f) = true) (S : FnScope ["self", f1, f2] ["self", f1, f2] (defScope st)) (hb : initB [f1, f2] (defBody st) = true) (hN : okN f1 = true) (hN2 : okN f2 = true)
    (bd : ∀ (kV doc pm : Value) (an : Option Addr) (cdv ct : Value) (us : List Value), us.length = 3 → bindArgs (PySem.W.fnOf "__init__" qual (defArgs st) (defBody st) (defScope st) .none kV doc pm an cdv ct) ⟨us, []⟩ = pure ([("self" : Str), f1, f2].zip us)) : XcOk P w K mg base c [f1, f2] C := by
  obtain ⟨h1, h2, h3⟩ := clsB_oex cb
  have F := fun_mk l cc kp
  exact ⟨h1, PySem.W.mg_of X G a, f, _, 1, i, t, init_ok2 h1 (h3 f1 (by simp)) (h3 f2 (by simp)) F S hb hN hN2, F.binds (ps := [("self" : Str), f1, f2]) bd, Nat.le_refl 1⟩
end
/-- isinstance's facts of a class -/
def isB (K : PySem.W.Frag) (C : Addr) : Bool :=
  (PySem.W.clsIn K C).isSome && decide (PySem.W.findIn K (.ref C) "__getattribute__" = some (some (.builtin "BaseException.__getattribute__"))) && decide (PySem.W.findIn K (.ref C) "__getattr__" = some none) && decide (PySem.W.subIn K (.ref C) (.type "BaseException") = some true) &&
  decide (PySem.W.findIn K (.ref C) "__class__" = some (some (.builtin "object.__class__"))) && decide (PySem.W.specialIn K (.builtin "object.__class__") "__get__" = some (some (.builtin "getset_descriptor.__get__"))) && decide (PySem.W.takesIn K (.builtin "object.__class__") = some true) && decide (PySem.W.mroIn K C (.type "object") = some true)
theorem isB_ok {K : PySem.W.Frag} {C : Addr} (h : isB K C = true) : XiC K C := by
  obtain ⟨h, h8⟩ := and2 h
  obtain ⟨h, h7⟩ := and2 h
  obtain ⟨h, h6⟩ := and2 h
  obtain ⟨h, h5⟩ := and2 h
  obtain ⟨h, h4⟩ := and2 h
  obtain ⟨h, h3⟩ := and2 h
  obtain ⟨h1, h2⟩ := and2 h
  exact ⟨h1, of_decide_eq_true h2, of_decide_eq_true h3, of_decide_eq_true h4, of_decide_eq_true h5, of_decide_eq_true h6, of_decide_eq_true h7, of_decide_eq_true h8⟩
end Dn

/-! Dn 20: a law's tables, and the one look at what the top has written. -/
namespace Dn
open PySem PySem.Spec PyProof.Rows L2

structure Tabs where
  /-- own error classes with an __init__: their fields -/
  xfs : List (Str × List Str) := []
  /-- an error's class: the asked classes that it is of -/
  isaT : List (Str × List Str) := []
  isIs : List Str := []
  isEs : List Str := []
  subT : List (Str × List Str) := []
  /-- constants that are ints -/
  cns : List (Str × Int) := []
  mades : List Str := []
  mk0s : List Str := []
  raiseds : List Str := []
  gcd : Bool := false
def Tabs.B (t : Tabs) : Tb where
  fn := fun _ _ => M.fail
  cn := fun x => (t.cns.lookup x).map .int
  xf := fun c => t.xfs.lookup c
  sub := fun a b => if t.isEs.contains b = true then (t.subT.lookup a).map (fun l => l.contains b) else none
  isa := fun a b => if t.isIs.contains b = true then (t.isaT.lookup a).map (fun l => l.contains b) else none
def Tabs.cg (t : Tabs) : Cg where
  N := []
  sc := { kind := .function, names := [], isGenerator := false, isCoroutine := false }
  calm := true
  isF := fun _ => false
  isC := fun x => (t.cns.lookup x).isSome
  isX := fun c => if t.raiseds.contains c = true then t.xfs.lookup c else none
  gcd := t.gcd
  xc := false
  isM := fun c => t.mades.contains c
  isM0 := fun c => t.mk0s.contains c
  isI := fun c => t.isIs.contains c
abbrev Tabs.isE (t : Tabs) : Str → Bool := fun c => t.isEs.contains c
/-- the class's name stands for an object, or for a built-in type -/
def nameB (K : PySem.W.Frag) (c : Str) : Bool := match PySem.W.nsIn K mainGlobals c with
  | some (some (.ref _)) => true
  | some none => (match bootBuiltins c with
    | some (.type _) => decide (c ≠ "__name__")
    | _ => false)
  | _ => false
def cvK (K : PySem.W.Frag) (c : Str) : Value := match PySem.W.nsIn K mainGlobals c with
  | some (some v) => v
  | _ => (bootBuiltins c).getD .none
def gloB (K : PySem.W.Frag) (c : Str) : Bool := decide (PySem.W.nsIn K mainGlobals c = some (some (.ref (He.ga K c))))
def Tabs.look (t : Tabs) (K : PySem.W.Frag) : Bool :=
  (bltNames.all fun x => decide (PySem.W.nsIn K mainGlobals x = some none)) &&
  (t.cns.all fun p => match PySem.W.nsIn K mainGlobals p.1 with
    | some (some (.int j _)) => decide (j = p.2)
    | _ => false) &&
  (t.xfs.all fun p => gloB K p.1 && clsB K (He.ga K p.1) p.2 && decide (p.2.length ≤ 900)) &&
  (t.mk0s.all fun c => gloB K c && PySem.W.excIn K (He.ga K c) He.veBase "ValueError.__new__" && PySem.W.keepIn K (.ref (He.ga K c))) &&
  (t.isIs.all fun c => nameB K c) && (t.isEs.all fun c => nameB K c) &&
  (t.isaT.all fun p => gloB K p.1 && isB K (He.ga K p.1) && t.isIs.all fun c => match t.B.isa p.1 c with
    | some b => decide (PySem.W.kitOne K (.ref (He.ga K p.1)) (cvK K c) = some b)
    | none => true) &&
  (t.subT.all fun p => gloB K p.1 && t.isEs.all fun c => match t.B.sub p.1 c with
    | some b => decide (PySem.W.exmOne K (.ref (He.ga K p.1)) (cvK K c) = some b)
    | none => true) &&
  (!t.gcd || decide (PySem.W.nsIn K mainGlobals "gcd" = some (some (.builtin "math.gcd"))))
theorem lookup_mem {α β : Type} [BEq α] [LawfulBEq α] {l : List (α × β)} {a : α} {b : β} (h : l.lookup a = some b) : (a, b) ∈ l := by
  induction l with
  | nil => cases h
  | cons p r ih =>
    obtain ⟨x, y⟩ := p
    rw [List.lookup_cons] at h
    cases e : a == x with
    | true =>
      rw [e] at h
      cases h
      rw [eq_of_beq e]
      exact List.mem_cons_self
    | false =>
      rw [e] at h
      exact List.mem_cons_of_mem _ (ih h)
section
variable {t : Tabs} {P : Program} {w : World} {K : PySem.W.Frag} {mg : Str → Option Value} {base h : Heap}
theorem glo_mg (X : K.In h) (G : h.Ns mainGlobals mg) {c : Str} (e : gloB K c = true) : mg c = some (.ref (He.ga K c)) := PySem.W.mg_of X G (of_decide_eq_true e)
theorem name_mg (X : K.In h) (G : h.Ns mainGlobals mg) {c : Str} (e : nameB K c = true) : cvOf mg c = cvK K c ∧ (((∃ a, mg c = some (.ref a)) ∧ ∃ a, cvK K c = .ref a ∧ mg c = some (.ref a)) ∨ (mg c = none ∧ ∃ n, bootBuiltins c = some (.type n) ∧ cvK K c = .type n ∧ c ≠ "__name__")) := by
  unfold nameB at e
  unfold cvOf cvK
  split at e
  · rename_i a q
    have m := PySem.W.mg_of X G q
    rw [q, m]
    exact ⟨rfl, .inl ⟨⟨_, rfl⟩, _, rfl, rfl⟩⟩
  · rename_i q
    have m := PySem.W.mg_none_of X G q
    rw [q, m]
    split at e
    · rename_i n hb
      rw [hb]
      exact ⟨rfl, .inr ⟨rfl, n, rfl, rfl, of_decide_eq_true e⟩⟩
    · cases e
  · cases e
theorem modB_of (X : K.In h) (G : h.Ns mainGlobals mg) (hl : t.look K = true) (hx : ∀ c ns, t.xfs.lookup c = some ns → (t.mades.contains c = true ∨ t.raiseds.contains c = true) → ∃ C, XcOk P w K mg base c ns C) (hm0 : (t.mades.all fun c => (t.xfs.lookup c).isSome) = true) :
    ModB t.isE t.B t.cg P w K mg base := by
  have hm : ∀ c, t.mades.contains c = true → (t.xfs.lookup c).isSome = true := fun c hc => List.all_eq_true.mp hm0 c (by simpa using hc)
  obtain ⟨hl, h9⟩ := and2 hl
  obtain ⟨hl, h8⟩ := and2 hl
  obtain ⟨hl, h7⟩ := and2 hl
  obtain ⟨hl, h6⟩ := and2 hl
  obtain ⟨hl, h5⟩ := and2 hl
  obtain ⟨hl, h4⟩ := and2 hl
  obtain ⟨hl, h3⟩ := and2 hl
  obtain ⟨h1, h2⟩ := and2 hl
  have xf3 : ∀ c ns, t.xfs.lookup c = some ns → gloB K c = true ∧ clsB K (He.ga K c) ns = true ∧ ns.length ≤ 900 := fun c ns e => by
    have z := List.all_eq_true.mp h3 _ (lookup_mem e)
    obtain ⟨z, z3⟩ := and2 z
    obtain ⟨z1, z2⟩ := and2 z
    exact ⟨z1, z2, of_decide_eq_true z3⟩
  refine { cn := fun x hx => ?_, blt := fun x hx => ?_, gcd := fun hg => ?_, mkx := fun c hc => ?_, mk0 := fun c hc => ?_, isx := fun c hc => ?_, xf := fun c ns f C e1 e2 e3 => ?_, rai := fun c ns e => ?_, cls := fun c hc => ?_, sub := fun c1 c2 b C1 e1 e2 => ?_ }
  · have hx' : (t.cns.lookup x).isSome = true := hx
    cases e : t.cns.lookup x with
    | none => rw [e] at hx'; cases hx'
    | some i =>
      have z := List.all_eq_true.mp h2 _ (lookup_mem e)
      simp only at z
      split at z
      · rename_i j tk q
        have ej := of_decide_eq_true z
        subst ej
        exact ⟨_, .int j, .int j, by show (t.cns.lookup x).map D.int = _; rw [e]; rfl, PySem.W.mg_of X G q, ⟨tk, rfl⟩, fun Z => .int j⟩
      · cases z
  · exact PySem.W.mg_none_of X G (of_decide_eq_true (List.all_eq_true.mp h1 x (by simpa using hx)))
  · have hg' : t.gcd = true := hg
    rw [hg'] at h9
    exact PySem.W.mg_of X G (of_decide_eq_true (by simpa using h9))
  · have hc' : t.mades.contains c = true := hc
    have z := hm c hc'
    cases e : t.xfs.lookup c with
    | none => rw [e] at z; cases z
    | some ns =>
      obtain ⟨C, O⟩ := hx c ns e (.inl hc')
      exact ⟨ns, C, e, (xf3 c ns e).2.2, O⟩
  · have hc' : t.mk0s.contains c = true := hc
    have z := List.all_eq_true.mp h4 c (by simpa using hc')
    obtain ⟨z, z3⟩ := and2 z
    obtain ⟨z1, z2⟩ := and2 z
    exact ⟨He.ga K c, He.veBase, _, _, _, F.excBase_ValueError, z2, glo_mg X G z1, z3⟩
  · have hc' : t.isIs.contains c = true := hc
    obtain ⟨q1, q2⟩ := name_mg X G (List.all_eq_true.mp h5 c (by simpa using hc'))
    have fin : ∀ c1 b C, t.B.isa c1 c = some b → mg c1 = some (.ref C) → XiC K C ∧ PySem.W.kitOne K (.ref C) (cvK K c) = some b := fun c1 b C e1 e2 => by
      have e1' : (if t.isIs.contains c = true then (t.isaT.lookup c1).map (fun l => l.contains c) else none) = some b := e1
      rw [if_pos hc'] at e1'
      cases el : t.isaT.lookup c1 with
      | none => rw [el] at e1'; cases e1'
      | some l =>
        have z := List.all_eq_true.mp h7 _ (lookup_mem el)
        obtain ⟨z, z3⟩ := and2 z
        obtain ⟨z1, z2⟩ := and2 z
        have eC := glo_mg X G z1
        rw [e2] at eC
        cases eC
        have z4 := List.all_eq_true.mp z3 c (by simpa using hc')
        simp only [e1] at z4
        exact ⟨isB_ok z2, of_decide_eq_true z4⟩
    rcases q2 with ⟨_, a, e1, e2⟩ | ⟨e0, n, e1, e2, e3⟩
    · refine ⟨cvK K c, .ref a, .inl ⟨by rw [e1]; exact e2, by rw [e1]; rfl⟩, fun u r => by rw [e1]; exact r, fin⟩
    · refine ⟨cvK K c, .ty n, .inr ⟨e0, by rw [e2]; exact e1, by rw [e2]; rfl, e3⟩, fun u r => by rw [e2]; exact r, fin⟩
  · obtain ⟨z1, z2, z3⟩ := xf3 c ns e1
    have eC := glo_mg X G z1
    rw [e3] at eC
    cases eC
    obtain ⟨k1, k2, k3⟩ := clsB_oex z2
    exact ⟨k2, k3 f e2⟩
  · have e' : (if t.raiseds.contains c = true then t.xfs.lookup c else none) = some ns := e
    by_cases hr : t.raiseds.contains c = true
    · rw [if_pos hr] at e'
      exact ⟨e', (xf3 c ns e').2.2, hx c ns e' (.inr hr)⟩
    · rw [if_neg hr] at e'; cases e'
  · have hc' : t.isEs.contains c = true := hc
    obtain ⟨q1, q2⟩ := name_mg X G (List.all_eq_true.mp h6 c (by simpa using hc'))
    rcases q2 with ⟨⟨a, e1⟩, _⟩ | ⟨e0, n, e1, e2, e3⟩
    · exact .inl (by rw [e1]; rfl)
    · exact .inr ⟨e0, by rw [e1]; rfl, e3⟩
  · have e1' : (if t.isEs.contains c2 = true then (t.subT.lookup c1).map (fun l => l.contains c2) else none) = some b := e1
    by_cases hc : t.isEs.contains c2 = true
    · rw [if_pos hc] at e1'
      obtain ⟨q1, q2⟩ := name_mg X G (List.all_eq_true.mp h6 c2 (by simpa using hc))
      cases el : t.subT.lookup c1 with
      | none => rw [el] at e1'; cases e1'
      | some l =>
        have z := List.all_eq_true.mp h8 _ (lookup_mem el)
        obtain ⟨z1, z3⟩ := and2 z
        have eC := glo_mg X G z1
        rw [e2] at eC
        cases eC
        have z4 := List.all_eq_true.mp z3 c2 (by simpa using hc)
        simp only [e1] at z4
        rw [q1]
        exact of_decide_eq_true z4
    · rw [if_neg hc] at e1'; cases e1'
/-- one def's FnG, by its look -/
theorem fn_last {k : Nat} {F : Str → List D → M D} {L : List Str} {x qual : Str} {st : Stmt} {f : Addr} {fd : FuncData} {N ps : List Str} (M0 : ModB t.isE t.B t.cg P w K mg base) (A : FnsOk P w K mg base k F L) (hk : 2 ≤ k) (Fx : Fun K x qual st f fd) (S : FnScope N ps (defScope st)) (hb : Binds K fd ps [])
    (sm : Sm) (hck : ckSs t.isE (t.cg.at_ N (defScope st) L) sm (defBody st) = true) : FnG P w K mg base (k + 1) f ps.length (spOf K mg ps.length (fnDen ps.length N.length (denS (t.B.withF F) sm).s)) := by
  have M1 : ModOk t.isE (t.B.withF F) (t.cg.at_ N (defScope st) L) P w K mg base k :=
    { fnok := A.ok, cn := M0.cn, blt := M0.blt, gcd := M0.gcd, mkx := M0.mkx, mk0 := M0.mk0, isx := M0.isx, xf := M0.xf, rai := M0.rai, cls := M0.cls, sub := M0.sub }
  exact fn_dn (Γ := t.cg.at_ N (defScope st) L) Fx S hb rfl rfl hk M1 sm hck
end
end Dn

/-! Dn 21: a while's den, by its turns. -/
namespace Dn
open PySem PySem.Spec PyProof.Rows L2
theorem whlN_more {t : Env' → M Bool} {b : SM} : ∀ (n : Nat) (η : Env') (μ : Wd), whlN t b n η μ ≠ .stuck → whlN t b (n + 1) η μ = whlN t b n η μ
  | 0, η, μ, h => (h rfl).elim
  | n + 1, η, μ, h => by
    have ih := whlN_more (t := t) (b := b) n
    have e1 : ∀ m, whlN t b (m + 1) η μ = (match t η μ with
      | .stuck => .stuck
      | .ok c μ' => (if c = true then (fun η μ => match b η μ with
        | .nx η' w => whlN t b m η' w
        | .ct η' w => whlN t b m η' w
        | .bk η' w => .nx η' w
        | r => r) else SM.skip) η μ'
      | .exc c fs μ' => .exc c fs η μ') := fun m => by
      simp only [whlN, SM.of]
      cases t η μ with
      | stuck => rfl
      | exc c fs w => rfl
      | ok c w =>
        cases c with
        | false => rfl
        | true => first
          | (simp only [if_true]; done)
          | (simp only [if_true]
             cases b η w <;> rfl)
    rw [e1 n] at h ⊢
    rw [e1 (n + 1)]
    cases et : t η μ with
    | stuck => rfl
    | exc c fs w => rfl
    | ok c w =>
      rw [et] at h
      simp only at h ⊢
      cases c with
      | false => rfl
      | true =>
        simp only [if_true] at h ⊢
        cases eb : b η w with
        | nx η' w' => rw [eb] at h; exact ih η' w' h
        | ct η' w' => rw [eb] at h; exact ih η' w' h
        | _ => rfl
theorem whlN_add {t : Env' → M Bool} {b : SM} {n : Nat} {η : Env'} {μ : Wd} (h : whlN t b n η μ ≠ .stuck) : ∀ k, whlN t b (n + k) η μ = whlN t b n η μ
  | 0 => rfl
  | k + 1 => by
    have e := whlN_add h k
    have : whlN t b (n + k + 1) η μ = whlN t b (n + k) η μ := whlN_more (n + k) η μ (by rw [e]; exact h)
    rw [← e, ← this]
    rfl
/-- what comes of it at any number of turns is what comes of it -/
theorem whl_eq {t : Env' → M Bool} {b : SM} {n : Nat} {η : Env'} {μ : Wd} {r : SRes} (h : whlN t b n η μ = r) (hr : r ≠ .stuck) : whl t b η μ = r := by
  have hx : ∃ n r, whlN t b n η μ = r ∧ r ≠ .stuck := ⟨n, r, h, hr⟩
  have hne : whl t b η μ ≠ .stuck := by
    unfold whl
    rw [dif_pos hx]
    exact (Classical.choose_spec (Classical.choose_spec hx)).2
  obtain ⟨m, em⟩ := whl_spec hne
  have h1 := whlN_add (n := n) (by rw [h]; exact hr : whlN t b n η μ ≠ .stuck) m
  have h2 := whlN_add (n := m) (by rw [em]; exact hne : whlN t b m η μ ≠ .stuck) n
  rw [← em, ← h2, Nat.add_comm m n, h1, h]
end Dn

/-! Numbers for k22: primes by trial division, Fermat. -/
namespace K22n
def Pr (p : Nat) : Prop := 2 ≤ p ∧ ∀ d, 2 ≤ d → d < p → ¬ d ∣ p
theorem Pr.cop {p x : Nat} (h : Pr p) (hx : ¬ p ∣ x) : Nat.gcd p x = 1 := by
  have h1 : Nat.gcd p x ∣ p := Nat.gcd_dvd_left p x
  have h2 : Nat.gcd p x ∣ x := Nat.gcd_dvd_right p x
  have hp := h.1
  have hle := Nat.le_of_dvd (by omega) h1
  have hpos : 0 < Nat.gcd p x := Nat.gcd_pos_of_pos_left x (by omega)
  by_cases e1 : Nat.gcd p x = 1
  · exact e1
  · by_cases e2 : Nat.gcd p x = p
    · rw [e2] at h2; exact (hx h2).elim
    · exact (h.2 _ (by omega) (by omega) h1).elim
theorem Pr.euclid {p x y : Nat} (h : Pr p) (hd : p ∣ x * y) (hx : ¬ p ∣ x) : p ∣ y :=
  Nat.Coprime.dvd_of_dvd_mul_left (h.cop hx) hd
def ch : Nat → Nat → Nat
  | _, 0 => 1
  | 0, _ + 1 => 0
  | n + 1, k + 1 => ch n k + ch n (k + 1)
theorem ch_zero (n : Nat) : ch n 0 = 1 := by cases n <;> rfl
theorem ch_succ (n k : Nat) : ch (n + 1) (k + 1) = ch n k + ch n (k + 1) := rfl
theorem absorb : ∀ (n k : Nat), (k + 1) * ch (n + 1) (k + 1) = (n + 1) * ch n k
  | 0, 0 => rfl
  | 0, k + 1 => by rw [ch_succ]; simp [ch]
  | n + 1, 0 => by
    have ih := absorb n 0
    rw [ch_zero] at ih
    rw [ch_succ (n + 1) 0, ch_zero]
    omega
  | n + 1, k + 1 => by
    have h1 := absorb n k
    have h2 := absorb n (k + 1)
    rw [ch_succ (n + 1) (k + 1)]
    have e : ch (n + 1) (k + 1) = ch n k + ch n (k + 1) := rfl
    rw [Nat.mul_add]
    rw [h2]
    have h3 : (k + 1 + 1) * ch (n + 1) (k + 1) = (k + 1) * ch (n + 1) (k + 1) + ch (n + 1) (k + 1) := by rw [Nat.add_mul (k + 1) 1, Nat.one_mul]
    rw [h3, h1]
    have h4 : (n + 1 + 1) * ch (n + 1) (k + 1) = (n + 1) * ch (n + 1) (k + 1) + ch (n + 1) (k + 1) := by rw [Nat.add_mul (n + 1) 1, Nat.one_mul]
    rw [h4]
    have h5 : (n + 1) * ch (n + 1) (k + 1) = (n + 1) * ch n k + (n + 1) * ch n (k + 1) := by rw [e, Nat.mul_add]
    omega
theorem ch_over : ∀ (n k : Nat), n < k → ch n k = 0
  | _, 0, h => by omega
  | 0, k + 1, _ => rfl
  | n + 1, k + 1, h => by rw [ch_succ, ch_over n k (by omega), ch_over n (k + 1) (by omega)]
theorem ch_self : ∀ n : Nat, ch n n = 1
  | 0 => rfl
  | n + 1 => by rw [ch_succ, ch_self n, ch_over n (n + 1) (by omega)]
def bs (a n : Nat) : Nat → Nat
  | 0 => 0
  | m + 1 => bs a n m + ch n m * a ^ m
theorem bs_step (a n : Nat) : ∀ m, bs a (n + 1) (m + 1) = bs a n (m + 1) + a * bs a n m
  | 0 => by simp [bs, ch_zero]
  | m + 1 => by
    have ih := bs_step a n m
    show bs a (n + 1) (m + 1) + ch (n + 1) (m + 1) * a ^ (m + 1) = (bs a n (m + 1) + ch n (m + 1) * a ^ (m + 1)) + a * (bs a n m + ch n m * a ^ m)
    rw [ih, ch_succ, Nat.add_mul, Nat.mul_add]
    have e : ch n m * a ^ (m + 1) = a * (ch n m * a ^ m) := by rw [Nat.pow_succ, Nat.mul_comm (a ^ m) a, Nat.mul_left_comm]
    rw [e]
    omega
theorem binom (a : Nat) : ∀ n, (a + 1) ^ n = bs a n (n + 1)
  | 0 => by simp [bs, ch]
  | n + 1 => by
    have ih := binom a n
    have h1 := bs_step a n (n + 1)
    have h2 : bs a n (n + 1 + 1) = bs a n (n + 1) := by
      show bs a n (n + 1) + ch n (n + 1) * a ^ (n + 1) = _
      rw [ch_over n (n + 1) (by omega)]; simp
    rw [h2] at h1
    rw [h1, Nat.pow_succ, ih, Nat.mul_add, Nat.mul_one, Nat.mul_comm, Nat.add_comm]
theorem ch_dvd {p : Nat} (h : Pr p) {k : Nat} (h0 : 0 < k) (hk : k < p) : p ∣ ch p k := by
  obtain ⟨q, rfl⟩ : ∃ q, p = q + 1 := ⟨p - 1, by have := h.1; omega⟩
  obtain ⟨j, rfl⟩ : ∃ j, k = j + 1 := ⟨k - 1, by omega⟩
  have e := absorb q j
  refine h.euclid (x := j + 1) ⟨ch q j, e⟩ fun hd => ?_
  have := Nat.le_of_dvd (by omega) hd
  omega
theorem bs_mid {p : Nat} (h : Pr p) (a : Nat) : ∀ m, m < p → ∃ t, bs a p (m + 1) = 1 + p * t
  | 0, _ => ⟨0, by simp [bs, ch_zero]⟩
  | m + 1, hm => by
    obtain ⟨t, e⟩ := bs_mid h a m (by omega)
    obtain ⟨u, eu⟩ := ch_dvd h (k := m + 1) (by omega) hm
    refine ⟨t + u * a ^ (m + 1), ?_⟩
    show bs a p (m + 1) + ch p (m + 1) * a ^ (m + 1) = _
    rw [e, eu, Nat.mul_add, Nat.mul_assoc]
    omega
theorem dream {p : Nat} (h : Pr p) (a : Nat) : ∃ t, (a + 1) ^ p = a ^ p + 1 + p * t := by
  obtain ⟨q, rfl⟩ : ∃ q, p = q + 1 := ⟨p - 1, by have := h.1; omega⟩
  obtain ⟨t, e⟩ := bs_mid h a q (by omega)
  refine ⟨t, ?_⟩
  rw [binom]
  show bs a (q + 1) (q + 1) + ch (q + 1) (q + 1) * a ^ (q + 1) = _
  rw [e, ch_self]
  omega
theorem fermat0 {p : Nat} (h : Pr p) : ∀ a : Nat, ∃ t, a ^ p = a + p * t
  | 0 => ⟨0, by have := h.1; rw [Nat.zero_pow (by omega)]; simp⟩
  | a + 1 => by
    obtain ⟨t, e⟩ := fermat0 h a
    obtain ⟨u, e2⟩ := dream h a
    exact ⟨t + u, by rw [e2, e, Nat.mul_add]; omega⟩
theorem fermat {p a : Nat} (h : Pr p) (ha : ¬ p ∣ a) : a ^ (p - 1) % p = 1 := by
  have hp := h.1
  obtain ⟨t, e⟩ := fermat0 h a
  have e1 : a ^ p = a * a ^ (p - 1) := by
    have : p = p - 1 + 1 := by omega
    rw [this, Nat.pow_succ, Nat.mul_comm, Nat.add_sub_cancel]
  have a0 : 0 < a := Nat.pos_of_ne_zero fun z => ha (by rw [z]; exact Nat.dvd_zero p)
  have pos : 1 ≤ a ^ (p - 1) := Nat.one_le_pow _ _ a0
  have hd : p ∣ a * (a ^ (p - 1) - 1) := by
    refine ⟨t, ?_⟩
    rw [Nat.mul_sub, ← e1, e]
    omega
  obtain ⟨u, eu⟩ := h.euclid hd ha
  have : a ^ (p - 1) = 1 + p * u := by omega
  rw [this, Nat.add_mul_mod_self_left]
  exact Nat.mod_eq_of_lt (by omega)
end K22n

/-! Numbers for k22: a fraction from its rest (the Euclid loop), by what stays true. -/
namespace K22n
/-- what stays true of one, two, first, second -/
structure Wi (M r one two first second : Int) : Prop where
  lt : two < one
  nn : 0 ≤ two
  big : M ≤ 2 * one * one
  sg : (0 < second ∧ first ≤ 0 ∧ one * second - two * first = M) ∨ (second < 0 ∧ 0 ≤ first ∧ one * second - two * first = -M)
  c2 : M ∣ second * r - two
  c1 : M ∣ first * r - one
theorem Wi.start {M r : Int} (hM : 2 < M) (h0 : 0 ≤ r) (h1 : r < M) : Wi M r M r 0 1 where
  lt := h1
  nn := h0
  big := by
    have : M * 1 ≤ M * M := Int.mul_le_mul_of_nonneg_left (by omega) (by omega)
    have e : 2 * M * M = M * M + M * M := by rw [Int.mul_assoc, Int.two_mul]
    omega
  sg := .inl ⟨by omega, by omega, by omega⟩
  c2 := by rw [Int.one_mul, Int.sub_self]; exact Int.dvd_zero M
  c1 := by rw [Int.zero_mul, Int.zero_sub]; exact Int.dvd_neg.mpr (Int.dvd_refl M)
theorem Wi.step {M r one two first second : Int} (w : Wi M r one two first second) (ht : 0 < two) (hb : M ≤ 2 * two * two) : Wi M r two (one % two) second (first - one / two * second) where
  lt := Int.emod_lt_of_pos one ht
  nn := Int.emod_nonneg one (by omega)
  big := hb
  sg := by
    have hq : 1 ≤ one / two := by
      have := w.lt
      exact (Int.le_ediv_iff_mul_le ht).mpr (by omega)
    have em : one % two = one - one / two * two := by
      have := Int.emod_add_mul_ediv one two
      rw [Int.mul_comm] at this
      omega
    have key : two * (first - one / two * second) - one % two * second = -(one * second - two * first) := by
      rw [em, Int.mul_sub, Int.sub_mul]
      have e : two * (one / two * second) = one / two * two * second := by rw [← Int.mul_assoc, Int.mul_comm two]
      omega
    rcases w.sg with ⟨s0, f0, e⟩ | ⟨s0, f0, e⟩
    · right
      refine ⟨?_, by omega, by rw [key, e]⟩
      have : 1 * second ≤ one / two * second := Int.mul_le_mul_of_nonneg_right hq (by omega)
      omega
    · left
      refine ⟨?_, by omega, by rw [key, e]; omega⟩
      have : one / two * second ≤ 1 * second := Int.mul_le_mul_of_nonpos_right hq (by omega)
      omega
  c2 := by
    obtain ⟨u, hu⟩ := w.c2
    obtain ⟨v, hv⟩ := w.c1
    refine ⟨v - one / two * u, ?_⟩
    have em : one % two = one - one / two * two := by
      have := Int.emod_add_mul_ediv one two
      rw [Int.mul_comm] at this
      omega
    rw [em, Int.mul_sub, ← hv, Int.mul_left_comm, ← hu, Int.sub_mul, Int.mul_sub, Int.mul_assoc]
    omega
  c1 := w.c2
theorem sq_lt {M a b : Int} (ha : 2 * a * a < M) (hb : 2 * b * b < M) (h0 : 0 ≤ a) (h1 : 0 ≤ b) : 2 * (a * b) < M := by
  by_cases h : a ≤ b
  · have : a * b ≤ b * b := Int.mul_le_mul_of_nonneg_right h h1
    rw [Int.mul_assoc] at hb
    omega
  · have : a * b ≤ a * a := Int.mul_le_mul_of_nonneg_left (by omega) h0
    rw [Int.mul_assoc] at ha
    omega
theorem sq_le_lt {M t one : Int} (ht : 2 * t * t < M) (ho : M ≤ 2 * one * one) (h0 : 0 ≤ one) : t < one ∧ -one < t := by
  rw [Int.mul_assoc] at ht ho
  constructor
  · apply Int.not_le.mp
    intro h
    have h1 : one * one ≤ t * t := Int.mul_le_mul h h h0 (by omega)
    omega
  · apply Int.not_le.mp
    intro h
    have h2 : one * one ≤ (-t) * (-t) := Int.mul_le_mul (by omega) (by omega) h0 (by omega)
    rw [Int.neg_mul_neg] at h2
    omega
/-- a small multiple of M is none -/
theorem small_zero {M z a : Int} (h : a = z * M) (h1 : a < M) (h2 : -M < a) : z = 0 := by
  by_cases hz : 1 ≤ z
  · have : 1 * M ≤ z * M := Int.mul_le_mul_of_nonneg_right hz (by omega)
    omega
  · by_cases hz2 : z ≤ -1
    · have : z * M ≤ -1 * M := Int.mul_le_mul_of_nonneg_right hz2 (by omega)
      omega
    · omega
theorem prod_bd {M t b s two : Int} (ht : 2 * t * t < M) (hb : 2 * b * b < M) (hr : 2 * two * two < M) (b0 : 0 ≤ b) (r0 : 0 ≤ two) (hs : s ≤ b) (hs2 : -b ≤ s) : t * s - b * two < M ∧ -M < t * s - b * two := by
  have h2 := sq_lt hb hr b0 r0
  have p2 : 0 ≤ b * two := Int.mul_nonneg b0 r0
  have key : ∀ u : Int, 0 ≤ u → 2 * u * u < M → u * s ≤ u * b ∧ -(u * b) ≤ u * s ∧ 2 * (u * b) < M := fun u h0 hu => by
    refine ⟨Int.mul_le_mul_of_nonneg_left hs h0, ?_, sq_lt hu hb h0 b0⟩
    have := Int.mul_le_mul_of_nonneg_left hs2 h0
    rw [Int.mul_neg] at this
    exact this
  by_cases h : 0 ≤ t
  · obtain ⟨k1, k2, k3⟩ := key t h ht
    omega
  · obtain ⟨k1, k2, k3⟩ := key (-t) (by omega) (by grind)
    rw [Int.neg_mul, Int.neg_mul] at k1 k2
    rw [Int.neg_mul] at k3
    omega
/-- the small fraction with this rest is the loop's -/
theorem Wi.only {M r one two first second t b : Int} (w : Wi M r one two first second) (hr : 2 * two * two < M) (ht : 2 * t * t < M) (hb : 2 * b * b < M) (b0 : 0 < b) (hc : M ∣ b * r - t) : t * second = b * two := by
  have hM : 0 < M := by
    have : 0 ≤ two * two := Int.mul_nonneg w.nn w.nn
    rw [Int.mul_assoc] at hr
    omega
  obtain ⟨u, hu⟩ := w.c2
  obtain ⟨v, hv⟩ := w.c1
  obtain ⟨k, hk⟩ := hc
  have eX : t * second - b * two = (b * u - k * second) * M := by
    have e1 : two = second * r - M * u := by omega
    have e2 : t = b * r - M * k := by omega
    rw [e1, e2]
    grind
  have eY : b * one - t * first = (k * first - b * v) * M := by
    have e1 : one = first * r - M * v := by omega
    have e2 : t = b * r - M * k := by omega
    rw [e1, e2]
    grind
  generalize hx : b * u - k * second = x at eX
  generalize hy : k * first - b * v = y at eY
  have o0 : 0 < one := by have := w.lt; have := w.nn; omega
  obtain ⟨t1, t2⟩ := sq_le_lt ht w.big (by omega)
  have done : x = 0 → t * second = b * two := fun h => by rw [h, Int.zero_mul] at eX; omega
  rcases w.sg with ⟨s0, f0, e⟩ | ⟨s0, f0, e⟩
  · -- t = x one + y two, b = x first + y second
    have eT : t = x * one + y * two := by
      have : M * t = M * (x * one + y * two) := by
        rw [← e]
        grind
      exact Int.eq_of_mul_eq_mul_left (by omega) this
    have eB : b = x * first + y * second := by
      have : M * b = M * (x * first + y * second) := by
        rw [← e]
        grind
      exact Int.eq_of_mul_eq_mul_left (by omega) this
    apply done
    apply Classical.byContradiction
    intro hne
    by_cases hxp : 0 < x
    · have hxo : one ≤ x * one := by have := Int.mul_le_mul_of_nonneg_right (show 1 ≤ x by omega) (show 0 ≤ one by omega); omega
      by_cases hy0 : 0 ≤ y
      · have : 0 ≤ y * two := Int.mul_nonneg hy0 w.nn
        omega
      · have h1 : x * first ≤ 0 := Int.mul_nonpos_of_nonneg_of_nonpos (by omega) f0
        have h2 : y * second ≤ 0 := Int.mul_nonpos_of_nonpos_of_nonneg (by omega) (by omega)
        omega
    · have hxn : x ≤ -1 := by omega
      have hxo : x * one ≤ -one := by have := Int.mul_le_mul_of_nonneg_right hxn (show 0 ≤ one by omega); omega
      by_cases hy0 : y ≤ 0
      · have : y * two ≤ 0 := Int.mul_nonpos_of_nonpos_of_nonneg hy0 w.nn
        omega
      · have h1 : 0 ≤ x * first := Int.mul_nonneg_of_nonpos_of_nonpos (by omega) f0
        have h2 : second ≤ y * second := by have := Int.mul_le_mul_of_nonneg_right (show 1 ≤ y by omega) (show 0 ≤ second by omega); omega
        obtain ⟨q1, q2⟩ := prod_bd ht hb hr (by omega) w.nn (s := second) (by omega) (by omega)
        exact hne (small_zero eX q1 q2)
  · have eT : t = -(x * one + y * two) := by
      have : -M * t = -M * -(x * one + y * two) := by
        rw [← e]
        grind
      exact Int.eq_of_mul_eq_mul_left (by omega) this
    have eB : b = -(x * first + y * second) := by
      have : -M * b = -M * -(x * first + y * second) := by
        rw [← e]
        grind
      exact Int.eq_of_mul_eq_mul_left (by omega) this
    apply done
    apply Classical.byContradiction
    intro hne
    by_cases hxp : 0 < x
    · have hxo : one ≤ x * one := by have := Int.mul_le_mul_of_nonneg_right (show 1 ≤ x by omega) (show 0 ≤ one by omega); omega
      by_cases hy0 : 0 ≤ y
      · have : 0 ≤ y * two := Int.mul_nonneg hy0 w.nn
        omega
      · have h1 : 0 ≤ x * first := Int.mul_nonneg (by omega) f0
        have h2 : 0 ≤ y * second := Int.mul_nonneg_of_nonpos_of_nonpos (by omega) (by omega)
        omega
    · have hxn : x ≤ -1 := by omega
      have hxo : x * one ≤ -one := by have := Int.mul_le_mul_of_nonneg_right hxn (show 0 ≤ one by omega); omega
      by_cases hy0 : y ≤ 0
      · have : y * two ≤ 0 := Int.mul_nonpos_of_nonpos_of_nonneg hy0 w.nn
        omega
      · have h1 : x * first ≤ 0 := Int.mul_nonpos_of_nonpos_of_nonneg (by omega) f0
        have h2 : y * second ≤ second := by have := Int.mul_le_mul_of_nonpos_right (show 1 ≤ y by omega) (show second ≤ 0 by omega); omega
        obtain ⟨q1, q2⟩ := prod_bd ht hb hr (by omega) w.nn (s := second) (by omega) (by omega)
        exact hne (small_zero eX q1 q2)
end K22n

/-! Numbers for k22: trial division, divisors, powers, rests put together. -/
namespace K22n
/-- no odd number from 3 on whose square is at most n divides n, nor does 2 -/
def Tr (n : Nat) : Prop := n % 2 ≠ 0 ∧ ∀ k, 3 ≤ k → k % 2 = 1 → k * k ≤ n → n % k ≠ 0
theorem odd_l {n d e : Nat} (o : n % 2 ≠ 0) (h : n = d * e) : d % 2 = 1 := by
  rcases Nat.mod_two_eq_zero_or_one d with q | q
  · exfalso; apply o; rw [h, Nat.mul_mod, q]; simp
  · exact q
theorem Tr.pr {n : Nat} (h : Tr n) (h3 : 3 ≤ n) : Pr n := by
  refine ⟨by omega, fun d d2 dn hd => ?_⟩
  obtain ⟨e, he⟩ := hd
  have od := odd_l h.1 he
  have oe := odd_l h.1 (he.trans (Nat.mul_comm d e))
  have e1 : e ≠ 1 := fun z => by rw [z, Nat.mul_one] at he; omega
  by_cases hc : d ≤ e
  · exact h.2 d (by omega) od (by have := Nat.mul_le_mul_left d hc; omega) (by rw [he]; exact Nat.mul_mod_right d e)
  · exact h.2 e (by omega) oe (by have := Nat.mul_le_mul_right e (show e ≤ d by omega); omega) (by rw [he]; exact Nat.mul_mod_left d e)
def trB (n : Nat) : Nat → Nat → Bool
  | 0, _ => true
  | f + 1, k => (n % k != 0) && trB n f (k + 2)
theorem trB_ok {n : Nat} : ∀ f k, trB n f k = true → ∀ j, j < f → n % (k + 2 * j) ≠ 0
  | 0, _, _, j, hj => by omega
  | f + 1, k, h, j, hj => by
    have h' : (n % k != 0) = true ∧ trB n f (k + 2) = true := by simpa [trB] using h
    cases j with
    | zero => simpa using h'.1
    | succ j =>
      have := trB_ok f (k + 2) h'.2 j (by omega)
      rw [show k + 2 * (j + 1) = k + 2 + 2 * j by omega]
      exact this
theorem Tr_of {n f : Nat} (h2 : n % 2 ≠ 0) (h : trB n f 3 = true) (hf : n < (2 * f + 3) * (2 * f + 3)) : Tr n := ⟨h2, fun k h3 ho hk => by
  have : k < 2 * f + 3 := by
    apply Nat.lt_of_not_le; intro hc
    have := Nat.mul_le_mul hc hc
    omega
  have := trB_ok f 3 h ((k - 3) / 2) (by omega)
  rw [show 3 + 2 * ((k - 3) / 2) = k by omega] at this
  exact this⟩
theorem tr0 : Tr 1000003 := Tr_of (f := 499) (by decide) (by decide +kernel) (by decide)
theorem tr1 : Tr 2000003 := Tr_of (f := 706) (by decide) (by decide +kernel) (by decide)
theorem tr2 : Tr 2000081 := Tr_of (f := 706) (by decide) (by decide +kernel) (by decide)
theorem tr3 : Tr 2000143 := Tr_of (f := 706) (by decide) (by decide +kernel) (by decide)
theorem tr4 : Tr 2000209 := Tr_of (f := 706) (by decide) (by decide +kernel) (by decide)
/-- a lap of Euclid's, twice -/
theorem two_laps {a b : Nat} (hb : b ≠ 0) (h : a % b ≠ 0) : 2 * (b % (a % b)) < b := by
  have h1 : a % b < b := Nat.mod_lt _ (by omega)
  have h2 : b % (a % b) < a % b := Nat.mod_lt _ (by omega)
  have h3 := Nat.div_add_mod b (a % b)
  have h4 : 1 ≤ b / (a % b) := (Nat.le_div_iff_mul_le (by omega)).mpr (by omega)
  have h5 : (a % b) * 1 ≤ (a % b) * (b / (a % b)) := Nat.mul_le_mul_left _ h4
  omega
theorem gcd_lap (a b : Nat) : Nat.gcd b (a % b) = Nat.gcd a b := by
  rw [Nat.gcd_comm a b, Nat.gcd_rec b a, Nat.gcd_comm]
/-! powers by squaring -/
theorem pow_odd (F S m p : Nat) : (F * S % p) * (S * S % p) ^ m % p = F * S ^ (2 * m + 1) % p := by
  have e : F * S * (S * S) ^ m = F * S ^ (2 * m + 1) := by
    rw [← Nat.pow_two, ← Nat.pow_mul, Nat.pow_succ, Nat.mul_assoc, Nat.mul_comm S]
  rw [← e, Nat.mul_mod, Nat.mod_mod, ← Nat.pow_mod, ← Nat.mul_mod]
theorem pow_even (F S m p : Nat) : F * (S * S % p) ^ m % p = F * S ^ (2 * m) % p := by
  have e : F * (S * S) ^ m = F * S ^ (2 * m) := by rw [← Nat.pow_two, ← Nat.pow_mul]
  rw [← e, Nat.mul_mod, ← Nat.pow_mod, ← Nat.mul_mod]
theorem inv_ok {p a : Nat} (h : Pr p) (ha : ¬ p ∣ a) : a * ((a % p) ^ (p - 2) % p) % p = 1 := by
  have hp := h.1
  have f := fermat h ha
  rw [← Nat.pow_mod, Nat.mul_mod, Nat.mod_mod, ← Nat.mul_mod]
  have e : a * a ^ (p - 2) = a ^ (p - 1) := by
    rw [show p - 1 = p - 2 + 1 by omega, Nat.pow_succ, Nat.mul_comm]
  rw [e]; exact f
theorem Pr.ndvd {p q x : Nat} (hp : Pr p) (hq : Pr q) (hne : p ≠ q) (hx : ¬ p ∣ x) : ¬ p ∣ x * q := fun hd => by
  have h1 : p ∣ q := hp.euclid hd hx
  have hq1 := hq.1
  have hp1 := hp.1
  have hle := Nat.le_of_dvd (by omega) h1
  exact hq.2 p hp1 (by omega) h1
/-- one prime more -/
theorem crt_step {P p f r iv : Int} (hP : 0 < P) (hp : 0 < p) (f0 : 0 ≤ f) (f1 : f < P) (r0 : 0 ≤ r) (r1 : r < p) (hi : (P * iv) % p = 1) :
    0 ≤ f + P * (((r - f) * iv) % p) ∧ f + P * (((r - f) * iv) % p) < P * p ∧ (f + P * (((r - f) * iv) % p)) % p = r ∧ ∀ q, q ∣ P → (f + P * (((r - f) * iv) % p)) % q = f % q := by
  have x0 : 0 ≤ ((r - f) * iv) % p := Int.emod_nonneg _ (by omega)
  have x1 : ((r - f) * iv) % p < p := Int.emod_lt_of_pos _ hp
  have y := Int.emod_add_mul_ediv ((r - f) * iv) p
  have z := Int.emod_add_mul_ediv (P * iv) p
  rw [hi] at z
  generalize ((r - f) * iv) % p = x at *
  generalize ((r - f) * iv) / p = t at *
  generalize (P * iv) / p = k at *
  have h1 : 0 ≤ P * x := Int.mul_nonneg (by omega) x0
  have h2 : P * x ≤ P * (p - 1) := Int.mul_le_mul_of_nonneg_left (by omega) (by omega)
  rw [Int.mul_sub, Int.mul_one] at h2
  refine ⟨by omega, by omega, ?_, fun q ⟨c, hc⟩ => ?_⟩
  · have e : f + P * x = r + p * ((r - f) * k - P * t) := by grind
    rw [e, Int.add_mul_emod_self_left]
    exact Int.emod_eq_of_lt r0 r1
  · rw [hc, Int.mul_assoc, Int.add_mul_emod_self_left]
/-! small fractions -/
theorem int_cop {b t s : Int} (hg : Nat.gcd t.natAbs b.natAbs = 1) (h : b ∣ t * s) : b ∣ s := by
  have h1 : b.natAbs ∣ t.natAbs * s.natAbs := by rw [← Int.natAbs_mul]; exact Int.natAbs_dvd_natAbs.mpr h
  exact Int.natAbs_dvd_natAbs.mp (Nat.Coprime.dvd_of_dvd_mul_left (show Nat.Coprime b.natAbs t.natAbs by rw [Nat.Coprime, Nat.gcd_comm]; exact hg) h1)
/-- t / b is small and has the rest r by M -/
structure Cand (M r t b : Int) : Prop where
  st : 2 * t * t < M
  sb : 2 * b * b < M
  b0 : 0 < b
  g1 : Nat.gcd t.natAbs b.natAbs = 1
  g2 : Nat.gcd b.natAbs M.natAbs = 1
  dv : M ∣ t - r * b
theorem Cand.uniq {M r t b t' b' : Int} (h : Cand M r t b) (h' : Cand M r t' b') : t = t' ∧ b = b' := by
  have hM : 0 < M := by
    have : 0 ≤ b * b := Int.mul_nonneg (by have := h.b0; omega) (by have := h.b0; omega)
    have := h.sb
    rw [Int.mul_assoc] at this
    omega
  obtain ⟨k, hk⟩ := h.dv
  obtain ⟨k', hk'⟩ := h'.dv
  have b0 := h.b0
  have b0' := h'.b0
  have e : t * b' - t' * b = M * (k * b' - k' * b) := by
    have e1 : t = r * b + M * k := by omega
    have e2 : t' = r * b' + M * k' := by omega
    rw [e1, e2]; grind
  -- |t b' - t' b| < M
  have key : ∀ {u v : Int}, 2 * u * u < M → 2 * v * v < M → 0 < v → 2 * (u * v) < M ∧ -M < 2 * (u * v) := fun {u v} hu hv v0 => by
    by_cases h0 : 0 ≤ u
    · have := sq_lt hu hv h0 (by omega)
      have : 0 ≤ u * v := Int.mul_nonneg h0 (by omega)
      omega
    · have := sq_lt (a := -u) (b := v) (by grind) hv (by omega) (by omega)
      rw [Int.neg_mul] at this
      have : u * v ≤ 0 := Int.mul_nonpos_of_nonpos_of_nonneg (by omega) (by omega)
      omega
  obtain ⟨p1, p2⟩ := key h.st h'.sb b0'
  obtain ⟨q1, q2⟩ := key h'.st h.sb b0
  have z : k * b' - k' * b = 0 := small_zero (M := M) (a := t * b' - t' * b) (by rw [e, Int.mul_comm]) (by omega) (by omega)
  rw [z, Int.mul_zero] at e
  have e2 : t * b' = t' * b := by omega
  have c1 : b ∣ b' := by
    have : b ∣ t * b' := ⟨t', by rw [e2, Int.mul_comm]⟩
    exact int_cop h.g1 this
  have c2 : b' ∣ b := by
    have : b' ∣ t' * b := ⟨t, by rw [← e2, Int.mul_comm]⟩
    exact int_cop h'.g1 this
  have eb : b = b' := by
    have := Int.le_of_dvd b0' c1
    have := Int.le_of_dvd b0 c2
    omega
  subst eb
  exact ⟨Int.eq_of_mul_eq_mul_right (by omega) e2, rfl⟩
/-- what the loop ends with is the small fraction, if there is one -/
theorem Wi.same {M r one two first second t b : Int} (w : Wi M r one two first second) (hr : 2 * two * two < M) (h : Cand M r t b) : (0 < second → t = two ∧ b = second) ∧ (second < 0 → t = -two ∧ b = -second) := by
  have hM : 0 < M := by
    have : 0 ≤ two * two := Int.mul_nonneg w.nn w.nn
    rw [Int.mul_assoc] at hr
    omega
  have b0 := h.b0
  obtain ⟨z, hz⟩ := h.dv
  have e := w.only hr h.st h.sb b0 ⟨-z, by rw [Int.mul_neg, ← hz, Int.mul_comm b r]; omega⟩
  obtain ⟨k, hk⟩ : b ∣ second := by
    have h1 : b ∣ t * second := ⟨two, e⟩
    exact int_cop h.g1 h1
  have e2 : t * k = two := by
    have : b * (t * k) = b * two := by rw [← e, hk]; grind
    exact Int.eq_of_mul_eq_mul_left (by omega) this
  obtain ⟨v, hv⟩ := w.c1
  have e3 : one * second - two * first = M * (k * -(v * b + z * first)) := by
    have e1 : one = first * r - M * v := by omega
    have e4 : t = r * b + M * z := by omega
    rw [hk, ← e2, e1, e4]
    grind
  have kd : k ∣ 1 := by
    rcases w.sg with ⟨_, _, s⟩ | ⟨_, _, s⟩
    · refine ⟨-(v * b + z * first), ?_⟩
      rw [s] at e3
      have : M * 1 = M * (k * -(v * b + z * first)) := by omega
      exact Int.eq_of_mul_eq_mul_left (by omega) this
    · refine ⟨v * b + z * first, ?_⟩
      rw [s] at e3
      have : M * 1 = M * (k * (v * b + z * first)) := by
        have : k * -(v * b + z * first) = -(k * (v * b + z * first)) := Int.mul_neg ..
        rw [this, Int.mul_neg] at e3
        omega
      exact Int.eq_of_mul_eq_mul_left (by omega) this
  constructor
  · intro hs
    have k0 : 0 < k := by
      apply Int.not_le.mp; intro hc
      have : b * k ≤ 0 := Int.mul_nonpos_of_nonneg_of_nonpos (by omega) hc
      omega
    have := Int.le_of_dvd (by decide) kd
    have k1 : k = 1 := by omega
    subst k1
    exact ⟨by omega, by omega⟩
  · intro hs
    have k0 : k < 0 := by
      apply Int.not_le.mp; intro hc
      have : 0 ≤ b * k := Int.mul_nonneg (by omega) hc
      omega
    have := Int.le_of_dvd (by decide) (Int.neg_dvd.mpr kd)
    have k1 : k = -1 := by omega
    subst k1
    exact ⟨by omega, by omega⟩
/-- second and one are no greater than M -/
theorem Wi.bd {M r one two first second : Int} (w : Wi M r one two first second) (hM : 0 < M) : second.natAbs ≤ M.natAbs := by
  have o1 : 1 ≤ one := by have := w.lt; have := w.nn; omega
  rcases w.sg with ⟨s0, f0, e⟩ | ⟨s0, f0, e⟩
  · have h1 : two * first ≤ 0 := Int.mul_nonpos_of_nonneg_of_nonpos w.nn f0
    have h2 : 1 * second ≤ one * second := Int.mul_le_mul_of_nonneg_right o1 (by omega)
    omega
  · have h1 : 0 ≤ two * first := Int.mul_nonneg w.nn f0
    have h2 : one * second ≤ 1 * second := Int.mul_le_mul_of_nonpos_right o1 (by omega)
    omega
end K22n

/-! The core texts of this law's defs, and that they are the program's own. Printed by mk.py. -/
namespace K22
open PySem PySem.Spec PyProof.Rows L2 Dn
def topS (i : Nat) : Stmt := PySem.Challenge.pw_keptpapers_k22_whole_rests_put_together.main.body.getD i (.Pass ⟨0, 0, 0, 0⟩)
def initS (i : Nat) : Stmt := match topS i with
  | .ClassDef _ _ _ b _ _ _ _ _ _ _ => b.getD 0 (.Pass ⟨0, 0, 0, 0⟩)
  | s => s
def tabs : Tabs where
  xfs := [("BadNumber", ["what", "number"]), ("BadPaper", ["paper"]), ("NotKept", ["promise", "witness"])]
  isaT := []
  isIs := []
  isEs := ["BadNumber", "BadPaper", "NotKept", "KeptError"]
  subT := [("BadNumber", ["BadNumber", "KeptError"]), ("NotKept", ["NotKept", "KeptError"]), ("BadPaper", ["BadPaper", "KeptError"])]
  cns := [("LEAST_GREAT", 1000003), ("LAST_GREAT", 999999937)]
  mades := []
  mk0s := []
  raiseds := ["BadNumber", "NotKept", "BadPaper"]
  gcd := true
/-! is_whole -/
abbrev s_is_whole : Stmt := topS 6
abbrev N_is_whole : List Str := ["value"]
abbrev P_is_whole : List Str := ["value"]
theorem sc_is_whole : FnScope N_is_whole P_is_whole (defScope s_is_whole) := ⟨rfl, rfl, rfl, by decide +kernel, rfl, by decide +kernel, by decide +kernel⟩
def c_is_whole : Sm :=
  (.cons (.ret (.bop true (.cons (.isi (.var 0) ["int"]) (.cons (.nt (.isi (.var 0) ["bool"])) .nil)))) .nil)
def L_is_whole : List Str := []
noncomputable def F_is_whole : Str → List D → M D := tabs.B.fn
theorem ck_is_whole : ckSs tabs.isE (tabs.cg.at_ N_is_whole (defScope s_is_whole) L_is_whole) c_is_whole (defBody s_is_whole) = true := by decide +kernel
noncomputable def d_is_whole : List D → M D := fnDen 1 1 (denS (tabs.B.withF F_is_whole) c_is_whole).s
/-! is_count -/
abbrev s_is_count : Stmt := topS 7
abbrev N_is_count : List Str := ["value"]
abbrev P_is_count : List Str := ["value"]
theorem sc_is_count : FnScope N_is_count P_is_count (defScope s_is_count) := ⟨rfl, rfl, rfl, by decide +kernel, rfl, by decide +kernel, by decide +kernel⟩
def c_is_count : Sm :=
  (.cons (.ret (.bop true (.cons (.call "is_whole" (.cons (.var 0) .nil)) (.cons (.cmp .GtE (.var 0) (.cst (.int 0))) .nil)))) .nil)
def L_is_count : List Str := "is_whole" :: L_is_whole
noncomputable def F_is_count : Str → List D → M D := addF F_is_whole "is_whole" d_is_whole
theorem ck_is_count : ckSs tabs.isE (tabs.cg.at_ N_is_count (defScope s_is_count) L_is_count) c_is_count (defBody s_is_count) = true := by decide +kernel
noncomputable def d_is_count : List D → M D := fnDen 1 1 (denS (tabs.B.withF F_is_count) c_is_count).s
/-! is_fraction -/
abbrev s_is_fraction : Stmt := topS 9
abbrev N_is_fraction : List Str := ["value", "part"]
abbrev P_is_fraction : List Str := ["value"]
theorem sc_is_fraction : FnScope N_is_fraction P_is_fraction (defScope s_is_fraction) := ⟨rfl, rfl, rfl, by decide +kernel, rfl, by decide +kernel, by decide +kernel⟩
def c_is_fraction : Sm :=
  (.cons (.ite (.bop false (.cons (.nt (.isi (.var 0) ["tuple"])) (.cons (.cmp .NotEq (.blt .len (.cons (.var 0) .nil)) (.cst (.int 2))) (.cons (.nt (.blt .all (.cons (.lc (.call "is_whole" (.cons (.var 1) .nil)) (.nm 1) (.var 0) .nil) .nil))) .nil)))) (.cons (.ret (.cst (.bool false))) .nil) .nil) (.cons (.ret (.bop true (.cons (.cmp .Gt (.ix (.var 0) (.cst (.int 1))) (.cst (.int 0))) (.cons (.cmp .Eq (.blt .gcd (.cons (.ix (.var 0) (.cst (.int 0))) (.cons (.ix (.var 0) (.cst (.int 1))) .nil))) (.cst (.int 1))) .nil)))) .nil))
def L_is_fraction : List Str := "is_count" :: L_is_count
noncomputable def F_is_fraction : Str → List D → M D := addF F_is_count "is_count" d_is_count
theorem ck_is_fraction : ckSs tabs.isE (tabs.cg.at_ N_is_fraction (defScope s_is_fraction) L_is_fraction) c_is_fraction (defBody s_is_fraction) = true := by decide +kernel
noncomputable def d_is_fraction : List D → M D := fnDen 1 2 (denS (tabs.B.withF F_is_fraction) c_is_fraction).s
/-! unit_in -/
abbrev s_unit_in : Stmt := topS 10
abbrev N_unit_in : List Str := ["field"]
abbrev P_unit_in : List Str := ["field"]
theorem sc_unit_in : FnScope N_unit_in P_unit_in (defScope s_unit_in) := ⟨rfl, rfl, rfl, by decide +kernel, rfl, by decide +kernel, by decide +kernel⟩
def c_unit_in : Sm :=
  (.cons (.ret (.ite (.cmp .Eq (.var 0) (.cst (.int 0))) (.tup (.cons (.cst (.int 1)) (.cons (.cst (.int 1)) .nil))) (.cst (.int 1)))) .nil)
def L_unit_in : List Str := "is_fraction" :: L_is_fraction
noncomputable def F_unit_in : Str → List D → M D := addF F_is_fraction "is_fraction" d_is_fraction
theorem ck_unit_in : ckSs tabs.isE (tabs.cg.at_ N_unit_in (defScope s_unit_in) L_unit_in) c_unit_in (defBody s_unit_in) = true := by decide +kernel
noncomputable def d_unit_in : List D → M D := fnDen 1 1 (denS (tabs.B.withF F_unit_in) c_unit_in).s
/-! reduced -/
abbrev s_reduced : Stmt := topS 11
abbrev N_reduced : List Str := ["top", "bottom", "divisor"]
abbrev P_reduced : List Str := ["top", "bottom"]
theorem sc_reduced : FnScope N_reduced P_reduced (defScope s_reduced) := ⟨rfl, rfl, rfl, by decide +kernel, rfl, by decide +kernel, by decide +kernel⟩
def c_reduced : Sm :=
  (.cons (.set 2 (.blt .gcd (.cons (.var 0) (.cons (.var 1) .nil)))) (.cons (.ite (.cmp .Lt (.var 1) (.cst (.int 0))) (.cons (.set 2 (.neg (.var 2))) .nil) .nil) (.cons (.ret (.tup (.cons (.bin .FloorDiv (.var 0) (.var 2)) (.cons (.bin .FloorDiv (.var 1) (.var 2)) .nil)))) .nil)))
def L_reduced : List Str := "unit_in" :: L_unit_in
noncomputable def F_reduced : Str → List D → M D := addF F_unit_in "unit_in" d_unit_in
theorem ck_reduced : ckSs tabs.isE (tabs.cg.at_ N_reduced (defScope s_reduced) L_reduced) c_reduced (defBody s_reduced) = true := by decide +kernel
noncomputable def d_reduced : List D → M D := fnDen 2 3 (denS (tabs.B.withF F_reduced) c_reduced).s
/-! times_in -/
abbrev s_times_in : Stmt := topS 12
abbrev N_times_in : List Str := ["field", "a", "b"]
abbrev P_times_in : List Str := ["field", "a", "b"]
theorem sc_times_in : FnScope N_times_in P_times_in (defScope s_times_in) := ⟨rfl, rfl, rfl, by decide +kernel, rfl, by decide +kernel, by decide +kernel⟩
def c_times_in : Sm :=
  (.cons (.ite (.cmp .Eq (.var 0) (.cst (.int 0))) (.cons (.ret (.call "reduced" (.cons (.bin .Mult (.ix (.var 1) (.cst (.int 0))) (.ix (.var 2) (.cst (.int 0)))) (.cons (.bin .Mult (.ix (.var 1) (.cst (.int 1))) (.ix (.var 2) (.cst (.int 1)))) .nil)))) .nil) .nil) (.cons (.ret (.bin .Mod (.bin .Mult (.var 1) (.var 2)) (.var 0))) .nil))
def L_times_in : List Str := "reduced" :: L_reduced
noncomputable def F_times_in : Str → List D → M D := addF F_reduced "reduced" d_reduced
theorem ck_times_in : ckSs tabs.isE (tabs.cg.at_ N_times_in (defScope s_times_in) L_times_in) c_times_in (defBody s_times_in) = true := by decide +kernel
noncomputable def d_times_in : List D → M D := fnDen 3 3 (denS (tabs.B.withF F_times_in) c_times_in).s
/-! power_in -/
abbrev s_power_in : Stmt := topS 13
abbrev N_power_in : List Str := ["field", "a", "n", "found", "square"]
abbrev P_power_in : List Str := ["field", "a", "n"]
theorem sc_power_in : FnScope N_power_in P_power_in (defScope s_power_in) := ⟨rfl, rfl, rfl, by decide +kernel, rfl, by decide +kernel, by decide +kernel⟩
def c_power_in : Sm :=
  (.cons (.par [3, 4] (.cons (.call "unit_in" (.cons (.var 0) .nil)) (.cons (.var 1) .nil))) (.cons (.whl (.var 2) (.cons (.ite (.bin .Mod (.var 2) (.cst (.int 2))) (.cons (.set 3 (.call "times_in" (.cons (.var 0) (.cons (.var 3) (.cons (.var 4) .nil))))) .nil) .nil) (.cons (.set 4 (.call "times_in" (.cons (.var 0) (.cons (.var 4) (.cons (.var 4) .nil))))) (.cons (.aug 2 .FloorDiv (.cst (.int 2))) .nil)))) (.cons (.ret (.var 3)) .nil)))
def L_power_in : List Str := "times_in" :: L_times_in
noncomputable def F_power_in : Str → List D → M D := addF F_times_in "times_in" d_times_in
theorem ck_power_in : ckSs tabs.isE (tabs.cg.at_ N_power_in (defScope s_power_in) L_power_in) c_power_in (defBody s_power_in) = true := by decide +kernel
noncomputable def d_power_in : List D → M D := fnDen 3 5 (denS (tabs.B.withF F_power_in) c_power_in).s
/-! inverse_in -/
abbrev s_inverse_in : Stmt := topS 14
abbrev N_inverse_in : List Str := ["field", "a"]
abbrev P_inverse_in : List Str := ["field", "a"]
theorem sc_inverse_in : FnScope N_inverse_in P_inverse_in (defScope s_inverse_in) := ⟨rfl, rfl, rfl, by decide +kernel, rfl, by decide +kernel, by decide +kernel⟩
def c_inverse_in : Sm :=
  (.cons (.ret (.ite (.cmp .Eq (.var 0) (.cst (.int 0))) (.call "reduced" (.cons (.ix (.var 1) (.cst (.int 1))) (.cons (.ix (.var 1) (.cst (.int 0))) .nil))) (.call "power_in" (.cons (.var 0) (.cons (.var 1) (.cons (.bin .Sub (.var 0) (.cst (.int 2))) .nil)))))) .nil)
def L_inverse_in : List Str := "power_in" :: L_power_in
noncomputable def F_inverse_in : Str → List D → M D := addF F_power_in "power_in" d_power_in
theorem ck_inverse_in : ckSs tabs.isE (tabs.cg.at_ N_inverse_in (defScope s_inverse_in) L_inverse_in) c_inverse_in (defBody s_inverse_in) = true := by decide +kernel
noncomputable def d_inverse_in : List D → M D := fnDen 2 2 (denS (tabs.B.withF F_inverse_in) c_inverse_in).s
/-! is_prime_number -/
abbrev s_is_prime_number : Stmt := topS 18
abbrev N_is_prime_number : List Str := ["n", "k"]
abbrev P_is_prime_number : List Str := ["n"]
theorem sc_is_prime_number : FnScope N_is_prime_number P_is_prime_number (defScope s_is_prime_number) := ⟨rfl, rfl, rfl, by decide +kernel, rfl, by decide +kernel, by decide +kernel⟩
def c_is_prime_number : Sm :=
  (.cons (.ite (.cmp .Eq (.bin .Mod (.var 0) (.cst (.int 2))) (.cst (.int 0))) (.cons (.ret (.cst (.bool false))) .nil) .nil) (.cons (.set 1 (.cst (.int 3))) (.cons (.whl (.cmp .LtE (.bin .Mult (.var 1) (.var 1)) (.var 0)) (.cons (.ite (.cmp .Eq (.bin .Mod (.var 0) (.var 1)) (.cst (.int 0))) (.cons (.ret (.cst (.bool false))) .nil) .nil) (.cons (.aug 1 .Add (.cst (.int 2))) .nil))) (.cons (.ret (.cst (.bool true))) .nil))))
def L_is_prime_number : List Str := "inverse_in" :: L_inverse_in
noncomputable def F_is_prime_number : Str → List D → M D := addF F_inverse_in "inverse_in" d_inverse_in
theorem ck_is_prime_number : ckSs tabs.isE (tabs.cg.at_ N_is_prime_number (defScope s_is_prime_number) L_is_prime_number) c_is_prime_number (defBody s_is_prime_number) = true := by decide +kernel
noncomputable def d_is_prime_number : List D → M D := fnDen 1 2 (denS (tabs.B.withF F_is_prime_number) c_is_prime_number).s
/-! is_great -/
abbrev s_is_great : Stmt := topS 19
abbrev N_is_great : List Str := ["value"]
abbrev P_is_great : List Str := ["value"]
theorem sc_is_great : FnScope N_is_great P_is_great (defScope s_is_great) := ⟨rfl, rfl, rfl, by decide +kernel, rfl, by decide +kernel, by decide +kernel⟩
def c_is_great : Sm :=
  (.cons (.ret (.bop true (.cons (.call "is_count" (.cons (.var 0) .nil)) (.cons (.chn .LtE .LtE (.glc "LEAST_GREAT") (.var 0) (.glc "LAST_GREAT")) (.cons (.call "is_prime_number" (.cons (.var 0) .nil)) .nil))))) .nil)
def L_is_great : List Str := "is_prime_number" :: L_is_prime_number
noncomputable def F_is_great : Str → List D → M D := addF F_is_prime_number "is_prime_number" d_is_prime_number
theorem ck_is_great : ckSs tabs.isE (tabs.cg.at_ N_is_great (defScope s_is_great) L_is_great) c_is_great (defBody s_is_great) = true := by decide +kernel
noncomputable def d_is_great : List D → M D := fnDen 1 1 (denS (tabs.B.withF F_is_great) c_is_great).s
/-! need_great -/
abbrev s_need_great : Stmt := topS 20
abbrev N_need_great : List Str := ["p"]
abbrev P_need_great : List Str := ["p"]
theorem sc_need_great : FnScope N_need_great P_need_great (defScope s_need_great) := ⟨rfl, rfl, rfl, by decide +kernel, rfl, by decide +kernel, by decide +kernel⟩
def c_need_great : Sm :=
  (.cons (.ite (.nt (.call "is_great" (.cons (.var 0) .nil))) (.cons (.rai "BadNumber" (.cons (.cst (.str "p")) (.cons (.var 0) .nil))) .nil) .nil) .nil)
def L_need_great : List Str := "is_great" :: L_is_great
noncomputable def F_need_great : Str → List D → M D := addF F_is_great "is_great" d_is_great
theorem ck_need_great : ckSs tabs.isE (tabs.cg.at_ N_need_great (defScope s_need_great) L_need_great) c_need_great (defBody s_need_great) = true := by decide +kernel
noncomputable def d_need_great : List D → M D := fnDen 1 1 (denS (tabs.B.withF F_need_great) c_need_great).s
/-! next_in -/
abbrev s_next_in : Stmt := topS 21
abbrev N_next_in : List Str := ["n"]
abbrev P_next_in : List Str := ["n"]
theorem sc_next_in : FnScope N_next_in P_next_in (defScope s_next_in) := ⟨rfl, rfl, rfl, by decide +kernel, rfl, by decide +kernel, by decide +kernel⟩
def c_next_in : Sm :=
  (.cons (.set 0 (.blt .max (.cons (.bin .Add (.var 0) (.cst (.int 1))) (.cons (.glc "LEAST_GREAT") .nil)))) (.cons (.whl (.nt (.call "is_prime_number" (.cons (.var 0) .nil))) (.cons (.aug 0 .Add (.cst (.int 1))) .nil)) (.cons (.ret (.var 0)) .nil)))
def L_next_in : List Str := "need_great" :: L_need_great
noncomputable def F_next_in : Str → List D → M D := addF F_need_great "need_great" d_need_great
theorem ck_next_in : ckSs tabs.isE (tabs.cg.at_ N_next_in (defScope s_next_in) L_next_in) c_next_in (defBody s_next_in) = true := by decide +kernel
noncomputable def d_next_in : List D → M D := fnDen 1 1 (denS (tabs.B.withF F_next_in) c_next_in).s
/-! next_great -/
abbrev s_next_great : Stmt := topS 22
abbrev N_next_great : List Str := ["n"]
abbrev P_next_great : List Str := ["n"]
theorem sc_next_great : FnScope N_next_great P_next_great (defScope s_next_great) := ⟨rfl, rfl, rfl, by decide +kernel, rfl, by decide +kernel, by decide +kernel⟩
def c_next_great : Sm :=
  (.cons (.ite (.bop false (.cons (.nt (.call "is_count" (.cons (.var 0) .nil))) (.cons (.cmp .GtE (.var 0) (.glc "LAST_GREAT")) .nil))) (.cons (.rai "BadNumber" (.cons (.cst (.str "n")) (.cons (.var 0) .nil))) .nil) .nil) (.cons (.ret (.call "next_in" (.cons (.var 0) .nil))) .nil))
def L_next_great : List Str := "next_in" :: L_next_in
noncomputable def F_next_great : Str → List D → M D := addF F_next_in "next_in" d_next_in
theorem ck_next_great : ckSs tabs.isE (tabs.cg.at_ N_next_great (defScope s_next_great) L_next_great) c_next_great (defBody s_next_great) = true := by decide +kernel
noncomputable def d_next_great : List D → M D := fnDen 1 1 (denS (tabs.B.withF F_next_great) c_next_great).s
/-! rest_in -/
abbrev s_rest_in : Stmt := topS 23
abbrev N_rest_in : List Str := ["p", "number"]
abbrev P_rest_in : List Str := ["p", "number"]
theorem sc_rest_in : FnScope N_rest_in P_rest_in (defScope s_rest_in) := ⟨rfl, rfl, rfl, by decide +kernel, rfl, by decide +kernel, by decide +kernel⟩
def c_rest_in : Sm :=
  (.cons (.ret (.bin .Mod (.bin .Mult (.ix (.var 1) (.cst (.int 0))) (.call "inverse_in" (.cons (.var 0) (.cons (.bin .Mod (.ix (.var 1) (.cst (.int 1))) (.var 0)) .nil)))) (.var 0))) .nil)
def L_rest_in : List Str := "next_great" :: L_next_great
noncomputable def F_rest_in : Str → List D → M D := addF F_next_great "next_great" d_next_great
theorem ck_rest_in : ckSs tabs.isE (tabs.cg.at_ N_rest_in (defScope s_rest_in) L_rest_in) c_rest_in (defBody s_rest_in) = true := by decide +kernel
noncomputable def d_rest_in : List D → M D := fnDen 2 2 (denS (tabs.B.withF F_rest_in) c_rest_in).s
/-! rest_by -/
abbrev s_rest_by : Stmt := topS 24
abbrev N_rest_by : List Str := ["p", "number"]
abbrev P_rest_by : List Str := ["p", "number"]
theorem sc_rest_by : FnScope N_rest_by P_rest_by (defScope s_rest_by) := ⟨rfl, rfl, rfl, by decide +kernel, rfl, by decide +kernel, by decide +kernel⟩
def c_rest_by : Sm :=
  (.cons (.exp (.call "need_great" (.cons (.var 0) .nil))) (.cons (.ite (.nt (.call "is_fraction" (.cons (.var 1) .nil))) (.cons (.rai "BadNumber" (.cons (.cst (.str "number")) (.cons (.var 1) .nil))) .nil) .nil) (.cons (.ite (.cmp .Eq (.bin .Mod (.ix (.var 1) (.cst (.int 1))) (.var 0)) (.cst (.int 0))) (.cons (.rai "NotKept" (.cons (.cst (.str "bottom")) (.cons (.ix (.var 1) (.cst (.int 1))) .nil))) .nil) .nil) (.cons (.ret (.call "rest_in" (.cons (.var 0) (.cons (.var 1) .nil)))) .nil))))
def L_rest_by : List Str := "rest_in" :: L_rest_in
noncomputable def F_rest_by : Str → List D → M D := addF F_rest_in "rest_in" d_rest_in
theorem ck_rest_by : ckSs tabs.isE (tabs.cg.at_ N_rest_by (defScope s_rest_by) L_rest_by) c_rest_by (defBody s_rest_by) = true := by decide +kernel
noncomputable def d_rest_by : List D → M D := fnDen 2 2 (denS (tabs.B.withF F_rest_by) c_rest_by).s
/-! together_in -/
abbrev s_together_in : Stmt := topS 25
abbrev N_together_in : List Str := ["primes", "rests", "found", "product", "p", "rest"]
abbrev P_together_in : List Str := ["primes", "rests"]
theorem sc_together_in : FnScope N_together_in P_together_in (defScope s_together_in) := ⟨rfl, rfl, rfl, by decide +kernel, rfl, by decide +kernel, by decide +kernel⟩
def c_together_in : Sm :=
  (.cons (.par [2, 3] (.cons (.cst (.int 0)) (.cons (.cst (.int 1)) .nil))) (.cons (.for_ (.tp [4, 5]) (.zp (.var 0) (.var 1)) (.cons (.aug 2 .Add (.bin .Mult (.var 3) (.bin .Mod (.bin .Mult (.bin .Sub (.var 5) (.var 2)) (.call "inverse_in" (.cons (.var 4) (.cons (.bin .Mod (.var 3) (.var 4)) .nil)))) (.var 4)))) (.cons (.aug 3 .Mult (.var 4)) .nil))) (.cons (.ret (.tup (.cons (.var 2) (.cons (.var 3) .nil)))) .nil)))
def L_together_in : List Str := "rest_by" :: L_rest_by
noncomputable def F_together_in : Str → List D → M D := addF F_rest_by "rest_by" d_rest_by
theorem ck_together_in : ckSs tabs.isE (tabs.cg.at_ N_together_in (defScope s_together_in) L_together_in) c_together_in (defBody s_together_in) = true := by decide +kernel
noncomputable def d_together_in : List D → M D := fnDen 2 6 (denS (tabs.B.withF F_together_in) c_together_in).s
/-! need_primes -/
abbrev s_need_primes : Stmt := topS 26
abbrev N_need_primes : List Str := ["primes", "some", "p"]
abbrev P_need_primes : List Str := ["primes"]
theorem sc_need_primes : FnScope N_need_primes P_need_primes (defScope s_need_primes) := ⟨rfl, rfl, rfl, by decide +kernel, rfl, by decide +kernel, by decide +kernel⟩
def c_need_primes : Sm :=
  (.cons (.set 1 (.blt .tuple (.cons (.var 0) .nil))) (.cons (.ite (.bop false (.cons (.nt (.var 1)) (.cons (.nt (.blt .all (.cons (.lc (.call "is_great" (.cons (.var 2) .nil)) (.nm 2) (.var 1) .nil) .nil))) (.cons (.cmp .Lt (.dcl (.var 2) (.cst (.bool true)) (.nm 2) (.var 1)) (.blt .len (.cons (.var 1) .nil))) .nil)))) (.cons (.rai "BadPaper" (.cons (.var 1) .nil)) .nil) .nil) .nil))
def L_need_primes : List Str := "together_in" :: L_together_in
noncomputable def F_need_primes : Str → List D → M D := addF F_together_in "together_in" d_together_in
theorem ck_need_primes : ckSs tabs.isE (tabs.cg.at_ N_need_primes (defScope s_need_primes) L_need_primes) c_need_primes (defBody s_need_primes) = true := by decide +kernel
noncomputable def d_need_primes : List D → M D := fnDen 1 3 (denS (tabs.B.withF F_need_primes) c_need_primes).s
/-! put_together -/
abbrev s_put_together : Stmt := topS 27
abbrev N_put_together : List Str := ["primes", "rests", "some", "p", "rest"]
abbrev P_put_together : List Str := ["primes", "rests"]
theorem sc_put_together : FnScope N_put_together P_put_together (defScope s_put_together) := ⟨rfl, rfl, rfl, by decide +kernel, rfl, by decide +kernel, by decide +kernel⟩
def c_put_together : Sm :=
  (.cons (.exp (.call "need_primes" (.cons (.var 0) .nil))) (.cons (.set 2 (.blt .tuple (.cons (.var 1) .nil))) (.cons (.ite (.bop false (.cons (.cmp .NotEq (.blt .len (.cons (.var 2) .nil)) (.blt .len (.cons (.var 0) .nil))) (.cons (.nt (.blt .all (.cons (.lc (.bop true (.cons (.call "is_count" (.cons (.var 4) .nil)) (.cons (.cmp .Lt (.var 4) (.var 3)) .nil))) (.tp [3, 4]) (.zp (.var 0) (.var 2)) .nil) .nil))) .nil))) (.cons (.rai "BadPaper" (.cons (.var 2) .nil)) .nil) .nil) (.cons (.ret (.ix (.call "together_in" (.cons (.var 0) (.cons (.var 2) .nil))) (.cst (.int 0)))) .nil))))
def L_put_together : List Str := "need_primes" :: L_need_primes
noncomputable def F_put_together : Str → List D → M D := addF F_need_primes "need_primes" d_need_primes
theorem ck_put_together : ckSs tabs.isE (tabs.cg.at_ N_put_together (defScope s_put_together) L_put_together) c_put_together (defBody s_put_together) = true := by decide +kernel
noncomputable def d_put_together : List D → M D := fnDen 2 5 (denS (tabs.B.withF F_put_together) c_put_together).s
/-! common_divisor -/
abbrev s_common_divisor : Stmt := topS 28
abbrev N_common_divisor : List Str := ["a", "b"]
abbrev P_common_divisor : List Str := ["a", "b"]
theorem sc_common_divisor : FnScope N_common_divisor P_common_divisor (defScope s_common_divisor) := ⟨rfl, rfl, rfl, by decide +kernel, rfl, by decide +kernel, by decide +kernel⟩
def c_common_divisor : Sm :=
  (.cons (.whl (.var 1) (.cons (.par [0, 1] (.cons (.var 1) (.cons (.bin .Mod (.var 0) (.var 1)) .nil))) .nil)) (.cons (.ret (.var 0)) .nil))
def L_common_divisor : List Str := "put_together" :: L_put_together
noncomputable def F_common_divisor : Str → List D → M D := addF F_put_together "put_together" d_put_together
theorem ck_common_divisor : ckSs tabs.isE (tabs.cg.at_ N_common_divisor (defScope s_common_divisor) L_common_divisor) c_common_divisor (defBody s_common_divisor) = true := by decide +kernel
noncomputable def d_common_divisor : List D → M D := fnDen 2 2 (denS (tabs.B.withF F_common_divisor) c_common_divisor).s
/-! back_in -/
abbrev s_back_in : Stmt := topS 29
abbrev N_back_in : List Str := ["rest", "modulus", "one", "two", "first", "second", "top", "bottom"]
abbrev P_back_in : List Str := ["rest", "modulus"]
theorem sc_back_in : FnScope N_back_in P_back_in (defScope s_back_in) := ⟨rfl, rfl, rfl, by decide +kernel, rfl, by decide +kernel, by decide +kernel⟩
def c_back_in : Sm :=
  (.cons (.par [2, 3, 4, 5] (.cons (.var 1) (.cons (.var 0) (.cons (.cst (.int 0)) (.cons (.cst (.int 1)) .nil))))) (.cons (.whl (.cmp .GtE (.bin .Mult (.bin .Mult (.cst (.int 2)) (.var 3)) (.var 3)) (.var 1)) (.cons (.par [2, 3, 4, 5] (.cons (.var 3) (.cons (.bin .Mod (.var 2) (.var 3)) (.cons (.var 5) (.cons (.bin .Sub (.var 4) (.bin .Mult (.bin .FloorDiv (.var 2) (.var 3)) (.var 5))) .nil))))) .nil)) (.cons (.unp (.tp [6, 7]) (.ite (.cmp .Gt (.var 5) (.cst (.int 0))) (.tup (.cons (.var 3) (.cons (.var 5) .nil))) (.tup (.cons (.neg (.var 3)) (.cons (.neg (.var 5)) .nil))))) (.cons (.ite (.bop false (.cons (.cmp .GtE (.bin .Mult (.bin .Mult (.cst (.int 2)) (.var 7)) (.var 7)) (.var 1)) (.cons (.cmp .NotEq (.call "common_divisor" (.cons (.var 7) (.cons (.var 1) .nil))) (.cst (.int 1))) (.cons (.cmp .NotEq (.call "common_divisor" (.cons (.blt .abs (.cons (.var 6) .nil)) (.cons (.var 7) .nil))) (.cst (.int 1))) .nil)))) (.cons (.ret (.cst .none)) .nil) .nil) (.cons (.ret (.tup (.cons (.var 6) (.cons (.var 7) .nil)))) .nil)))))
def L_back_in : List Str := "common_divisor" :: L_common_divisor
noncomputable def F_back_in : Str → List D → M D := addF F_common_divisor "common_divisor" d_common_divisor
theorem ck_back_in : ckSs tabs.isE (tabs.cg.at_ N_back_in (defScope s_back_in) L_back_in) c_back_in (defBody s_back_in) = true := by decide +kernel
noncomputable def d_back_in : List D → M D := fnDen 2 8 (denS (tabs.B.withF F_back_in) c_back_in).s
/-! brought_back -/
abbrev s_brought_back : Stmt := topS 30
abbrev N_brought_back : List Str := ["rest", "modulus"]
abbrev P_brought_back : List Str := ["rest", "modulus"]
theorem sc_brought_back : FnScope N_brought_back P_brought_back (defScope s_brought_back) := ⟨rfl, rfl, rfl, by decide +kernel, rfl, by decide +kernel, by decide +kernel⟩
def c_brought_back : Sm :=
  (.cons (.ite (.bop false (.cons (.nt (.call "is_count" (.cons (.var 1) .nil))) (.cons (.cmp .Eq (.var 1) (.cst (.int 0))) .nil))) (.cons (.rai "BadNumber" (.cons (.cst (.str "modulus")) (.cons (.var 1) .nil))) .nil) .nil) (.cons (.ite (.bop false (.cons (.nt (.call "is_count" (.cons (.var 0) .nil))) (.cons (.cmp .GtE (.var 0) (.var 1)) .nil))) (.cons (.rai "BadNumber" (.cons (.cst (.str "rest")) (.cons (.var 0) .nil))) .nil) .nil) (.cons (.ret (.ite (.cmp .Gt (.var 1) (.cst (.int 2))) (.call "back_in" (.cons (.var 0) (.cons (.var 1) .nil))) (.cst .none))) .nil)))
def L_brought_back : List Str := "back_in" :: L_back_in
noncomputable def F_brought_back : Str → List D → M D := addF F_back_in "back_in" d_back_in
theorem ck_brought_back : ckSs tabs.isE (tabs.cg.at_ N_brought_back (defScope s_brought_back) L_brought_back) c_brought_back (defBody s_brought_back) = true := by decide +kernel
noncomputable def d_brought_back : List D → M D := fnDen 2 2 (denS (tabs.B.withF F_brought_back) c_brought_back).s
/-! _law_pen -/
abbrev s_l_pen : Stmt := topS 32
abbrev N_l_pen : List Str := ["script", "fold", "cell"]
abbrev P_l_pen : List Str := ["script"]
theorem sc_l_pen : FnScope N_l_pen P_l_pen (defScope s_l_pen) := ⟨rfl, rfl, rfl, by decide +kernel, rfl, by decide +kernel, by decide +kernel⟩
def c_l_pen : Sm :=
  (.cons (.set 1 (.cst (.int 0))) (.cons (.for_ (.nm 2) (.var 0) (.cons (.set 1 (.bin .Mod (.blt .int (.cons (.bin .Add (.bin .Mult (.var 1) (.cst (.int 151))) (.var 2)) .nil)) (.cst (.int 1000000033)))) .nil)) (.cons (.ret (.dsp (.cons (.cst (.str "cells")) (.cons (.lsl (.var 0)) (.cons (.cst (.str "at")) (.cons (.cst (.int 0)) (.cons (.cst (.str "digits")) (.cons (.cst (.int 0)) (.cons (.cst (.str "count")) (.cons (.cst (.int 0)) (.cons (.cst (.str "fold")) (.cons (.var 1) .nil)))))))))))) .nil)))
def L_l_pen : List Str := "brought_back" :: L_brought_back
noncomputable def F_l_pen : Str → List D → M D := addF F_brought_back "brought_back" d_brought_back
theorem ck_l_pen : ckSs tabs.isE (tabs.cg.at_ N_l_pen (defScope s_l_pen) L_l_pen) c_l_pen (defBody s_l_pen) = true := by decide +kernel
noncomputable def d_l_pen : List D → M D := fnDen 1 3 (denS (tabs.B.withF F_l_pen) c_l_pen).s
/-! _law_draw -/
abbrev s_l_draw : Stmt := topS 33
abbrev N_l_draw : List Str := ["pen", "many", "cell", "digit", "blend"]
abbrev P_l_draw : List Str := ["pen", "many"]
theorem sc_l_draw : FnScope N_l_draw P_l_draw (defScope s_l_draw) := ⟨rfl, rfl, rfl, by decide +kernel, rfl, by decide +kernel, by decide +kernel⟩
def c_l_draw : Sm :=
  (.cons (.dset (.var 0) (.cst (.str "count")) (.bin .Add (.ix (.var 0) (.cst (.str "count"))) (.cst (.int 1)))) (.cons (.ite (.bop true (.cons (.cmp .Eq (.ix (.var 0) (.cst (.str "digits"))) (.cst (.int 0))) (.cons (.cmp .Lt (.ix (.var 0) (.cst (.str "at"))) (.blt .len (.cons (.ix (.var 0) (.cst (.str "cells"))) .nil))) .nil))) (.cons (.set 2 (.ix (.ix (.var 0) (.cst (.str "cells"))) (.ix (.var 0) (.cst (.str "at"))))) (.cons (.dset (.var 0) (.cst (.str "at")) (.bin .Add (.ix (.var 0) (.cst (.str "at"))) (.cst (.int 1)))) (.cons (.ite (.cmp .GtE (.var 2) (.bin .Pow (.cst (.int 10)) (.cst (.int 18)))) (.cons (.dset (.var 0) (.cst (.str "digits")) (.bin .Sub (.var 2) (.bin .Pow (.cst (.int 10)) (.cst (.int 18))))) .nil) (.cons (.dset (.var 0) (.cst (.str "fold")) (.bin .Mod (.blt .int (.cons (.bin .Add (.bin .Mult (.ix (.var 0) (.cst (.str "fold"))) (.cst (.int 73607))) (.var 2)) .nil)) (.cst (.int 2147483543)))) .nil)) .nil))) .nil) (.cons (.ite (.cmp .Gt (.ix (.var 0) (.cst (.str "digits"))) (.cst (.int 0))) (.cons (.set 3 (.bin .Mod (.blt .int (.cons (.ix (.var 0) (.cst (.str "digits"))) .nil)) (.var 1))) (.cons (.dset (.var 0) (.cst (.str "digits")) (.bin .FloorDiv (.ix (.var 0) (.cst (.str "digits"))) (.var 1))) (.cons (.ret (.var 3)) .nil))) .nil) (.cons (.set 4 (.bin .Add (.bin .Add (.ix (.var 0) (.cst (.str "fold"))) (.bin .Mult (.ix (.var 0) (.cst (.str "count"))) (.cst (.int 9601)))) (.cst (.int 151)))) (.cons (.ret (.bin .Mod (.bin .FloorDiv (.blt .int (.cons (.bin .Mod (.bin .Pow (.var 4) (.cst (.int 23))) (.cst (.int 2305843009213693951))) .nil)) (.cst (.int 128))) (.var 1))) .nil)))))
def L_l_draw : List Str := "_law_pen" :: L_l_pen
noncomputable def F_l_draw : Str → List D → M D := addF F_l_pen "_law_pen" d_l_pen
theorem ck_l_draw : ckSs tabs.isE (tabs.cg.at_ N_l_draw (defScope s_l_draw) L_l_draw) c_l_draw (defBody s_l_draw) = true := by decide +kernel
noncomputable def d_l_draw : List D → M D := fnDen 2 5 (denS (tabs.B.withF F_l_draw) c_l_draw).s
/-! _law_pick -/
abbrev s_l_pick : Stmt := topS 34
abbrev N_l_pick : List Str := ["pen", "some"]
abbrev P_l_pick : List Str := ["pen", "some"]
theorem sc_l_pick : FnScope N_l_pick P_l_pick (defScope s_l_pick) := ⟨rfl, rfl, rfl, by decide +kernel, rfl, by decide +kernel, by decide +kernel⟩
def c_l_pick : Sm :=
  (.cons (.ret (.ix (.var 1) (.call "_law_draw" (.cons (.var 0) (.cons (.blt .len (.cons (.var 1) .nil)) .nil))))) .nil)
def L_l_pick : List Str := "_law_draw" :: L_l_draw
noncomputable def F_l_pick : Str → List D → M D := addF F_l_draw "_law_draw" d_l_draw
theorem ck_l_pick : ckSs tabs.isE (tabs.cg.at_ N_l_pick (defScope s_l_pick) L_l_pick) c_l_pick (defBody s_l_pick) = true := by decide +kernel
noncomputable def d_l_pick : List D → M D := fnDen 2 2 (denS (tabs.B.withF F_l_pick) c_l_pick).s
/-! _law_gcd -/
abbrev s_l_gcd : Stmt := topS 35
abbrev N_l_gcd : List Str := ["a", "b", "lap"]
abbrev P_l_gcd : List Str := ["a", "b"]
theorem sc_l_gcd : FnScope N_l_gcd P_l_gcd (defScope s_l_gcd) := ⟨rfl, rfl, rfl, by decide +kernel, rfl, by decide +kernel, by decide +kernel⟩
def c_l_gcd : Sm :=
  (.cons (.par [0, 1] (.cons (.blt .abs (.cons (.var 0) .nil)) (.cons (.blt .abs (.cons (.var 1) .nil)) .nil))) (.cons (.for_ (.nm 2) (.rg1 (.cst (.int 400))) (.cons (.ite (.cmp .Eq (.var 1) (.cst (.int 0))) (.cons .brk .nil) .nil) (.cons (.par [0, 1] (.cons (.var 1) (.cons (.bin .Mod (.blt .int (.cons (.var 0) .nil)) (.var 1)) .nil))) .nil))) (.cons (.ret (.var 0)) .nil)))
def L_l_gcd : List Str := "_law_pick" :: L_l_pick
noncomputable def F_l_gcd : Str → List D → M D := addF F_l_pick "_law_pick" d_l_pick
theorem ck_l_gcd : ckSs tabs.isE (tabs.cg.at_ N_l_gcd (defScope s_l_gcd) L_l_gcd) c_l_gcd (defBody s_l_gcd) = true := by decide +kernel
noncomputable def d_l_gcd : List D → M D := fnDen 2 3 (denS (tabs.B.withF F_l_gcd) c_l_gcd).s
/-! _law_lowest -/
abbrev s_l_lowest : Stmt := topS 36
abbrev N_l_lowest : List Str := ["top", "bottom", "divisor"]
abbrev P_l_lowest : List Str := ["top", "bottom"]
theorem sc_l_lowest : FnScope N_l_lowest P_l_lowest (defScope s_l_lowest) := ⟨rfl, rfl, rfl, by decide +kernel, rfl, by decide +kernel, by decide +kernel⟩
def c_l_lowest : Sm :=
  (.cons (.set 2 (.call "_law_gcd" (.cons (.var 0) (.cons (.var 1) .nil)))) (.cons (.ite (.cmp .Lt (.var 1) (.cst (.int 0))) (.cons (.set 2 (.neg (.var 2))) .nil) .nil) (.cons (.ret (.tup (.cons (.blt .int (.cons (.bin .FloorDiv (.var 0) (.var 2)) .nil)) (.cons (.blt .int (.cons (.bin .FloorDiv (.var 1) (.var 2)) .nil)) .nil)))) .nil)))
def L_l_lowest : List Str := "_law_gcd" :: L_l_gcd
noncomputable def F_l_lowest : Str → List D → M D := addF F_l_gcd "_law_gcd" d_l_gcd
theorem ck_l_lowest : ckSs tabs.isE (tabs.cg.at_ N_l_lowest (defScope s_l_lowest) L_l_lowest) c_l_lowest (defBody s_l_lowest) = true := by decide +kernel
noncomputable def d_l_lowest : List D → M D := fnDen 2 3 (denS (tabs.B.withF F_l_lowest) c_l_lowest).s
/-! _law_call -/
abbrev s_l_call : Stmt := topS 37
abbrev N_l_call : List Str := ["way", "a", "b"]
abbrev P_l_call : List Str := ["way", "a", "b"]
theorem sc_l_call : FnScope N_l_call P_l_call (defScope s_l_call) := ⟨rfl, rfl, rfl, by decide +kernel, rfl, by decide +kernel, by decide +kernel⟩
def c_l_call : Sm :=
  (.cons (.ite (.cmp .Lt (.var 0) (.cst (.int 2))) (.cons (.ret (.ite (.cmp .Eq (.var 0) (.cst (.int 0))) (.call "next_great" (.cons (.var 1) .nil)) (.call "rest_by" (.cons (.var 1) (.cons (.var 2) .nil))))) .nil) .nil) (.cons (.ret (.ite (.cmp .Eq (.var 0) (.cst (.int 2))) (.call "put_together" (.cons (.var 1) (.cons (.var 2) .nil))) (.call "brought_back" (.cons (.var 1) (.cons (.var 2) .nil))))) .nil))
def L_l_call : List Str := "_law_lowest" :: L_l_lowest
noncomputable def F_l_call : Str → List D → M D := addF F_l_lowest "_law_lowest" d_l_lowest
theorem ck_l_call : ckSs tabs.isE (tabs.cg.at_ N_l_call (defScope s_l_call) L_l_call) c_l_call (defBody s_l_call) = true := by decide +kernel
noncomputable def d_l_call : List D → M D := fnDen 3 3 (denS (tabs.B.withF F_l_call) c_l_call).s
/-! _law_raised -/
abbrev s_l_raised : Stmt := topS 38
abbrev N_l_raised : List Str := ["way", "a", "b", "found", "e"]
abbrev P_l_raised : List Str := ["way", "a", "b"]
theorem sc_l_raised : FnScope N_l_raised P_l_raised (defScope s_l_raised) := ⟨rfl, rfl, rfl, by decide +kernel, rfl, by decide +kernel, by decide +kernel⟩
def c_l_raised : Sm :=
  (.cons (.set 3 (.cst (.str "none"))) (.cons (.try_ (.cons (.exp (.call "_law_call" (.cons (.var 0) (.cons (.var 1) (.cons (.var 2) .nil))))) .nil) (.hdl "BadNumber" (some 4) (.cons (.set 3 (.blt .repr (.cons (.tup (.cons (.xat 4 "what") (.cons (.xat 4 "number") .nil))) .nil))) .nil) (.hdl "BadPaper" (some 4) (.cons (.set 3 (.bin .Add (.cst (.str "paper ")) (.blt .repr (.cons (.xat 4 "paper") .nil)))) .nil) (.hdl "NotKept" (some 4) (.cons (.set 3 (.blt .repr (.cons (.tup (.cons (.xat 4 "promise") (.cons (.xat 4 "witness") .nil))) .nil))) .nil) (.hdl "KeptError" none (.cons (.set 3 (.cst (.str "other"))) .nil) .nil))))) (.cons (.ret (.var 3)) .nil)))
def L_l_raised : List Str := "_law_call" :: L_l_call
noncomputable def F_l_raised : Str → List D → M D := addF F_l_call "_law_call" d_l_call
theorem ck_l_raised : ckSs tabs.isE (tabs.cg.at_ N_l_raised (defScope s_l_raised) L_l_raised) c_l_raised (defBody s_l_raised) = true := by decide +kernel
noncomputable def d_l_raised : List D → M D := fnDen 3 5 (denS (tabs.B.withF F_l_raised) c_l_raised).s
/-! _law_is_prime -/
abbrev s_l_is_prime : Stmt := topS 39
abbrev N_l_is_prime : List Str := ["n", "k"]
abbrev P_l_is_prime : List Str := ["n"]
theorem sc_l_is_prime : FnScope N_l_is_prime P_l_is_prime (defScope s_l_is_prime) := ⟨rfl, rfl, rfl, by decide +kernel, rfl, by decide +kernel, by decide +kernel⟩
def c_l_is_prime : Sm :=
  (.cons (.ite (.bop false (.cons (.cmp .Lt (.var 0) (.cst (.int 2))) (.cons (.cmp .Eq (.bin .Mod (.var 0) (.cst (.int 2))) (.cst (.int 0))) .nil))) (.cons (.ret (.cmp .Eq (.var 0) (.cst (.int 2)))) .nil) .nil) (.cons (.set 1 (.cst (.int 3))) (.cons (.whl (.cmp .LtE (.bin .Mult (.var 1) (.var 1)) (.var 0)) (.cons (.ite (.cmp .Eq (.bin .Mod (.var 0) (.var 1)) (.cst (.int 0))) (.cons (.ret (.cst (.bool false))) .nil) .nil) (.cons (.set 1 (.bin .Add (.var 1) (.cst (.int 2)))) .nil))) (.cons (.ret (.cst (.bool true))) .nil))))
def L_l_is_prime : List Str := "_law_raised" :: L_l_raised
noncomputable def F_l_is_prime : Str → List D → M D := addF F_l_raised "_law_raised" d_l_raised
theorem ck_l_is_prime : ckSs tabs.isE (tabs.cg.at_ N_l_is_prime (defScope s_l_is_prime) L_l_is_prime) c_l_is_prime (defBody s_l_is_prime) = true := by decide +kernel
noncomputable def d_l_is_prime : List D → M D := fnDen 1 2 (denS (tabs.B.withF F_l_is_prime) c_l_is_prime).s
/-! _law_power_by -/
abbrev s_l_power_by : Stmt := topS 40
abbrev N_l_power_by : List Str := ["a", "n", "q", "found", "square", "left"]
abbrev P_l_power_by : List Str := ["a", "n", "q"]
theorem sc_l_power_by : FnScope N_l_power_by P_l_power_by (defScope s_l_power_by) := ⟨rfl, rfl, rfl, by decide +kernel, rfl, by decide +kernel, by decide +kernel⟩
def c_l_power_by : Sm :=
  (.cons (.par [3, 4, 5] (.cons (.cst (.int 1)) (.cons (.bin .Mod (.blt .int (.cons (.var 0) .nil)) (.var 2)) (.cons (.var 1) .nil)))) (.cons (.whl (.cmp .Gt (.var 5) (.cst (.int 0))) (.cons (.ite (.cmp .Eq (.bin .Mod (.var 5) (.cst (.int 2))) (.cst (.int 1))) (.cons (.set 3 (.bin .Mod (.blt .int (.cons (.bin .Mult (.var 3) (.var 4)) .nil)) (.var 2))) .nil) .nil) (.cons (.par [4, 5] (.cons (.bin .Mod (.blt .int (.cons (.bin .Mult (.var 4) (.var 4)) .nil)) (.var 2)) (.cons (.bin .FloorDiv (.var 5) (.cst (.int 2))) .nil))) .nil))) (.cons (.ret (.var 3)) .nil)))
def L_l_power_by : List Str := "_law_is_prime" :: L_l_is_prime
noncomputable def F_l_power_by : Str → List D → M D := addF F_l_is_prime "_law_is_prime" d_l_is_prime
theorem ck_l_power_by : ckSs tabs.isE (tabs.cg.at_ N_l_power_by (defScope s_l_power_by) L_l_power_by) c_l_power_by (defBody s_l_power_by) = true := by decide +kernel
noncomputable def d_l_power_by : List D → M D := fnDen 3 6 (denS (tabs.B.withF F_l_power_by) c_l_power_by).s
/-! _law_errors_right -/
abbrev s_l_errors_right : Stmt := topS 41
abbrev N_l_errors_right : List Str := ["p", "odd", "odds"]
abbrev P_l_errors_right : List Str := ["p"]
theorem sc_l_errors_right : FnScope N_l_errors_right P_l_errors_right (defScope s_l_errors_right) := ⟨rfl, rfl, rfl, by decide +kernel, rfl, by decide +kernel, by decide +kernel⟩
def c_l_errors_right : Sm :=
  (.cons (.for_ (.nm 1) (.lst (.cons (.cst .none) (.cons (.neg (.cst (.int 1))) (.cons (.cst (.bool true)) (.cons (.cst (.str "1")) (.cons (.cst (.int 999999937)) (.cons (.bin .Pow (.cst (.int 10)) (.cst (.int 12))) .nil))))))) (.cons (.ite (.cmp .NotEq (.call "_law_raised" (.cons (.cst (.int 0)) (.cons (.var 1) (.cons (.cst .none) .nil)))) (.blt .repr (.cons (.tup (.cons (.cst (.str "n")) (.cons (.var 1) .nil))) .nil))) (.cons (.ret (.cst (.bool false))) .nil) .nil) .nil)) (.cons (.for_ (.nm 1) (.lst (.cons (.cst .none) (.cons (.cst (.int 5)) (.cons (.cst (.int 1000001)) (.cons (.cst (.int 1000005)) (.cons (.cst (.bool true)) (.cons (.cst (.str "1000003")) (.cons (.bin .Pow (.cst (.int 10)) (.cst (.int 12))) .nil)))))))) (.cons (.ite (.cmp .NotEq (.call "_law_raised" (.cons (.cst (.int 1)) (.cons (.var 1) (.cons (.cst .none) .nil)))) (.blt .repr (.cons (.tup (.cons (.cst (.str "p")) (.cons (.var 1) .nil))) .nil))) (.cons (.ret (.cst (.bool false))) .nil) .nil) .nil)) (.cons (.for_ (.nm 1) (.lst (.cons (.cst .none) (.cons (.cst (.int 3)) (.cons (.tup (.cons (.cst (.int 2)) (.cons (.cst (.int 4)) .nil))) (.cons (.tup (.cons (.cst (.int 1)) (.cons (.cst (.int 0)) .nil))) (.cons (.tup (.cons (.cst (.int 1)) (.cons (.neg (.cst (.int 2))) .nil))) (.cons (.tup (.cons (.cst (.int 1)) .nil)) (.cons (.lst (.cons (.cst (.int 1)) (.cons (.cst (.int 2)) .nil))) (.cons (.tup (.cons (.cst (.bool true)) (.cons (.cst (.int 2)) .nil))) .nil))))))))) (.cons (.ite (.cmp .NotEq (.call "_law_raised" (.cons (.cst (.int 1)) (.cons (.var 0) (.cons (.var 1) .nil)))) (.blt .repr (.cons (.tup (.cons (.cst (.str "number")) (.cons (.var 1) .nil))) .nil))) (.cons (.ret (.cst (.bool false))) .nil) .nil) .nil)) (.cons (.ite (.cmp .NotEq (.call "_law_raised" (.cons (.cst (.int 1)) (.cons (.var 0) (.cons (.tup (.cons (.cst (.int 1)) (.cons (.bin .Mult (.cst (.int 2)) (.var 0)) .nil))) .nil)))) (.blt .repr (.cons (.tup (.cons (.cst (.str "bottom")) (.cons (.bin .Mult (.cst (.int 2)) (.var 0)) .nil))) .nil))) (.cons (.ret (.cst (.bool false))) .nil) .nil) (.cons (.for_ (.nm 1) (.lst (.cons (.lst .nil) (.cons (.lst (.cons (.var 0) (.cons (.var 0) .nil))) (.cons (.lst (.cons (.cst (.int 5)) .nil)) (.cons (.lst (.cons (.var 0) (.cons (.cst .none) .nil))) (.cons (.lst (.cons (.var 0) (.cons (.cst (.int 1000001)) .nil))) .nil)))))) (.cons (.ite (.cmp .NotEq (.call "_law_raised" (.cons (.cst (.int 2)) (.cons (.var 1) (.cons (.rep (.cons (.cst (.int 0)) .nil) (.blt .len (.cons (.var 1) .nil))) .nil)))) (.bin .Add (.cst (.str "paper ")) (.blt .repr (.cons (.blt .tuple (.cons (.var 1) .nil)) .nil)))) (.cons (.ret (.cst (.bool false))) .nil) .nil) .nil)) (.cons (.for_ (.nm 1) (.lst (.cons (.lst .nil) (.cons (.lst (.cons (.cst (.int 0)) (.cons (.cst (.int 0)) .nil))) (.cons (.lst (.cons (.var 0) .nil)) (.cons (.lst (.cons (.neg (.cst (.int 1))) .nil)) (.cons (.lst (.cons (.cst .none) .nil)) (.cons (.lst (.cons (.cst (.bool true)) .nil)) .nil))))))) (.cons (.ite (.cmp .NotEq (.call "_law_raised" (.cons (.cst (.int 2)) (.cons (.lst (.cons (.var 0) .nil)) (.cons (.var 1) .nil)))) (.bin .Add (.cst (.str "paper ")) (.blt .repr (.cons (.blt .tuple (.cons (.var 1) .nil)) .nil)))) (.cons (.ret (.cst (.bool false))) .nil) .nil) .nil)) (.cons (.for_ (.nm 1) (.lst (.cons (.cst .none) (.cons (.cst (.int 0)) (.cons (.neg (.cst (.int 1))) (.cons (.cst (.bool true)) .nil))))) (.cons (.ite (.cmp .NotEq (.call "_law_raised" (.cons (.cst (.int 3)) (.cons (.cst .none) (.cons (.var 1) .nil)))) (.blt .repr (.cons (.tup (.cons (.cst (.str "modulus")) (.cons (.var 1) .nil))) .nil))) (.cons (.ret (.cst (.bool false))) .nil) .nil) .nil)) (.cons (.set 2 (.lst (.cons (.cst .none) (.cons (.neg (.cst (.int 1))) (.cons (.var 0) (.cons (.cst (.bool true)) .nil)))))) (.cons (.ret (.cmp .Eq (.lc (.call "_law_raised" (.cons (.cst (.int 3)) (.cons (.var 1) (.cons (.var 0) .nil)))) (.nm 1) (.var 2) .nil) (.lc (.blt .repr (.cons (.tup (.cons (.cst (.str "rest")) (.cons (.var 1) .nil))) .nil)) (.nm 1) (.var 2) .nil))) .nil)))))))))
def L_l_errors_right : List Str := "_law_power_by" :: L_l_power_by
noncomputable def F_l_errors_right : Str → List D → M D := addF F_l_power_by "_law_power_by" d_l_power_by
theorem ck_l_errors_right : ckSs tabs.isE (tabs.cg.at_ N_l_errors_right (defScope s_l_errors_right) L_l_errors_right) c_l_errors_right (defBody s_l_errors_right) = true := by decide +kernel
noncomputable def d_l_errors_right : List D → M D := fnDen 1 3 (denS (tabs.B.withF F_l_errors_right) c_l_errors_right).s
/-! law -/
abbrev s_law : Stmt := topS 42
abbrev N_law : List Str := ["script", "pen", "begin", "p", "between", "n", "primes", "lap", "modulus", "q", "time", "size", "some", "rests", "rest", "small", "told", "top", "bottom", "m", "due", "fits"]
abbrev P_law : List Str := ["script"]
theorem sc_law : FnScope N_law P_law (defScope s_law) := ⟨rfl, rfl, rfl, by decide +kernel, rfl, by decide +kernel, by decide +kernel⟩
def c_law : Sm :=
  (.cons (.set 1 (.call "_law_pen" (.cons (.var 0) .nil))) (.cons (.set 2 (.call "_law_pick" (.cons (.var 1) (.cons (.lst (.cons (.cst (.int 0)) (.cons (.cst (.int 1000002)) (.cons (.bin .Add (.cst (.int 1000003)) (.call "_law_draw" (.cons (.var 1) (.cons (.bin .Pow (.cst (.int 10)) (.cst (.int 6))) .nil)))) .nil)))) .nil)))) (.cons (.set 3 (.call "next_great" (.cons (.var 2) .nil))) (.cons (.ite (.bop false (.cons (.cmp .LtE (.var 3) (.var 2)) (.cons (.cmp .Lt (.var 3) (.cst (.int 1000003))) (.cons (.nt (.call "_law_is_prime" (.cons (.var 3) .nil))) .nil)))) (.cons (.ret (.cst (.bool false))) .nil) .nil) (.cons (.set 4 (.lrg (.blt .max (.cons (.bin .Add (.var 2) (.cst (.int 1))) (.cons (.cst (.int 1000003)) .nil))) (.var 3))) (.cons (.ite (.bop false (.cons (.cmp .NotEq (.lc (.var 5) (.nm 5) (.slc (.var 4) .no (.cst (.int 6))) (.cons (.call "_law_is_prime" (.cons (.var 5) .nil)) .nil)) (.lst .nil)) (.cons (.nt (.call "_law_errors_right" (.cons (.var 3) .nil))) .nil))) (.cons (.ret (.cst (.bool false))) .nil) .nil) (.cons (.setL 6 (.lst (.cons (.var 3) .nil))) (.cons (.for_ (.nm 7) (.rg1 (.call "_law_draw" (.cons (.var 1) (.cons (.cst (.int 4)) .nil)))) (.cons (.app 6 (.call "next_great" (.cons (.bin .Add (.owx 6 (.neg (.cst (.int 1)))) (.call "_law_draw" (.cons (.var 1) (.cons (.cst (.int 50)) .nil)))) .nil))) .nil)) (.cons (.set 8 (.cst (.int 1))) (.cons (.frz 6) (.cons (.for_ (.nm 9) (.var 6) (.cons (.set 8 (.bin .Mult (.var 8) (.var 9))) .nil)) (.cons (.for_ (.nm 10) (.rg1 (.cst (.int 5))) (.cons (.set 11 (.call "_law_pick" (.cons (.var 1) (.cons (.lst (.cons (.cst (.int 5)) (.cons (.cst (.int 600)) (.cons (.bin .Pow (.cst (.int 10)) (.cst (.int 5))) (.cons (.bin .Pow (.cst (.int 10)) (.cst (.int 9))) .nil))))) .nil)))) (.cons (.set 12 (.call "_law_lowest" (.cons (.bin .Sub (.call "_law_draw" (.cons (.var 1) (.cons (.bin .Mult (.cst (.int 2)) (.var 11)) .nil))) (.var 11)) (.cons (.bin .Add (.cst (.int 1)) (.call "_law_draw" (.cons (.var 1) (.cons (.var 11) .nil)))) .nil)))) (.cons (.setL 13 (.lc (.bin .Mod (.blt .int (.cons (.bin .Mult (.ix (.var 12) (.cst (.int 0))) (.call "_law_power_by" (.cons (.ix (.var 12) (.cst (.int 1))) (.cons (.bin .Sub (.var 9) (.cst (.int 2))) (.cons (.var 9) .nil))))) .nil)) (.var 9)) (.nm 9) (.var 6) (.cons (.cmp .NotEq (.bin .Mod (.ix (.var 12) (.cst (.int 1))) (.var 9)) (.cst (.int 0))) .nil))) (.cons (.frz 13) (.cons (.ite (.cmp .Lt (.blt .len (.cons (.var 13) .nil)) (.blt .len (.cons (.var 6) .nil))) (.cons .cnt .nil) .nil) (.cons (.ite (.cmp .NotEq (.lc (.call "rest_by" (.cons (.var 9) (.cons (.var 12) .nil))) (.nm 9) (.var 6) .nil) (.var 13)) (.cons (.ret (.cst (.bool false))) .nil) .nil) (.cons (.set 14 (.call "put_together" (.cons (.call "_law_pick" (.cons (.var 1) (.cons (.lst (.cons (.var 6) (.cons (.blt .tuple (.cons (.var 6) .nil)) .nil))) .nil))) (.cons (.var 13) .nil)))) (.cons (.ite (.bop false (.cons (.nt (.chn .LtE .Lt (.cst (.int 0)) (.var 14) (.var 8))) (.cons (.cmp .NotEq (.lc (.bin .Mod (.blt .int (.cons (.var 14) .nil)) (.var 9)) (.nm 9) (.var 6) .nil) (.var 13)) .nil))) (.cons (.ret (.cst (.bool false))) .nil) .nil) (.cons (.set 15 (.bop true (.cons (.cmp .Lt (.bin .Mult (.bin .Mult (.cst (.int 2)) (.ix (.var 12) (.cst (.int 0)))) (.ix (.var 12) (.cst (.int 0)))) (.var 8)) (.cons (.cmp .Lt (.bin .Mult (.bin .Mult (.cst (.int 2)) (.ix (.var 12) (.cst (.int 1)))) (.ix (.var 12) (.cst (.int 1)))) (.var 8)) .nil)))) (.cons (.set 16 (.call "brought_back" (.cons (.var 14) (.cons (.var 8) .nil)))) (.cons (.ite (.bop true (.cons (.var 15) (.cons (.cmp .NotEq (.blt .repr (.cons (.var 16) .nil)) (.blt .repr (.cons (.var 12) .nil))) .nil))) (.cons (.ret (.cst (.bool false))) .nil) .nil) (.cons (.ite (.cmp .IsNot (.var 16) (.cst .none)) (.cons (.unp (.tp [17, 18]) (.var 16)) (.cons (.ite (.bop false (.cons (.cmp .GtE (.bin .Mult (.bin .Mult (.cst (.int 2)) (.var 17)) (.var 17)) (.var 8)) (.cons (.cmp .GtE (.bin .Mult (.bin .Mult (.cst (.int 2)) (.var 18)) (.var 18)) (.var 8)) (.cons (.cmp .Lt (.var 18) (.cst (.int 1))) .nil)))) (.cons (.ret (.cst (.bool false))) .nil) .nil) (.cons (.ite (.bop false (.cons (.cmp .NotEq (.call "_law_gcd" (.cons (.var 17) (.cons (.var 18) .nil))) (.cst (.int 1))) (.cons (.cmp .NotEq (.bin .Mod (.blt .int (.cons (.bin .Sub (.var 17) (.bin .Mult (.var 14) (.var 18))) .nil)) (.var 8)) (.cst (.int 0))) (.cons (.bop true (.cons (.nt (.var 15)) (.cons (.cmp .Eq (.var 16) (.var 12)) .nil))) .nil)))) (.cons (.ret (.cst (.bool false))) .nil) .nil) .nil))) .nil) .nil))))))))))))) (.cons (.set 19 (.bin .Add (.cst (.int 3)) (.call "_law_draw" (.cons (.var 1) (.cons (.cst (.int 60)) .nil))))) (.cons (.par [14, 20] (.cons (.call "_law_draw" (.cons (.var 1) (.cons (.var 19) .nil))) (.cons (.cst .none) .nil))) (.cons (.for_ (.nm 18) (.rg2 (.cst (.int 1)) (.var 19)) (.cons (.for_ (.nm 17) (.rg2 (.neg (.var 19)) (.bin .Add (.var 19) (.cst (.int 1)))) (.cons (.set 21 (.bop true (.cons (.cmp .Lt (.bin .Mult (.bin .Mult (.cst (.int 2)) (.var 17)) (.var 17)) (.var 19)) (.cons (.cmp .Lt (.bin .Mult (.bin .Mult (.cst (.int 2)) (.var 18)) (.var 18)) (.var 19)) (.cons (.cmp .Eq (.call "_law_gcd" (.cons (.var 17) (.cons (.var 18) .nil))) (.cst (.int 1))) .nil))))) (.cons (.ite (.bop true (.cons (.var 21) (.cons (.cmp .Eq (.call "_law_gcd" (.cons (.var 18) (.cons (.var 19) .nil))) (.cst (.int 1))) (.cons (.cmp .Eq (.bin .Mod (.blt .int (.cons (.bin .Sub (.var 17) (.bin .Mult (.var 14) (.var 18))) .nil)) (.var 19)) (.cst (.int 0))) .nil)))) (.cons (.set 20 (.tup (.cons (.var 17) (.cons (.var 18) .nil)))) .nil) .nil) .nil))) .nil)) (.cons (.ret (.cmp .Eq (.blt .repr (.cons (.call "brought_back" (.cons (.var 14) (.cons (.var 19) .nil))) .nil)) (.blt .repr (.cons (.var 20) .nil)))) .nil))))))))))))))))
def L_law : List Str := "_law_errors_right" :: L_l_errors_right
noncomputable def F_law : Str → List D → M D := addF F_l_errors_right "_law_errors_right" d_l_errors_right
theorem ck_law : ckSs tabs.isE (tabs.cg.at_ N_law (defScope s_law) L_law) c_law (defBody s_law) = true := by decide +kernel
noncomputable def d_law : List D → M D := fnDen 1 22 (denS (tabs.B.withF F_law) c_law).s
abbrev i_BadNumber : Stmt := initS 3
theorem si_BadNumber : FnScope ["self", "what", "number"] ["self", "what", "number"] (defScope i_BadNumber) := ⟨rfl, rfl, rfl, by decide +kernel, rfl, by decide +kernel, by decide +kernel⟩
theorem ib_BadNumber : initB ["what", "number"] (defBody i_BadNumber) = true := by decide +kernel
abbrev i_BadPaper : Stmt := initS 4
theorem si_BadPaper : FnScope ["self", "paper"] ["self", "paper"] (defScope i_BadPaper) := ⟨rfl, rfl, rfl, by decide +kernel, rfl, by decide +kernel, by decide +kernel⟩
theorem ib_BadPaper : initB ["paper"] (defBody i_BadPaper) = true := by decide +kernel
abbrev i_NotKept : Stmt := initS 5
theorem si_NotKept : FnScope ["self", "promise", "witness"] ["self", "promise", "witness"] (defScope i_NotKept) := ⟨rfl, rfl, rfl, by decide +kernel, rfl, by decide +kernel, by decide +kernel⟩
theorem ib_NotKept : initB ["promise", "witness"] (defBody i_NotKept) = true := by decide +kernel
end K22

/-! The pieces of the core texts. Printed by split.py. -/
namespace K22
open PySem PySem.Spec PyProof.Rows L2 Dn
def t_is_whole_0 : Sm := (.ret (.bop true (.cons (.isi (.var 0) ["int"]) (.cons (.nt (.isi (.var 0) ["bool"])) .nil))))
theorem sp_is_whole : c_is_whole = (.cons t_is_whole_0 .nil) := rfl
def t_is_count_0 : Sm := (.ret (.bop true (.cons (.call "is_whole" (.cons (.var 0) .nil)) (.cons (.cmp .GtE (.var 0) (.cst (.int 0))) .nil))))
theorem sp_is_count : c_is_count = (.cons t_is_count_0 .nil) := rfl
def t_is_fraction_0a_0 : Sm := (.ret (.cst (.bool false)))
def t_is_fraction_0a : Sm := (.cons t_is_fraction_0a_0 .nil)
def t_is_fraction_0e : Sm := .nil
def t_is_fraction_0t : Ex := (.bop false (.cons (.nt (.isi (.var 0) ["tuple"])) (.cons (.cmp .NotEq (.blt .len (.cons (.var 0) .nil)) (.cst (.int 2))) (.cons (.nt (.blt .all (.cons (.lc (.call "is_whole" (.cons (.var 1) .nil)) (.nm 1) (.var 0) .nil) .nil))) .nil))))
def t_is_fraction_0 : Sm := .ite t_is_fraction_0t t_is_fraction_0a t_is_fraction_0e
def t_is_fraction_1 : Sm := (.ret (.bop true (.cons (.cmp .Gt (.ix (.var 0) (.cst (.int 1))) (.cst (.int 0))) (.cons (.cmp .Eq (.blt .gcd (.cons (.ix (.var 0) (.cst (.int 0))) (.cons (.ix (.var 0) (.cst (.int 1))) .nil))) (.cst (.int 1))) .nil))))
theorem sp_is_fraction : c_is_fraction = (.cons t_is_fraction_0 (.cons t_is_fraction_1 .nil)) := rfl
def t_unit_in_0 : Sm := (.ret (.ite (.cmp .Eq (.var 0) (.cst (.int 0))) (.tup (.cons (.cst (.int 1)) (.cons (.cst (.int 1)) .nil))) (.cst (.int 1))))
theorem sp_unit_in : c_unit_in = (.cons t_unit_in_0 .nil) := rfl
def t_reduced_0 : Sm := (.set 2 (.blt .gcd (.cons (.var 0) (.cons (.var 1) .nil))))
def t_reduced_1a_0 : Sm := (.set 2 (.neg (.var 2)))
def t_reduced_1a : Sm := (.cons t_reduced_1a_0 .nil)
def t_reduced_1e : Sm := .nil
def t_reduced_1t : Ex := (.cmp .Lt (.var 1) (.cst (.int 0)))
def t_reduced_1 : Sm := .ite t_reduced_1t t_reduced_1a t_reduced_1e
def t_reduced_2 : Sm := (.ret (.tup (.cons (.bin .FloorDiv (.var 0) (.var 2)) (.cons (.bin .FloorDiv (.var 1) (.var 2)) .nil))))
theorem sp_reduced : c_reduced = (.cons t_reduced_0 (.cons t_reduced_1 (.cons t_reduced_2 .nil))) := rfl
def t_times_in_0a_0 : Sm := (.ret (.call "reduced" (.cons (.bin .Mult (.ix (.var 1) (.cst (.int 0))) (.ix (.var 2) (.cst (.int 0)))) (.cons (.bin .Mult (.ix (.var 1) (.cst (.int 1))) (.ix (.var 2) (.cst (.int 1)))) .nil))))
def t_times_in_0a : Sm := (.cons t_times_in_0a_0 .nil)
def t_times_in_0e : Sm := .nil
def t_times_in_0t : Ex := (.cmp .Eq (.var 0) (.cst (.int 0)))
def t_times_in_0 : Sm := .ite t_times_in_0t t_times_in_0a t_times_in_0e
def t_times_in_1 : Sm := (.ret (.bin .Mod (.bin .Mult (.var 1) (.var 2)) (.var 0)))
theorem sp_times_in : c_times_in = (.cons t_times_in_0 (.cons t_times_in_1 .nil)) := rfl
def t_power_in_0 : Sm := (.par [3, 4] (.cons (.call "unit_in" (.cons (.var 0) .nil)) (.cons (.var 1) .nil)))
def t_power_in_1b_0a_0 : Sm := (.set 3 (.call "times_in" (.cons (.var 0) (.cons (.var 3) (.cons (.var 4) .nil)))))
def t_power_in_1b_0a : Sm := (.cons t_power_in_1b_0a_0 .nil)
def t_power_in_1b_0e : Sm := .nil
def t_power_in_1b_0t : Ex := (.bin .Mod (.var 2) (.cst (.int 2)))
def t_power_in_1b_0 : Sm := .ite t_power_in_1b_0t t_power_in_1b_0a t_power_in_1b_0e
def t_power_in_1b_1 : Sm := (.set 4 (.call "times_in" (.cons (.var 0) (.cons (.var 4) (.cons (.var 4) .nil)))))
def t_power_in_1b_2 : Sm := (.aug 2 .FloorDiv (.cst (.int 2)))
def t_power_in_1b : Sm := (.cons t_power_in_1b_0 (.cons t_power_in_1b_1 (.cons t_power_in_1b_2 .nil)))
def t_power_in_1t : Ex := (.var 2)
def t_power_in_1 : Sm := .whl t_power_in_1t t_power_in_1b
def t_power_in_2 : Sm := (.ret (.var 3))
theorem sp_power_in : c_power_in = (.cons t_power_in_0 (.cons t_power_in_1 (.cons t_power_in_2 .nil))) := rfl
def t_inverse_in_0 : Sm := (.ret (.ite (.cmp .Eq (.var 0) (.cst (.int 0))) (.call "reduced" (.cons (.ix (.var 1) (.cst (.int 1))) (.cons (.ix (.var 1) (.cst (.int 0))) .nil))) (.call "power_in" (.cons (.var 0) (.cons (.var 1) (.cons (.bin .Sub (.var 0) (.cst (.int 2))) .nil))))))
theorem sp_inverse_in : c_inverse_in = (.cons t_inverse_in_0 .nil) := rfl
def t_is_prime_number_0a_0 : Sm := (.ret (.cst (.bool false)))
def t_is_prime_number_0a : Sm := (.cons t_is_prime_number_0a_0 .nil)
def t_is_prime_number_0e : Sm := .nil
def t_is_prime_number_0t : Ex := (.cmp .Eq (.bin .Mod (.var 0) (.cst (.int 2))) (.cst (.int 0)))
def t_is_prime_number_0 : Sm := .ite t_is_prime_number_0t t_is_prime_number_0a t_is_prime_number_0e
def t_is_prime_number_1 : Sm := (.set 1 (.cst (.int 3)))
def t_is_prime_number_2b_0a_0 : Sm := (.ret (.cst (.bool false)))
def t_is_prime_number_2b_0a : Sm := (.cons t_is_prime_number_2b_0a_0 .nil)
def t_is_prime_number_2b_0e : Sm := .nil
def t_is_prime_number_2b_0t : Ex := (.cmp .Eq (.bin .Mod (.var 0) (.var 1)) (.cst (.int 0)))
def t_is_prime_number_2b_0 : Sm := .ite t_is_prime_number_2b_0t t_is_prime_number_2b_0a t_is_prime_number_2b_0e
def t_is_prime_number_2b_1 : Sm := (.aug 1 .Add (.cst (.int 2)))
def t_is_prime_number_2b : Sm := (.cons t_is_prime_number_2b_0 (.cons t_is_prime_number_2b_1 .nil))
def t_is_prime_number_2t : Ex := (.cmp .LtE (.bin .Mult (.var 1) (.var 1)) (.var 0))
def t_is_prime_number_2 : Sm := .whl t_is_prime_number_2t t_is_prime_number_2b
def t_is_prime_number_3 : Sm := (.ret (.cst (.bool true)))
theorem sp_is_prime_number : c_is_prime_number = (.cons t_is_prime_number_0 (.cons t_is_prime_number_1 (.cons t_is_prime_number_2 (.cons t_is_prime_number_3 .nil)))) := rfl
def t_is_great_0 : Sm := (.ret (.bop true (.cons (.call "is_count" (.cons (.var 0) .nil)) (.cons (.chn .LtE .LtE (.glc "LEAST_GREAT") (.var 0) (.glc "LAST_GREAT")) (.cons (.call "is_prime_number" (.cons (.var 0) .nil)) .nil)))))
theorem sp_is_great : c_is_great = (.cons t_is_great_0 .nil) := rfl
def t_need_great_0a_0 : Sm := (.rai "BadNumber" (.cons (.cst (.str "p")) (.cons (.var 0) .nil)))
def t_need_great_0a : Sm := (.cons t_need_great_0a_0 .nil)
def t_need_great_0e : Sm := .nil
def t_need_great_0t : Ex := (.nt (.call "is_great" (.cons (.var 0) .nil)))
def t_need_great_0 : Sm := .ite t_need_great_0t t_need_great_0a t_need_great_0e
theorem sp_need_great : c_need_great = (.cons t_need_great_0 .nil) := rfl
def t_next_in_0 : Sm := (.set 0 (.blt .max (.cons (.bin .Add (.var 0) (.cst (.int 1))) (.cons (.glc "LEAST_GREAT") .nil))))
def t_next_in_1b_0 : Sm := (.aug 0 .Add (.cst (.int 1)))
def t_next_in_1b : Sm := (.cons t_next_in_1b_0 .nil)
def t_next_in_1t : Ex := (.nt (.call "is_prime_number" (.cons (.var 0) .nil)))
def t_next_in_1 : Sm := .whl t_next_in_1t t_next_in_1b
def t_next_in_2 : Sm := (.ret (.var 0))
theorem sp_next_in : c_next_in = (.cons t_next_in_0 (.cons t_next_in_1 (.cons t_next_in_2 .nil))) := rfl
def t_next_great_0a_0 : Sm := (.rai "BadNumber" (.cons (.cst (.str "n")) (.cons (.var 0) .nil)))
def t_next_great_0a : Sm := (.cons t_next_great_0a_0 .nil)
def t_next_great_0e : Sm := .nil
def t_next_great_0t : Ex := (.bop false (.cons (.nt (.call "is_count" (.cons (.var 0) .nil))) (.cons (.cmp .GtE (.var 0) (.glc "LAST_GREAT")) .nil)))
def t_next_great_0 : Sm := .ite t_next_great_0t t_next_great_0a t_next_great_0e
def t_next_great_1 : Sm := (.ret (.call "next_in" (.cons (.var 0) .nil)))
theorem sp_next_great : c_next_great = (.cons t_next_great_0 (.cons t_next_great_1 .nil)) := rfl
def t_rest_in_0 : Sm := (.ret (.bin .Mod (.bin .Mult (.ix (.var 1) (.cst (.int 0))) (.call "inverse_in" (.cons (.var 0) (.cons (.bin .Mod (.ix (.var 1) (.cst (.int 1))) (.var 0)) .nil)))) (.var 0)))
theorem sp_rest_in : c_rest_in = (.cons t_rest_in_0 .nil) := rfl
def t_rest_by_0 : Sm := (.exp (.call "need_great" (.cons (.var 0) .nil)))
def t_rest_by_1a_0 : Sm := (.rai "BadNumber" (.cons (.cst (.str "number")) (.cons (.var 1) .nil)))
def t_rest_by_1a : Sm := (.cons t_rest_by_1a_0 .nil)
def t_rest_by_1e : Sm := .nil
def t_rest_by_1t : Ex := (.nt (.call "is_fraction" (.cons (.var 1) .nil)))
def t_rest_by_1 : Sm := .ite t_rest_by_1t t_rest_by_1a t_rest_by_1e
def t_rest_by_2a_0 : Sm := (.rai "NotKept" (.cons (.cst (.str "bottom")) (.cons (.ix (.var 1) (.cst (.int 1))) .nil)))
def t_rest_by_2a : Sm := (.cons t_rest_by_2a_0 .nil)
def t_rest_by_2e : Sm := .nil
def t_rest_by_2t : Ex := (.cmp .Eq (.bin .Mod (.ix (.var 1) (.cst (.int 1))) (.var 0)) (.cst (.int 0)))
def t_rest_by_2 : Sm := .ite t_rest_by_2t t_rest_by_2a t_rest_by_2e
def t_rest_by_3 : Sm := (.ret (.call "rest_in" (.cons (.var 0) (.cons (.var 1) .nil))))
theorem sp_rest_by : c_rest_by = (.cons t_rest_by_0 (.cons t_rest_by_1 (.cons t_rest_by_2 (.cons t_rest_by_3 .nil)))) := rfl
def t_together_in_0 : Sm := (.par [2, 3] (.cons (.cst (.int 0)) (.cons (.cst (.int 1)) .nil)))
def t_together_in_1b_0 : Sm := (.aug 2 .Add (.bin .Mult (.var 3) (.bin .Mod (.bin .Mult (.bin .Sub (.var 5) (.var 2)) (.call "inverse_in" (.cons (.var 4) (.cons (.bin .Mod (.var 3) (.var 4)) .nil)))) (.var 4))))
def t_together_in_1b_1 : Sm := (.aug 3 .Mult (.var 4))
def t_together_in_1b : Sm := (.cons t_together_in_1b_0 (.cons t_together_in_1b_1 .nil))
def t_together_in_1t : Ex := (.zp (.var 0) (.var 1))
def t_together_in_1 : Sm := .for_ (.tp [4, 5]) t_together_in_1t t_together_in_1b
def t_together_in_2 : Sm := (.ret (.tup (.cons (.var 2) (.cons (.var 3) .nil))))
theorem sp_together_in : c_together_in = (.cons t_together_in_0 (.cons t_together_in_1 (.cons t_together_in_2 .nil))) := rfl
def t_need_primes_0 : Sm := (.set 1 (.blt .tuple (.cons (.var 0) .nil)))
def t_need_primes_1a_0 : Sm := (.rai "BadPaper" (.cons (.var 1) .nil))
def t_need_primes_1a : Sm := (.cons t_need_primes_1a_0 .nil)
def t_need_primes_1e : Sm := .nil
def t_need_primes_1t : Ex := (.bop false (.cons (.nt (.var 1)) (.cons (.nt (.blt .all (.cons (.lc (.call "is_great" (.cons (.var 2) .nil)) (.nm 2) (.var 1) .nil) .nil))) (.cons (.cmp .Lt (.dcl (.var 2) (.cst (.bool true)) (.nm 2) (.var 1)) (.blt .len (.cons (.var 1) .nil))) .nil))))
def t_need_primes_1 : Sm := .ite t_need_primes_1t t_need_primes_1a t_need_primes_1e
theorem sp_need_primes : c_need_primes = (.cons t_need_primes_0 (.cons t_need_primes_1 .nil)) := rfl
def t_put_together_0 : Sm := (.exp (.call "need_primes" (.cons (.var 0) .nil)))
def t_put_together_1 : Sm := (.set 2 (.blt .tuple (.cons (.var 1) .nil)))
def t_put_together_2a_0 : Sm := (.rai "BadPaper" (.cons (.var 2) .nil))
def t_put_together_2a : Sm := (.cons t_put_together_2a_0 .nil)
def t_put_together_2e : Sm := .nil
def t_put_together_2t : Ex := (.bop false (.cons (.cmp .NotEq (.blt .len (.cons (.var 2) .nil)) (.blt .len (.cons (.var 0) .nil))) (.cons (.nt (.blt .all (.cons (.lc (.bop true (.cons (.call "is_count" (.cons (.var 4) .nil)) (.cons (.cmp .Lt (.var 4) (.var 3)) .nil))) (.tp [3, 4]) (.zp (.var 0) (.var 2)) .nil) .nil))) .nil)))
def t_put_together_2 : Sm := .ite t_put_together_2t t_put_together_2a t_put_together_2e
def t_put_together_3 : Sm := (.ret (.ix (.call "together_in" (.cons (.var 0) (.cons (.var 2) .nil))) (.cst (.int 0))))
theorem sp_put_together : c_put_together = (.cons t_put_together_0 (.cons t_put_together_1 (.cons t_put_together_2 (.cons t_put_together_3 .nil)))) := rfl
def t_common_divisor_0b_0 : Sm := (.par [0, 1] (.cons (.var 1) (.cons (.bin .Mod (.var 0) (.var 1)) .nil)))
def t_common_divisor_0b : Sm := (.cons t_common_divisor_0b_0 .nil)
def t_common_divisor_0t : Ex := (.var 1)
def t_common_divisor_0 : Sm := .whl t_common_divisor_0t t_common_divisor_0b
def t_common_divisor_1 : Sm := (.ret (.var 0))
theorem sp_common_divisor : c_common_divisor = (.cons t_common_divisor_0 (.cons t_common_divisor_1 .nil)) := rfl
def t_back_in_0 : Sm := (.par [2, 3, 4, 5] (.cons (.var 1) (.cons (.var 0) (.cons (.cst (.int 0)) (.cons (.cst (.int 1)) .nil)))))
def t_back_in_1b_0 : Sm := (.par [2, 3, 4, 5] (.cons (.var 3) (.cons (.bin .Mod (.var 2) (.var 3)) (.cons (.var 5) (.cons (.bin .Sub (.var 4) (.bin .Mult (.bin .FloorDiv (.var 2) (.var 3)) (.var 5))) .nil)))))
def t_back_in_1b : Sm := (.cons t_back_in_1b_0 .nil)
def t_back_in_1t : Ex := (.cmp .GtE (.bin .Mult (.bin .Mult (.cst (.int 2)) (.var 3)) (.var 3)) (.var 1))
def t_back_in_1 : Sm := .whl t_back_in_1t t_back_in_1b
def t_back_in_2 : Sm := (.unp (.tp [6, 7]) (.ite (.cmp .Gt (.var 5) (.cst (.int 0))) (.tup (.cons (.var 3) (.cons (.var 5) .nil))) (.tup (.cons (.neg (.var 3)) (.cons (.neg (.var 5)) .nil)))))
def t_back_in_3a_0 : Sm := (.ret (.cst .none))
def t_back_in_3a : Sm := (.cons t_back_in_3a_0 .nil)
def t_back_in_3e : Sm := .nil
def t_back_in_3t : Ex := (.bop false (.cons (.cmp .GtE (.bin .Mult (.bin .Mult (.cst (.int 2)) (.var 7)) (.var 7)) (.var 1)) (.cons (.cmp .NotEq (.call "common_divisor" (.cons (.var 7) (.cons (.var 1) .nil))) (.cst (.int 1))) (.cons (.cmp .NotEq (.call "common_divisor" (.cons (.blt .abs (.cons (.var 6) .nil)) (.cons (.var 7) .nil))) (.cst (.int 1))) .nil))))
def t_back_in_3 : Sm := .ite t_back_in_3t t_back_in_3a t_back_in_3e
def t_back_in_4 : Sm := (.ret (.tup (.cons (.var 6) (.cons (.var 7) .nil))))
theorem sp_back_in : c_back_in = (.cons t_back_in_0 (.cons t_back_in_1 (.cons t_back_in_2 (.cons t_back_in_3 (.cons t_back_in_4 .nil))))) := rfl
def t_brought_back_0a_0 : Sm := (.rai "BadNumber" (.cons (.cst (.str "modulus")) (.cons (.var 1) .nil)))
def t_brought_back_0a : Sm := (.cons t_brought_back_0a_0 .nil)
def t_brought_back_0e : Sm := .nil
def t_brought_back_0t : Ex := (.bop false (.cons (.nt (.call "is_count" (.cons (.var 1) .nil))) (.cons (.cmp .Eq (.var 1) (.cst (.int 0))) .nil)))
def t_brought_back_0 : Sm := .ite t_brought_back_0t t_brought_back_0a t_brought_back_0e
def t_brought_back_1a_0 : Sm := (.rai "BadNumber" (.cons (.cst (.str "rest")) (.cons (.var 0) .nil)))
def t_brought_back_1a : Sm := (.cons t_brought_back_1a_0 .nil)
def t_brought_back_1e : Sm := .nil
def t_brought_back_1t : Ex := (.bop false (.cons (.nt (.call "is_count" (.cons (.var 0) .nil))) (.cons (.cmp .GtE (.var 0) (.var 1)) .nil)))
def t_brought_back_1 : Sm := .ite t_brought_back_1t t_brought_back_1a t_brought_back_1e
def t_brought_back_2 : Sm := (.ret (.ite (.cmp .Gt (.var 1) (.cst (.int 2))) (.call "back_in" (.cons (.var 0) (.cons (.var 1) .nil))) (.cst .none)))
theorem sp_brought_back : c_brought_back = (.cons t_brought_back_0 (.cons t_brought_back_1 (.cons t_brought_back_2 .nil))) := rfl
def t_l_pen_0 : Sm := (.set 1 (.cst (.int 0)))
def t_l_pen_1b_0 : Sm := (.set 1 (.bin .Mod (.blt .int (.cons (.bin .Add (.bin .Mult (.var 1) (.cst (.int 151))) (.var 2)) .nil)) (.cst (.int 1000000033))))
def t_l_pen_1b : Sm := (.cons t_l_pen_1b_0 .nil)
def t_l_pen_1t : Ex := (.var 0)
def t_l_pen_1 : Sm := .for_ (.nm 2) t_l_pen_1t t_l_pen_1b
def t_l_pen_2 : Sm := (.ret (.dsp (.cons (.cst (.str "cells")) (.cons (.lsl (.var 0)) (.cons (.cst (.str "at")) (.cons (.cst (.int 0)) (.cons (.cst (.str "digits")) (.cons (.cst (.int 0)) (.cons (.cst (.str "count")) (.cons (.cst (.int 0)) (.cons (.cst (.str "fold")) (.cons (.var 1) .nil))))))))))))
theorem sp_l_pen : c_l_pen = (.cons t_l_pen_0 (.cons t_l_pen_1 (.cons t_l_pen_2 .nil))) := rfl
def t_l_draw_0 : Sm := (.dset (.var 0) (.cst (.str "count")) (.bin .Add (.ix (.var 0) (.cst (.str "count"))) (.cst (.int 1))))
def t_l_draw_1a_0 : Sm := (.set 2 (.ix (.ix (.var 0) (.cst (.str "cells"))) (.ix (.var 0) (.cst (.str "at")))))
def t_l_draw_1a_1 : Sm := (.dset (.var 0) (.cst (.str "at")) (.bin .Add (.ix (.var 0) (.cst (.str "at"))) (.cst (.int 1))))
def t_l_draw_1a_2a_0 : Sm := (.dset (.var 0) (.cst (.str "digits")) (.bin .Sub (.var 2) (.bin .Pow (.cst (.int 10)) (.cst (.int 18)))))
def t_l_draw_1a_2e_0 : Sm := (.dset (.var 0) (.cst (.str "fold")) (.bin .Mod (.blt .int (.cons (.bin .Add (.bin .Mult (.ix (.var 0) (.cst (.str "fold"))) (.cst (.int 73607))) (.var 2)) .nil)) (.cst (.int 2147483543))))
def t_l_draw_1a_2a : Sm := (.cons t_l_draw_1a_2a_0 .nil)
def t_l_draw_1a_2e : Sm := (.cons t_l_draw_1a_2e_0 .nil)
def t_l_draw_1a_2t : Ex := (.cmp .GtE (.var 2) (.bin .Pow (.cst (.int 10)) (.cst (.int 18))))
def t_l_draw_1a_2 : Sm := .ite t_l_draw_1a_2t t_l_draw_1a_2a t_l_draw_1a_2e
def t_l_draw_1a : Sm := (.cons t_l_draw_1a_0 (.cons t_l_draw_1a_1 (.cons t_l_draw_1a_2 .nil)))
def t_l_draw_1e : Sm := .nil
def t_l_draw_1t : Ex := (.bop true (.cons (.cmp .Eq (.ix (.var 0) (.cst (.str "digits"))) (.cst (.int 0))) (.cons (.cmp .Lt (.ix (.var 0) (.cst (.str "at"))) (.blt .len (.cons (.ix (.var 0) (.cst (.str "cells"))) .nil))) .nil)))
def t_l_draw_1 : Sm := .ite t_l_draw_1t t_l_draw_1a t_l_draw_1e
def t_l_draw_2a_0 : Sm := (.set 3 (.bin .Mod (.blt .int (.cons (.ix (.var 0) (.cst (.str "digits"))) .nil)) (.var 1)))
def t_l_draw_2a_1 : Sm := (.dset (.var 0) (.cst (.str "digits")) (.bin .FloorDiv (.ix (.var 0) (.cst (.str "digits"))) (.var 1)))
def t_l_draw_2a_2 : Sm := (.ret (.var 3))
def t_l_draw_2a : Sm := (.cons t_l_draw_2a_0 (.cons t_l_draw_2a_1 (.cons t_l_draw_2a_2 .nil)))
def t_l_draw_2e : Sm := .nil
def t_l_draw_2t : Ex := (.cmp .Gt (.ix (.var 0) (.cst (.str "digits"))) (.cst (.int 0)))
def t_l_draw_2 : Sm := .ite t_l_draw_2t t_l_draw_2a t_l_draw_2e
def t_l_draw_3 : Sm := (.set 4 (.bin .Add (.bin .Add (.ix (.var 0) (.cst (.str "fold"))) (.bin .Mult (.ix (.var 0) (.cst (.str "count"))) (.cst (.int 9601)))) (.cst (.int 151))))
def t_l_draw_4 : Sm := (.ret (.bin .Mod (.bin .FloorDiv (.blt .int (.cons (.bin .Mod (.bin .Pow (.var 4) (.cst (.int 23))) (.cst (.int 2305843009213693951))) .nil)) (.cst (.int 128))) (.var 1)))
theorem sp_l_draw : c_l_draw = (.cons t_l_draw_0 (.cons t_l_draw_1 (.cons t_l_draw_2 (.cons t_l_draw_3 (.cons t_l_draw_4 .nil))))) := rfl
def t_l_pick_0 : Sm := (.ret (.ix (.var 1) (.call "_law_draw" (.cons (.var 0) (.cons (.blt .len (.cons (.var 1) .nil)) .nil)))))
theorem sp_l_pick : c_l_pick = (.cons t_l_pick_0 .nil) := rfl
def t_l_gcd_0 : Sm := (.par [0, 1] (.cons (.blt .abs (.cons (.var 0) .nil)) (.cons (.blt .abs (.cons (.var 1) .nil)) .nil)))
def t_l_gcd_1b_0a_0 : Sm := .brk
def t_l_gcd_1b_0a : Sm := (.cons t_l_gcd_1b_0a_0 .nil)
def t_l_gcd_1b_0e : Sm := .nil
def t_l_gcd_1b_0t : Ex := (.cmp .Eq (.var 1) (.cst (.int 0)))
def t_l_gcd_1b_0 : Sm := .ite t_l_gcd_1b_0t t_l_gcd_1b_0a t_l_gcd_1b_0e
def t_l_gcd_1b_1 : Sm := (.par [0, 1] (.cons (.var 1) (.cons (.bin .Mod (.blt .int (.cons (.var 0) .nil)) (.var 1)) .nil)))
def t_l_gcd_1b : Sm := (.cons t_l_gcd_1b_0 (.cons t_l_gcd_1b_1 .nil))
def t_l_gcd_1t : Ex := (.rg1 (.cst (.int 400)))
def t_l_gcd_1 : Sm := .for_ (.nm 2) t_l_gcd_1t t_l_gcd_1b
def t_l_gcd_2 : Sm := (.ret (.var 0))
theorem sp_l_gcd : c_l_gcd = (.cons t_l_gcd_0 (.cons t_l_gcd_1 (.cons t_l_gcd_2 .nil))) := rfl
def t_l_lowest_0 : Sm := (.set 2 (.call "_law_gcd" (.cons (.var 0) (.cons (.var 1) .nil))))
def t_l_lowest_1a_0 : Sm := (.set 2 (.neg (.var 2)))
def t_l_lowest_1a : Sm := (.cons t_l_lowest_1a_0 .nil)
def t_l_lowest_1e : Sm := .nil
def t_l_lowest_1t : Ex := (.cmp .Lt (.var 1) (.cst (.int 0)))
def t_l_lowest_1 : Sm := .ite t_l_lowest_1t t_l_lowest_1a t_l_lowest_1e
def t_l_lowest_2 : Sm := (.ret (.tup (.cons (.blt .int (.cons (.bin .FloorDiv (.var 0) (.var 2)) .nil)) (.cons (.blt .int (.cons (.bin .FloorDiv (.var 1) (.var 2)) .nil)) .nil))))
theorem sp_l_lowest : c_l_lowest = (.cons t_l_lowest_0 (.cons t_l_lowest_1 (.cons t_l_lowest_2 .nil))) := rfl
def t_l_call_0a_0 : Sm := (.ret (.ite (.cmp .Eq (.var 0) (.cst (.int 0))) (.call "next_great" (.cons (.var 1) .nil)) (.call "rest_by" (.cons (.var 1) (.cons (.var 2) .nil)))))
def t_l_call_0a : Sm := (.cons t_l_call_0a_0 .nil)
def t_l_call_0e : Sm := .nil
def t_l_call_0t : Ex := (.cmp .Lt (.var 0) (.cst (.int 2)))
def t_l_call_0 : Sm := .ite t_l_call_0t t_l_call_0a t_l_call_0e
def t_l_call_1 : Sm := (.ret (.ite (.cmp .Eq (.var 0) (.cst (.int 2))) (.call "put_together" (.cons (.var 1) (.cons (.var 2) .nil))) (.call "brought_back" (.cons (.var 1) (.cons (.var 2) .nil)))))
theorem sp_l_call : c_l_call = (.cons t_l_call_0 (.cons t_l_call_1 .nil)) := rfl
def t_l_raised_0 : Sm := (.set 3 (.cst (.str "none")))
def t_l_raised_1 : Sm := (.try_ (.cons (.exp (.call "_law_call" (.cons (.var 0) (.cons (.var 1) (.cons (.var 2) .nil))))) .nil) (.hdl "BadNumber" (some 4) (.cons (.set 3 (.blt .repr (.cons (.tup (.cons (.xat 4 "what") (.cons (.xat 4 "number") .nil))) .nil))) .nil) (.hdl "BadPaper" (some 4) (.cons (.set 3 (.bin .Add (.cst (.str "paper ")) (.blt .repr (.cons (.xat 4 "paper") .nil)))) .nil) (.hdl "NotKept" (some 4) (.cons (.set 3 (.blt .repr (.cons (.tup (.cons (.xat 4 "promise") (.cons (.xat 4 "witness") .nil))) .nil))) .nil) (.hdl "KeptError" none (.cons (.set 3 (.cst (.str "other"))) .nil) .nil)))))
def t_l_raised_2 : Sm := (.ret (.var 3))
theorem sp_l_raised : c_l_raised = (.cons t_l_raised_0 (.cons t_l_raised_1 (.cons t_l_raised_2 .nil))) := rfl
def t_l_is_prime_0a_0 : Sm := (.ret (.cmp .Eq (.var 0) (.cst (.int 2))))
def t_l_is_prime_0a : Sm := (.cons t_l_is_prime_0a_0 .nil)
def t_l_is_prime_0e : Sm := .nil
def t_l_is_prime_0t : Ex := (.bop false (.cons (.cmp .Lt (.var 0) (.cst (.int 2))) (.cons (.cmp .Eq (.bin .Mod (.var 0) (.cst (.int 2))) (.cst (.int 0))) .nil)))
def t_l_is_prime_0 : Sm := .ite t_l_is_prime_0t t_l_is_prime_0a t_l_is_prime_0e
def t_l_is_prime_1 : Sm := (.set 1 (.cst (.int 3)))
def t_l_is_prime_2b_0a_0 : Sm := (.ret (.cst (.bool false)))
def t_l_is_prime_2b_0a : Sm := (.cons t_l_is_prime_2b_0a_0 .nil)
def t_l_is_prime_2b_0e : Sm := .nil
def t_l_is_prime_2b_0t : Ex := (.cmp .Eq (.bin .Mod (.var 0) (.var 1)) (.cst (.int 0)))
def t_l_is_prime_2b_0 : Sm := .ite t_l_is_prime_2b_0t t_l_is_prime_2b_0a t_l_is_prime_2b_0e
def t_l_is_prime_2b_1 : Sm := (.set 1 (.bin .Add (.var 1) (.cst (.int 2))))
def t_l_is_prime_2b : Sm := (.cons t_l_is_prime_2b_0 (.cons t_l_is_prime_2b_1 .nil))
def t_l_is_prime_2t : Ex := (.cmp .LtE (.bin .Mult (.var 1) (.var 1)) (.var 0))
def t_l_is_prime_2 : Sm := .whl t_l_is_prime_2t t_l_is_prime_2b
def t_l_is_prime_3 : Sm := (.ret (.cst (.bool true)))
theorem sp_l_is_prime : c_l_is_prime = (.cons t_l_is_prime_0 (.cons t_l_is_prime_1 (.cons t_l_is_prime_2 (.cons t_l_is_prime_3 .nil)))) := rfl
def t_l_power_by_0 : Sm := (.par [3, 4, 5] (.cons (.cst (.int 1)) (.cons (.bin .Mod (.blt .int (.cons (.var 0) .nil)) (.var 2)) (.cons (.var 1) .nil))))
def t_l_power_by_1b_0a_0 : Sm := (.set 3 (.bin .Mod (.blt .int (.cons (.bin .Mult (.var 3) (.var 4)) .nil)) (.var 2)))
def t_l_power_by_1b_0a : Sm := (.cons t_l_power_by_1b_0a_0 .nil)
def t_l_power_by_1b_0e : Sm := .nil
def t_l_power_by_1b_0t : Ex := (.cmp .Eq (.bin .Mod (.var 5) (.cst (.int 2))) (.cst (.int 1)))
def t_l_power_by_1b_0 : Sm := .ite t_l_power_by_1b_0t t_l_power_by_1b_0a t_l_power_by_1b_0e
def t_l_power_by_1b_1 : Sm := (.par [4, 5] (.cons (.bin .Mod (.blt .int (.cons (.bin .Mult (.var 4) (.var 4)) .nil)) (.var 2)) (.cons (.bin .FloorDiv (.var 5) (.cst (.int 2))) .nil)))
def t_l_power_by_1b : Sm := (.cons t_l_power_by_1b_0 (.cons t_l_power_by_1b_1 .nil))
def t_l_power_by_1t : Ex := (.cmp .Gt (.var 5) (.cst (.int 0)))
def t_l_power_by_1 : Sm := .whl t_l_power_by_1t t_l_power_by_1b
def t_l_power_by_2 : Sm := (.ret (.var 3))
theorem sp_l_power_by : c_l_power_by = (.cons t_l_power_by_0 (.cons t_l_power_by_1 (.cons t_l_power_by_2 .nil))) := rfl
def t_l_errors_right_0b_0a_0 : Sm := (.ret (.cst (.bool false)))
def t_l_errors_right_0b_0a : Sm := (.cons t_l_errors_right_0b_0a_0 .nil)
def t_l_errors_right_0b_0e : Sm := .nil
def t_l_errors_right_0b_0t : Ex := (.cmp .NotEq (.call "_law_raised" (.cons (.cst (.int 0)) (.cons (.var 1) (.cons (.cst .none) .nil)))) (.blt .repr (.cons (.tup (.cons (.cst (.str "n")) (.cons (.var 1) .nil))) .nil)))
def t_l_errors_right_0b_0 : Sm := .ite t_l_errors_right_0b_0t t_l_errors_right_0b_0a t_l_errors_right_0b_0e
def t_l_errors_right_0b : Sm := (.cons t_l_errors_right_0b_0 .nil)
def t_l_errors_right_0t : Ex := (.lst (.cons (.cst .none) (.cons (.neg (.cst (.int 1))) (.cons (.cst (.bool true)) (.cons (.cst (.str "1")) (.cons (.cst (.int 999999937)) (.cons (.bin .Pow (.cst (.int 10)) (.cst (.int 12))) .nil)))))))
def t_l_errors_right_0 : Sm := .for_ (.nm 1) t_l_errors_right_0t t_l_errors_right_0b
def t_l_errors_right_1b_0a_0 : Sm := (.ret (.cst (.bool false)))
def t_l_errors_right_1b_0a : Sm := (.cons t_l_errors_right_1b_0a_0 .nil)
def t_l_errors_right_1b_0e : Sm := .nil
def t_l_errors_right_1b_0t : Ex := (.cmp .NotEq (.call "_law_raised" (.cons (.cst (.int 1)) (.cons (.var 1) (.cons (.cst .none) .nil)))) (.blt .repr (.cons (.tup (.cons (.cst (.str "p")) (.cons (.var 1) .nil))) .nil)))
def t_l_errors_right_1b_0 : Sm := .ite t_l_errors_right_1b_0t t_l_errors_right_1b_0a t_l_errors_right_1b_0e
def t_l_errors_right_1b : Sm := (.cons t_l_errors_right_1b_0 .nil)
def t_l_errors_right_1t : Ex := (.lst (.cons (.cst .none) (.cons (.cst (.int 5)) (.cons (.cst (.int 1000001)) (.cons (.cst (.int 1000005)) (.cons (.cst (.bool true)) (.cons (.cst (.str "1000003")) (.cons (.bin .Pow (.cst (.int 10)) (.cst (.int 12))) .nil))))))))
def t_l_errors_right_1 : Sm := .for_ (.nm 1) t_l_errors_right_1t t_l_errors_right_1b
def t_l_errors_right_2b_0a_0 : Sm := (.ret (.cst (.bool false)))
def t_l_errors_right_2b_0a : Sm := (.cons t_l_errors_right_2b_0a_0 .nil)
def t_l_errors_right_2b_0e : Sm := .nil
def t_l_errors_right_2b_0t : Ex := (.cmp .NotEq (.call "_law_raised" (.cons (.cst (.int 1)) (.cons (.var 0) (.cons (.var 1) .nil)))) (.blt .repr (.cons (.tup (.cons (.cst (.str "number")) (.cons (.var 1) .nil))) .nil)))
def t_l_errors_right_2b_0 : Sm := .ite t_l_errors_right_2b_0t t_l_errors_right_2b_0a t_l_errors_right_2b_0e
def t_l_errors_right_2b : Sm := (.cons t_l_errors_right_2b_0 .nil)
def t_l_errors_right_2t : Ex := (.lst (.cons (.cst .none) (.cons (.cst (.int 3)) (.cons (.tup (.cons (.cst (.int 2)) (.cons (.cst (.int 4)) .nil))) (.cons (.tup (.cons (.cst (.int 1)) (.cons (.cst (.int 0)) .nil))) (.cons (.tup (.cons (.cst (.int 1)) (.cons (.neg (.cst (.int 2))) .nil))) (.cons (.tup (.cons (.cst (.int 1)) .nil)) (.cons (.lst (.cons (.cst (.int 1)) (.cons (.cst (.int 2)) .nil))) (.cons (.tup (.cons (.cst (.bool true)) (.cons (.cst (.int 2)) .nil))) .nil)))))))))
def t_l_errors_right_2 : Sm := .for_ (.nm 1) t_l_errors_right_2t t_l_errors_right_2b
def t_l_errors_right_3a_0 : Sm := (.ret (.cst (.bool false)))
def t_l_errors_right_3a : Sm := (.cons t_l_errors_right_3a_0 .nil)
def t_l_errors_right_3e : Sm := .nil
def t_l_errors_right_3t : Ex := (.cmp .NotEq (.call "_law_raised" (.cons (.cst (.int 1)) (.cons (.var 0) (.cons (.tup (.cons (.cst (.int 1)) (.cons (.bin .Mult (.cst (.int 2)) (.var 0)) .nil))) .nil)))) (.blt .repr (.cons (.tup (.cons (.cst (.str "bottom")) (.cons (.bin .Mult (.cst (.int 2)) (.var 0)) .nil))) .nil)))
def t_l_errors_right_3 : Sm := .ite t_l_errors_right_3t t_l_errors_right_3a t_l_errors_right_3e
def t_l_errors_right_4b_0a_0 : Sm := (.ret (.cst (.bool false)))
def t_l_errors_right_4b_0a : Sm := (.cons t_l_errors_right_4b_0a_0 .nil)
def t_l_errors_right_4b_0e : Sm := .nil
def t_l_errors_right_4b_0t : Ex := (.cmp .NotEq (.call "_law_raised" (.cons (.cst (.int 2)) (.cons (.var 1) (.cons (.rep (.cons (.cst (.int 0)) .nil) (.blt .len (.cons (.var 1) .nil))) .nil)))) (.bin .Add (.cst (.str "paper ")) (.blt .repr (.cons (.blt .tuple (.cons (.var 1) .nil)) .nil))))
def t_l_errors_right_4b_0 : Sm := .ite t_l_errors_right_4b_0t t_l_errors_right_4b_0a t_l_errors_right_4b_0e
def t_l_errors_right_4b : Sm := (.cons t_l_errors_right_4b_0 .nil)
def t_l_errors_right_4t : Ex := (.lst (.cons (.lst .nil) (.cons (.lst (.cons (.var 0) (.cons (.var 0) .nil))) (.cons (.lst (.cons (.cst (.int 5)) .nil)) (.cons (.lst (.cons (.var 0) (.cons (.cst .none) .nil))) (.cons (.lst (.cons (.var 0) (.cons (.cst (.int 1000001)) .nil))) .nil))))))
def t_l_errors_right_4 : Sm := .for_ (.nm 1) t_l_errors_right_4t t_l_errors_right_4b
def t_l_errors_right_5b_0a_0 : Sm := (.ret (.cst (.bool false)))
def t_l_errors_right_5b_0a : Sm := (.cons t_l_errors_right_5b_0a_0 .nil)
def t_l_errors_right_5b_0e : Sm := .nil
def t_l_errors_right_5b_0t : Ex := (.cmp .NotEq (.call "_law_raised" (.cons (.cst (.int 2)) (.cons (.lst (.cons (.var 0) .nil)) (.cons (.var 1) .nil)))) (.bin .Add (.cst (.str "paper ")) (.blt .repr (.cons (.blt .tuple (.cons (.var 1) .nil)) .nil))))
def t_l_errors_right_5b_0 : Sm := .ite t_l_errors_right_5b_0t t_l_errors_right_5b_0a t_l_errors_right_5b_0e
def t_l_errors_right_5b : Sm := (.cons t_l_errors_right_5b_0 .nil)
def t_l_errors_right_5t : Ex := (.lst (.cons (.lst .nil) (.cons (.lst (.cons (.cst (.int 0)) (.cons (.cst (.int 0)) .nil))) (.cons (.lst (.cons (.var 0) .nil)) (.cons (.lst (.cons (.neg (.cst (.int 1))) .nil)) (.cons (.lst (.cons (.cst .none) .nil)) (.cons (.lst (.cons (.cst (.bool true)) .nil)) .nil)))))))
def t_l_errors_right_5 : Sm := .for_ (.nm 1) t_l_errors_right_5t t_l_errors_right_5b
def t_l_errors_right_6b_0a_0 : Sm := (.ret (.cst (.bool false)))
def t_l_errors_right_6b_0a : Sm := (.cons t_l_errors_right_6b_0a_0 .nil)
def t_l_errors_right_6b_0e : Sm := .nil
def t_l_errors_right_6b_0t : Ex := (.cmp .NotEq (.call "_law_raised" (.cons (.cst (.int 3)) (.cons (.cst .none) (.cons (.var 1) .nil)))) (.blt .repr (.cons (.tup (.cons (.cst (.str "modulus")) (.cons (.var 1) .nil))) .nil)))
def t_l_errors_right_6b_0 : Sm := .ite t_l_errors_right_6b_0t t_l_errors_right_6b_0a t_l_errors_right_6b_0e
def t_l_errors_right_6b : Sm := (.cons t_l_errors_right_6b_0 .nil)
def t_l_errors_right_6t : Ex := (.lst (.cons (.cst .none) (.cons (.cst (.int 0)) (.cons (.neg (.cst (.int 1))) (.cons (.cst (.bool true)) .nil)))))
def t_l_errors_right_6 : Sm := .for_ (.nm 1) t_l_errors_right_6t t_l_errors_right_6b
def t_l_errors_right_7 : Sm := (.set 2 (.lst (.cons (.cst .none) (.cons (.neg (.cst (.int 1))) (.cons (.var 0) (.cons (.cst (.bool true)) .nil))))))
def t_l_errors_right_8 : Sm := (.ret (.cmp .Eq (.lc (.call "_law_raised" (.cons (.cst (.int 3)) (.cons (.var 1) (.cons (.var 0) .nil)))) (.nm 1) (.var 2) .nil) (.lc (.blt .repr (.cons (.tup (.cons (.cst (.str "rest")) (.cons (.var 1) .nil))) .nil)) (.nm 1) (.var 2) .nil)))
theorem sp_l_errors_right : c_l_errors_right = (.cons t_l_errors_right_0 (.cons t_l_errors_right_1 (.cons t_l_errors_right_2 (.cons t_l_errors_right_3 (.cons t_l_errors_right_4 (.cons t_l_errors_right_5 (.cons t_l_errors_right_6 (.cons t_l_errors_right_7 (.cons t_l_errors_right_8 .nil))))))))) := rfl
def t_law_0 : Sm := (.set 1 (.call "_law_pen" (.cons (.var 0) .nil)))
def t_law_1 : Sm := (.set 2 (.call "_law_pick" (.cons (.var 1) (.cons (.lst (.cons (.cst (.int 0)) (.cons (.cst (.int 1000002)) (.cons (.bin .Add (.cst (.int 1000003)) (.call "_law_draw" (.cons (.var 1) (.cons (.bin .Pow (.cst (.int 10)) (.cst (.int 6))) .nil)))) .nil)))) .nil))))
def t_law_2 : Sm := (.set 3 (.call "next_great" (.cons (.var 2) .nil)))
def t_law_3a_0 : Sm := (.ret (.cst (.bool false)))
def t_law_3a : Sm := (.cons t_law_3a_0 .nil)
def t_law_3e : Sm := .nil
def t_law_3t : Ex := (.bop false (.cons (.cmp .LtE (.var 3) (.var 2)) (.cons (.cmp .Lt (.var 3) (.cst (.int 1000003))) (.cons (.nt (.call "_law_is_prime" (.cons (.var 3) .nil))) .nil))))
def t_law_3 : Sm := .ite t_law_3t t_law_3a t_law_3e
def t_law_4 : Sm := (.set 4 (.lrg (.blt .max (.cons (.bin .Add (.var 2) (.cst (.int 1))) (.cons (.cst (.int 1000003)) .nil))) (.var 3)))
def t_law_5a_0 : Sm := (.ret (.cst (.bool false)))
def t_law_5a : Sm := (.cons t_law_5a_0 .nil)
def t_law_5e : Sm := .nil
def t_law_5t : Ex := (.bop false (.cons (.cmp .NotEq (.lc (.var 5) (.nm 5) (.slc (.var 4) .no (.cst (.int 6))) (.cons (.call "_law_is_prime" (.cons (.var 5) .nil)) .nil)) (.lst .nil)) (.cons (.nt (.call "_law_errors_right" (.cons (.var 3) .nil))) .nil)))
def t_law_5 : Sm := .ite t_law_5t t_law_5a t_law_5e
def t_law_6 : Sm := (.setL 6 (.lst (.cons (.var 3) .nil)))
def t_law_7b_0 : Sm := (.app 6 (.call "next_great" (.cons (.bin .Add (.owx 6 (.neg (.cst (.int 1)))) (.call "_law_draw" (.cons (.var 1) (.cons (.cst (.int 50)) .nil)))) .nil)))
def t_law_7b : Sm := (.cons t_law_7b_0 .nil)
def t_law_7t : Ex := (.rg1 (.call "_law_draw" (.cons (.var 1) (.cons (.cst (.int 4)) .nil))))
def t_law_7 : Sm := .for_ (.nm 7) t_law_7t t_law_7b
def t_law_8 : Sm := (.set 8 (.cst (.int 1)))
def t_law_9 : Sm := (.frz 6)
def t_law_10b_0 : Sm := (.set 8 (.bin .Mult (.var 8) (.var 9)))
def t_law_10b : Sm := (.cons t_law_10b_0 .nil)
def t_law_10t : Ex := (.var 6)
def t_law_10 : Sm := .for_ (.nm 9) t_law_10t t_law_10b
def t_law_11b_0 : Sm := (.set 11 (.call "_law_pick" (.cons (.var 1) (.cons (.lst (.cons (.cst (.int 5)) (.cons (.cst (.int 600)) (.cons (.bin .Pow (.cst (.int 10)) (.cst (.int 5))) (.cons (.bin .Pow (.cst (.int 10)) (.cst (.int 9))) .nil))))) .nil))))
def t_law_11b_1 : Sm := (.set 12 (.call "_law_lowest" (.cons (.bin .Sub (.call "_law_draw" (.cons (.var 1) (.cons (.bin .Mult (.cst (.int 2)) (.var 11)) .nil))) (.var 11)) (.cons (.bin .Add (.cst (.int 1)) (.call "_law_draw" (.cons (.var 1) (.cons (.var 11) .nil)))) .nil))))
def t_law_11b_2 : Sm := (.setL 13 (.lc (.bin .Mod (.blt .int (.cons (.bin .Mult (.ix (.var 12) (.cst (.int 0))) (.call "_law_power_by" (.cons (.ix (.var 12) (.cst (.int 1))) (.cons (.bin .Sub (.var 9) (.cst (.int 2))) (.cons (.var 9) .nil))))) .nil)) (.var 9)) (.nm 9) (.var 6) (.cons (.cmp .NotEq (.bin .Mod (.ix (.var 12) (.cst (.int 1))) (.var 9)) (.cst (.int 0))) .nil)))
def t_law_11b_3 : Sm := (.frz 13)
def t_law_11b_4a_0 : Sm := .cnt
def t_law_11b_4a : Sm := (.cons t_law_11b_4a_0 .nil)
def t_law_11b_4e : Sm := .nil
def t_law_11b_4t : Ex := (.cmp .Lt (.blt .len (.cons (.var 13) .nil)) (.blt .len (.cons (.var 6) .nil)))
def t_law_11b_4 : Sm := .ite t_law_11b_4t t_law_11b_4a t_law_11b_4e
def t_law_11b_5a_0 : Sm := (.ret (.cst (.bool false)))
def t_law_11b_5a : Sm := (.cons t_law_11b_5a_0 .nil)
def t_law_11b_5e : Sm := .nil
def t_law_11b_5t : Ex := (.cmp .NotEq (.lc (.call "rest_by" (.cons (.var 9) (.cons (.var 12) .nil))) (.nm 9) (.var 6) .nil) (.var 13))
def t_law_11b_5 : Sm := .ite t_law_11b_5t t_law_11b_5a t_law_11b_5e
def t_law_11b_6 : Sm := (.set 14 (.call "put_together" (.cons (.call "_law_pick" (.cons (.var 1) (.cons (.lst (.cons (.var 6) (.cons (.blt .tuple (.cons (.var 6) .nil)) .nil))) .nil))) (.cons (.var 13) .nil))))
def t_law_11b_7a_0 : Sm := (.ret (.cst (.bool false)))
def t_law_11b_7a : Sm := (.cons t_law_11b_7a_0 .nil)
def t_law_11b_7e : Sm := .nil
def t_law_11b_7t : Ex := (.bop false (.cons (.nt (.chn .LtE .Lt (.cst (.int 0)) (.var 14) (.var 8))) (.cons (.cmp .NotEq (.lc (.bin .Mod (.blt .int (.cons (.var 14) .nil)) (.var 9)) (.nm 9) (.var 6) .nil) (.var 13)) .nil)))
def t_law_11b_7 : Sm := .ite t_law_11b_7t t_law_11b_7a t_law_11b_7e
def t_law_11b_8 : Sm := (.set 15 (.bop true (.cons (.cmp .Lt (.bin .Mult (.bin .Mult (.cst (.int 2)) (.ix (.var 12) (.cst (.int 0)))) (.ix (.var 12) (.cst (.int 0)))) (.var 8)) (.cons (.cmp .Lt (.bin .Mult (.bin .Mult (.cst (.int 2)) (.ix (.var 12) (.cst (.int 1)))) (.ix (.var 12) (.cst (.int 1)))) (.var 8)) .nil))))
def t_law_11b_9 : Sm := (.set 16 (.call "brought_back" (.cons (.var 14) (.cons (.var 8) .nil))))
def t_law_11b_10a_0 : Sm := (.ret (.cst (.bool false)))
def t_law_11b_10a : Sm := (.cons t_law_11b_10a_0 .nil)
def t_law_11b_10e : Sm := .nil
def t_law_11b_10t : Ex := (.bop true (.cons (.var 15) (.cons (.cmp .NotEq (.blt .repr (.cons (.var 16) .nil)) (.blt .repr (.cons (.var 12) .nil))) .nil)))
def t_law_11b_10 : Sm := .ite t_law_11b_10t t_law_11b_10a t_law_11b_10e
def t_law_11b_11a_0 : Sm := (.unp (.tp [17, 18]) (.var 16))
def t_law_11b_11a_1a_0 : Sm := (.ret (.cst (.bool false)))
def t_law_11b_11a_1a : Sm := (.cons t_law_11b_11a_1a_0 .nil)
def t_law_11b_11a_1e : Sm := .nil
def t_law_11b_11a_1t : Ex := (.bop false (.cons (.cmp .GtE (.bin .Mult (.bin .Mult (.cst (.int 2)) (.var 17)) (.var 17)) (.var 8)) (.cons (.cmp .GtE (.bin .Mult (.bin .Mult (.cst (.int 2)) (.var 18)) (.var 18)) (.var 8)) (.cons (.cmp .Lt (.var 18) (.cst (.int 1))) .nil))))
def t_law_11b_11a_1 : Sm := .ite t_law_11b_11a_1t t_law_11b_11a_1a t_law_11b_11a_1e
def t_law_11b_11a_2a_0 : Sm := (.ret (.cst (.bool false)))
def t_law_11b_11a_2a : Sm := (.cons t_law_11b_11a_2a_0 .nil)
def t_law_11b_11a_2e : Sm := .nil
def t_law_11b_11a_2t : Ex := (.bop false (.cons (.cmp .NotEq (.call "_law_gcd" (.cons (.var 17) (.cons (.var 18) .nil))) (.cst (.int 1))) (.cons (.cmp .NotEq (.bin .Mod (.blt .int (.cons (.bin .Sub (.var 17) (.bin .Mult (.var 14) (.var 18))) .nil)) (.var 8)) (.cst (.int 0))) (.cons (.bop true (.cons (.nt (.var 15)) (.cons (.cmp .Eq (.var 16) (.var 12)) .nil))) .nil))))
def t_law_11b_11a_2 : Sm := .ite t_law_11b_11a_2t t_law_11b_11a_2a t_law_11b_11a_2e
def t_law_11b_11a : Sm := (.cons t_law_11b_11a_0 (.cons t_law_11b_11a_1 (.cons t_law_11b_11a_2 .nil)))
def t_law_11b_11e : Sm := .nil
def t_law_11b_11t : Ex := (.cmp .IsNot (.var 16) (.cst .none))
def t_law_11b_11 : Sm := .ite t_law_11b_11t t_law_11b_11a t_law_11b_11e
def t_law_11b : Sm := (.cons t_law_11b_0 (.cons t_law_11b_1 (.cons t_law_11b_2 (.cons t_law_11b_3 (.cons t_law_11b_4 (.cons t_law_11b_5 (.cons t_law_11b_6 (.cons t_law_11b_7 (.cons t_law_11b_8 (.cons t_law_11b_9 (.cons t_law_11b_10 (.cons t_law_11b_11 .nil))))))))))))
def t_law_11t : Ex := (.rg1 (.cst (.int 5)))
def t_law_11 : Sm := .for_ (.nm 10) t_law_11t t_law_11b
def t_law_12 : Sm := (.set 19 (.bin .Add (.cst (.int 3)) (.call "_law_draw" (.cons (.var 1) (.cons (.cst (.int 60)) .nil)))))
def t_law_13 : Sm := (.par [14, 20] (.cons (.call "_law_draw" (.cons (.var 1) (.cons (.var 19) .nil))) (.cons (.cst .none) .nil)))
def t_law_14b_0b_0 : Sm := (.set 21 (.bop true (.cons (.cmp .Lt (.bin .Mult (.bin .Mult (.cst (.int 2)) (.var 17)) (.var 17)) (.var 19)) (.cons (.cmp .Lt (.bin .Mult (.bin .Mult (.cst (.int 2)) (.var 18)) (.var 18)) (.var 19)) (.cons (.cmp .Eq (.call "_law_gcd" (.cons (.var 17) (.cons (.var 18) .nil))) (.cst (.int 1))) .nil)))))
def t_law_14b_0b_1a_0 : Sm := (.set 20 (.tup (.cons (.var 17) (.cons (.var 18) .nil))))
def t_law_14b_0b_1a : Sm := (.cons t_law_14b_0b_1a_0 .nil)
def t_law_14b_0b_1e : Sm := .nil
def t_law_14b_0b_1t : Ex := (.bop true (.cons (.var 21) (.cons (.cmp .Eq (.call "_law_gcd" (.cons (.var 18) (.cons (.var 19) .nil))) (.cst (.int 1))) (.cons (.cmp .Eq (.bin .Mod (.blt .int (.cons (.bin .Sub (.var 17) (.bin .Mult (.var 14) (.var 18))) .nil)) (.var 19)) (.cst (.int 0))) .nil))))
def t_law_14b_0b_1 : Sm := .ite t_law_14b_0b_1t t_law_14b_0b_1a t_law_14b_0b_1e
def t_law_14b_0b : Sm := (.cons t_law_14b_0b_0 (.cons t_law_14b_0b_1 .nil))
def t_law_14b_0t : Ex := (.rg2 (.neg (.var 19)) (.bin .Add (.var 19) (.cst (.int 1))))
def t_law_14b_0 : Sm := .for_ (.nm 17) t_law_14b_0t t_law_14b_0b
def t_law_14b : Sm := (.cons t_law_14b_0 .nil)
def t_law_14t : Ex := (.rg2 (.cst (.int 1)) (.var 19))
def t_law_14 : Sm := .for_ (.nm 18) t_law_14t t_law_14b
def t_law_15 : Sm := (.ret (.cmp .Eq (.blt .repr (.cons (.call "brought_back" (.cons (.var 14) (.cons (.var 19) .nil))) .nil)) (.blt .repr (.cons (.var 20) .nil))))
theorem sp_law : c_law = (.cons t_law_0 (.cons t_law_1 (.cons t_law_2 (.cons t_law_3 (.cons t_law_4 (.cons t_law_5 (.cons t_law_6 (.cons t_law_7 (.cons t_law_8 (.cons t_law_9 (.cons t_law_10 (.cons t_law_11 (.cons t_law_12 (.cons t_law_13 (.cons t_law_14 (.cons t_law_15 .nil)))))))))))))))) := rfl
end K22

/-! The tables of the defs. Printed by fns.py. -/
namespace K22
open PySem PySem.Spec PyProof.Rows L2 Dn
noncomputable abbrev T_is_whole : Tb := tabs.B.withF F_is_whole
noncomputable abbrev T_is_count : Tb := tabs.B.withF F_is_count
theorem fn_is_count__is_whole : T_is_count.fn "is_whole" = d_is_whole := by kernel_rfl
noncomputable abbrev T_is_fraction : Tb := tabs.B.withF F_is_fraction
theorem fn_is_fraction__is_whole : T_is_fraction.fn "is_whole" = d_is_whole := by kernel_rfl
noncomputable abbrev T_unit_in : Tb := tabs.B.withF F_unit_in
noncomputable abbrev T_reduced : Tb := tabs.B.withF F_reduced
noncomputable abbrev T_times_in : Tb := tabs.B.withF F_times_in
theorem fn_times_in__reduced : T_times_in.fn "reduced" = d_reduced := by kernel_rfl
noncomputable abbrev T_power_in : Tb := tabs.B.withF F_power_in
theorem fn_power_in__unit_in : T_power_in.fn "unit_in" = d_unit_in := by kernel_rfl
theorem fn_power_in__times_in : T_power_in.fn "times_in" = d_times_in := by kernel_rfl
noncomputable abbrev T_inverse_in : Tb := tabs.B.withF F_inverse_in
theorem fn_inverse_in__reduced : T_inverse_in.fn "reduced" = d_reduced := by kernel_rfl
theorem fn_inverse_in__power_in : T_inverse_in.fn "power_in" = d_power_in := by kernel_rfl
noncomputable abbrev T_is_prime_number : Tb := tabs.B.withF F_is_prime_number
noncomputable abbrev T_is_great : Tb := tabs.B.withF F_is_great
theorem fn_is_great__is_count : T_is_great.fn "is_count" = d_is_count := by kernel_rfl
theorem fn_is_great__is_prime_number : T_is_great.fn "is_prime_number" = d_is_prime_number := by kernel_rfl
noncomputable abbrev T_need_great : Tb := tabs.B.withF F_need_great
theorem fn_need_great__is_great : T_need_great.fn "is_great" = d_is_great := by kernel_rfl
noncomputable abbrev T_next_in : Tb := tabs.B.withF F_next_in
theorem fn_next_in__is_prime_number : T_next_in.fn "is_prime_number" = d_is_prime_number := by kernel_rfl
noncomputable abbrev T_next_great : Tb := tabs.B.withF F_next_great
theorem fn_next_great__next_in : T_next_great.fn "next_in" = d_next_in := by kernel_rfl
theorem fn_next_great__is_count : T_next_great.fn "is_count" = d_is_count := by kernel_rfl
noncomputable abbrev T_rest_in : Tb := tabs.B.withF F_rest_in
theorem fn_rest_in__inverse_in : T_rest_in.fn "inverse_in" = d_inverse_in := by kernel_rfl
noncomputable abbrev T_rest_by : Tb := tabs.B.withF F_rest_by
theorem fn_rest_by__need_great : T_rest_by.fn "need_great" = d_need_great := by kernel_rfl
theorem fn_rest_by__rest_in : T_rest_by.fn "rest_in" = d_rest_in := by kernel_rfl
theorem fn_rest_by__is_fraction : T_rest_by.fn "is_fraction" = d_is_fraction := by kernel_rfl
noncomputable abbrev T_together_in : Tb := tabs.B.withF F_together_in
theorem fn_together_in__inverse_in : T_together_in.fn "inverse_in" = d_inverse_in := by kernel_rfl
noncomputable abbrev T_need_primes : Tb := tabs.B.withF F_need_primes
theorem fn_need_primes__is_great : T_need_primes.fn "is_great" = d_is_great := by kernel_rfl
noncomputable abbrev T_put_together : Tb := tabs.B.withF F_put_together
theorem fn_put_together__need_primes : T_put_together.fn "need_primes" = d_need_primes := by kernel_rfl
theorem fn_put_together__together_in : T_put_together.fn "together_in" = d_together_in := by kernel_rfl
theorem fn_put_together__is_count : T_put_together.fn "is_count" = d_is_count := by kernel_rfl
noncomputable abbrev T_common_divisor : Tb := tabs.B.withF F_common_divisor
noncomputable abbrev T_back_in : Tb := tabs.B.withF F_back_in
theorem fn_back_in__common_divisor : T_back_in.fn "common_divisor" = d_common_divisor := by kernel_rfl
noncomputable abbrev T_brought_back : Tb := tabs.B.withF F_brought_back
theorem fn_brought_back__back_in : T_brought_back.fn "back_in" = d_back_in := by kernel_rfl
theorem fn_brought_back__is_count : T_brought_back.fn "is_count" = d_is_count := by kernel_rfl
noncomputable abbrev T_l_pen : Tb := tabs.B.withF F_l_pen
noncomputable abbrev T_l_draw : Tb := tabs.B.withF F_l_draw
noncomputable abbrev T_l_pick : Tb := tabs.B.withF F_l_pick
theorem fn_l_pick__l_draw : T_l_pick.fn "_law_draw" = d_l_draw := by kernel_rfl
noncomputable abbrev T_l_gcd : Tb := tabs.B.withF F_l_gcd
noncomputable abbrev T_l_lowest : Tb := tabs.B.withF F_l_lowest
theorem fn_l_lowest__l_gcd : T_l_lowest.fn "_law_gcd" = d_l_gcd := by kernel_rfl
noncomputable abbrev T_l_call : Tb := tabs.B.withF F_l_call
theorem fn_l_call__put_together : T_l_call.fn "put_together" = d_put_together := by kernel_rfl
theorem fn_l_call__brought_back : T_l_call.fn "brought_back" = d_brought_back := by kernel_rfl
theorem fn_l_call__next_great : T_l_call.fn "next_great" = d_next_great := by kernel_rfl
theorem fn_l_call__rest_by : T_l_call.fn "rest_by" = d_rest_by := by kernel_rfl
noncomputable abbrev T_l_raised : Tb := tabs.B.withF F_l_raised
theorem fn_l_raised__l_call : T_l_raised.fn "_law_call" = d_l_call := by kernel_rfl
noncomputable abbrev T_l_is_prime : Tb := tabs.B.withF F_l_is_prime
noncomputable abbrev T_l_power_by : Tb := tabs.B.withF F_l_power_by
noncomputable abbrev T_l_errors_right : Tb := tabs.B.withF F_l_errors_right
theorem fn_l_errors_right__l_raised : T_l_errors_right.fn "_law_raised" = d_l_raised := by kernel_rfl
noncomputable abbrev T_law : Tb := tabs.B.withF F_law
theorem fn_law__l_pen : T_law.fn "_law_pen" = d_l_pen := by kernel_rfl
theorem fn_law__l_pick : T_law.fn "_law_pick" = d_l_pick := by kernel_rfl
theorem fn_law__next_great : T_law.fn "next_great" = d_next_great := by kernel_rfl
theorem fn_law__l_draw : T_law.fn "_law_draw" = d_l_draw := by kernel_rfl
theorem fn_law__l_lowest : T_law.fn "_law_lowest" = d_l_lowest := by kernel_rfl
theorem fn_law__put_together : T_law.fn "put_together" = d_put_together := by kernel_rfl
theorem fn_law__brought_back : T_law.fn "brought_back" = d_brought_back := by kernel_rfl
theorem fn_law__l_is_prime : T_law.fn "_law_is_prime" = d_l_is_prime := by kernel_rfl
theorem fn_law__l_errors_right : T_law.fn "_law_errors_right" = d_l_errors_right := by kernel_rfl
theorem fn_law__rest_by : T_law.fn "rest_by" = d_rest_by := by kernel_rfl
theorem fn_law__l_gcd : T_law.fn "_law_gcd" = d_l_gcd := by kernel_rfl
theorem fn_law__l_power_by : T_law.fn "_law_power_by" = d_l_power_by := by kernel_rfl
end K22

namespace K22
open PySem PySem.Spec PyProof.Rows L2 Dn
def penL (cells : List Int) (a dg c f : Int) : List (Key × D) := [(.inr "cells", .lst (cells.map .int)), (.inr "at", .int a), (.inr "digits", .int dg), (.inr "count", .int c), (.inr "fold", .int f)]
section
variable (cells : List Int) (a dg c f v : Int)
theorem get_cells : kvGet (.inr "cells") (penL cells a dg c f) = some (.lst (cells.map .int)) := by kernel_rfl
theorem get_at : kvGet (.inr "at") (penL cells a dg c f) = some (.int a) := by kernel_rfl
theorem get_digits : kvGet (.inr "digits") (penL cells a dg c f) = some (.int dg) := by kernel_rfl
theorem get_count : kvGet (.inr "count") (penL cells a dg c f) = some (.int c) := by kernel_rfl
theorem get_fold : kvGet (.inr "fold") (penL cells a dg c f) = some (.int f) := by kernel_rfl
theorem put_at : kvPut (.inr "at") (.int v) (penL cells a dg c f) = penL cells v dg c f := by kernel_rfl
theorem put_digits : kvPut (.inr "digits") (.int v) (penL cells a dg c f) = penL cells a v c f := by kernel_rfl
theorem put_count : kvPut (.inr "count") (.int v) (penL cells a dg c f) = penL cells a dg v f := by kernel_rfl
theorem put_fold : kvPut (.inr "fold") (.int v) (penL cells a dg c f) = penL cells a dg c v := by kernel_rfl
theorem len_pen : (penL cells a dg c f).length = 5 := rfl
theorem five_lt : (5 < sizeLine) = True := by rw [sizeLine_eq]; decide
end
theorem cmp_eq (i j : Int) : cmpO .Eq (.int i) (.int j) = some (i == j) := by kernel_rfl
theorem cmp_ge (i j : Int) : cmpO .GtE (.int i) (.int j) = some (decide (j ≤ i)) := rfl
theorem cmp_gt (i j : Int) : cmpO .Gt (.int i) (.int j) = some (decide (j < i)) := rfl
theorem cmp_lt (i j : Int) : cmpO .Lt (.int i) (.int j) = some (decide (i < j)) := rfl
theorem pow18 : binO .Pow (.int 10) (.int 18) = some (.int 1000000000000000000) := by kernel_rfl
theorem log2_lt {n : Nat} (h : n < 2 ^ 64) : n.log2 < 64 := by
  by_cases h0 : n = 0
  · subst h0; decide
  · exact (Nat.log2_lt h0).mpr h
theorem mul_ok {i j : Int} (hi : i.natAbs < 2 ^ 64) (hj : j.natAbs < 2 ^ 64) : binO .Mult (.int i) (.int j) = some (.int (i * j)) := by
  have h1 := log2_lt hi
  have h2 := log2_lt hj
  show (if i.natAbs.log2 + j.natAbs.log2 < 1000000 then some (D.int (i * j)) else none) = _
  rw [if_pos (by omega)]
theorem mod_ok {i j : Int} (hj : j ≠ 0) : binO .Mod (.int i) (.int j) = some (.int (i.fmod j)) := if_pos hj
theorem div_ok {i j : Int} (h0 : 0 < j) (hj : j.natAbs < 2 ^ 64) : binO .FloorDiv (.int i) (.int j) = some (.int (i.fdiv j)) := if_pos (.inr ⟨h0, by have := log2_lt hj; omega⟩)
theorem pow_ok {i : Int} (h : i.natAbs < 2 ^ 64) : binO .Pow (.int i) (.int 23) = some (.int (i ^ 23)) := if_pos ⟨by decide, by decide, h⟩
theorem int_ok (i : Int) : bltO .int [.int i] = some (.int i) := rfl
theorem len_lst (l : List D) : bltO .len [.lst l] = some (.int l.length) := rfl
theorem add_ok (i j : Int) : binO .Add (.int i) (.int j) = some (.int (i + j)) := rfl
theorem sub_ok (i j : Int) : binO .Sub (.int i) (.int j) = some (.int (i - j)) := rfl
theorem ix_list {cells : List Int} {a : Int} (h0 : 0 ≤ a) (h1 : a < cells.length) : ∃ x, atI (cells.map D.int) a = some (.int x) := by
  unfold L2.atI ixN
  rw [if_pos h0, List.length_map, if_pos h1]
  have : a.toNat < cells.length := by omega
  exact ⟨cells[a.toNat], by show (cells.map D.int)[a.toNat]? = _; rw [List.getElem?_map, List.getElem?_eq_getElem this]; rfl⟩
theorem fmod_rng (i : Int) {j : Int} (h : 0 < j) : 0 ≤ i.fmod j ∧ i.fmod j < j := by
  rw [Int.fmod_eq_emod_of_nonneg i (by omega)]
  exact ⟨Int.emod_nonneg i (by omega), Int.emod_lt_of_pos i h⟩
/-- what a drawing keeps -/
structure PenOk (cells : List Int) (a dg c f : Int) : Prop where
  a0 : 0 ≤ a
  d0 : 0 ≤ dg
  c0 : 0 ≤ c
  f0 : 0 ≤ f
  f1 : f < 2147483648
theorem fnDen_rt {n slots : Nat} {b : SM} {ds : List D} {μ μ' : Wd} {d : D} (hl : ds.length = n) (e : b (ds.map .val ++ List.replicate (slots - n) .un) μ = .rt d μ') : fnDen n slots b ds μ = .ok d μ' := by
  unfold fnDen
  rw [if_pos hl, e]
theorem withF_fn (B : Tb) (F : Str → List D → M D) (x : Str) : (B.withF F).fn x = F x := rfl
theorem for_of {T : Tb} {tg : Tg} {it : Ex} {body : Sm} {η : Env'} {μ μ' : Wd} {ds : List D} {r : SRes} (h : (den T it).i η μ = .ok ds μ') (h2 : forN tg (denS T body).s ds η μ' = r) : (denS T (.for_ tg it body)).s η μ = r := by
  show SM.of _ _ _ _ = _
  unfold SM.of
  rw [h]
  exact h2
theorem seq_nx {T : Tb} {a b : Sm} {η η' : Env'} {μ μ' : Wd} (h : (denS T a).s η μ = .nx η' μ') : (denS T (.cons a b)).s η μ = (denS T b).s η' μ' := by
  show (SM.seq (denS T a).s (denS T b).s) η μ = _
  unfold SM.seq
  rw [h]
theorem seq_rt {T : Tb} {a b : Sm} {η : Env'} {μ μ' : Wd} {d : D} (h : (denS T a).s η μ = .rt d μ') : (denS T (.cons a b)).s η μ = .rt d μ' := by
  show (SM.seq (denS T a).s (denS T b).s) η μ = _
  unfold SM.seq
  rw [h]
section
variable {T : Tb} {cells : List Int} {a dg c f many : Int} {s2 s3 s4 : Slot}
def dr1 : Sm := match c_l_draw with | .cons a _ => a | s => s
def dr2 : Sm := match c_l_draw with | .cons _ (.cons a _) => a | s => s
def dr3 : Sm := match c_l_draw with | .cons _ (.cons _ r) => r | s => s
theorem dr_eq : c_l_draw = .cons dr1 (.cons dr2 dr3) := rfl
theorem dr1_ok : (denS T dr1).s [.val (.ref 0), .val (.int many), s2, s3, s4] [.dct (penL cells a dg c f)] = .nx [.val (.ref 0), .val (.int many), s2, s3, s4] [.dct (penL cells a dg (c + 1) f)] := by
  unfold dr1 c_l_draw
  simp [denS, den, SM.of, Dd.ofV, M.bind, M.pure, M.opt, bind2, ixM, cstD, keyO, get_count, put_count, len_pen, five_lt, add_ok]
theorem dr2_ok (h : PenOk cells a dg c f) : ∃ a' dg' f' s2', (denS T dr2).s [.val (.ref 0), .val (.int many), s2, s3, s4] [.dct (penL cells a dg c f)] = .nx [.val (.ref 0), .val (.int many), s2', s3, s4] [.dct (penL cells a' dg' c f')] ∧ PenOk cells a' dg' c f' := by
  obtain ⟨a0, d0, c0, f0, f1⟩ := h
  unfold dr2 c_l_draw
  by_cases h1 : dg = 0
  · subst h1
    by_cases h2 : a < cells.length
    · obtain ⟨x, hx⟩ := ix_list a0 h2
      by_cases h3 : 1000000000000000000 ≤ x
      · refine ⟨a + 1, x - 1000000000000000000, f, .val (.int x), ?_, by omega, by omega, c0, f0, f1⟩
        simp [denS, den, SM.seq, SM.of, SM.skip, Dd.ofV, Dd.ofT, M.bind, M.pure, M.opt, bind2, ixM, ixO, cstD, keyO, andT, isNil, truO, get_cells, get_at, get_digits, get_count, get_fold, put_at, put_digits, put_count, put_fold, len_pen, five_lt, cmp_eq, cmp_ge, cmp_gt, cmp_lt, pow18, int_ok, len_lst, add_ok, sub_ok, hx, h2, h3]
      · obtain ⟨g1, g2⟩ := fmod_rng (f * 73607 + x) (j := 2147483543) (by decide)
        refine ⟨a + 1, 0, (f * 73607 + x).fmod 2147483543, .val (.int x), ?_, by omega, by omega, c0, g1, by omega⟩
        simp [denS, den, SM.seq, SM.of, SM.skip, Dd.ofV, Dd.ofT, M.bind, M.pure, M.opt, bind2, ixM, ixO, cstD, keyO, andT, isNil, truO, get_cells, get_at, get_digits, get_count, get_fold, put_at, put_digits, put_count, put_fold, len_pen, five_lt, cmp_eq, cmp_ge, cmp_gt, cmp_lt, pow18, int_ok, len_lst, add_ok, sub_ok, hx, h2, h3, mul_ok (show f.natAbs < 2 ^ 64 by omega) (show (73607 : Int).natAbs < 2 ^ 64 by decide), mod_ok (show (2147483543 : Int) ≠ 0 by decide)]
    · refine ⟨a, 0, f, s2, ?_, a0, d0, c0, f0, f1⟩
      simp [denS, den, SM.seq, SM.of, SM.skip, Dd.ofV, Dd.ofT, M.bind, M.pure, M.opt, bind2, ixM, ixO, cstD, keyO, andT, isNil, truO, get_cells, get_at, get_digits, cmp_eq, cmp_lt, len_lst, h2]
  · refine ⟨a, dg, f, s2, ?_, a0, d0, c0, f0, f1⟩
    simp [denS, den, SM.seq, SM.of, SM.skip, Dd.ofV, Dd.ofT, M.bind, M.pure, M.opt, bind2, ixM, ixO, cstD, keyO, andT, isNil, truO, get_digits, cmp_eq, h1]
theorem dr3_ok (h : PenOk cells a dg c f) (hc : c ≤ 1000000000) (hm : 1 ≤ many) (hm2 : many < 1000000000000) : ∃ r dg', (denS T dr3).s [.val (.ref 0), .val (.int many), s2, s3, s4] [.dct (penL cells a dg c f)] = .rt (.int r) [.dct (penL cells a dg' c f)] ∧ 0 ≤ r ∧ r < many ∧ PenOk cells a dg' c f := by
  obtain ⟨a0, d0, c0, f0, f1⟩ := h
  unfold dr3 c_l_draw
  by_cases h1 : 0 < dg
  · refine ⟨dg.fmod many, dg.fdiv many, ?_, (fmod_rng _ (by omega)).1, (fmod_rng _ (by omega)).2, a0, Int.fdiv_nonneg d0 (by omega), c0, f0, f1⟩
    simp [denS, den, SM.seq, SM.of, SM.skip, Dd.ofV, Dd.ofT, M.bind, M.pure, M.opt, bind2, ixM, ixO, cstD, keyO, get_digits, put_digits, len_pen, five_lt, cmp_gt, int_ok, h1, mod_ok (show many ≠ 0 by omega), div_ok (show 0 < many by omega) (show many.natAbs < 2 ^ 64 by omega)]
  · have hb : (f + c * 9601 + 151).natAbs < 2 ^ 64 := by omega
    refine ⟨((((f + c * 9601 + 151) ^ 23).fmod 2305843009213693951).fdiv 128).fmod many, dg, ?_, (fmod_rng _ (by omega)).1, (fmod_rng _ (by omega)).2, a0, d0, c0, f0, f1⟩
    simp [denS, den, SM.seq, SM.of, SM.skip, Dd.ofV, Dd.ofT, M.bind, M.pure, M.opt, bind2, ixM, ixO, cstD, keyO, get_digits, get_fold, get_count, cmp_gt, int_ok, h1, add_ok, mul_ok (show c.natAbs < 2 ^ 64 by omega) (show (9601 : Int).natAbs < 2 ^ 64 by decide), pow_ok hb, mod_ok (show (2305843009213693951 : Int) ≠ 0 by decide), div_ok (show (0 : Int) < 128 by decide) (show (128 : Int).natAbs < 2 ^ 64 by decide), mod_ok (show many ≠ 0 by omega)]
end
theorem draw_ok {cells : List Int} {a dg c f many : Int} (h : PenOk cells a dg c f) (hc : c < 1000000000) (hm : 1 ≤ many) (hm2 : many < 1000000000000) :
    ∃ r a' dg' f', d_l_draw [.ref 0, .int many] [.dct (penL cells a dg c f)] = .ok (.int r) [.dct (penL cells a' dg' (c + 1) f')] ∧ 0 ≤ r ∧ r < many ∧ PenOk cells a' dg' (c + 1) f' := by
  have h1 : PenOk cells a dg (c + 1) f := ⟨h.a0, h.d0, by have := h.c0; omega, h.f0, h.f1⟩
  obtain ⟨a', dg', f', s2', e2, h2⟩ := dr2_ok (T := tabs.B.withF F_l_draw) (many := many) (s2 := .un) (s3 := .un) (s4 := .un) h1
  obtain ⟨r, dg2, e3, r1, r2, h3⟩ := dr3_ok (T := tabs.B.withF F_l_draw) (many := many) (s2 := s2') (s3 := .un) (s4 := .un) h2 (by omega) hm hm2
  refine ⟨r, a', dg2, f', ?_, r1, r2, h3⟩
  have e : (denS (tabs.B.withF F_l_draw) c_l_draw).s (List.map Slot.val [.ref 0, .int many] ++ List.replicate (5 - 2) .un) [.dct (penL cells a dg c f)] = .rt (.int r) [.dct (penL cells a' dg2 (c + 1) f')] := by
    rw [dr_eq]
    exact (seq_nx dr1_ok).trans ((seq_nx e2).trans e3)
  exact fnDen_rt rfl e

/-! ### the pen, a pick -/
theorem atI_nat {l : List D} {r : Int} (h0 : 0 ≤ r) (h1 : r < l.length) : ∃ d, L2.atI l r = some d ∧ d ∈ l := by
  unfold L2.atI ixN
  rw [if_pos h0, if_pos h1]
  have : r.toNat < l.length := by omega
  exact ⟨l[r.toNat], List.getElem?_eq_getElem this, List.getElem_mem this⟩
theorem pick_ok {cells : List Int} {a dg c f : Int} {l : List D} (h : PenOk cells a dg c f) (hc : c < 1000000000) (hm : 1 ≤ l.length) (hm2 : l.length < 1073741824) :
    ∃ d a' dg' f', d_l_pick [.ref 0, .lst l] [.dct (penL cells a dg c f)] = .ok d [.dct (penL cells a' dg' (c + 1) f')] ∧ d ∈ l ∧ PenOk cells a' dg' (c + 1) f' := by
  obtain ⟨r, a', dg', f', e, r0, r1, hp⟩ := draw_ok (many := (l.length : Int)) h hc (by omega) (by omega)
  obtain ⟨d, ed, hd⟩ := atI_nat r0 r1
  refine ⟨d, a', dg', f', ?_, hd, hp⟩
  refine fnDen_rt rfl ?_
  have hF : (tabs.B.withF F_l_pick).fn "_law_draw" = d_l_draw := (withF_fn _ _ _).trans addF_same
  unfold c_l_pick
  simp [denS, den, SM.seq, SM.of, SM.skip, Dd.ofV, Dd.ofT, M.bind, M.pure, M.opt, bind2, ixM, ixO, len_lst, hF, e, ed]
/-- the pen's loop -/
theorem pen_loop {T : Tb} (cells : List Int) (s : Slot) (body : Sm) (hb : body = .cons (.set 1 (.bin .Mod (.blt .int (.cons (.bin .Add (.bin .Mult (.var 1) (.cst (.int 151))) (.var 2)) .nil)) (.cst (.int 1000000033)))) .nil) : ∀ (l : List Int) (f : Int) (s2 : Slot), 0 ≤ f → f < 1000000033 →
    ∃ f' s', forN (.nm 2) (denS T body).s (l.map .int) [s, .val (.int f), s2] [] = .nx [s, .val (.int f'), s'] [] ∧ 0 ≤ f' ∧ f' < 1000000033
  | [], f, s2, h0, h1 => ⟨f, s2, rfl, h0, h1⟩
  | x :: l, f, s2, h0, h1 => by
    obtain ⟨g1, g2⟩ := fmod_rng (f * 151 + x) (j := 1000000033) (by decide)
    obtain ⟨f', s', e, q1, q2⟩ := pen_loop (T := T) cells s body hb l ((f * 151 + x).fmod 1000000033) (.val (.int x)) g1 g2
    refine ⟨f', s', ?_, q1, q2⟩
    rw [← e]
    subst hb
    simp [forN, tgSet, denS, den, SM.seq, SM.of, SM.skip, Dd.ofV, M.bind, M.pure, M.opt, bind2, cstD, mul_ok (show f.natAbs < 2 ^ 64 by omega) (show (151 : Int).natAbs < 2 ^ 64 by decide), add_ok, int_ok, mod_ok (show (1000000033 : Int) ≠ 0 by decide)]
theorem pen_ok (ns : List Int) : ∃ f, d_l_pen [.lst (ns.map .int)] [] = .ok (.ref 0) [.dct (penL ns 0 0 0 f)] ∧ PenOk ns 0 0 0 f := by
  obtain ⟨f', s', e, q1, q2⟩ := pen_loop (T := tabs.B.withF F_l_pen) ns (.val (.lst (ns.map .int))) _ rfl ns 0 .un (by decide) (by decide)
  refine ⟨f', ?_, by omega, by omega, by omega, q1, by omega⟩
  refine fnDen_rt rfl ?_
  have hd : ∀ f : Int, List.foldl (fun acc kv => kvPut kv.1 kv.2 acc) [] [((.inr "cells" : Key), D.lst (ns.map .int)), (.inr "at", .int 0), (.inr "digits", .int 0), (.inr "count", .int 0), (.inr "fold", .int f)] = penL ns 0 0 0 f := fun f => by kernel_rfl
  unfold c_l_pen
  refine (seq_nx (η' := [.val (.lst (ns.map .int)), .val (.int 0), .un]) (μ' := []) rfl).trans ?_
  refine (seq_nx (for_of (ds := ns.map .int) (μ' := []) ?_ e)).trans ?_
  · simp [den, Dd.ofV, M.bind, M.pure, M.opt, itemsO]
  · simp [denS, den, SM.seq, SM.of, SM.skip, Dd.ofV, Dd.ofL, M.bind, M.pure, M.opt, bind2, cstD, listO, pairsO, keyO, hd]
end K22

/-! k22: loops by their turns; which numbers are primes; the next great prime. -/
namespace K22
open PySem PySem.Spec PyProof.Rows L2 Dn K22n
section
variable {t : Env' → M Bool} {b : SM} {η η' : Env'} {μ μ1 w : Wd} {r : SRes} {d : D}
theorem whl_go (ht : t η μ = .ok true μ1) (hb : b η μ1 = .nx η' w) (h : whl t b η' w = r) (hr : r ≠ .stuck) : whl t b η μ = r := by
  obtain ⟨n, en⟩ := whl_spec (t := t) (body := b) (η := η') (μ := w) (by rw [h]; exact hr)
  refine whl_eq (n := n + 1) ?_ hr
  simp only [whlN, SM.of, ht, if_true, hb]
  rw [en, h]
theorem whl_stop (ht : t η μ = .ok false μ1) : whl t b η μ = .nx η μ1 := whl_eq (n := 1) (by simp [whlN, SM.of, ht, SM.skip]) (by simp)
theorem whl_ret (ht : t η μ = .ok true μ1) (hb : b η μ1 = .rt d w) : whl t b η μ = .rt d w := whl_eq (n := 1) (by simp [whlN, SM.of, ht, hb]) (by simp)
end
theorem cmp_le (i j : Int) : cmpO .LtE (.int i) (.int j) = some (decide (i ≤ j)) := rfl
theorem cmp_ne (i j : Int) : cmpO .NotEq (.int i) (.int j) = some (!(i == j)) := by kernel_rfl
theorem abs_ok (i : Int) : bltO .abs [.int i] = some (.int (if i < 0 then -i else i)) := rfl
theorem log2_lt' {n k : Nat} (h : n < 2 ^ k) (hk : 0 < k) : n.log2 < k := by
  by_cases h0 : n = 0
  · subst h0; simpa using hk
  · exact (Nat.log2_lt h0).mpr h
theorem mul_big {i j : Int} (hi : i.natAbs < 2 ^ 200) (hj : j.natAbs < 2 ^ 200) : binO .Mult (.int i) (.int j) = some (.int (i * j)) := by
  have h1 := log2_lt' hi (by decide)
  have h2 := log2_lt' hj (by decide)
  show (if i.natAbs.log2 + j.natAbs.log2 < 1000000 then some (D.int (i * j)) else none) = _
  rw [if_pos (by omega)]
theorem mod_pos {i j : Int} (h : 0 < j) : binO .Mod (.int i) (.int j) = some (.int (i % j)) := by
  rw [mod_ok (by omega), Int.fmod_eq_emod_of_nonneg _ (by omega)]
theorem div_big {i j : Int} (h : 0 < j) (h2 : j.natAbs < 2 ^ 200) : binO .FloorDiv (.int i) (.int j) = some (.int (i / j)) := by
  rw [← Int.fdiv_eq_ediv_of_nonneg _ (show 0 ≤ j by omega)]
  exact if_pos (.inr ⟨h, by have := log2_lt' h2 (by decide); omega⟩)
theorem fnDen_nx {n slots : Nat} {b : SM} {ds : List D} {μ μ' : Wd} {η : Env'} (hl : ds.length = n) (e : b (ds.map .val ++ List.replicate (slots - n) .un) μ = .nx η μ') : fnDen n slots b ds μ = .ok .non μ' := by
  unfold fnDen
  rw [if_pos hl, e]
theorem fnDen_ex {n slots : Nat} {b : SM} {ds : List D} {μ μ' : Wd} {η : Env'} {c : Str} {fs : List (Str × D)} (hl : ds.length = n) (e : b (ds.map .val ++ List.replicate (slots - n) .un) μ = .exc c fs η μ') : fnDen n slots b ds μ = .exc c fs μ' := by
  unfold fnDen
  rw [if_pos hl, e]
/-! ### primes -/
/-- what trial division asks -/
def TrZ (n : Int) : Prop := n % 2 ≠ 0 ∧ ∀ j, 3 ≤ j → j % 2 = 1 → j * j ≤ n → n % j ≠ 0
theorem TrZ.nat {n : Nat} (h : TrZ n) : Tr n := by
  refine ⟨?_, fun k h3 ho hk e => ?_⟩
  · have := h.1; omega
  · refine h.2 (k : Int) (by omega) (by omega) (by exact_mod_cast hk) ?_
    rw [← Int.natCast_emod, e]; rfl
theorem Tr.int {n : Nat} (h : Tr n) : TrZ n := by
  refine ⟨?_, fun j h3 ho hk e => ?_⟩
  · have := h.1; omega
  · obtain ⟨k, rfl⟩ := Int.eq_ofNat_of_zero_le (show 0 ≤ j by omega)
    refine h.2 k (by omega) (by omega) (by exact_mod_cast hk) ?_
    rw [← Int.natCast_emod] at e
    exact_mod_cast e
section
variable {T : Tb} {n k : Int} {μ : Wd}
theorem ipn_t (hk : k.natAbs < 2 ^ 200) : (den T t_is_prime_number_2t).t [.val (.int n), .val (.int k)] μ = .ok (decide (k * k ≤ n)) μ := by
  simp [t_is_prime_number_2t, denS, den, SM.seq, SM.of, SM.skip, Dd.ofV, Dd.ofT, Dd.ofL, Dd.ofI, M.bind, M.pure, M.opt, bind2, ixM, ixO, cstD, keyO, andT, orT, Dn.andM, Dn.orM, blM, isNil, truO, cmp_eq, cmp_ne, cmp_ge, cmp_gt, cmp_lt, cmp_le, int_ok, abs_ok, add_ok, sub_ok, setAll, augO, mul_big hk hk]
theorem ipn_b1 (k0 : 0 < k) (h : n % k = 0) : (denS T t_is_prime_number_2b).s [.val (.int n), .val (.int k)] μ = .rt (.bl false) μ := by
  simp [t_is_prime_number_2b_0a_0, t_is_prime_number_2b_0a, t_is_prime_number_2b_0e, t_is_prime_number_2b_0t, t_is_prime_number_2b_0, t_is_prime_number_2b_1, t_is_prime_number_2b, denS, den, SM.seq, SM.of, SM.skip, Dd.ofV, Dd.ofT, Dd.ofL, Dd.ofI, M.bind, M.pure, M.opt, bind2, ixM, ixO, cstD, keyO, andT, orT, Dn.andM, Dn.orM, blM, isNil, truO, cmp_eq, cmp_ne, cmp_ge, cmp_gt, cmp_lt, cmp_le, int_ok, abs_ok, add_ok, sub_ok, setAll, augO, mod_pos k0, h]
theorem ipn_b2 (k0 : 0 < k) (h : n % k ≠ 0) : (denS T t_is_prime_number_2b).s [.val (.int n), .val (.int k)] μ = .nx [.val (.int n), .val (.int (k + 2))] μ := by
  simp [t_is_prime_number_2b_0a_0, t_is_prime_number_2b_0a, t_is_prime_number_2b_0e, t_is_prime_number_2b_0t, t_is_prime_number_2b_0, t_is_prime_number_2b_1, t_is_prime_number_2b, denS, den, SM.seq, SM.of, SM.skip, Dd.ofV, Dd.ofT, Dd.ofL, Dd.ofI, M.bind, M.pure, M.opt, bind2, ixM, ixO, cstD, keyO, andT, orT, Dn.andM, Dn.orM, blM, isNil, truO, cmp_eq, cmp_ne, cmp_ge, cmp_gt, cmp_lt, cmp_le, int_ok, abs_ok, add_ok, sub_ok, setAll, augO, mod_pos k0, h]
theorem lip_t (hk : k.natAbs < 2 ^ 200) : (den T t_l_is_prime_2t).t [.val (.int n), .val (.int k)] μ = .ok (decide (k * k ≤ n)) μ := by
  simp [t_l_is_prime_2t, denS, den, SM.seq, SM.of, SM.skip, Dd.ofV, Dd.ofT, Dd.ofL, Dd.ofI, M.bind, M.pure, M.opt, bind2, ixM, ixO, cstD, keyO, andT, orT, Dn.andM, Dn.orM, blM, isNil, truO, cmp_eq, cmp_ne, cmp_ge, cmp_gt, cmp_lt, cmp_le, int_ok, abs_ok, add_ok, sub_ok, setAll, augO, mul_big hk hk]
theorem lip_b1 (k0 : 0 < k) (h : n % k = 0) : (denS T t_l_is_prime_2b).s [.val (.int n), .val (.int k)] μ = .rt (.bl false) μ := by
  simp [t_l_is_prime_2b_0a_0, t_l_is_prime_2b_0a, t_l_is_prime_2b_0e, t_l_is_prime_2b_0t, t_l_is_prime_2b_0, t_l_is_prime_2b_1, t_l_is_prime_2b, denS, den, SM.seq, SM.of, SM.skip, Dd.ofV, Dd.ofT, Dd.ofL, Dd.ofI, M.bind, M.pure, M.opt, bind2, ixM, ixO, cstD, keyO, andT, orT, Dn.andM, Dn.orM, blM, isNil, truO, cmp_eq, cmp_ne, cmp_ge, cmp_gt, cmp_lt, cmp_le, int_ok, abs_ok, add_ok, sub_ok, setAll, augO, mod_pos k0, h]
theorem lip_b2 (k0 : 0 < k) (h : n % k ≠ 0) : (denS T t_l_is_prime_2b).s [.val (.int n), .val (.int k)] μ = .nx [.val (.int n), .val (.int (k + 2))] μ := by
  simp [t_l_is_prime_2b_0a_0, t_l_is_prime_2b_0a, t_l_is_prime_2b_0e, t_l_is_prime_2b_0t, t_l_is_prime_2b_0, t_l_is_prime_2b_1, t_l_is_prime_2b, denS, den, SM.seq, SM.of, SM.skip, Dd.ofV, Dd.ofT, Dd.ofL, Dd.ofI, M.bind, M.pure, M.opt, bind2, ixM, ixO, cstD, keyO, andT, orT, Dn.andM, Dn.orM, blM, isNil, truO, cmp_eq, cmp_ne, cmp_ge, cmp_gt, cmp_lt, cmp_le, int_ok, abs_ok, add_ok, sub_ok, setAll, augO, mod_pos k0, h]
end
/-- trial division's loop -/
theorem tr_loop {t : Env' → M Bool} {b : SM} {n : Int} {μ : Wd} (hn : n < 2 ^ 100)
    (ht : ∀ k : Int, k.natAbs < 2 ^ 200 → t [.val (.int n), .val (.int k)] μ = .ok (decide (k * k ≤ n)) μ)
    (h1 : ∀ k : Int, 0 < k → n % k = 0 → b [.val (.int n), .val (.int k)] μ = .rt (.bl false) μ)
    (h2 : ∀ k : Int, 0 < k → n % k ≠ 0 → b [.val (.int n), .val (.int k)] μ = .nx [.val (.int n), .val (.int (k + 2))] μ) :
    ∀ (m : Nat) (k : Int), (n + 3 - k).toNat ≤ m → 3 ≤ k → k % 2 = 1 → k ≤ n + 2 →
      (whl t b [.val (.int n), .val (.int k)] μ = .rt (.bl false) μ ∧ ∃ j, k ≤ j ∧ j % 2 = 1 ∧ j * j ≤ n ∧ n % j = 0) ∨
      (∃ k', whl t b [.val (.int n), .val (.int k)] μ = .nx [.val (.int n), .val (.int k')] μ ∧ ∀ j, k ≤ j → j % 2 = 1 → j * j ≤ n → n % j ≠ 0)
  | 0, k, hm, h3, ho, hk => by omega
  | m + 1, k, hm, h3, ho, hk => by
    have e := ht k (by omega)
    by_cases hq : k * k ≤ n
    · rw [decide_eq_true hq] at e
      by_cases hd : n % k = 0
      · exact .inl ⟨whl_ret e (h1 k (by omega) hd), k, by omega, ho, hq, hd⟩
      · have hb := h2 k (by omega) hd
        have hkk : k * 3 ≤ k * k := Int.mul_le_mul_of_nonneg_left h3 (by omega)
        rcases tr_loop hn ht h1 h2 m (k + 2) (by omega) (by omega) (by omega) (by omega) with ⟨w, j, j1, j2, j3, j4⟩ | ⟨k', w, g⟩
        · exact .inl ⟨whl_go e hb w (by simp), j, by omega, j2, j3, j4⟩
        · refine .inr ⟨k', whl_go e hb w (by simp), fun j hj hjo hjj => ?_⟩
          by_cases ej : j = k
          · subst ej; exact hd
          · exact g j (by omega) hjo hjj
    · rw [decide_eq_false hq] at e
      refine .inr ⟨k, whl_stop e, fun j hj _ hjj => ?_⟩
      have : k * k ≤ j * j := Int.mul_le_mul hj hj (by omega) (by omega)
      omega
theorem ipn {n : Int} (h3 : 3 ≤ n) (hn : n < 2 ^ 100) (μ : Wd) : ∃ b : Bool, d_is_prime_number [.int n] μ = .ok (.bl b) μ ∧ (b = true ↔ TrZ n) := by
  by_cases h2 : n % 2 = 0
  · refine ⟨false, fnDen_rt rfl ?_, ?_⟩
    · rw [sp_is_prime_number]
      refine seq_rt ?_
      simp [t_is_prime_number_0a_0, t_is_prime_number_0a, t_is_prime_number_0e, t_is_prime_number_0t, t_is_prime_number_0, denS, den, SM.seq, SM.of, SM.skip, Dd.ofV, Dd.ofT, Dd.ofL, Dd.ofI, M.bind, M.pure, M.opt, bind2, ixM, ixO, cstD, keyO, andT, orT, Dn.andM, Dn.orM, blM, isNil, truO, cmp_eq, cmp_ne, cmp_ge, cmp_gt, cmp_lt, cmp_le, int_ok, abs_ok, add_ok, sub_ok, setAll, augO, mod_pos, h2]
    · constructor
      · intro h; cases h
      · intro h; exact (h.1 h2).elim
  · have e0 : (denS T_is_prime_number t_is_prime_number_0).s [.val (.int n), .un] μ = .nx [.val (.int n), .un] μ := by
      simp [t_is_prime_number_0a_0, t_is_prime_number_0a, t_is_prime_number_0e, t_is_prime_number_0t, t_is_prime_number_0, denS, den, SM.seq, SM.of, SM.skip, Dd.ofV, Dd.ofT, Dd.ofL, Dd.ofI, M.bind, M.pure, M.opt, bind2, ixM, ixO, cstD, keyO, andT, orT, Dn.andM, Dn.orM, blM, isNil, truO, cmp_eq, cmp_ne, cmp_ge, cmp_gt, cmp_lt, cmp_le, int_ok, abs_ok, add_ok, sub_ok, setAll, augO, mod_pos, h2]
    have e1 : (denS T_is_prime_number t_is_prime_number_1).s [.val (.int n), .un] μ = .nx [.val (.int n), .val (.int 3)] μ := by
      simp [t_is_prime_number_1, denS, den, SM.seq, SM.of, SM.skip, Dd.ofV, Dd.ofT, Dd.ofL, Dd.ofI, M.bind, M.pure, M.opt, bind2, ixM, ixO, cstD, keyO, andT, orT, Dn.andM, Dn.orM, blM, isNil, truO, cmp_eq, cmp_ne, cmp_ge, cmp_gt, cmp_lt, cmp_le, int_ok, abs_ok, add_ok, sub_ok, setAll, augO]
    rcases tr_loop (t := (den T_is_prime_number t_is_prime_number_2t).t) (b := (denS T_is_prime_number t_is_prime_number_2b).s) (μ := μ) hn (fun k hk => ipn_t hk) (fun k hk h => ipn_b1 hk h) (fun k hk h => ipn_b2 hk h) _ 3 (Nat.le_refl _) (by omega) (by omega) (by omega) with ⟨w, j, j1, j2, j3, j4⟩ | ⟨k', w, g⟩
    · refine ⟨false, fnDen_rt rfl ?_, ?_⟩
      · rw [sp_is_prime_number]
        exact (seq_nx e0).trans ((seq_nx e1).trans (seq_rt w))
      · constructor
        · intro h; cases h
        · intro h; exact (h.2 j j1 j2 j3 j4).elim
    · refine ⟨true, fnDen_rt rfl ?_, ?_⟩
      · rw [sp_is_prime_number]
        exact (seq_nx e0).trans ((seq_nx e1).trans ((seq_nx (T := T_is_prime_number) (a := t_is_prime_number_2) w).trans rfl))
      · exact ⟨fun _ => ⟨h2, g⟩, fun _ => rfl⟩
theorem lip {n : Int} (h3 : 3 ≤ n) (hn : n < 2 ^ 100) (μ : Wd) : ∃ b : Bool, d_l_is_prime [.int n] μ = .ok (.bl b) μ ∧ (b = true ↔ TrZ n) := by
  have n2 : ¬ n < 2 := by omega
  have n2' : ¬ n = 2 := by omega
  by_cases h2 : n % 2 = 0
  · refine ⟨false, fnDen_rt rfl ?_, ?_⟩
    · rw [sp_l_is_prime]
      refine seq_rt ?_
      simp [t_l_is_prime_0a_0, t_l_is_prime_0a, t_l_is_prime_0e, t_l_is_prime_0t, t_l_is_prime_0, denS, den, SM.seq, SM.of, SM.skip, Dd.ofV, Dd.ofT, Dd.ofL, Dd.ofI, M.bind, M.pure, M.opt, bind2, ixM, ixO, cstD, keyO, andT, orT, Dn.andM, Dn.orM, blM, isNil, truO, cmp_eq, cmp_ne, cmp_ge, cmp_gt, cmp_lt, cmp_le, int_ok, abs_ok, add_ok, sub_ok, setAll, augO, mod_pos, h2, n2, n2']
    · constructor
      · intro h; cases h
      · intro h; exact (h.1 h2).elim
  · have e0 : (denS T_l_is_prime t_l_is_prime_0).s [.val (.int n), .un] μ = .nx [.val (.int n), .un] μ := by
      simp [t_l_is_prime_0a_0, t_l_is_prime_0a, t_l_is_prime_0e, t_l_is_prime_0t, t_l_is_prime_0, denS, den, SM.seq, SM.of, SM.skip, Dd.ofV, Dd.ofT, Dd.ofL, Dd.ofI, M.bind, M.pure, M.opt, bind2, ixM, ixO, cstD, keyO, andT, orT, Dn.andM, Dn.orM, blM, isNil, truO, cmp_eq, cmp_ne, cmp_ge, cmp_gt, cmp_lt, cmp_le, int_ok, abs_ok, add_ok, sub_ok, setAll, augO, mod_pos, h2, n2]
    have e1 : (denS T_l_is_prime t_l_is_prime_1).s [.val (.int n), .un] μ = .nx [.val (.int n), .val (.int 3)] μ := by
      simp [t_l_is_prime_1, denS, den, SM.seq, SM.of, SM.skip, Dd.ofV, Dd.ofT, Dd.ofL, Dd.ofI, M.bind, M.pure, M.opt, bind2, ixM, ixO, cstD, keyO, andT, orT, Dn.andM, Dn.orM, blM, isNil, truO, cmp_eq, cmp_ne, cmp_ge, cmp_gt, cmp_lt, cmp_le, int_ok, abs_ok, add_ok, sub_ok, setAll, augO]
    rcases tr_loop (t := (den T_l_is_prime t_l_is_prime_2t).t) (b := (denS T_l_is_prime t_l_is_prime_2b).s) (μ := μ) hn (fun k hk => lip_t hk) (fun k hk h => lip_b1 hk h) (fun k hk h => lip_b2 hk h) _ 3 (Nat.le_refl _) (by omega) (by omega) (by omega) with ⟨w, j, j1, j2, j3, j4⟩ | ⟨k', w, g⟩
    · refine ⟨false, fnDen_rt rfl ?_, ?_⟩
      · rw [sp_l_is_prime]
        exact (seq_nx e0).trans ((seq_nx e1).trans (seq_rt w))
      · constructor
        · intro h; cases h
        · intro h; exact (h.2 j j1 j2 j3 j4).elim
    · refine ⟨true, fnDen_rt rfl ?_, ?_⟩
      · rw [sp_l_is_prime]
        exact (seq_nx e0).trans ((seq_nx e1).trans ((seq_nx (T := T_l_is_prime) (a := t_l_is_prime_2) w).trans rfl))
      · exact ⟨fun _ => ⟨h2, g⟩, fun _ => rfl⟩
/-! ### the next great prime -/
theorem max_ok (i j : Int) : bltO .max [.int i, .int j] = some (.int (if j > i then j else i)) := rfl
theorem cn_least {F : Str → List D → M D} : (tabs.B.withF F).cn "LEAST_GREAT" = some (.int 1000003) := by kernel_rfl
theorem cn_last {F : Str → List D → M D} : (tabs.B.withF F).cn "LAST_GREAT" = some (.int 999999937) := by kernel_rfl
theorem is_count_int (i : Int) (μ : Wd) : d_is_count [.int i] μ = .ok (.bl (decide (0 ≤ i))) μ := by kernel_rfl
theorem nxi_loop {P : Int} (hP : TrZ P) (hP2 : P < 2 ^ 100) (μ : Wd) : ∀ (m : Nat) (n : Int), (P - n).toNat ≤ m → n ≤ P → 3 ≤ n →
    ∃ p, whl (den T_next_in t_next_in_1t).t (denS T_next_in t_next_in_1b).s [.val (.int n)] μ = .nx [.val (.int p)] μ ∧ n ≤ p ∧ p ≤ P ∧ TrZ p ∧ ∀ q, n ≤ q → q < p → ¬ TrZ q := by
  intro m
  induction m with
  | zero =>
    intro n hm h1 h3
    have : n = P := by omega
    subst this
    obtain ⟨b, e, hb⟩ := ipn h3 hP2 μ
    have : b = true := hb.mpr hP
    subst this
    refine ⟨n, whl_stop (μ1 := μ) ?_, by omega, by omega, hP, fun q _ _ => by omega⟩
    simp [t_next_in_1t, denS, den, SM.seq, SM.of, SM.skip, Dd.ofV, Dd.ofT, Dd.ofL, Dd.ofI, M.bind, M.pure, M.opt, bind2, ixM, ixO, cstD, keyO, andT, orT, Dn.andM, Dn.orM, blM, isNil, truO, cmp_eq, cmp_ne, cmp_ge, cmp_gt, cmp_lt, cmp_le, int_ok, abs_ok, add_ok, sub_ok, setAll, augO, fn_next_in__is_prime_number, e]
  | succ m ih =>
    intro n hm h1 h3
    obtain ⟨b, e, hb⟩ := ipn h3 (show n < 2 ^ 100 by omega) μ
    cases b with
    | true =>
      refine ⟨n, whl_stop (μ1 := μ) ?_, by omega, by omega, hb.mp rfl, fun q _ _ => by omega⟩
      simp [t_next_in_1t, denS, den, SM.seq, SM.of, SM.skip, Dd.ofV, Dd.ofT, Dd.ofL, Dd.ofI, M.bind, M.pure, M.opt, bind2, ixM, ixO, cstD, keyO, andT, orT, Dn.andM, Dn.orM, blM, isNil, truO, cmp_eq, cmp_ne, cmp_ge, cmp_gt, cmp_lt, cmp_le, int_ok, abs_ok, add_ok, sub_ok, setAll, augO, fn_next_in__is_prime_number, e]
    | false =>
      have hn : ¬ TrZ n := fun h => by have := hb.mpr h; cases this
      have hne : n ≠ P := fun h => hn (h ▸ hP)
      obtain ⟨p, w, p1, p2, p3, p4⟩ := ih (n + 1) (by omega) (by omega) (by omega)
      refine ⟨p, whl_go (μ1 := μ) ?_ ?_ w (by simp), by omega, p2, p3, fun q q1 q2 => ?_⟩
      · simp [t_next_in_1t, denS, den, SM.seq, SM.of, SM.skip, Dd.ofV, Dd.ofT, Dd.ofL, Dd.ofI, M.bind, M.pure, M.opt, bind2, ixM, ixO, cstD, keyO, andT, orT, Dn.andM, Dn.orM, blM, isNil, truO, cmp_eq, cmp_ne, cmp_ge, cmp_gt, cmp_lt, cmp_le, int_ok, abs_ok, add_ok, sub_ok, setAll, augO, fn_next_in__is_prime_number, e]
      · simp [t_next_in_1b_0, t_next_in_1b, denS, den, SM.seq, SM.of, SM.skip, Dd.ofV, Dd.ofT, Dd.ofL, Dd.ofI, M.bind, M.pure, M.opt, bind2, ixM, ixO, cstD, keyO, andT, orT, Dn.andM, Dn.orM, blM, isNil, truO, cmp_eq, cmp_ne, cmp_ge, cmp_gt, cmp_lt, cmp_le, int_ok, abs_ok, add_ok, sub_ok, setAll, augO]
      · by_cases hq : q = n
        · subst hq; exact hn
        · exact p4 q (by omega) q2
theorem next_great_ok {n P : Int} (h0 : 0 ≤ n) (hn : n < 999999937) (hP : TrZ P) (hP1 : 1000003 ≤ P) (hP2 : P < 2 ^ 100) (hnP : n < P) (μ : Wd) :
    ∃ p, d_next_great [.int n] μ = .ok (.int p) μ ∧ n < p ∧ 1000003 ≤ p ∧ p ≤ P ∧ TrZ p ∧ ∀ q, n < q → 1000003 ≤ q → q < p → ¬ TrZ q := by
  obtain ⟨p, w, p1, p2, p3, p4⟩ := nxi_loop hP hP2 μ _ (if 1000003 > n + 1 then 1000003 else n + 1) (Nat.le_refl _) (by split <;> omega) (by split <;> omega)
  have e1 : d_next_in [.int n] μ = .ok (.int p) μ := by
    refine fnDen_rt rfl ?_
    rw [sp_next_in]
    refine (seq_nx (η' := [.val (.int (if 1000003 > n + 1 then 1000003 else n + 1))]) (μ' := μ) ?_).trans ((seq_nx (T := T_next_in) (a := t_next_in_1) w).trans rfl)
    simp [t_next_in_0, denS, den, SM.seq, SM.of, SM.skip, Dd.ofV, Dd.ofT, Dd.ofL, Dd.ofI, M.bind, M.pure, M.opt, bind2, ixM, ixO, cstD, keyO, andT, orT, Dn.andM, Dn.orM, blM, isNil, truO, cmp_eq, cmp_ne, cmp_ge, cmp_gt, cmp_lt, cmp_le, int_ok, abs_ok, add_ok, sub_ok, setAll, augO, max_ok, cn_least]
  refine ⟨p, ?_, ?_, ?_, p2, p3, fun q q1 q2 q3 => p4 q (by split <;> omega) q3⟩
  · refine fnDen_rt rfl ?_
    rw [sp_next_great]
    refine (seq_nx (η' := [.val (.int n)]) (μ' := μ) ?_).trans ?_
    · have : ¬ 999999937 ≤ n := by omega
      simp [t_next_great_0a_0, t_next_great_0a, t_next_great_0e, t_next_great_0t, t_next_great_0, denS, den, SM.seq, SM.of, SM.skip, Dd.ofV, Dd.ofT, Dd.ofL, Dd.ofI, M.bind, M.pure, M.opt, bind2, ixM, ixO, cstD, keyO, andT, orT, Dn.andM, Dn.orM, blM, isNil, truO, cmp_eq, cmp_ne, cmp_ge, cmp_gt, cmp_lt, cmp_le, int_ok, abs_ok, add_ok, sub_ok, setAll, augO, cn_last, fn_next_great__is_count, is_count_int, h0, this]
    · simp [t_next_great_1, denS, den, SM.seq, SM.of, SM.skip, Dd.ofV, Dd.ofT, Dd.ofL, Dd.ofI, M.bind, M.pure, M.opt, bind2, ixM, ixO, cstD, keyO, andT, orT, Dn.andM, Dn.orM, blM, isNil, truO, cmp_eq, cmp_ne, cmp_ge, cmp_gt, cmp_lt, cmp_le, int_ok, abs_ok, add_ok, sub_ok, setAll, augO, fn_next_great__next_in, e1]
  · split at p1 <;> omega
  · split at p1 <;> omega
theorem is_great_ok {p : Int} (h1 : 1000003 ≤ p) (h2 : p ≤ 999999937) (hp : TrZ p) (μ : Wd) : d_is_great [.int p] μ = .ok (.bl true) μ := by
  obtain ⟨b, e, hb⟩ := ipn (show 3 ≤ p by omega) (by omega) μ
  have : b = true := hb.mpr hp
  subst this
  refine fnDen_rt rfl ?_
  rw [sp_is_great]
  have h0 : 0 ≤ p := by omega
  simp [t_is_great_0, denS, den, SM.seq, SM.of, SM.skip, Dd.ofV, Dd.ofT, Dd.ofL, Dd.ofI, M.bind, M.pure, M.opt, bind2, ixM, ixO, cstD, keyO, andT, orT, Dn.andM, Dn.orM, blM, isNil, truO, cmp_eq, cmp_ne, cmp_ge, cmp_gt, cmp_lt, cmp_le, int_ok, abs_ok, add_ok, sub_ok, setAll, augO, cn_last, cn_least, fn_is_great__is_count, fn_is_great__is_prime_number, is_count_int, h0, h1, h2, e]
theorem need_great_ok {p : Int} (h1 : 1000003 ≤ p) (h2 : p ≤ 999999937) (hp : TrZ p) (μ : Wd) : d_need_great [.int p] μ = .ok .non μ := by
  refine fnDen_nx (η := [.val (.int p)]) rfl ?_
  rw [sp_need_great]
  simp [t_need_great_0a_0, t_need_great_0a, t_need_great_0e, t_need_great_0t, t_need_great_0, denS, den, SM.seq, SM.of, SM.skip, Dd.ofV, Dd.ofT, Dd.ofL, Dd.ofI, M.bind, M.pure, M.opt, bind2, ixM, ixO, cstD, keyO, andT, orT, Dn.andM, Dn.orM, blM, isNil, truO, cmp_eq, cmp_ne, cmp_ge, cmp_gt, cmp_lt, cmp_le, int_ok, abs_ok, add_ok, sub_ok, setAll, augO, fn_need_great__is_great, is_great_ok h1 h2 hp]
end K22

/-! k22: divisors, powers, rests. -/
namespace K22
open PySem PySem.Spec PyProof.Rows L2 Dn K22n
section
variable {tg : Tg} {body : SM} {d : D} {ds : List D} {η η' η'' : Env'} {μ w : Wd}
theorem forN_nx (h1 : tgSet tg d η = some η') (h2 : body η' μ = .nx η'' w) : forN tg body (d :: ds) η μ = forN tg body ds η'' w := by
  simp only [forN, h1, h2]
theorem forN_ct (h1 : tgSet tg d η = some η') (h2 : body η' μ = .ct η'' w) : forN tg body (d :: ds) η μ = forN tg body ds η'' w := by
  simp only [forN, h1, h2]
theorem forN_bk (h1 : tgSet tg d η = some η') (h2 : body η' μ = .bk η'' w) : forN tg body (d :: ds) η μ = .nx η'' w := by
  simp only [forN, h1, h2]
end
theorem cd_loop (T : Tb) (μ : Wd) (b : Nat) : ∀ a : Nat, whl (den T t_common_divisor_0t).t (denS T t_common_divisor_0b).s [.val (.int a), .val (.int b)] μ = .nx [.val (.int (Nat.gcd a b : Nat)), .val (.int 0)] μ := by
  induction b using Nat.strongRecOn with
  | _ b ih =>
    intro a
    by_cases hb : b = 0
    · subst hb
      rw [Nat.gcd_zero_right]
      refine whl_stop ?_
      simp [t_common_divisor_0t, denS, den, SM.seq, SM.of, SM.skip, Dd.ofV, Dd.ofT, Dd.ofL, Dd.ofI, M.bind, M.pure, M.opt, bind2, ixM, ixO, cstD, keyO, andT, orT, Dn.andM, Dn.orM, blM, isNil, truO, cmp_eq, cmp_ne, cmp_ge, cmp_gt, cmp_lt, cmp_le, int_ok, abs_ok, add_ok, sub_ok, setAll, augO]
    · have hb' : (b : Int) ≠ 0 := by omega
      refine whl_go (μ1 := μ) ?_ ?_ ((ih (a % b) (Nat.mod_lt _ (by omega)) b).trans (by rw [gcd_lap])) (by simp)
      · simp [t_common_divisor_0t, denS, den, SM.seq, SM.of, SM.skip, Dd.ofV, Dd.ofT, Dd.ofL, Dd.ofI, M.bind, M.pure, M.opt, bind2, ixM, ixO, cstD, keyO, andT, orT, Dn.andM, Dn.orM, blM, isNil, truO, cmp_eq, cmp_ne, cmp_ge, cmp_gt, cmp_lt, cmp_le, int_ok, abs_ok, add_ok, sub_ok, setAll, augO, hb']
        omega
      · simp [t_common_divisor_0b_0, t_common_divisor_0b, denS, den, SM.seq, SM.of, SM.skip, Dd.ofV, Dd.ofT, Dd.ofL, Dd.ofI, M.bind, M.pure, M.opt, bind2, ixM, ixO, cstD, keyO, andT, orT, Dn.andM, Dn.orM, blM, isNil, truO, cmp_eq, cmp_ne, cmp_ge, cmp_gt, cmp_lt, cmp_le, int_ok, abs_ok, add_ok, sub_ok, setAll, augO, mod_pos (show (0 : Int) < b by omega)]
theorem cd_ok {a b : Int} (ha : 0 ≤ a) (hb : 0 ≤ b) (μ : Wd) : d_common_divisor [.int a, .int b] μ = .ok (.int (Nat.gcd a.natAbs b.natAbs : Nat)) μ := by
  obtain ⟨x, rfl⟩ := Int.eq_ofNat_of_zero_le ha
  obtain ⟨y, rfl⟩ := Int.eq_ofNat_of_zero_le hb
  refine fnDen_rt rfl ?_
  rw [sp_common_divisor]
  exact (seq_nx (T := T_common_divisor) (a := t_common_divisor_0) (cd_loop _ μ y x)).trans rfl
theorem lg_b0 {T : Tb} {a : Int} {s : Slot} {μ : Wd} : (denS T t_l_gcd_1b).s [.val (.int a), .val (.int 0), s] μ = .bk [.val (.int a), .val (.int 0), s] μ := by
  simp [t_l_gcd_1b_0a_0, t_l_gcd_1b_0a, t_l_gcd_1b_0e, t_l_gcd_1b_0t, t_l_gcd_1b_0, t_l_gcd_1b_1, t_l_gcd_1b, denS, den, SM.seq, SM.of, SM.skip, Dd.ofV, Dd.ofT, Dd.ofL, Dd.ofI, M.bind, M.pure, M.opt, bind2, ixM, ixO, cstD, keyO, andT, orT, Dn.andM, Dn.orM, blM, isNil, truO, cmp_eq, cmp_ne, cmp_ge, cmp_gt, cmp_lt, cmp_le, int_ok, abs_ok, add_ok, sub_ok, setAll, augO]
theorem lg_b1 {T : Tb} {a b : Nat} (hb : b ≠ 0) {s : Slot} {μ : Wd} : (denS T t_l_gcd_1b).s [.val (.int a), .val (.int b), s] μ = .nx [.val (.int b), .val (.int (a % b : Nat)), s] μ := by
  have hb' : (b : Int) ≠ 0 := by omega
  simp [t_l_gcd_1b_0a_0, t_l_gcd_1b_0a, t_l_gcd_1b_0e, t_l_gcd_1b_0t, t_l_gcd_1b_0, t_l_gcd_1b_1, t_l_gcd_1b, denS, den, SM.seq, SM.of, SM.skip, Dd.ofV, Dd.ofT, Dd.ofL, Dd.ofI, M.bind, M.pure, M.opt, bind2, ixM, ixO, cstD, keyO, andT, orT, Dn.andM, Dn.orM, blM, isNil, truO, cmp_eq, cmp_ne, cmp_ge, cmp_gt, cmp_lt, cmp_le, int_ok, abs_ok, add_ok, sub_ok, setAll, augO, hb', hb, mod_pos (show (0 : Int) < b by omega)]
theorem lg_loop (T : Tb) (μ : Wd) : ∀ (m : Nat) (ds : List D) (a b : Nat) (s : Slot), b < 2 ^ m → 2 * m ≤ ds.length → ∃ s', forN (.nm 2) (denS T t_l_gcd_1b).s ds [.val (.int a), .val (.int b), s] μ = .nx [.val (.int (Nat.gcd a b : Nat)), .val (.int 0), s'] μ := by
  have stop : ∀ (ds : List D) (a : Nat) (s : Slot), ∃ s', forN (.nm 2) (denS T t_l_gcd_1b).s ds [.val (.int a), .val (.int ((0 : Nat) : Int)), s] μ = .nx [.val (.int (Nat.gcd a 0 : Nat)), .val (.int 0), s'] μ := by
    intro ds a s
    rw [Nat.gcd_zero_right]
    cases ds with
    | nil => exact ⟨s, rfl⟩
    | cons d ds => exact ⟨.val d, forN_bk (η' := [.val (.int a), .val (.int 0), .val d]) rfl lg_b0⟩
  intro m
  induction m with
  | zero =>
    intro ds a b s hb hl
    have : b = 0 := by omega
    subst this
    exact stop ds a s
  | succ m ih =>
    intro ds a b s hb hl
    by_cases h0 : b = 0
    · subst h0; exact stop ds a s
    · match ds, hl with
      | d1 :: d2 :: ds, hl =>
        rw [forN_nx (η' := [.val (.int a), .val (.int b), .val d1]) rfl (lg_b1 h0)]
        rw [← gcd_lap a b]
        by_cases h1 : a % b = 0
        · rw [h1]; exact stop _ b _
        · rw [forN_nx (η' := [.val (.int b), .val (.int (a % b : Nat)), .val d2]) rfl (lg_b1 h1)]
          rw [← gcd_lap b (a % b)]
          refine ih ds (a % b) (b % (a % b)) (.val d2) ?_ (by simp only [List.length_cons] at hl; omega)
          have := two_laps h0 h1
          rw [Nat.pow_succ] at hb
          omega
      | [_], hl => simp only [List.length_cons, List.length_nil] at hl; omega
      | [], hl => simp only [List.length_nil] at hl; omega
theorem rng400 : rangeM (.int 0) (.int 400) = M.pure (rangeD 0 400) := by kernel_rfl
theorem rangeD_len (i : Int) (n : Nat) : (rangeD i n).length = n := by simp [rangeD]
theorem abs_cast (a : Int) : (if a < 0 then -a else a) = ((a.natAbs : Nat) : Int) := by split <;> omega
theorem lgcd_ok {a b : Int} (hb : b.natAbs < 2 ^ 200) (μ : Wd) : d_l_gcd [.int a, .int b] μ = .ok (.int (Nat.gcd a.natAbs b.natAbs : Nat)) μ := by
  obtain ⟨s', e⟩ := lg_loop T_l_gcd μ 200 (rangeD 0 400) a.natAbs b.natAbs .un hb (by rw [rangeD_len]; decide)
  refine fnDen_rt rfl ?_
  rw [sp_l_gcd]
  refine (seq_nx (η' := [.val (.int (a.natAbs : Nat)), .val (.int (b.natAbs : Nat)), .un]) (μ' := μ) ?_).trans ((seq_nx (for_of (μ' := μ) ?_ e)).trans rfl)
  · simp [t_l_gcd_0, denS, den, SM.seq, SM.of, SM.skip, Dd.ofV, Dd.ofT, Dd.ofL, Dd.ofI, M.bind, M.pure, M.opt, bind2, ixM, ixO, cstD, keyO, andT, orT, Dn.andM, Dn.orM, blM, isNil, truO, cmp_eq, cmp_ne, cmp_ge, cmp_gt, cmp_lt, cmp_le, int_ok, abs_ok, add_ok, sub_ok, setAll, augO, abs_cast]
  · simp [t_l_gcd_1t, denS, den, SM.seq, SM.of, SM.skip, Dd.ofV, Dd.ofT, Dd.ofL, Dd.ofI, M.bind, M.pure, M.opt, bind2, ixM, ixO, cstD, keyO, andT, orT, Dn.andM, Dn.orM, blM, isNil, truO, cmp_eq, cmp_ne, cmp_ge, cmp_gt, cmp_lt, cmp_le, int_ok, abs_ok, add_ok, sub_ok, setAll, augO, rng400]
/-! ### powers -/
theorem pow_loop {t : Env' → M Bool} {b : SM} {μ : Wd} {p : Nat} (E : Int → Int → Int → Env')
    (ht : ∀ n F S : Nat, t (E n F S) μ = .ok (decide (n ≠ 0)) μ)
    (h0 : ∀ n F S : Nat, F < p → S < p → n % 2 = 0 → b (E n F S) μ = .nx (E (n / 2 : Nat) F (S * S % p : Nat)) μ)
    (h1 : ∀ n F S : Nat, F < p → S < p → n % 2 = 1 → b (E n F S) μ = .nx (E (n / 2 : Nat) (F * S % p : Nat) (S * S % p : Nat)) μ) (hp : 0 < p) (n : Nat) :
    ∀ (F S : Nat), F < p → S < p → ∃ S' : Nat, whl t b (E n F S) μ = .nx (E 0 (F * S ^ n % p : Nat) S') μ := by
  induction n using Nat.strongRecOn with
  | _ n ih =>
    intro F S hF hS
    by_cases hn : n = 0
    · subst hn
      refine ⟨S, ?_⟩
      rw [Nat.pow_zero, Nat.mul_one, Nat.mod_eq_of_lt hF]
      exact whl_stop (by rw [ht]; rfl)
    · have e := ht n F S
      rw [decide_eq_true hn] at e
      rcases Nat.mod_two_eq_zero_or_one n with hm | hm
      · obtain ⟨S', w⟩ := ih (n / 2) (by omega) F (S * S % p) hF (Nat.mod_lt _ hp)
        refine ⟨S', whl_go e (h0 n F S hF hS hm) (w.trans ?_) (by simp)⟩
        rw [pow_even, show 2 * (n / 2) = n by omega]
      · obtain ⟨S', w⟩ := ih (n / 2) (by omega) (F * S % p) (S * S % p) (Nat.mod_lt _ hp) (Nat.mod_lt _ hp)
        refine ⟨S', whl_go e (h1 n F S hF hS hm) (w.trans ?_) (by simp)⟩
        rw [pow_odd, show 2 * (n / 2) + 1 = n by omega]
theorem times_in_ok {p a b : Int} (p0 : 0 < p) (ha : a.natAbs < 2 ^ 200) (hb : b.natAbs < 2 ^ 200) (μ : Wd) : d_times_in [.int p, .int a, .int b] μ = .ok (.int (a * b % p)) μ := by
  refine fnDen_rt rfl ?_
  rw [sp_times_in]
  have : p ≠ 0 := by omega
  simp [t_times_in_0a_0, t_times_in_0a, t_times_in_0e, t_times_in_0t, t_times_in_0, t_times_in_1, denS, den, SM.seq, SM.of, SM.skip, Dd.ofV, Dd.ofT, Dd.ofL, Dd.ofI, M.bind, M.pure, M.opt, bind2, ixM, ixO, cstD, keyO, andT, orT, Dn.andM, Dn.orM, blM, isNil, truO, cmp_eq, cmp_ne, cmp_ge, cmp_gt, cmp_lt, cmp_le, int_ok, abs_ok, add_ok, sub_ok, setAll, augO, mul_big ha hb, mod_pos p0, this]
theorem power_in_ok {p : Nat} (p1 : 1 < p) (p2 : p < 2 ^ 100) (a n : Nat) (ha : a < p) (μ : Wd) : d_power_in [.int p, .int a, .int n] μ = .ok (.int (a ^ n % p : Nat)) μ := by
  obtain ⟨S', w⟩ := pow_loop (t := (den T_power_in t_power_in_1t).t) (b := (denS T_power_in t_power_in_1b).s) (μ := μ) (p := p) (fun n F S => [.val (.int p), .val (.int a), .val (.int n), .val (.int F), .val (.int S)])
    (fun n F S => by
      by_cases h : n = 0
      · subst h; simp [t_power_in_1t, denS, den, SM.seq, SM.of, SM.skip, Dd.ofV, Dd.ofT, Dd.ofL, Dd.ofI, M.bind, M.pure, M.opt, bind2, ixM, ixO, cstD, keyO, andT, orT, Dn.andM, Dn.orM, blM, isNil, truO, cmp_eq, cmp_ne, cmp_ge, cmp_gt, cmp_lt, cmp_le, int_ok, abs_ok, add_ok, sub_ok, setAll, augO]
      · have h' : (n : Int) ≠ 0 := by omega
        simp [t_power_in_1t, denS, den, SM.seq, SM.of, SM.skip, Dd.ofV, Dd.ofT, Dd.ofL, Dd.ofI, M.bind, M.pure, M.opt, bind2, ixM, ixO, cstD, keyO, andT, orT, Dn.andM, Dn.orM, blM, isNil, truO, cmp_eq, cmp_ne, cmp_ge, cmp_gt, cmp_lt, cmp_le, int_ok, abs_ok, add_ok, sub_ok, setAll, augO, h, h'])
    (fun n F S hF hS hm => by
      have hm' : (n : Int) % 2 = 0 := by omega
      simp [t_power_in_1b_0a_0, t_power_in_1b_0a, t_power_in_1b_0e, t_power_in_1b_0t, t_power_in_1b_0, t_power_in_1b_1, t_power_in_1b_2, t_power_in_1b, denS, den, SM.seq, SM.of, SM.skip, Dd.ofV, Dd.ofT, Dd.ofL, Dd.ofI, M.bind, M.pure, M.opt, bind2, ixM, ixO, cstD, keyO, andT, orT, Dn.andM, Dn.orM, blM, isNil, truO, cmp_eq, cmp_ne, cmp_ge, cmp_gt, cmp_lt, cmp_le, int_ok, abs_ok, add_ok, sub_ok, setAll, augO, mod_pos, hm', fn_power_in__times_in, times_in_ok (show (0 : Int) < p by omega) (show ((S : Int)).natAbs < 2 ^ 200 by omega) (show ((S : Int)).natAbs < 2 ^ 200 by omega), div_big (show (0 : Int) < 2 by decide) (show ((2 : Int)).natAbs < 2 ^ 200 by decide)])
    (fun n F S hF hS hm => by
      have hm' : (n : Int) % 2 = 1 := by omega
      simp [t_power_in_1b_0a_0, t_power_in_1b_0a, t_power_in_1b_0e, t_power_in_1b_0t, t_power_in_1b_0, t_power_in_1b_1, t_power_in_1b_2, t_power_in_1b, denS, den, SM.seq, SM.of, SM.skip, Dd.ofV, Dd.ofT, Dd.ofL, Dd.ofI, M.bind, M.pure, M.opt, bind2, ixM, ixO, cstD, keyO, andT, orT, Dn.andM, Dn.orM, blM, isNil, truO, cmp_eq, cmp_ne, cmp_ge, cmp_gt, cmp_lt, cmp_le, int_ok, abs_ok, add_ok, sub_ok, setAll, augO, mod_pos, hm', fn_power_in__times_in, times_in_ok (show (0 : Int) < p by omega) (show ((F : Int)).natAbs < 2 ^ 200 by omega) (show ((S : Int)).natAbs < 2 ^ 200 by omega), times_in_ok (show (0 : Int) < p by omega) (show ((S : Int)).natAbs < 2 ^ 200 by omega) (show ((S : Int)).natAbs < 2 ^ 200 by omega), div_big (show (0 : Int) < 2 by decide) (show ((2 : Int)).natAbs < 2 ^ 200 by decide)])
    (by omega) n 1 a p1 ha
  rw [Nat.one_mul] at w
  refine fnDen_rt rfl ?_
  rw [sp_power_in]
  refine (seq_nx (η' := [.val (.int p), .val (.int a), .val (.int n), .val (.int 1), .val (.int a)]) (μ' := μ) ?_).trans ((seq_nx (T := T_power_in) (a := t_power_in_1) w).trans ?_)
  · have hu : d_unit_in [.int p] μ = .ok (.int 1) μ := by
      refine fnDen_rt rfl ?_
      rw [sp_unit_in]
      have : (p : Int) ≠ 0 := by omega
      have this2 : p ≠ 0 := by omega
      simp [t_unit_in_0, denS, den, SM.seq, SM.of, SM.skip, Dd.ofV, Dd.ofT, Dd.ofL, Dd.ofI, M.bind, M.pure, M.opt, bind2, ixM, ixO, cstD, keyO, andT, orT, Dn.andM, Dn.orM, blM, isNil, truO, cmp_eq, cmp_ne, cmp_ge, cmp_gt, cmp_lt, cmp_le, int_ok, abs_ok, add_ok, sub_ok, setAll, augO, this, this2]
    simp [t_power_in_0, denS, den, SM.seq, SM.of, SM.skip, Dd.ofV, Dd.ofT, Dd.ofL, Dd.ofI, M.bind, M.pure, M.opt, bind2, ixM, ixO, cstD, keyO, andT, orT, Dn.andM, Dn.orM, blM, isNil, truO, cmp_eq, cmp_ne, cmp_ge, cmp_gt, cmp_lt, cmp_le, int_ok, abs_ok, add_ok, sub_ok, setAll, augO, fn_power_in__unit_in, hu]
  · simp [t_power_in_2, denS, den, SM.seq, SM.of, SM.skip, Dd.ofV, Dd.ofT, Dd.ofL, Dd.ofI, M.bind, M.pure, M.opt, bind2, ixM, ixO, cstD, keyO, andT, orT, Dn.andM, Dn.orM, blM, isNil, truO, cmp_eq, cmp_ne, cmp_ge, cmp_gt, cmp_lt, cmp_le, int_ok, abs_ok, add_ok, sub_ok, setAll, augO]
theorem inverse_in_ok {p : Nat} (p1 : 2 < p) (p2 : p < 2 ^ 100) (a : Nat) (ha : a < p) (μ : Wd) : d_inverse_in [.int p, .int a] μ = .ok (.int (a ^ (p - 2) % p : Nat)) μ := by
  refine fnDen_rt rfl ?_
  rw [sp_inverse_in]
  have h0 : (p : Int) ≠ 0 := by omega
  have h0' : p ≠ 0 := by omega
  have e := power_in_ok (show 1 < p by omega) p2 a (p - 2) ha μ
  rw [show ((p - 2 : Nat) : Int) = (p : Int) - 2 by omega] at e
  simp [t_inverse_in_0, denS, den, SM.seq, SM.of, SM.skip, Dd.ofV, Dd.ofT, Dd.ofL, Dd.ofI, M.bind, M.pure, M.opt, bind2, ixM, ixO, cstD, keyO, andT, orT, Dn.andM, Dn.orM, blM, isNil, truO, cmp_eq, cmp_ne, cmp_ge, cmp_gt, cmp_lt, cmp_le, int_ok, abs_ok, add_ok, sub_ok, setAll, augO, h0, h0', fn_inverse_in__power_in, e]
theorem power_by_ok {q : Nat} (q1 : 1 < q) (q2 : q < 2 ^ 100) (a n : Nat) (μ : Wd) : d_l_power_by [.int a, .int n, .int q] μ = .ok (.int ((a % q) ^ n % q : Nat)) μ := by
  obtain ⟨S', w⟩ := pow_loop (t := (den T_l_power_by t_l_power_by_1t).t) (b := (denS T_l_power_by t_l_power_by_1b).s) (μ := μ) (p := q) (fun m F S => [.val (.int a), .val (.int n), .val (.int q), .val (.int F), .val (.int S), .val (.int m)])
    (fun n F S => by
      by_cases h : n = 0
      · subst h; simp [t_l_power_by_1t, denS, den, SM.seq, SM.of, SM.skip, Dd.ofV, Dd.ofT, Dd.ofL, Dd.ofI, M.bind, M.pure, M.opt, bind2, ixM, ixO, cstD, keyO, andT, orT, Dn.andM, Dn.orM, blM, isNil, truO, cmp_eq, cmp_ne, cmp_ge, cmp_gt, cmp_lt, cmp_le, int_ok, abs_ok, add_ok, sub_ok, setAll, augO]
      · have h' : 0 < n := by omega
        simp [t_l_power_by_1t, denS, den, SM.seq, SM.of, SM.skip, Dd.ofV, Dd.ofT, Dd.ofL, Dd.ofI, M.bind, M.pure, M.opt, bind2, ixM, ixO, cstD, keyO, andT, orT, Dn.andM, Dn.orM, blM, isNil, truO, cmp_eq, cmp_ne, cmp_ge, cmp_gt, cmp_lt, cmp_le, int_ok, abs_ok, add_ok, sub_ok, setAll, augO, h, h'])
    (fun n F S hF hS hm => by
      have hm' : (n : Int) % 2 = 0 := by omega
      simp [t_l_power_by_1b_0a_0, t_l_power_by_1b_0a, t_l_power_by_1b_0e, t_l_power_by_1b_0t, t_l_power_by_1b_0, t_l_power_by_1b_1, t_l_power_by_1b, denS, den, SM.seq, SM.of, SM.skip, Dd.ofV, Dd.ofT, Dd.ofL, Dd.ofI, M.bind, M.pure, M.opt, bind2, ixM, ixO, cstD, keyO, andT, orT, Dn.andM, Dn.orM, blM, isNil, truO, cmp_eq, cmp_ne, cmp_ge, cmp_gt, cmp_lt, cmp_le, int_ok, abs_ok, add_ok, sub_ok, setAll, augO, mod_pos (show (0 : Int) < 2 by decide), mod_pos (show (0 : Int) < q by omega), hm', mul_big (show ((S : Int)).natAbs < 2 ^ 200 by omega) (show ((S : Int)).natAbs < 2 ^ 200 by omega), div_big (show (0 : Int) < 2 by decide) (show ((2 : Int)).natAbs < 2 ^ 200 by decide)])
    (fun n F S hF hS hm => by
      have hm' : (n : Int) % 2 = 1 := by omega
      simp [t_l_power_by_1b_0a_0, t_l_power_by_1b_0a, t_l_power_by_1b_0e, t_l_power_by_1b_0t, t_l_power_by_1b_0, t_l_power_by_1b_1, t_l_power_by_1b, denS, den, SM.seq, SM.of, SM.skip, Dd.ofV, Dd.ofT, Dd.ofL, Dd.ofI, M.bind, M.pure, M.opt, bind2, ixM, ixO, cstD, keyO, andT, orT, Dn.andM, Dn.orM, blM, isNil, truO, cmp_eq, cmp_ne, cmp_ge, cmp_gt, cmp_lt, cmp_le, int_ok, abs_ok, add_ok, sub_ok, setAll, augO, mod_pos (show (0 : Int) < 2 by decide), mod_pos (show (0 : Int) < q by omega), hm', mul_big (show ((F : Int)).natAbs < 2 ^ 200 by omega) (show ((S : Int)).natAbs < 2 ^ 200 by omega), mul_big (show ((S : Int)).natAbs < 2 ^ 200 by omega) (show ((S : Int)).natAbs < 2 ^ 200 by omega), div_big (show (0 : Int) < 2 by decide) (show ((2 : Int)).natAbs < 2 ^ 200 by decide)])
    (by omega) n 1 (a % q) q1 (Nat.mod_lt _ (by omega))
  rw [Nat.one_mul] at w
  refine fnDen_rt rfl ?_
  rw [sp_l_power_by]
  refine (seq_nx (η' := [.val (.int a), .val (.int n), .val (.int q), .val (.int 1), .val (.int (a % q : Nat)), .val (.int n)]) (μ' := μ) ?_).trans ((seq_nx (T := T_l_power_by) (a := t_l_power_by_1) w).trans ?_)
  · simp [t_l_power_by_0, denS, den, SM.seq, SM.of, SM.skip, Dd.ofV, Dd.ofT, Dd.ofL, Dd.ofI, M.bind, M.pure, M.opt, bind2, ixM, ixO, cstD, keyO, andT, orT, Dn.andM, Dn.orM, blM, isNil, truO, cmp_eq, cmp_ne, cmp_ge, cmp_gt, cmp_lt, cmp_le, int_ok, abs_ok, add_ok, sub_ok, setAll, augO, mod_pos (show (0 : Int) < q by omega)]
  · simp [t_l_power_by_2, denS, den, SM.seq, SM.of, SM.skip, Dd.ofV, Dd.ofT, Dd.ofL, Dd.ofI, M.bind, M.pure, M.opt, bind2, ixM, ixO, cstD, keyO, andT, orT, Dn.andM, Dn.orM, blM, isNil, truO, cmp_eq, cmp_ne, cmp_ge, cmp_gt, cmp_lt, cmp_le, int_ok, abs_ok, add_ok, sub_ok, setAll, augO]
/-! ### rests -/
/-- the rest of t / b by p -/
def rs (p : Nat) (t : Int) (b : Nat) : Int := t * (((b % p) ^ (p - 2) % p : Nat) : Int) % (p : Int)
theorem pw_lt {p x : Nat} (hp : 0 < p) (p2 : p < 2 ^ 100) : (((x % p : Nat) : Int)).natAbs < 2 ^ 200 := by
  have := Nat.mod_lt x hp
  omega
theorem rest_in_ok {p : Nat} (p1 : 2 < p) (p2 : p < 2 ^ 100) {t : Int} {b : Nat} (ht : t.natAbs < 2 ^ 200) (μ : Wd) : d_rest_in [.int p, .tup [.int t, .int b]] μ = .ok (.int (rs p t b)) μ := by
  refine fnDen_rt rfl ?_
  rw [sp_rest_in]
  have e := inverse_in_ok p1 p2 (b % p) (Nat.mod_lt _ (by omega)) μ
  have em : binO .Mod (.int (b : Int)) (.int (p : Int)) = some (.int ((b % p : Nat) : Int)) := by rw [mod_pos (by omega)]; rfl
  have e0 : L2.atI [D.int t, D.int (b : Int)] 0 = some (.int t) := rfl
  have e1 : L2.atI [D.int t, D.int (b : Int)] 1 = some (.int b) := rfl
  have m := mul_big ht (pw_lt (x := (b % p) ^ (p - 2)) (show 0 < p by omega) p2)
  have m2 : binO .Mod (.int (t * (((b % p) ^ (p - 2) % p : Nat) : Int))) (.int (p : Int)) = some (.int (rs p t b)) := mod_pos (by omega)
  simp only [t_rest_in_0, denS, den, SM.seq, SM.of, SM.skip, Dd.ofV, Dd.ofT, Dd.ofL, Dd.ofI, M.bind, M.pure, M.opt, bind2, ixM, ixO, cstD, keyO, andT, orT, Dn.andM, Dn.orM, blM, isNil, truO, cmp_eq, cmp_ne, cmp_ge, cmp_gt, cmp_lt, cmp_le, int_ok, abs_ok, add_ok, sub_ok, setAll, augO, fn_rest_in__inverse_in, e, em, e0, e1, m, m2, List.getElem?_cons_zero, List.getElem?_cons_succ, List.map_cons, List.map_nil, List.cons_append, List.nil_append]
theorem is_fraction_ok {t : Int} {b : Nat} (hb : 0 < b) (hg : Nat.gcd t.natAbs b = 1) (μ : Wd) : d_is_fraction [.tup [.int t, .int b]] μ = .ok (.bl true) μ := by
  refine fnDen_rt rfl ?_
  rw [sp_is_fraction]
  have e : (denS T_is_fraction t_is_fraction_0).s [.val (.tup [.int t, .int b]), .un] μ = .nx [.val (.tup [.int t, .int b]), .un] μ := by kernel_rfl
  refine (seq_nx e).trans ?_
  have e0 : L2.atI [D.int t, D.int (b : Int)] 0 = some (.int t) := rfl
  have e1 : L2.atI [D.int t, D.int (b : Int)] 1 = some (.int b) := rfl
  have eg : bltO .gcd [.int t, .int (b : Int)] = some (.int 1) := by
    show some (D.int ((Nat.gcd t.natAbs (b : Int).natAbs : Nat) : Int)) = _
    rw [Int.natAbs_natCast, hg]; rfl
  simp [t_is_fraction_1, denS, den, SM.seq, SM.of, SM.skip, Dd.ofV, Dd.ofT, Dd.ofL, Dd.ofI, M.bind, M.pure, M.opt, bind2, ixM, ixO, cstD, keyO, andT, orT, Dn.andM, Dn.orM, blM, isNil, truO, cmp_eq, cmp_ne, cmp_ge, cmp_gt, cmp_lt, cmp_le, int_ok, abs_ok, add_ok, sub_ok, setAll, augO, e0, e1, eg, hb]
theorem rest_by_ok {p : Nat} (h1 : 1000003 ≤ p) (h2 : p ≤ 999999937) (hp : TrZ p) {t : Int} {b : Nat} (hb : 0 < b) (hg : Nat.gcd t.natAbs b = 1) (hd : b % p ≠ 0) (ht : t.natAbs < 2 ^ 200) (μ : Wd) :
    d_rest_by [.int p, .tup [.int t, .int b]] μ = .ok (.int (rs p t b)) μ := by
  refine fnDen_rt rfl ?_
  rw [sp_rest_by]
  have em : binO .Mod (.int (b : Int)) (.int (p : Int)) = some (.int ((b % p : Nat) : Int)) := by rw [mod_pos (by omega)]; rfl
  have e1 : L2.atI [D.int t, D.int (b : Int)] 1 = some (.int b) := rfl
  have hd' : (((b % p : Nat) : Int) == 0) = false := by
    have : ((b % p : Nat) : Int) ≠ 0 := by omega
    simpa using this
  have eb : ∀ x : Bool, eqO (.bl x) (.bl x) = some true := fun x => by cases x <;> kernel_rfl
  refine (seq_nx (η' := [.val (.int p), .val (.tup [.int t, .int b])]) (μ' := μ) ?_).trans ((seq_nx (η' := [.val (.int p), .val (.tup [.int t, .int b])]) (μ' := μ) ?_).trans ((seq_nx (η' := [.val (.int p), .val (.tup [.int t, .int b])]) (μ' := μ) ?_).trans ?_))
  · simp [t_rest_by_0, denS, den, SM.seq, SM.of, SM.skip, Dd.ofV, Dd.ofT, Dd.ofL, Dd.ofI, M.bind, M.pure, M.opt, bind2, ixM, ixO, cstD, keyO, andT, orT, Dn.andM, Dn.orM, blM, isNil, truO, cmp_eq, cmp_ne, cmp_ge, cmp_gt, cmp_lt, cmp_le, int_ok, abs_ok, add_ok, sub_ok, setAll, augO, fn_rest_by__need_great, need_great_ok (show (1000003 : Int) ≤ p by omega) (show (p : Int) ≤ 999999937 by omega) hp]
  · simp [t_rest_by_1a_0, t_rest_by_1a, t_rest_by_1e, t_rest_by_1t, t_rest_by_1, denS, den, SM.seq, SM.of, SM.skip, Dd.ofV, Dd.ofT, Dd.ofL, Dd.ofI, M.bind, M.pure, M.opt, bind2, ixM, ixO, cstD, keyO, andT, orT, Dn.andM, Dn.orM, blM, isNil, truO, cmp_eq, cmp_ne, cmp_ge, cmp_gt, cmp_lt, cmp_le, int_ok, abs_ok, add_ok, sub_ok, setAll, augO, fn_rest_by__is_fraction, is_fraction_ok hb hg]
  · simp only [t_rest_by_2a_0, t_rest_by_2a, t_rest_by_2e, t_rest_by_2t, t_rest_by_2, denS, den, SM.seq, SM.of, SM.skip, Dd.ofV, Dd.ofT, Dd.ofL, Dd.ofI, M.bind, M.pure, M.opt, bind2, ixM, ixO, cstD, keyO, andT, orT, Dn.andM, Dn.orM, blM, isNil, truO, cmp_eq, cmp_ne, cmp_ge, cmp_gt, cmp_lt, cmp_le, int_ok, abs_ok, add_ok, sub_ok, setAll, augO, em, e1, hd', List.getElem?_cons_zero, List.getElem?_cons_succ, Bool.false_eq_true, if_false]
  · simp [t_rest_by_3, denS, den, SM.seq, SM.of, SM.skip, Dd.ofV, Dd.ofT, Dd.ofL, Dd.ofI, M.bind, M.pure, M.opt, bind2, ixM, ixO, cstD, keyO, andT, orT, Dn.andM, Dn.orM, blM, isNil, truO, cmp_eq, cmp_ne, cmp_ge, cmp_gt, cmp_lt, cmp_le, int_ok, abs_ok, add_ok, sub_ok, setAll, augO, fn_rest_by__rest_in, rest_in_ok (show 2 < p by omega) (show p < 2 ^ 100 by omega) ht]
end K22

/-! k22: the den by parts; comprehensions by their turns. -/
namespace K22
open PySem PySem.Spec PyProof.Rows L2 Dn K22n
section
variable {T : Tb} {a b c : Ex} {η : Env'} {μ μ1 μ2 μ3 : Wd} {x y z d : D}
theorem p_var {i : Nat} (h : η[i]? = some (.val d)) : (den T (.var i)).v η μ = .ok d μ := by simp [den, Dd.ofV, M.pure, h]
theorem p_int (i : Int) : (den T (.cst (.int i))).v η μ = .ok (.int i) μ := rfl
theorem p_none : (den T (.cst .none)).v η μ = .ok .non μ := rfl
theorem p_bin {op : Operator} (ha : (den T a).v η μ = .ok x μ1) (hb : (den T b).v η μ1 = .ok y μ2) (h : binO op x y = some z) : (den T (.bin op a b)).v η μ = .ok z μ2 := by
  simp [den, Dd.ofV, bind2, M.bind, M.opt, M.pure, ha, hb, h]
theorem p_cmp {op : CmpOp} {k : Bool} (ha : (den T a).v η μ = .ok x μ1) (hb : (den T b).v η μ1 = .ok y μ2) (h : cmpO op x y = some k) : (den T (.cmp op a b)).t η μ = .ok k μ2 := by
  simp [den, Dd.ofT, bind2, M.bind, M.opt, M.pure, ha, hb, h]
theorem p_cmpv {op : CmpOp} {k : Bool} (ha : (den T a).v η μ = .ok x μ1) (hb : (den T b).v η μ1 = .ok y μ2) (h : cmpO op x y = some k) : (den T (.cmp op a b)).v η μ = .ok (.bl k) μ2 := by
  simp [den, Dd.ofT, bind2, M.bind, M.opt, M.pure, ha, hb, h]
theorem p_nt {k : Bool} (ha : (den T a).t η μ = .ok k μ1) : (den T (.nt a)).t η μ = .ok (!k) μ1 := by
  simp [den, Dd.ofT, M.bind, M.pure, ha]
theorem p_or2 {k : Bool} (ha : (den T a).t η μ = .ok false μ1) (hb : (den T b).t η μ1 = .ok k μ2) : (den T (.bop false (.cons a (.cons b .nil)))).t η μ = .ok k μ2 := by
  simp [den, Dd.ofT, orT, isNil, M.bind, M.pure, ha, hb]
theorem p_or3 {k : Bool} (ha : (den T a).t η μ = .ok false μ1) (hb : (den T b).t η μ1 = .ok false μ2) (hc : (den T c).t η μ2 = .ok k μ3) : (den T (.bop false (.cons a (.cons b (.cons c .nil))))).t η μ = .ok k μ3 := by
  simp [den, Dd.ofT, orT, isNil, M.bind, M.pure, ha, hb, hc]
theorem p_and2 {k : Bool} (ha : (den T a).t η μ = .ok true μ1) (hb : (den T b).t η μ1 = .ok k μ2) : (den T (.bop true (.cons a (.cons b .nil)))).t η μ = .ok k μ2 := by
  simp [den, Dd.ofT, andT, isNil, M.bind, M.pure, ha, hb]
theorem p_and2f (ha : (den T a).t η μ = .ok false μ1) : (den T (.bop true (.cons a (.cons b .nil)))).t η μ = .ok false μ1 := by
  simp [den, Dd.ofT, andT, isNil, M.bind, M.pure, ha]
theorem p_blt1 {f : Bf} (ha : (den T a).v η μ = .ok x μ1) (h : bltO f [x] = some z) : (den T (.blt f (.cons a .nil))).v η μ = .ok z μ1 := by
  simp [den, Dd.ofV, M.bind, M.pure, M.opt, ha, h]
theorem p_blt1t {f : Bf} {k : Bool} (ha : (den T a).v η μ = .ok x μ1) (h : bltO f [x] = some (.bl k)) : (den T (.blt f (.cons a .nil))).t η μ = .ok k μ1 := by
  simp [den, Dd.ofV, M.bind, M.pure, M.opt, ha, h, truO]
theorem p_call1 {f : Str} {F : List D → M D} (hF : T.fn f = F) (ha : (den T a).v η μ = .ok x μ1) (h : F [x] μ1 = .ok z μ2) : (den T (.call f (.cons a .nil))).v η μ = .ok z μ2 := by
  simp [den, Dd.ofV, M.bind, M.pure, M.opt, ha, hF, h]
theorem p_call2 {f : Str} {F : List D → M D} (hF : T.fn f = F) (ha : (den T a).v η μ = .ok x μ1) (hb : (den T b).v η μ1 = .ok y μ2) (h : F [x, y] μ2 = .ok z μ3) : (den T (.call f (.cons a (.cons b .nil)))).v η μ = .ok z μ3 := by
  simp [den, Dd.ofV, M.bind, M.pure, M.opt, ha, hb, hF, h]
theorem p_call3 {f : Str} {F : List D → M D} {w : D} {μ4 : Wd} (hF : T.fn f = F) (ha : (den T a).v η μ = .ok x μ1) (hb : (den T b).v η μ1 = .ok y μ2) (hc : (den T c).v η μ2 = .ok w μ3) (h : F [x, y, w] μ3 = .ok z μ4) : (den T (.call f (.cons a (.cons b (.cons c .nil))))).v η μ = .ok z μ4 := by
  simp [den, Dd.ofV, M.bind, M.pure, M.opt, ha, hb, hc, hF, h]
theorem p_call1t {f : Str} {F : List D → M D} {k : Bool} (hF : T.fn f = F) (ha : (den T a).v η μ = .ok x μ1) (h : F [x] μ1 = .ok (.bl k) μ2) : (den T (.call f (.cons a .nil))).t η μ = .ok k μ2 := by
  simp [den, Dd.ofV, M.bind, M.pure, M.opt, ha, hF, h, truO]
theorem p_ix {l : List D} {i : Int} (ha : (den T a).v η μ = .ok x μ1) (hx : itemsO x = some l) (hs : ∀ s, x ≠ .str s) (hb : (den T b).v η μ1 = .ok (.int i) μ2) (h : L2.atI l i = some d) : (den T (.ix a b)).v η μ = .ok d μ2 := by
  cases x <;> simp [itemsO] at hx
  · exact (hs _ rfl).elim
  all_goals subst hx; simp [den, Dd.ofV, bind2, M.bind, M.opt, M.pure, ixM, ixO, ha, hb, h]
theorem p_lcl {elt it ifs : Ex} {tg : Tg} {ds l : List D} (hi : (den T it).i η μ = .ok ds μ1) (h : lcLoop tg (den T ifs).at_ (den T elt).v (wipeE η tg.slots) ds [] μ1 = .ok l μ2) : (den T (.lc elt tg it ifs)).l η μ = .ok l μ2 := by
  simp [den, Dd.ofL, M.bind, M.nox, hi, h]
theorem p_lc {elt it ifs : Ex} {tg : Tg} {ds l : List D} (hi : (den T it).i η μ = .ok ds μ1) (h : lcLoop tg (den T ifs).at_ (den T elt).v (wipeE η tg.slots) ds [] μ1 = .ok l μ2) : (den T (.lc elt tg it ifs)).v η μ = .ok (.lst l) μ2 := by
  simp [den, Dd.ofL, M.bind, M.pure, M.nox, hi, h]
theorem p_vari {i : Nat} {l : List D} (h : η[i]? = some (.val d)) (hd : itemsO d = some l) : (den T (.var i)).i η μ = .ok l μ := by simp [den, Dd.ofV, M.bind, M.opt, M.pure, h, hd]
theorem p_zp {l : List D} (ha : (den T a).v η μ = .ok x μ1) (hb : (den T b).v η μ1 = .ok y μ2) (h : zipM x y = M.pure l) : (den T (.zp a b)).i η μ = .ok l μ2 := by
  simp [den, Dd.ofI, M.bind, M.pure, ha, hb, h]
theorem p_dcl {k v it : Ex} {tg : Tg} {ds : List D} {l : List (Key × D)} (hi : (den T it).i η μ = .ok ds μ1) (h : dcLoop tg (den T k).v (den T v).v (wipeE η tg.slots) ds [] μ1 = .ok l μ2) : (den T (.dcl k v tg it)).v η μ = .ok (.int l.length) μ2 := by
  simp [den, Dd.ofV, M.bind, M.pure, M.nox, hi, h]
theorem p_tup2 (ha : (den T a).v η μ = .ok x μ1) (hb : (den T b).v η μ1 = .ok y μ2) : (den T (.tup (.cons a (.cons b .nil)))).v η μ = .ok (.tup [x, y]) μ2 := by
  simp [den, Dd.ofV, M.bind, M.pure, ha, hb, sizeLine_eq]
theorem s_set {e : Ex} {i : Nat} (h : (den T e).v η μ = .ok d μ1) : (denS T (.set i e)).s η μ = .nx (η.set i (.val d)) μ1 := by
  simp [denS, SM.of, h]
theorem s_setL {e : Ex} {i : Nat} {l : List D} (h : (den T e).l η μ = .ok l μ1) : (denS T (.setL i e)).s η μ = .nx (η.set i (.own l)) μ1 := by
  simp [denS, SM.of, h]
theorem s_ret {e : Ex} (h : (den T e).v η μ = .ok d μ1) : (denS T (.cons (.ret e) .nil)).s η μ = .rt d μ1 := by
  simp [denS, SM.of, SM.seq, SM.skip, h]
theorem s_exp {e : Ex} (h : (den T e).v η μ = .ok d μ1) : (denS T (.exp e)).s η μ = .nx η μ1 := by
  simp [denS, SM.of, SM.skip, h]
theorem s_ite0 {t : Ex} {p : Sm} (h : (den T t).t η μ = .ok false μ1) : (denS T (.ite t p .nil)).s η μ = .nx η μ1 := by
  simp [denS, SM.of, SM.skip, h]
theorem s_ite1 {t : Ex} {p q : Sm} (h : (den T t).t η μ = .ok true μ1) : (denS T (.ite t p q)).s η μ = (denS T p).s η μ1 := by
  simp [denS, SM.of, SM.skip, h]
end
section
variable {tg : Tg} {test : Env' → M Bool} {elt : Env' → M D} {η : Env'} {μ : Wd}
theorem lc_fil {g : D → Bool} {f : D → D} : ∀ (ds acc : List D), (∀ d ∈ ds, ∃ η', tgSet tg d η = some η' ∧ test η' μ = .ok (g d) μ ∧ (g d = true → elt η' μ = .ok (f d) μ)) → acc.length + ds.length ≤ sizeLine →
    lcLoop tg test elt η ds acc μ = .ok (acc ++ (ds.filter g).map f) μ
  | [], acc, _, _ => by simp [lcLoop, M.pure]
  | d :: ds, acc, h, hl => by
    obtain ⟨η', h1, h2, h3⟩ := h d List.mem_cons_self
    have ht : ∀ d ∈ ds, ∃ η', tgSet tg d η = some η' ∧ test η' μ = .ok (g d) μ ∧ (g d = true → elt η' μ = .ok (f d) μ) := fun d hd => h d (List.mem_cons_of_mem _ hd)
    rw [List.length_cons] at hl
    have lt : acc.length < sizeLine := by omega
    cases hg : g d with
    | true =>
      rw [hg] at h2
      simp only [lcLoop, h1, M.bind, h2, if_true, h3 hg, lt, List.filter_cons, hg]
      rw [lc_fil ds (acc ++ [f d]) ht (by rw [List.length_append, List.length_singleton]; omega)]
      simp
    | false =>
      rw [hg] at h2
      simp only [lcLoop, h1, M.bind, h2, Bool.false_eq_true, if_false, List.filter_cons, hg]
      exact lc_fil ds acc ht (by omega)
theorem lc_map {f : D → D} (ds : List D) (h : ∀ d ∈ ds, ∃ η', tgSet tg d η = some η' ∧ test η' μ = .ok true μ ∧ elt η' μ = .ok (f d) μ) (hl : ds.length ≤ sizeLine) :
    lcLoop tg test elt η ds [] μ = .ok (ds.map f) μ := by
  have := lc_fil (g := fun _ => true) (f := f) ds [] (fun d hd => by obtain ⟨η', h1, h2, h3⟩ := h d hd; exact ⟨η', h1, h2, fun _ => h3⟩) (by simpa using hl)
  rw [List.filter_eq_self.mpr (fun _ _ => rfl), List.nil_append] at this
  exact this
end
/-- a row of whole numbers -/
def pl (ps : List Nat) : List D := ps.map fun (p : Nat) => D.int (p : Int)
theorem dc_keys {tg : Tg} {key val : Env' → M D} {η : Env'} {μ : Wd} : ∀ (ps : List Nat) (acc : List (Key × D)), (∀ p ∈ ps, ∃ η', tgSet tg (.int (p : Int)) η = some η' ∧ key η' μ = .ok (.int (p : Int)) μ ∧ val η' μ = .ok (.bl true) μ) → ps.Nodup →
    (∀ p ∈ ps, ∀ kv ∈ acc, kv.1 ≠ .inl (p : Int)) → acc.length + ps.length ≤ sizeLine → ∃ kvs, dcLoop tg key val η (pl ps) acc μ = .ok kvs μ ∧ kvs.length = acc.length + ps.length
  | [], acc, _, _, _, _ => ⟨acc, rfl, rfl⟩
  | p :: ps, acc, h, hn, ha, hl => by
    obtain ⟨η', h1, h2, h3⟩ := h p List.mem_cons_self
    rw [List.length_cons] at hl
    have lt : acc.length < sizeLine := by omega
    obtain ⟨n1, n2⟩ := List.nodup_cons.mp hn
    have hput : kvPut (.inl (p : Int)) (.bl true) acc = acc ++ [(.inl (p : Int), .bl true)] := by
      unfold kvPut
      rw [if_neg]
      simp only [List.any_eq_true, decide_eq_true_eq, not_exists, not_and]
      exact fun kv hk => ha p List.mem_cons_self kv hk
    obtain ⟨kvs, e, el⟩ := dc_keys ps (acc ++ [(.inl (p : Int), .bl true)]) (fun q hq => h q (List.mem_cons_of_mem _ hq)) n2 (fun q hq kv hk => by
      rcases List.mem_append.mp hk with hk | hk
      · exact ha q (List.mem_cons_of_mem _ hq) kv hk
      · simp only [List.mem_singleton] at hk
        subst hk
        intro he
        have : (p : Int) = q := by simpa using he
        have : p = q := by omega
        subst this
        exact n1 hq) (by rw [List.length_append, List.length_singleton]; omega)
    refine ⟨kvs, ?_, by rw [el, List.length_append, List.length_singleton, List.length_cons]; omega⟩
    show dcLoop tg key val η (.int (p : Int) :: pl ps) acc μ = _
    simp only [dcLoop, h1, M.bind, h2, h3, keyO, lt, if_true, hput]
    exact e
theorem bools_true {α : Type} (l : List α) : bltO .all [.lst (l.map fun _ => .bl true)] = some (.bl true) := by
  have e : ∀ l : List α, boolsD (l.map fun _ => D.bl true) = some (l.map fun _ => true) := by
    intro l
    induction l with
    | nil => rfl
    | cons x l ih => rw [List.map_cons, boolsD, ih]; rfl
  show (boolsD _).map _ = _
  rw [e]
  simp
end K22

/-! k22: rests put together; a small fraction brought back. -/
namespace K22
open PySem PySem.Spec PyProof.Rows L2 Dn K22n
def prd : List Nat → Nat
  | [] => 1
  | p :: ps => p * prd ps
theorem prd_pos : ∀ {ps : List Nat}, (∀ p ∈ ps, 0 < p) → 0 < prd ps
  | [], _ => by decide
  | p :: ps, h => Nat.mul_pos (h p List.mem_cons_self) (prd_pos fun q hq => h q (List.mem_cons_of_mem _ hq))
theorem tb_ok {a0 a1 : Slot} {f P p r iv : Int} {μ : Wd} (p0 : 0 < p) (P0 : 0 < P) (hp : p < 2 ^ 60) (hP : P < 2 ^ 150) (hf : f.natAbs < 2 ^ 150) (hr : r.natAbs < 2 ^ 150) (hi : d_inverse_in [.int p, .int (P % p)] μ = .ok (.int iv) μ) (hv : iv.natAbs < 2 ^ 150) :
    (denS T_together_in t_together_in_1b).s [a0, a1, .val (.int f), .val (.int P), .val (.int p), .val (.int r)] μ = .nx [a0, a1, .val (.int (f + P * ((r - f) * iv % p))), .val (.int (P * p)), .val (.int p), .val (.int r)] μ := by
  have x0 : 0 ≤ (r - f) * iv % p := Int.emod_nonneg _ (by omega)
  have x1 : (r - f) * iv % p < p := Int.emod_lt_of_pos _ p0
  have m1 := mul_big (i := r - f) (j := iv) (by omega) (by omega)
  have m2 : binO .Mod (.int ((r - f) * iv)) (.int p) = some (.int ((r - f) * iv % p)) := mod_pos p0
  have m0 : binO .Mod (.int P) (.int p) = some (.int (P % p)) := mod_pos p0
  have m3 := mul_big (i := P) (j := (r - f) * iv % p) (by omega) (by omega)
  have m4 := mul_big (i := P) (j := p) (by omega) (by omega)
  generalize (r - f) * iv % p = x at *
  simp [t_together_in_1b_0, t_together_in_1b_1, t_together_in_1b, denS, den, SM.seq, SM.of, SM.skip, Dd.ofV, Dd.ofT, Dd.ofL, Dd.ofI, Dn.M.bind, Dn.M.pure, Dn.M.opt, bind2, ixM, ixO, cstD, keyO, andT, orT, Dn.andM, Dn.orM, blM, isNil, truO, cmp_eq, cmp_ne, cmp_ge, cmp_gt, cmp_lt, cmp_le, int_ok, abs_ok, add_ok, sub_ok, setAll, augO, fn_together_in__inverse_in, m0, hi, m1, m2, m3, m4]
theorem tg_loop {a0 a1 : Slot} {μ : Wd} : ∀ (ps : List Nat) (rs : List Int) (P : Nat) (f : Int) (s4 s5 : Slot), ps.length = rs.length → (∀ p ∈ ps, 1000003 ≤ p ∧ p ≤ 999999937 ∧ Tr p ∧ ¬ p ∣ P) → ps.Nodup → (∀ x ∈ ps.zip rs, 0 ≤ x.2 ∧ x.2 < (x.1 : Int)) → 0 < P → 0 ≤ f → f < P → P * prd ps < 2 ^ 150 →
    ∃ f' s4' s5', forN (.tp [4, 5]) (denS T_together_in t_together_in_1b).s (zipD (pl ps) (rs.map D.int)) [a0, a1, .val (.int f), .val (.int P), s4, s5] μ = .nx [a0, a1, .val (.int f'), .val (.int (P * prd ps : Nat)), s4', s5'] μ ∧ 0 ≤ f' ∧ f' < (P * prd ps : Nat) ∧
      (∀ q : Int, q ∣ (P : Int) → f' % q = f % q) ∧ ps.map (fun (p : Nat) => f' % (p : Int)) = rs
  | [], [], P, f, s4, s5, _, _, _, _, _, f0, f1, _ => ⟨f, s4, s5, by rw [prd, Nat.mul_one]; rfl, f0, by rw [prd, Nat.mul_one]; exact f1, fun _ _ => rfl, rfl⟩
  | p :: ps, r :: rs, P, f, s4, s5, hl, hp, hn, hr, P0, f0, f1, hb => by
    obtain ⟨p1, p2, tp, nd⟩ := hp p List.mem_cons_self
    have pr := tp.pr (by omega)
    obtain ⟨n1, n2⟩ := List.nodup_cons.mp hn
    have pz : 0 < prd ps := prd_pos fun q hq => by have := (hp q (List.mem_cons_of_mem _ hq)).1; omega
    rw [prd, ← Nat.mul_assoc] at hb
    have hPp : P * p < 2 ^ 150 := by
      have := Nat.mul_le_mul_left (P * p) pz
      omega
    have hP : P < 2 ^ 150 := by
      have := Nat.mul_le_mul_left P (show 1 ≤ p by omega)
      omega
    have hr0 : 0 ≤ r ∧ r < (p : Int) := hr (p, r) (by simp)
    have ei := inverse_in_ok (show 2 < p by omega) (show p < 2 ^ 100 by omega) (P % p) (Nat.mod_lt _ (by omega)) μ
    have hv := Nat.mod_lt ((P % p) ^ (p - 2)) (show 0 < p by omega)
    have einv := inv_ok pr nd
    generalize (P % p) ^ (p - 2) % p = iv at *
    have hc := crt_step (P := (P : Int)) (p := (p : Int)) (f := f) (r := r) (iv := (iv : Int)) (by omega) (by omega) f0 f1 hr0.1 hr0.2 (by rw [← Int.natCast_mul, ← Int.natCast_emod, einv]; rfl)
    obtain ⟨c1, c2, c3, c4⟩ := hc
    have eb := tb_ok (a0 := a0) (a1 := a1) (f := f) (P := (P : Int)) (p := (p : Int)) (r := r) (iv := (iv : Int)) (μ := μ) (by omega) (by omega) (by omega) (by omega) (by omega) (by omega) (by rw [← Int.natCast_emod]; exact ei) (by omega)
    obtain ⟨f', s4', s5', e, g1, g2, g3, g4⟩ := tg_loop (a0 := a0) (a1 := a1) (μ := μ) ps rs (P * p) (f + (P : Int) * ((r - f) * (iv : Int) % (p : Int))) (.val (.int p)) (.val (.int r)) (by simpa using hl) (fun q hq => by
      obtain ⟨q1, q2, tq, nq⟩ := hp q (List.mem_cons_of_mem _ hq)
      exact ⟨q1, q2, tq, (tq.pr (by omega)).ndvd pr (fun h => n1 (h ▸ hq)) nq⟩) n2 (fun x hx => hr x (by simp [hx])) (Nat.mul_pos P0 (by omega)) c1 (by rw [Int.natCast_mul]; exact c2) hb
    have em : P * prd (p :: ps) = P * p * prd ps := by rw [prd, Nat.mul_assoc]
    refine ⟨f', s4', s5', ?_, g1, by rw [em]; exact g2, fun q hq => ?_, ?_⟩
    · rw [em, ← e]
      show forN (.tp [4, 5]) (denS T_together_in t_together_in_1b).s (.tup [.int (p : Int), .int r] :: zipD (pl ps) (rs.map D.int)) _ μ = _
      rw [forN_nx (η' := [a0, a1, .val (.int f), .val (.int P), .val (.int p), .val (.int r)]) rfl eb, Int.natCast_mul]
    · rw [g3 q (by rw [Int.natCast_mul]; exact Int.dvd_trans hq (Int.dvd_mul_right _ _)), c4 q hq]
    · rw [List.map_cons, g4, g3 (p : Int) (by rw [Int.natCast_mul]; exact Int.dvd_mul_left _ _), c3]
  | [], _ :: _, _, _, _, _, hl, _, _, _, _, _, _, _ => by simp at hl
  | _ :: _, [], _, _, _, _, hl, _, _, _, _, _, _, _ => by simp at hl
/-- a row of great primes -/
structure Great (ps : List Nat) : Prop where
  ne : ps ≠ []
  g : ∀ p ∈ ps, 1000003 ≤ p ∧ p ≤ 999999937 ∧ Tr p
  nd : ps.Nodup
  le : ps.length ≤ 100
/-- a list or a tuple of these -/
def sq (k : Bool) (l : List D) : D := cond k (.tup l) (.lst l)
theorem sq_items (k : Bool) (l : List D) : itemsO (sq k l) = some l := by cases k <;> rfl
theorem sq_tuple (k : Bool) (l : List D) : bltO .tuple [sq k l] = some (.tup l) := by cases k <;> rfl
theorem sq_len (k : Bool) (l : List D) : bltO .len [sq k l] = some (.int l.length) := by cases k <;> rfl
theorem sq_zip (k : Bool) (l r : List D) : zipM (sq k l) (.tup r) = M.pure (zipD l r) := by cases k <;> rfl
theorem pl_len (ps : List Nat) : (pl ps).length = ps.length := by simp [pl]
theorem pl_ne {ps : List Nat} (h : ps ≠ []) : (pl ps).isEmpty = false := by cases ps with
  | nil => exact (h rfl).elim
  | cons p ps => rfl
theorem together_ok {ps : List Nat} (h : Great ps) (k : Bool) {rs : List Int} (hl : ps.length = rs.length) (hr : ∀ x ∈ ps.zip rs, 0 ≤ x.2 ∧ x.2 < (x.1 : Int)) (hb : prd ps < 2 ^ 150) (μ : Wd) :
    ∃ f, d_together_in [sq k (pl ps), .tup (rs.map .int)] μ = .ok (.tup [.int f, .int (prd ps : Nat)]) μ ∧ 0 ≤ f ∧ f < (prd ps : Nat) ∧ ps.map (fun (p : Nat) => f % (p : Int)) = rs := by
  obtain ⟨f, s4, s5, e, g1, g2, g3, g4⟩ := tg_loop (a0 := .val (sq k (pl ps))) (a1 := .val (.tup (rs.map .int))) (μ := μ) ps rs 1 0 .un .un hl (fun p hp => by
    obtain ⟨a, b, c⟩ := h.g p hp
    exact ⟨a, b, c, fun hd => by have := Nat.le_of_dvd (by decide) hd; omega⟩) h.nd hr (by decide) (by decide) (by decide) (by rw [Nat.one_mul]; exact hb)
  rw [Nat.one_mul] at e g2
  refine ⟨f, fnDen_rt rfl ?_, g1, g2, g4⟩
  rw [sp_together_in]
  refine (seq_nx (η' := [.val (sq k (pl ps)), .val (.tup (rs.map .int)), .val (.int 0), .val (.int 1), .un, .un]) (μ' := μ) rfl).trans ((seq_nx (for_of (μ' := μ) (p_zp (p_var rfl) (p_var rfl) (sq_zip _ _ _)) e)).trans rfl)
theorem need_primes_ok {ps : List Nat} (h : Great ps) (k : Bool) (μ : Wd) : d_need_primes [sq k (pl ps)] μ = .ok .non μ := by
  refine fnDen_nx (η := [.val (sq k (pl ps)), .val (.tup (pl ps)), .un]) rfl ?_
  rw [sp_need_primes]
  refine (seq_nx (η' := [.val (sq k (pl ps)), .val (.tup (pl ps)), .un]) (μ' := μ) (s_set (p_blt1 (p_var rfl) (sq_tuple _ _)))).trans ((seq_nx (a := t_need_primes_1) (η' := [.val (sq k (pl ps)), .val (.tup (pl ps)), .un]) (μ' := μ) (s_ite0 ?_)).trans rfl)
  have e1 : (den T_need_primes (.var 1)).t [.val (sq k (pl ps)), .val (.tup (pl ps)), .un] μ = .ok true μ := by
    have hn := pl_ne h.ne
    simp only [denS, den, SM.seq, SM.of, SM.skip, Dd.ofV, Dd.ofT, Dd.ofL, Dd.ofI, Dn.M.bind, Dn.M.pure, Dn.M.opt, bind2, ixM, ixO, cstD, keyO, andT, orT, Dn.andM, Dn.orM, blM, isNil, truO, cmp_eq, cmp_ne, cmp_ge, cmp_gt, cmp_lt, cmp_le, int_ok, abs_ok, add_ok, sub_ok, setAll, augO, itemsO, hn, List.getElem?_cons_succ, List.getElem?_cons_zero]
    rfl
  have e2 : lcLoop (.nm 2) (den T_need_primes .nil).at_ (den T_need_primes (.call "is_great" (.cons (.var 2) .nil))).v (wipeE [.val (sq k (pl ps)), .val (.tup (pl ps)), .un] [2]) (pl ps) [] μ = .ok ((pl ps).map fun _ => .bl true) μ := by
    refine lc_map _ (fun d hd => ?_) (by rw [pl_len, sizeLine_eq]; have := h.le; omega)
    obtain ⟨p, hp, rfl⟩ := List.mem_map.mp hd
    obtain ⟨g1, g2, g3⟩ := h.g p hp
    exact ⟨[.val (sq k (pl ps)), .val (.tup (pl ps)), .val (.int p)], rfl, rfl, p_call1 fn_need_primes__is_great (p_var rfl) (is_great_ok (by omega) (by omega) (Tr.int g3) μ)⟩
  obtain ⟨kvs, e3, l3⟩ := dc_keys (tg := .nm 2) (key := (den T_need_primes (.var 2)).v) (val := (den T_need_primes (.cst (.bool true))).v) (η := [.val (sq k (pl ps)), .val (.tup (pl ps)), .un]) (μ := μ) ps [] (fun p _ => ⟨[.val (sq k (pl ps)), .val (.tup (pl ps)), .val (.int p)], rfl, p_var rfl, rfl⟩) h.nd (fun _ _ kv hk => by cases hk) (by rw [sizeLine_eq]; have := h.le; simp only [List.length_nil]; omega)
  refine p_or3 (μ1 := μ) (p_nt e1) (μ2 := μ) (p_nt (p_blt1t (p_lc (p_vari rfl rfl) e2) (bools_true _))) (p_cmp (p_dcl (p_vari rfl rfl) e3) (p_blt1 (p_var rfl) rfl) ?_)
  rw [cmp_lt, l3, pl_len]
  simp
theorem put_together_ok {ps : List Nat} (h : Great ps) (k : Bool) {rs : List Int} (hl : ps.length = rs.length) (hr : ∀ x ∈ ps.zip rs, 0 ≤ x.2 ∧ x.2 < (x.1 : Int)) (hb : prd ps < 2 ^ 150) (μ : Wd) :
    ∃ f, d_put_together [sq k (pl ps), .lst (rs.map .int)] μ = .ok (.int f) μ ∧ 0 ≤ f ∧ f < (prd ps : Nat) ∧ ps.map (fun (p : Nat) => f % (p : Int)) = rs := by
  obtain ⟨f, e, g⟩ := together_ok h k hl hr hb μ
  refine ⟨f, fnDen_rt rfl ?_, g⟩
  rw [sp_put_together]
  refine (seq_nx (η' := [.val (sq k (pl ps)), .val (.lst (rs.map .int)), .un, .un, .un]) (μ' := μ) (s_exp (p_call1 fn_put_together__need_primes (p_var rfl) (need_primes_ok h k μ)))).trans ?_
  refine (seq_nx (η' := [.val (sq k (pl ps)), .val (.lst (rs.map .int)), .val (.tup (rs.map .int)), .un, .un]) (μ' := μ) (s_set (p_blt1 (p_var rfl) rfl))).trans ?_
  refine (seq_nx (a := t_put_together_2) (η' := [.val (sq k (pl ps)), .val (.lst (rs.map .int)), .val (.tup (rs.map .int)), .un, .un]) (μ' := μ) (s_ite0 ?_)).trans ?_
  · have e2 : lcLoop (.tp [3, 4]) (den T_put_together .nil).at_ (den T_put_together (.bop true (.cons (.call "is_count" (.cons (.var 4) .nil)) (.cons (.cmp .Lt (.var 4) (.var 3)) .nil)))).v (wipeE [.val (sq k (pl ps)), .val (.lst (rs.map .int)), .val (.tup (rs.map .int)), .un, .un] [3, 4]) (zipD (pl ps) (rs.map .int)) [] μ = .ok ((zipD (pl ps) (rs.map .int)).map fun _ => .bl true) μ := by
      have hz : ∀ (ps : List Nat) (rs : List Int) (d : D), d ∈ zipD (pl ps) (rs.map .int) → ∃ (p : Nat) (r : Int), d = .tup [.int (p : Int), .int r] ∧ (p, r) ∈ ps.zip rs := by
        intro ps
        induction ps with
        | nil => intro rs d hd; cases hd
        | cons p ps ih =>
          intro rs d hd
          cases rs with
          | nil => cases hd
          | cons r rs =>
            rcases List.mem_cons.mp hd with rfl | hd
            · exact ⟨p, r, rfl, by simp⟩
            · obtain ⟨q, s, e, m⟩ := ih rs d hd
              exact ⟨q, s, e, by simp [m]⟩
      have zl : ∀ (l r : List D), (zipD l r).length ≤ l.length := by
        intro l
        induction l with
        | nil => intro r; exact Nat.le_refl _
        | cons x l ih =>
          intro r
          cases r with
          | nil => exact Nat.zero_le _
          | cons y r => have := ih r; simp only [zipD, List.length_cons]; omega
      refine lc_map _ (fun d hd => ?_) (by have := zl (pl ps) (rs.map .int); rw [pl_len] at this; rw [sizeLine_eq]; have := h.le; omega)
      obtain ⟨p, r, rfl, hm⟩ := hz ps rs d hd
      obtain ⟨r0, r1⟩ := hr _ hm
      simp only at r0 r1
      refine ⟨[.val (sq k (pl ps)), .val (.lst (rs.map .int)), .val (.tup (rs.map .int)), .val (.int p), .val (.int r)], rfl, rfl, ?_⟩
      simp [denS, den, SM.seq, SM.of, SM.skip, Dd.ofV, Dd.ofT, Dd.ofL, Dd.ofI, Dn.M.bind, Dn.M.pure, Dn.M.opt, bind2, ixM, ixO, cstD, keyO, andT, orT, Dn.andM, Dn.orM, blM, isNil, truO, cmp_eq, cmp_ne, cmp_ge, cmp_gt, cmp_lt, cmp_le, int_ok, abs_ok, add_ok, sub_ok, setAll, augO, fn_put_together__is_count, is_count_int, r0, r1]
    refine p_or2 (μ1 := μ) (p_cmp (p_blt1 (p_var rfl) rfl) (p_blt1 (p_var rfl) (sq_len _ _)) ?_) (p_nt (p_blt1t (p_lc (p_zp (p_var rfl) (p_var rfl) (sq_zip _ _ _)) e2) (bools_true _)))
    rw [cmp_ne, pl_len, List.length_map, hl]
    simp
  · exact s_ret (p_ix (p_call2 fn_put_together__together_in (p_var rfl) (p_var rfl) e) rfl (fun _ h => by cases h) (p_int 0) rfl)
/-! ### a small fraction brought back -/
theorem bi_t {T : Tb} {r M one two first second : Int} {s6 s7 : Slot} {μ : Wd} (h : two.natAbs < 2 ^ 150) : (den T t_back_in_1t).t [.val (.int r), .val (.int M), .val (.int one), .val (.int two), .val (.int first), .val (.int second), s6, s7] μ = .ok (decide (M ≤ 2 * two * two)) μ := by
  have m1 := mul_big (i := 2) (j := two) (by decide) (by omega)
  have m2 := mul_big (i := 2 * two) (j := two) (by omega) (by omega)
  simp [t_back_in_1t, denS, den, SM.seq, SM.of, SM.skip, Dd.ofV, Dd.ofT, Dd.ofL, Dd.ofI, Dn.M.bind, Dn.M.pure, Dn.M.opt, bind2, ixM, ixO, cstD, keyO, andT, orT, Dn.andM, Dn.orM, blM, isNil, truO, cmp_eq, cmp_ne, cmp_ge, cmp_gt, cmp_lt, cmp_le, int_ok, abs_ok, add_ok, sub_ok, setAll, augO, m1, m2]
theorem bi_b {T : Tb} {r M one two first second : Int} {s6 s7 : Slot} {μ : Wd} (h0 : 0 < two) (h : two.natAbs < 2 ^ 150) (h1 : 0 ≤ one) (h2 : one < 2 ^ 150) (h3 : second.natAbs < 2 ^ 150) : (denS T t_back_in_1b).s [.val (.int r), .val (.int M), .val (.int one), .val (.int two), .val (.int first), .val (.int second), s6, s7] μ = .nx [.val (.int r), .val (.int M), .val (.int two), .val (.int (one % two)), .val (.int second), .val (.int (first - one / two * second)), s6, s7] μ := by
  have d0 : 0 ≤ one / two := Int.ediv_nonneg h1 (by omega)
  have d1 : one / two ≤ one := Int.ediv_le_self _ h1
  have m1 : binO .Mod (.int one) (.int two) = some (.int (one % two)) := mod_pos h0
  have m2 : binO .FloorDiv (.int one) (.int two) = some (.int (one / two)) := div_big h0 (by omega)
  have m3 := mul_big (i := one / two) (j := second) (by omega) (by omega)
  generalize one / two = q at *
  generalize one % two = x at *
  simp [t_back_in_1b_0, t_back_in_1b, denS, den, SM.seq, SM.of, SM.skip, Dd.ofV, Dd.ofT, Dd.ofL, Dd.ofI, Dn.M.bind, Dn.M.pure, Dn.M.opt, bind2, ixM, ixO, cstD, keyO, andT, orT, Dn.andM, Dn.orM, blM, isNil, truO, cmp_eq, cmp_ne, cmp_ge, cmp_gt, cmp_lt, cmp_le, int_ok, abs_ok, add_ok, sub_ok, setAll, augO, m1, m2, m3]
theorem bi_loop {T : Tb} {r M : Int} {s6 s7 : Slot} {μ : Wd} (hM : 0 < M) (hM2 : M < 2 ^ 150) : ∀ (m : Nat) (one two first second : Int), two.toNat ≤ m → Wi M r one two first second → one ≤ M →
    ∃ one' two' first' second', whl (den T t_back_in_1t).t (denS T t_back_in_1b).s [.val (.int r), .val (.int M), .val (.int one), .val (.int two), .val (.int first), .val (.int second), s6, s7] μ = .nx [.val (.int r), .val (.int M), .val (.int one'), .val (.int two'), .val (.int first'), .val (.int second'), s6, s7] μ ∧ Wi M r one' two' first' second' ∧ one' ≤ M ∧ 2 * two' * two' < M := by
  intro m
  induction m with
  | zero =>
    intro one two first second hm w ho
    have := w.nn
    have : two = 0 := by omega
    subst this
    refine ⟨one, 0, first, second, whl_stop (by rw [bi_t (by decide)]; rw [decide_eq_false (by omega)]), w, ho, by omega⟩
  | succ m ih =>
    intro one two first second hm w ho
    have w0 := w.nn
    have w1 := w.lt
    have wb := w.bd hM
    by_cases h : M ≤ 2 * two * two
    · have t0 : 0 < two := by
        apply Int.not_le.mp; intro hc
        have : two = 0 := by omega
        subst this
        omega
      have w2 := w.step t0 h
      have h1 := Int.emod_lt_of_pos one t0
      obtain ⟨o', t', f', s', e, g⟩ := ih two (one % two) second (first - one / two * second) (by omega) w2 (by omega)
      exact ⟨o', t', f', s', whl_go (by rw [bi_t (by omega), decide_eq_true h]) (bi_b t0 (by omega) (by omega) (by omega) (by omega)) e (by simp), g⟩
    · exact ⟨one, two, first, second, whl_stop (by rw [bi_t (by omega), decide_eq_false h]), w, ho, by omega⟩
theorem back_fin {r M one two first second : Int} {μ : Wd} (hM : 2 < M) (hM2 : M < 2 ^ 150) (w : Wi M r one two first second) (hs : 2 * two * two < M) (ho : one ≤ M) (top bottom : Int) (hb : 0 < bottom) (hbM : bottom ≤ M) (ht : (0 < second ∧ top = two ∧ bottom = second) ∨ (second < 0 ∧ top = -two ∧ bottom = -second)) :
    (∃ t b, (denS T_back_in (.cons t_back_in_3 (.cons t_back_in_4 .nil))).s [.val (.int r), .val (.int M), .val (.int one), .val (.int two), .val (.int first), .val (.int second), .val (.int top), .val (.int bottom)] μ = .rt (.tup [.int t, .int b]) μ ∧ Cand M r t b) ∨
    ((denS T_back_in (.cons t_back_in_3 (.cons t_back_in_4 .nil))).s [.val (.int r), .val (.int M), .val (.int one), .val (.int two), .val (.int first), .val (.int second), .val (.int top), .val (.int bottom)] μ = .rt .non μ ∧ ∀ t b, ¬ Cand M r t b) := by
  have w0 := w.nn
  have w1 := w.lt
  have only : ∀ t b, Cand M r t b → t = top ∧ b = bottom := fun t b hc => by
    obtain ⟨k1, k2⟩ := w.same hs hc
    rcases ht with ⟨a, rfl, rfl⟩ | ⟨a, rfl, rfl⟩
    · exact k1 a
    · exact k2 a
  have dv : M ∣ top - r * bottom := by
    obtain ⟨u, hu⟩ := w.c2
    rcases ht with ⟨a, rfl, rfl⟩ | ⟨a, rfl, rfl⟩
    · exact ⟨-u, by rw [Int.mul_neg, ← hu, Int.mul_comm]; omega⟩
    · exact ⟨u, by rw [← hu, Int.mul_neg, Int.mul_comm r]; omega⟩
  have tb : top.natAbs < 2 ^ 150 := by omega
  have tt : 2 * top * top < M := by
    rcases ht with ⟨a, rfl, rfl⟩ | ⟨a, rfl, rfl⟩
    · exact hs
    · have : 2 * -two * -two = 2 * two * two := by grind
      omega
  have m1 := mul_big (i := 2) (j := bottom) (by decide) (by omega)
  have m2 := mul_big (i := 2 * bottom) (j := bottom) (by omega) (by omega)
  have g1 := cd_ok (a := bottom) (b := M) (by omega) (by omega) μ
  have g2 := cd_ok (a := (if top < 0 then -top else top)) (b := bottom) (by split <;> omega) (by omega) μ
  have ea : (if top < 0 then -top else top).natAbs = top.natAbs := by split <;> omega
  rw [ea] at g2
  by_cases c1 : M ≤ 2 * bottom * bottom
  · refine .inr ⟨seq_rt ?_, fun t b hc => ?_⟩
    · simp [t_back_in_3a_0, t_back_in_3a, t_back_in_3e, t_back_in_3t, t_back_in_3, denS, den, SM.seq, SM.of, SM.skip, Dd.ofV, Dd.ofT, Dd.ofL, Dd.ofI, Dn.M.bind, Dn.M.pure, Dn.M.opt, bind2, ixM, ixO, cstD, keyO, andT, orT, Dn.andM, Dn.orM, blM, isNil, truO, cmp_eq, cmp_ne, cmp_ge, cmp_gt, cmp_lt, cmp_le, int_ok, abs_ok, add_ok, sub_ok, setAll, augO, m1, m2, c1]
    · obtain ⟨rfl, rfl⟩ := only t b hc
      have := hc.sb
      omega
  · by_cases c2 : Nat.gcd bottom.natAbs M.natAbs = 1
    · rw [c2] at g1
      by_cases c3 : Nat.gcd top.natAbs bottom.natAbs = 1
      · rw [c3] at g2
        refine .inl ⟨top, bottom, (seq_nx (η' := [.val (.int r), .val (.int M), .val (.int one), .val (.int two), .val (.int first), .val (.int second), .val (.int top), .val (.int bottom)]) (μ' := μ) ?_).trans ?_, ⟨tt, by omega, hb, c3, c2, dv⟩⟩
        · simp [t_back_in_3a_0, t_back_in_3a, t_back_in_3e, t_back_in_3t, t_back_in_3, denS, den, SM.seq, SM.of, SM.skip, Dd.ofV, Dd.ofT, Dd.ofL, Dd.ofI, Dn.M.bind, Dn.M.pure, Dn.M.opt, bind2, ixM, ixO, cstD, keyO, andT, orT, Dn.andM, Dn.orM, blM, isNil, truO, cmp_eq, cmp_ne, cmp_ge, cmp_gt, cmp_lt, cmp_le, int_ok, abs_ok, add_ok, sub_ok, setAll, augO, m1, m2, c1, fn_back_in__common_divisor, g1, g2]
        · exact s_ret (p_tup2 (p_var rfl) (p_var rfl))
      · refine .inr ⟨seq_rt ?_, fun t b hc => ?_⟩
        · generalize Nat.gcd top.natAbs bottom.natAbs = g at *
          have c3' : (g : Int) ≠ 1 := by omega
          simp [t_back_in_3a_0, t_back_in_3a, t_back_in_3e, t_back_in_3t, t_back_in_3, denS, den, SM.seq, SM.of, SM.skip, Dd.ofV, Dd.ofT, Dd.ofL, Dd.ofI, Dn.M.bind, Dn.M.pure, Dn.M.opt, bind2, ixM, ixO, cstD, keyO, andT, orT, Dn.andM, Dn.orM, blM, isNil, truO, cmp_eq, cmp_ne, cmp_ge, cmp_gt, cmp_lt, cmp_le, int_ok, abs_ok, add_ok, sub_ok, setAll, augO, m1, m2, c1, fn_back_in__common_divisor, g1, g2, c3, c3']
        · obtain ⟨rfl, rfl⟩ := only t b hc
          exact c3 hc.g1
    · refine .inr ⟨seq_rt ?_, fun t b hc => ?_⟩
      · generalize Nat.gcd bottom.natAbs M.natAbs = g at *
        have c2' : (g : Int) ≠ 1 := by omega
        simp [t_back_in_3a_0, t_back_in_3a, t_back_in_3e, t_back_in_3t, t_back_in_3, denS, den, SM.seq, SM.of, SM.skip, Dd.ofV, Dd.ofT, Dd.ofL, Dd.ofI, Dn.M.bind, Dn.M.pure, Dn.M.opt, bind2, ixM, ixO, cstD, keyO, andT, orT, Dn.andM, Dn.orM, blM, isNil, truO, cmp_eq, cmp_ne, cmp_ge, cmp_gt, cmp_lt, cmp_le, int_ok, abs_ok, add_ok, sub_ok, setAll, augO, m1, m2, c1, fn_back_in__common_divisor, g1, c2, c2']
      · obtain ⟨rfl, rfl⟩ := only t b hc
        exact c2 hc.g2
theorem back_in_ok {r M : Int} (hM : 2 < M) (hM2 : M < 2 ^ 150) (r0 : 0 ≤ r) (r1 : r < M) (μ : Wd) :
    (∃ t b, d_back_in [.int r, .int M] μ = .ok (.tup [.int t, .int b]) μ ∧ Cand M r t b) ∨ (d_back_in [.int r, .int M] μ = .ok .non μ ∧ ∀ t b, ¬ Cand M r t b) := by
  obtain ⟨one, two, first, second, e, w, ho, hs⟩ := bi_loop (T := T_back_in) (r := r) (s6 := .un) (s7 := .un) (μ := μ) (by omega) hM2 _ M r 0 1 (Nat.le_refl _) (Wi.start hM r0 r1) (Int.le_refl _)
  have wb := w.bd (by omega)
  have go : ∀ (top bottom : Int) (d : D), (denS T_back_in t_back_in_2).s [.val (.int r), .val (.int M), .val (.int one), .val (.int two), .val (.int first), .val (.int second), .un, .un] μ = .nx [.val (.int r), .val (.int M), .val (.int one), .val (.int two), .val (.int first), .val (.int second), .val (.int top), .val (.int bottom)] μ →
      (denS T_back_in (.cons t_back_in_3 (.cons t_back_in_4 .nil))).s [.val (.int r), .val (.int M), .val (.int one), .val (.int two), .val (.int first), .val (.int second), .val (.int top), .val (.int bottom)] μ = .rt d μ → d_back_in [.int r, .int M] μ = .ok d μ := fun top bottom d e2 e3 => by
    refine fnDen_rt rfl ?_
    rw [sp_back_in]
    exact (seq_nx (η' := [.val (.int r), .val (.int M), .val (.int M), .val (.int r), .val (.int 0), .val (.int 1), .un, .un]) (μ' := μ) rfl).trans ((seq_nx (T := T_back_in) (a := t_back_in_1) e).trans ((seq_nx e2).trans e3))
  rcases w.sg with ⟨s0, _, _⟩ | ⟨s0, _, _⟩
  · have e2 : (denS T_back_in t_back_in_2).s [.val (.int r), .val (.int M), .val (.int one), .val (.int two), .val (.int first), .val (.int second), .un, .un] μ = .nx [.val (.int r), .val (.int M), .val (.int one), .val (.int two), .val (.int first), .val (.int second), .val (.int two), .val (.int second)] μ := by
      simp [t_back_in_2, denS, den, SM.seq, SM.of, SM.skip, Dd.ofV, Dd.ofT, Dd.ofL, Dd.ofI, Dn.M.bind, Dn.M.pure, Dn.M.opt, bind2, ixM, ixO, cstD, keyO, andT, orT, Dn.andM, Dn.orM, blM, isNil, truO, cmp_eq, cmp_ne, cmp_ge, cmp_gt, cmp_lt, cmp_le, int_ok, abs_ok, add_ok, sub_ok, setAll, augO, tgSet, s0, sizeLine_eq]
    rcases back_fin (μ := μ) hM hM2 w hs ho two second s0 (by omega) (.inl ⟨s0, rfl, rfl⟩) with ⟨t, b, e3, hc⟩ | ⟨e3, hc⟩
    · exact .inl ⟨t, b, go _ _ _ e2 e3, hc⟩
    · exact .inr ⟨go _ _ _ e2 e3, hc⟩
  · have s1 : ¬ 0 < second := by omega
    have e2 : (denS T_back_in t_back_in_2).s [.val (.int r), .val (.int M), .val (.int one), .val (.int two), .val (.int first), .val (.int second), .un, .un] μ = .nx [.val (.int r), .val (.int M), .val (.int one), .val (.int two), .val (.int first), .val (.int second), .val (.int (-two)), .val (.int (-second))] μ := by
      simp [t_back_in_2, denS, den, SM.seq, SM.of, SM.skip, Dd.ofV, Dd.ofT, Dd.ofL, Dd.ofI, Dn.M.bind, Dn.M.pure, Dn.M.opt, bind2, ixM, ixO, cstD, keyO, andT, orT, Dn.andM, Dn.orM, blM, isNil, truO, cmp_eq, cmp_ne, cmp_ge, cmp_gt, cmp_lt, cmp_le, int_ok, abs_ok, add_ok, sub_ok, setAll, augO, tgSet, s1, sizeLine_eq]
    rcases back_fin (μ := μ) hM hM2 w hs ho (-two) (-second) (by omega) (by omega) (.inr ⟨s0, rfl, rfl⟩) with ⟨t, b, e3, hc⟩ | ⟨e3, hc⟩
    · exact .inl ⟨t, b, go _ _ _ e2 e3, hc⟩
    · exact .inr ⟨go _ _ _ e2 e3, hc⟩
theorem brought_back_ok {r M : Int} (hM : 2 < M) (hM2 : M < 2 ^ 150) (r0 : 0 ≤ r) (r1 : r < M) (μ : Wd) :
    (∃ t b, d_brought_back [.int r, .int M] μ = .ok (.tup [.int t, .int b]) μ ∧ Cand M r t b) ∨ (d_brought_back [.int r, .int M] μ = .ok .non μ ∧ ∀ t b, ¬ Cand M r t b) := by
  have go : ∀ d, d_back_in [.int r, .int M] μ = .ok d μ → d_brought_back [.int r, .int M] μ = .ok d μ := fun d e => by
    refine fnDen_rt rfl ?_
    rw [sp_brought_back]
    have h1 : 0 ≤ M := by omega
    have h2 : M ≠ 0 := by omega
    have h3 : ¬ M ≤ r := by omega
    refine (seq_nx (η' := [.val (.int r), .val (.int M)]) (μ' := μ) ?_).trans ((seq_nx (η' := [.val (.int r), .val (.int M)]) (μ' := μ) ?_).trans ?_)
    · simp [t_brought_back_0a_0, t_brought_back_0a, t_brought_back_0e, t_brought_back_0t, t_brought_back_0, denS, den, SM.seq, SM.of, SM.skip, Dd.ofV, Dd.ofT, Dd.ofL, Dd.ofI, Dn.M.bind, Dn.M.pure, Dn.M.opt, bind2, ixM, ixO, cstD, keyO, andT, orT, Dn.andM, Dn.orM, blM, isNil, truO, cmp_eq, cmp_ne, cmp_ge, cmp_gt, cmp_lt, cmp_le, int_ok, abs_ok, add_ok, sub_ok, setAll, augO, fn_brought_back__is_count, is_count_int, h1, h2]
    · simp [t_brought_back_1a_0, t_brought_back_1a, t_brought_back_1e, t_brought_back_1t, t_brought_back_1, denS, den, SM.seq, SM.of, SM.skip, Dd.ofV, Dd.ofT, Dd.ofL, Dd.ofI, Dn.M.bind, Dn.M.pure, Dn.M.opt, bind2, ixM, ixO, cstD, keyO, andT, orT, Dn.andM, Dn.orM, blM, isNil, truO, cmp_eq, cmp_ne, cmp_ge, cmp_gt, cmp_lt, cmp_le, int_ok, abs_ok, add_ok, sub_ok, setAll, augO, fn_brought_back__is_count, is_count_int, r0, h3]
    · simp [t_brought_back_2, denS, den, SM.seq, SM.of, SM.skip, Dd.ofV, Dd.ofT, Dd.ofL, Dd.ofI, Dn.M.bind, Dn.M.pure, Dn.M.opt, bind2, ixM, ixO, cstD, keyO, andT, orT, Dn.andM, Dn.orM, blM, isNil, truO, cmp_eq, cmp_ne, cmp_ge, cmp_gt, cmp_lt, cmp_le, int_ok, abs_ok, add_ok, sub_ok, setAll, augO, fn_brought_back__back_in, e, hM]
  rcases back_in_ok hM hM2 r0 r1 μ with ⟨t, b, e, hc⟩ | ⟨e, hc⟩
  · exact .inl ⟨t, b, go _ e, hc⟩
  · exact .inr ⟨go _ e, hc⟩
end K22

/-! k22: what is told of refused values. -/
namespace K22
open PySem PySem.Spec PyProof.Rows L2 Dn K22n
/-! ### texts of values -/
theorem ok_app (x y : Str) : PyData.strOk (x ++ y) = (PyData.strOk x && PyData.strOk y) := by
  show (x.cps ++ y.cps).all (· < 0x110000) = _
  rw [Array.all_append]; rfl
theorem ok_text (s : String) : PyData.strOk (Str.ofString s) = true := by
  rw [Str.ofString_eq_toList]
  show (s.toList.map Char.toNat).toArray.all (· < 0x110000) = true
  rw [List.all_toArray, List.all_eq_true]
  intro c hc
  obtain ⟨ch, _, rfl⟩ := List.mem_map.mp hc
  have hv := ch.valid
  have : ch.toNat < 0x110000 := by
    rcases hv with h | h
    · show ch.val.toNat < _
      omega
    · exact h.2
  simpa using this
theorem ok_join : ∀ ts : List Str, (∀ t ∈ ts, PyData.strOk t = true) → PyData.strOk (Str.join ", " ts) = true
  | [], _ => by decide +kernel
  | [x], h => h x (by simp)
  | x :: y :: r, h => by
    show PyData.strOk (x ++ ", " ++ Str.join ", " (y :: r)) = true
    rw [ok_app, ok_app, h x (by simp), ok_join (y :: r) fun t ht => h t (List.mem_cons_of_mem _ ht), ok_text]
    rfl
theorem ok_tuple (ts : List Str) (h : ∀ t ∈ ts, PyData.strOk t = true) : PyData.strOk (tupleText ts) = true := by
  unfold tupleText
  rw [ok_app, ok_app, ok_join ts h]
  split <;> simp [ok_text]
/-- a value whose text is short -/
def goodB (d : D) : Bool := match d.py with
  | some p => p.showable && decide (p.depth ≤ 20) && !p.hasDict && decide (p.shown.length ≤ 1000) && PyData.strOk p.shown
  | none => false
theorem good_inv {d : D} (h : goodB d = true) : ∃ p, d.py = some p ∧ p.showable = true ∧ p.depth ≤ 20 ∧ p.hasDict = false ∧ p.shown.length ≤ 1000 ∧ PyData.strOk p.shown = true := by
  unfold goodB at h
  cases e : d.py with
  | none => rw [e] at h; cases h
  | some p =>
    rw [e] at h
    obtain ⟨h, h5⟩ := and2 h
    obtain ⟨h, h4⟩ := and2 h
    obtain ⟨h, h3⟩ := and2 h
    obtain ⟨h1, h2⟩ := and2 h
    exact ⟨p, rfl, h1, of_decide_eq_true h2, by simpa using h3, of_decide_eq_true h4, h5⟩
theorem good_int {i : Int} (h : i.natAbs < 10 ^ 12) : goodB (.int i) = true := by
  have h1 : (PyData.int i).showable = true := by
    show decide (i.natAbs.log2 < 1920) = true
    have := log2_lt' (n := i.natAbs) (k := 100) (by omega) (by decide)
    exact decide_eq_true (by omega)
  have h2 := PyData.shown_int_le h
  have h3 : PyData.strOk (PyData.shown (.int i)) = true := ok_text _
  show ((PyData.int i).showable && decide ((PyData.int i).depth ≤ 20) && !(PyData.int i).hasDict && decide ((PyData.int i).shown.length ≤ 1000) && PyData.strOk (PyData.int i).shown) = true
  rw [h1, h3, decide_eq_true (show (PyData.int i).shown.length ≤ 1000 by omega)]
  rfl
theorem repr_tup {l : List D} (h : ∀ d ∈ l, goodB d = true) (hl : l.length ≤ 2) : ∃ s, reprO (.tup l) = some (.str s) ∧ s.length ≤ 3000 ∧ PyData.strOk s = true := by
  have key : ∀ l : List D, (∀ d ∈ l, goodB d = true) → ∃ ps, D.pys l = some ps ∧ PyData.showableAll ps = true ∧ PyData.depthAll ps ≤ 20 ∧ PyData.hasDictAll ps = false ∧ ((PyData.shownAll ps).map (·.length)).sum ≤ 1000 * l.length ∧ (PyData.shownAll ps).length = l.length ∧ ∀ t ∈ PyData.shownAll ps, PyData.strOk t = true := by
    intro l
    induction l with
    | nil => intro _; exact ⟨[], rfl, rfl, by decide, rfl, by decide, rfl, fun t ht => by cases ht⟩
    | cons d r ih =>
      intro h
      obtain ⟨p, e, h1, h2, h3, h4, h5⟩ := good_inv (h d List.mem_cons_self)
      obtain ⟨ps, e2, k1, k2, k3, k4, k5, k6⟩ := ih fun x hx => h x (List.mem_cons_of_mem _ hx)
      refine ⟨p :: ps, ?_, ?_, ?_, ?_, ?_, ?_, ?_⟩
      · show (match D.py d, D.pys r with | some p, some q => some (p :: q) | _, _ => none) = _
        rw [e, e2]
      · show (p.showable && PyData.showableAll ps) = true
        rw [h1, k1]; rfl
      · show max p.depth (PyData.depthAll ps) ≤ 20
        omega
      · show (p.hasDict || PyData.hasDictAll ps) = false
        rw [h3, k3]; rfl
      · show ((p.shown :: PyData.shownAll ps).map (·.length)).sum ≤ _
        rw [List.map_cons, List.sum_cons, List.length_cons]
        omega
      · show (p.shown :: PyData.shownAll ps).length = _
        rw [List.length_cons, List.length_cons, k5]
      · intro t ht
        rcases List.mem_cons.mp (show t ∈ p.shown :: PyData.shownAll ps from ht) with rfl | ht
        · exact h5
        · exact k6 t ht
  obtain ⟨ps, e, k1, k2, k3, k4, k5, k6⟩ := key l h
  have eD : (D.tup l).py = some (.tuple ps) := by
    show (D.pys l).map PyData.tuple = _
    rw [e]; rfl
  have hlen := tupleText_len_le (PyData.shownAll ps)
  refine ⟨(PyData.tuple ps).shown, ?_, ?_, ok_tuple _ k6⟩
  · unfold reprO
    rw [eD]
    show (if (PyData.tuple ps).showable = true ∧ (PyData.tuple ps).depth ≤ 40 ∧ (PyData.tuple ps).hasDict = false ∧ (PyData.tuple ps).shown.length ≤ sizeLine then _ else _) = _
    rw [if_pos]
    refine ⟨k1, ?_, k3, ?_⟩
    · show PyData.depthAll ps + 1 ≤ 40
      omega
    · show (tupleText (PyData.shownAll ps)).length ≤ sizeLine
      rw [sizeLine_eq]
      omega
  · show (tupleText (PyData.shownAll ps)).length ≤ 3000
    omega
theorem repr2 {x y : D} (hx : goodB x = true) (hy : goodB y = true) : ∃ s, reprO (.tup [x, y]) = some (.str s) ∧ s.length ≤ 3000 ∧ PyData.strOk s = true :=
  repr_tup (fun d hd => by
    simp only [List.mem_cons, List.not_mem_nil, or_false] at hd
    rcases hd with rfl | rfl
    · exact hx
    · exact hy) (Nat.le_refl _)
theorem repr1 {x : D} (hx : goodB x = true) : ∃ s, reprO (.tup [x]) = some (.str s) ∧ s.length ≤ 3000 ∧ PyData.strOk s = true :=
  repr_tup (fun d hd => by
    simp only [List.mem_cons, List.not_mem_nil, or_false] at hd
    rcases hd with rfl
    exact hx) (show 1 ≤ 2 by decide)
theorem repr_is (d : D) : bltO .repr [d] = reprO d := rfl
theorem ne_str (s : Str) : cmpO .NotEq (.str s) (.str s) = some false := by
  show some (!(s == s)) = _
  rw [beq_self_eq_true]; rfl
theorem eq_str (s : Str) : cmpO .Eq (.str s) (.str s) = some true := by
  show some (s == s) = _
  rw [beq_self_eq_true]
theorem add_str {s t : Str} (h : s.length + t.length ≤ 10000) : binO .Add (.str s) (.str t) = some (.str (s ++ t)) := by
  show (if s.length + t.length ≤ sizeLine then some (D.str (s ++ t)) else none) = _
  rw [if_pos (by rw [sizeLine_eq]; omega)]
/-! ### what is raised, as a text -/
section
variable {F : Str → List D → M D} {μ : Wd} {way a b n x : D} {w s : Str}
theorem sub_nn : (tabs.B.withF F).sub "BadNumber" "BadNumber" = some true := by kernel_rfl
theorem sub_pn : (tabs.B.withF F).sub "BadPaper" "BadNumber" = some false := by kernel_rfl
theorem sub_pp : (tabs.B.withF F).sub "BadPaper" "BadPaper" = some true := by kernel_rfl
theorem sub_kn : (tabs.B.withF F).sub "NotKept" "BadNumber" = some false := by kernel_rfl
theorem sub_kp : (tabs.B.withF F).sub "NotKept" "BadPaper" = some false := by kernel_rfl
theorem sub_kk : (tabs.B.withF F).sub "NotKept" "NotKept" = some true := by kernel_rfl
theorem xf_n : (tabs.B.withF F).xf "BadNumber" = some (["what", "number"] : List Str) := by kernel_rfl
theorem xf_p : (tabs.B.withF F).xf "BadPaper" = some (["paper"] : List Str) := by kernel_rfl
theorem xf_k : (tabs.B.withF F).xf "NotKept" = some (["promise", "witness"] : List Str) := by kernel_rfl
theorem raised_n (h : d_l_call [way, a, b] μ = .exc "BadNumber" [("number", n), ("what", x)] μ) (hr : reprO (.tup [x, n]) = some (.str s)) : d_l_raised [way, a, b] μ = .ok (.str s) μ := by
  refine fnDen_rt rfl ?_
  rw [sp_l_raised]
  refine (seq_nx (η' := [.val way, .val a, .val b, .val (.str "none"), .un]) (μ' := μ) rfl).trans ((seq_nx (η' := [.val way, .val a, .val b, .val (.str s), .un]) (μ' := μ) ?_).trans rfl)
  have l1 : List.lookup ("what" : Str) ([("number", n), ("what", x)] : List (Str × D)) = some x := by kernel_rfl
  have l2 : List.lookup ("number" : Str) ([("number", n), ("what", x)] : List (Str × D)) = some n := by kernel_rfl
  simp [t_l_raised_1, denS, den, SM.seq, SM.of, SM.skip, Dd.ofV, Dd.ofT, Dd.ofL, Dd.ofI, Dn.M.bind, Dn.M.pure, Dn.M.opt, bind2, ixM, ixO, cstD, keyO, andT, orT, Dn.andM, Dn.orM, blM, isNil, truO, cmp_eq, cmp_ne, cmp_ge, cmp_gt, cmp_lt, cmp_le, int_ok, abs_ok, add_ok, sub_ok, setAll, augO, fn_l_raised__l_call, h, sub_nn, xf_n, enterE, leaveE, leaveS, noXc, l1, l2, repr_is, hr, sizeLine_eq]
theorem raised_p (h : d_l_call [way, a, b] μ = .exc "BadPaper" [("paper", x)] μ) (hr : reprO x = some (.str s)) (hs : s.length ≤ 3000) : d_l_raised [way, a, b] μ = .ok (.str ("paper " ++ s)) μ := by
  refine fnDen_rt rfl ?_
  rw [sp_l_raised]
  refine (seq_nx (η' := [.val way, .val a, .val b, .val (.str "none"), .un]) (μ' := μ) rfl).trans ((seq_nx (η' := [.val way, .val a, .val b, .val (.str ("paper " ++ s)), .un]) (μ' := μ) ?_).trans rfl)
  have l1 : List.lookup ("paper" : Str) ([("paper", x)] : List (Str × D)) = some x := by kernel_rfl
  have ha := add_str (s := "paper ") (t := s) (by show 6 + s.length ≤ _; omega)
  simp [t_l_raised_1, denS, den, SM.seq, SM.of, SM.skip, Dd.ofV, Dd.ofT, Dd.ofL, Dd.ofI, Dn.M.bind, Dn.M.pure, Dn.M.opt, bind2, ixM, ixO, cstD, keyO, andT, orT, Dn.andM, Dn.orM, blM, isNil, truO, cmp_eq, cmp_ne, cmp_ge, cmp_gt, cmp_lt, cmp_le, int_ok, abs_ok, add_ok, sub_ok, setAll, augO, fn_l_raised__l_call, h, sub_pn, sub_pp, xf_p, enterE, leaveE, leaveS, noXc, l1, repr_is, hr, ha]
theorem raised_k (h : d_l_call [way, a, b] μ = .exc "NotKept" [("witness", n), ("promise", x)] μ) (hr : reprO (.tup [x, n]) = some (.str s)) : d_l_raised [way, a, b] μ = .ok (.str s) μ := by
  refine fnDen_rt rfl ?_
  rw [sp_l_raised]
  refine (seq_nx (η' := [.val way, .val a, .val b, .val (.str "none"), .un]) (μ' := μ) rfl).trans ((seq_nx (η' := [.val way, .val a, .val b, .val (.str s), .un]) (μ' := μ) ?_).trans rfl)
  have l1 : List.lookup ("promise" : Str) ([("witness", n), ("promise", x)] : List (Str × D)) = some x := by kernel_rfl
  have l2 : List.lookup ("witness" : Str) ([("witness", n), ("promise", x)] : List (Str × D)) = some n := by kernel_rfl
  simp [t_l_raised_1, denS, den, SM.seq, SM.of, SM.skip, Dd.ofV, Dd.ofT, Dd.ofL, Dd.ofI, Dn.M.bind, Dn.M.pure, Dn.M.opt, bind2, ixM, ixO, cstD, keyO, andT, orT, Dn.andM, Dn.orM, blM, isNil, truO, cmp_eq, cmp_ne, cmp_ge, cmp_gt, cmp_lt, cmp_le, int_ok, abs_ok, add_ok, sub_ok, setAll, augO, fn_l_raised__l_call, h, sub_kn, sub_kp, sub_kk, xf_k, enterE, leaveE, leaveS, noXc, l1, l2, repr_is, hr, sizeLine_eq]
variable {c : Str} {fs : List (Str × D)}
theorem call1 (h : d_rest_by [a, b] μ = .exc c fs μ) : d_l_call [.int 1, a, b] μ = .exc c fs μ := by
  refine fnDen_ex (η := [.val (.int 1), .val a, .val b]) rfl ?_
  rw [sp_l_call]
  simp [t_l_call_0a_0, t_l_call_0a, t_l_call_0e, t_l_call_0t, t_l_call_0, t_l_call_1, denS, den, SM.seq, SM.of, SM.skip, Dd.ofV, Dd.ofT, Dd.ofL, Dd.ofI, Dn.M.bind, Dn.M.pure, Dn.M.opt, bind2, ixM, ixO, cstD, keyO, andT, orT, Dn.andM, Dn.orM, blM, isNil, truO, cmp_eq, cmp_ne, cmp_ge, cmp_gt, cmp_lt, cmp_le, int_ok, abs_ok, add_ok, sub_ok, setAll, augO, fn_l_call__rest_by, h]
theorem call2 (h : d_put_together [a, b] μ = .exc c fs μ) : d_l_call [.int 2, a, b] μ = .exc c fs μ := by
  refine fnDen_ex (η := [.val (.int 2), .val a, .val b]) rfl ?_
  rw [sp_l_call]
  simp [t_l_call_0a_0, t_l_call_0a, t_l_call_0e, t_l_call_0t, t_l_call_0, t_l_call_1, denS, den, SM.seq, SM.of, SM.skip, Dd.ofV, Dd.ofT, Dd.ofL, Dd.ofI, Dn.M.bind, Dn.M.pure, Dn.M.opt, bind2, ixM, ixO, cstD, keyO, andT, orT, Dn.andM, Dn.orM, blM, isNil, truO, cmp_eq, cmp_ne, cmp_ge, cmp_gt, cmp_lt, cmp_le, int_ok, abs_ok, add_ok, sub_ok, setAll, augO, fn_l_call__put_together, h]
theorem call3 (h : d_brought_back [a, b] μ = .exc c fs μ) : d_l_call [.int 3, a, b] μ = .exc c fs μ := by
  refine fnDen_ex (η := [.val (.int 3), .val a, .val b]) rfl ?_
  rw [sp_l_call]
  simp [t_l_call_0a_0, t_l_call_0a, t_l_call_0e, t_l_call_0t, t_l_call_0, t_l_call_1, denS, den, SM.seq, SM.of, SM.skip, Dd.ofV, Dd.ofT, Dd.ofL, Dd.ofI, Dn.M.bind, Dn.M.pure, Dn.M.opt, bind2, ixM, ixO, cstD, keyO, andT, orT, Dn.andM, Dn.orM, blM, isNil, truO, cmp_eq, cmp_ne, cmp_ge, cmp_gt, cmp_lt, cmp_le, int_ok, abs_ok, add_ok, sub_ok, setAll, augO, fn_l_call__brought_back, h]
end
/-! ### the calls that are refused -/
theorem p_or3b {T : Tb} {a b c : Ex} {η : Env'} {μ μ1 μ2 : Wd} (ha : (den T a).t η μ = .ok false μ1) (hb : (den T b).t η μ1 = .ok true μ2) : (den T (.bop false (.cons a (.cons b (.cons c .nil))))).t η μ = .ok true μ2 := by
  simp [den, Dd.ofT, orT, isNil, Dn.M.bind, Dn.M.pure, ha, hb]
theorem p_or3c {T : Tb} {a b c : Ex} {η : Env'} {μ μ1 μ2 μ3 : Wd} (ha : (den T a).t η μ = .ok false μ1) (hb : (den T b).t η μ1 = .ok false μ2) (hc : (den T c).t η μ2 = .ok true μ3) : (den T (.bop false (.cons a (.cons b (.cons c .nil))))).t η μ = .ok true μ3 := by
  simp [den, Dd.ofT, orT, isNil, Dn.M.bind, Dn.M.pure, ha, hb, hc]
section
variable {p : Int} {μ : Wd}
theorem rest_by_nf (h1 : 1000003 ≤ p) (h2 : p ≤ 999999937) (hp : TrZ p) {odd : D} (h : d_is_fraction [odd] μ = .ok (.bl false) μ) : d_rest_by [.int p, odd] μ = .exc "BadNumber" [("number", odd), ("what", .str "number")] μ := by
  refine fnDen_ex (η := [.val (.int p), .val odd]) rfl ?_
  rw [sp_rest_by]
  refine (seq_nx (η' := [.val (.int p), .val odd]) (μ' := μ) (s_exp (p_call1 fn_rest_by__need_great (p_var rfl) (need_great_ok h1 h2 hp μ)))).trans ?_
  simp [t_rest_by_1a_0, t_rest_by_1a, t_rest_by_1e, t_rest_by_1t, t_rest_by_1, denS, den, SM.seq, SM.of, SM.skip, Dd.ofV, Dd.ofT, Dd.ofL, Dd.ofI, Dn.M.bind, Dn.M.pure, Dn.M.opt, bind2, ixM, ixO, cstD, keyO, andT, orT, Dn.andM, Dn.orM, blM, isNil, truO, cmp_eq, cmp_ne, cmp_ge, cmp_gt, cmp_lt, cmp_le, int_ok, abs_ok, add_ok, sub_ok, setAll, augO, fn_rest_by__is_fraction, h, xf_n]
theorem is_fraction_ok' {t b : Int} (hb : 0 < b) (hg : Nat.gcd t.natAbs b.natAbs = 1) (μ : Wd) : d_is_fraction [.tup [.int t, .int b]] μ = .ok (.bl true) μ := by
  obtain ⟨n, rfl⟩ := Int.eq_ofNat_of_zero_le (show 0 ≤ b by omega)
  exact is_fraction_ok (by omega) (by simpa using hg) μ
theorem rest_by_bottom (h1 : 1000003 ≤ p) (h2 : p ≤ 999999937) (hp : TrZ p) : d_rest_by [.int p, .tup [.int 1, .int (2 * p)]] μ = .exc "NotKept" [("witness", .int (2 * p)), ("promise", .str "bottom")] μ := by
  refine fnDen_ex (η := [.val (.int p), .val (.tup [.int 1, .int (2 * p)])]) rfl ?_
  rw [sp_rest_by]
  refine (seq_nx (η' := [.val (.int p), .val (.tup [.int 1, .int (2 * p)])]) (μ' := μ) (s_exp (p_call1 fn_rest_by__need_great (p_var rfl) (need_great_ok h1 h2 hp μ)))).trans ?_
  have hf := is_fraction_ok' (t := 1) (b := 2 * p) (by omega) (Nat.gcd_one_left _) μ
  have e1 : L2.atI [D.int 1, D.int (2 * p)] 1 = some (.int (2 * p)) := rfl
  refine (seq_nx (η' := [.val (.int p), .val (.tup [.int 1, .int (2 * p)])]) (μ' := μ) ?_).trans ?_
  · simp [t_rest_by_1a_0, t_rest_by_1a, t_rest_by_1e, t_rest_by_1t, t_rest_by_1, denS, den, SM.seq, SM.of, SM.skip, Dd.ofV, Dd.ofT, Dd.ofL, Dd.ofI, Dn.M.bind, Dn.M.pure, Dn.M.opt, bind2, ixM, ixO, cstD, keyO, andT, orT, Dn.andM, Dn.orM, blM, isNil, truO, cmp_eq, cmp_ne, cmp_ge, cmp_gt, cmp_lt, cmp_le, int_ok, abs_ok, add_ok, sub_ok, setAll, augO, fn_rest_by__is_fraction, hf]
  · simp [t_rest_by_2a_0, t_rest_by_2a, t_rest_by_2e, t_rest_by_2t, t_rest_by_2, denS, den, SM.seq, SM.of, SM.skip, Dd.ofV, Dd.ofT, Dd.ofL, Dd.ofI, Dn.M.bind, Dn.M.pure, Dn.M.opt, bind2, ixM, ixO, cstD, keyO, andT, orT, Dn.andM, Dn.orM, blM, isNil, truO, cmp_eq, cmp_ne, cmp_ge, cmp_gt, cmp_lt, cmp_le, int_ok, abs_ok, add_ok, sub_ok, setAll, augO, e1, mod_pos (show 0 < p by omega), xf_k]
theorem need_primes_bad {l : List D} {g : D → Bool} (hl : l.isEmpty = false) (hl2 : l.length ≤ 100) (hg : ∀ d ∈ l, d_is_great [d] μ = .ok (.bl (g d)) μ) (ha : l.all g = false) : d_need_primes [.lst l] μ = .exc "BadPaper" [("paper", .tup l)] μ := by
  refine fnDen_ex (η := [.val (.lst l), .val (.tup l), .un]) rfl ?_
  rw [sp_need_primes]
  refine (seq_nx (η' := [.val (.lst l), .val (.tup l), .un]) (μ' := μ) (s_set (p_blt1 (p_var rfl) rfl))).trans ?_
  have e2 : lcLoop (.nm 2) (den T_need_primes .nil).at_ (den T_need_primes (.call "is_great" (.cons (.var 2) .nil))).v (wipeE [.val (.lst l), .val (.tup l), .un] [2]) l [] μ = .ok (l.map fun d => .bl (g d)) μ := by
    refine lc_map _ (fun d hd => ?_) (by rw [sizeLine_eq]; omega)
    exact ⟨[.val (.lst l), .val (.tup l), .val d], rfl, rfl, p_call1 fn_need_primes__is_great (p_var rfl) (hg d hd)⟩
  have eb : ∀ l : List D, boolsD (l.map fun d => D.bl (g d)) = some (l.map g) := by
    intro l
    induction l with
    | nil => rfl
    | cons x l ih => rw [List.map_cons, boolsD, ih]; rfl
  have e3 : bltO .all [.lst (l.map fun d => .bl (g d))] = some (.bl false) := by
    show (boolsD _).map _ = _
    rw [eb]
    show some (D.bl ((l.map g).all id)) = _
    rw [List.all_map]
    have : (fun x => id (g x)) = g := rfl
    show some (D.bl (l.all (id ∘ g))) = _
    rw [Function.id_comp, ha]
  have et : (den T_need_primes t_need_primes_1t).t [.val (.lst l), .val (.tup l), .un] μ = .ok true μ := by
    have e1 : (den T_need_primes (.var 1)).t [.val (.lst l), .val (.tup l), .un] μ = .ok true μ := by
      simp only [denS, den, SM.seq, SM.of, SM.skip, Dd.ofV, Dd.ofT, Dd.ofL, Dd.ofI, Dn.M.bind, Dn.M.pure, Dn.M.opt, bind2, ixM, ixO, cstD, keyO, andT, orT, Dn.andM, Dn.orM, blM, isNil, truO, cmp_eq, cmp_ne, cmp_ge, cmp_gt, cmp_lt, cmp_le, int_ok, abs_ok, add_ok, sub_ok, setAll, augO, hl, List.getElem?_cons_succ, List.getElem?_cons_zero]
      rfl
    have k1 := p_nt e1
    have k0 : (den T_need_primes (.lc (.call "is_great" (.cons (.var 2) .nil)) (.nm 2) (.var 1) .nil)).v [.val (.lst l), .val (.tup l), .un] μ = .ok (.lst (l.map fun d => .bl (g d))) μ := p_lc (p_vari rfl rfl) e2
    have k2 := p_nt (p_blt1t k0 e3)
    exact p_or3b k1 k2
  show SM.seq (denS T_need_primes (.ite t_need_primes_1t t_need_primes_1a .nil)).s _ _ _ = _
  unfold SM.seq
  rw [s_ite1 et]
  simp [t_need_primes_1a_0, t_need_primes_1a, denS, den, SM.seq, SM.of, SM.skip, Dd.ofV, Dd.ofT, Dd.ofL, Dd.ofI, Dn.M.bind, Dn.M.pure, Dn.M.opt, bind2, ixM, ixO, cstD, keyO, andT, orT, Dn.andM, Dn.orM, blM, isNil, truO, cmp_eq, cmp_ne, cmp_ge, cmp_gt, cmp_lt, cmp_le, int_ok, abs_ok, add_ok, sub_ok, setAll, augO, xf_p]
theorem put_np (a b : D) {c : Str} {fs : List (Str × D)} (h : d_need_primes [a] μ = .exc c fs μ) : d_put_together [a, b] μ = .exc c fs μ := by
  refine fnDen_ex (η := [.val a, .val b, .un, .un, .un]) rfl ?_
  rw [sp_put_together]
  simp [t_put_together_0, denS, den, SM.seq, SM.of, SM.skip, Dd.ofV, Dd.ofT, Dd.ofL, Dd.ofI, Dn.M.bind, Dn.M.pure, Dn.M.opt, bind2, ixM, ixO, cstD, keyO, andT, orT, Dn.andM, Dn.orM, blM, isNil, truO, cmp_eq, cmp_ne, cmp_ge, cmp_gt, cmp_lt, cmp_le, int_ok, abs_ok, add_ok, sub_ok, setAll, augO, fn_put_together__need_primes, h]
end
end K22

/-! k22: refused values are told. -/
namespace K22
open PySem PySem.Spec PyProof.Rows L2 Dn K22n
theorem eq_self {d : D} {p : PyData} (h : d.py = some p) (hs : SeqAt.shaped p = true) : eqP d d = some true := by
  unfold eqP
  rw [h]
  simp only
  rw [if_pos ⟨hs, hs⟩, SeqAt.eqv_refl p (SeqAt.canLay_of_shaped hs)]
theorem strs_py : ∀ l : List Str, D.pys (l.map D.str) = some (l.map PyData.str)
  | [] => rfl
  | x :: l => by
    show (match D.py (.str x), D.pys (l.map D.str) with | some p, some q => some (p :: q) | _, _ => none) = _
    rw [strs_py l]; rfl
theorem strs_lay : ∀ l : List Str, (∀ s ∈ l, PyData.strOk s = true) → PyData.canLayAll0 (l.map PyData.str) = true
  | [], _ => rfl
  | x :: l, h => by
    show (PyData.strOk x && PyData.canLayAll0 (l.map PyData.str)) = true
    rw [h x List.mem_cons_self, strs_lay l fun s hs => h s (List.mem_cons_of_mem _ hs)]; rfl
theorem strs_dep : ∀ l : List Str, PyData.depthAll (l.map PyData.str) ≤ 1
  | [] => by decide
  | x :: l => by
    have := strs_dep l
    simp only [List.map_cons, PyData.depthAll, PyData.depth]
    omega
theorem eq_strs (l : List Str) (h : ∀ s ∈ l, PyData.strOk s = true) : cmpO .Eq (.lst (l.map .str)) (.lst (l.map .str)) = some true := by
  show eqP _ _ = _
  refine eq_self (p := .list (l.map .str)) ?_ ?_
  · show (D.pys _).map PyData.list = _
    rw [strs_py]; rfl
  · show (PyData.canLayAll0 (l.map PyData.str) && decide (PyData.depthAll (l.map PyData.str) + 1 ≤ 64)) = true
    have := strs_dep l
    rw [strs_lay l h, decide_eq_true (by omega)]; rfl
section
variable {p : Int} {μ : Wd} {s1 : Slot}
theorem good_p (h1 : 0 ≤ p) (h2 : p ≤ 999999937) : goodB (.int p) = true := good_int (by omega)
theorem er0 : (denS T_l_errors_right t_l_errors_right_0).s [.val (.int p), s1, .un] μ = .nx [.val (.int p), .val (.int 1000000000000), .un] μ := by kernel_rfl
theorem er6 : (denS T_l_errors_right t_l_errors_right_6).s [.val (.int p), s1, .un] μ = .nx [.val (.int p), .val (.bl true), .un] μ := by kernel_rfl
theorem p_rep {T : Tb} {a : Ex} {η : Env'} {μ μ1 : Wd} {x z : D} (ha : (den T a).v η μ = .ok x μ1) (h : reprO x = some z) : (den T (.blt .repr (.cons a .nil))).v η μ = .ok z μ1 := p_blt1 ha h
theorem bod1 {odd : D} (hc : d_l_call [.int 1, odd, .non] μ = .exc "BadNumber" [("number", odd), ("what", .str "p")] μ) (hg : goodB odd = true) : (denS T_l_errors_right t_l_errors_right_1b).s [.val (.int p), .val odd, .un] μ = .nx [.val (.int p), .val odd, .un] μ := by
  obtain ⟨s, hr, _⟩ := repr2 (x := .str "p") (y := odd) (by decide +kernel) hg
  exact (seq_nx (s_ite0 (p_cmp (p_call3 fn_l_errors_right__l_raised (p_int 1) (p_var rfl) p_none (raised_n hc hr)) (p_rep (p_tup2 rfl (p_var rfl)) hr) (ne_str s)))).trans rfl
theorem not_great {q : Int} (h1 : 1000003 ≤ q) (h2 : q ≤ 999999937) (hp : ¬ TrZ q) : d_is_great [.int q] μ = .ok (.bl false) μ := by
  obtain ⟨b, e, hb⟩ := ipn (show 3 ≤ q by omega) (by omega) μ
  have : b = false := by
    cases b with
    | false => rfl
    | true => exact (hp (hb.mp rfl)).elim
  subst this
  refine fnDen_rt rfl ?_
  rw [sp_is_great]
  have h0 : 0 ≤ q := by omega
  simp [t_is_great_0, denS, den, SM.seq, SM.of, SM.skip, Dd.ofV, Dd.ofT, Dd.ofL, Dd.ofI, Dn.M.bind, Dn.M.pure, Dn.M.opt, bind2, ixM, ixO, cstD, keyO, andT, orT, Dn.andM, Dn.orM, blM, isNil, truO, cmp_eq, cmp_ne, cmp_ge, cmp_gt, cmp_lt, cmp_le, int_ok, abs_ok, add_ok, sub_ok, setAll, augO, cn_last, cn_least, fn_is_great__is_count, fn_is_great__is_prime_number, is_count_int, h0, h1, h2, e]
theorem need_bad {odd : D} (h : d_is_great [odd] μ = .ok (.bl false) μ) : d_need_great [odd] μ = .exc "BadNumber" [("number", odd), ("what", .str "p")] μ := by
  refine fnDen_ex (η := [.val odd]) rfl ?_
  rw [sp_need_great]
  simp [t_need_great_0a_0, t_need_great_0a, t_need_great_0e, t_need_great_0t, t_need_great_0, denS, den, SM.seq, SM.of, SM.skip, Dd.ofV, Dd.ofT, Dd.ofL, Dd.ofI, Dn.M.bind, Dn.M.pure, Dn.M.opt, bind2, ixM, ixO, cstD, keyO, andT, orT, Dn.andM, Dn.orM, blM, isNil, truO, cmp_eq, cmp_ne, cmp_ge, cmp_gt, cmp_lt, cmp_le, int_ok, abs_ok, add_ok, sub_ok, setAll, augO, fn_need_great__is_great, h, xf_n]
theorem rest_by_np {odd x : D} (h : d_is_great [odd] μ = .ok (.bl false) μ) : d_rest_by [odd, x] μ = .exc "BadNumber" [("number", odd), ("what", .str "p")] μ := by
  refine fnDen_ex (η := [.val odd, .val x]) rfl ?_
  rw [sp_rest_by]
  simp [t_rest_by_0, denS, den, SM.seq, SM.of, SM.skip, Dd.ofV, Dd.ofT, Dd.ofL, Dd.ofI, Dn.M.bind, Dn.M.pure, Dn.M.opt, bind2, ixM, ixO, cstD, keyO, andT, orT, Dn.andM, Dn.orM, blM, isNil, truO, cmp_eq, cmp_ne, cmp_ge, cmp_gt, cmp_lt, cmp_le, int_ok, abs_ok, add_ok, sub_ok, setAll, augO, fn_rest_by__need_great, need_bad h]
theorem nt5 : ¬ TrZ 1000005 := fun h => h.2 3 (by decide) (by decide) (by decide) (by decide)
theorem er1 : (denS T_l_errors_right t_l_errors_right_1).s [.val (.int p), s1, .un] μ = .nx [.val (.int p), .val (.int 1000000000000), .un] μ := by
  refine for_of (ds := [.non, .int 5, .int 1000001, .int 1000005, .bl true, .str "1000003", .int 1000000000000]) (μ' := μ) (by kernel_rfl) ?_
  have i (odd : D) (h : d_is_great [odd] μ = .ok (.bl false) μ) (hg : goodB odd = true) := bod1 (p := p) (call1 (rest_by_np (x := .non) h)) hg
  rw [forN_nx (η' := [.val (.int p), .val .non, .un]) rfl (i .non (by kernel_rfl) (by decide +kernel)),
    forN_nx (η' := [.val (.int p), .val (.int 5), .un]) rfl (i (.int 5) (by kernel_rfl) (by decide +kernel)),
    forN_nx (η' := [.val (.int p), .val (.int 1000001), .un]) rfl (i (.int 1000001) (by kernel_rfl) (by decide +kernel)),
    forN_nx (η' := [.val (.int p), .val (.int 1000005), .un]) rfl (i (.int 1000005) (not_great (by decide) (by decide) nt5) (by decide +kernel)),
    forN_nx (η' := [.val (.int p), .val (.bl true), .un]) rfl (i (.bl true) (by kernel_rfl) (by decide +kernel)),
    forN_nx (η' := [.val (.int p), .val (.str "1000003"), .un]) rfl (i (.str "1000003") (by kernel_rfl) (by decide +kernel)),
    forN_nx (η' := [.val (.int p), .val (.int 1000000000000), .un]) rfl (i (.int 1000000000000) (by kernel_rfl) (by decide +kernel))]
  rfl
theorem bod2 {odd : D} (h1 : 1000003 ≤ p) (h2 : p ≤ 999999937) (hp : TrZ p) (h : d_is_fraction [odd] μ = .ok (.bl false) μ) (hg : goodB odd = true) : (denS T_l_errors_right t_l_errors_right_2b).s [.val (.int p), .val odd, .un] μ = .nx [.val (.int p), .val odd, .un] μ := by
  obtain ⟨s, hr, _⟩ := repr2 (x := .str "number") (y := odd) (by decide +kernel) hg
  exact (seq_nx (s_ite0 (p_cmp (p_call3 fn_l_errors_right__l_raised (p_int 1) (p_var rfl) (p_var rfl) (raised_n (call1 (rest_by_nf h1 h2 hp h)) hr)) (p_rep (p_tup2 rfl (p_var rfl)) hr) (ne_str s)))).trans rfl
theorem er2 (h1 : 1000003 ≤ p) (h2 : p ≤ 999999937) (hp : TrZ p) : (denS T_l_errors_right t_l_errors_right_2).s [.val (.int p), s1, .un] μ = .nx [.val (.int p), .val (.tup [.bl true, .int 2]), .un] μ := by
  refine for_of (ds := [.non, .int 3, .tup [.int 2, .int 4], .tup [.int 1, .int 0], .tup [.int 1, .int (-2)], .tup [.int 1], .lst [.int 1, .int 2], .tup [.bl true, .int 2]]) (μ' := μ) (by kernel_rfl) ?_
  have i (odd : D) (h : d_is_fraction [odd] μ = .ok (.bl false) μ) (hg : goodB odd = true) := bod2 h1 h2 hp h hg
  rw [forN_nx (η' := [.val (.int p), .val .non, .un]) rfl (i .non (by kernel_rfl) (by decide +kernel)),
    forN_nx (η' := [.val (.int p), .val (.int 3), .un]) rfl (i (.int 3) (by kernel_rfl) (by decide +kernel)),
    forN_nx (η' := [.val (.int p), .val (.tup [.int 2, .int 4]), .un]) rfl (i (.tup [.int 2, .int 4]) (by kernel_rfl) (by decide +kernel)),
    forN_nx (η' := [.val (.int p), .val (.tup [.int 1, .int 0]), .un]) rfl (i (.tup [.int 1, .int 0]) (by kernel_rfl) (by decide +kernel)),
    forN_nx (η' := [.val (.int p), .val (.tup [.int 1, .int (-2)]), .un]) rfl (i (.tup [.int 1, .int (-2)]) (by kernel_rfl) (by decide +kernel)),
    forN_nx (η' := [.val (.int p), .val (.tup [.int 1]), .un]) rfl (i (.tup [.int 1]) (by kernel_rfl) (by decide +kernel)),
    forN_nx (η' := [.val (.int p), .val (.lst [.int 1, .int 2]), .un]) rfl (i (.lst [.int 1, .int 2]) (by kernel_rfl) (by decide +kernel)),
    forN_nx (η' := [.val (.int p), .val (.tup [.bl true, .int 2]), .un]) rfl (i (.tup [.bl true, .int 2]) (by kernel_rfl) (by decide +kernel))]
  rfl
theorem er3 (h1 : 1000003 ≤ p) (h2 : p ≤ 999999937) (hp : TrZ p) : (denS T_l_errors_right t_l_errors_right_3).s [.val (.int p), s1, .un] μ = .nx [.val (.int p), s1, .un] μ := by
  obtain ⟨s, hr, _⟩ := repr2 (x := .str "bottom") (y := .int (2 * p)) (by decide +kernel) (good_int (by omega))
  have m := mul_big (i := 2) (j := p) (by decide) (by omega)
  exact s_ite0 (p_cmp (p_call3 fn_l_errors_right__l_raised (p_int 1) (p_var rfl) (p_tup2 rfl (p_bin rfl (p_var rfl) m)) (raised_k (call1 (rest_by_bottom h1 h2 hp)) hr)) (p_rep (p_tup2 rfl (p_bin rfl (p_var rfl) m)) hr) (ne_str s))
theorem bod4 {l zs : List D} {s : Str} (hz : (den T_l_errors_right (.rep (.cons (.cst (.int 0)) .nil) (.blt .len (.cons (.var 1) .nil)))).v [.val (.int p), .val (.lst l), .un] μ = .ok (.lst zs) μ) (h : d_need_primes [.lst l] μ = .exc "BadPaper" [("paper", .tup l)] μ) (hr : reprO (.tup l) = some (.str s)) (hs : s.length ≤ 3000) :
    (denS T_l_errors_right t_l_errors_right_4b).s [.val (.int p), .val (.lst l), .un] μ = .nx [.val (.int p), .val (.lst l), .un] μ := by
  exact (seq_nx (s_ite0 (p_cmp (p_call3 fn_l_errors_right__l_raised (p_int 2) (p_var rfl) hz (raised_p (call2 (put_np _ _ h)) hr hs)) (p_bin rfl (p_rep (p_blt1 (p_var rfl) rfl) hr) (add_str (by show 6 + s.length ≤ _; omega))) (ne_str _)))).trans rfl
theorem np_pp (h1 : 1000003 ≤ p) (h2 : p ≤ 999999937) (hp : TrZ p) : d_need_primes [.lst [.int p, .int p]] μ = .exc "BadPaper" [("paper", .tup [.int p, .int p])] μ := by
  refine fnDen_ex (η := [.val (.lst [.int p, .int p]), .val (.tup [.int p, .int p]), .un]) rfl ?_
  rw [sp_need_primes]
  refine (seq_nx (η' := [.val (.lst [.int p, .int p]), .val (.tup [.int p, .int p]), .un]) (μ' := μ) rfl).trans ?_
  have eg := is_great_ok h1 h2 hp μ
  have e2 : lcLoop (.nm 2) (den T_need_primes .nil).at_ (den T_need_primes (.call "is_great" (.cons (.var 2) .nil))).v (wipeE [.val (.lst [.int p, .int p]), .val (.tup [.int p, .int p]), .un] [2]) [.int p, .int p] [] μ = .ok (([.int p, .int p] : List D).map fun _ => .bl true) μ := by
    refine lc_map _ (fun d hd => ?_) (by rw [sizeLine_eq]; show 2 ≤ _; decide)
    simp only [List.mem_cons, List.not_mem_nil, or_false, or_self] at hd
    subst hd
    exact ⟨[.val (.lst [.int p, .int p]), .val (.tup [.int p, .int p]), .val (.int p)], rfl, rfl, p_call1 fn_need_primes__is_great (p_var rfl) eg⟩
  have e3 : dcLoop (.nm 2) (den T_need_primes (.var 2)).v (den T_need_primes (.cst (.bool true))).v (wipeE [.val (.lst [.int p, .int p]), .val (.tup [.int p, .int p]), .un] [2]) [.int p, .int p] [] μ = .ok [(.inl p, .bl true)] μ := by
    have k1 : kvPut (.inl p) (.bl true) [] = [(.inl p, .bl true)] := by simp [kvPut]
    have k2 : kvPut (.inl p) (.bl true) [(.inl p, .bl true)] = [(.inl p, .bl true)] := by simp [kvPut]
    simp [dcLoop, tgSet, wipeE, denS, den, SM.seq, SM.of, SM.skip, Dd.ofV, Dd.ofT, Dd.ofL, Dd.ofI, Dn.M.bind, Dn.M.pure, Dn.M.opt, bind2, ixM, ixO, cstD, keyO, andT, orT, Dn.andM, Dn.orM, blM, isNil, truO, cmp_eq, cmp_ne, cmp_ge, cmp_gt, cmp_lt, cmp_le, int_ok, abs_ok, add_ok, sub_ok, setAll, augO, k1, k2, sizeLine_eq]
  have k0 : (den T_need_primes (.lc (.call "is_great" (.cons (.var 2) .nil)) (.nm 2) (.var 1) .nil)).v [.val (.lst [.int p, .int p]), .val (.tup [.int p, .int p]), .un] μ = .ok (.lst (([.int p, .int p] : List D).map fun _ => .bl true)) μ := p_lc (p_vari rfl rfl) e2
  have k1 : (den T_need_primes (.dcl (.var 2) (.cst (.bool true)) (.nm 2) (.var 1))).v [.val (.lst [.int p, .int p]), .val (.tup [.int p, .int p]), .un] μ = .ok (.int 1) μ := p_dcl (p_vari rfl rfl) e3
  have et : (den T_need_primes t_need_primes_1t).t [.val (.lst [.int p, .int p]), .val (.tup [.int p, .int p]), .un] μ = .ok true μ :=
    p_or3c (μ1 := μ) (μ2 := μ) rfl (p_nt (p_blt1t k0 (bools_true _))) (p_cmp k1 (p_blt1 (p_var rfl) rfl) rfl)
  show SM.seq (denS T_need_primes (.ite t_need_primes_1t t_need_primes_1a .nil)).s _ _ _ = _
  unfold SM.seq
  rw [s_ite1 et]
  simp [t_need_primes_1a_0, t_need_primes_1a, denS, den, SM.seq, SM.of, SM.skip, Dd.ofV, Dd.ofT, Dd.ofL, Dd.ofI, Dn.M.bind, Dn.M.pure, Dn.M.opt, bind2, ixM, ixO, cstD, keyO, andT, orT, Dn.andM, Dn.orM, blM, isNil, truO, cmp_eq, cmp_ne, cmp_ge, cmp_gt, cmp_lt, cmp_le, int_ok, abs_ok, add_ok, sub_ok, setAll, augO, xf_p]
theorem er4 (h1 : 1000003 ≤ p) (h2 : p ≤ 999999937) (hp : TrZ p) : (denS T_l_errors_right t_l_errors_right_4).s [.val (.int p), s1, .un] μ = .nx [.val (.int p), .val (.lst [.int p, .int 1000001]), .un] μ := by
  refine for_of (ds := [.lst [], .lst [.int p, .int p], .lst [.int 5], .lst [.int p, .non], .lst [.int p, .int 1000001]]) (μ' := μ) (by kernel_rfl) ?_
  have gp := good_p (p := p) (by omega) h2
  have eg := is_great_ok h1 h2 hp μ
  obtain ⟨s0, r0, l0, _⟩ := repr_tup (l := []) (fun d hd => by cases hd) (by decide)
  obtain ⟨s1, r1, l1, _⟩ := repr2 gp gp
  obtain ⟨s2, r2, l2, _⟩ := repr1 (x := .int 5) (by decide +kernel)
  obtain ⟨s3, r3, l3, _⟩ := repr2 (y := .non) gp (by decide +kernel)
  obtain ⟨s4, r4, l4, _⟩ := repr2 (y := .int 1000001) gp (by decide +kernel)
  have eN : d_is_great [.non] μ = .ok (.bl false) μ := by kernel_rfl
  have eM : d_is_great [.int 1000001] μ = .ok (.bl false) μ := by kernel_rfl
  have gN : ∀ d ∈ [D.int p, .non], d_is_great [d] μ = .ok (.bl (match d with | .int _ => true | _ => false)) μ := by
    intro d hd
    simp only [List.mem_cons, List.not_mem_nil, or_false] at hd
    rcases hd with rfl | rfl
    · exact eg
    · exact eN
  have gM : ∀ d ∈ [D.int p, .int 1000001], d_is_great [d] μ = .ok (.bl (match d with | .int i => decide (1000003 ≤ i) | _ => false)) μ := by
    intro d hd
    simp only [List.mem_cons, List.not_mem_nil, or_false] at hd
    rcases hd with rfl | rfl
    · simpa [h1] using eg
    · exact eM
  rw [forN_nx (η' := [.val (.int p), .val (.lst []), .un]) rfl (bod4 (zs := []) (by kernel_rfl) (by kernel_rfl) r0 l0),
    forN_nx (η' := [.val (.int p), .val (.lst [.int p, .int p]), .un]) rfl (bod4 (zs := [.int 0, .int 0]) (by kernel_rfl) (np_pp h1 h2 hp) r1 l1),
    forN_nx (η' := [.val (.int p), .val (.lst [.int 5]), .un]) rfl (bod4 (zs := [.int 0]) (by kernel_rfl) (by kernel_rfl) r2 l2),
    forN_nx (η' := [.val (.int p), .val (.lst [.int p, .non]), .un]) rfl (bod4 (zs := [.int 0, .int 0]) (by kernel_rfl) (need_primes_bad rfl (show 2 ≤ 100 by decide) gN rfl) r3 l3),
    forN_nx (η' := [.val (.int p), .val (.lst [.int p, .int 1000001]), .un]) rfl (bod4 (zs := [.int 0, .int 0]) (by kernel_rfl) (need_primes_bad rfl (show 2 ≤ 100 by decide) gM (by simp)) r4 l4)]
  rfl
theorem great1 {n : Nat} (h1 : 1000003 ≤ n) (h2 : n ≤ 999999937) (hp : Tr n) : Great [n] := ⟨by simp, fun q hq => by
  simp only [List.mem_singleton] at hq
  subst hq
  exact ⟨h1, h2, hp⟩, by simp, by simp⟩
theorem put_bad (h1 : 1000003 ≤ p) (h2 : p ≤ 999999937) (hp : TrZ p) {l : List D} (ht : (den T_put_together t_put_together_2t).t [.val (.lst [.int p]), .val (.lst l), .val (.tup l), .un, .un] μ = .ok true μ) : d_put_together [.lst [.int p], .lst l] μ = .exc "BadPaper" [("paper", .tup l)] μ := by
  refine fnDen_ex (η := [.val (.lst [.int p]), .val (.lst l), .val (.tup l), .un, .un]) rfl ?_
  rw [sp_put_together]
  obtain ⟨n, rfl⟩ := Int.eq_ofNat_of_zero_le (show 0 ≤ p by omega)
  have hn := need_primes_ok (great1 (n := n) (by omega) (by omega) hp.nat) false μ
  refine (seq_nx (η' := [.val (.lst [.int n]), .val (.lst l), .un, .un, .un]) (μ' := μ) (s_exp (p_call1 fn_put_together__need_primes (p_var rfl) hn))).trans ?_
  refine (seq_nx (η' := [.val (.lst [.int n]), .val (.lst l), .val (.tup l), .un, .un]) (μ' := μ) (s_set (p_blt1 (p_var rfl) rfl))).trans ?_
  show SM.seq (denS T_put_together (.ite t_put_together_2t t_put_together_2a .nil)).s _ _ _ = _
  unfold SM.seq
  rw [s_ite1 ht]
  simp [t_put_together_2a_0, t_put_together_2a, denS, den, SM.seq, SM.of, SM.skip, Dd.ofV, Dd.ofT, Dd.ofL, Dd.ofI, Dn.M.bind, Dn.M.pure, Dn.M.opt, bind2, ixM, ixO, cstD, keyO, andT, orT, Dn.andM, Dn.orM, blM, isNil, truO, cmp_eq, cmp_ne, cmp_ge, cmp_gt, cmp_lt, cmp_le, int_ok, abs_ok, add_ok, sub_ok, setAll, augO, xf_p]
theorem bod5 {l : List D} {s : Str} (h : d_put_together [.lst [.int p], .lst l] μ = .exc "BadPaper" [("paper", .tup l)] μ) (hr : reprO (.tup l) = some (.str s)) (hs : s.length ≤ 3000) :
    (denS T_l_errors_right t_l_errors_right_5b).s [.val (.int p), .val (.lst l), .un] μ = .nx [.val (.int p), .val (.lst l), .un] μ := by
  have e : (den T_l_errors_right (.lst (.cons (.var 0) .nil))).v [.val (.int p), .val (.lst l), .un] μ = .ok (.lst [.int p]) μ := by kernel_rfl
  exact (seq_nx (s_ite0 (p_cmp (p_call3 fn_l_errors_right__l_raised (p_int 2) e (p_var rfl) (raised_p (call2 h) hr hs)) (p_bin rfl (p_rep (p_blt1 (p_var rfl) rfl) hr) (add_str (by show 6 + s.length ≤ _; omega))) (ne_str _)))).trans rfl
theorem er5 (h1 : 1000003 ≤ p) (h2 : p ≤ 999999937) (hp : TrZ p) : (denS T_l_errors_right t_l_errors_right_5).s [.val (.int p), s1, .un] μ = .nx [.val (.int p), .val (.lst [.bl true]), .un] μ := by
  refine for_of (ds := [.lst [], .lst [.int 0, .int 0], .lst [.int p], .lst [.int (-1)], .lst [.non], .lst [.bl true]]) (μ' := μ) (by kernel_rfl) ?_
  have gp := good_p (p := p) (by omega) h2
  obtain ⟨s0, r0, l0, _⟩ := repr_tup (l := []) (fun d hd => by cases hd) (by decide)
  obtain ⟨s1, r1, l1, _⟩ := repr2 (x := .int 0) (y := .int 0) (by decide +kernel) (by decide +kernel)
  obtain ⟨s2, r2, l2, _⟩ := repr1 gp
  obtain ⟨s3, r3, l3, _⟩ := repr1 (x := .int (-1)) (by decide +kernel)
  obtain ⟨s4, r4, l4, _⟩ := repr1 (x := .non) (by decide +kernel)
  obtain ⟨s5, r5, l5, _⟩ := repr1 (x := .bl true) (by decide +kernel)
  have h0 : 0 ≤ p := by omega
  rw [forN_nx (η' := [.val (.int p), .val (.lst []), .un]) rfl (bod5 (put_bad h1 h2 hp (by kernel_rfl)) r0 l0),
    forN_nx (η' := [.val (.int p), .val (.lst [.int 0, .int 0]), .un]) rfl (bod5 (put_bad h1 h2 hp (by kernel_rfl)) r1 l1),
    forN_nx (η' := [.val (.int p), .val (.lst [.int p]), .un]) rfl (bod5 (put_bad h1 h2 hp (by
      have hb : bltO .len [.lst [.int p]] = some (.int 1) := rfl
      have hb2 : bltO .len [.tup [.int p]] = some (.int 1) := rfl
      have hz : zipM (.lst [.int p]) (.tup [.int p]) = Dn.M.pure [.tup [.int p, .int p]] := rfl
      have ha : bltO .all [.lst [.bl false]] = some (.bl false) := rfl
      simp [t_put_together_2t, denS, den, SM.seq, SM.of, SM.skip, Dd.ofV, Dd.ofT, Dd.ofL, Dd.ofI, Dn.M.bind, Dn.M.pure, Dn.M.opt, bind2, ixM, ixO, cstD, keyO, andT, orT, Dn.andM, Dn.orM, blM, isNil, truO, cmp_eq, cmp_ne, cmp_ge, cmp_gt, cmp_lt, cmp_le, int_ok, abs_ok, add_ok, sub_ok, setAll, augO, hb, hb2, hz, Dn.M.nox, lcLoop, tgSet, setAll, wipeE, Tg.slots, fn_put_together__is_count, is_count_int, h0, ha, sizeLine_eq])) r2 l2),
    forN_nx (η' := [.val (.int p), .val (.lst [.int (-1)]), .un]) rfl (bod5 (put_bad h1 h2 hp (by kernel_rfl)) r3 l3),
    forN_nx (η' := [.val (.int p), .val (.lst [.non]), .un]) rfl (bod5 (put_bad h1 h2 hp (by kernel_rfl)) r4 l4),
    forN_nx (η' := [.val (.int p), .val (.lst [.bl true]), .un]) rfl (bod5 (put_bad h1 h2 hp (by kernel_rfl)) r5 l5)]
  rfl
theorem bb_nc (h1 : 1000003 ≤ p) {odd : D} (h : d_is_count [odd] μ = .ok (.bl false) μ) : d_brought_back [odd, .int p] μ = .exc "BadNumber" [("number", odd), ("what", .str "rest")] μ := by
  refine fnDen_ex (η := [.val odd, .val (.int p)]) rfl ?_
  rw [sp_brought_back]
  have h0 : 0 ≤ p := by omega
  have h00 : p ≠ 0 := by omega
  refine (seq_nx (η' := [.val odd, .val (.int p)]) (μ' := μ) ?_).trans ?_
  · simp [t_brought_back_0a_0, t_brought_back_0a, t_brought_back_0e, t_brought_back_0t, t_brought_back_0, denS, den, SM.seq, SM.of, SM.skip, Dd.ofV, Dd.ofT, Dd.ofL, Dd.ofI, Dn.M.bind, Dn.M.pure, Dn.M.opt, bind2, ixM, ixO, cstD, keyO, andT, orT, Dn.andM, Dn.orM, blM, isNil, truO, cmp_eq, cmp_ne, cmp_ge, cmp_gt, cmp_lt, cmp_le, int_ok, abs_ok, add_ok, sub_ok, setAll, augO, fn_brought_back__is_count, is_count_int, h0, h00]
  · simp [t_brought_back_1a_0, t_brought_back_1a, t_brought_back_1e, t_brought_back_1t, t_brought_back_1, denS, den, SM.seq, SM.of, SM.skip, Dd.ofV, Dd.ofT, Dd.ofL, Dd.ofI, Dn.M.bind, Dn.M.pure, Dn.M.opt, bind2, ixM, ixO, cstD, keyO, andT, orT, Dn.andM, Dn.orM, blM, isNil, truO, cmp_eq, cmp_ne, cmp_ge, cmp_gt, cmp_lt, cmp_le, int_ok, abs_ok, add_ok, sub_ok, setAll, augO, fn_brought_back__is_count, h, xf_n]
theorem bb_p (h1 : 1000003 ≤ p) : d_brought_back [.int p, .int p] μ = .exc "BadNumber" [("number", .int p), ("what", .str "rest")] μ := by
  refine fnDen_ex (η := [.val (.int p), .val (.int p)]) rfl ?_
  rw [sp_brought_back]
  have h0 : 0 ≤ p := by omega
  have h00 : p ≠ 0 := by omega
  refine (seq_nx (η' := [.val (.int p), .val (.int p)]) (μ' := μ) ?_).trans ?_
  · simp [t_brought_back_0a_0, t_brought_back_0a, t_brought_back_0e, t_brought_back_0t, t_brought_back_0, denS, den, SM.seq, SM.of, SM.skip, Dd.ofV, Dd.ofT, Dd.ofL, Dd.ofI, Dn.M.bind, Dn.M.pure, Dn.M.opt, bind2, ixM, ixO, cstD, keyO, andT, orT, Dn.andM, Dn.orM, blM, isNil, truO, cmp_eq, cmp_ne, cmp_ge, cmp_gt, cmp_lt, cmp_le, int_ok, abs_ok, add_ok, sub_ok, setAll, augO, fn_brought_back__is_count, is_count_int, h0, h00]
  · simp [t_brought_back_1a_0, t_brought_back_1a, t_brought_back_1e, t_brought_back_1t, t_brought_back_1, denS, den, SM.seq, SM.of, SM.skip, Dd.ofV, Dd.ofT, Dd.ofL, Dd.ofI, Dn.M.bind, Dn.M.pure, Dn.M.opt, bind2, ixM, ixO, cstD, keyO, andT, orT, Dn.andM, Dn.orM, blM, isNil, truO, cmp_eq, cmp_ne, cmp_ge, cmp_gt, cmp_lt, cmp_le, int_ok, abs_ok, add_ok, sub_ok, setAll, augO, fn_brought_back__is_count, is_count_int, h0, xf_n]
theorem errors_right_ok (h1 : 1000003 ≤ p) (h2 : p ≤ 999999937) (hp : TrZ p) : d_l_errors_right [.int p] μ = .ok (.bl true) μ := by
  refine fnDen_rt rfl ?_
  rw [sp_l_errors_right]
  refine (seq_nx er0).trans ((seq_nx er1).trans ((seq_nx (er2 h1 h2 hp)).trans ((seq_nx (er3 h1 h2 hp)).trans ((seq_nx (er4 h1 h2 hp)).trans ((seq_nx (er5 h1 h2 hp)).trans ((seq_nx er6).trans ?_))))))
  refine (seq_nx (η' := [.val (.int p), .val (.bl true), .val (.lst [.non, .int (-1), .int p, .bl true])]) (μ' := μ) (by kernel_rfl)).trans ?_
  have gp := good_p (p := p) (by omega) h2
  have key : ∀ d ∈ [D.non, .int (-1), .int p, .bl true], goodB d = true ∧ d_brought_back [d, .int p] μ = .exc "BadNumber" [("number", d), ("what", .str "rest")] μ := by
    intro d hd
    simp only [List.mem_cons, List.not_mem_nil, or_false] at hd
    rcases hd with rfl | rfl | rfl | rfl
    · exact ⟨by decide +kernel, bb_nc h1 (by kernel_rfl)⟩
    · exact ⟨by decide +kernel, bb_nc h1 (by kernel_rfl)⟩
    · exact ⟨gp, bb_p h1⟩
    · exact ⟨by decide +kernel, bb_nc h1 (by kernel_rfl)⟩
  have one : ∀ d, ∃ s : Str, (d ∈ [D.non, .int (-1), .int p, .bl true] → reprO (.tup [.str "rest", d]) = some (.str s)) ∧ PyData.strOk s = true := by
    intro d
    by_cases hd : d ∈ [D.non, .int (-1), .int p, .bl true]
    · obtain ⟨s, e, _, o⟩ := repr2 (x := .str "rest") (y := d) (by decide +kernel) (key d hd).1
      exact ⟨s, fun _ => e, o⟩
    · exact ⟨"", fun h => (hd h).elim, by decide +kernel⟩
  have ⟨f, hf⟩ := Classical.axiomOfChoice one
  have e1 : (den T_l_errors_right (.lc (.call "_law_raised" (.cons (.cst (.int 3)) (.cons (.var 1) (.cons (.var 0) .nil)))) (.nm 1) (.var 2) .nil)).v [.val (.int p), .val (.bl true), .val (.lst [.non, .int (-1), .int p, .bl true])] μ = .ok (.lst (([.non, .int (-1), .int p, .bl true] : List D).map fun d => .str (f d))) μ := by
    refine p_lc (p_vari rfl rfl) (lc_map _ (fun d hd => ?_) (by rw [sizeLine_eq]; show 4 ≤ _; decide))
    exact ⟨[.val (.int p), .val d, .val (.lst [.non, .int (-1), .int p, .bl true])], rfl, rfl, p_call3 fn_l_errors_right__l_raised (p_int 3) (p_var rfl) (p_var rfl) (raised_n (call3 (key d hd).2) ((hf d).1 hd))⟩
  have e2 : (den T_l_errors_right (.lc (.blt .repr (.cons (.tup (.cons (.cst (.str "rest")) (.cons (.var 1) .nil))) .nil)) (.nm 1) (.var 2) .nil)).v [.val (.int p), .val (.bl true), .val (.lst [.non, .int (-1), .int p, .bl true])] μ = .ok (.lst (([.non, .int (-1), .int p, .bl true] : List D).map fun d => .str (f d))) μ := by
    refine p_lc (p_vari rfl rfl) (lc_map _ (fun d hd => ?_) (by rw [sizeLine_eq]; show 4 ≤ _; decide))
    exact ⟨[.val (.int p), .val d, .val (.lst [.non, .int (-1), .int p, .bl true])], rfl, rfl, p_rep (p_tup2 rfl (p_var rfl)) ((hf d).1 hd)⟩
  have e3 := eq_strs ([D.non, .int (-1), .int p, .bl true].map f) (fun s hs => by
    obtain ⟨d, _, rfl⟩ := List.mem_map.mp hs
    exact (hf d).2)
  rw [List.map_map] at e3
  exact s_ret (p_cmpv e1 e2 e3)
end
end K22

/-! k22: draws, lowest terms, what is right of rests; a turn of the law's parts. -/
namespace K22
open PySem PySem.Spec PyProof.Rows L2 Dn K22n
/-! ### products of primes -/
theorem nat_dvd {n : Nat} {z : Int} : (n : Int) ∣ z ↔ n ∣ z.natAbs := by rw [← Int.natAbs_dvd_natAbs, Int.natAbs_natCast]
theorem ndvd_prd : ∀ {p : Nat} {qs : List Nat}, Pr p → (∀ q ∈ qs, Pr q) → p ∉ qs → ¬ p ∣ prd qs
  | p, [], hp, _, _ => fun hd => by
    have h1 : p ≤ 1 := Nat.le_of_dvd (by decide) hd
    have h2 := hp.1
    omega
  | p, q :: qs, hp, hq, hn => by
    rw [prd, Nat.mul_comm]
    exact hp.ndvd (hq q List.mem_cons_self) (fun e => hn (e ▸ List.mem_cons_self)) (ndvd_prd hp (fun x hx => hq x (List.mem_cons_of_mem _ hx)) fun h => hn (List.mem_cons_of_mem _ h))
theorem prd_dvd : ∀ {ps : List Nat} {z : Nat}, (∀ p ∈ ps, Pr p) → ps.Nodup → (∀ p ∈ ps, p ∣ z) → prd ps ∣ z
  | [], z, _, _, _ => Nat.one_dvd z
  | p :: ps, z, hp, hn, hd => by
    obtain ⟨n1, n2⟩ := List.nodup_cons.mp hn
    have hp' : ∀ q ∈ ps, Pr q := fun q hq => hp q (List.mem_cons_of_mem _ hq)
    exact Nat.Coprime.mul_dvd_of_dvd_of_dvd ((hp p List.mem_cons_self).cop (ndvd_prd (hp p List.mem_cons_self) hp' n1)) (hd p List.mem_cons_self) (prd_dvd hp' n2 fun q hq => hd q (List.mem_cons_of_mem _ hq))
theorem cop_prd : ∀ {ps : List Nat} {b : Nat}, (∀ p ∈ ps, Pr p ∧ ¬ p ∣ b) → Nat.gcd b (prd ps) = 1
  | [], b, _ => Nat.gcd_one_right b
  | p :: ps, b, h => by
    obtain ⟨h1, h2⟩ := h p List.mem_cons_self
    have a : Nat.Coprime b p := by rw [Nat.Coprime, Nat.gcd_comm]; exact h1.cop h2
    have c : Nat.Coprime b (prd ps) := cop_prd fun q hq => h q (List.mem_cons_of_mem _ hq)
    exact Nat.Coprime.mul_right a c
/-- a number with the rests of t / b -/
theorem rs_dvd {p : Nat} (hp : Pr p) {t f : Int} {b : Nat} (hb : ¬ p ∣ b) (h : f % (p : Int) = rs p t b) : (p : Int) ∣ t - f * b := by
  have hi := inv_ok hp hb
  unfold rs at h
  generalize (b % p) ^ (p - 2) % p = iv at *
  have h1 := Int.emod_add_mul_ediv f p
  have h2 := Int.emod_add_mul_ediv (t * (iv : Int)) p
  rw [h] at h1
  have h3 := Int.emod_add_mul_ediv ((b : Int) * (iv : Int)) p
  have h4 : ((b : Int) * (iv : Int)) % (p : Int) = 1 := by rw [← Int.natCast_mul, ← Int.natCast_emod, hi]; rfl
  rw [h4] at h3
  generalize t * (iv : Int) % (p : Int) = x at *
  generalize f / (p : Int) = y at *
  generalize t * (iv : Int) / (p : Int) = z at *
  generalize (b : Int) * (iv : Int) / (p : Int) = k at *
  exact ⟨-(t * k) + z * b - y * b, by grind⟩
theorem rs_rng {p : Nat} (hp : 0 < p) (t : Int) (b : Nat) : 0 ≤ rs p t b ∧ rs p t b < p := ⟨Int.emod_nonneg _ (by omega), Int.emod_lt_of_pos _ (by omega)⟩
theorem Great.pr {ps : List Nat} (h : Great ps) : ∀ p ∈ ps, Pr p := fun p hp => by
  obtain ⟨h1, h2, h3⟩ := h.g p hp
  exact h3.pr (by omega)
theorem all_dvd {ps : List Nat} (h : Great ps) {t f : Int} {b : Nat} (hb : ∀ p ∈ ps, b % p ≠ 0) (hf : ps.map (fun (p : Nat) => f % (p : Int)) = ps.map fun p => rs p t b) : ((prd ps : Nat) : Int) ∣ t - f * b := by
  have hb' : ∀ p ∈ ps, ¬ p ∣ b := fun p hp hd => hb p hp (Nat.mod_eq_zero_of_dvd hd)
  have : prd ps ∣ (t - f * b).natAbs := prd_dvd h.pr h.nd fun p hp => by
    have e : f % (p : Int) = rs p t b := List.map_inj_left.mp hf p hp
    exact nat_dvd.mp (rs_dvd (h.pr p hp) (hb' p hp) e)
  exact nat_dvd.mpr this
/-! ### whole numbers compared -/
theorem ints_py : ∀ l : List Int, D.pys (l.map D.int) = some (l.map PyData.int)
  | [] => rfl
  | x :: l => by
    show (match D.py (.int x), D.pys (l.map D.int) with | some p, some q => some (p :: q) | _, _ => none) = _
    rw [ints_py l]; rfl
theorem ints_lay : ∀ l : List Int, PyData.canLayAll0 (l.map PyData.int) = true
  | [] => rfl
  | x :: l => by
    show (true && PyData.canLayAll0 (l.map PyData.int)) = true
    rw [ints_lay l]; rfl
theorem ints_dep : ∀ l : List Int, PyData.depthAll (l.map PyData.int) ≤ 1
  | [] => by decide
  | x :: l => by
    have := ints_dep l
    simp only [List.map_cons, PyData.depthAll, PyData.depth]
    omega
theorem ints_shaped (l : List Int) : SeqAt.shaped (.list (l.map .int)) = true := by
  show (PyData.canLayAll0 (l.map PyData.int) && decide (PyData.depthAll (l.map PyData.int) + 1 ≤ 64)) = true
  have := ints_dep l
  rw [ints_lay l, decide_eq_true (by omega)]; rfl
theorem ne_ints (l : List Int) : cmpO .NotEq (.lst (l.map .int)) (.lst (l.map .int)) = some false := by
  show (eqP _ _).map (!·) = _
  rw [eq_self (p := .list (l.map .int)) ?_ (ints_shaped l)]
  · rfl
  · show (D.pys _).map PyData.list = _
    rw [ints_py]; rfl
theorem eq_pair (a b c d : Int) : cmpO .Eq (.tup [.int a, .int b]) (.tup [.int c, .int d]) = some (a == c && (b == d && true)) := by
  show eqP (.tup [.int a, .int b]) (.tup [.int c, .int d]) = _
  kernel_rfl
/-! ### draws -/
/-- the world is a pen -/
def PW (cells : List Int) (μ : Wd) (c : Int) : Prop := ∃ a dg f, μ = [.dct (penL cells a dg c f)] ∧ PenOk cells a dg c f
theorem PW.draw {cells : List Int} {μ : Wd} {c many : Int} (h : PW cells μ c) (hc : c < 1000000000) (h1 : 1 ≤ many) (h2 : many < 1000000000000) : ∃ r μ', d_l_draw [.ref 0, .int many] μ = .ok (.int r) μ' ∧ 0 ≤ r ∧ r < many ∧ PW cells μ' (c + 1) := by
  obtain ⟨a, dg, f, rfl, ok⟩ := h
  obtain ⟨r, a', dg', f', e, r0, r1, ok'⟩ := draw_ok ok hc h1 h2
  exact ⟨r, _, e, r0, r1, a', dg', f', rfl, ok'⟩
theorem PW.pick {cells : List Int} {μ : Wd} {c : Int} {l : List D} (h : PW cells μ c) (hc : c < 1000000000) (h1 : 1 ≤ l.length) (h2 : l.length < 100) : ∃ d μ', d_l_pick [.ref 0, .lst l] μ = .ok d μ' ∧ d ∈ l ∧ PW cells μ' (c + 1) := by
  obtain ⟨a, dg, f, rfl, ok⟩ := h
  obtain ⟨d, a', dg', f', e, hd, ok'⟩ := pick_ok ok hc h1 (by omega)
  exact ⟨d, _, e, hd, a', dg', f', rfl, ok'⟩
/-! ### lowest terms -/
theorem lowest_ok {t b : Int} (hb : 0 < b) (hb2 : b < 2 ^ 60) (μ : Wd) : ∃ (t' : Int) (b' : Nat), d_l_lowest [.int t, .int b] μ = .ok (.tup [.int t', .int b']) μ ∧ 0 < b' ∧ Nat.gcd t'.natAbs b' = 1 ∧ t'.natAbs ≤ t.natAbs ∧ b' ≤ b.natAbs := by
  have eg := lgcd_ok (a := t) (b := b) (by omega) μ
  have d1 := Nat.gcd_dvd_left t.natAbs b.natAbs
  have d2 := Nat.gcd_dvd_right t.natAbs b.natAbs
  have g0 : 0 < Nat.gcd t.natAbs b.natAbs := Nat.gcd_pos_of_pos_right _ (by omega)
  have gb : Nat.gcd t.natAbs b.natAbs ≤ b.natAbs := Nat.le_of_dvd (by omega) d2
  have gg := Nat.gcd_mul_left (Nat.gcd t.natAbs b.natAbs)
  obtain ⟨t1, ht⟩ := nat_dvd.mpr d1
  obtain ⟨b1, hb1⟩ := nat_dvd.mpr d2
  generalize hg : Nat.gcd t.natAbs b.natAbs = g at *
  have b10 : 0 < b1 := by
    apply Int.not_le.mp; intro hc
    have : (g : Int) * b1 ≤ 0 := Int.mul_nonpos_of_nonneg_of_nonpos (by omega) hc
    omega
  have nt : t.natAbs = g * t1.natAbs := by rw [ht, Int.natAbs_mul]; rfl
  have nb : b.natAbs = g * b1.natAbs := by rw [hb1, Int.natAbs_mul]; rfl
  refine ⟨t1, b1.natAbs, fnDen_rt rfl ?_, by omega, ?_, ?_, ?_⟩
  · rw [sp_l_lowest]
    have q1 : t / (g : Int) = t1 := by rw [ht]; exact Int.mul_ediv_cancel_left _ (by omega)
    have q2 : b / (g : Int) = ((b1.natAbs : Nat) : Int) := by rw [hb1, Int.mul_ediv_cancel_left _ (by omega)]; omega
    have v1 := div_big (i := t) (j := g) (by omega) (by omega)
    have v2 := div_big (i := b) (j := g) (by omega) (by omega)
    rw [q1] at v1
    rw [q2] at v2
    have hn : ¬ b < 0 := by omega
    refine (seq_nx (η' := [.val (.int t), .val (.int b), .val (.int g)]) (μ' := μ) (s_set (p_call2 fn_l_lowest__l_gcd (p_var rfl) (p_var rfl) eg))).trans ((seq_nx (a := t_l_lowest_1) (η' := [.val (.int t), .val (.int b), .val (.int g)]) (μ' := μ) (s_ite0 (p_cmp (p_var rfl) (p_int 0) (by rw [cmp_lt, decide_eq_false hn])))).trans ?_)
    exact s_ret (p_tup2 (p_blt1 (p_bin (p_var rfl) (p_var rfl) v1) (int_ok _)) (p_blt1 (p_bin (p_var rfl) (p_var rfl) v2) (int_ok _)))
  · have := gg t1.natAbs b1.natAbs
    rw [← nt, ← nb, hg] at this
    exact Nat.eq_of_mul_eq_mul_left g0 (by omega)
  · rw [nt]; exact Nat.le_mul_of_pos_left _ g0
  · rw [nb]; exact Nat.le_mul_of_pos_left _ g0
/-! ### the primes' row grows -/
/-- a row that may grow -/
structure Grow (ps : List Nat) (B : Nat) : Prop where
  g : Great ps
  l : ∃ qs x, ps = qs ++ [x] ∧ (∀ q ∈ qs, q < x) ∧ x ≤ B
theorem pl_app (qs : List Nat) (x : Nat) : pl (qs ++ [x]) = pl qs ++ [.int (x : Int)] := by simp [pl]
theorem atI_last (l : List D) (d : D) : L2.atI (l ++ [d]) (-1) = some d := by
  unfold L2.atI ixN
  rw [if_neg (by decide), List.length_append, List.length_singleton, if_pos (by omega), show ((-1 : Int) + ((l.length + 1 : Nat) : Int)).toNat = l.length by omega]
  show (l ++ [d])[l.length]? = _
  simp
theorem Grow.next {ps : List Nat} {B B' : Nat} (h : Grow ps B) (hB : Tr B') (hB1 : B + 49 < B') (hB2 : B' ≤ 900000000) (hl : ps.length < 50) (r : Int) (r0 : 0 ≤ r) (r1 : r < 50) (μ : Wd) :
    ∃ y : Nat, L2.atI (pl ps) (-1) = some (.int ((y : Int))) ∧ ∃ z : Nat, d_next_great [.int ((y : Int) + r)] μ = .ok (.int (z : Int)) μ ∧ Grow (ps ++ [z]) B' := by
  obtain ⟨qs, x, rfl, hq, hx⟩ := h.l
  refine ⟨x, by rw [pl_app]; exact atI_last _ _, ?_⟩
  obtain ⟨gx1, gx2, gx3⟩ := h.g.g x (by simp)
  obtain ⟨p, e, p1, p2, p3, p4, _⟩ := next_great_ok (n := (x : Int) + r) (P := (B' : Int)) (by omega) (by omega) (Tr.int hB) (by omega) (by omega) (by omega) μ
  obtain ⟨z, rfl⟩ := Int.eq_ofNat_of_zero_le (show 0 ≤ p by omega)
  have lt : ∀ q ∈ qs ++ [x], q < z := fun q hm => by
    rcases List.mem_append.mp hm with hm | hm
    · have := hq q hm; omega
    · simp only [List.mem_singleton] at hm; omega
  refine ⟨z, e, ⟨⟨by simp, fun q hm => ?_, ?_, ?_⟩, qs ++ [x], z, rfl, lt, by omega⟩⟩
  · rcases List.mem_append.mp hm with hm | hm
    · exact h.g.g q hm
    · simp only [List.mem_singleton] at hm
      subst hm
      exact ⟨by omega, by omega, p4.nat⟩
  · rw [List.nodup_append]
    refine ⟨h.g.nd, by simp, fun a ha b hb e => ?_⟩
    simp only [List.mem_singleton] at hb
    have := lt a ha
    omega
  · rw [List.length_append, List.length_singleton]; omega
end K22

/-! k22: the law up to its primes. -/
namespace K22
open PySem PySem.Spec PyProof.Rows L2 Dn K22n
section
variable {s0 s1 s2 s3 s4 s5 s6 s7 s8 s9 s10 s11 s12 s13 s14 s15 s16 s17 s18 s19 s20 s21 : Slot} {μ : Wd} {cells : List Int} {c : Int}
theorem z1 (h : PW cells μ c) (hc : c < 999999000) : ∃ b μ', (denS T_law t_law_1).s [s0, .val (.ref 0), s2, s3, s4, s5, s6, s7, s8, s9, s10, s11, s12, s13, s14, s15, s16, s17, s18, s19, s20, s21] μ = .nx [s0, .val (.ref 0), .val (.int b), s3, s4, s5, s6, s7, s8, s9, s10, s11, s12, s13, s14, s15, s16, s17, s18, s19, s20, s21] μ' ∧ 0 ≤ b ∧ b < 2000003 ∧ PW cells μ' (c + 2) := by
  obtain ⟨r, μ1, e1, r0, r1, w1⟩ := h.draw (many := 1000000) (by omega) (by decide) (by decide)
  obtain ⟨d, μ2, e2, hd, w2⟩ := w1.pick (l := [.int 0, .int 1000002, .int (1000003 + r)]) (by omega) (show 1 ≤ 3 by decide) (show 3 < 100 by decide)
  rw [show c + 1 + 1 = c + 2 by omega] at w2
  have hl : (den T_law (.lst (.cons (.cst (.int 0)) (.cons (.cst (.int 1000002)) (.cons (.bin .Add (.cst (.int 1000003)) (.call "_law_draw" (.cons (.var 1) (.cons (.bin .Pow (.cst (.int 10)) (.cst (.int 6))) .nil)))) .nil))))).v [s0, .val (.ref 0), s2, s3, s4, s5, s6, s7, s8, s9, s10, s11, s12, s13, s14, s15, s16, s17, s18, s19, s20, s21] μ = .ok (.lst [.int 0, .int 1000002, .int (1000003 + r)]) μ1 := by
    have ep : binO .Pow (.int 10) (.int 6) = some (.int 1000000) := by kernel_rfl
    simp [denS, den, SM.seq, SM.of, SM.skip, Dd.ofV, Dd.ofT, Dd.ofL, Dd.ofI, Dn.M.bind, Dn.M.pure, Dn.M.opt, bind2, ixM, ixO, cstD, keyO, andT, orT, Dn.andM, Dn.orM, blM, isNil, truO, cmp_eq, cmp_ne, cmp_ge, cmp_gt, cmp_lt, cmp_le, int_ok, abs_ok, add_ok, sub_ok, setAll, augO, ep, fn_law__l_draw, e1, sizeLine_eq]
  obtain ⟨b, rfl, b0, b1⟩ : ∃ b, d = .int b ∧ 0 ≤ b ∧ b < 2000003 := by
    simp only [List.mem_cons, List.not_mem_nil, or_false] at hd
    rcases hd with rfl | rfl | rfl
    · exact ⟨_, rfl, by decide, by decide⟩
    · exact ⟨_, rfl, by decide, by decide⟩
    · exact ⟨_, rfl, by omega, by omega⟩
  exact ⟨b, μ2, s_set (p_call2 fn_law__l_pick (p_var rfl) hl e2), b0, b1, w2⟩
theorem z2 {b : Int} (b0 : 0 ≤ b) (b1 : b < 2000003) : ∃ p, (denS T_law t_law_2).s [s0, s1, .val (.int b), s3, s4, s5, s6, s7, s8, s9, s10, s11, s12, s13, s14, s15, s16, s17, s18, s19, s20, s21] μ = .nx [s0, s1, .val (.int b), .val (.int p), s4, s5, s6, s7, s8, s9, s10, s11, s12, s13, s14, s15, s16, s17, s18, s19, s20, s21] μ ∧ b < p ∧ 1000003 ≤ p ∧ p ≤ 2000003 ∧ TrZ p ∧ ∀ q, b < q → 1000003 ≤ q → q < p → ¬ TrZ q := by
  obtain ⟨p, e, g⟩ := next_great_ok (n := b) (P := 2000003) b0 (by omega) (Tr.int tr1) (by decide) (by decide) b1 μ
  exact ⟨p, s_set (p_call1 fn_law__next_great (p_var rfl) e), g⟩
theorem l_is_prime_t {p : Int} (h3 : 3 ≤ p) (h : p < 2 ^ 100) (hp : TrZ p) : d_l_is_prime [.int p] μ = .ok (.bl true) μ := by
  obtain ⟨b, e, hb⟩ := lip h3 h μ
  have : b = true := hb.mpr hp
  subst this; exact e
theorem l_is_prime_f {p : Int} (h3 : 3 ≤ p) (h : p < 2 ^ 100) (hp : ¬ TrZ p) : d_l_is_prime [.int p] μ = .ok (.bl false) μ := by
  obtain ⟨b, e, hb⟩ := lip h3 h μ
  cases b with
  | false => exact e
  | true => exact (hp (hb.mp rfl)).elim
theorem z3 {b p : Int} (h1 : b < p) (h2 : 1000003 ≤ p) (h3 : p ≤ 2000003) (hp : TrZ p) : (denS T_law t_law_3).s [s0, s1, .val (.int b), .val (.int p), s4, s5, s6, s7, s8, s9, s10, s11, s12, s13, s14, s15, s16, s17, s18, s19, s20, s21] μ = .nx [s0, s1, .val (.int b), .val (.int p), s4, s5, s6, s7, s8, s9, s10, s11, s12, s13, s14, s15, s16, s17, s18, s19, s20, s21] μ := by
  refine s_ite0 (p_or3 (p_cmp (p_var rfl) (p_var rfl) ?_) (p_cmp (p_var rfl) (p_int _) ?_) (p_nt (p_call1t fn_law__l_is_prime (p_var rfl) (l_is_prime_t (by omega) (by omega) hp))))
  · rw [cmp_le, decide_eq_false (by omega)]
  · rw [cmp_lt, decide_eq_false (by omega)]
/-- where the numbers between begin -/
def low (b : Int) : Int := if 1000003 > b + 1 then 1000003 else b + 1
theorem z4 {b p : Int} (b0 : 0 ≤ b) (h1 : b < p) (h2 : 1000003 ≤ p) (h3 : p ≤ 2000003) : (denS T_law t_law_4).s [s0, s1, .val (.int b), .val (.int p), s4, s5, s6, s7, s8, s9, s10, s11, s12, s13, s14, s15, s16, s17, s18, s19, s20, s21] μ = .nx [s0, s1, .val (.int b), .val (.int p), .val (.lst (rangeD (low b) (p - low b).toNat)), s5, s6, s7, s8, s9, s10, s11, s12, s13, s14, s15, s16, s17, s18, s19, s20, s21] μ := by
  refine s_set ?_
  have hm : bltO .max [.int (b + 1), .int 1000003] = some (.int (low b)) := rfl
  have hl : 0 ≤ low b ∧ low b ≤ 2000003 := by unfold low; split <;> omega
  have hr : lrgM (.int (low b)) (.int p) = Dn.M.pure (rangeD (low b) (p - low b).toNat) := if_pos ⟨by omega, by omega, by omega, by omega, by omega⟩
  simp [denS, den, SM.seq, SM.of, SM.skip, Dd.ofV, Dd.ofT, Dd.ofL, Dd.ofI, Dn.M.bind, Dn.M.pure, Dn.M.opt, bind2, ixM, ixO, cstD, keyO, andT, orT, Dn.andM, Dn.orM, blM, isNil, truO, cmp_eq, cmp_ne, cmp_ge, cmp_gt, cmp_lt, cmp_le, int_ok, abs_ok, add_ok, sub_ok, setAll, augO, hm, hr]
theorem rangeD_mem {lo : Int} {n : Nat} {d : D} (h : d ∈ rangeD lo n) : ∃ i : Int, d = .int i ∧ lo ≤ i ∧ i < lo + n := by
  obtain ⟨k, hk, rfl⟩ := List.mem_map.mp h
  exact ⟨lo + k, rfl, by omega, by have := List.mem_range.mp hk; omega⟩
theorem z5 {b p : Int} (b0 : 0 ≤ b) (h1 : b < p) (h2 : 1000003 ≤ p) (h3 : p ≤ 2000003) (hp : TrZ p) (hb : ∀ q, b < q → 1000003 ≤ q → q < p → ¬ TrZ q) : (denS T_law t_law_5).s [s0, s1, s2, .val (.int p), .val (.lst (rangeD (low b) (p - low b).toNat)), s5, s6, s7, s8, s9, s10, s11, s12, s13, s14, s15, s16, s17, s18, s19, s20, s21] μ = .nx [s0, s1, s2, .val (.int p), .val (.lst (rangeD (low b) (p - low b).toNat)), s5, s6, s7, s8, s9, s10, s11, s12, s13, s14, s15, s16, s17, s18, s19, s20, s21] μ := by
  have hlo : 1000003 ≤ low b ∧ b < low b ∧ low b ≤ p := by unfold low; split <;> omega
  have hs : (den T_law (.slc (.var 4) .no (.cst (.int 6)))).i [s0, s1, s2, .val (.int p), .val (.lst (rangeD (low b) (p - low b).toNat)), s5, s6, s7, s8, s9, s10, s11, s12, s13, s14, s15, s16, s17, s18, s19, s20, s21] μ = .ok (Dn.cutD (rangeD (low b) (p - low b).toNat) none (some 6)) μ := by
    simp [denS, den, SM.seq, SM.of, SM.skip, Dd.ofV, Dd.ofT, Dd.ofL, Dd.ofI, Dn.M.bind, Dn.M.pure, Dn.M.opt, bind2, ixM, ixO, cstD, keyO, andT, orT, Dn.andM, Dn.orM, blM, isNil, truO, cmp_eq, cmp_ne, cmp_ge, cmp_gt, cmp_lt, cmp_le, int_ok, abs_ok, add_ok, sub_ok, setAll, augO, isNo, bndM, slcO, itemsO]
  have hin : ∀ d ∈ Dn.cutD (rangeD (low b) (p - low b).toNat) none (some 6), d ∈ rangeD (low b) (p - low b).toNat := fun d hd => List.mem_of_mem_drop (List.mem_of_mem_take hd)
  have hlen : (Dn.cutD (rangeD (low b) (p - low b).toNat) none (some 6)).length ≤ (p - low b).toNat := by
    unfold Dn.cutD
    rw [List.length_take, List.length_drop, rangeD_len]
    omega
  have e := lc_fil (tg := .nm 5) (test := (den T_law (.cons (.call "_law_is_prime" (.cons (.var 5) .nil)) .nil)).at_) (elt := (den T_law (.var 5)).v) (η := wipeE [s0, s1, s2, .val (.int p), .val (.lst (rangeD (low b) (p - low b).toNat)), s5, s6, s7, s8, s9, s10, s11, s12, s13, s14, s15, s16, s17, s18, s19, s20, s21] [5]) (μ := μ) (g := fun _ => false) (f := fun d => d) (Dn.cutD (rangeD (low b) (p - low b).toNat) none (some 6)) [] (fun d hd => by
    obtain ⟨i, rfl, i0, i1⟩ := rangeD_mem (hin d hd)
    refine ⟨[s0, s1, s2, .val (.int p), .val (.lst (rangeD (low b) (p - low b).toNat)), .val (.int i), s6, s7, s8, s9, s10, s11, s12, s13, s14, s15, s16, s17, s18, s19, s20, s21], rfl, ?_, fun h => by cases h⟩
    exact p_call1t fn_law__l_is_prime (p_var rfl) (l_is_prime_f (by omega) (by omega) (hb i (by omega) (by omega) (by omega)))) (by rw [sizeLine_eq]; simp only [List.length_nil]; omega)
  rw [List.filter_eq_nil_iff.mpr (fun _ _ h => by cases h)] at e
  have k1 : (den T_law (.lst .nil)).v [s0, s1, s2, .val (.int p), .val (.lst (rangeD (low b) (p - low b).toNat)), s5, s6, s7, s8, s9, s10, s11, s12, s13, s14, s15, s16, s17, s18, s19, s20, s21] μ = .ok (.lst []) μ := by kernel_rfl
  exact s_ite0 (p_or2 (p_cmp (p_lc hs e) k1 (by kernel_rfl)) (p_nt (p_call1t fn_law__l_errors_right (p_var rfl) (errors_right_ok h2 (by omega) hp))))
/-! the loop of primes -/
def Chain : Nat → List Nat → Prop
  | _, [] => True
  | B, B' :: Bs => Tr B' ∧ B + 49 < B' ∧ B' ≤ 2000209 ∧ Chain B' Bs
theorem z7 : ∀ (ds : List D) (Bs : List Nat) (B : Nat) (ps : List Nat) (s7 : Slot) (c : Int) (μ : Wd), Chain B Bs → ds.length ≤ Bs.length → B ≤ 2000209 → Grow ps B → ps.length + Bs.length < 50 → PW cells μ c → c + Bs.length < 999999000 →
    ∃ s7' ps' B' μ' c', forN (.nm 7) (denS T_law t_law_7b).s ds [s0, .val (.ref 0), s2, s3, s4, s5, .own (pl ps), s7, s8, s9, s10, s11, s12, s13, s14, s15, s16, s17, s18, s19, s20, s21] μ = .nx [s0, .val (.ref 0), s2, s3, s4, s5, .own (pl ps'), s7', s8, s9, s10, s11, s12, s13, s14, s15, s16, s17, s18, s19, s20, s21] μ' ∧ Grow ps' B' ∧ B' ≤ 2000209 ∧ ps'.length ≤ ps.length + Bs.length ∧ PW cells μ' c' ∧ c' ≤ c + Bs.length
  | [], Bs, B, ps, s7, c, μ, _, _, hB, hg, _, hw, hc => ⟨s7, ps, B, μ, c, rfl, hg, hB, by omega, hw, by omega⟩
  | _ :: _, [], _, _, _, _, _, _, hl, _, _, _, _, _ => by simp at hl
  | d :: ds, B' :: Bs, B, ps, s7, c, μ, ch, hl, hB, hg, hp, hw, hc => by
    obtain ⟨t, b1, b2, ch'⟩ := ch
    rw [List.length_cons] at hp hc hl
    obtain ⟨r, μ1, e1, r0, r1, w1⟩ := hw.draw (many := 50) (by omega) (by decide) (by decide)
    obtain ⟨y, ey, z, ez, hg'⟩ := hg.next t b1 (by omega) (by omega) r r0 r1 μ1
    obtain ⟨s7', ps', B2, μ', c', e, g⟩ := z7 ds Bs B' (ps ++ [z]) (.val d) (c + 1) μ1 ch' (by simp only [List.length_cons] at hl; omega) b2 hg' (by rw [List.length_append, List.length_singleton]; omega) w1 (by omega)
    refine ⟨s7', ps', B2, μ', c', ?_, g.1, g.2.1, ?_, g.2.2.2.1, ?_⟩
    · rw [forN_nx (η' := [s0, .val (.ref 0), s2, s3, s4, s5, .own (pl ps), .val d, s8, s9, s10, s11, s12, s13, s14, s15, s16, s17, s18, s19, s20, s21]) (η'' := [s0, .val (.ref 0), s2, s3, s4, s5, .own (pl (ps ++ [z])), .val d, s8, s9, s10, s11, s12, s13, s14, s15, s16, s17, s18, s19, s20, s21]) (w := μ1) rfl ?_]
      · exact e
      · have hlt : (pl ps).length < sizeLine := by rw [pl_len, sizeLine_eq]; omega
        rw [pl_app]
        generalize pl ps = l at *
        have hn : 0 ≤ (1 : Int) := by decide
        have ev : (den T_law (.call "next_great" (.cons (.bin .Add (.owx 6 (.neg (.cst (.int 1)))) (.call "_law_draw" (.cons (.var 1) (.cons (.cst (.int 50)) .nil)))) .nil))).v [s0, .val (.ref 0), s2, s3, s4, s5, .own l, .val d, s8, s9, s10, s11, s12, s13, s14, s15, s16, s17, s18, s19, s20, s21] μ = .ok (.int z) μ1 := by
          refine p_call1 fn_law__next_great (p_bin (x := .int y) (μ1 := μ) ?_ (p_call2 fn_law__l_draw (p_var rfl) (p_int 50) e1) (add_ok _ _)) ez
          simp [denS, den, SM.seq, SM.of, SM.skip, Dd.ofV, Dd.ofT, Dd.ofL, Dd.ofI, Dn.M.bind, Dn.M.pure, Dn.M.opt, bind2, ixM, ixO, cstD, keyO, andT, orT, Dn.andM, Dn.orM, blM, isNil, truO, cmp_eq, cmp_ne, cmp_ge, cmp_gt, cmp_lt, cmp_le, int_ok, abs_ok, add_ok, sub_ok, setAll, augO, ey]
        show SM.seq (denS T_law t_law_7b_0).s SM.skip _ _ = _
        simp [SM.seq, SM.skip, denS, t_law_7b_0, SM.of, ev, hlt]
    · have := g.2.2.1
      rw [List.length_append, List.length_singleton] at this
      rw [List.length_cons]; omega
    · have := g.2.2.2.2
      rw [List.length_cons]; omega
theorem chain0 : Chain 2000003 [2000081, 2000143, 2000209] := ⟨tr2, by decide, by decide, tr3, by decide, by decide, tr4, by decide, by decide, trivial⟩
theorem z6 {p : Int} : (denS T_law t_law_6).s [s0, s1, s2, .val (.int p), s4, s5, s6, s7, s8, s9, s10, s11, s12, s13, s14, s15, s16, s17, s18, s19, s20, s21] μ = .nx [s0, s1, s2, .val (.int p), s4, s5, .own [.int p], s7, s8, s9, s10, s11, s12, s13, s14, s15, s16, s17, s18, s19, s20, s21] μ := by
  refine s_setL ?_
  simp [denS, den, SM.seq, SM.of, SM.skip, Dd.ofV, Dd.ofT, Dd.ofL, Dd.ofI, Dn.M.bind, Dn.M.pure, Dn.M.opt, bind2, ixM, ixO, cstD, keyO, andT, orT, Dn.andM, Dn.orM, blM, isNil, truO, cmp_eq, cmp_ne, cmp_ge, cmp_gt, cmp_lt, cmp_le, int_ok, abs_ok, add_ok, sub_ok, setAll, augO, sizeLine_eq]
/-- the primes of the law -/
theorem z67 {p : Int} (h2 : 1000003 ≤ p) (h3 : p ≤ 2000003) (hp : TrZ p) (h : PW cells μ c) (hc : c < 999998000) : ∃ s7' ps μ' c', (denS T_law t_law_7).s [s0, .val (.ref 0), s2, s3, s4, s5, .own [.int p], s7, s8, s9, s10, s11, s12, s13, s14, s15, s16, s17, s18, s19, s20, s21] μ = .nx [s0, .val (.ref 0), s2, s3, s4, s5, .own (pl ps), s7', s8, s9, s10, s11, s12, s13, s14, s15, s16, s17, s18, s19, s20, s21] μ' ∧ Great ps ∧ (∀ q ∈ ps, q ≤ 2000209) ∧ ps.length ≤ 4 ∧ PW cells μ' c' ∧ c' ≤ c + 4 := by
  obtain ⟨r, μ1, e1, r0, r1, w1⟩ := h.draw (many := 4) (by omega) (by decide) (by decide)
  obtain ⟨n, rfl⟩ := Int.eq_ofNat_of_zero_le (show 0 ≤ p by omega)
  have hg : Grow [n] 2000003 := ⟨great1 (by omega) (by omega) hp.nat, [], n, rfl, (fun q hq => by cases hq), by omega⟩
  obtain ⟨s7', ps, B, μ', c', e, g1, g2, g3, g4, g5⟩ := z7 (s0 := s0) (s2 := s2) (s3 := s3) (s4 := s4) (s5 := s5) (s8 := s8) (s9 := s9) (s10 := s10) (s11 := s11) (s12 := s12) (s13 := s13) (s14 := s14) (s15 := s15) (s16 := s16) (s17 := s17) (s18 := s18) (s19 := s19) (s20 := s20) (s21 := s21) (rangeD 0 r.toNat) [2000081, 2000143, 2000209] 2000003 [n] s7 (c + 1) μ1 chain0 (by rw [rangeD_len]; show _ ≤ 3; omega) (by decide) hg (show 1 + 3 < 50 by decide) w1 (by show c + 1 + 3 < _; omega)
  refine ⟨s7', ps, μ', c', for_of (μ' := μ1) ?_ e, g1.g, fun q hq => ?_, g3, g4, by change c' ≤ c + 1 + 3 at g5; omega⟩
  · have hr : rangeM (.int 0) (.int r) = Dn.M.pure (rangeD 0 r.toNat) := by
      have : rangeM (.int 0) (.int r) = Dn.M.pure (rangeD 0 (r - 0).toNat) := if_pos ⟨by decide, by decide, by omega, by omega⟩
      rw [this, Int.sub_zero]
    simp [t_law_7t, denS, den, SM.seq, SM.of, SM.skip, Dd.ofV, Dd.ofT, Dd.ofL, Dd.ofI, Dn.M.bind, Dn.M.pure, Dn.M.opt, bind2, ixM, ixO, cstD, keyO, andT, orT, Dn.andM, Dn.orM, blM, isNil, truO, cmp_eq, cmp_ne, cmp_ge, cmp_gt, cmp_lt, cmp_le, int_ok, abs_ok, add_ok, sub_ok, setAll, augO, fn_law__l_draw, e1, hr]
  · obtain ⟨qs, x, rfl, hq1, hq2⟩ := g1.l
    rcases List.mem_append.mp hq with hq | hq
    · have := hq1 q hq; omega
    · simp only [List.mem_singleton] at hq; omega
theorem prd_le : ∀ {ps : List Nat} (k : Nat), (∀ q ∈ ps, q ≤ 2000209) → ps.length ≤ k → prd ps ≤ 2000209 ^ k
  | [], k, _, _ => Nat.one_le_pow _ _ (by decide)
  | p :: ps, 0, _, h => by simp at h
  | p :: ps, k + 1, hq, h => by
    rw [prd, Nat.pow_succ, Nat.mul_comm]
    exact Nat.mul_le_mul (prd_le k (fun q hm => hq q (List.mem_cons_of_mem _ hm)) (by simpa using h)) (hq p List.mem_cons_self)
theorem prd_bd {ps : List Nat} (hq : ∀ q ∈ ps, q ≤ 2000209) (hl : ps.length ≤ 4) : prd ps < 2 ^ 100 := Nat.lt_of_le_of_lt (prd_le 4 hq hl) (by decide)
theorem prd_gt {ps : List Nat} (h : Great ps) : 1000003 ≤ prd ps := by
  obtain ⟨ne, g, _, _⟩ := h
  cases ps with
  | nil => exact (ne rfl).elim
  | cons p ps =>
    have h1 := (g p List.mem_cons_self).1
    have h2 : 0 < prd ps := prd_pos fun q hq => by have := (g q (List.mem_cons_of_mem _ hq)).1; omega
    have := Nat.mul_le_mul h1 h2
    rw [prd]; omega
theorem z10 : ∀ (ps : List Nat) (a : Nat) (s9 : Slot) (μ : Wd), (∀ q ∈ ps, 0 < q ∧ q < 2 ^ 60) → a * prd ps < 2 ^ 150 → ∃ s9', forN (.nm 9) (denS T_law t_law_10b).s (pl ps) [s0, s1, s2, s3, s4, s5, s6, s7, .val (.int (a : Int)), s9, s10, s11, s12, s13, s14, s15, s16, s17, s18, s19, s20, s21] μ = .nx [s0, s1, s2, s3, s4, s5, s6, s7, .val (.int ((a * prd ps : Nat) : Int)), s9', s10, s11, s12, s13, s14, s15, s16, s17, s18, s19, s20, s21] μ
  | [], a, s9, μ, _, _ => ⟨s9, by rw [prd, Nat.mul_one]; rfl⟩
  | p :: ps, a, s9, μ, hp, hb => by
    rw [prd, ← Nat.mul_assoc] at hb
    obtain ⟨p0, p1⟩ := hp p List.mem_cons_self
    have hp' : ∀ q ∈ ps, 0 < q ∧ q < 2 ^ 60 := fun q hq => hp q (List.mem_cons_of_mem _ hq)
    have pz : 0 < prd ps := prd_pos fun q hq => (hp' q hq).1
    have h1 := Nat.mul_le_mul_left (a * p) pz
    have h2 := Nat.mul_le_mul_left a p0
    obtain ⟨s9', e⟩ := z10 ps (a * p) (.val (.int p)) μ hp' hb
    refine ⟨s9', ?_⟩
    rw [prd, ← Nat.mul_assoc, ← e]
    refine forN_nx (η' := [s0, s1, s2, s3, s4, s5, s6, s7, .val (.int (a : Int)), .val (.int p), s10, s11, s12, s13, s14, s15, s16, s17, s18, s19, s20, s21]) rfl ?_
    have m := mul_big (i := (a : Int)) (j := (p : Int)) (by omega) (by omega)
    rw [Int.natCast_mul]
    exact (seq_nx (s_set (p_bin (p_var rfl) (p_var rfl) m))).trans rfl
end
end K22

/-! k22: a turn of the law's loop. -/
namespace K22
open PySem PySem.Spec PyProof.Rows L2 Dn K22n
theorem seq_ct {T : Tb} {a b : Sm} {η η' : Env'} {μ μ' : Wd} (h : (denS T a).s η μ = .ct η' μ') : (denS T (.cons a b)).s η μ = .ct η' μ' := by
  show (SM.seq (denS T a).s (denS T b).s) η μ = _
  unfold SM.seq
  rw [h]
theorem lc_pl0 {tg : Tg} {test : Env' → M Bool} {elt : Env' → M D} {η : Env'} {μ : Wd} {g : Nat → Bool} {f : Nat → Int} : ∀ (ps : List Nat) (acc : List D), (∀ p ∈ ps, ∃ η', tgSet tg (.int (p : Int)) η = some η' ∧ test η' μ = .ok (g p) μ ∧ (g p = true → elt η' μ = .ok (.int (f p)) μ)) → acc.length + ps.length ≤ sizeLine →
    lcLoop tg test elt η (pl ps) acc μ = .ok (acc ++ ((ps.filter g).map f).map D.int) μ
  | [], acc, _, _ => by simp [lcLoop, M.pure, pl]
  | p :: ps, acc, h, hl => by
    obtain ⟨η', h1, h2, h3⟩ := h p List.mem_cons_self
    have ht : ∀ p ∈ ps, ∃ η', tgSet tg (.int (p : Int)) η = some η' ∧ test η' μ = .ok (g p) μ ∧ (g p = true → elt η' μ = .ok (.int (f p)) μ) := fun d hd => h d (List.mem_cons_of_mem _ hd)
    rw [List.length_cons] at hl
    have lt : acc.length < sizeLine := by omega
    show lcLoop tg test elt η (.int (p : Int) :: pl ps) acc μ = _
    cases hg : g p with
    | true =>
      rw [hg] at h2
      simp only [lcLoop, h1, M.bind, h2, if_true, h3 hg, lt, List.filter_cons, hg]
      rw [lc_pl0 ps (acc ++ [D.int (f p)]) ht (by rw [List.length_append, List.length_singleton]; omega)]
      simp
    | false =>
      rw [hg] at h2
      simp only [lcLoop, h1, M.bind, h2, Bool.false_eq_true, if_false, List.filter_cons, hg]
      exact lc_pl0 ps acc ht (by omega)
theorem lc_pl {tg : Tg} {test : Env' → M Bool} {elt : Env' → M D} {η : Env'} {μ : Wd} {g : Nat → Bool} {f : Nat → Int} (ps : List Nat) (h : ∀ p ∈ ps, ∃ η', tgSet tg (.int (p : Int)) η = some η' ∧ test η' μ = .ok (g p) μ ∧ (g p = true → elt η' μ = .ok (.int (f p)) μ)) (hl : ps.length ≤ 100) :
    lcLoop tg test elt η (pl ps) [] μ = .ok (((ps.filter g).map f).map D.int) μ := by
  have := lc_pl0 (g := g) (f := f) ps [] h (by rw [sizeLine_eq]; simp only [List.length_nil]; omega)
  rwa [List.nil_append] at this
theorem lc_plt {tg : Tg} {test : Env' → M Bool} {elt : Env' → M D} {η : Env'} {μ : Wd} {f : Nat → Int} (ps : List Nat) (h : ∀ p ∈ ps, ∃ η', tgSet tg (.int (p : Int)) η = some η' ∧ test η' μ = .ok true μ ∧ elt η' μ = .ok (.int (f p)) μ) (hl : ps.length ≤ 100) :
    lcLoop tg test elt η (pl ps) [] μ = .ok ((ps.map f).map D.int) μ := by
  have := lc_pl (g := fun _ => true) (f := f) ps (fun p hp => by obtain ⟨η', a, b, c⟩ := h p hp; exact ⟨η', a, b, fun _ => c⟩) hl
  rwa [List.filter_eq_self.mpr (fun _ _ => rfl)] at this
section
variable {s0 s1 s2 s3 s4 s5 s6 s7 s8 s9 s10 s11 s12 s13 s14 s15 s16 s17 s18 s19 s20 s21 : Slot} {μ : Wd} {cells : List Int} {c : Int} {ps : List Nat}
theorem y0 (h : PW cells μ c) (hc : c < 999999000) : ∃ sz μ', (denS T_law t_law_11b_0).s [s0, .val (.ref 0), s2, s3, s4, s5, .val (.lst (pl ps)), s7, .val (.int ((prd ps : Nat) : Int)), s9, s10, s11, s12, s13, s14, s15, s16, s17, s18, s19, s20, s21] μ = .nx [s0, .val (.ref 0), s2, s3, s4, s5, .val (.lst (pl ps)), s7, .val (.int ((prd ps : Nat) : Int)), s9, s10, .val (.int sz), s12, s13, s14, s15, s16, s17, s18, s19, s20, s21] μ' ∧ 5 ≤ sz ∧ sz ≤ 1000000000 ∧ PW cells μ' (c + 1) := by
  obtain ⟨d, μ1, e, hd, w⟩ := h.pick (l := [.int 5, .int 600, .int 100000, .int 1000000000]) (by omega) (show 1 ≤ 4 by decide) (show 4 < 100 by decide)
  have hl : (den T_law (.lst (.cons (.cst (.int 5)) (.cons (.cst (.int 600)) (.cons (.bin .Pow (.cst (.int 10)) (.cst (.int 5))) (.cons (.bin .Pow (.cst (.int 10)) (.cst (.int 9))) .nil)))))).v [s0, .val (.ref 0), s2, s3, s4, s5, .val (.lst (pl ps)), s7, .val (.int ((prd ps : Nat) : Int)), s9, s10, s11, s12, s13, s14, s15, s16, s17, s18, s19, s20, s21] μ = .ok (.lst [.int 5, .int 600, .int 100000, .int 1000000000]) μ := by kernel_rfl
  obtain ⟨b, rfl, b0, b1⟩ : ∃ b, d = .int b ∧ 5 ≤ b ∧ b ≤ 1000000000 := by
    simp only [List.mem_cons, List.not_mem_nil, or_false] at hd
    rcases hd with rfl | rfl | rfl | rfl <;> exact ⟨_, rfl, by decide, by decide⟩
  exact ⟨b, μ1, s_set (p_call2 fn_law__l_pick (p_var rfl) hl e), b0, b1, w⟩
theorem y1 {sz : Int} (h5 : 5 ≤ sz) (h9 : sz ≤ 1000000000) (h : PW cells μ c) (hc : c < 999999000) : ∃ (t : Int) (b : Nat) (μ' : Wd), (denS T_law t_law_11b_1).s [s0, .val (.ref 0), s2, s3, s4, s5, .val (.lst (pl ps)), s7, .val (.int ((prd ps : Nat) : Int)), s9, s10, .val (.int sz), s12, s13, s14, s15, s16, s17, s18, s19, s20, s21] μ = .nx [s0, .val (.ref 0), s2, s3, s4, s5, .val (.lst (pl ps)), s7, .val (.int ((prd ps : Nat) : Int)), s9, s10, .val (.int sz), .val (.tup [.int t, .int b]), s13, s14, s15, s16, s17, s18, s19, s20, s21] μ' ∧ 0 < b ∧ Nat.gcd t.natAbs b = 1 ∧ t.natAbs ≤ 1000000000 ∧ b ≤ 1000000000 ∧ PW cells μ' (c + 2) := by
  obtain ⟨r1, μ1, e1, r10, r11, w1⟩ := h.draw (many := 2 * sz) (by omega) (by omega) (by omega)
  obtain ⟨r2, μ2, e2, r20, r21, w2⟩ := w1.draw (many := sz) (by omega) (by omega) (by omega)
  rw [show c + 1 + 1 = c + 2 by omega] at w2
  obtain ⟨t, b, e, b0, hg, ht, hb⟩ := lowest_ok (t := r1 - sz) (b := 1 + r2) (by omega) (by omega) μ2
  refine ⟨t, b, μ2, s_set (p_call2 fn_law__l_lowest (p_bin (p_call2 fn_law__l_draw (p_var rfl) (p_bin (p_int 2) (p_var rfl) (mul_big (i := 2) (j := sz) (by decide) (by omega))) e1) (p_var rfl) (sub_ok _ _)) (p_bin (p_int 1) (p_call2 fn_law__l_draw (p_var rfl) (p_var rfl) e2) (add_ok _ _)) e), b0, hg, by omega, by omega, w2⟩
/-- whether a prime is left in -/
def inn (b : Nat) (p : Nat) : Bool := decide (b % p ≠ 0)
theorem y23 {t : Int} {b : Nat} (hg : Great ps) (hl : ps.length ≤ 4) (ht : t.natAbs ≤ 1000000000) (hb : b ≤ 1000000000) : ∃ R : List Int, R = (ps.filter (inn b)).map (fun p => rs p t b) ∧
    (denS T_law (.cons t_law_11b_2 (.cons t_law_11b_3 (.cons t_law_11b_4 (.cons t_law_11b_5 (.cons t_law_11b_6 (.cons t_law_11b_7 (.cons t_law_11b_8 (.cons t_law_11b_9 (.cons t_law_11b_10 (.cons t_law_11b_11 .nil))))))))))).s [s0, .val (.ref 0), s2, s3, s4, s5, .val (.lst (pl ps)), s7, .val (.int ((prd ps : Nat) : Int)), s9, s10, s11, .val (.tup [.int t, .int b]), s13, s14, s15, s16, s17, s18, s19, s20, s21] μ =
      (denS T_law (.cons t_law_11b_4 (.cons t_law_11b_5 (.cons t_law_11b_6 (.cons t_law_11b_7 (.cons t_law_11b_8 (.cons t_law_11b_9 (.cons t_law_11b_10 (.cons t_law_11b_11 .nil))))))))).s [s0, .val (.ref 0), s2, s3, s4, s5, .val (.lst (pl ps)), s7, .val (.int ((prd ps : Nat) : Int)), s9, s10, s11, .val (.tup [.int t, .int b]), .val (.lst (R.map .int)), s14, s15, s16, s17, s18, s19, s20, s21] μ := by
  refine ⟨_, rfl, ?_⟩
  refine (seq_nx (η' := [s0, .val (.ref 0), s2, s3, s4, s5, .val (.lst (pl ps)), s7, .val (.int ((prd ps : Nat) : Int)), s9, s10, s11, .val (.tup [.int t, .int b]), .own (((ps.filter (inn b)).map (fun p => rs p t b)).map .int), s14, s15, s16, s17, s18, s19, s20, s21]) (μ' := μ) (s_setL (p_lcl (p_vari rfl rfl) (lc_pl ps (fun p hp => ?_) (by omega))))).trans ((seq_nx (η' := [s0, .val (.ref 0), s2, s3, s4, s5, .val (.lst (pl ps)), s7, .val (.int ((prd ps : Nat) : Int)), s9, s10, s11, .val (.tup [.int t, .int b]), .val (.lst (((ps.filter (inn b)).map (fun p => rs p t b)).map .int)), s14, s15, s16, s17, s18, s19, s20, s21]) (μ' := μ) rfl).trans rfl)
  obtain ⟨p1, p2, tp⟩ := hg.g p hp
  have em : binO .Mod (.int (b : Int)) (.int (p : Int)) = some (.int ((b % p : Nat) : Int)) := by rw [mod_pos (by omega)]; rfl
  refine ⟨[s0, .val (.ref 0), s2, s3, s4, s5, .val (.lst (pl ps)), s7, .val (.int ((prd ps : Nat) : Int)), .val (.int p), s10, s11, .val (.tup [.int t, .int b]), s13, s14, s15, s16, s17, s18, s19, s20, s21], rfl, ?_, fun _ => ?_⟩
  · refine p_cmp (p_bin (p_ix (p_var rfl) rfl (fun _ h => by cases h) (p_int 1) rfl) (p_var rfl) em) (p_int 0) ?_
    rw [cmp_ne]
    unfold inn
    by_cases h : b % p = 0
    · rw [h]; rfl
    · rw [decide_eq_true h]
      have : ((b % p : Nat) : Int) ≠ 0 := by omega
      simp only [beq_eq_false_iff_ne.mpr this, Bool.not_false]
  · have ew : d_l_power_by [.int (b : Int), .int ((p : Int) - 2), .int (p : Int)] μ = .ok (.int (((b % p) ^ (p - 2) % p : Nat) : Int)) μ := by
      rw [show (p : Int) - 2 = ((p - 2 : Nat) : Int) by omega]
      exact power_by_ok (by omega) (by omega) b (p - 2) μ
    exact p_bin (p_blt1 (p_bin (p_ix (p_var rfl) rfl (fun _ h => by cases h) (p_int 0) rfl) (p_call3 fn_law__l_power_by (p_ix (p_var rfl) rfl (fun _ h => by cases h) (p_int 1) rfl) (p_bin (p_var rfl) (p_int 2) (sub_ok _ _)) (p_var rfl) ew) (mul_big (by omega) (pw_lt (show 0 < p by omega) (by omega)))) (int_ok _)) (p_var rfl) (mod_pos (by omega))
theorem y5 {t : Int} {b : Nat} (hg : Great ps) (hl : ps.length ≤ 4) (ht : t.natAbs ≤ 1000000000) (b0 : 0 < b) (hgcd : Nat.gcd t.natAbs b = 1) (hd : ∀ p ∈ ps, b % p ≠ 0) : (denS T_law t_law_11b_5).s [s0, .val (.ref 0), s2, s3, s4, s5, .val (.lst (pl ps)), s7, .val (.int ((prd ps : Nat) : Int)), s9, s10, s11, .val (.tup [.int t, .int b]), .val (.lst ((ps.map fun p => rs p t b).map .int)), s14, s15, s16, s17, s18, s19, s20, s21] μ = .nx [s0, .val (.ref 0), s2, s3, s4, s5, .val (.lst (pl ps)), s7, .val (.int ((prd ps : Nat) : Int)), s9, s10, s11, .val (.tup [.int t, .int b]), .val (.lst ((ps.map fun p => rs p t b).map .int)), s14, s15, s16, s17, s18, s19, s20, s21] μ := by
  refine s_ite0 (p_cmp (p_lc (p_vari rfl rfl) (lc_plt (f := fun p => rs p t b) ps (fun p hp => ?_) (by omega))) (p_var rfl) (ne_ints _))
  obtain ⟨p1, p2, tp⟩ := hg.g p hp
  exact ⟨[s0, .val (.ref 0), s2, s3, s4, s5, .val (.lst (pl ps)), s7, .val (.int ((prd ps : Nat) : Int)), .val (.int p), s10, s11, .val (.tup [.int t, .int b]), .val (.lst ((ps.map fun p => rs p t b).map .int)), s14, s15, s16, s17, s18, s19, s20, s21], rfl, rfl, p_call2 fn_law__rest_by (p_var rfl) (p_var rfl) (rest_by_ok p1 p2 (Tr.int tp) b0 hgcd (hd p hp) (by omega) μ)⟩
theorem y6 {t : Int} {b : Nat} (hg : Great ps) (hb : prd ps < 2 ^ 100) (h : PW cells μ c) (hc : c < 999999000) : ∃ f μ', (denS T_law t_law_11b_6).s [s0, .val (.ref 0), s2, s3, s4, s5, .val (.lst (pl ps)), s7, .val (.int ((prd ps : Nat) : Int)), s9, s10, s11, .val (.tup [.int t, .int b]), .val (.lst ((ps.map fun p => rs p t b).map .int)), s14, s15, s16, s17, s18, s19, s20, s21] μ = .nx [s0, .val (.ref 0), s2, s3, s4, s5, .val (.lst (pl ps)), s7, .val (.int ((prd ps : Nat) : Int)), s9, s10, s11, .val (.tup [.int t, .int b]), .val (.lst ((ps.map fun p => rs p t b).map .int)), .val (.int f), s15, s16, s17, s18, s19, s20, s21] μ' ∧
    0 ≤ f ∧ f < (prd ps : Nat) ∧ ps.map (fun (p : Nat) => f % (p : Int)) = (ps.map fun p => rs p t b) ∧ PW cells μ' (c + 1) := by
  obtain ⟨d, μ1, e, hd, w⟩ := h.pick (l := [.lst (pl ps), .tup (pl ps)]) (by omega) (show 1 ≤ 2 by decide) (show 2 < 100 by decide)
  obtain ⟨k, rfl⟩ : ∃ k, d = sq k (pl ps) := by
    simp only [List.mem_cons, List.not_mem_nil, or_false] at hd
    rcases hd with rfl | rfl
    · exact ⟨false, rfl⟩
    · exact ⟨true, rfl⟩
  obtain ⟨f, e2, g1, g2, g3⟩ := put_together_ok hg k (rs := ps.map fun p => rs p t b) (by simp) (fun x hx => by
    rw [List.zip_map_right] at hx
    obtain ⟨y, hy, rfl⟩ := List.mem_map.mp hx
    have hy' := (List.of_mem_zip hy).1
    have he : y.1 = y.2 := by
      rw [List.zip_eq_zipWith, List.zipWith_self] at hy
      obtain ⟨z, _, rfl⟩ := List.mem_map.mp hy
      rfl
    have hp := (hg.g y.1 hy').1
    have := rs_rng (p := y.2) (by omega) t b
    simp only [Prod.map]
    constructor
    · exact this.1
    · have := this.2
      simp only [id]
      omega) (by omega) μ1
  have hl : (den T_law (.lst (.cons (.var 6) (.cons (.blt .tuple (.cons (.var 6) .nil)) .nil)))).v [s0, .val (.ref 0), s2, s3, s4, s5, .val (.lst (pl ps)), s7, .val (.int ((prd ps : Nat) : Int)), s9, s10, s11, .val (.tup [.int t, .int b]), .val (.lst ((ps.map fun p => rs p t b).map .int)), s14, s15, s16, s17, s18, s19, s20, s21] μ = .ok (.lst [.lst (pl ps), .tup (pl ps)]) μ := by
    have : bltO .tuple [.lst (pl ps)] = some (.tup (pl ps)) := rfl
    simp [denS, den, SM.seq, SM.of, SM.skip, Dd.ofV, Dd.ofT, Dd.ofL, Dd.ofI, Dn.M.bind, Dn.M.pure, Dn.M.opt, bind2, ixM, ixO, cstD, keyO, andT, orT, Dn.andM, Dn.orM, blM, isNil, truO, cmp_eq, cmp_ne, cmp_ge, cmp_gt, cmp_lt, cmp_le, int_ok, abs_ok, add_ok, sub_ok, setAll, augO, this, sizeLine_eq]
  exact ⟨f, μ1, s_set (p_call2 fn_law__put_together (p_call2 fn_law__l_pick (p_var rfl) hl e) (p_var rfl) e2), g1, g2, g3, w⟩
theorem y7 {t f : Int} {b : Nat} (hg : Great ps) (hl : ps.length ≤ 4) (f0 : 0 ≤ f) (f1 : f < (prd ps : Nat)) (hf : ps.map (fun (p : Nat) => f % (p : Int)) = (ps.map fun p => rs p t b)) :
    (denS T_law t_law_11b_7).s [s0, .val (.ref 0), s2, s3, s4, s5, .val (.lst (pl ps)), s7, .val (.int ((prd ps : Nat) : Int)), s9, s10, s11, s12, .val (.lst ((ps.map fun p => rs p t b).map .int)), .val (.int f), s15, s16, s17, s18, s19, s20, s21] μ = .nx [s0, .val (.ref 0), s2, s3, s4, s5, .val (.lst (pl ps)), s7, .val (.int ((prd ps : Nat) : Int)), s9, s10, s11, s12, .val (.lst ((ps.map fun p => rs p t b).map .int)), .val (.int f), s15, s16, s17, s18, s19, s20, s21] μ := by
  have e1 : (den T_law (.chn .LtE .Lt (.cst (.int 0)) (.var 14) (.var 8))).t [s0, .val (.ref 0), s2, s3, s4, s5, .val (.lst (pl ps)), s7, .val (.int ((prd ps : Nat) : Int)), s9, s10, s11, s12, .val (.lst ((ps.map fun p => rs p t b).map .int)), .val (.int f), s15, s16, s17, s18, s19, s20, s21] μ = .ok true μ := by
    simp [denS, den, SM.seq, SM.of, SM.skip, Dd.ofV, Dd.ofT, Dd.ofL, Dd.ofI, Dn.M.bind, Dn.M.pure, Dn.M.opt, bind2, ixM, ixO, cstD, keyO, andT, orT, Dn.andM, Dn.orM, blM, isNil, truO, cmp_eq, cmp_ne, cmp_ge, cmp_gt, cmp_lt, cmp_le, int_ok, abs_ok, add_ok, sub_ok, setAll, augO, f0, f1]
  have e2 : lcLoop (.nm 9) (den T_law .nil).at_ (den T_law (.bin .Mod (.blt .int (.cons (.var 14) .nil)) (.var 9))).v (wipeE [s0, .val (.ref 0), s2, s3, s4, s5, .val (.lst (pl ps)), s7, .val (.int ((prd ps : Nat) : Int)), s9, s10, s11, s12, .val (.lst ((ps.map fun p => rs p t b).map .int)), .val (.int f), s15, s16, s17, s18, s19, s20, s21] [9]) (pl ps) [] μ = .ok ((ps.map fun (p : Nat) => f % (p : Int)).map .int) μ :=
    lc_plt ps (fun p hp => by
      have := (hg.g p hp).1
      exact ⟨[s0, .val (.ref 0), s2, s3, s4, s5, .val (.lst (pl ps)), s7, .val (.int ((prd ps : Nat) : Int)), .val (.int p), s10, s11, s12, .val (.lst ((ps.map fun p => rs p t b).map .int)), .val (.int f), s15, s16, s17, s18, s19, s20, s21], rfl, rfl, p_bin (p_blt1 (p_var rfl) (int_ok _)) (p_var rfl) (mod_pos (by omega))⟩) (by omega)
  rw [hf] at e2
  exact s_ite0 (p_or2 (p_nt e1) (p_cmp (p_lc (p_vari rfl rfl) e2) (p_var rfl) (ne_ints _)))
theorem y8 {t : Int} {b : Nat} (hb : prd ps < 2 ^ 100) (ht : t.natAbs ≤ 1000000000) (hb2 : b ≤ 1000000000) : ∃ k : Bool, (denS T_law t_law_11b_8).s [s0, .val (.ref 0), s2, s3, s4, s5, .val (.lst (pl ps)), s7, .val (.int ((prd ps : Nat) : Int)), s9, s10, s11, .val (.tup [.int t, .int b]), s13, s14, s15, s16, s17, s18, s19, s20, s21] μ = .nx [s0, .val (.ref 0), s2, s3, s4, s5, .val (.lst (pl ps)), s7, .val (.int ((prd ps : Nat) : Int)), s9, s10, s11, .val (.tup [.int t, .int b]), s13, s14, .val (.bl k), s16, s17, s18, s19, s20, s21] μ ∧ (k = true ↔ 2 * t * t < ((prd ps : Nat) : Int) ∧ 2 * (b : Int) * b < ((prd ps : Nat) : Int)) := by
  have e0 : L2.atI [D.int t, D.int (b : Int)] 0 = some (.int t) := rfl
  have e1 : L2.atI [D.int t, D.int (b : Int)] 1 = some (.int b) := rfl
  have m1 := mul_big (i := 2) (j := t) (by decide) (by omega)
  have m2 := mul_big (i := 2 * t) (j := t) (by omega) (by omega)
  have m3 := mul_big (i := 2) (j := (b : Int)) (by decide) (by omega)
  have m4 := mul_big (i := 2 * (b : Int)) (j := (b : Int)) (by omega) (by omega)
  generalize ((prd ps : Nat) : Int) = M at *
  by_cases h1 : 2 * t * t < M
  · refine ⟨decide (2 * (b : Int) * b < M), ?_, ?_⟩
    · simp [t_law_11b_8, denS, den, SM.seq, SM.of, SM.skip, Dd.ofV, Dd.ofT, Dd.ofL, Dd.ofI, Dn.M.bind, Dn.M.pure, Dn.M.opt, bind2, ixM, ixO, cstD, keyO, andT, orT, Dn.andM, Dn.orM, blM, isNil, truO, cmp_eq, cmp_ne, cmp_ge, cmp_gt, cmp_lt, cmp_le, int_ok, abs_ok, add_ok, sub_ok, setAll, augO, e0, e1, m1, m2, m3, m4, h1]
    · simp [h1]
  · refine ⟨false, ?_, ?_⟩
    · simp [t_law_11b_8, denS, den, SM.seq, SM.of, SM.skip, Dd.ofV, Dd.ofT, Dd.ofL, Dd.ofI, Dn.M.bind, Dn.M.pure, Dn.M.opt, bind2, ixM, ixO, cstD, keyO, andT, orT, Dn.andM, Dn.orM, blM, isNil, truO, cmp_eq, cmp_ne, cmp_ge, cmp_gt, cmp_lt, cmp_le, int_ok, abs_ok, add_ok, sub_ok, setAll, augO, e0, e1, m1, m2, m3, m4, h1]
    · simp [h1]
end
end K22

/-! k22: a turn of the law's loop, its end. -/
namespace K22
open PySem PySem.Spec PyProof.Rows L2 Dn K22n
theorem sq_bd {t M : Int} (h : 2 * t * t < M) : t.natAbs ≤ M.natAbs := by
  rw [Int.mul_assoc] at h
  by_cases h1 : 1 ≤ t
  · have : t * 1 ≤ t * t := Int.mul_le_mul_of_nonneg_left h1 (by omega)
    omega
  · by_cases h2 : t ≤ -1
    · have : -t * 1 ≤ -t * -t := Int.mul_le_mul_of_nonneg_left (by omega) (by omega)
      rw [Int.neg_mul_neg] at this
      omega
    · omega
theorem cand_of {ps : List Nat} (h : Great ps) {t f : Int} {b : Nat} (b0 : 0 < b) (hg : Nat.gcd t.natAbs b = 1) (hb : ∀ p ∈ ps, b % p ≠ 0) (hf : ps.map (fun (p : Nat) => f % (p : Int)) = ps.map fun p => rs p t b) (h1 : 2 * t * t < ((prd ps : Nat) : Int)) (h2 : 2 * (b : Int) * b < ((prd ps : Nat) : Int)) : Cand ((prd ps : Nat) : Int) f t b where
  st := h1
  sb := h2
  b0 := by omega
  g1 := by rw [Int.natAbs_natCast]; exact hg
  g2 := by
    rw [Int.natAbs_natCast, Int.natAbs_natCast]
    exact cop_prd fun p hp => ⟨h.pr p hp, fun hd => hb p hp (Nat.mod_eq_zero_of_dvd hd)⟩
  dv := all_dvd h hb hf
theorem p_vart {T : Tb} {η : Env'} {μ : Wd} {i : Nat} {k : Bool} (h : η[i]? = some (.val (.bl k))) : (den T (.var i)).t η μ = .ok k μ := by simp [den, Dd.ofV, M.bind, M.opt, M.pure, truO, h]
theorem reprP {t : Int} {b : Int} (ht : t.natAbs ≤ 1000000000) (hb : b.natAbs ≤ 1000000000) : ∃ s, reprO (.tup [.int t, .int b]) = some (.str s) := by
  obtain ⟨s, e, _⟩ := repr2 (good_int (i := t) (by omega)) (good_int (i := b) (by omega))
  exact ⟨s, e⟩
section
variable {s0 s1 s2 s3 s4 s5 s6 s7 s8 s9 s10 s11 s12 s13 s14 s15 s16 s17 s18 s19 s20 s21 : Slot} {μ : Wd} {cells : List Int} {c : Int} {ps : List Nat}
theorem y9 {f : Int} {x : D} (e : d_brought_back [.int f, .int ((prd ps : Nat) : Int)] μ = .ok x μ) : (denS T_law t_law_11b_9).s [s0, .val (.ref 0), s2, s3, s4, s5, .val (.lst (pl ps)), s7, .val (.int ((prd ps : Nat) : Int)), s9, s10, s11, s12, s13, .val (.int f), s15, s16, s17, s18, s19, s20, s21] μ = .nx [s0, .val (.ref 0), s2, s3, s4, s5, .val (.lst (pl ps)), s7, .val (.int ((prd ps : Nat) : Int)), s9, s10, s11, s12, s13, .val (.int f), s15, .val x, s17, s18, s19, s20, s21] μ :=
  s_set (p_call2 fn_law__brought_back (p_var rfl) (p_var rfl) e)
theorem y10t {x : D} {s : Str} (h : reprO x = some (.str s)) : (denS T_law t_law_11b_10).s [s0, .val (.ref 0), s2, s3, s4, s5, .val (.lst (pl ps)), s7, .val (.int ((prd ps : Nat) : Int)), s9, s10, s11, .val x, s13, s14, .val (.bl true), .val x, s17, s18, s19, s20, s21] μ = .nx [s0, .val (.ref 0), s2, s3, s4, s5, .val (.lst (pl ps)), s7, .val (.int ((prd ps : Nat) : Int)), s9, s10, s11, .val x, s13, s14, .val (.bl true), .val x, s17, s18, s19, s20, s21] μ :=
  s_ite0 (p_and2 (p_vart rfl) (p_cmp (p_rep (p_var rfl) h) (p_rep (p_var rfl) h) (ne_str s)))
theorem y10f : (denS T_law t_law_11b_10).s [s0, .val (.ref 0), s2, s3, s4, s5, .val (.lst (pl ps)), s7, .val (.int ((prd ps : Nat) : Int)), s9, s10, s11, s12, s13, s14, .val (.bl false), s16, s17, s18, s19, s20, s21] μ = .nx [s0, .val (.ref 0), s2, s3, s4, s5, .val (.lst (pl ps)), s7, .val (.int ((prd ps : Nat) : Int)), s9, s10, s11, s12, s13, s14, .val (.bl false), s16, s17, s18, s19, s20, s21] μ :=
  s_ite0 (p_and2f (p_vart rfl))
theorem y11n : (denS T_law (.cons t_law_11b_11 .nil)).s [s0, .val (.ref 0), s2, s3, s4, s5, .val (.lst (pl ps)), s7, .val (.int ((prd ps : Nat) : Int)), s9, s10, s11, s12, s13, s14, s15, .val .non, s17, s18, s19, s20, s21] μ = .nx [s0, .val (.ref 0), s2, s3, s4, s5, .val (.lst (pl ps)), s7, .val (.int ((prd ps : Nat) : Int)), s9, s10, s11, s12, s13, s14, s15, .val .non, s17, s18, s19, s20, s21] μ :=
  (seq_nx (a := t_law_11b_11) (s_ite0 (p_cmp (p_var rfl) p_none rfl))).trans rfl
theorem y11 {t f t' b' : Int} {b : Nat} {k : Bool} (hM : prd ps < 2 ^ 100) (f0 : 0 ≤ f) (f1 : f < ((prd ps : Nat) : Int)) (hc : Cand ((prd ps : Nat) : Int) f t' b') (hk : k = false → ¬ (t' = t ∧ b' = (b : Int))) :
    (denS T_law (.cons t_law_11b_11 .nil)).s [s0, .val (.ref 0), s2, s3, s4, s5, .val (.lst (pl ps)), s7, .val (.int ((prd ps : Nat) : Int)), s9, s10, s11, .val (.tup [.int t, .int (b : Int)]), s13, .val (.int f), .val (.bl k), .val (.tup [.int t', .int b']), s17, s18, s19, s20, s21] μ = .nx [s0, .val (.ref 0), s2, s3, s4, s5, .val (.lst (pl ps)), s7, .val (.int ((prd ps : Nat) : Int)), s9, s10, s11, .val (.tup [.int t, .int (b : Int)]), s13, .val (.int f), .val (.bl k), .val (.tup [.int t', .int b']), .val (.int t'), .val (.int b'), s19, s20, s21] μ := by
  have bt := sq_bd hc.st
  have bb := sq_bd hc.sb
  have h1 := hc.st
  have h2 := hc.sb
  have h3 := hc.b0
  have h4 := hc.g1
  have h5 := Int.emod_eq_zero_of_dvd hc.dv
  have M0 : (0 : Int) < ((prd ps : Nat) : Int) := by omega
  have MB : ((prd ps : Nat) : Int).natAbs < 2 ^ 100 := by omega
  generalize ((prd ps : Nat) : Int) = M at *
  have m1 := mul_big (i := 2) (j := t') (by decide) (by omega)
  have m2 := mul_big (i := 2 * t') (j := t') (by omega) (by omega)
  have m3 := mul_big (i := 2) (j := b') (by decide) (by omega)
  have m4 := mul_big (i := 2 * b') (j := b') (by omega) (by omega)
  have m5 := mul_big (i := f) (j := b') (by omega) (by omega)
  have eg := lgcd_ok (a := t') (b := b') (by omega) μ
  rw [h4] at eg
  refine (seq_nx (a := t_law_11b_11) ((s_ite1 (p_cmp (p_var rfl) p_none rfl)).trans ?_)).trans rfl
  refine (seq_nx (η' := [s0, .val (.ref 0), s2, s3, s4, s5, .val (.lst (pl ps)), s7, .val (.int M), s9, s10, s11, .val (.tup [.int t, .int (b : Int)]), s13, .val (.int f), .val (.bl k), .val (.tup [.int t', .int b']), .val (.int t'), .val (.int b'), s19, s20, s21]) (μ' := μ) ?_).trans ((seq_nx (a := t_law_11b_11a_1) (s_ite0 (μ1 := μ) ?_)).trans ((seq_nx (a := t_law_11b_11a_2) (s_ite0 (μ1 := μ) ?_)).trans rfl))
  · simp [t_law_11b_11a_0, denS, den, SM.seq, SM.of, SM.skip, Dd.ofV, Dd.ofT, Dd.ofL, Dd.ofI, Dn.M.bind, Dn.M.pure, Dn.M.opt, bind2, ixM, ixO, cstD, keyO, andT, orT, Dn.andM, Dn.orM, blM, isNil, truO, cmp_eq, cmp_ne, cmp_ge, cmp_gt, cmp_lt, cmp_le, int_ok, abs_ok, add_ok, sub_ok, setAll, augO, tgSet]
  · refine p_or3 (p_cmp (p_bin (p_bin (p_int 2) (p_var rfl) m1) (p_var rfl) m2) (p_var rfl) ?_) (p_cmp (p_bin (p_bin (p_int 2) (p_var rfl) m3) (p_var rfl) m4) (p_var rfl) ?_) (p_cmp (p_var rfl) (p_int 1) ?_)
    · rw [cmp_ge, decide_eq_false (by omega)]
    · rw [cmp_ge, decide_eq_false (by omega)]
    · rw [cmp_lt, decide_eq_false (by omega)]
  · refine p_or3 (μ1 := μ) (μ2 := μ) (p_cmp (p_call2 fn_law__l_gcd (p_var rfl) (p_var rfl) eg) (p_int 1) (by rw [cmp_ne]; rfl)) (p_cmp (p_bin (p_blt1 (p_bin (p_var rfl) (p_bin (p_var rfl) (p_var rfl) m5) (sub_ok _ _)) (int_ok _)) (p_var rfl) (mod_pos M0)) (p_int 0) (by rw [cmp_ne, h5]; rfl)) ?_
    cases k with
    | true => exact p_and2f (p_nt (k := true) (p_vart rfl))
    | false =>
      refine p_and2 (μ1 := μ) (p_nt (k := false) (p_vart rfl)) (p_cmp (p_var rfl) (p_var rfl) ?_)
      rw [eq_pair]
      have := hk rfl
      by_cases e1 : t' = t
      · have e2 : ¬ b' = (b : Int) := fun h => this ⟨e1, h⟩
        simp [e2]
      · simp [e1]
theorem turn (hg : Great ps) (hq : ∀ q ∈ ps, q ≤ 2000209) (hl : ps.length ≤ 4) (h : PW cells μ c) (hc : c < 999990000) : ∃ t11 t12 t13 t14 t15 t16 t17 t18 μ' c',
    ((denS T_law t_law_11b).s [s0, .val (.ref 0), s2, s3, s4, s5, .val (.lst (pl ps)), s7, .val (.int ((prd ps : Nat) : Int)), s9, s10, s11, s12, s13, s14, s15, s16, s17, s18, s19, s20, s21] μ = .nx [s0, .val (.ref 0), s2, s3, s4, s5, .val (.lst (pl ps)), s7, .val (.int ((prd ps : Nat) : Int)), s9, s10, t11, t12, t13, t14, t15, t16, t17, t18, s19, s20, s21] μ' ∨ (denS T_law t_law_11b).s [s0, .val (.ref 0), s2, s3, s4, s5, .val (.lst (pl ps)), s7, .val (.int ((prd ps : Nat) : Int)), s9, s10, s11, s12, s13, s14, s15, s16, s17, s18, s19, s20, s21] μ = .ct [s0, .val (.ref 0), s2, s3, s4, s5, .val (.lst (pl ps)), s7, .val (.int ((prd ps : Nat) : Int)), s9, s10, t11, t12, t13, t14, t15, t16, t17, t18, s19, s20, s21] μ') ∧ PW cells μ' c' ∧ c' ≤ c + 4 := by
  have hM := prd_bd hq hl
  have hM3 := prd_gt hg
  obtain ⟨sz, μ1, e0, z5, z9, w1⟩ := y0 (s0 := s0) (s2 := s2) (s3 := s3) (s4 := s4) (s5 := s5) (s7 := s7) (s9 := s9) (s10 := s10) (s11 := s11) (s12 := s12) (s13 := s13) (s14 := s14) (s15 := s15) (s16 := s16) (s17 := s17) (s18 := s18) (s19 := s19) (s20 := s20) (s21 := s21) (ps := ps) h (by omega)
  obtain ⟨t, b, μ2, e1, b0, hgcd, ht, hb, w2⟩ := y1 (s0 := s0) (s2 := s2) (s3 := s3) (s4 := s4) (s5 := s5) (s7 := s7) (s9 := s9) (s10 := s10) (s12 := s12) (s13 := s13) (s14 := s14) (s15 := s15) (s16 := s16) (s17 := s17) (s18 := s18) (s19 := s19) (s20 := s20) (s21 := s21) (ps := ps) z5 z9 w1 (by omega)
  obtain ⟨R, hR, e2⟩ := y23 (s0 := s0) (s2 := s2) (s3 := s3) (s4 := s4) (s5 := s5) (s7 := s7) (s9 := s9) (s10 := s10) (s11 := .val (.int sz)) (s13 := s13) (s14 := s14) (s15 := s15) (s16 := s16) (s17 := s17) (s18 := s18) (s19 := s19) (s20 := s20) (s21 := s21) (μ := μ2) (t := t) (b := b) hg hl ht hb
  have start := (seq_nx (b := .cons t_law_11b_1 (.cons t_law_11b_2 (.cons t_law_11b_3 (.cons t_law_11b_4 (.cons t_law_11b_5 (.cons t_law_11b_6 (.cons t_law_11b_7 (.cons t_law_11b_8 (.cons t_law_11b_9 (.cons t_law_11b_10 (.cons t_law_11b_11 .nil))))))))))) e0).trans ((seq_nx (b := .cons t_law_11b_2 (.cons t_law_11b_3 (.cons t_law_11b_4 (.cons t_law_11b_5 (.cons t_law_11b_6 (.cons t_law_11b_7 (.cons t_law_11b_8 (.cons t_law_11b_9 (.cons t_law_11b_10 (.cons t_law_11b_11 .nil)))))))))) e1).trans e2)
  by_cases hall : ∀ p ∈ ps, b % p ≠ 0
  · have hfil : ps.filter (inn b) = ps := List.filter_eq_self.mpr fun p hp => decide_eq_true (hall p hp)
    rw [hfil] at hR
    subst hR
    obtain ⟨f, μ3, e6, f0, f1, hf, w3⟩ := y6 (s0 := s0) (s2 := s2) (s3 := s3) (s4 := s4) (s5 := s5) (s7 := s7) (s9 := s9) (s10 := s10) (s11 := .val (.int sz)) (s14 := s14) (s15 := s15) (s16 := s16) (s17 := s17) (s18 := s18) (s19 := s19) (s20 := s20) (s21 := s21) (t := t) (b := b) hg hM w2 (by omega)
    have e4 : (denS T_law t_law_11b_4).s [s0, .val (.ref 0), s2, s3, s4, s5, .val (.lst (pl ps)), s7, .val (.int ((prd ps : Nat) : Int)), s9, s10, .val (.int sz), .val (.tup [.int t, .int b]), .val (.lst ((ps.map fun p => rs p t b).map .int)), s14, s15, s16, s17, s18, s19, s20, s21] μ2 = .nx [s0, .val (.ref 0), s2, s3, s4, s5, .val (.lst (pl ps)), s7, .val (.int ((prd ps : Nat) : Int)), s9, s10, .val (.int sz), .val (.tup [.int t, .int b]), .val (.lst ((ps.map fun p => rs p t b).map .int)), s14, s15, s16, s17, s18, s19, s20, s21] μ2 := by
      refine s_ite0 (p_cmp (p_blt1 (p_var rfl) (len_lst _)) (p_blt1 (p_var rfl) (len_lst _)) ?_)
      rw [cmp_lt, decide_eq_false]
      rw [List.length_map, List.length_map, pl_len]
      omega
    obtain ⟨k, e8, hk⟩ := y8 (s0 := s0) (s2 := s2) (s3 := s3) (s4 := s4) (s5 := s5) (s7 := s7) (s9 := s9) (s10 := s10) (s11 := .val (.int sz)) (s13 := .val (.lst ((ps.map fun p => rs p t b).map .int))) (s14 := .val (.int f)) (s15 := s15) (s16 := s16) (s17 := s17) (s18 := s18) (s19 := s19) (s20 := s20) (s21 := s21) (μ := μ3) (t := t) (b := b) hM ht hb
    have mid : ∀ (R : SRes), (denS T_law (.cons t_law_11b_9 (.cons t_law_11b_10 (.cons t_law_11b_11 .nil)))).s [s0, .val (.ref 0), s2, s3, s4, s5, .val (.lst (pl ps)), s7, .val (.int ((prd ps : Nat) : Int)), s9, s10, .val (.int sz), .val (.tup [.int t, .int b]), .val (.lst ((ps.map fun p => rs p t b).map .int)), .val (.int f), .val (.bl k), s16, s17, s18, s19, s20, s21] μ3 = R → (denS T_law t_law_11b).s [s0, .val (.ref 0), s2, s3, s4, s5, .val (.lst (pl ps)), s7, .val (.int ((prd ps : Nat) : Int)), s9, s10, s11, s12, s13, s14, s15, s16, s17, s18, s19, s20, s21] μ = R := fun R hR =>
      start.trans ((seq_nx e4).trans ((seq_nx (y5 hg hl ht b0 hgcd hall)).trans ((seq_nx e6).trans ((seq_nx (y7 hg hl f0 f1 hf)).trans ((seq_nx e8).trans hR)))))
    rcases brought_back_ok (r := f) (M := ((prd ps : Nat) : Int)) (by omega) (by omega) f0 f1 μ3 with ⟨t', b', e9, hcand⟩ | ⟨e9, hno⟩
    · cases k with
      | true =>
        obtain ⟨k1, k2⟩ := hk.mp rfl
        obtain ⟨rfl, rfl⟩ := hcand.uniq (cand_of hg b0 hgcd hall hf k1 k2)
        obtain ⟨s, hs⟩ := reprP (t := t') (b := (b : Int)) ht (by omega)
        exact ⟨_, _, _, _, _, _, _, _, μ3, c + 1 + 2 + 1, .inl (mid _ ((seq_nx (y9 e9)).trans ((seq_nx (y10t hs)).trans (y11 hM f0 f1 hcand fun h => by cases h)))), w3, by omega⟩
      | false =>
        refine ⟨_, _, _, _, _, _, _, _, μ3, c + 1 + 2 + 1, .inl (mid _ ((seq_nx (y9 e9)).trans ((seq_nx y10f).trans (y11 hM f0 f1 hcand fun _ ⟨h1, h2⟩ => ?_)))), w3, by omega⟩
        subst h1 h2
        have := hk.mpr ⟨hcand.st, hcand.sb⟩
        cases this
    · cases k with
      | true =>
        obtain ⟨k1, k2⟩ := hk.mp rfl
        exact (hno _ _ (cand_of hg b0 hgcd hall hf k1 k2)).elim
      | false => exact ⟨_, _, _, _, _, _, _, _, μ3, c + 1 + 2 + 1, .inl (mid _ ((seq_nx (y9 e9)).trans ((seq_nx y10f).trans y11n))), w3, by omega⟩
  · have hlt : (ps.filter (inn b)).length < ps.length := by
      have h1 := List.length_filter_le (inn b) ps
      by_cases h2 : (ps.filter (inn b)).length = ps.length
      · exact (hall fun p hp => of_decide_eq_true (List.length_filter_eq_length_iff.mp h2 p hp)).elim
      · omega
    refine ⟨_, _, _, _, _, _, _, _, μ2, c + 1 + 2, .inr (start.trans (seq_ct (η' := [s0, .val (.ref 0), s2, s3, s4, s5, .val (.lst (pl ps)), s7, .val (.int ((prd ps : Nat) : Int)), s9, s10, .val (.int sz), .val (.tup [.int t, .int b]), .val (.lst (R.map .int)), s14, s15, s16, s17, s18, s19, s20, s21]) (μ' := μ2) ?_)), w2, by omega⟩
    refine (s_ite1 (p_cmp (p_blt1 (p_var rfl) (len_lst _)) (p_blt1 (p_var rfl) (len_lst _)) ?_)).trans rfl
    rw [cmp_lt, decide_eq_true]
    subst hR
    rw [List.length_map, List.length_map, pl_len]
    omega
theorem turns (hg : Great ps) (hq : ∀ q ∈ ps, q ≤ 2000209) (hl : ps.length ≤ 4) : ∀ (ds : List D) (s10 s11 s12 s13 s14 s15 s16 s17 s18 : Slot) (μ : Wd) (c : Int), PW cells μ c → c + 4 * ds.length < 999990000 →
    ∃ t10 t11 t12 t13 t14 t15 t16 t17 t18 μ' c', forN (.nm 10) (denS T_law t_law_11b).s ds [s0, .val (.ref 0), s2, s3, s4, s5, .val (.lst (pl ps)), s7, .val (.int ((prd ps : Nat) : Int)), s9, s10, s11, s12, s13, s14, s15, s16, s17, s18, s19, s20, s21] μ = .nx [s0, .val (.ref 0), s2, s3, s4, s5, .val (.lst (pl ps)), s7, .val (.int ((prd ps : Nat) : Int)), s9, t10, t11, t12, t13, t14, t15, t16, t17, t18, s19, s20, s21] μ' ∧ PW cells μ' c' ∧ c' ≤ c + 4 * ds.length
  | [], s10, s11, s12, s13, s14, s15, s16, s17, s18, μ, c, h, hc => ⟨_, _, _, _, _, _, _, _, _, μ, c, rfl, h, by simp⟩
  | d :: ds, s10, s11, s12, s13, s14, s15, s16, s17, s18, μ, c, h, hc => by
    rw [List.length_cons] at hc
    obtain ⟨t11, t12, t13, t14, t15, t16, t17, t18, μ1, c1, e, w1, hc1⟩ := turn (s0 := s0) (s2 := s2) (s3 := s3) (s4 := s4) (s5 := s5) (s7 := s7) (s9 := s9) (s10 := .val d) (s11 := s11) (s12 := s12) (s13 := s13) (s14 := s14) (s15 := s15) (s16 := s16) (s17 := s17) (s18 := s18) (s19 := s19) (s20 := s20) (s21 := s21) hg hq hl h (by omega)
    obtain ⟨u10, u11, u12, u13, u14, u15, u16, u17, u18, μ', c', e2, w2, hc2⟩ := turns hg hq hl ds (.val d) t11 t12 t13 t14 t15 t16 t17 t18 μ1 c1 w1 (by omega)
    refine ⟨u10, u11, u12, u13, u14, u15, u16, u17, u18, μ', c', ?_, w2, by rw [List.length_cons]; omega⟩
    rw [← e2]
    rcases e with e | e
    · exact forN_nx rfl e
    · exact forN_ct rfl e
end
end K22

/-! k22: all small moduli, by trying; the plain law. -/
namespace K22
open PySem PySem.Spec PyProof.Rows L2 Dn K22n
section
variable {T : Tb} {a b c : Ex} {η : Env'} {μ : Wd} {k1 k2 k3 : Bool}
theorem p_and3v (ha : (den T a).v η μ = .ok (.bl k1) μ) (hb : (den T b).v η μ = .ok (.bl k2) μ) (hc : (den T c).v η μ = .ok (.bl k3) μ) : (den T (.bop true (.cons a (.cons b (.cons c .nil))))).v η μ = .ok (.bl (k1 && (k2 && k3))) μ := by
  cases k1 <;> cases k2 <;> simp [den, Dd.ofT, Dn.andM, blM, isNil, Dn.M.bind, Dn.M.pure, ha, hb, hc]
theorem p_and3t (ha : (den T a).t η μ = .ok k1 μ) (hb : (den T b).t η μ = .ok k2 μ) (hc : (den T c).t η μ = .ok k3 μ) : (den T (.bop true (.cons a (.cons b (.cons c .nil))))).t η μ = .ok (k1 && (k2 && k3)) μ := by
  cases k1 <;> cases k2 <;> simp [den, Dd.ofT, andT, isNil, Dn.M.bind, Dn.M.pure, ha, hb, hc]
theorem s_par2 {is : List Nat} {η' : Env'} {μ1 μ2 : Wd} {x y : D} (ha : (den T a).v η μ = .ok x μ1) (hb : (den T b).v η μ1 = .ok y μ2) (h : setAll is [x, y] η = some η') : (denS T (.par is (.cons a (.cons b .nil)))).s η μ = .nx η' μ2 := by
  simp [denS, SM.of, den, Dn.M.bind, Dn.M.pure, ha, hb, h]
end
/-- what is due after these pairs -/
def Due (m r : Int) (S : Int → Int → Prop) (d : D) : Prop := (d = .non ∧ ∀ t b, S t b → ¬ Cand m r t b) ∨ ∃ t b, d = .tup [.int t, .int b] ∧ Cand m r t b
section
variable {s0 s1 s2 s3 s4 s5 s6 s7 s8 s9 s10 s11 s12 s13 s14 s15 s16 s17 s18 s19 s20 s21 : Slot} {μ : Wd} {cells : List Int} {c : Int} {m r : Int}
theorem x0 {t b : Int} {d : D} (m0 : 0 < m) (m1 : m ≤ 1000) (r0 : 0 ≤ r) (r1 : r ≤ 1000) (ht : t.natAbs ≤ 1000) (b0 : 0 < b) (b1 : b ≤ 1000) : ∃ (d' : D) (s21' : Slot), (denS T_law t_law_14b_0b).s [s0, s1, s2, s3, s4, s5, s6, s7, s8, s9, s10, s11, s12, s13, .val (.int r), s15, s16, .val (.int t), .val (.int b), .val (.int m), .val d, s21] μ = .nx [s0, s1, s2, s3, s4, s5, s6, s7, s8, s9, s10, s11, s12, s13, .val (.int r), s15, s16, .val (.int t), .val (.int b), .val (.int m), .val d', s21'] μ ∧
    ((Cand m r t b ∧ d' = .tup [.int t, .int b]) ∨ (¬ Cand m r t b ∧ d' = d)) := by
  have e1 := lgcd_ok (a := t) (b := b) (by omega) μ
  have e2 := lgcd_ok (a := b) (b := m) (by omega) μ
  have n1 := mul_big (i := 2) (j := t) (by decide) (by omega)
  have n2 := mul_big (i := 2 * t) (j := t) (by omega) (by omega)
  have n3 := mul_big (i := 2) (j := b) (by decide) (by omega)
  have n4 := mul_big (i := 2 * b) (j := b) (by omega) (by omega)
  have n5 := mul_big (i := r) (j := b) (by omega) (by omega)
  have a1 : (denS T_law t_law_14b_0b_0).s [s0, s1, s2, s3, s4, s5, s6, s7, s8, s9, s10, s11, s12, s13, .val (.int r), s15, s16, .val (.int t), .val (.int b), .val (.int m), .val d, s21] μ = .nx [s0, s1, s2, s3, s4, s5, s6, s7, s8, s9, s10, s11, s12, s13, .val (.int r), s15, s16, .val (.int t), .val (.int b), .val (.int m), .val d, .val (.bl (decide (2 * t * t < m) && (decide (2 * b * b < m) && (((Nat.gcd t.natAbs b.natAbs : Nat) : Int) == 1))))] μ :=
    s_set (p_and3v (p_cmpv (p_bin (p_bin (p_int 2) (p_var rfl) n1) (p_var rfl) n2) (p_var rfl) (cmp_lt _ _)) (p_cmpv (p_bin (p_bin (p_int 2) (p_var rfl) n3) (p_var rfl) n4) (p_var rfl) (cmp_lt _ _)) (p_cmpv (p_call2 fn_law__l_gcd (p_var rfl) (p_var rfl) e1) (p_int 1) (cmp_eq _ _)))
  generalize hk : (decide (2 * t * t < m) && (decide (2 * b * b < m) && (((Nat.gcd t.natAbs b.natAbs : Nat) : Int) == 1))) = k at a1
  have a2 : (den T_law t_law_14b_0b_1t).t [s0, s1, s2, s3, s4, s5, s6, s7, s8, s9, s10, s11, s12, s13, .val (.int r), s15, s16, .val (.int t), .val (.int b), .val (.int m), .val d, .val (.bl k)] μ = .ok (k && ((((Nat.gcd b.natAbs m.natAbs : Nat) : Int) == 1) && ((t - r * b) % m == 0))) μ :=
    p_and3t (p_vart rfl) (p_cmp (p_call2 fn_law__l_gcd (p_var rfl) (p_var rfl) e2) (p_int 1) (cmp_eq _ _)) (p_cmp (p_bin (p_blt1 (p_bin (p_var rfl) (p_bin (p_var rfl) (p_var rfl) n5) (sub_ok _ _)) (int_ok _)) (p_var rfl) (mod_pos m0)) (p_int 0) (cmp_eq _ _))
  have hc : (k && ((((Nat.gcd b.natAbs m.natAbs : Nat) : Int) == 1) && ((t - r * b) % m == 0))) = true ↔ Cand m r t b := by
    subst hk
    simp only [Bool.and_eq_true, decide_eq_true_eq, beq_iff_eq]
    constructor
    · rintro ⟨⟨h1, h2, h3⟩, h4, h5⟩
      exact ⟨h1, h2, b0, by omega, by omega, Int.dvd_of_emod_eq_zero h5⟩
    · rintro ⟨h1, h2, _, h3, h4, h5⟩
      exact ⟨⟨h1, h2, by rw [h3]; rfl⟩, by rw [h4]; rfl, Int.emod_eq_zero_of_dvd h5⟩
  generalize (k && ((((Nat.gcd b.natAbs m.natAbs : Nat) : Int) == 1) && ((t - r * b) % m == 0))) = q at *
  cases q with
  | true =>
    refine ⟨.tup [.int t, .int b], .val (.bl k), ?_, .inl ⟨hc.mp rfl, rfl⟩⟩
    refine (seq_nx a1).trans ((seq_nx (a := t_law_14b_0b_1) ((s_ite1 a2).trans ((seq_nx (s_set (p_tup2 (p_var rfl) (p_var rfl)))).trans rfl))).trans rfl)
  | false =>
    refine ⟨d, .val (.bl k), ?_, .inr ⟨(fun h => by have := hc.mpr h; cases this), rfl⟩⟩
    exact (seq_nx a1).trans ((seq_nx (a := t_law_14b_0b_1) (s_ite0 a2)).trans rfl)
theorem x1 {b : Int} (m0 : 0 < m) (m1 : m ≤ 1000) (r0 : 0 ≤ r) (r1 : r ≤ 1000) (b0 : 0 < b) (b1 : b ≤ 1000) : ∀ (ts : List Int) (d : D) (S : Int → Int → Prop) (s17 s21 : Slot), (∀ t ∈ ts, t.natAbs ≤ 1000) → Due m r S d →
    ∃ (d' : D) (s17' s21' : Slot), forN (.nm 17) (denS T_law t_law_14b_0b).s (ts.map D.int) [s0, s1, s2, s3, s4, s5, s6, s7, s8, s9, s10, s11, s12, s13, .val (.int r), s15, s16, s17, .val (.int b), .val (.int m), .val d, s21] μ = .nx [s0, s1, s2, s3, s4, s5, s6, s7, s8, s9, s10, s11, s12, s13, .val (.int r), s15, s16, s17', .val (.int b), .val (.int m), .val d', s21'] μ ∧ Due m r (fun t b' => S t b' ∨ (b' = b ∧ t ∈ ts)) d'
  | [], d, S, s17, s21, _, hd => ⟨d, s17, s21, rfl, by
    rcases hd with ⟨h1, h2⟩ | h
    · exact .inl ⟨h1, fun t b' h => by rcases h with h | ⟨_, h⟩; exact h2 t b' h; cases h⟩
    · exact .inr h⟩
  | t :: ts, d, S, s17, s21, ht, hd => by
    obtain ⟨d1, t21, e1, h1⟩ := x0 (s0 := s0) (s1 := s1) (s2 := s2) (s3 := s3) (s4 := s4) (s5 := s5) (s6 := s6) (s7 := s7) (s8 := s8) (s9 := s9) (s10 := s10) (s11 := s11) (s12 := s12) (s13 := s13) (s15 := s15) (s16 := s16) (s21 := s21) (μ := μ) (t := t) (b := b) (d := d) m0 m1 r0 r1 (ht t List.mem_cons_self) b0 b1
    have hd1 : Due m r (fun t' b' => S t' b' ∨ (b' = b ∧ t' = t)) d1 := by
      rcases h1 with ⟨hc, rfl⟩ | ⟨hn, rfl⟩
      · exact .inr ⟨t, b, rfl, hc⟩
      · rcases hd with ⟨g1, g2⟩ | g
        · refine .inl ⟨g1, fun t' b' h => ?_⟩
          rcases h with h | ⟨rfl, rfl⟩
          · exact g2 t' b' h
          · exact hn
        · exact .inr g
    obtain ⟨d2, u17, u21, e2, h2⟩ := x1 m0 m1 r0 r1 b0 b1 ts d1 _ (.val (.int t)) t21 (fun x hx => ht x (List.mem_cons_of_mem _ hx)) hd1
    refine ⟨d2, u17, u21, ?_, ?_⟩
    · rw [← e2]
      exact forN_nx rfl e1
    · rcases h2 with ⟨g1, g2⟩ | g
      · refine .inl ⟨g1, fun t' b' h => g2 t' b' ?_⟩
        rcases h with h | ⟨h, hm⟩
        · exact .inl (.inl h)
        · rcases List.mem_cons.mp hm with rfl | hm
          · exact .inl (.inr ⟨h, rfl⟩)
          · exact .inr ⟨h, hm⟩
      · exact .inr g
/-- a range's numbers -/
def rI (lo : Int) (n : Nat) : List Int := (List.range n).map fun (k : Nat) => lo + (k : Int)
theorem rI_D (lo : Int) (n : Nat) : rangeD lo n = (rI lo n).map D.int := by
  unfold rangeD rI
  rw [List.map_map]; rfl
theorem rI_mem {lo x : Int} {n : Nat} : x ∈ rI lo n ↔ lo ≤ x ∧ x < lo + n := by
  unfold rI
  rw [List.mem_map]
  constructor
  · rintro ⟨k, hk, rfl⟩
    have := List.mem_range.mp hk
    omega
  · rintro ⟨h1, h2⟩
    exact ⟨(x - lo).toNat, List.mem_range.mpr (by omega), by omega⟩
theorem x2 {b : Int} {d : D} {S : Int → Int → Prop} (m0 : 0 < m) (m1 : m ≤ 900) (r0 : 0 ≤ r) (r1 : r ≤ 1000) (b0 : 0 < b) (b1 : b ≤ 1000) (hd : Due m r S d) :
    ∃ (d' : D) (s17' s21' : Slot), (denS T_law t_law_14b).s [s0, s1, s2, s3, s4, s5, s6, s7, s8, s9, s10, s11, s12, s13, .val (.int r), s15, s16, s17, .val (.int b), .val (.int m), .val d, s21] μ = .nx [s0, s1, s2, s3, s4, s5, s6, s7, s8, s9, s10, s11, s12, s13, .val (.int r), s15, s16, s17', .val (.int b), .val (.int m), .val d', s21'] μ ∧ Due m r (fun t b' => S t b' ∨ (b' = b ∧ t ∈ rI (-m) (m + 1 - -m).toNat)) d' := by
  obtain ⟨d', t17, t21, e, h⟩ := x1 (s0 := s0) (s1 := s1) (s2 := s2) (s3 := s3) (s4 := s4) (s5 := s5) (s6 := s6) (s7 := s7) (s8 := s8) (s9 := s9) (s10 := s10) (s11 := s11) (s12 := s12) (s13 := s13) (s15 := s15) (s16 := s16) (μ := μ) (b := b) m0 (by omega) r0 r1 b0 b1 (rI (-m) (m + 1 - -m).toNat) d S s17 s21 (fun t ht => by have := rI_mem.mp ht; omega) hd
  refine ⟨d', t17, t21, (seq_nx (a := t_law_14b_0) (for_of (μ' := μ) ?_ e)).trans rfl, h⟩
  have hr : rangeM (.int (-m)) (.int (m + 1)) = Dn.M.pure (rangeD (-m) (m + 1 - -m).toNat) := if_pos ⟨by omega, by omega, by omega, by omega⟩
  rw [← rI_D]
  simp [t_law_14b_0t, denS, den, SM.seq, SM.of, SM.skip, Dd.ofV, Dd.ofT, Dd.ofL, Dd.ofI, Dn.M.bind, Dn.M.pure, Dn.M.opt, bind2, ixM, ixO, cstD, keyO, andT, orT, Dn.andM, Dn.orM, blM, isNil, truO, cmp_eq, cmp_ne, cmp_ge, cmp_gt, cmp_lt, cmp_le, int_ok, abs_ok, add_ok, sub_ok, setAll, augO, hr]
theorem x3 (m0 : 0 < m) (m1 : m ≤ 900) (r0 : 0 ≤ r) (r1 : r ≤ 1000) : ∀ (bs : List Int) (d : D) (S : Int → Int → Prop) (s17 s18 s21 : Slot), (∀ b ∈ bs, 0 < b ∧ b ≤ 1000) → Due m r S d →
    ∃ (d' : D) (s17' s18' s21' : Slot), forN (.nm 18) (denS T_law t_law_14b).s (bs.map D.int) [s0, s1, s2, s3, s4, s5, s6, s7, s8, s9, s10, s11, s12, s13, .val (.int r), s15, s16, s17, s18, .val (.int m), .val d, s21] μ = .nx [s0, s1, s2, s3, s4, s5, s6, s7, s8, s9, s10, s11, s12, s13, .val (.int r), s15, s16, s17', s18', .val (.int m), .val d', s21'] μ ∧ Due m r (fun t b => S t b ∨ (b ∈ bs ∧ t ∈ rI (-m) (m + 1 - -m).toNat)) d'
  | [], d, S, s17, s18, s21, _, hd => ⟨d, s17, s18, s21, rfl, by
    rcases hd with ⟨h1, h2⟩ | h
    · exact .inl ⟨h1, fun t b' h => by rcases h with h | ⟨h, _⟩; exact h2 t b' h; cases h⟩
    · exact .inr h⟩
  | b :: bs, d, S, s17, s18, s21, hb, hd => by
    obtain ⟨b0, b1⟩ := hb b List.mem_cons_self
    obtain ⟨d1, t17, t21, e1, h1⟩ := x2 (s0 := s0) (s1 := s1) (s2 := s2) (s3 := s3) (s4 := s4) (s5 := s5) (s6 := s6) (s7 := s7) (s8 := s8) (s9 := s9) (s10 := s10) (s11 := s11) (s12 := s12) (s13 := s13) (s15 := s15) (s16 := s16) (s17 := s17) (s21 := s21) (μ := μ) m0 m1 r0 r1 b0 b1 hd
    obtain ⟨d2, u17, u18, u21, e2, h2⟩ := x3 m0 m1 r0 r1 bs d1 _ t17 (.val (.int b)) t21 (fun x hx => hb x (List.mem_cons_of_mem _ hx)) h1
    refine ⟨d2, u17, u18, u21, ?_, ?_⟩
    · rw [← e2]
      exact forN_nx rfl e1
    · rcases h2 with ⟨g1, g2⟩ | g
      · refine .inl ⟨g1, fun t' b' h => g2 t' b' ?_⟩
        rcases h with h | ⟨hm, h⟩
        · exact .inl (.inl h)
        · rcases List.mem_cons.mp hm with rfl | hm
          · exact .inl (.inr ⟨rfl, h⟩)
          · exact .inr ⟨hm, h⟩
      · exact .inr g
theorem x4 (h3 : 3 ≤ m) (m1 : m ≤ 900) (r0 : 0 ≤ r) (r1 : r < m) : (denS T_law (.cons t_law_14 (.cons t_law_15 .nil))).s [s0, s1, s2, s3, s4, s5, s6, s7, s8, s9, s10, s11, s12, s13, .val (.int r), s15, s16, s17, s18, .val (.int m), .val .non, s21] μ = .rt (.bl true) μ := by
  obtain ⟨d, t17, t18, t21, e, hd⟩ := x3 (s0 := s0) (s1 := s1) (s2 := s2) (s3 := s3) (s4 := s4) (s5 := s5) (s6 := s6) (s7 := s7) (s8 := s8) (s9 := s9) (s10 := s10) (s11 := s11) (s12 := s12) (s13 := s13) (s15 := s15) (s16 := s16) (μ := μ) (m := m) (r := r) (by omega) m1 r0 (by omega) (rI 1 (m - 1).toNat) .non (fun _ _ => False) s17 s18 s21 (fun b hb => by have := rI_mem.mp hb; omega) (.inl ⟨rfl, fun _ _ h => h.elim⟩)
  have hr : rangeM (.int 1) (.int m) = Dn.M.pure (rangeD 1 (m - 1).toNat) := if_pos ⟨by decide, by decide, by omega, by omega⟩
  refine (seq_nx (a := t_law_14) (for_of (ds := (rI 1 (m - 1).toNat).map D.int) (μ' := μ) ?_ e)).trans ?_
  · rw [← rI_D]
    simp [t_law_14t, denS, den, SM.seq, SM.of, SM.skip, Dd.ofV, Dd.ofT, Dd.ofL, Dd.ofI, Dn.M.bind, Dn.M.pure, Dn.M.opt, bind2, ixM, ixO, cstD, keyO, andT, orT, Dn.andM, Dn.orM, blM, isNil, truO, cmp_eq, cmp_ne, cmp_ge, cmp_gt, cmp_lt, cmp_le, int_ok, abs_ok, add_ok, sub_ok, setAll, augO, hr]
  · have fin : ∀ (x : D) (s : Str), d_brought_back [.int r, .int m] μ = .ok x μ → d = x → reprO x = some (.str s) → (denS T_law (.cons t_law_15 .nil)).s [s0, s1, s2, s3, s4, s5, s6, s7, s8, s9, s10, s11, s12, s13, .val (.int r), s15, s16, t17, t18, .val (.int m), .val d, t21] μ = .rt (.bl true) μ := fun x s e1 e2 e3 => by
      subst e2
      exact s_ret (p_cmpv (p_rep (p_call2 fn_law__brought_back (p_var rfl) (p_var rfl) e1) e3) (p_rep (p_var rfl) e3) (eq_str s))
    rcases brought_back_ok (r := r) (M := m) (by omega) (by omega) r0 r1 μ with ⟨t, b, e9, hc⟩ | ⟨e9, hn⟩
    · have bt := sq_bd hc.st
      have bb := sq_bd hc.sb
      have b0 := hc.b0
      have blt : b < m := by
        have h2 := hc.sb
        rw [Int.mul_assoc] at h2
        have : b * 1 ≤ b * b := Int.mul_le_mul_of_nonneg_left (by omega) (by omega)
        omega
      obtain ⟨s, hs⟩ := reprP (t := t) (b := b) (by omega) (by omega)
      refine fin _ s e9 ?_ hs
      rcases hd with ⟨_, g⟩ | ⟨t2, b2, rfl, hc2⟩
      · exact (g t b (.inr ⟨rI_mem.mpr (by omega), rI_mem.mpr (by omega)⟩) hc).elim
      · obtain ⟨rfl, rfl⟩ := hc.uniq hc2
        rfl
    · refine fin .non "None" e9 ?_ (by kernel_rfl)
      rcases hd with ⟨h, _⟩ | ⟨t2, b2, _, hc2⟩
      · exact h
      · exact (hn _ _ hc2).elim
end
theorem plain : ∀ ns : List Int, ns.length ≤ 63 → ∃ μ, d_law [.lst (ns.map .int)] [] = .ok (.bl true) μ := by
  intro ns _
  obtain ⟨f0, e0, ok0⟩ := pen_ok ns
  have w0 : PW ns [.dct (penL ns 0 0 0 f0)] 0 := ⟨0, 0, f0, rfl, ok0⟩
  obtain ⟨b, μ1, e1, b0, b1, w1⟩ := z1 (s0 := .val (.lst (ns.map .int))) (s2 := .un) (s3 := .un) (s4 := .un) (s5 := .un) (s6 := .un) (s7 := .un) (s8 := .un) (s9 := .un) (s10 := .un) (s11 := .un) (s12 := .un) (s13 := .un) (s14 := .un) (s15 := .un) (s16 := .un) (s17 := .un) (s18 := .un) (s19 := .un) (s20 := .un) (s21 := .un) w0 (by decide)
  obtain ⟨p, e2, hp1, hp2, hp3, hp4, hp5⟩ := z2 (s0 := .val (.lst (ns.map .int))) (s1 := .val (.ref 0)) (s3 := .un) (s4 := .un) (s5 := .un) (s6 := .un) (s7 := .un) (s8 := .un) (s9 := .un) (s10 := .un) (s11 := .un) (s12 := .un) (s13 := .un) (s14 := .un) (s15 := .un) (s16 := .un) (s17 := .un) (s18 := .un) (s19 := .un) (s20 := .un) (s21 := .un) (μ := μ1) b0 b1
  obtain ⟨t7, ps, μ2, c2, e7, hg, hq, hl, w2, hc2⟩ := z67 (s0 := .val (.lst (ns.map .int))) (s2 := .val (.int b)) (s3 := .val (.int p)) (s4 := .val (.lst (rangeD (low b) (p - low b).toNat))) (s5 := .un) (s7 := .un) (s8 := .un) (s9 := .un) (s10 := .un) (s11 := .un) (s12 := .un) (s13 := .un) (s14 := .un) (s15 := .un) (s16 := .un) (s17 := .un) (s18 := .un) (s19 := .un) (s20 := .un) (s21 := .un) hp2 hp3 hp4 w1 (by decide)
  have hM := prd_bd hq hl
  obtain ⟨t9, e10⟩ := z10 (s0 := .val (.lst (ns.map .int))) (s1 := .val (.ref 0)) (s2 := .val (.int b)) (s3 := .val (.int p)) (s4 := .val (.lst (rangeD (low b) (p - low b).toNat))) (s5 := .un) (s6 := .val (.lst (pl ps))) (s7 := t7) (s10 := .un) (s11 := .un) (s12 := .un) (s13 := .un) (s14 := .un) (s15 := .un) (s16 := .un) (s17 := .un) (s18 := .un) (s19 := .un) (s20 := .un) (s21 := .un) ps 1 .un μ2 (fun q hm => by have := hg.g q hm; omega) (by rw [Nat.one_mul]; omega)
  rw [Nat.one_mul] at e10
  obtain ⟨u10, u11, u12, u13, u14, u15, u16, u17, u18, μ3, c3, e11, w3, hc3⟩ := turns (s0 := .val (.lst (ns.map .int))) (s2 := .val (.int b)) (s3 := .val (.int p)) (s4 := .val (.lst (rangeD (low b) (p - low b).toNat))) (s5 := .un) (s7 := t7) (s9 := t9) (s19 := .un) (s20 := .un) (s21 := .un) hg hq hl (rangeD 0 5) .un .un .un .un .un .un .un .un .un μ2 c2 w2 (by rw [rangeD_len]; omega)
  rw [rangeD_len] at hc3
  obtain ⟨r1, μ4, e12, r10, r11, w4⟩ := w3.draw (many := 60) (by omega) (by decide) (by decide)
  obtain ⟨r2, μ5, e13, r20, r21, w5⟩ := w4.draw (many := 3 + r1) (by omega) (by omega) (by omega)
  have i10 : (den T_law t_law_10t).i [.val (.lst (ns.map .int)), .val (.ref 0), .val (.int b), .val (.int p), .val (.lst (rangeD (low b) (p - low b).toNat)), .un, .val (.lst (pl ps)), t7, .val (.int ((1 : Nat) : Int)), .un, .un, .un, .un, .un, .un, .un, .un, .un, .un, .un, .un, .un] μ2 = .ok (pl ps) μ2 := p_vari rfl rfl
  have i11 : ∀ (η : Env') (μ : Wd), (den T_law t_law_11t).i η μ = .ok (rangeD 0 5) μ := fun η μ => by
    have : rangeM (.int 0) (.int 5) = Dn.M.pure (rangeD 0 5) := by kernel_rfl
    simp [t_law_11t, denS, den, SM.seq, SM.of, SM.skip, Dd.ofV, Dd.ofT, Dd.ofL, Dd.ofI, Dn.M.bind, Dn.M.pure, Dn.M.opt, bind2, ixM, ixO, cstD, keyO, andT, orT, Dn.andM, Dn.orM, blM, isNil, truO, cmp_eq, cmp_ne, cmp_ge, cmp_gt, cmp_lt, cmp_le, int_ok, abs_ok, add_ok, sub_ok, setAll, augO, this]
  refine ⟨μ5, fnDen_rt rfl ?_⟩
  rw [sp_law]
  refine (seq_nx (s_set (p_call1 fn_law__l_pen (p_var rfl) e0))).trans ?_
  refine (seq_nx e1).trans ((seq_nx e2).trans ((seq_nx (z3 hp1 hp2 hp3 hp4)).trans ((seq_nx (z4 b0 hp1 hp2 hp3)).trans ((seq_nx (z5 b0 hp1 hp2 hp3 hp4 hp5)).trans ((seq_nx z6).trans ((seq_nx e7).trans ?_))))))
  refine (seq_nx (a := t_law_8) (s_set (p_int 1))).trans ?_
  refine (seq_nx (a := t_law_9) (η' := [.val (.lst (ns.map .int)), .val (.ref 0), .val (.int b), .val (.int p), .val (.lst (rangeD (low b) (p - low b).toNat)), .un, .val (.lst (pl ps)), t7, .val (.int ((1 : Nat) : Int)), .un, .un, .un, .un, .un, .un, .un, .un, .un, .un, .un, .un, .un]) (μ' := μ2) rfl).trans ?_
  refine (seq_nx (a := t_law_10) (for_of i10 e10)).trans ?_
  refine (seq_nx (a := t_law_11) (for_of (i11 _ _) e11)).trans ?_
  refine (seq_nx (a := t_law_12) (s_set (p_bin (p_int 3) (p_call2 fn_law__l_draw (p_var rfl) (p_int 60) e12) (add_ok _ _)))).trans ?_
  refine (seq_nx (a := t_law_13) (s_par2 (p_call2 fn_law__l_draw (p_var rfl) (p_var rfl) e13) p_none rfl)).trans ?_
  exact x4 (by omega) (by omega) r20 r21
end K22

/-! The end: what the top has written, put together. Printed by mk.py. -/
namespace K22
open PySem PySem.Spec PyProof.Rows L2 Dn
set_option maxHeartbeats 0 in
theorem all_mk {P : Program} {w : World} {K : PySem.W.Frag} {h : Heap} {mg : Str → Option Value} {fa : Addr} (X : K.In h) (G : h.Ns mainGlobals mg) (hfa : mg "law" = some (.ref fa)) (lk : tabs.look K = true)
    {f0 : Addr} {od0 an0 : Option Addr} {sl0 : Array (Option Value)} {oc0 kV0 dc0 pm0 cd0 ct0 : Value}
    {f1 : Addr} {od1 an1 : Option Addr} {sl1 : Array (Option Value)} {oc1 kV1 dc1 pm1 cd1 ct1 : Value}
    {f2 : Addr} {od2 an2 : Option Addr} {sl2 : Array (Option Value)} {oc2 kV2 dc2 pm2 cd2 ct2 : Value}
    {f3 : Addr} {od3 an3 : Option Addr} {sl3 : Array (Option Value)} {oc3 kV3 dc3 pm3 cd3 ct3 : Value}
    {f4 : Addr} {od4 an4 : Option Addr} {sl4 : Array (Option Value)} {oc4 kV4 dc4 pm4 cd4 ct4 : Value}
    {f5 : Addr} {od5 an5 : Option Addr} {sl5 : Array (Option Value)} {oc5 kV5 dc5 pm5 cd5 ct5 : Value}
    {f6 : Addr} {od6 an6 : Option Addr} {sl6 : Array (Option Value)} {oc6 kV6 dc6 pm6 cd6 ct6 : Value}
    {f7 : Addr} {od7 an7 : Option Addr} {sl7 : Array (Option Value)} {oc7 kV7 dc7 pm7 cd7 ct7 : Value}
    {f8 : Addr} {od8 an8 : Option Addr} {sl8 : Array (Option Value)} {oc8 kV8 dc8 pm8 cd8 ct8 : Value}
    {f9 : Addr} {od9 an9 : Option Addr} {sl9 : Array (Option Value)} {oc9 kV9 dc9 pm9 cd9 ct9 : Value}
    {f10 : Addr} {od10 an10 : Option Addr} {sl10 : Array (Option Value)} {oc10 kV10 dc10 pm10 cd10 ct10 : Value}
    {f11 : Addr} {od11 an11 : Option Addr} {sl11 : Array (Option Value)} {oc11 kV11 dc11 pm11 cd11 ct11 : Value}
    {f12 : Addr} {od12 an12 : Option Addr} {sl12 : Array (Option Value)} {oc12 kV12 dc12 pm12 cd12 ct12 : Value}
    {f13 : Addr} {od13 an13 : Option Addr} {sl13 : Array (Option Value)} {oc13 kV13 dc13 pm13 cd13 ct13 : Value}
    {f14 : Addr} {od14 an14 : Option Addr} {sl14 : Array (Option Value)} {oc14 kV14 dc14 pm14 cd14 ct14 : Value}
    {f15 : Addr} {od15 an15 : Option Addr} {sl15 : Array (Option Value)} {oc15 kV15 dc15 pm15 cd15 ct15 : Value}
    {f16 : Addr} {od16 an16 : Option Addr} {sl16 : Array (Option Value)} {oc16 kV16 dc16 pm16 cd16 ct16 : Value}
    {f17 : Addr} {od17 an17 : Option Addr} {sl17 : Array (Option Value)} {oc17 kV17 dc17 pm17 cd17 ct17 : Value}
    {f18 : Addr} {od18 an18 : Option Addr} {sl18 : Array (Option Value)} {oc18 kV18 dc18 pm18 cd18 ct18 : Value}
    {f19 : Addr} {od19 an19 : Option Addr} {sl19 : Array (Option Value)} {oc19 kV19 dc19 pm19 cd19 ct19 : Value}
    {f20 : Addr} {od20 an20 : Option Addr} {sl20 : Array (Option Value)} {oc20 kV20 dc20 pm20 cd20 ct20 : Value}
    {f21 : Addr} {od21 an21 : Option Addr} {sl21 : Array (Option Value)} {oc21 kV21 dc21 pm21 cd21 ct21 : Value}
    {f22 : Addr} {od22 an22 : Option Addr} {sl22 : Array (Option Value)} {oc22 kV22 dc22 pm22 cd22 ct22 : Value}
    {f23 : Addr} {od23 an23 : Option Addr} {sl23 : Array (Option Value)} {oc23 kV23 dc23 pm23 cd23 ct23 : Value}
    {f24 : Addr} {od24 an24 : Option Addr} {sl24 : Array (Option Value)} {oc24 kV24 dc24 pm24 cd24 ct24 : Value}
    {f25 : Addr} {od25 an25 : Option Addr} {sl25 : Array (Option Value)} {oc25 kV25 dc25 pm25 cd25 ct25 : Value}
    {f26 : Addr} {od26 an26 : Option Addr} {sl26 : Array (Option Value)} {oc26 kV26 dc26 pm26 cd26 ct26 : Value}
    {f27 : Addr} {od27 an27 : Option Addr} {sl27 : Array (Option Value)} {oc27 kV27 dc27 pm27 cd27 ct27 : Value}
    {f28 : Addr} {od28 an28 : Option Addr} {sl28 : Array (Option Value)} {oc28 kV28 dc28 pm28 cd28 ct28 : Value}
    {f29 : Addr} {od29 an29 : Option Addr} {sl29 : Array (Option Value)} {oc29 kV29 dc29 pm29 cd29 ct29 : Value}
    {f30 : Addr} {od30 an30 : Option Addr} {sl30 : Array (Option Value)} {oc30 kV30 dc30 pm30 cd30 ct30 : Value}
    {f31 : Addr} {od31 an31 : Option Addr} {sl31 : Array (Option Value)} {oc31 kV31 dc31 pm31 cd31 ct31 : Value}
    {CBadNumber fBadNumber : Addr} {odBadNumber anBadNumber : Option Addr} {slBadNumber : Array (Option Value)} {ocBadNumber kVBadNumber dcBadNumber pmBadNumber cdBadNumber ctBadNumber : Value}
    {CBadPaper fBadPaper : Addr} {odBadPaper anBadPaper : Option Addr} {slBadPaper : Array (Option Value)} {ocBadPaper kVBadPaper dcBadPaper pmBadPaper cdBadPaper ctBadPaper : Value}
    {CNotKept fNotKept : Addr} {odNotKept anNotKept : Option Addr} {slNotKept : Array (Option Value)} {ocNotKept kVNotKept dcNotKept pmNotKept cdNotKept ctNotKept : Value}
    (a0 : PySem.W.nsIn K mainGlobals "is_whole" = some (some (.ref f0))) (l0 : K.lookup f0 = some ⟨oc0, od0, .func (PySem.W.fnOf "is_whole" "is_whole" (defArgs s_is_whole) (defBody s_is_whole) (defScope s_is_whole) .none kV0 dc0 pm0 an0 cd0 ct0), sl0⟩) (c0 : PySem.W.codeIn K cd0 "is_whole" = true) (k0 : PySem.W.keepIn K (.ref f0) = true)
    (a1 : PySem.W.nsIn K mainGlobals "is_count" = some (some (.ref f1))) (l1 : K.lookup f1 = some ⟨oc1, od1, .func (PySem.W.fnOf "is_count" "is_count" (defArgs s_is_count) (defBody s_is_count) (defScope s_is_count) .none kV1 dc1 pm1 an1 cd1 ct1), sl1⟩) (c1 : PySem.W.codeIn K cd1 "is_count" = true) (k1 : PySem.W.keepIn K (.ref f1) = true)
    (a2 : PySem.W.nsIn K mainGlobals "is_fraction" = some (some (.ref f2))) (l2 : K.lookup f2 = some ⟨oc2, od2, .func (PySem.W.fnOf "is_fraction" "is_fraction" (defArgs s_is_fraction) (defBody s_is_fraction) (defScope s_is_fraction) .none kV2 dc2 pm2 an2 cd2 ct2), sl2⟩) (c2 : PySem.W.codeIn K cd2 "is_fraction" = true) (k2 : PySem.W.keepIn K (.ref f2) = true)
    (a3 : PySem.W.nsIn K mainGlobals "unit_in" = some (some (.ref f3))) (l3 : K.lookup f3 = some ⟨oc3, od3, .func (PySem.W.fnOf "unit_in" "unit_in" (defArgs s_unit_in) (defBody s_unit_in) (defScope s_unit_in) .none kV3 dc3 pm3 an3 cd3 ct3), sl3⟩) (c3 : PySem.W.codeIn K cd3 "unit_in" = true) (k3 : PySem.W.keepIn K (.ref f3) = true)
    (a4 : PySem.W.nsIn K mainGlobals "reduced" = some (some (.ref f4))) (l4 : K.lookup f4 = some ⟨oc4, od4, .func (PySem.W.fnOf "reduced" "reduced" (defArgs s_reduced) (defBody s_reduced) (defScope s_reduced) .none kV4 dc4 pm4 an4 cd4 ct4), sl4⟩) (c4 : PySem.W.codeIn K cd4 "reduced" = true) (k4 : PySem.W.keepIn K (.ref f4) = true)
    (a5 : PySem.W.nsIn K mainGlobals "times_in" = some (some (.ref f5))) (l5 : K.lookup f5 = some ⟨oc5, od5, .func (PySem.W.fnOf "times_in" "times_in" (defArgs s_times_in) (defBody s_times_in) (defScope s_times_in) .none kV5 dc5 pm5 an5 cd5 ct5), sl5⟩) (c5 : PySem.W.codeIn K cd5 "times_in" = true) (k5 : PySem.W.keepIn K (.ref f5) = true)
    (a6 : PySem.W.nsIn K mainGlobals "power_in" = some (some (.ref f6))) (l6 : K.lookup f6 = some ⟨oc6, od6, .func (PySem.W.fnOf "power_in" "power_in" (defArgs s_power_in) (defBody s_power_in) (defScope s_power_in) .none kV6 dc6 pm6 an6 cd6 ct6), sl6⟩) (c6 : PySem.W.codeIn K cd6 "power_in" = true) (k6 : PySem.W.keepIn K (.ref f6) = true)
    (a7 : PySem.W.nsIn K mainGlobals "inverse_in" = some (some (.ref f7))) (l7 : K.lookup f7 = some ⟨oc7, od7, .func (PySem.W.fnOf "inverse_in" "inverse_in" (defArgs s_inverse_in) (defBody s_inverse_in) (defScope s_inverse_in) .none kV7 dc7 pm7 an7 cd7 ct7), sl7⟩) (c7 : PySem.W.codeIn K cd7 "inverse_in" = true) (k7 : PySem.W.keepIn K (.ref f7) = true)
    (a8 : PySem.W.nsIn K mainGlobals "is_prime_number" = some (some (.ref f8))) (l8 : K.lookup f8 = some ⟨oc8, od8, .func (PySem.W.fnOf "is_prime_number" "is_prime_number" (defArgs s_is_prime_number) (defBody s_is_prime_number) (defScope s_is_prime_number) .none kV8 dc8 pm8 an8 cd8 ct8), sl8⟩) (c8 : PySem.W.codeIn K cd8 "is_prime_number" = true) (k8 : PySem.W.keepIn K (.ref f8) = true)
    (a9 : PySem.W.nsIn K mainGlobals "is_great" = some (some (.ref f9))) (l9 : K.lookup f9 = some ⟨oc9, od9, .func (PySem.W.fnOf "is_great" "is_great" (defArgs s_is_great) (defBody s_is_great) (defScope s_is_great) .none kV9 dc9 pm9 an9 cd9 ct9), sl9⟩) (c9 : PySem.W.codeIn K cd9 "is_great" = true) (k9 : PySem.W.keepIn K (.ref f9) = true)
    (a10 : PySem.W.nsIn K mainGlobals "need_great" = some (some (.ref f10))) (l10 : K.lookup f10 = some ⟨oc10, od10, .func (PySem.W.fnOf "need_great" "need_great" (defArgs s_need_great) (defBody s_need_great) (defScope s_need_great) .none kV10 dc10 pm10 an10 cd10 ct10), sl10⟩) (c10 : PySem.W.codeIn K cd10 "need_great" = true) (k10 : PySem.W.keepIn K (.ref f10) = true)
    (a11 : PySem.W.nsIn K mainGlobals "next_in" = some (some (.ref f11))) (l11 : K.lookup f11 = some ⟨oc11, od11, .func (PySem.W.fnOf "next_in" "next_in" (defArgs s_next_in) (defBody s_next_in) (defScope s_next_in) .none kV11 dc11 pm11 an11 cd11 ct11), sl11⟩) (c11 : PySem.W.codeIn K cd11 "next_in" = true) (k11 : PySem.W.keepIn K (.ref f11) = true)
    (a12 : PySem.W.nsIn K mainGlobals "next_great" = some (some (.ref f12))) (l12 : K.lookup f12 = some ⟨oc12, od12, .func (PySem.W.fnOf "next_great" "next_great" (defArgs s_next_great) (defBody s_next_great) (defScope s_next_great) .none kV12 dc12 pm12 an12 cd12 ct12), sl12⟩) (c12 : PySem.W.codeIn K cd12 "next_great" = true) (k12 : PySem.W.keepIn K (.ref f12) = true)
    (a13 : PySem.W.nsIn K mainGlobals "rest_in" = some (some (.ref f13))) (l13 : K.lookup f13 = some ⟨oc13, od13, .func (PySem.W.fnOf "rest_in" "rest_in" (defArgs s_rest_in) (defBody s_rest_in) (defScope s_rest_in) .none kV13 dc13 pm13 an13 cd13 ct13), sl13⟩) (c13 : PySem.W.codeIn K cd13 "rest_in" = true) (k13 : PySem.W.keepIn K (.ref f13) = true)
    (a14 : PySem.W.nsIn K mainGlobals "rest_by" = some (some (.ref f14))) (l14 : K.lookup f14 = some ⟨oc14, od14, .func (PySem.W.fnOf "rest_by" "rest_by" (defArgs s_rest_by) (defBody s_rest_by) (defScope s_rest_by) .none kV14 dc14 pm14 an14 cd14 ct14), sl14⟩) (c14 : PySem.W.codeIn K cd14 "rest_by" = true) (k14 : PySem.W.keepIn K (.ref f14) = true)
    (a15 : PySem.W.nsIn K mainGlobals "together_in" = some (some (.ref f15))) (l15 : K.lookup f15 = some ⟨oc15, od15, .func (PySem.W.fnOf "together_in" "together_in" (defArgs s_together_in) (defBody s_together_in) (defScope s_together_in) .none kV15 dc15 pm15 an15 cd15 ct15), sl15⟩) (c15 : PySem.W.codeIn K cd15 "together_in" = true) (k15 : PySem.W.keepIn K (.ref f15) = true)
    (a16 : PySem.W.nsIn K mainGlobals "need_primes" = some (some (.ref f16))) (l16 : K.lookup f16 = some ⟨oc16, od16, .func (PySem.W.fnOf "need_primes" "need_primes" (defArgs s_need_primes) (defBody s_need_primes) (defScope s_need_primes) .none kV16 dc16 pm16 an16 cd16 ct16), sl16⟩) (c16 : PySem.W.codeIn K cd16 "need_primes" = true) (k16 : PySem.W.keepIn K (.ref f16) = true)
    (a17 : PySem.W.nsIn K mainGlobals "put_together" = some (some (.ref f17))) (l17 : K.lookup f17 = some ⟨oc17, od17, .func (PySem.W.fnOf "put_together" "put_together" (defArgs s_put_together) (defBody s_put_together) (defScope s_put_together) .none kV17 dc17 pm17 an17 cd17 ct17), sl17⟩) (c17 : PySem.W.codeIn K cd17 "put_together" = true) (k17 : PySem.W.keepIn K (.ref f17) = true)
    (a18 : PySem.W.nsIn K mainGlobals "common_divisor" = some (some (.ref f18))) (l18 : K.lookup f18 = some ⟨oc18, od18, .func (PySem.W.fnOf "common_divisor" "common_divisor" (defArgs s_common_divisor) (defBody s_common_divisor) (defScope s_common_divisor) .none kV18 dc18 pm18 an18 cd18 ct18), sl18⟩) (c18 : PySem.W.codeIn K cd18 "common_divisor" = true) (k18 : PySem.W.keepIn K (.ref f18) = true)
    (a19 : PySem.W.nsIn K mainGlobals "back_in" = some (some (.ref f19))) (l19 : K.lookup f19 = some ⟨oc19, od19, .func (PySem.W.fnOf "back_in" "back_in" (defArgs s_back_in) (defBody s_back_in) (defScope s_back_in) .none kV19 dc19 pm19 an19 cd19 ct19), sl19⟩) (c19 : PySem.W.codeIn K cd19 "back_in" = true) (k19 : PySem.W.keepIn K (.ref f19) = true)
    (a20 : PySem.W.nsIn K mainGlobals "brought_back" = some (some (.ref f20))) (l20 : K.lookup f20 = some ⟨oc20, od20, .func (PySem.W.fnOf "brought_back" "brought_back" (defArgs s_brought_back) (defBody s_brought_back) (defScope s_brought_back) .none kV20 dc20 pm20 an20 cd20 ct20), sl20⟩) (c20 : PySem.W.codeIn K cd20 "brought_back" = true) (k20 : PySem.W.keepIn K (.ref f20) = true)
    (a21 : PySem.W.nsIn K mainGlobals "_law_pen" = some (some (.ref f21))) (l21 : K.lookup f21 = some ⟨oc21, od21, .func (PySem.W.fnOf "_law_pen" "_law_pen" (defArgs s_l_pen) (defBody s_l_pen) (defScope s_l_pen) .none kV21 dc21 pm21 an21 cd21 ct21), sl21⟩) (c21 : PySem.W.codeIn K cd21 "_law_pen" = true) (k21 : PySem.W.keepIn K (.ref f21) = true)
    (a22 : PySem.W.nsIn K mainGlobals "_law_draw" = some (some (.ref f22))) (l22 : K.lookup f22 = some ⟨oc22, od22, .func (PySem.W.fnOf "_law_draw" "_law_draw" (defArgs s_l_draw) (defBody s_l_draw) (defScope s_l_draw) .none kV22 dc22 pm22 an22 cd22 ct22), sl22⟩) (c22 : PySem.W.codeIn K cd22 "_law_draw" = true) (k22 : PySem.W.keepIn K (.ref f22) = true)
    (a23 : PySem.W.nsIn K mainGlobals "_law_pick" = some (some (.ref f23))) (l23 : K.lookup f23 = some ⟨oc23, od23, .func (PySem.W.fnOf "_law_pick" "_law_pick" (defArgs s_l_pick) (defBody s_l_pick) (defScope s_l_pick) .none kV23 dc23 pm23 an23 cd23 ct23), sl23⟩) (c23 : PySem.W.codeIn K cd23 "_law_pick" = true) (k23 : PySem.W.keepIn K (.ref f23) = true)
    (a24 : PySem.W.nsIn K mainGlobals "_law_gcd" = some (some (.ref f24))) (l24 : K.lookup f24 = some ⟨oc24, od24, .func (PySem.W.fnOf "_law_gcd" "_law_gcd" (defArgs s_l_gcd) (defBody s_l_gcd) (defScope s_l_gcd) .none kV24 dc24 pm24 an24 cd24 ct24), sl24⟩) (c24 : PySem.W.codeIn K cd24 "_law_gcd" = true) (k24 : PySem.W.keepIn K (.ref f24) = true)
    (a25 : PySem.W.nsIn K mainGlobals "_law_lowest" = some (some (.ref f25))) (l25 : K.lookup f25 = some ⟨oc25, od25, .func (PySem.W.fnOf "_law_lowest" "_law_lowest" (defArgs s_l_lowest) (defBody s_l_lowest) (defScope s_l_lowest) .none kV25 dc25 pm25 an25 cd25 ct25), sl25⟩) (c25 : PySem.W.codeIn K cd25 "_law_lowest" = true) (k25 : PySem.W.keepIn K (.ref f25) = true)
    (a26 : PySem.W.nsIn K mainGlobals "_law_call" = some (some (.ref f26))) (l26 : K.lookup f26 = some ⟨oc26, od26, .func (PySem.W.fnOf "_law_call" "_law_call" (defArgs s_l_call) (defBody s_l_call) (defScope s_l_call) .none kV26 dc26 pm26 an26 cd26 ct26), sl26⟩) (c26 : PySem.W.codeIn K cd26 "_law_call" = true) (k26 : PySem.W.keepIn K (.ref f26) = true)
    (a27 : PySem.W.nsIn K mainGlobals "_law_raised" = some (some (.ref f27))) (l27 : K.lookup f27 = some ⟨oc27, od27, .func (PySem.W.fnOf "_law_raised" "_law_raised" (defArgs s_l_raised) (defBody s_l_raised) (defScope s_l_raised) .none kV27 dc27 pm27 an27 cd27 ct27), sl27⟩) (c27 : PySem.W.codeIn K cd27 "_law_raised" = true) (k27 : PySem.W.keepIn K (.ref f27) = true)
    (a28 : PySem.W.nsIn K mainGlobals "_law_is_prime" = some (some (.ref f28))) (l28 : K.lookup f28 = some ⟨oc28, od28, .func (PySem.W.fnOf "_law_is_prime" "_law_is_prime" (defArgs s_l_is_prime) (defBody s_l_is_prime) (defScope s_l_is_prime) .none kV28 dc28 pm28 an28 cd28 ct28), sl28⟩) (c28 : PySem.W.codeIn K cd28 "_law_is_prime" = true) (k28 : PySem.W.keepIn K (.ref f28) = true)
    (a29 : PySem.W.nsIn K mainGlobals "_law_power_by" = some (some (.ref f29))) (l29 : K.lookup f29 = some ⟨oc29, od29, .func (PySem.W.fnOf "_law_power_by" "_law_power_by" (defArgs s_l_power_by) (defBody s_l_power_by) (defScope s_l_power_by) .none kV29 dc29 pm29 an29 cd29 ct29), sl29⟩) (c29 : PySem.W.codeIn K cd29 "_law_power_by" = true) (k29 : PySem.W.keepIn K (.ref f29) = true)
    (a30 : PySem.W.nsIn K mainGlobals "_law_errors_right" = some (some (.ref f30))) (l30 : K.lookup f30 = some ⟨oc30, od30, .func (PySem.W.fnOf "_law_errors_right" "_law_errors_right" (defArgs s_l_errors_right) (defBody s_l_errors_right) (defScope s_l_errors_right) .none kV30 dc30 pm30 an30 cd30 ct30), sl30⟩) (c30 : PySem.W.codeIn K cd30 "_law_errors_right" = true) (k30 : PySem.W.keepIn K (.ref f30) = true)
    (a31 : PySem.W.nsIn K mainGlobals "law" = some (some (.ref f31))) (l31 : K.lookup f31 = some ⟨oc31, od31, .func (PySem.W.fnOf "law" "law" (defArgs s_law) (defBody s_law) (defScope s_law) .none kV31 dc31 pm31 an31 cd31 ct31), sl31⟩) (c31 : PySem.W.codeIn K cd31 "law" = true) (k31 : PySem.W.keepIn K (.ref f31) = true)
    (aBadNumber : PySem.W.nsIn K mainGlobals "BadNumber" = some (some (.ref CBadNumber))) (bBadNumber : clsB K CBadNumber ["what", "number"] = true) (iBadNumber : PySem.W.findIn K (.ref CBadNumber) "__init__" = some (some (.ref fBadNumber))) (tBadNumber : PySem.W.typeIn K (.ref fBadNumber) = some (.type "function")) (lBadNumber : K.lookup fBadNumber = some ⟨ocBadNumber, odBadNumber, .func (PySem.W.fnOf "__init__" "BadNumber.__init__" (defArgs i_BadNumber) (defBody i_BadNumber) (defScope i_BadNumber) .none kVBadNumber dcBadNumber pmBadNumber anBadNumber cdBadNumber ctBadNumber), slBadNumber⟩) (cBadNumber : PySem.W.codeIn K cdBadNumber "BadNumber.__init__" = true) (kBadNumber : PySem.W.keepIn K (.ref fBadNumber) = true)
    (aBadPaper : PySem.W.nsIn K mainGlobals "BadPaper" = some (some (.ref CBadPaper))) (bBadPaper : clsB K CBadPaper ["paper"] = true) (iBadPaper : PySem.W.findIn K (.ref CBadPaper) "__init__" = some (some (.ref fBadPaper))) (tBadPaper : PySem.W.typeIn K (.ref fBadPaper) = some (.type "function")) (lBadPaper : K.lookup fBadPaper = some ⟨ocBadPaper, odBadPaper, .func (PySem.W.fnOf "__init__" "BadPaper.__init__" (defArgs i_BadPaper) (defBody i_BadPaper) (defScope i_BadPaper) .none kVBadPaper dcBadPaper pmBadPaper anBadPaper cdBadPaper ctBadPaper), slBadPaper⟩) (cBadPaper : PySem.W.codeIn K cdBadPaper "BadPaper.__init__" = true) (kBadPaper : PySem.W.keepIn K (.ref fBadPaper) = true)
    (aNotKept : PySem.W.nsIn K mainGlobals "NotKept" = some (some (.ref CNotKept))) (bNotKept : clsB K CNotKept ["promise", "witness"] = true) (iNotKept : PySem.W.findIn K (.ref CNotKept) "__init__" = some (some (.ref fNotKept))) (tNotKept : PySem.W.typeIn K (.ref fNotKept) = some (.type "function")) (lNotKept : K.lookup fNotKept = some ⟨ocNotKept, odNotKept, .func (PySem.W.fnOf "__init__" "NotKept.__init__" (defArgs i_NotKept) (defBody i_NotKept) (defScope i_NotKept) .none kVNotKept dcNotKept pmNotKept anNotKept cdNotKept ctNotKept), slNotKept⟩) (cNotKept : PySem.W.codeIn K cdNotKept "NotKept.__init__" = true) (kNotKept : PySem.W.keepIn K (.ref fNotKept) = true)
    : ∀ base : Heap, K.In base → base.Ns mainGlobals mg → FnG P w K mg base 34 fa 1 (spOf K mg 1 d_law) := by
  intro base _ _
  have XBadNumber : XcOk P w K mg base "BadNumber" ["what", "number"] CBadNumber := xc_mk2 X G aBadNumber bBadNumber iBadNumber tBadNumber lBadNumber cBadNumber kBadNumber si_BadNumber ib_BadNumber (by decide) (by decide) fun _ _ _ _ _ _ us hl => match us, hl with | [_, _, _], _ => rfl
  have XBadPaper : XcOk P w K mg base "BadPaper" ["paper"] CBadPaper := xc_mk1 X G aBadPaper bBadPaper iBadPaper tBadPaper lBadPaper cBadPaper kBadPaper si_BadPaper ib_BadPaper (by decide) fun _ _ _ _ _ _ us hl => match us, hl with | [_, _], _ => rfl
  have XNotKept : XcOk P w K mg base "NotKept" ["promise", "witness"] CNotKept := xc_mk2 X G aNotKept bNotKept iNotKept tNotKept lNotKept cNotKept kNotKept si_NotKept ib_NotKept (by decide) (by decide) fun _ _ _ _ _ _ us hl => match us, hl with | [_, _, _], _ => rfl
  have M0 : ModB tabs.isE tabs.B tabs.cg P w K mg base := by
    refine modB_of X G lk (fun c ns e hc => ?_) (by decide +kernel)
    have m := lookup_mem e
    simp only [tabs, List.mem_cons, Prod.mk.injEq, List.not_mem_nil, or_false] at m
    rcases m with ⟨rfl, rfl⟩ | ⟨rfl, rfl⟩ | ⟨rfl, rfl⟩
    · exact ⟨_, XBadNumber⟩
    · exact ⟨_, XBadPaper⟩
    · exact ⟨_, XNotKept⟩
  have D0 := fun_mk (st := s_is_whole) l0 c0 k0
  have b0 := D0.binds (ps := P_is_whole) fun _ _ _ _ _ _ us hl => match us, hl with | [_], _ => rfl
  have A0 : FnsOk P w K mg base 3 (addF F_is_whole "is_whole" d_is_whole) ("is_whole" :: L_is_whole) := fn_step M0 (FnsOk.nil (P := P) (w := w) (K := K) (mg := mg) (base := base) (k := 2) (F := tabs.B.fn)) (by decide) D0 sc_is_whole b0 (PySem.W.mg_of X G a0) c_is_whole ck_is_whole
  have D1 := fun_mk (st := s_is_count) l1 c1 k1
  have b1 := D1.binds (ps := P_is_count) fun _ _ _ _ _ _ us hl => match us, hl with | [_], _ => rfl
  have A1 : FnsOk P w K mg base 4 (addF F_is_count "is_count" d_is_count) ("is_count" :: L_is_count) := fn_step M0 (A0) (by decide) D1 sc_is_count b1 (PySem.W.mg_of X G a1) c_is_count ck_is_count
  have D2 := fun_mk (st := s_is_fraction) l2 c2 k2
  have b2 := D2.binds (ps := P_is_fraction) fun _ _ _ _ _ _ us hl => match us, hl with | [_], _ => rfl
  have A2 : FnsOk P w K mg base 5 (addF F_is_fraction "is_fraction" d_is_fraction) ("is_fraction" :: L_is_fraction) := fn_step M0 (A1) (by decide) D2 sc_is_fraction b2 (PySem.W.mg_of X G a2) c_is_fraction ck_is_fraction
  have D3 := fun_mk (st := s_unit_in) l3 c3 k3
  have b3 := D3.binds (ps := P_unit_in) fun _ _ _ _ _ _ us hl => match us, hl with | [_], _ => rfl
  have A3 : FnsOk P w K mg base 6 (addF F_unit_in "unit_in" d_unit_in) ("unit_in" :: L_unit_in) := fn_step M0 (A2) (by decide) D3 sc_unit_in b3 (PySem.W.mg_of X G a3) c_unit_in ck_unit_in
  have D4 := fun_mk (st := s_reduced) l4 c4 k4
  have b4 := D4.binds (ps := P_reduced) fun _ _ _ _ _ _ us hl => match us, hl with | [_, _], _ => rfl
  have A4 : FnsOk P w K mg base 7 (addF F_reduced "reduced" d_reduced) ("reduced" :: L_reduced) := fn_step M0 (A3) (by decide) D4 sc_reduced b4 (PySem.W.mg_of X G a4) c_reduced ck_reduced
  have D5 := fun_mk (st := s_times_in) l5 c5 k5
  have b5 := D5.binds (ps := P_times_in) fun _ _ _ _ _ _ us hl => match us, hl with | [_, _, _], _ => rfl
  have A5 : FnsOk P w K mg base 8 (addF F_times_in "times_in" d_times_in) ("times_in" :: L_times_in) := fn_step M0 (A4) (by decide) D5 sc_times_in b5 (PySem.W.mg_of X G a5) c_times_in ck_times_in
  have D6 := fun_mk (st := s_power_in) l6 c6 k6
  have b6 := D6.binds (ps := P_power_in) fun _ _ _ _ _ _ us hl => match us, hl with | [_, _, _], _ => rfl
  have A6 : FnsOk P w K mg base 9 (addF F_power_in "power_in" d_power_in) ("power_in" :: L_power_in) := fn_step M0 (A5) (by decide) D6 sc_power_in b6 (PySem.W.mg_of X G a6) c_power_in ck_power_in
  have D7 := fun_mk (st := s_inverse_in) l7 c7 k7
  have b7 := D7.binds (ps := P_inverse_in) fun _ _ _ _ _ _ us hl => match us, hl with | [_, _], _ => rfl
  have A7 : FnsOk P w K mg base 10 (addF F_inverse_in "inverse_in" d_inverse_in) ("inverse_in" :: L_inverse_in) := fn_step M0 (A6) (by decide) D7 sc_inverse_in b7 (PySem.W.mg_of X G a7) c_inverse_in ck_inverse_in
  have D8 := fun_mk (st := s_is_prime_number) l8 c8 k8
  have b8 := D8.binds (ps := P_is_prime_number) fun _ _ _ _ _ _ us hl => match us, hl with | [_], _ => rfl
  have A8 : FnsOk P w K mg base 11 (addF F_is_prime_number "is_prime_number" d_is_prime_number) ("is_prime_number" :: L_is_prime_number) := fn_step M0 (A7) (by decide) D8 sc_is_prime_number b8 (PySem.W.mg_of X G a8) c_is_prime_number ck_is_prime_number
  have D9 := fun_mk (st := s_is_great) l9 c9 k9
  have b9 := D9.binds (ps := P_is_great) fun _ _ _ _ _ _ us hl => match us, hl with | [_], _ => rfl
  have A9 : FnsOk P w K mg base 12 (addF F_is_great "is_great" d_is_great) ("is_great" :: L_is_great) := fn_step M0 (A8) (by decide) D9 sc_is_great b9 (PySem.W.mg_of X G a9) c_is_great ck_is_great
  have D10 := fun_mk (st := s_need_great) l10 c10 k10
  have b10 := D10.binds (ps := P_need_great) fun _ _ _ _ _ _ us hl => match us, hl with | [_], _ => rfl
  have A10 : FnsOk P w K mg base 13 (addF F_need_great "need_great" d_need_great) ("need_great" :: L_need_great) := fn_step M0 (A9) (by decide) D10 sc_need_great b10 (PySem.W.mg_of X G a10) c_need_great ck_need_great
  have D11 := fun_mk (st := s_next_in) l11 c11 k11
  have b11 := D11.binds (ps := P_next_in) fun _ _ _ _ _ _ us hl => match us, hl with | [_], _ => rfl
  have A11 : FnsOk P w K mg base 14 (addF F_next_in "next_in" d_next_in) ("next_in" :: L_next_in) := fn_step M0 (A10) (by decide) D11 sc_next_in b11 (PySem.W.mg_of X G a11) c_next_in ck_next_in
  have D12 := fun_mk (st := s_next_great) l12 c12 k12
  have b12 := D12.binds (ps := P_next_great) fun _ _ _ _ _ _ us hl => match us, hl with | [_], _ => rfl
  have A12 : FnsOk P w K mg base 15 (addF F_next_great "next_great" d_next_great) ("next_great" :: L_next_great) := fn_step M0 (A11) (by decide) D12 sc_next_great b12 (PySem.W.mg_of X G a12) c_next_great ck_next_great
  have D13 := fun_mk (st := s_rest_in) l13 c13 k13
  have b13 := D13.binds (ps := P_rest_in) fun _ _ _ _ _ _ us hl => match us, hl with | [_, _], _ => rfl
  have A13 : FnsOk P w K mg base 16 (addF F_rest_in "rest_in" d_rest_in) ("rest_in" :: L_rest_in) := fn_step M0 (A12) (by decide) D13 sc_rest_in b13 (PySem.W.mg_of X G a13) c_rest_in ck_rest_in
  have D14 := fun_mk (st := s_rest_by) l14 c14 k14
  have b14 := D14.binds (ps := P_rest_by) fun _ _ _ _ _ _ us hl => match us, hl with | [_, _], _ => rfl
  have A14 : FnsOk P w K mg base 17 (addF F_rest_by "rest_by" d_rest_by) ("rest_by" :: L_rest_by) := fn_step M0 (A13) (by decide) D14 sc_rest_by b14 (PySem.W.mg_of X G a14) c_rest_by ck_rest_by
  have D15 := fun_mk (st := s_together_in) l15 c15 k15
  have b15 := D15.binds (ps := P_together_in) fun _ _ _ _ _ _ us hl => match us, hl with | [_, _], _ => rfl
  have A15 : FnsOk P w K mg base 18 (addF F_together_in "together_in" d_together_in) ("together_in" :: L_together_in) := fn_step M0 (A14) (by decide) D15 sc_together_in b15 (PySem.W.mg_of X G a15) c_together_in ck_together_in
  have D16 := fun_mk (st := s_need_primes) l16 c16 k16
  have b16 := D16.binds (ps := P_need_primes) fun _ _ _ _ _ _ us hl => match us, hl with | [_], _ => rfl
  have A16 : FnsOk P w K mg base 19 (addF F_need_primes "need_primes" d_need_primes) ("need_primes" :: L_need_primes) := fn_step M0 (A15) (by decide) D16 sc_need_primes b16 (PySem.W.mg_of X G a16) c_need_primes ck_need_primes
  have D17 := fun_mk (st := s_put_together) l17 c17 k17
  have b17 := D17.binds (ps := P_put_together) fun _ _ _ _ _ _ us hl => match us, hl with | [_, _], _ => rfl
  have A17 : FnsOk P w K mg base 20 (addF F_put_together "put_together" d_put_together) ("put_together" :: L_put_together) := fn_step M0 (A16) (by decide) D17 sc_put_together b17 (PySem.W.mg_of X G a17) c_put_together ck_put_together
  have D18 := fun_mk (st := s_common_divisor) l18 c18 k18
  have b18 := D18.binds (ps := P_common_divisor) fun _ _ _ _ _ _ us hl => match us, hl with | [_, _], _ => rfl
  have A18 : FnsOk P w K mg base 21 (addF F_common_divisor "common_divisor" d_common_divisor) ("common_divisor" :: L_common_divisor) := fn_step M0 (A17) (by decide) D18 sc_common_divisor b18 (PySem.W.mg_of X G a18) c_common_divisor ck_common_divisor
  have D19 := fun_mk (st := s_back_in) l19 c19 k19
  have b19 := D19.binds (ps := P_back_in) fun _ _ _ _ _ _ us hl => match us, hl with | [_, _], _ => rfl
  have A19 : FnsOk P w K mg base 22 (addF F_back_in "back_in" d_back_in) ("back_in" :: L_back_in) := fn_step M0 (A18) (by decide) D19 sc_back_in b19 (PySem.W.mg_of X G a19) c_back_in ck_back_in
  have D20 := fun_mk (st := s_brought_back) l20 c20 k20
  have b20 := D20.binds (ps := P_brought_back) fun _ _ _ _ _ _ us hl => match us, hl with | [_, _], _ => rfl
  have A20 : FnsOk P w K mg base 23 (addF F_brought_back "brought_back" d_brought_back) ("brought_back" :: L_brought_back) := fn_step M0 (A19) (by decide) D20 sc_brought_back b20 (PySem.W.mg_of X G a20) c_brought_back ck_brought_back
  have D21 := fun_mk (st := s_l_pen) l21 c21 k21
  have b21 := D21.binds (ps := P_l_pen) fun _ _ _ _ _ _ us hl => match us, hl with | [_], _ => rfl
  have A21 : FnsOk P w K mg base 24 (addF F_l_pen "_law_pen" d_l_pen) ("_law_pen" :: L_l_pen) := fn_step M0 (A20) (by decide) D21 sc_l_pen b21 (PySem.W.mg_of X G a21) c_l_pen ck_l_pen
  have D22 := fun_mk (st := s_l_draw) l22 c22 k22
  have b22 := D22.binds (ps := P_l_draw) fun _ _ _ _ _ _ us hl => match us, hl with | [_, _], _ => rfl
  have A22 : FnsOk P w K mg base 25 (addF F_l_draw "_law_draw" d_l_draw) ("_law_draw" :: L_l_draw) := fn_step M0 (A21) (by decide) D22 sc_l_draw b22 (PySem.W.mg_of X G a22) c_l_draw ck_l_draw
  have D23 := fun_mk (st := s_l_pick) l23 c23 k23
  have b23 := D23.binds (ps := P_l_pick) fun _ _ _ _ _ _ us hl => match us, hl with | [_, _], _ => rfl
  have A23 : FnsOk P w K mg base 26 (addF F_l_pick "_law_pick" d_l_pick) ("_law_pick" :: L_l_pick) := fn_step M0 (A22) (by decide) D23 sc_l_pick b23 (PySem.W.mg_of X G a23) c_l_pick ck_l_pick
  have D24 := fun_mk (st := s_l_gcd) l24 c24 k24
  have b24 := D24.binds (ps := P_l_gcd) fun _ _ _ _ _ _ us hl => match us, hl with | [_, _], _ => rfl
  have A24 : FnsOk P w K mg base 27 (addF F_l_gcd "_law_gcd" d_l_gcd) ("_law_gcd" :: L_l_gcd) := fn_step M0 (A23) (by decide) D24 sc_l_gcd b24 (PySem.W.mg_of X G a24) c_l_gcd ck_l_gcd
  have D25 := fun_mk (st := s_l_lowest) l25 c25 k25
  have b25 := D25.binds (ps := P_l_lowest) fun _ _ _ _ _ _ us hl => match us, hl with | [_, _], _ => rfl
  have A25 : FnsOk P w K mg base 28 (addF F_l_lowest "_law_lowest" d_l_lowest) ("_law_lowest" :: L_l_lowest) := fn_step M0 (A24) (by decide) D25 sc_l_lowest b25 (PySem.W.mg_of X G a25) c_l_lowest ck_l_lowest
  have D26 := fun_mk (st := s_l_call) l26 c26 k26
  have b26 := D26.binds (ps := P_l_call) fun _ _ _ _ _ _ us hl => match us, hl with | [_, _, _], _ => rfl
  have A26 : FnsOk P w K mg base 29 (addF F_l_call "_law_call" d_l_call) ("_law_call" :: L_l_call) := fn_step M0 (A25) (by decide) D26 sc_l_call b26 (PySem.W.mg_of X G a26) c_l_call ck_l_call
  have D27 := fun_mk (st := s_l_raised) l27 c27 k27
  have b27 := D27.binds (ps := P_l_raised) fun _ _ _ _ _ _ us hl => match us, hl with | [_, _, _], _ => rfl
  have A27 : FnsOk P w K mg base 30 (addF F_l_raised "_law_raised" d_l_raised) ("_law_raised" :: L_l_raised) := fn_step M0 (A26) (by decide) D27 sc_l_raised b27 (PySem.W.mg_of X G a27) c_l_raised ck_l_raised
  have D28 := fun_mk (st := s_l_is_prime) l28 c28 k28
  have b28 := D28.binds (ps := P_l_is_prime) fun _ _ _ _ _ _ us hl => match us, hl with | [_], _ => rfl
  have A28 : FnsOk P w K mg base 31 (addF F_l_is_prime "_law_is_prime" d_l_is_prime) ("_law_is_prime" :: L_l_is_prime) := fn_step M0 (A27) (by decide) D28 sc_l_is_prime b28 (PySem.W.mg_of X G a28) c_l_is_prime ck_l_is_prime
  have D29 := fun_mk (st := s_l_power_by) l29 c29 k29
  have b29 := D29.binds (ps := P_l_power_by) fun _ _ _ _ _ _ us hl => match us, hl with | [_, _, _], _ => rfl
  have A29 : FnsOk P w K mg base 32 (addF F_l_power_by "_law_power_by" d_l_power_by) ("_law_power_by" :: L_l_power_by) := fn_step M0 (A28) (by decide) D29 sc_l_power_by b29 (PySem.W.mg_of X G a29) c_l_power_by ck_l_power_by
  have D30 := fun_mk (st := s_l_errors_right) l30 c30 k30
  have b30 := D30.binds (ps := P_l_errors_right) fun _ _ _ _ _ _ us hl => match us, hl with | [_], _ => rfl
  have A30 : FnsOk P w K mg base 33 (addF F_l_errors_right "_law_errors_right" d_l_errors_right) ("_law_errors_right" :: L_l_errors_right) := fn_step M0 (A29) (by decide) D30 sc_l_errors_right b30 (PySem.W.mg_of X G a30) c_l_errors_right ck_l_errors_right
  have D31 := fun_mk (st := s_law) l31 c31 k31
  have b31 := D31.binds (ps := P_law) fun _ _ _ _ _ _ us hl => match us, hl with | [_], _ => rfl
  have e := hfa.symm.trans (PySem.W.mg_of X G a31)
  cases e
  exact fn_last M0 A30 (by decide) D31 sc_law b31 c_law ck_law
end K22
open PySem PySem.W PyProof.Rows
set_option maxRecDepth 100000 in
set_option maxHeartbeats 0 in
theorem PySem.Challenge.cw_keptpapers_k22_whole_rests_put_together_holds : PySem.Challenge.rw_keptpapers_k22_whole_rests_put_together.Holds := by
  w_on; o_law; k_head; (case hw => w_witness2)
  k_fill
  refine Dn.walk_ofG (l := PySem.Challenge.rw_keptpapers_k22_whole_rests_put_together) (n := 63) (k := 34) (m := K22.d_law) rfl (by decide) rfl ⟨rfl, by decide, by decide⟩ (fun w h Y => PySem.W.kIn_of Y) ?F K22.plain
  case F =>
    intro w mg fa h KX G hmg
    refine' K22.all_mk KX G hmg ?lk ?a0 ?l0 ?c0 ?k0 ?a1 ?l1 ?c1 ?k1 ?a2 ?l2 ?c2 ?k2 ?a3 ?l3 ?c3 ?k3 ?a4 ?l4 ?c4 ?k4 ?a5 ?l5 ?c5 ?k5 ?a6 ?l6 ?c6 ?k6 ?a7 ?l7 ?c7 ?k7 ?a8 ?l8 ?c8 ?k8 ?a9 ?l9 ?c9 ?k9 ?a10 ?l10 ?c10 ?k10 ?a11 ?l11 ?c11 ?k11 ?a12 ?l12 ?c12 ?k12 ?a13 ?l13 ?c13 ?k13 ?a14 ?l14 ?c14 ?k14 ?a15 ?l15 ?c15 ?k15 ?a16 ?l16 ?c16 ?k16 ?a17 ?l17 ?c17 ?k17 ?a18 ?l18 ?c18 ?k18 ?a19 ?l19 ?c19 ?k19 ?a20 ?l20 ?c20 ?k20 ?a21 ?l21 ?c21 ?k21 ?a22 ?l22 ?c22 ?k22 ?a23 ?l23 ?c23 ?k23 ?a24 ?l24 ?c24 ?k24 ?a25 ?l25 ?c25 ?k25 ?a26 ?l26 ?c26 ?k26 ?a27 ?l27 ?c27 ?k27 ?a28 ?l28 ?c28 ?k28 ?a29 ?l29 ?c29 ?k29 ?a30 ?l30 ?c30 ?k30 ?a31 ?l31 ?c31 ?k31 ?aBadNumber ?bBadNumber ?iBadNumber ?tBadNumber ?lBadNumber ?cBadNumber ?kBadNumber ?aBadPaper ?bBadPaper ?iBadPaper ?tBadPaper ?lBadPaper ?cBadPaper ?kBadPaper ?aNotKept ?bNotKept ?iNotKept ?tNotKept ?lNotKept ?cNotKept ?kNotKept
    case lk => kernel_rfl
    case a0 => k_is
    case l0 => k_is
    case c0 => k_is
    case k0 => k_is
    case a1 => k_is
    case l1 => k_is
    case c1 => k_is
    case k1 => k_is
    case a2 => k_is
    case l2 => k_is
    case c2 => k_is
    case k2 => k_is
    case a3 => k_is
    case l3 => k_is
    case c3 => k_is
    case k3 => k_is
    case a4 => k_is
    case l4 => k_is
    case c4 => k_is
    case k4 => k_is
    case a5 => k_is
    case l5 => k_is
    case c5 => k_is
    case k5 => k_is
    case a6 => k_is
    case l6 => k_is
    case c6 => k_is
    case k6 => k_is
    case a7 => k_is
    case l7 => k_is
    case c7 => k_is
    case k7 => k_is
    case a8 => k_is
    case l8 => k_is
    case c8 => k_is
    case k8 => k_is
    case a9 => k_is
    case l9 => k_is
    case c9 => k_is
    case k9 => k_is
    case a10 => k_is
    case l10 => k_is
    case c10 => k_is
    case k10 => k_is
    case a11 => k_is
    case l11 => k_is
    case c11 => k_is
    case k11 => k_is
    case a12 => k_is
    case l12 => k_is
    case c12 => k_is
    case k12 => k_is
    case a13 => k_is
    case l13 => k_is
    case c13 => k_is
    case k13 => k_is
    case a14 => k_is
    case l14 => k_is
    case c14 => k_is
    case k14 => k_is
    case a15 => k_is
    case l15 => k_is
    case c15 => k_is
    case k15 => k_is
    case a16 => k_is
    case l16 => k_is
    case c16 => k_is
    case k16 => k_is
    case a17 => k_is
    case l17 => k_is
    case c17 => k_is
    case k17 => k_is
    case a18 => k_is
    case l18 => k_is
    case c18 => k_is
    case k18 => k_is
    case a19 => k_is
    case l19 => k_is
    case c19 => k_is
    case k19 => k_is
    case a20 => k_is
    case l20 => k_is
    case c20 => k_is
    case k20 => k_is
    case a21 => k_is
    case l21 => k_is
    case c21 => k_is
    case k21 => k_is
    case a22 => k_is
    case l22 => k_is
    case c22 => k_is
    case k22 => k_is
    case a23 => k_is
    case l23 => k_is
    case c23 => k_is
    case k23 => k_is
    case a24 => k_is
    case l24 => k_is
    case c24 => k_is
    case k24 => k_is
    case a25 => k_is
    case l25 => k_is
    case c25 => k_is
    case k25 => k_is
    case a26 => k_is
    case l26 => k_is
    case c26 => k_is
    case k26 => k_is
    case a27 => k_is
    case l27 => k_is
    case c27 => k_is
    case k27 => k_is
    case a28 => k_is
    case l28 => k_is
    case c28 => k_is
    case k28 => k_is
    case a29 => k_is
    case l29 => k_is
    case c29 => k_is
    case k29 => k_is
    case a30 => k_is
    case l30 => k_is
    case c30 => k_is
    case k30 => k_is
    case a31 => k_is
    case l31 => k_is
    case c31 => k_is
    case k31 => k_is
    case aBadNumber => k_is
    case bBadNumber => kernel_rfl
    case iBadNumber => k_is
    case tBadNumber => k_is
    case lBadNumber => k_is
    case cBadNumber => k_is
    case kBadNumber => k_is
    case aBadPaper => k_is
    case bBadPaper => kernel_rfl
    case iBadPaper => k_is
    case tBadPaper => k_is
    case lBadPaper => k_is
    case cBadPaper => k_is
    case kBadPaper => k_is
    case aNotKept => k_is
    case bNotKept => kernel_rfl
    case iNotKept => k_is
    case tNotKept => k_is
    case lNotKept => k_is
    case cNotKept => k_is
    case kNotKept => k_is
