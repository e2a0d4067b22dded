import PyProof.Rows.All
import Wide.All
import OpenK.AllK
import Wide.FinOn
import HandS.ForMost
import HandS.ForExc
import HandS.ExcInit
import HandS.Walk
import HandS.Star
import HandS.Nested
import HandS.ClsMeth
import KE.KExcSuper
import HandS.Defaults
import HandS.Wide
import HandS.IsInst
import KE.KExcIs
import HandS.Zip
import PyProof.InstEq
import KE.KTypeName
import PyProof.ReprRoads
import HandS.Ends
import HandS.NoneIn
import HandS.OwnEq
import PyProof.NeKinds
import PySem.Challenge.RW_freedbyhand_k45_papers_of_any_values
set_option Elab.async false
set_option linter.all false
set_option maxRecDepth 100000
/-! # DCore: python values as Lean data -/
namespace DL
open PySem PySem.Spec PyProof.Rows L2

/-- a python value: tuples, frozen lists and frozen instances by content; what changes by a number of the store -/
inductive D where
  | non
  | bl (b : Bool)
  | int (i : Int)
  | str (x : Str)
  | tup (l : List D)
  | lst (l : List D)
  | rdl (l : List D)
  | dic (ks : List (Key × D))
  | ins (c : String) (fs : List (Str × D))
  | exn (c : String) (fs : List (Str × D))
  | cls (c : String)
  | ty (n : String)
  | ref (i : Nat)

/-- what the store holds -/
inductive MO where
  | lst (l : List D)
  | dic (ks : List (Key × D))
  | ins (c : String) (fs : List (Str × D))

structure Sto where
  n : Nat
  m : Nat → Option MO
def Sto.set (st : Sto) (i : Nat) (o : MO) : Sto := ⟨st.n, fun j => if j = i then some o else st.m j⟩
def Sto.del (st : Sto) (i : Nat) : Sto := ⟨st.n, fun j => if j = i then none else st.m j⟩
def Sto.new (st : Sto) (o : MO) : Sto := ⟨st.n + 1, fun j => if j = st.n then some o else st.m j⟩

/-- where the store's numbers lie; what is frozen; what is held aside; the heap -/
structure Wd where
  ρ : Nat → Option Addr
  F : Addr → Prop
  T : Addr → Prop
  H : Hp
def Wd.put (W : Wd) (p : Addr) (o : HO) : Wd := ⟨W.ρ, fun a => W.F a ∨ a = p, W.T, upd W.H p o⟩

structure Wd.le (W W' : Wd) : Prop where
  r : ∀ i a, W.ρ i = some a → W'.ρ i = some a
  f : ∀ a, W.F a → W'.F a
  h : ∀ a, W.F a → W'.H a = W.H a
  t : W'.T = W.T
  k : ∀ a, W.T a → W'.H a = W.H a
theorem Wd.le.rfl' {W : Wd} : W.le W := ⟨fun _ _ h => h, fun _ h => h, fun _ _ => rfl, rfl, fun _ _ => rfl⟩
theorem Wd.le.trans {W W1 W2 : Wd} (a : W.le W1) (b : W1.le W2) : W.le W2 :=
  ⟨fun i x h => b.r i x (a.r i x h), fun x h => b.f x (a.f x h), fun x h => (b.h x (a.f x h)).trans (a.h x h), b.t.trans a.t, fun x h => (b.k x (by rw [a.t]; exact h)).trans (a.k x h)⟩
/-- an object of the store, or one held aside, is frozen -/
def Wd.frz (W : Wd) (a : Addr) : Wd := ⟨W.ρ, fun b => W.F b ∨ b = a, W.T, W.H⟩
/-- what the values hang on -/
structure Wd.lf (W W' : Wd) : Prop where
  r : ∀ i a, W.ρ i = some a → W'.ρ i = some a
  f : ∀ a, W.F a → W'.F a
  h : ∀ a, W.F a → W'.H a = W.H a
theorem Wd.le.lf {W W' : Wd} (l : W.le W') : W.lf W' := ⟨l.r, l.f, l.h⟩
theorem Wd.lf.trans {W W1 W2 : Wd} (a : W.lf W1) (b : W1.lf W2) : W.lf W2 :=
  ⟨fun i x h => b.r i x (a.r i x h), fun x h => b.f x (a.f x h), fun x h => (b.h x (a.f x h)).trans (a.h x h)⟩
/-- more, or less, held aside -/
def Wd.hold (W : Wd) (T : Addr → Prop) : Wd := ⟨W.ρ, W.F, T, W.H⟩
theorem Wd.le.unhold {W W' : Wd} {T : Addr → Prop} (l : (W.hold T).le W') (h : ∀ a, W.T a → T a) : W.le (W'.hold W.T) :=
  ⟨l.r, l.f, l.h, rfl, fun a q => l.k a (h a q)⟩

/-- where the classes of the text lie -/
abbrev CG := String → Option Addr

mutual
inductive RelD (K : PySem.W.Frag) (G : CG) (W : Wd) : D → V → Prop
  | non : RelD K G W .non .non
  | bl (b : Bool) : RelD K G W (.bl b) (.bl b)
  | int (i : Int) : RelD K G W (.int i) (.int i)
  | str (x : Str) : RelD K G W (.str x) (.str x)
  | tup {ds : List D} {vs : List V} {a : Addr} : W.F a → W.H a = some (.tup vs) → RelDs K G W ds vs → RelD K G W (.tup ds) (.ref a)
  | tupK {ds : List D} {vs : List V} {a : Addr} : (∀ H, SqT K H a vs) → RelDs K G W ds vs → RelD K G W (.tup ds) (.ref a)
  | lst {ds : List D} {vs : List V} {a : Addr} : W.F a → W.H a = some (.lst vs) → RelDs K G W ds vs → RelD K G W (.lst ds) (.ref a)
  | rdl {ds : List D} {vs : List V} {a : Addr} : W.F a → Rd W.H a (.lst vs) → RelDs K G W ds vs → RelD K G W (.rdl ds) (.ref a)
  | rdlK {ds : List D} {vs : List V} {a : Addr} : (∀ H, SqL K H a vs) → RelDs K G W ds vs → RelD K G W (.rdl ds) (.ref a)
  | ins {c : String} {fs : List (Str × D)} {gs : List (Str × V)} {a C dx : Addr} : W.F a → G c = some C → W.H a = some (.ins C dx gs) → RelFs K G W fs gs → RelD K G W (.ins c fs) (.ref a)
  | dic {ks : List (Key × D)} {gs : List (Key × V)} {a : Addr} : W.F a → W.H a = some (.dK gs) → RelKs K G W ks gs → RelD K G W (.dic ks) (.ref a)
  | exn {c : String} {fs : List (Str × D)} {gs : List (Str × V)} {a C dx : Addr} : W.F a → W.F dx → G c = some C → W.H a = some (exo a C (some dx)) → W.H dx = some (exd dx gs) → RelFs K G W fs gs → RelD K G W (.exn c fs) (.ref a)
  | cls {c : String} {C : Addr} : G c = some C → RelD K G W (.cls c) (.ref C)
  | ty (n : String) : RelD K G W (.ty n) (.ty n)
  | ref {i : Nat} {a : Addr} : W.ρ i = some a → RelD K G W (.ref i) (.ref a)
inductive RelDs (K : PySem.W.Frag) (G : CG) (W : Wd) : List D → List V → Prop
  | nil : RelDs K G W [] []
  | cons {d : D} {ds : List D} {v : V} {vs : List V} : RelD K G W d v → RelDs K G W ds vs → RelDs K G W (d :: ds) (v :: vs)
inductive RelFs (K : PySem.W.Frag) (G : CG) (W : Wd) : List (Str × D) → List (Str × V) → Prop
  | nil : RelFs K G W [] []
  | cons {f : Str} {d : D} {fs : List (Str × D)} {v : V} {gs : List (Str × V)} : RelD K G W d v → RelFs K G W fs gs → RelFs K G W ((f, d) :: fs) ((f, v) :: gs)
inductive RelKs (K : PySem.W.Frag) (G : CG) (W : Wd) : List (Key × D) → List (Key × V) → Prop
  | nil : RelKs K G W [] []
  | cons {f : Key} {d : D} {fs : List (Key × D)} {v : V} {gs : List (Key × V)} : RelD K G W d v → RelKs K G W fs gs → RelKs K G W ((f, d) :: fs) ((f, v) :: gs)
end

section
variable {K : PySem.W.Frag} {G : CG} {W W' : Wd}
mutual
theorem RelD.re (lr : ∀ i a, W.ρ i = some a → W'.ρ i = some a) (lf : ∀ a, W.F a → W'.F a) (lh : ∀ a, W.F a → W'.H a = W.H a) : ∀ {d : D} {v : V}, RelD K G W d v → RelD K G W' d v
  | _, _, .non => .non
  | _, _, .bl b => .bl b
  | _, _, .int i => .int i
  | _, _, .str x => .str x
  | _, _, .tup hf hr hs => .tup (lf _ hf) ((lh _ hf).trans hr) (RelDs.re lr lf lh hs)
  | _, _, .rdl hf hr hs => .rdl (lf _ hf) (by unfold Rd at *; rw [lh _ hf]; exact hr) (RelDs.re lr lf lh hs)
  | _, _, .rdlK hr hs => .rdlK hr (RelDs.re lr lf lh hs)
  | _, _, .tupK hr hs => .tupK hr (RelDs.re lr lf lh hs)
  | _, _, .lst hf hr hs => .lst (lf _ hf) ((lh _ hf).trans hr) (RelDs.re lr lf lh hs)
  | _, _, .ins hf hc hr hs => .ins (lf _ hf) hc (by rw [lh _ hf]; exact hr) (RelFs.re lr lf lh hs)
  | _, _, .dic hf hr hs => .dic (lf _ hf) ((lh _ hf).trans hr) (RelKs.re lr lf lh hs)
  | _, _, .exn hf hd hc hr hx hs => .exn (lf _ hf) (lf _ hd) hc (by rw [lh _ hf]; exact hr) (by rw [lh _ hd]; exact hx) (RelFs.re lr lf lh hs)
  | _, _, .cls h => .cls h
  | _, _, .ty n => .ty n
  | _, _, .ref h => .ref (lr _ _ h)
theorem RelDs.re (lr : ∀ i a, W.ρ i = some a → W'.ρ i = some a) (lf : ∀ a, W.F a → W'.F a) (lh : ∀ a, W.F a → W'.H a = W.H a) : ∀ {ds : List D} {vs : List V}, RelDs K G W ds vs → RelDs K G W' ds vs
  | _, _, .nil => .nil
  | _, _, .cons h t => .cons (RelD.re lr lf lh h) (RelDs.re lr lf lh t)
theorem RelFs.re (lr : ∀ i a, W.ρ i = some a → W'.ρ i = some a) (lf : ∀ a, W.F a → W'.F a) (lh : ∀ a, W.F a → W'.H a = W.H a) : ∀ {fs : List (Str × D)} {gs : List (Str × V)}, RelFs K G W fs gs → RelFs K G W' fs gs
  | _, _, .nil => .nil
  | _, _, .cons h t => .cons (RelD.re lr lf lh h) (RelFs.re lr lf lh t)
theorem RelKs.re (lr : ∀ i a, W.ρ i = some a → W'.ρ i = some a) (lf : ∀ a, W.F a → W'.F a) (lh : ∀ a, W.F a → W'.H a = W.H a) : ∀ {fs : List (Key × D)} {gs : List (Key × V)}, RelKs K G W fs gs → RelKs K G W' fs gs
  | _, _, .nil => .nil
  | _, _, .cons h t => .cons (RelD.re lr lf lh h) (RelKs.re lr lf lh t)
end
theorem RelD.up (l : W.le W') {d : D} {v : V} (r : RelD K G W d v) : RelD K G W' d v := r.re l.r l.f l.h
theorem RelDs.up (l : W.le W') {ds : List D} {vs : List V} (r : RelDs K G W ds vs) : RelDs K G W' ds vs := r.re l.r l.f l.h
theorem RelFs.up (l : W.le W') {fs : List (Str × D)} {gs : List (Str × V)} (r : RelFs K G W fs gs) : RelFs K G W' fs gs := r.re l.r l.f l.h
theorem RelKs.up (l : W.le W') {fs : List (Key × D)} {gs : List (Key × V)} (r : RelKs K G W fs gs) : RelKs K G W' fs gs := r.re l.r l.f l.h
theorem RelKs.uf (l : W.lf W') {fs : List (Key × D)} {gs : List (Key × V)} (r : RelKs K G W fs gs) : RelKs K G W' fs gs := r.re l.r l.f l.h
theorem RelD.uf (l : W.lf W') {d : D} {v : V} (r : RelD K G W d v) : RelD K G W' d v := r.re l.r l.f l.h
theorem RelDs.uf (l : W.lf W') {ds : List D} {vs : List V} (r : RelDs K G W ds vs) : RelDs K G W' ds vs := r.re l.r l.f l.h
theorem RelFs.uf (l : W.lf W') {fs : List (Str × D)} {gs : List (Str × V)} (r : RelFs K G W fs gs) : RelFs K G W' fs gs := r.re l.r l.f l.h
theorem RelDs.length : ∀ {ds : List D} {vs : List V}, RelDs K G W ds vs → ds.length = vs.length
  | _, _, .nil => rfl
  | _, _, .cons _ t => by simp [RelDs.length t]
theorem RelDs.get : ∀ {ds : List D} {vs : List V} {i : Nat} {d : D}, RelDs K G W ds vs → ds[i]? = some d → ∃ v, vs[i]? = some v ∧ RelD K G W d v
  | _, _, _, _, .nil, e => by simp at e
  | _, _, 0, _, .cons r _, e => by simp at e; subst e; exact ⟨_, rfl, r⟩
  | _, _, i + 1, d, .cons _ t, e => by
    obtain ⟨v, h1, h2⟩ := RelDs.get (i := i) (d := d) t (by simpa using e)
    exact ⟨v, by simpa using h1, h2⟩
theorem RelDs.getV : ∀ {ds : List D} {vs : List V} {i : Nat} {v : V}, RelDs K G W ds vs → vs[i]? = some v → ∃ d, ds[i]? = some d ∧ RelD K G W d v
  | _, _, _, _, .nil, e => by simp at e
  | _, _, 0, _, .cons r _, e => by simp at e; subst e; exact ⟨_, rfl, r⟩
  | _, _, i + 1, d, .cons _ t, e => by
    obtain ⟨v, h1, h2⟩ := RelDs.getV (i := i) (v := d) t (by simpa using e)
    exact ⟨v, by simpa using h1, h2⟩
theorem RelDs.append : ∀ {ds es : List D} {vs us : List V}, RelDs K G W ds vs → RelDs K G W es us → RelDs K G W (ds ++ es) (vs ++ us)
  | _, _, _, _, .nil, s => s
  | _, _, _, _, .cons r t, s => .cons r (RelDs.append t s)
theorem RelDs.take : ∀ {ds : List D} {vs : List V} (n : Nat), RelDs K G W ds vs → RelDs K G W (ds.take n) (vs.take n)
  | _, _, 0, _ => .nil
  | _, _, _ + 1, .nil => .nil
  | _, _, n + 1, .cons r t => .cons r (RelDs.take n t)
theorem RelDs.drop : ∀ {ds : List D} {vs : List V} (n : Nat), RelDs K G W ds vs → RelDs K G W (ds.drop n) (vs.drop n)
  | _, _, 0, r => r
  | _, _, _ + 1, .nil => .nil
  | _, _, n + 1, .cons _ t => RelDs.drop n t
theorem RelDs.set {d : D} {v : V} (r : RelD K G W d v) : ∀ {ds : List D} {vs : List V} (i : Nat), RelDs K G W ds vs → RelDs K G W (ds.set i d) (vs.set i v)
  | _, _, _, .nil => .nil
  | _, _, 0, .cons _ t => .cons r t
  | _, _, i + 1, .cons q t => .cons q (RelDs.set r i t)
theorem RelFs.look : ∀ {fs : List (Str × D)} {gs : List (Str × V)} {f : Str} {d : D}, RelFs K G W fs gs → fs.lookup f = some d → ∃ v, gs.lookup f = some v ∧ RelD K G W d v
  | _, _, _, _, .nil, e => by simp at e
  | _, _, f, d, .cons (f := g) r t, e => by
    rw [List.lookup_cons] at e
    rw [List.lookup_cons]
    cases hb : f == g with
    | true => rw [hb] at e; simp at e; subst e; exact ⟨_, rfl, r⟩
    | false => rw [hb] at e; exact RelFs.look t e
theorem RelFs.look_none : ∀ {fs : List (Str × D)} {gs : List (Str × V)} {f : Str}, RelFs K G W fs gs → fs.lookup f = none → gs.lookup f = none
  | _, _, _, .nil, e => rfl
  | _, _, f, .cons (f := g) r t, e => by
    rw [List.lookup_cons] at e
    rw [List.lookup_cons]
    cases hb : f == g with
    | true => rw [hb] at e; simp at e
    | false => rw [hb] at e; exact RelFs.look_none t e
theorem RelFs.length : ∀ {fs : List (Str × D)} {gs : List (Str × V)}, RelFs K G W fs gs → fs.length = gs.length
  | _, _, .nil => rfl
  | _, _, .cons _ t => by simp [RelFs.length t]
end

/-- o.f = d among the attributes -/
def putD (f : Str) (d : D) : List (Str × D) → List (Str × D)
  | [] => [(f, d)]
  | (g, e) :: r => if g = f then (g, d) :: r else (g, e) :: putD f d r

/-- the store lies in the heap -/
inductive RelM (K : PySem.W.Frag) (G : CG) (W : Wd) : MO → Addr → Prop
  | dic {ks : List (Key × D)} {gs : List (Key × V)} {a : Addr} : W.H a = some (.dK gs) → RelKs K G W ks gs → RelM K G W (.dic ks) a
  | lst {ds : List D} {vs : List V} {a : Addr} : W.H a = some (.lst vs) → RelDs K G W ds vs → RelM K G W (.lst ds) a
  | ins {c : String} {fs : List (Str × D)} {gs : List (Str × V)} {a C dx : Addr} : G c = some C → W.H a = some (.ins C dx gs) → RelFs K G W fs gs → RelM K G W (.ins c fs) a
structure Abs (K : PySem.W.Frag) (G : CG) (W : Wd) (st : Sto) : Prop where
  fz : ∀ a, W.F a ∨ W.T a → ∃ o, W.H a = some o
  ft : ∀ a, W.F a → ¬ W.T a
  obj : ∀ i o, st.m i = some o → ∃ a, W.ρ i = some a ∧ ¬ (W.F a ∨ W.T a) ∧ RelM K G W o a
  inj : ∀ i j o u a, st.m i = some o → st.m j = some u → W.ρ i = some a → W.ρ j = some a → i = j
  new : ∀ i, st.n ≤ i → W.ρ i = none
theorem RelM.some {K : PySem.W.Frag} {G : CG} {W : Wd} {o : MO} {a : Addr} (r : RelM K G W o a) : ∃ u, W.H a = Option.some u := by
  cases r with
  | lst h _ => exact ⟨_, h⟩
  | dic h _ => exact ⟨_, h⟩
  | ins _ h _ => exact ⟨_, h⟩
theorem Abs.lt {K : PySem.W.Frag} {G : CG} {W : Wd} {st : Sto} (A : Abs K G W st) {i : Nat} {o : MO} (h : st.m i = some o) : i < st.n := by
  obtain ⟨a, e, _⟩ := A.obj i o h
  refine Nat.lt_of_not_le fun z => ?_
  rw [A.new i z] at e; cases e

section
variable {K : PySem.W.Frag} {G : CG} {W W' : Wd} {st st' : Sto} {p : Addr} {o : HO}
theorem Abs.old (A : Abs K G W st) (hp : W.H p = none) {a : Addr} (h : W.F a ∨ W.T a) : upd W.H p o a = W.H a := by
  obtain ⟨u, e⟩ := A.fz a h
  exact upd_ne (ne_of_none e hp)
theorem Wd.le_put (A : Abs K G W st) (hp : W.H p = none) : W.le (W.put p o) :=
  ⟨fun _ _ h => h, fun _ h => .inl h, fun a h => A.old hp (.inl h), rfl, fun a h => A.old hp (.inr h)⟩
/-- a new frozen object -/
theorem Abs.put (A : Abs K G W st) (hp : W.H p = none) : Abs K G (W.put p o) st := by
  have l := Wd.le_put (o := o) A hp
  have nT : ¬ W.T p := fun z => by
    obtain ⟨u, e⟩ := A.fz p (.inr z)
    rw [hp] at e; cases e
  refine ⟨fun a h => ?_, fun a h => ?_, fun i m h => ?_, A.inj, A.new⟩
  · have h' : (W.F a ∨ a = p) ∨ W.T a := h
    rcases h' with (h | rfl) | h
    · obtain ⟨u, e⟩ := A.fz a (.inl h)
      exact ⟨u, (upd_ne (ne_of_none e hp)).trans e⟩
    · exact ⟨o, upd_same⟩
    · obtain ⟨u, e⟩ := A.fz a (.inr h)
      exact ⟨u, (upd_ne (ne_of_none e hp)).trans e⟩
  · have h' : W.F a ∨ a = p := h
    rcases h' with h | rfl
    · exact A.ft a h
    · exact nT
  · obtain ⟨a, e, nf, r⟩ := A.obj i m h
    obtain ⟨u, eu⟩ := r.some
    have na : a ≠ p := ne_of_none eu hp
    refine ⟨a, e, fun z => ?_, ?_⟩
    · have z' : (W.F a ∨ a = p) ∨ W.T a := z
      rcases z' with (z | z) | z
      · exact nf (.inl z)
      · exact na z
      · exact nf (.inr z)
    cases r with
    | lst h1 h2 => exact .lst ((upd_ne na).trans h1) (h2.up l)
    | dic h1 h2 => exact .dic ((upd_ne na).trans h1) (h2.up l)
    | ins h0 h1 h2 => exact .ins h0 ((upd_ne na).trans h1) (h2.up l)
/-- another object, neither frozen nor the store's, may come at a free place -/
theorem Abs.aside (A : Abs K G W st) (hp : W.H p = none) : Abs K G ⟨W.ρ, W.F, W.T, upd W.H p o⟩ st ∧ W.le ⟨W.ρ, W.F, W.T, upd W.H p o⟩ := by
  have l : W.le ⟨W.ρ, W.F, W.T, upd W.H p o⟩ := ⟨fun _ _ h => h, fun _ h => h, fun a h => A.old hp (.inl h), rfl, fun a h => A.old hp (.inr h)⟩
  refine ⟨⟨fun a h => ?_, A.ft, fun i m h => ?_, A.inj, A.new⟩, l⟩
  · obtain ⟨u, e⟩ := A.fz a h
    exact ⟨u, (upd_ne (ne_of_none e hp)).trans e⟩
  · obtain ⟨a, e, nf, r⟩ := A.obj i m h
    obtain ⟨u, eu⟩ := r.some
    have na : a ≠ p := ne_of_none eu hp
    refine ⟨a, e, nf, ?_⟩
    cases r with
    | lst h1 h2 => exact .lst ((upd_ne na).trans h1) (h2.up l)
    | dic h1 h2 => exact .dic ((upd_ne na).trans h1) (h2.up l)
    | ins h0 h1 h2 => exact .ins h0 ((upd_ne na).trans h1) (h2.up l)
/-- .. and be held aside -/
theorem Abs.keepT (A : Abs K G W st) {T : Addr → Prop} (h1 : ∀ a, T a → ∃ o, W.H a = some o) (h2 : ∀ a, T a → ¬ W.F a) (h3 : ∀ i o a, st.m i = some o → W.ρ i = some a → ¬ T a) : Abs K G (W.hold T) st := by
  refine ⟨fun a h => h.elim (fun h => A.fz a (.inl h)) (h1 a), fun a h z => h2 a z h, fun i m h => ?_, A.inj, A.new⟩
  obtain ⟨a, e, nf, r⟩ := A.obj i m h
  refine ⟨a, e, fun z => z.elim (fun z => nf (.inl z)) (h3 i m a h e), ?_⟩
  have up : ∀ {ds vs}, RelDs K G W ds vs → RelDs K G (W.hold T) ds vs := fun r => r.re (W := W) (W' := W.hold T) (fun _ _ h => h) (fun _ h => h) (fun _ _ => rfl)
  have upF : ∀ {ds vs}, RelFs K G W ds vs → RelFs K G (W.hold T) ds vs := fun r => r.re (W := W) (W' := W.hold T) (fun _ _ h => h) (fun _ h => h) (fun _ _ => rfl)
  have upK : ∀ {ds vs}, RelKs K G W ds vs → RelKs K G (W.hold T) ds vs := fun r => r.re (W := W) (W' := W.hold T) (fun _ _ h => h) (fun _ h => h) (fun _ _ => rfl)
  cases r with
  | lst h1 h2 => exact .lst h1 (up h2)
  | dic h1 h2 => exact .dic h1 (upK h2)
  | ins h0 h1 h2 => exact .ins h0 h1 (upF h2)
/-- less is held aside -/
theorem Abs.drop (A : Abs K G W st) {T : Addr → Prop} (h : ∀ a, T a → W.T a) : Abs K G (W.hold T) st := by
  refine ⟨fun a z => A.fz a (z.imp id (h a)), fun a z t => A.ft a z (h a t), fun i m z => ?_, A.inj, A.new⟩
  obtain ⟨a, e, nf, r⟩ := A.obj i m z
  have l : W.lf (W.hold T) := ⟨fun _ _ h => h, fun _ h => h, fun _ _ => rfl⟩
  refine ⟨a, e, fun z => nf (z.imp id (h a)), ?_⟩
  cases r with
  | lst h1 h2 => exact .lst h1 (h2.uf l)
  | dic h1 h2 => exact .dic h1 (h2.uf l)
  | ins h0 h1 h2 => exact .ins h0 h1 (h2.uf l)
/-- what is held aside is written -/
theorem Abs.wrT (A : Abs K G W st) {p : Addr} {o : HO} (hp : W.T p) : Abs K G ⟨W.ρ, W.F, W.T, upd W.H p o⟩ st := by
  have l : W.lf ⟨W.ρ, W.F, W.T, upd W.H p o⟩ := ⟨fun _ _ h => h, fun _ h => h, fun a h => upd_ne fun (z : a = p) => A.ft a h (by rw [z]; exact hp)⟩
  refine ⟨fun a h => ?_, A.ft, fun i m h => ?_, A.inj, A.new⟩
  · by_cases hap : a = p
    · exact ⟨o, by rw [hap]; exact upd_same⟩
    · obtain ⟨u, e⟩ := A.fz a h
      exact ⟨u, (upd_ne hap).trans e⟩
  · obtain ⟨a, e, nf, r⟩ := A.obj i m h
    have na : a ≠ p := fun z => nf (.inr (by rw [z]; exact hp))
    refine ⟨a, e, nf, ?_⟩
    cases r with
    | lst h1 h2 => exact .lst ((upd_ne na).trans h1) (h2.uf l)
    | dic h1 h2 => exact .dic ((upd_ne na).trans h1) (h2.uf l)
    | ins h0 h1 h2 => exact .ins h0 ((upd_ne na).trans h1) (h2.uf l)
/-- what was held aside is frozen -/
theorem Abs.frzT (A : Abs K G W st) {p : Addr} {T : Addr → Prop} (hp : W.T p) (h : ∀ a, T a → W.T a) (hn : ¬ T p) : Abs K G ((W.hold T).frz p) st := by
  have l : W.lf ((W.hold T).frz p) := ⟨fun _ _ h => h, fun _ h => .inl h, fun _ _ => rfl⟩
  refine ⟨fun a z => ?_, fun a z t => ?_, fun i m z => ?_, A.inj, A.new⟩
  · have z' : (W.F a ∨ a = p) ∨ T a := z
    rcases z' with (z | rfl) | z
    · exact A.fz a (.inl z)
    · exact A.fz a (.inr hp)
    · exact A.fz a (.inr (h a z))
  · have z' : W.F a ∨ a = p := z
    rcases z' with z | rfl
    · exact A.ft a z (h a t)
    · exact hn t
  · obtain ⟨a, e, nf, r⟩ := A.obj i m z
    refine ⟨a, e, fun z => ?_, ?_⟩
    · have z' : (W.F a ∨ a = p) ∨ T a := z
      rcases z' with (z | rfl) | z
      · exact nf (.inl z)
      · exact nf (.inr hp)
      · exact nf (.inr (h a z))
    cases r with
    | lst h1 h2 => exact .lst h1 (h2.uf l)
    | dic h1 h2 => exact .dic h1 (h2.uf l)
    | ins h0 h1 h2 => exact .ins h0 h1 (h2.uf l)
/-- a new object of the store -/
def Wd.add (W : Wd) (n : Nat) (p : Addr) (o : HO) : Wd := ⟨fun i => if i = n then some p else W.ρ i, W.F, W.T, upd W.H p o⟩
theorem Wd.le_add (A : Abs K G W st) (hp : W.H p = none) : W.le (W.add st.n p o) :=
  ⟨fun i a h => by
    show (if i = st.n then some p else W.ρ i) = some a
    rw [if_neg (fun z => by rw [z, A.new st.n (Nat.le_refl _)] at h; cases h)]; exact h, fun _ h => h, fun a h => A.old hp (.inl h), rfl, fun a h => A.old hp (.inr h)⟩
theorem Abs.add (A : Abs K G W st) (hp : W.H p = none) {m : MO} (r : RelM K G (W.add st.n p o) m p) : Abs K G (W.add st.n p o) (st.new m) := by
  have l := Wd.le_add (o := o) A hp
  refine ⟨fun a h => ?_, A.ft, fun i u h => ?_, fun i j u v a h1 h2 e1 e2 => ?_, fun i h => ?_⟩
  · obtain ⟨u, e⟩ := A.fz a h
    exact ⟨u, (upd_ne (ne_of_none e hp)).trans e⟩
  · have h' : (if i = st.n then some m else st.m i) = some u := h
    by_cases hi : i = st.n
    · rw [if_pos hi] at h'
      cases h'
      refine ⟨p, (by show (if i = st.n then some p else W.ρ i) = some p; rw [if_pos hi]), fun z => ?_, r⟩
      obtain ⟨u, e⟩ := A.fz p z
      rw [hp] at e; cases e
    · rw [if_neg hi] at h'
      obtain ⟨a, e, nf, r'⟩ := A.obj i u h'
      obtain ⟨w, ew⟩ := r'.some
      have na : a ≠ p := ne_of_none ew hp
      refine ⟨a, (by show (if i = st.n then some p else W.ρ i) = some a; rw [if_neg hi]; exact e), nf, ?_⟩
      cases r' with
      | lst h1 h2 => exact .lst ((upd_ne na).trans h1) (h2.up l)
      | dic h1 h2 => exact .dic ((upd_ne na).trans h1) (h2.up l)
      | ins h0 h1 h2 => exact .ins h0 ((upd_ne na).trans h1) (h2.up l)
  · have h1' : (if i = st.n then some m else st.m i) = some u := h1
    have h2' : (if j = st.n then some m else st.m j) = some v := h2
    have e1' : (if i = st.n then some p else W.ρ i) = some a := e1
    have e2' : (if j = st.n then some p else W.ρ j) = some a := e2
    have old : ∀ {k : Nat} {q : MO}, st.m k = some q → W.ρ k = some p → False := fun {k q} hk hr => by
      obtain ⟨b, eb, _, rb⟩ := A.obj k q hk
      rw [hr] at eb
      cases eb
      obtain ⟨w, ew⟩ := rb.some
      rw [hp] at ew; cases ew
    by_cases hi : i = st.n <;> by_cases hj : j = st.n
    · rw [hi, hj]
    · rw [if_pos hi] at e1'
      cases e1'
      rw [if_neg hj] at h2' e2'
      exact (old h2' e2').elim
    · rw [if_pos hj] at e2'
      cases e2'
      rw [if_neg hi] at h1' e1'
      exact (old h1' e1').elim
    · rw [if_neg hi] at h1' e1'
      rw [if_neg hj] at h2' e2'
      exact A.inj i j u v a h1' h2' e1' e2'
  · have hi : st.n + 1 ≤ i := h
    show (if i = st.n then some p else W.ρ i) = none
    rw [if_neg (by omega)]
    exact A.new i (by omega)
/-- an object of the store is written -/
def Wd.wr (W : Wd) (a : Addr) (o : HO) : Wd := ⟨W.ρ, W.F, W.T, upd W.H a o⟩
theorem Wd.le_wr {a : Addr} (nf : ¬ (W.F a ∨ W.T a)) : W.le (W.wr a o) :=
  ⟨fun _ _ h => h, fun _ h => h, fun b h => upd_ne fun (z : b = a) => nf (by rw [← z]; exact .inl h), rfl, fun b h => upd_ne fun (z : b = a) => nf (by rw [← z]; exact .inr h)⟩
theorem Abs.wr (A : Abs K G W st) {i : Nat} {m m' : MO} {a : Addr} (hm : st.m i = some m) (hr : W.ρ i = some a) (r : RelM K G (W.wr a o) m' a) : Abs K G (W.wr a o) (st.set i m') := by
  obtain ⟨a', ea, nf, _⟩ := A.obj i m hm
  rw [hr] at ea
  cases ea
  have l := Wd.le_wr (o := o) nf
  refine ⟨fun b h => ?_, A.ft, fun j u h => ?_, fun j k u v b h1 h2 e1 e2 => ?_, A.new⟩
  · obtain ⟨u, e⟩ := A.fz b h
    exact ⟨u, (upd_ne fun (z : b = a) => nf (by rw [← z]; exact h)).trans e⟩
  · have h' : (if j = i then some m' else st.m j) = some u := h
    by_cases hj : j = i
    · rw [if_pos hj] at h'
      cases h'
      exact ⟨a, by rw [hj]; exact hr, nf, r⟩
    · rw [if_neg hj] at h'
      obtain ⟨b, e, nb, r'⟩ := A.obj j u h'
      have na : b ≠ a := fun z => hj (A.inj j i u m a h' hm (z ▸ e) hr)
      refine ⟨b, e, nb, ?_⟩
      cases r' with
      | lst h1 h2 => exact .lst ((upd_ne na).trans h1) (h2.up l)
      | dic h1 h2 => exact .dic ((upd_ne na).trans h1) (h2.up l)
      | ins h0 h1 h2 => exact .ins h0 ((upd_ne na).trans h1) (h2.up l)
  · have h1' : (if j = i then some m' else st.m j) = some u := h1
    have h2' : (if k = i then some m' else st.m k) = some v := h2
    have old : ∀ {k : Nat} {u : MO}, (if k = i then some m' else st.m k) = some u → ∃ u', st.m k = some u' := fun {k u} h => by
      by_cases hk : k = i
      · exact ⟨m, by rw [hk]; exact hm⟩
      · rw [if_neg hk] at h; exact ⟨u, h⟩
    obtain ⟨u', q1⟩ := old h1'
    obtain ⟨v', q2⟩ := old h2'
    exact A.inj j k u' v' b q1 q2 e1 e2
/-- an object of the store is frozen -/
theorem Wd.le_frz {a : Addr} : W.le (W.frz a) := ⟨fun _ _ h => h, fun _ h => .inl h, fun _ _ => rfl, rfl, fun _ _ => rfl⟩
theorem Abs.frz (A : Abs K G W st) {i : Nat} {m : MO} {a : Addr} (hm : st.m i = some m) (hr : W.ρ i = some a) : Abs K G (W.frz a) (st.del i) := by
  have l := Wd.le_frz (W := W) (a := a)
  obtain ⟨a', ea, nfa, ra⟩ := A.obj i m hm
  rw [hr] at ea
  cases ea
  refine ⟨fun b h => ?_, fun b h => ?_, fun j u h => ?_, fun j k u v b h1 h2 e1 e2 => ?_, A.new⟩
  · have h' : (W.F b ∨ b = a) ∨ W.T b := h
    rcases h' with (h | rfl) | h
    · exact A.fz b (.inl h)
    · exact ra.some
    · exact A.fz b (.inr h)
  · have h' : W.F b ∨ b = a := h
    rcases h' with h | rfl
    · exact A.ft b h
    · exact fun z => nfa (.inr z)
  · have h' : (if j = i then none else st.m j) = some u := h
    by_cases hj : j = i
    · rw [if_pos hj] at h'; cases h'
    · rw [if_neg hj] at h'
      obtain ⟨b, e, nb, r'⟩ := A.obj j u h'
      have na : b ≠ a := fun z => hj (A.inj j i u m a h' hm (z ▸ e) hr)
      refine ⟨b, e, fun z => ?_, ?_⟩
      · have z' : (W.F b ∨ b = a) ∨ W.T b := z
        rcases z' with (z | z) | z
        · exact nb (.inl z)
        · exact na z
        · exact nb (.inr z)
      cases r' with
      | lst h1 h2 => exact .lst h1 (h2.up l)
      | dic h1 h2 => exact .dic h1 (h2.up l)
      | ins h0 h1 h2 => exact .ins h0 h1 (h2.up l)
  · have cut : ∀ {k : Nat} {u : MO}, (if k = i then none else st.m k) = some u → st.m k = some u := fun {k u} h => by
      by_cases hk : k = i
      · rw [if_pos hk] at h; cases h
      · rw [if_neg hk] at h; exact h
    exact A.inj j k u v b (cut h1) (cut h2) e1 e2
end
end DL

set_option Elab.async false
set_option linter.all false
set_option maxRecDepth 100000
/-! # DJudge: denotations, readings made of them, names, constants, displays, operators -/
namespace DL
open PySem PySem.Spec PyProof.Rows L2

abbrev DEnv := List (Option D)
/-- what a piece of code comes to: bad is no claim -/
inductive Out (α : Type) where
  | bad
  | ok (a : α) (st : Sto)
  | exc (c : String) (fs : List (Str × D)) (st : Sto)
def Out.bind {α β : Type} (o : Out α) (k : α → Sto → Out β) : Out β := match o with
  | .bad => .bad
  | .ok a st => k a st
  | .exc c fs st => .exc c fs st
inductive SOut where
  | bad
  | nx (env : DEnv) (st : Sto)
  | rt (d : D) (st : Sto)
  | bk (env : DEnv) (st : Sto)
  | ct (env : DEnv) (st : Sto)
  | exc (c : String) (fs : List (Str × D)) (env : DEnv) (st : Sto)
/-- from an expression on to statements -/
def Out.go {α : Type} (o : Out α) (env : DEnv) (k : α → Sto → SOut) : SOut := match o with
  | .bad => .bad
  | .ok a st => k a st
  | .exc c fs st => .exc c fs env st

abbrev Den := DEnv → Sto → Out D
abbrev DenA := DEnv → Sto → Out (List D)
abbrev DenB := DEnv → Sto → Out Bool
abbrev DenS := DEnv → Sto → SOut

section
variable (K : PySem.W.Frag) (G : CG)
def REnv (W : Wd) (env : DEnv) (σ : L2.St) : Prop := env.length = σ.length ∧ ∀ (i : Nat) (d : D), env[i]? = some (some d) → ∃ v : V, σ[i]? = some (some v) ∧ RelD K G W d v
/-- an exception of the class c with these fields lies as X wants it -/
def XcOk (W : Wd) (xw : XK) (c : String) (fs : List (Str × D)) (st : Sto) : Prop :=
  ∀ W' C dd gs, W.le W' → Abs K G W' st → G c = some C → W'.H dd = some (.xd gs) → RelFs K G W' fs gs → xw (.ref C) (some dd) W'.H
def Post (W : Wd) (xw : XK) (o : Out D) (Q : VK) : Prop := match o with
  | .bad => False
  | .ok d st => ∀ W' v, W.le W' → Abs K G W' st → RelD K G W' d v → Q v W'.H
  | .exc c fs st => XcOk K G W xw c fs st
def PostA (W : Wd) (xw : XK) (o : Out (List D)) (Q : List V → Hp → Prop) : Prop := match o with
  | .bad => False
  | .ok ds st => ∀ W' vs, W.le W' → Abs K G W' st → RelDs K G W' ds vs → Q vs W'.H
  | .exc c fs st => XcOk K G W xw c fs st
def PostB (W : Wd) (xw : XK) (o : Out Bool) (Q : Bool → Hp → Prop) : Prop := match o with
  | .bad => False
  | .ok b st => ∀ W', W.le W' → Abs K G W' st → Q b W'.H
  | .exc c fs st => XcOk K G W xw c fs st
def PostS (W : Wd) (wx : WX) (o : SOut) (D : Ends) : Prop := match o with
  | .bad => False
  | .nx env st => ∀ W' σ', W.le W' → Abs K G W' st → REnv K G W' env σ' → D.nx σ' W'.H
  | .rt d st => ∀ W' v, W.le W' → Abs K G W' st → RelD K G W' d v → D.rt v W'.H
  | .bk env st => ∀ W' σ', W.le W' → Abs K G W' st → REnv K G W' env σ' → D.bk σ' W'.H
  | .ct env st => ∀ W' σ', W.le W' → Abs K G W' st → REnv K G W' env σ' → D.ct σ' W'.H
  | .exc c fs env st => ∀ σ', ∀ W1, W.le W1 → REnv K G W1 env σ' → XcOk K G W1 (fun cls d H => wx cls d σ' H) c fs st
def rE (wx : WX) (g : Den) : TE := fun σ H Q => ∃ W env st, W.H = H ∧ Abs K G W st ∧ REnv K G W env σ ∧ Post K G W (fun cls d H => wx cls d σ H) (g env st) Q
def rA (wx : WX) (g : DenA) : TA := fun σ H Q => ∃ W env st, W.H = H ∧ Abs K G W st ∧ REnv K G W env σ ∧ PostA K G W (fun cls d H => wx cls d σ H) (g env st) Q
def rB (wx : WX) (g : DenB) : TT := fun σ H Q => ∃ W env st, W.H = H ∧ Abs K G W st ∧ REnv K G W env σ ∧ PostB K G W (fun cls d H => wx cls d σ H) (g env st) Q
def rS (wx : WX) (g : DenS) : TS := fun D σ H => ∃ W env st, W.H = H ∧ Abs K G W st ∧ REnv K G W env σ ∧ PostS K G W wx (g env st) D
/-- a two-place operation by values; it raises nothing -/
def r2 (f : D → D → Sto → Out D) : R2 := fun x y H Q => ∃ W d e st, W.H = H ∧ Abs K G W st ∧ RelD K G W d x ∧ RelD K G W e y ∧ Post K G W (fun _ _ _ => False) (f d e st) Q
def r1 (f : D → Sto → Out D) : V → Hp → VK → Prop := fun x H Q => ∃ W d st, W.H = H ∧ Abs K G W st ∧ RelD K G W d x ∧ Post K G W (fun _ _ _ => False) (f d st) Q
def rN (f : List D → Sto → Out D) : List V → Hp → VK → Prop := fun xs H Q => ∃ W ds st, W.H = H ∧ Abs K G W st ∧ RelDs K G W ds xs ∧ Post K G W (fun _ _ _ => False) (f ds st) Q
/-- a def's promise by its mirror -/
def spD (f : List D → Sto → Out D) : Sp := fun vs H Q E => ∃ W ds st, W.H = H ∧ Abs K G W st ∧ RelDs K G W ds vs ∧ Post K G W E (f ds st) Q
end

structure DE (X : Cx) (G : CG) (wx : WX) (e : Expr) (g : Den) : Prop where
  pe : PE X e (rE X.K G wx g)
structure DB (X : Cx) (G : CG) (wx : WX) (e : Expr) (g : DenB) : Prop where
  pt : PT X e (rB X.K G wx g)
structure DBW (X : Cx) (G : CG) (wx : WX) (e : Expr) (g : DenB) : Prop where
  pw : PW X e (rB X.K G wx g)
structure DA (X : Cx) (G : CG) (wx : WX) (es : List Expr) (g : DenA) : Prop where
  pa : PA X es (rA X.K G wx g)
structure DS (X : Cx) (G : CG) (wx : WX) (st : Stmt) (g : DenS) : Prop where
  ps : PS X st (rS X.K G wx g)
structure DSs (X : Cx) (G : CG) (wx : WX) (sts : List Stmt) (g : DenS) : Prop where
  pss : PSs X sts (rS X.K G wx g)

theorem _root_.L2.PE.imp {X : Cx} {e : Expr} {t t' : TE} (h : PE X e t) (i : ∀ σ H Q, t' σ H Q → t σ H Q) : PE X e t' := ⟨fun pins s σ H Q I q => h.run pins s σ H Q I (i σ H Q q)⟩
theorem _root_.L2.PT.imp {X : Cx} {e : Expr} {t t' : TT} (h : PT X e t) (i : ∀ σ H Q, t' σ H Q → t σ H Q) : PT X e t' := ⟨fun pins s σ H Q I q => h.run pins s σ H Q I (i σ H Q q)⟩
theorem _root_.L2.PW.imp {X : Cx} {e : Expr} {t t' : TT} (h : PW X e t) (i : ∀ σ H Q, t' σ H Q → t σ H Q) : PW X e t' := ⟨fun wh pins s σ H Q I q => h.run wh pins s σ H Q I (i σ H Q q)⟩
theorem _root_.L2.PA.imp {X : Cx} {e : List Expr} {t t' : TA} (h : PA X e t) (i : ∀ σ H Q, t' σ H Q → t σ H Q) : PA X e t' := ⟨fun pos pins s σ H Q I q => h.run pos pins s σ H Q I (i σ H Q q)⟩
theorem _root_.L2.PS.imp {X : Cx} {e : Stmt} {t t' : TS} (h : PS X e t) (i : ∀ D σ H, t' D σ H → t D σ H) : PS X e t' := ⟨fun pins s σ H D I q => h.run pins s σ H D I (i D σ H q)⟩
theorem _root_.L2.PSs.imp {X : Cx} {e : List Stmt} {t t' : TS} (h : PSs X e t) (i : ∀ D σ H, t' D σ H → t D σ H) : PSs X e t' := ⟨fun pins s σ H D I q => h.run pins s σ H D I (i D σ H q)⟩

section
variable {K : PySem.W.Frag} {G : CG} {W W' : Wd} {xw : XK} {wx : WX} {σ : L2.St} {env : DEnv} {st : Sto}
theorem REnv.up (r : REnv K G W env σ) (l : W.le W') : REnv K G W' env σ := ⟨r.1, fun i d e => let ⟨v, h1, h2⟩ := r.2 i d e; ⟨v, h1, h2.up l⟩⟩
theorem REnv.set {i : Nat} {d : D} {v : V} (r : REnv K G W env σ) (rd : RelD K G W d v) : REnv K G W (env.set i (some d)) (σ.set i (some v)) := by
  refine ⟨by rw [List.length_set, List.length_set]; exact r.1, fun j e h => ?_⟩
  by_cases hj : i = j
  · subst hj
    by_cases hl : i < env.length
    · rw [List.getElem?_set_self hl] at h
      cases h
      exact ⟨v, List.getElem?_set_self (r.1 ▸ hl), rd⟩
    · rw [List.getElem?_eq_none (by rw [List.length_set]; omega)] at h
      cases h
  · rw [List.getElem?_set_ne hj] at h ⊢
    exact r.2 j e h
theorem XcOk.up {c : String} {fs : List (Str × D)} (x : XcOk K G W xw c fs st) (l : W.le W') : XcOk K G W' xw c fs st := fun W2 C dd gs l2 => x W2 C dd gs (l.trans l2)
theorem XcOk.imp {c : String} {fs : List (Str × D)} {xw' : XK} (x : XcOk K G W xw c fs st) (h : ∀ cls d H, xw cls d H → xw' cls d H) : XcOk K G W xw' c fs st := fun W2 C dd gs l2 a g e r => h _ _ _ (x W2 C dd gs l2 a g e r)
theorem Post.up {o : Out D} {Q : VK} (p : Post K G W xw o Q) (l : W.le W') : Post K G W' xw o Q := by
  cases o with
  | bad => exact p
  | ok d st => exact fun W2 v l2 => p W2 v (l.trans l2)
  | exc c fs st => exact XcOk.up p l
theorem PostA.up {o : Out (List D)} {Q : List V → Hp → Prop} (p : PostA K G W xw o Q) (l : W.le W') : PostA K G W' xw o Q := by
  cases o with
  | bad => exact p
  | ok d st => exact fun W2 v l2 => p W2 v (l.trans l2)
  | exc c fs st => exact XcOk.up p l
theorem PostB.up {o : Out Bool} {Q : Bool → Hp → Prop} (p : PostB K G W xw o Q) (l : W.le W') : PostB K G W' xw o Q := by
  cases o with
  | bad => exact p
  | ok d st => exact fun W2 l2 => p W2 (l.trans l2)
  | exc c fs st => exact XcOk.up p l
theorem PostS.up {o : SOut} {D : Ends} (p : PostS K G W wx o D) (l : W.le W') : PostS K G W' wx o D := by
  cases o with
  | bad => exact p
  | nx env st => exact fun W2 σ' l2 => p W2 σ' (l.trans l2)
  | rt d st => exact fun W2 v l2 => p W2 v (l.trans l2)
  | bk env st => exact fun W2 σ' l2 => p W2 σ' (l.trans l2)
  | ct env st => exact fun W2 σ' l2 => p W2 σ' (l.trans l2)
  | exc c fs env st => exact fun σ' W1 l2 => p σ' W1 (l.trans l2)
/-- an expression, then more -/
theorem Post.bind {o : Out D} {k : D → Sto → Out D} {Q : VK} {Q' : VK} (p : Post K G W xw (o.bind k) Q)
    (h : ∀ d st W' v, o = .ok d st → W.le W' → Abs K G W' st → RelD K G W' d v → Post K G W' xw (k d st) Q → Q' v W'.H) : Post K G W xw o Q' := by
  cases o with
  | bad => exact p
  | ok d st => exact fun W' v l a r => h d st W' v rfl l a r (Post.up p l)
  | exc c fs st => exact p
/-- .. for any kinds of ends -/
theorem Post.bindB {o : Out D} {k : D → Sto → Out Bool} {Q : Bool → Hp → Prop} {Q' : VK} (p : PostB K G W xw (o.bind k) Q)
    (h : ∀ d st W' v, o = .ok d st → W.le W' → Abs K G W' st → RelD K G W' d v → PostB K G W' xw (k d st) Q → Q' v W'.H) : Post K G W xw o Q' := by
  cases o with
  | bad => exact p
  | ok d st => exact fun W' v l a r => h d st W' v rfl l a r (PostB.up p l)
  | exc c fs st => exact p
theorem Post.bindA {o : Out D} {k : D → Sto → Out (List D)} {Q : List V → Hp → Prop} {Q' : VK} (p : PostA K G W xw (o.bind k) Q)
    (h : ∀ d st W' v, o = .ok d st → W.le W' → Abs K G W' st → RelD K G W' d v → PostA K G W' xw (k d st) Q → Q' v W'.H) : Post K G W xw o Q' := by
  cases o with
  | bad => exact p
  | ok d st => exact fun W' v l a r => h d st W' v rfl l a r (PostA.up p l)
  | exc c fs st => exact p
theorem Post.go {o : Out D} {k : D → Sto → SOut} {D : Ends} {Q' : VK} (re : REnv K G W env σ) (p : PostS K G W wx (o.go env k) D)
    (h : ∀ d st W' v, o = .ok d st → W.le W' → Abs K G W' st → RelD K G W' d v → PostS K G W' wx (k d st) D → Q' v W'.H) : Post K G W (fun cls d H => wx cls d σ H) o Q' := by
  cases o with
  | bad => exact p
  | ok d st => exact fun W' v l a r => h d st W' v rfl l a r (PostS.up p l)
  | exc c fs st => exact p σ W .rfl' re
theorem PostA.bind {o : Out (List D)} {k : List D → Sto → Out D} {Q : VK} {Q' : List V → Hp → Prop} (p : Post K G W xw (o.bind k) Q)
    (h : ∀ ds st W' vs, o = .ok ds st → W.le W' → Abs K G W' st → RelDs K G W' ds vs → Post K G W' xw (k ds st) Q → Q' vs W'.H) : PostA K G W xw o Q' := by
  cases o with
  | bad => exact p
  | ok d st => exact fun W' v l a r => h d st W' v rfl l a r (Post.up p l)
  | exc c fs st => exact p
theorem PostA.bindA {o : Out (List D)} {k : List D → Sto → Out (List D)} {Q : List V → Hp → Prop} {Q' : List V → Hp → Prop} (p : PostA K G W xw (o.bind k) Q)
    (h : ∀ ds st W' vs, o = .ok ds st → W.le W' → Abs K G W' st → RelDs K G W' ds vs → PostA K G W' xw (k ds st) Q → Q' vs W'.H) : PostA K G W xw o Q' := by
  cases o with
  | bad => exact p
  | ok d st => exact fun W' v l a r => h d st W' v rfl l a r (PostA.up p l)
  | exc c fs st => exact p
theorem PostB.bind {o : Out Bool} {k : Bool → Sto → Out D} {Q : VK} {Q' : Bool → Hp → Prop} (p : Post K G W xw (o.bind k) Q)
    (h : ∀ b st W', o = .ok b st → W.le W' → Abs K G W' st → Post K G W' xw (k b st) Q → Q' b W'.H) : PostB K G W xw o Q' := by
  cases o with
  | bad => exact p
  | ok d st => exact fun W' l a => h d st W' rfl l a (Post.up p l)
  | exc c fs st => exact p
theorem PostB.bindB {o : Out Bool} {k : Bool → Sto → Out Bool} {Q : Bool → Hp → Prop} {Q' : Bool → Hp → Prop} (p : PostB K G W xw (o.bind k) Q)
    (h : ∀ b st W', o = .ok b st → W.le W' → Abs K G W' st → PostB K G W' xw (k b st) Q → Q' b W'.H) : PostB K G W xw o Q' := by
  cases o with
  | bad => exact p
  | ok d st => exact fun W' l a => h d st W' rfl l a (PostB.up p l)
  | exc c fs st => exact p
theorem PostB.go {o : Out Bool} {k : Bool → Sto → SOut} {D : Ends} {Q' : Bool → Hp → Prop} (re : REnv K G W env σ) (p : PostS K G W wx (o.go env k) D)
    (h : ∀ b st W', o = .ok b st → W.le W' → Abs K G W' st → PostS K G W' wx (k b st) D → Q' b W'.H) : PostB K G W (fun cls d H => wx cls d σ H) o Q' := by
  cases o with
  | bad => exact p
  | ok d st => exact fun W' l a => h d st W' rfl l a (PostS.up p l)
  | exc c fs st => exact p σ W .rfl' re
/-- an end without exceptions is one with any wish -/
theorem Post.any {o : Out D} {Q : VK} (p : Post K G W (fun _ _ _ => False) o Q) : Post K G W xw o Q := by
  cases o with
  | bad => exact p
  | ok d st => exact p
  | exc c fs st => exact XcOk.imp (xw := fun _ _ _ => False) p fun _ _ _ z => False.elim z
end

section
variable {X : Cx} {G : CG} {wx : WX} {a b c : Expr} {ga gb gc : Den} {pos : Pos}

/-! ### names, constants -/
def dVar (i : Nat) : Den := fun env st => match env[i]? with | some (some d) => .ok d st | _ => .bad
def dC (d : D) : Den := fun _ st => .ok d st
theorem de_var {i : Nat} {x : Str} (h : PE X (.Name x pos) (tVar i)) : DE X G wx (.Name x pos) (dVar i) := ⟨h.imp fun σ H Q q => by
  obtain ⟨W, env, st, rfl, A, re, p⟩ := q
  unfold dVar at p
  split at p
  · rename_i d hd
    obtain ⟨v, h1, h2⟩ := re.2 i d hd
    exact ⟨v, h1, p W v .rfl' A h2⟩
  · exact False.elim p⟩
theorem de_const {e : Expr} {d : D} {v : V} (h : PE X e (tC v)) (r : ∀ W, RelD X.K G W d v) : DE X G wx e (dC d) := ⟨h.imp fun σ H Q q => by
  obtain ⟨W, env, st, rfl, A, re, p⟩ := q
  exact p W v .rfl' A (r W)⟩
theorem de_int {i : Int} {j : Nat} : DE X G wx (.Constant (.int i) j pos) (dC (.int i)) := de_const pe_int fun _ => .int i
theorem de_str {x : Str} {j : Nat} : DE X G wx (.Constant (.str x) j pos) (dC (.str x)) := de_const pe_str fun _ => .str x
theorem de_bl {k : Bool} {j : Nat} : DE X G wx (.Constant (.bool k) j pos) (dC (.bl k)) := de_const pe_bl fun _ => .bl k
theorem de_non {j : Nat} : DE X G wx (.Constant .none j pos) (dC .non) := de_const pe_non fun _ => .non

/-! ### arguments and displays -/
def dNil : DenA := fun _ st => .ok [] st
def dCons (g : Den) (r : DenA) : DenA := fun env st => (g env st).bind fun d st1 => (r env st1).bind fun ds st2 => .ok (d :: ds) st2
theorem da_nil : DA X G wx [] dNil := ⟨pa_nil.imp fun σ H Q q => by
  obtain ⟨W, env, st, rfl, A, re, p⟩ := q
  exact p W [] .rfl' A .nil⟩
theorem da_cons {es : List Expr} {r : DenA} (ha : DE X G wx a ga) (hr : DA X G wx es r) (hs : starEach (a :: es) X.env = (false, eval a X.env) :: starEach es X.env := by rfl) : DA X G wx (a :: es) (dCons ga r) :=
  ⟨(pa_cons ha.pe hr.pa hs).imp fun σ H Q q => by
    obtain ⟨W, env, st, rfl, A, re, p⟩ := q
    refine ⟨W, env, st, rfl, A, re, Post.bindA p fun d st1 W1 v _ l1 A1 r1 p1 => ?_⟩
    refine ⟨W1, env, st1, rfl, A1, re.up l1, PostA.bindA p1 fun ds st2 W2 vs _ l2 A2 r2 p2 => ?_⟩
    exact p2 W2 (v :: vs) .rfl' A2 (.cons (r1.up l2) r2)⟩
/-- so long a row can be made -/
def chk (ds : List D) (k : Out D) : Out D := if ds.length ≤ 10000000 then k else .bad
theorem chk_line {ds : List D} (h : ds.length ≤ 10000000) : ds.length ≤ sizeLine := by rw [sizeLine_eq]; omega
def dTup (g : DenA) : Den := fun env st => (g env st).bind fun ds st1 => chk ds (.ok (.tup ds) st1)
def dLst (g : DenA) : Den := fun env st => (g env st).bind fun ds st1 => chk ds (.ok (.lst ds) st1)
/-- a list that will be changed -/
def dNew (g : DenA) : Den := fun env st => (g env st).bind fun ds st1 => chk ds (.ok (.ref st1.n) (st1.new (.lst ds)))
theorem rd_put {H : Hp} {p : Addr} {o : HO} : Rd (upd H p o) p o := .inl upd_same
theorem de_tup {es : List Expr} {g : DenA} {j : Nat} (h : DA X G wx es g) : DE X G wx (.Tuple es j pos) (dTup g) := ⟨(pe_tup h.pa).imp fun σ H Q q => by
  obtain ⟨W, env, st, rfl, A, re, p⟩ := q
  refine ⟨W, env, st, rfl, A, re, PostA.bind p fun ds st1 W1 vs _ l1 A1 r1 p1 => ?_⟩
  unfold chk at p1
  split at p1
  · rename_i hz
    refine ⟨by rw [← r1.length]; exact chk_line hz, fun q hq => ?_⟩
    have l := Wd.le_put (o := .tup vs) A1 hq
    exact p1 (W1.put q (.tup vs)) (.ref q) l (A1.put hq) (.tup (.inr rfl) upd_same (r1.up l))
  · exact False.elim p1⟩
theorem de_lst {es : List Expr} {g : DenA} (h : DA X G wx es g) : DE X G wx (.List es pos) (dLst g) := ⟨(pe_lst h.pa).imp fun σ H Q q => by
  obtain ⟨W, env, st, rfl, A, re, p⟩ := q
  refine ⟨W, env, st, rfl, A, re, PostA.bind p fun ds st1 W1 vs _ l1 A1 r1 p1 => ?_⟩
  unfold chk at p1
  split at p1
  · rename_i hz
    refine ⟨by rw [← r1.length]; exact chk_line hz, fun q hq => ?_⟩
    have l := Wd.le_put (o := .lst vs) A1 hq
    exact p1 (W1.put q (.lst vs)) (.ref q) l (A1.put hq) (.lst (.inr rfl) upd_same (r1.up l))
  · exact False.elim p1⟩
theorem de_new {es : List Expr} {g : DenA} (h : DA X G wx es g) : DE X G wx (.List es pos) (dNew g) := ⟨(pe_lst h.pa).imp fun σ H Q q => by
  obtain ⟨W, env, st, rfl, A, re, p⟩ := q
  refine ⟨W, env, st, rfl, A, re, PostA.bind p fun ds st1 W1 vs _ l1 A1 r1 p1 => ?_⟩
  unfold chk at p1
  split at p1
  · rename_i hz
    refine ⟨by rw [← r1.length]; exact chk_line hz, fun q hq => ?_⟩
    have l := Wd.le_add (o := .lst vs) A1 hq
    exact p1 (W1.add st1.n q (.lst vs)) (.ref q) l (A1.add hq (.lst upd_same (r1.up l))) (.ref (by show (if st1.n = st1.n then some q else _) = some q; rw [if_pos rfl]))
  · exact False.elim p1⟩

/-! ### operators, by values -/
def dBin (f : D → D → Sto → Out D) (ga gb : Den) : Den := fun env st => (ga env st).bind fun d st1 => (gb env st1).bind fun e st2 => f d e st2
theorem r2_of {f : D → D → Sto → Out D} (σ : L2.St) (H : Hp) (Q : VK) (q : rE X.K G wx (dBin f ga gb) σ H Q) (hx : ∀ d e st c fs st', f d e st ≠ .exc c fs st') : tOp (r2 X.K G f) (rE X.K G wx ga) (rE X.K G wx gb) σ H Q := by
  obtain ⟨W, env, st, rfl, A, re, p⟩ := q
  refine ⟨W, env, st, rfl, A, re, Post.bind p fun d st1 W1 v _ l1 A1 r1 p1 => ?_⟩
  refine ⟨W1, env, st1, rfl, A1, re.up l1, Post.bind p1 fun e st2 W2 u _ l2 A2 r2 p2 => ?_⟩
  refine ⟨W2, d, e, st2, rfl, A2, r1.up l2, r2, ?_⟩
  cases h : f d e st2 with
  | bad => rw [h] at p2; exact p2
  | ok z st3 => rw [h] at p2; exact p2
  | exc c fs st3 => exact (hx _ _ _ _ _ _ h).elim
/-- f raises nothing -/
def NoX2 (f : D → D → Sto → Out D) : Prop := ∀ d e st c fs st', f d e st ≠ .exc c fs st'
def NoX1 (f : D → Sto → Out D) : Prop := ∀ d st c fs st', f d st ≠ .exc c fs st'
def NoXN (f : List D → Sto → Out D) : Prop := ∀ ds st c fs st', f ds st ≠ .exc c fs st'
theorem de_op {op : Operator} {f : D → D → Sto → Out D} (ho : OpR X (binaryOp op) (r2 X.K G f)) (hx : NoX2 f) (ha : DE X G wx a ga) (hb : DE X G wx b gb) : DE X G wx (.BinOp a op b pos) (dBin f ga gb) :=
  ⟨(pe_op ho ha.pe hb.pe).imp fun σ H Q q => r2_of σ H Q q hx⟩
theorem de_cmp {op : CmpOp} {f : D → D → Sto → Out D} (ho : OpR X (compareOp op) (r2 X.K G f)) (hx : NoX2 f) (ha : DE X G wx a ga) (hb : DE X G wx b gb) (hm : behindInMarks op b = false := by first | exact nomark _ | rfl) : DE X G wx (.Compare a [op] [b] pos) (dBin f ga gb) :=
  ⟨(pe_cmpR ho ha.pe hb.pe hm).imp fun σ H Q q => r2_of σ H Q q hx⟩
/-- a value that is a truth, as a test -/
def toB (o : Out D) : Out Bool := o.bind fun d st => match d with | .bl k => .ok k st | _ => .bad
theorem tTest_of {K : PySem.W.Frag} {t : TE} {g : Den} (h : ∀ σ H Q, rE K G wx g σ H Q → t σ H Q) (σ : L2.St) (H : Hp) (Q : Bool → Hp → Prop) (q : rB K G wx (fun env st => toB (g env st)) σ H Q) : tTest t σ H Q := by
  obtain ⟨W, env, st, rfl, A, re, p⟩ := q
  refine h σ _ _ ⟨W, env, st, rfl, A, re, Post.bindB p fun d st1 W1 v _ l1 A1 r1 p1 => ?_⟩
  cases d <;> first | exact False.elim p1 | skip
  cases r1
  exact ⟨_, rfl, p1 W1 .rfl' A1⟩
theorem db_cmp {op : CmpOp} {f : D → D → Sto → Out D} (ho : OpR X (compareOp op) (r2 X.K G f)) (hx : NoX2 f) (ha : DE X G wx a ga) (hb : DE X G wx b gb) (hm : behindInMarks op b = false := by first | exact nomark _ | rfl) : DB X G wx (.Compare a [op] [b] pos) (fun env st => toB (dBin f ga gb env st)) :=
  ⟨(pt_cmpR ho ha.pe hb.pe hm).imp fun σ H Q q => tTest_of (fun σ H Q q => r2_of σ H Q q hx) σ H Q q⟩
theorem db_val {e : Expr} {g : Den} (h : DE X G wx e g) (he : ∀ whole, isTrue e X.env whole = (do let v ← whole; standAt e.pos; holding [v] (truthy v)) := by intro _; rfl) : DB X G wx e (fun env st => toB (g env st)) :=
  ⟨(pt_val h.pe he).imp fun σ H Q q => by
    have z := tTest_of (G := G) (wx := wx) (K := X.K) (t := rE X.K G wx g) (fun _ _ _ q => q) σ H Q q
    exact z⟩
end
end DL

set_option Elab.async false
set_option linter.all false
set_option maxRecDepth 100000
/-! # DStmt: tests, statements, loops, comprehensions -/
namespace DL
open PySem PySem.Spec PyProof.Rows L2

section
variable {X : Cx} {G : CG} {wx : WX} {a b c : Expr} {ga gb gc : Den} {ta tb : DenB} {pos : Pos} {rest : List Expr}

/-! ### and, or, not, if-else -/
def bAnd (t u : DenB) : DenB := fun env st => (t env st).bind fun k st1 => if k = true then u env st1 else .ok false st1
def bOr (t u : DenB) : DenB := fun env st => (t env st).bind fun k st1 => if k = true then .ok true st1 else u env st1
def bNot (t : DenB) : DenB := fun env st => (t env st).bind fun k st1 => .ok (!k) st1
def dIf (t : DenB) (g h : Den) : Den := fun env st => (t env st).bind fun k st1 => if k = true then g env st1 else h env st1
theorem rB_id (σ : L2.St) (H : Hp) (Q : Bool → Hp → Prop) (K : PySem.W.Frag) (t : DenB) (q : rB K G wx t σ H Q) : rB K G wx t σ H Q := q
theorem dbw_and1 (ha : DB X G wx a ta) : DBW X G wx (.BoolOp .And [a] pos) ta := ⟨pw_and1 ha.pt⟩
theorem dbw_or1 (ha : DB X G wx a ta) : DBW X G wx (.BoolOp .Or [a] pos) ta := ⟨pw_or1 ha.pt⟩
theorem dbw_and (ha : DB X G wx a ta) (hb : DBW X G wx (.BoolOp .And (b :: rest) pos) tb) : DBW X G wx (.BoolOp .And (a :: b :: rest) pos) (bAnd ta tb) := ⟨(pw_and ha.pt hb.pw).imp fun σ H Q q => by
  obtain ⟨W, env, st, rfl, A, re, p⟩ := q
  refine ⟨W, env, st, rfl, A, re, PostB.bindB p fun k st1 W1 _ l1 A1 p1 => ?_⟩
  cases k with
  | true => exact ⟨W1, env, st1, rfl, A1, re.up l1, p1⟩
  | false => exact p1 W1 .rfl' A1⟩
theorem dbw_or (ha : DB X G wx a ta) (hb : DBW X G wx (.BoolOp .Or (b :: rest) pos) tb) : DBW X G wx (.BoolOp .Or (a :: b :: rest) pos) (bOr ta tb) := ⟨(pw_or ha.pt hb.pw).imp fun σ H Q q => by
  obtain ⟨W, env, st, rfl, A, re, p⟩ := q
  refine ⟨W, env, st, rfl, A, re, PostB.bindB p fun k st1 W1 _ l1 A1 p1 => ?_⟩
  cases k with
  | false => exact ⟨W1, env, st1, rfl, A1, re.up l1, p1⟩
  | true => exact p1 W1 .rfl' A1⟩
theorem db_of (h : DBW X G wx a ta) : DB X G wx a ta := ⟨h.pw.pt⟩
theorem db_not (ha : DB X G wx a ta) : DB X G wx (.UnaryOp .Not a pos) (bNot ta) := ⟨(pt_not ha.pt).imp fun σ H Q q => by
  obtain ⟨W, env, st, rfl, A, re, p⟩ := q
  exact ⟨W, env, st, rfl, A, re, PostB.bindB p fun k st1 W1 _ l1 A1 p1 => p1 W1 .rfl' A1⟩⟩
theorem de_if (hc : DB X G wx c ta) (ha : DE X G wx a ga) (hb : DE X G wx b gb) : DE X G wx (.IfExp c a b pos) (dIf ta ga gb) := ⟨(pe_ifExp hc.pt ha.pe hb.pe).imp fun σ H Q q => by
  obtain ⟨W, env, st, rfl, A, re, p⟩ := q
  refine ⟨W, env, st, rfl, A, re, PostB.bind p fun k st1 W1 _ l1 A1 p1 => ?_⟩
  cases k with
  | true => exact ⟨W1, env, st1, rfl, A1, re.up l1, p1⟩
  | false => exact ⟨W1, env, st1, rfl, A1, re.up l1, p1⟩⟩
/-- as values: all but the last are truths -/
def dAnd (g h : Den) : Den := fun env st => (toB (g env st)).bind fun k st1 => if k = true then h env st1 else .ok (.bl false) st1
def dOr (g h : Den) : Den := fun env st => (toB (g env st)).bind fun k st1 => if k = true then .ok (.bl true) st1 else h env st1
def dNot (g : Den) : Den := fun env st => (toB (g env st)).bind fun k st1 => .ok (.bl (!k)) st1
theorem Post.toB {K : PySem.W.Frag} {W : Wd} {xw : XK} {o : Out D} {k : Bool → Sto → Out D} {Q Q' : VK} (p : Post K G W xw ((DL.toB o).bind k) Q)
    (h : ∀ b st W', o = .ok (.bl b) st → W.le W' → Abs K G W' st → Post K G W' xw (k b st) Q → Q' (.bl b) W'.H) : Post K G W xw o Q' := by
  cases o with
  | bad => exact p
  | ok d st =>
    cases d with
    | bl b =>
      intro W' v l a r
      cases r
      exact h b st W' rfl l a (Post.up p l)
    | _ => exact False.elim p
  | exc c fs st => exact p
theorem de_and1 {op : BoolOp} (ha : DE X G wx a ga) : DE X G wx (.BoolOp op [a] pos) ga := ⟨pe_one ha.pe⟩
theorem de_and (ha : DE X G wx a ga) (hb : DE X G wx (.BoolOp .And (b :: rest) pos) gb) : DE X G wx (.BoolOp .And (a :: b :: rest) pos) (dAnd ga gb) := ⟨(pe_and ha.pe hb.pe).imp fun σ H Q q => by
  obtain ⟨W, env, st, rfl, A, re, p⟩ := q
  refine ⟨W, env, st, rfl, A, re, Post.toB p fun k st1 W1 _ l1 A1 p1 => ⟨k, rfl, ?_⟩⟩
  cases k with
  | true => exact ⟨W1, env, st1, rfl, A1, re.up l1, p1⟩
  | false => exact p1 W1 _ .rfl' A1 (.bl _)⟩
theorem de_or (ha : DE X G wx a ga) (hb : DE X G wx (.BoolOp .Or (b :: rest) pos) gb) : DE X G wx (.BoolOp .Or (a :: b :: rest) pos) (dOr ga gb) := ⟨(pe_or ha.pe hb.pe).imp fun σ H Q q => by
  obtain ⟨W, env, st, rfl, A, re, p⟩ := q
  refine ⟨W, env, st, rfl, A, re, Post.toB p fun k st1 W1 _ l1 A1 p1 => ⟨k, rfl, ?_⟩⟩
  cases k with
  | false => exact ⟨W1, env, st1, rfl, A1, re.up l1, p1⟩
  | true => exact p1 W1 _ .rfl' A1 (.bl _)⟩
theorem de_not (ha : DE X G wx a ga) : DE X G wx (.UnaryOp .Not a pos) (dNot ga) := ⟨(pe_not ha.pe).imp fun σ H Q q => by
  obtain ⟨W, env, st, rfl, A, re, p⟩ := q
  exact ⟨W, env, st, rfl, A, re, Post.toB p fun k st1 W1 _ l1 A1 p1 => ⟨k, rfl, p1 W1 _ .rfl' A1 (.bl _)⟩⟩⟩

/-! ### statements -/
variable {s : Stmt} {ss : List Stmt} {gs gr : DenS}
def sNil : DenS := fun env st => .nx env st
def SOut.seq (o : SOut) (k : DenS) : SOut := match o with
  | .nx env st => k env st
  | o => o
def sSeq (g r : DenS) : DenS := fun env st => (g env st).seq r
def sDrop (g : Den) : DenS := fun env st => (g env st).go env fun _ st1 => .nx env st1
def sRet (g : Den) : DenS := fun env st => (g env st).go env fun d st1 => .rt d st1
def sRetN : DenS := fun _ st => .rt .non st
def sIf (t : DenB) (g h : DenS) : DenS := fun env st => (t env st).go env fun k st1 => if k = true then g env st1 else h env st1
def sBrk : DenS := fun env st => .bk env st
def sCnt : DenS := fun env st => .ct env st
theorem ds_nil : DSs X G wx [] sNil := ⟨pss_nil.imp fun D σ H q => by
  obtain ⟨W, env, st, rfl, A, re, p⟩ := q
  exact p W σ .rfl' A re⟩
theorem PostS.seq {K : PySem.W.Frag} {W : Wd} {o : SOut} {k : DenS} {D : Ends} {N : L2.St → Hp → Prop} (p : PostS K G W wx (o.seq k) D)
    (h : ∀ env st W' σ', W.le W' → Abs K G W' st → REnv K G W' env σ' → PostS K G W' wx (k env st) D → N σ' W'.H) : PostS K G W wx o { D with nx := N } := by
  cases o with
  | bad => exact p
  | nx env st => exact fun W' σ' l a re => h env st W' σ' l a re (PostS.up p l)
  | rt d st => exact p
  | bk env st => exact p
  | ct env st => exact p
  | exc c fs env st => exact p
theorem ds_cons (h : DS X G wx s gs) (hr : DSs X G wx ss gr) : DSs X G wx (s :: ss) (sSeq gs gr) := ⟨(pss_cons h.ps hr.pss).imp fun D σ H q => by
  obtain ⟨W, env, st, rfl, A, re, p⟩ := q
  exact ⟨W, env, st, rfl, A, re, PostS.seq p fun env1 st1 W1 σ1 l1 A1 re1 p1 => ⟨W1, env1, st1, rfl, A1, re1, p1⟩⟩⟩
theorem ds_drop (h : DE X G wx a ga) (hs : swapsWith a none pos.line X.env = pure false := by rfl) : DS X G wx (.Expr a pos) (sDrop ga) := ⟨(ps_expr h.pe hs).imp fun D σ H q => by
  obtain ⟨W, env, st, rfl, A, re, p⟩ := q
  exact ⟨W, env, st, rfl, A, re, Post.go re p fun d st1 W1 v _ l1 A1 r1 p1 => p1 W1 σ .rfl' A1 (re.up l1)⟩⟩
theorem ds_ret (h : DE X G wx a ga) : DS X G wx (.Return (some a) pos) (sRet ga) := ⟨(ps_ret h.pe).imp fun D σ H q => by
  obtain ⟨W, env, st, rfl, A, re, p⟩ := q
  exact ⟨W, env, st, rfl, A, re, Post.go re p fun d st1 W1 v _ l1 A1 r1 p1 => p1 W1 v .rfl' A1 r1⟩⟩
theorem ds_retN : DS X G wx (.Return none pos) sRetN := ⟨ps_retN.imp fun D σ H q => by
  obtain ⟨W, env, st, rfl, A, re, p⟩ := q
  exact p W .non .rfl' A .non⟩
theorem ds_pass : DS X G wx (.Pass pos) sNil := ⟨ps_pass.imp fun D σ H q => by
  obtain ⟨W, env, st, rfl, A, re, p⟩ := q
  exact p W σ .rfl' A re⟩
theorem ds_brk : DS X G wx (.Break pos) sBrk := ⟨ps_break.imp fun D σ H q => by
  obtain ⟨W, env, st, rfl, A, re, p⟩ := q
  exact p W σ .rfl' A re⟩
theorem ds_cnt : DS X G wx (.Continue pos) sCnt := ⟨ps_continue.imp fun D σ H q => by
  obtain ⟨W, env, st, rfl, A, re, p⟩ := q
  exact p W σ .rfl' A re⟩
theorem ds_if {p q : List Stmt} {gp gq : DenS} (hc : DB X G wx c ta) (hp : DSs X G wx p gp) (hq : DSs X G wx q gq) : DS X G wx (.If c p q pos) (sIf ta gp gq) := ⟨(ps_if hc.pt hp.pss hq.pss).imp fun D σ H q => by
  obtain ⟨W, env, st, rfl, A, re, p⟩ := q
  refine ⟨W, env, st, rfl, A, re, PostB.go re p fun k st1 W1 _ l1 A1 p1 => ?_⟩
  cases k with
  | true => exact ⟨W1, env, st1, rfl, A1, re.up l1, p1⟩
  | false => exact ⟨W1, env, st1, rfl, A1, re.up l1, p1⟩⟩

/-! ### targets -/
abbrev DenG := D → DEnv → Sto → Out DEnv
def PostG (K : PySem.W.Frag) (G : CG) (W : Wd) (o : Out DEnv) (Q : L2.St → Hp → Prop) : Prop := match o with
  | .ok env st => ∀ W' σ', W.le W' → Abs K G W' st → REnv K G W' env σ' → Q σ' W'.H
  | _ => False
def rG (K : PySem.W.Frag) (G : CG) (g : DenG) : TG := fun v σ H Q => ∃ W env d st, W.H = H ∧ Abs K G W st ∧ REnv K G W env σ ∧ RelD K G W d v ∧ PostG K G W (g d env st) Q
structure DG (X : Cx) (G : CG) (t : Expr) (g : DenG) : Prop where
  pg : PG X t (rG X.K G g)
theorem _root_.L2.PG.imp {X : Cx} {e : Expr} {t t' : TG} (h : PG X e t) (i : ∀ v σ H Q, t' v σ H Q → t v σ H Q) : PG X e t' := ⟨fun pins s σ H v u Q I r q => h.run pins s σ H v u Q I r (i v σ H Q q)⟩
theorem PostG.up {K : PySem.W.Frag} {W W' : Wd} {o : Out DEnv} {Q : L2.St → Hp → Prop} (p : PostG K G W o Q) (l : W.le W') : PostG K G W' o Q := by
  cases o with
  | bad => exact p
  | ok env st => exact fun W2 σ' l2 => p W2 σ' (l.trans l2)
  | exc c fs st => exact p
def gN (i : Nat) : DenG := fun d env st => .ok (env.set i (some d)) st
theorem dg_name {x : Str} {i : Nat} (h : PG X (.Name x pos) (gName i)) : DG X G (.Name x pos) (gN i) := ⟨h.imp fun v σ H Q q => by
  obtain ⟨W, env, d, st, rfl, A, re, rd, p⟩ := q
  exact p W _ .rfl' A (re.set rd)⟩
/-- several targets -/
abbrev DenGs := List D → DEnv → Sto → Out DEnv
def rGs (K : PySem.W.Frag) (G : CG) (g : DenGs) : TGs := fun vs σ H Q => ∃ W env ds st, W.H = H ∧ Abs K G W st ∧ REnv K G W env σ ∧ RelDs K G W ds vs ∧ PostG K G W (g ds env st) Q
structure DGs (X : Cx) (G : CG) (ts : List Expr) (g : DenGs) : Prop where
  pgs : PGs X ts (rGs X.K G g)
theorem _root_.L2.PGs.imp {X : Cx} {e : List Expr} {t t' : TGs} (h : PGs X e t) (i : ∀ v σ H Q, t' v σ H Q → t v σ H Q) : PGs X e t' := ⟨fun pins s σ H v u Q I r q => h.run pins s σ H v u Q I r (i v σ H Q q)⟩
def gsNil : DenGs := fun ds env st => match ds with | [] => .ok env st | _ => .bad
def gsCons (g : DenG) (r : DenGs) : DenGs := fun ds env st => match ds with | [] => .bad | d :: ds => (g d env st).bind fun env1 st1 => r ds env1 st1
theorem dgs_nil : DGs X G [] gsNil := ⟨pgs_nil.imp fun vs σ H Q q => by
  obtain ⟨W, env, ds, st, rfl, A, re, rd, p⟩ := q
  cases rd with
  | nil => exact ⟨rfl, p W σ .rfl' A re⟩
  | cons _ _ => exact False.elim p⟩
theorem dgs_cons {t : Expr} {ts : List Expr} {g : DenG} {r : DenGs} (h : DG X G t g) (hr : DGs X G ts r) (hs : (assignEach (t :: ts) X.env).map (·.2) = assign t X.env :: (assignEach ts X.env).map (·.2) := by rfl) : DGs X G (t :: ts) (gsCons g r) := ⟨(pgs_cons h.pg hr.pgs hs).imp fun vs σ H Q q => by
  obtain ⟨W, env, ds, st, rfl, A, re, rd, p⟩ := q
  cases rd with
  | nil => exact False.elim p
  | @cons d ds v vs rd rds =>
    refine ⟨v, vs, rfl, W, env, d, st, rfl, A, re, rd, ?_⟩
    have p' : PostG X.K G W ((g d env st).bind fun env1 st1 => r ds env1 st1) Q := p
    cases hg : g d env st with
    | bad => rw [hg] at p'; exact p'
    | exc c fs st1 => rw [hg] at p'; exact p'
    | ok env1 st1 =>
      rw [hg] at p'
      exact fun W1 σ1 l1 A1 re1 => ⟨W1, env1, ds, st1, rfl, A1, re1, rds.up l1, PostG.up p' l1⟩⟩
/-- x, y = a tuple -/
def gTupD (n : Nat) (g : DenGs) : DenG := fun d env st => match d with
  | .tup ds => if ds.length = n then g ds env st else .bad
  | _ => .bad
theorem dg_tup {ts : List Expr} {g : DenGs} {n : Nat} {t : TGs → TG} {k : Nat} (h : ∀ t, PGs X ts t → PG X (.Tuple ts k pos) (gTup X.K n t)) (hs : DGs X G ts g) : DG X G (.Tuple ts k pos) (gTupD n g) := ⟨(h _ hs.pgs).imp fun v σ H Q q => by
  obtain ⟨W, env, d, st, rfl, A, re, rd, p⟩ := q
  cases d with
  | tup ds =>
    unfold PostG gTupD at p
    by_cases hn : ds.length = n
    · dsimp only at p
      rw [if_pos hn] at p
      cases rd with
      | tup hf hr hrs => exact ⟨_, _, rfl, .inl (.inl hr), hrs.length ▸ hn, W, env, ds, st, rfl, A, re, hrs, p⟩
      | tupK hr hrs => exact ⟨_, _, rfl, hr _, hrs.length ▸ hn, W, env, ds, st, rfl, A, re, hrs, p⟩
    · dsimp only at p
      rw [if_neg hn] at p
      exact False.elim p
  | _ => exact False.elim p⟩
def sAsg (g : Den) (t : DenG) : DenS := fun env st => (g env st).go env fun d st1 => match t d env st1 with
  | .ok env1 st2 => .nx env1 st2
  | _ => .bad
theorem ds_asg {t : Expr} {gt : DenG} (h : DE X G wx a ga) (ht : DG X G t gt) (hs : swapsWithSole [t] a pos.line X.env = pure false := by rfl) (hw : swappedStores [t] a X.env = pure none := by rfl)
    (h1 : (assignEach [t] X.env).map (·.2) = [assign t X.env] := by rfl) : DS X G wx (.Assign [t] a pos) (sAsg ga gt) := ⟨(ps_asg h.pe ht.pg hs hw h1).imp fun D σ H q => by
  obtain ⟨W, env, st, rfl, A, re, p⟩ := q
  refine ⟨W, env, st, rfl, A, re, Post.go re p fun d st1 W1 v _ l1 A1 r1 p1 => ?_⟩
  refine ⟨W1, env, d, st1, rfl, A1, re.up l1, r1, ?_⟩
  cases hg : gt d env st1 with
  | bad => rw [hg] at p1; exact p1
  | exc c fs st2 => rw [hg] at p1; exact p1
  | ok env1 st2 => rw [hg] at p1; exact p1⟩

/-! ### what a loop walks -/
structure IterOk (K : PySem.W.Frag) (G : CG) (W : Wd) (J : It) (ds : List D) : Prop where
  goes : ∀ i W2, i < ds.length → W.lf W2 → J.go i W2.H
  stops : ∀ W2, W.lf W2 → J.stop ds.length W2.H
  yields : ∀ i W2 st x H', i < ds.length → W.lf W2 → Abs K G W2 st → J.yld i W2.H x H' → ∃ W3 d, W2.le W3 ∧ W3.H = H' ∧ Abs K G W3 st ∧ ds[i]? = some d ∧ RelD K G W3 d x
theorem IterOk.up {K : PySem.W.Frag} {W W' : Wd} {J : It} {ds : List D} (h : IterOk K G W J ds) (l : W.lf W') : IterOk K G W' J ds :=
  ⟨fun i W2 hi l2 => h.goes i W2 hi (l.trans l2), fun W2 l2 => h.stops W2 (l.trans l2), fun i W2 st x H' hi l2 => h.yields i W2 st x H' hi (l.trans l2)⟩
def PostI (K : PySem.W.Frag) (G : CG) (W : Wd) (xw : XK) (o : Out (List D)) (R : It → Hp → Prop) : Prop := match o with
  | .bad => False
  | .ok ds st => ∀ W' J, W.le W' → Abs K G W' st → IterOk K G W' J ds → R J W'.H
  | .exc c fs st => XcOk K G W xw c fs st
def rI (K : PySem.W.Frag) (G : CG) (wx : WX) (g : DenA) : TI := fun σ H R => ∃ W env st, W.H = H ∧ Abs K G W st ∧ REnv K G W env σ ∧ PostI K G W (fun cls d H => wx cls d σ H) (g env st) R
structure DI (X : Cx) (G : CG) (wx : WX) (tg e : Expr) (g : DenA) : Prop where
  pi : PI X tg e (rI X.K G wx g)
theorem _root_.L2.PI.imp {X : Cx} {tg e : Expr} {t t' : TI} (h : PI X tg e t) (i : ∀ σ H Q, t' σ H Q → t σ H Q) : PI X tg e t' := ⟨fun pins s σ H R I q => h.run pins s σ H R I (i σ H R q)⟩
theorem iter_lst {K : PySem.W.Frag} {W : Wd} {p : Addr} {vs : List V} {ds : List D} (q : ∀ W2, W.lf W2 → SqL K W2.H p vs) (rs : RelDs K G W ds vs) : IterOk K G W (Itl K p) ds := by
  have w := walk_list (K := K) (a := p) (xs := vs)
  refine ⟨fun i W2 hi l => w.goes i W2.H (by rw [← rs.length]; exact hi) (q W2 l), fun W2 l => by rw [rs.length]; exact w.stops W2.H (q W2 l), fun i W2 st x H' hi l a y => ?_⟩
  obtain ⟨e1, e2⟩ := w.yields i W2.H x H' (by rw [← rs.length]; exact hi) (q W2 l) y
  obtain ⟨d, h1, h2⟩ := rs.getV e2
  exact ⟨W2, d, .rfl', e1.symm, a, h1, h2.uf l⟩
theorem iter_tup {K : PySem.W.Frag} {W : Wd} {p : Addr} {vs : List V} {ds : List D} (q : ∀ W2, W.lf W2 → SqT K W2.H p vs) (rs : RelDs K G W ds vs) : IterOk K G W (Itt K p) ds := by
  have w := walk_tup (K := K) (a := p) (xs := vs)
  refine ⟨fun i W2 hi l => w.goes i W2.H (by rw [← rs.length]; exact hi) (q W2 l), fun W2 l => by rw [rs.length]; exact w.stops W2.H (q W2 l), fun i W2 st x H' hi l a y => ?_⟩
  obtain ⟨e1, e2⟩ := w.yields i W2.H x H' (by rw [← rs.length]; exact hi) (q W2 l) y
  obtain ⟨d, h1, h2⟩ := rs.getV e2
  exact ⟨W2, d, .rfl', e1.symm, a, h1, h2.uf l⟩
theorem RelD.sq_tup {K : PySem.W.Frag} {W : Wd} {ds : List D} {v : V} (r : RelD K G W (.tup ds) v) : ∃ a vs, v = .ref a ∧ (∀ W2, W.lf W2 → SqT K W2.H a vs) ∧ RelDs K G W ds vs := by
  cases r with
  | tup hf hr hs => exact ⟨_, _, rfl, fun W2 l => .inl (.inl ((l.h _ hf).trans hr)), hs⟩
  | tupK hr hs => exact ⟨_, _, rfl, fun W2 l => hr _, hs⟩
theorem RelD.sq_lst {K : PySem.W.Frag} {W : Wd} {ds : List D} {v : V} (r : RelD K G W (.lst ds) v) : ∃ a vs, v = .ref a ∧ W.F a ∧ W.H a = some (.lst vs) ∧ RelDs K G W ds vs := by
  cases r with
  | lst hf hr hs => exact ⟨_, _, rfl, hf, hr, hs⟩
theorem RelD.sq_rdl {K : PySem.W.Frag} {W : Wd} {ds : List D} {v : V} (r : RelD K G W (.rdl ds) v) : ∃ a vs, v = .ref a ∧ (∀ W2, W.lf W2 → SqL K W2.H a vs) ∧ RelDs K G W ds vs := by
  cases r with
  | rdl hf hr hs => exact ⟨_, _, rfl, fun W2 l => .inl (by unfold Rd at *; rw [l.h _ hf]; exact hr), hs⟩
  | rdlK hr hs => exact ⟨_, _, rfl, fun W2 l => hr _, hs⟩
/-- a list or a tuple, walked -/
def iSeq (g : Den) : DenA := fun env st => (g env st).bind fun d st1 => match d with
  | .tup ds => .ok ds st1
  | .lst ds => .ok ds st1
  | .rdl ds => .ok ds st1
  | _ => .bad
/-- a value at hand, walked -/
def iAny (K : PySem.W.Frag) (tl : TE) : TI := fun σ H R => tl σ H fun x H1 => ∃ a, x = .ref a ∧ (((∃ xs, SqL K H1 a xs) ∧ R (Itl K a) H1) ∨ ((∃ xs, SqT K H1 a xs) ∧ R (Itt K a) H1))
theorem pi_any {tg l : Expr} {tl : TE} (hl : PE X l tl) : PI X tg l (iAny X.K tl) := by
  refine ⟨fun pins s σ H R I h => ?_⟩
  refine thn (hl.run pins s σ H _ I h) fun v s1 ⟨x, H1, I1, r1, a, e, q1⟩ => ?_
  subst e
  cases r1
  have fr : ∀ b ∈ [s1.heap.objs.size], FpOk X pins H1 b := fun b hb => by
    have e : b = s1.heap.objs.size := by simpa using hb
    rw [e]
    exact I1.fpOk (Nat.le_refl _) (I1.hok.fresh (Nat.le_refl _))
  rcases q1 with ⟨⟨xs, hq⟩, q⟩ | ⟨⟨xs, hq⟩, q⟩
  · obtain ⟨its, rv, p, hz⟩ := I1.list hq
    exact wpAny_pyIter_list p.isList ⟨_, [s1.heap.objs.size], _, _, H1, rfl, I1.kept (t' := s1.toks) fun b o e => Heap.get?_push_of_some _ e, turn_list a _, ⟨_, Heap.get?_push_size _ rfl, rfl, rfl⟩, fr, q⟩
  · obtain ⟨its, rv, p, hz⟩ := I1.tuple hq
    exact wpAny_pyIter_tuple (show s1.heap.IsTuple a its.toArray from p) ⟨_, [s1.heap.objs.size], _, _, H1, rfl, I1.kept (t' := s1.toks) fun b o e => Heap.get?_push_of_some _ e, turn_tuple a _, ⟨_, Heap.get?_push_size _ rfl, rfl, rfl⟩, fr, q⟩
theorem Post.bindI {K : PySem.W.Frag} {W : Wd} {xw : XK} {o : Out D} {k : D → Sto → Out (List D)} {R : It → Hp → Prop} {Q' : VK} (p : PostI K G W xw (o.bind k) R)
    (h : ∀ d st W' v, o = .ok d st → W.le W' → Abs K G W' st → RelD K G W' d v → PostI K G W xw (k d st) R → Q' v W'.H) : Post K G W xw o Q' := by
  cases o with
  | bad => exact p
  | ok d st => exact fun W' v l a r => h d st W' v rfl l a r p
  | exc c fs st => exact p
theorem di_seq {tg : Expr} (h : DE X G wx a ga) : DI X G wx tg a (iSeq ga) := ⟨(pi_any h.pe).imp fun σ H R q => by
  obtain ⟨W, env, st, rfl, A, re, p⟩ := q
  refine ⟨W, env, st, rfl, A, re, Post.bindI p fun d st1 W1 v _ l1 A1 r1 p1 => ?_⟩
  cases d with
  | tup ds =>
    obtain ⟨p, vs, rfl, hq, rs⟩ := r1.sq_tup
    exact ⟨p, rfl, .inr ⟨⟨vs, hq W1 (Wd.le.lf .rfl')⟩, p1 W1 _ l1 A1 (iter_tup hq rs)⟩⟩
  | lst ds =>
    obtain ⟨p, vs, rfl, hf, hr, rs⟩ := r1.sq_lst
    exact ⟨p, rfl, .inl ⟨⟨vs, .inl (.inl hr)⟩, p1 W1 _ l1 A1 (iter_lst (fun W2 l => .inl (.inl ((l.h _ hf).trans hr))) rs)⟩⟩
  | rdl ds =>
    obtain ⟨p, vs, rfl, hq, rs⟩ := r1.sq_rdl
    exact ⟨p, rfl, .inl ⟨⟨vs, hq W1 (Wd.le.lf .rfl')⟩, p1 W1 _ l1 A1 (iter_lst hq rs)⟩⟩
  | _ => exact False.elim p1⟩
def rangeD (n : Nat) : List D := (List.range n).map fun (i : Nat) => .int (i : Int)
/-- range(n) -/
def iRange (g : Den) : DenA := fun env st => (g env st).bind fun d st1 => match d with
  | .int j => if -10000000 ≤ j ∧ j ≤ 10000000 then .ok (rangeD j.toNat) st1 else .bad
  | _ => .bad
theorem iter_range {K : PySem.W.Frag} {W : Wd} {n : Nat} : IterOk K G W (Itr 0 n) (rangeD n) := by
  have hl : (rangeD n).length = n := by simp [rangeD]
  have w := walk_range (lo := 0) (n := n)
  refine ⟨fun i W2 hi l => w.goes i W2.H (by rw [hl] at hi; exact hi) trivial, fun W2 l => by rw [hl]; exact w.stops W2.H trivial, fun i W2 st x H' hi l a y => ?_⟩
  rw [hl] at hi
  obtain ⟨e1, e2⟩ := w.yields i W2.H x H' hi trivial y
  refine ⟨W2, .int (i : Int), .rfl', e1.symm, a, by simp [rangeD, hi], ?_⟩
  have e3 : x = V.int (0 + (i : Int)) := e2
  rw [e3, Int.zero_add]
  exact .int _
theorem di_range {tg : Expr} {p : Pos} (hg : Gl X "range") (hm : X.mg "range" = none) (h : DE X G wx a ga) (hs : starEach [a] X.env = [(false, eval a X.env)] := by rfl) (hs2 : starEach (a :: []) X.env = (false, eval a X.env) :: starEach [] X.env := by rfl) :
    DI X G wx tg (.Call (.Name "range" p) [a] [] pos) (iRange ga) := ⟨(pi_range1 hg hm (pa_cons h.pe pa_nil hs2) hs).imp fun σ H R q => by
  obtain ⟨W, env, st, rfl, A, re, p⟩ := q
  refine ⟨W, env, st, rfl, A, re, Post.bindI p fun d st1 W1 v _ l1 A1 r1 p1 => ?_⟩
  cases d with
  | int j =>
    cases r1
    have p1' : PostI X.K G W (fun cls d H => wx cls d σ H) (if -10000000 ≤ j ∧ j ≤ 10000000 then .ok (rangeD j.toNat) st1 else .bad) R := p1
    by_cases hj : -10000000 ≤ j ∧ j ≤ 10000000
    · rw [if_pos hj] at p1'
      exact ⟨j, rfl, by omega, by omega, p1' W1 _ l1 A1 iter_range⟩
    · rw [if_neg hj] at p1'
      exact False.elim p1'
  | _ => exact False.elim p1⟩

/-! ### for -/
def forRun (gt : DenG) (gb : DenS) : List D → DEnv → Sto → SOut
  | [], env, st => .nx env st
  | d :: ds, env, st => match gt d env st with
    | .ok env1 st1 => match gb env1 st1 with
      | .nx env2 st2 => forRun gt gb ds env2 st2
      | .ct env2 st2 => forRun gt gb ds env2 st2
      | .bk env2 st2 => .nx env2 st2
      | .bad => .bad
      | .rt d st2 => .rt d st2
      | .exc c fs env2 st2 => .exc c fs env2 st2
    | _ => .bad
def sFor (gi : DenA) (gt : DenG) (gb : DenS) : DenS := fun env st => match gi env st with
  | .bad => .bad
  | .ok ds st1 => forRun gt gb ds env st1
  | .exc c fs st1 => .exc c fs env st1
theorem ds_for {tg iter : Expr} {body : List Stmt} {gi : DenA} {gt : DenG} {gb : DenS} (hp : PassesOwn (model X.prog X.w) X.A X.env X.xe) (hc : X.calm = true) (hi : DI X G wx tg iter gi) (ht : DG X G tg gt) (hb : DSs X G wx body gb) (h : ∀ {wi : TI} {g : TG} {tb : TS}, PI X tg iter wi → PG X tg g → PSs X body tb → PS X (.For tg iter body [] pos) (tFor wi g tb)) :
    DS X G wx (.For tg iter body [] pos) (sFor gi gt gb) := ⟨(h hi.pi ht.pg hb.pss).imp fun D σ H q => by
  obtain ⟨W, env, st, rfl, A, re, p⟩ := q
  unfold sFor at p
  refine ⟨W, env, st, rfl, A, re, ?_⟩
  cases hg : gi env st with
  | bad => rw [hg] at p; exact False.elim p
  | exc c fs st1 => rw [hg] at p; exact p σ W .rfl' re
  | ok ds st1 =>
    rw [hg] at p
    intro W1 J l1 A1 it
    have p1 : PostS X.K G W1 wx (forRun gt gb ds env st1) D := PostS.up p l1
    let Pv : Nat → L2.St → Hp → Prop := fun i σ' H' => ∃ W2 env2 st2, W1.le W2 ∧ W2.H = H' ∧ Abs X.K G W2 st2 ∧ REnv X.K G W2 env2 σ' ∧ PostS X.K G W2 wx (forRun gt gb (ds.drop i) env2 st2) D
    refine ⟨fun i m σ' H' => m = ds.length - i ∧ i ≤ ds.length ∧ Pv i σ' H', ⟨ds.length, by simp, Nat.zero_le _, W1, env, st1, .rfl', rfl, A1, re.up l1, p1⟩, ?_⟩
    rintro i m σ' H' ⟨rfl, hi, W2, env2, st2, l2, rfl, A2, re2, p2⟩
    by_cases hlt : i < ds.length
    · refine .inr ⟨it.goes i W2 hlt l2.lf, Pv (i + 1), fun σ3 H3 p3 => ⟨ds.length - (i + 1), by omega, rfl, hlt, p3⟩, fun x H3 y => ?_⟩
      obtain ⟨W3, d, l3, rfl, A3, ed, rd⟩ := it.yields i W2 st2 x H3 hlt l2.lf A2 y
      obtain ⟨hlt', ed'⟩ := List.getElem?_eq_some_iff.mp ed
      rw [List.drop_eq_getElem_cons hlt, ed'] at p2
      refine ⟨W3, env2, d, st2, rfl, A3, re2.up l3, rd, ?_⟩
      have p3 := PostS.up p2 l3
      unfold forRun at p3
      cases hg : gt d env2 st2 with
      | bad => rw [hg] at p3; exact False.elim p3
      | exc c fs st4 => rw [hg] at p3; exact False.elim p3
      | ok env4 st4 =>
        rw [hg] at p3
        intro W4 σ4 l4 A4 re4
        refine ⟨W4, env4, st4, rfl, A4, re4, ?_⟩
        have p4 := PostS.up p3 l4
        dsimp only at p4
        have l14 : W1.le W4 := l2.trans (l3.trans l4)
        cases hgb : gb env4 st4 with
        | bad => rw [hgb] at p4; exact False.elim p4
        | nx env5 st5 => rw [hgb] at p4; exact fun W5 σ5 l5 A5 re5 => ⟨W5, env5, st5, l14.trans l5, rfl, A5, re5, PostS.up p4 l5⟩
        | ct env5 st5 => rw [hgb] at p4; exact fun W5 σ5 l5 A5 re5 => ⟨W5, env5, st5, l14.trans l5, rfl, A5, re5, PostS.up p4 l5⟩
        | bk env5 st5 => rw [hgb] at p4; exact p4
        | rt d5 st5 => rw [hgb] at p4; exact p4
        | exc c fs env5 st5 => rw [hgb] at p4; exact p4
    · have e : i = ds.length := by omega
      subst e
      rw [List.drop_length] at p2
      exact .inl ⟨it.stops W2 l2.lf, p2 W2 σ' .rfl' A2 re2⟩⟩
end
end DL

set_option Elab.async false
set_option linter.all false
set_option maxRecDepth 100000
/-! # DComp: list comprehensions of one clause -/
namespace DL
open PySem PySem.Spec PyProof.Rows L2

/-- no exception is let out -/
def Out.nox {α : Type} (o : Out α) : Out α := match o with
  | .exc _ _ _ => .bad
  | o => o
abbrev W0 : WX := fun _ _ _ _ => False
/-- slots forgotten -/
def wipeD (env : DEnv) : List Nat → DEnv
  | [] => env
  | v :: vs => (wipeD env vs).set v none
def lcRun (gt : D → DEnv → Option DEnv) (gf : DenB) (ge : Den) (env : DEnv) : List D → Sto → Out (List D)
  | [], st => .ok [] st
  | d :: ds, st => match gt d env with
    | none => .bad
    | some env1 => (gf env1 st).nox.bind fun k st1 =>
      if k = true then (ge env1 st1).nox.bind fun y st2 => (lcRun gt gf ge env ds st2).bind fun ys st3 => .ok (y :: ys) st3
      else lcRun gt gf ge env ds st1
def dLc (gi : DenA) (own : List Nat) (gt : D → DEnv → Option DEnv) (gf : DenB) (ge : Den) : Den := fun env st =>
  (gi env st).bind fun ds st1 => if ds.length ≤ 10000000 then (lcRun gt gf ge (wipeD env own) ds st1).bind fun ys st2 => .ok (.lst ys) st2 else .bad
theorem lcRun_len {gt : D → DEnv → Option DEnv} {gf : DenB} {ge : Den} {env : DEnv} : ∀ {ds : List D} {st st' : Sto} {ys : List D}, lcRun gt gf ge env ds st = .ok ys st' → ys.length ≤ ds.length
  | [], st, st', ys, h => by cases h; exact Nat.le_refl _
  | d :: ds, st, st', ys, h => by
    unfold lcRun at h
    cases hg : gt d env with
    | none => rw [hg] at h; cases h
    | some env1 =>
      rw [hg] at h
      dsimp only at h
      cases hf : (gf env1 st).nox with
      | bad => rw [hf] at h; cases h
      | exc c fs st1 => rw [hf] at h; cases h
      | ok k st1 =>
        rw [hf] at h
        cases k with
        | false => exact Nat.le_succ_of_le (lcRun_len h)
        | true =>
          have h' : ((ge env1 st1).nox.bind fun y st2 => (lcRun gt gf ge env ds st2).bind fun ys st3 => .ok (y :: ys) st3) = .ok ys st' := h
          cases he : (ge env1 st1).nox with
          | bad => rw [he] at h'; cases h'
          | exc c fs st2 => rw [he] at h'; cases h'
          | ok y st2 =>
            rw [he] at h'
            have h2 : ((lcRun gt gf ge env ds st2).bind fun ys st3 => .ok (y :: ys) st3) = .ok ys st' := h'
            cases hr : lcRun gt gf ge env ds st2 with
            | bad => rw [hr] at h2; cases h2
            | exc c fs st3 => rw [hr] at h2; cases h2
            | ok zs st3 =>
              rw [hr] at h2
              cases h2
              exact Nat.succ_le_succ (lcRun_len hr)

section
variable {X : Cx} {G : CG} {wx : WX}
/-- a target that sets slots of its own -/
def TGok (K : PySem.W.Frag) (G : CG) (t : TG) (gt : D → DEnv → Option DEnv) (vs : List Nat) : Prop :=
  ∀ (W : Wd) (env : DEnv) (d : D) (st : Sto) (v : V) (σ : L2.St) (Q : L2.St → Hp → Prop), Abs K G W st → REnv K G W env σ → RelD K G W d v →
    (match gt d env with | some env1 => ∀ σ', REnv K G W env1 σ' → wipe σ' vs = wipe σ vs → Q σ' W.H | none => False) → t v σ W.H Q
theorem wipe_set {v : V} {i : Nat} : ∀ {vs : List Nat} {σ : L2.St}, i ∈ vs → wipe (σ.set i (some v)) vs = wipe σ vs
  | [], _, h => by simp at h
  | j :: vs, σ, h => by
    unfold wipe
    by_cases hj : i = j
    · subst hj
      by_cases hm : i ∈ vs
      · rw [wipe_set hm]
      · have e : ∀ (vs : List Nat) (σ : L2.St), i ∉ vs → wipe (σ.set i (some v)) vs = (wipe σ vs).set i (some v) := by
          intro vs
          induction vs with
          | nil => intro σ _; rfl
          | cons k ks ih =>
            intro σ hk
            simp only [List.mem_cons, not_or] at hk
            unfold wipe
            rw [ih σ hk.2, List.set_comm _ _ hk.1]
        rw [e vs σ hm, List.set_set]
    · have hm : i ∈ vs := by
        rcases List.mem_cons.mp h with h | h
        · exact absurd h hj
        · exact h
      rw [wipe_set hm]
def gtN (i : Nat) : D → DEnv → Option DEnv := fun d env => some (env.set i (some d))
theorem tg_name {K : PySem.W.Frag} {i : Nat} {vs : List Nat} (h : i ∈ vs) : TGok K G (gName i) (gtN i) vs := fun W env d st v σ Q A re rd q => q _ (re.set rd) (wipe_set h)
def gtSet : List Nat → List D → DEnv → Option DEnv
  | [], [], env => some env
  | i :: is, d :: ds, env => gtSet is ds (env.set i (some d))
  | _, _, _ => none
def gNames : List Nat → TGs
  | [] => gNil
  | i :: is => gCons (gName i) (gNames is)
def gtT (is : List Nat) : D → DEnv → Option DEnv := fun d env => match d with
  | .tup ds => gtSet is ds env
  | _ => none
theorem tg_tup {K : PySem.W.Frag} {is vs : List Nat} (h : ∀ i ∈ is, i ∈ vs) : TGok K G (gTup K is.length (gNames is)) (gtT is) vs := fun W env d st v σ Q A re rd q => by
  cases d with
  | tup ds =>
    obtain ⟨p, ws, rfl, hq, rs⟩ := rd.sq_tup
    have key : ∀ (is : List Nat) (ds : List D) (ws : List V) (env : DEnv) (σ₁ : L2.St), (∀ i ∈ is, i ∈ vs) → RelDs K G W ds ws → REnv K G W env σ₁ → wipe σ₁ vs = wipe σ vs →
        (match gtSet is ds env with | some env1 => ∀ σ', REnv K G W env1 σ' → wipe σ' vs = wipe σ vs → Q σ' W.H | none => False) → is.length = ws.length ∧ gNames is ws σ₁ W.H Q := by
      intro is
      induction is with
      | nil =>
        intro ds ws env σ₁ _ rs re hw q
        cases rs with
        | nil => exact ⟨rfl, rfl, q σ₁ re hw⟩
        | cons _ _ => exact False.elim q
      | cons i is ih =>
        intro ds ws env σ₁ hm rs re hw q
        cases rs with
        | nil => exact False.elim q
        | @cons d ds w ws r rs =>
          have hi : i ∈ vs := hm i List.mem_cons_self
          obtain ⟨h1, h2⟩ := ih ds ws (env.set i (some d)) (σ₁.set i (some w)) (fun j hj => hm j (List.mem_cons_of_mem _ hj)) rs (re.set r) ((wipe_set hi).trans hw) q
          exact ⟨by simp [h1], w, ws, rfl, h2⟩
    obtain ⟨h1, h2⟩ := key is ds ws env σ h rs re rfl q
    exact ⟨p, ws, rfl, hq W (Wd.le.lf .rfl'), h1.symm, h2⟩
  | _ => exact False.elim q
theorem REnv.wiped {K : PySem.W.Frag} {W : Wd} {env : DEnv} {σ : L2.St} (re : REnv K G W env σ) : ∀ vs : List Nat, REnv K G W (wipeD env vs) (L2.wipe σ vs)
  | [] => re
  | v :: vs => by
    have ih := REnv.wiped re vs
    unfold wipeD L2.wipe
    refine ⟨by rw [List.length_set, List.length_set]; exact ih.1, fun j e h => ?_⟩
    by_cases hj : v = j
    · subst hj
      by_cases hl : v < (wipeD env vs).length
      · rw [List.getElem?_set_self hl] at h; cases h
      · rw [List.getElem?_eq_none (by rw [List.length_set]; omega)] at h; cases h
    · rw [List.getElem?_set_ne hj] at h ⊢
      exact ih.2 j e h
theorem wipe_wipe (σ : L2.St) (vs : List Nat) : L2.wipe (L2.wipe σ vs) vs = L2.wipe σ vs := by
  apply List.ext_getElem?
  intro i
  have len : ∀ (l : List Nat) (τ : L2.St), (L2.wipe τ l).length = τ.length := fun l τ => wipe_length τ l
  have at' : ∀ (l : List Nat) (τ : L2.St) (i : Nat), (L2.wipe τ l)[i]? = if i ∈ l ∧ i < τ.length then some none else τ[i]? := by
    intro l
    induction l with
    | nil => intro τ i; simp [L2.wipe]
    | cons v l ih =>
      intro τ i
      unfold L2.wipe
      by_cases hv : v = i
      · subst hv
        by_cases hl : v < τ.length
        · rw [List.getElem?_set_self (by rw [len]; exact hl), if_pos ⟨List.mem_cons_self, hl⟩]
        · rw [List.getElem?_eq_none (by rw [List.length_set, len]; omega), if_neg (fun z => hl z.2), List.getElem?_eq_none (by omega)]
      · rw [List.getElem?_set_ne hv, ih]
        have : (i ∈ l ∧ i < τ.length) ↔ (i ∈ v :: l ∧ i < τ.length) := by
          rw [List.mem_cons]
          exact ⟨fun z => ⟨.inr z.1, z.2⟩, fun z => ⟨z.1.resolve_left fun e => hv e.symm, z.2⟩⟩
        by_cases hh : i ∈ l ∧ i < τ.length
        · rw [if_pos hh, if_pos (this.mp hh)]
        · rw [if_neg hh, if_neg fun z => hh (this.mpr z)]
  rw [at', at', len]
  split <;> rfl

/-- the reading of a comprehension -/
theorem tLc_of {K : PySem.W.Frag} {gi : DenA} {own : List Nat} {gt : D → DEnv → Option DEnv} {gf : DenB} {ge : Den} {t : TG} (ht : TGok K G t gt own) (σ : L2.St) (H : Hp) (Q : VK)
    (q : rE K G wx (dLc gi own gt gf ge) σ H Q) : tLc (rI K G wx gi) t (rB K G W0 gf) (rE K G W0 ge) own σ H Q := by
  obtain ⟨W, env, st, rfl, A, re, p⟩ := q
  refine ⟨W, env, st, rfl, A, re, ?_⟩
  unfold dLc at p
  cases hg : gi env st with
  | bad => rw [hg] at p; exact False.elim p
  | exc c fs st1 => rw [hg] at p; exact p
  | ok ds st1 =>
    rw [hg] at p
    intro W1 J l1 A1 it L hL
    have p1 : Post K G W1 (fun cls d H => wx cls d σ H) (if ds.length ≤ 10000000 then (lcRun gt gf ge (wipeD env own) ds st1).bind fun ys st2 => .ok (.lst ys) st2 else .bad) Q := Post.up p l1
    by_cases hz : ds.length ≤ 10000000
    · rw [if_pos hz] at p1
      have re1 : REnv K G W1 env σ := re.up l1
      -- the new list is held aside
      have nT1 : ¬ W1.T L := fun z => by
        obtain ⟨u, e⟩ := A1.fz L (.inr z)
        rw [hL] at e; cases e
      have nF1 : ¬ W1.F L := fun z => by
        obtain ⟨u, e⟩ := A1.fz L (.inl z)
        rw [hL] at e; cases e
      let T2 : Addr → Prop := fun a => W1.T a ∨ a = L
      let Pv : Nat → Hp → Prop := fun i H' => ∃ W2 st2 acc accV, W1.le (W2.hold W1.T) ∧ W2.T = T2 ∧ W2.H = H' ∧ W2.H L = some (.lst accV) ∧ RelDs K G W2 acc accV ∧ Abs K G W2 st2 ∧ acc.length ≤ i ∧ ¬ W2.F L ∧
        Post K G W1 (fun cls d H => wx cls d σ H) ((lcRun gt gf ge (wipeD env own) (ds.drop i) st2).bind fun ys st3 => .ok (.lst (acc ++ ys)) st3) Q
      refine ⟨fun i m H' => m = ds.length - i ∧ i ≤ ds.length ∧ Pv i H', ⟨ds.length, by simp, Nat.zero_le _, ?_⟩, ?_⟩
      · obtain ⟨A2, l2⟩ := A1.aside (o := .lst []) hL
        refine ⟨Wd.hold ⟨W1.ρ, W1.F, W1.T, upd W1.H L (.lst [])⟩ T2, st1, [], [], l2, rfl, rfl, upd_same, .nil, A2.keepT (fun a h => ?_) (fun a h z => ?_) (fun i o a hm hr h => ?_), Nat.le_refl _, nF1, ?_⟩
        · rcases h with h | rfl
          · exact A2.fz a (.inr h)
          · exact ⟨_, upd_same⟩
        · rcases h with h | rfl
          · exact A1.ft a z h
          · exact nF1 z
        · obtain ⟨b, eb, nb, rb⟩ := A1.obj i o hm
          have eb' : W1.ρ i = some a := hr
          rw [eb'] at eb
          cases eb
          rcases h with h | rfl
          · exact nb (.inr h)
          · obtain ⟨u, eu⟩ := rb.some
            rw [hL] at eu; cases eu
        · exact p1
      · rintro i m H' ⟨rfl, hi, W2, st2, acc, accV, l12, eT, rfl, eL, ra, A2, hacc, nF2, p2⟩
        have lf12 : W1.lf W2 := ⟨l12.r, l12.f, l12.h⟩
        have TL2 : W2.T L := by rw [eT]; exact .inr rfl
        by_cases hlt : i < ds.length
        · refine .inr ⟨it.goes i W2 hlt lf12, Pv (i + 1), fun H3 p3 => ⟨ds.length - (i + 1), by omega, rfl, hlt, p3⟩, fun x H3 y => ?_⟩
          obtain ⟨W3, d, l3, rfl, A3, ed, rd⟩ := it.yields i W2 st2 x H3 hlt lf12 A2 y
          obtain ⟨hlt', ed'⟩ := List.getElem?_eq_some_iff.mp ed
          rw [List.drop_eq_getElem_cons hlt, ed'] at p2
          have re3 : REnv K G W3 (wipeD env own) (L2.wipe σ own) := REnv.wiped (⟨re1.1, fun i d e => let ⟨v, h1, h2⟩ := re1.2 i d e; ⟨v, h1, (h2.uf lf12).up l3⟩⟩ : REnv K G W3 env σ) own
          unfold lcRun at p2
          refine ht W3 (wipeD env own) d st2 x (L2.wipe σ own) _ A3 re3 rd ?_
          cases hgt : gt d (wipeD env own) with
          | none => rw [hgt] at p2; exact p2
          | some env4 =>
            rw [hgt] at p2
            intro σ4 re4 hw4
            refine ⟨hw4.trans (wipe_wipe σ own), W3, env4, st2, rfl, A3, re4, ?_⟩
            dsimp only at p2
            cases hf : gf env4 st2 with
            | bad => rw [hf] at p2; exact False.elim p2
            | exc c fs st5 => rw [hf] at p2; exact False.elim p2
            | ok k st5 =>
              rw [hf] at p2
              intro W5 l5 A5
              have l25 : W2.le W5 := l3.trans l5
              have up1 : ∀ {W' : Wd}, W2.le W' → W1.le (W'.hold W1.T) := fun {W'} l => l12.trans (Wd.le.unhold (W := W2.hold W1.T) (T := W2.T) (show ((W2.hold W1.T).hold W2.T).le W' from l) fun a h => by rw [eT]; exact .inl h)
              have nF : ∀ {W' : Wd} {st : Sto}, W2.le W' → Abs K G W' st → ¬ W'.F L := fun {W' st} l a z => a.ft L z (by rw [l.t]; exact TL2)
              cases k with
              | false =>
                rw [if_neg Bool.false_ne_true]
                exact ⟨W5, st5, acc, accV, up1 l25, l25.t.trans eT, rfl, (l25.k L TL2).trans eL, ra.up l25, A5, Nat.le_succ_of_le hacc, nF l25 A5, p2⟩
              | true =>
                rw [if_pos rfl]
                refine ⟨W5, env4, st5, rfl, A5, re4.up l5, ?_⟩
                have p5 : Post K G W1 (fun cls d H => wx cls d σ H) (((ge env4 st5).nox.bind fun y st2 => (lcRun gt gf ge (wipeD env own) (ds.drop (i + 1)) st2).bind fun ys st3 => Out.ok (y :: ys) st3).bind fun ys st3 => .ok (.lst (acc ++ ys)) st3) Q := p2
                cases he : ge env4 st5 with
                | bad => rw [he] at p5; exact False.elim p5
                | exc c fs st6 => rw [he] at p5; exact False.elim p5
                | ok y st6 =>
                  rw [he] at p5
                  intro W6 yv l6 A6 ry
                  have l26 : W2.le W6 := l25.trans l6
                  have l16 := up1 l26
                  have eL6 : W6.H L = some (.lst accV) := (l26.k L TL2).trans eL
                  have TL6 : W6.T L := by rw [l26.t]; exact TL2
                  have lf67 : W6.lf ⟨W6.ρ, W6.F, W6.T, upd W6.H L (.lst (accV ++ [yv]))⟩ := ⟨fun _ _ h => h, fun _ h => h, fun a h => upd_ne fun (z : a = L) => A6.ft a h (by rw [z]; exact TL6)⟩
                  refine ⟨accV, eL6, by rw [← ra.length, sizeLine_eq]; omega, ⟨W6.ρ, W6.F, W6.T, upd W6.H L (.lst (accV ++ [yv]))⟩, st6, acc ++ [y], accV ++ [yv], ⟨l16.r, l16.f, fun a h => ?_, rfl, fun a h => ?_⟩, l26.t.trans eT, rfl, upd_same,
                    ((ra.up l26).append (.cons ry .nil)).uf lf67, A6.wrT TL6, by rw [List.length_append]; simpa using hacc, (fun (z : W6.F L) => nF l26 A6 z), ?_⟩
                  · exact (upd_ne fun (z : a = L) => nF1 (by rw [← z]; exact h)).trans (l16.h a h)
                  · exact (upd_ne fun (z : a = L) => nT1 (by rw [← z]; exact h)).trans (l16.k a h)
                  · have p6 : Post K G W1 (fun cls d H => wx cls d σ H) (((lcRun gt gf ge (wipeD env own) (ds.drop (i + 1)) st6).bind fun ys st3 => Out.ok (y :: ys) st3).bind fun ys st3 => .ok (.lst (acc ++ ys)) st3) Q := p5
                    cases hr : lcRun gt gf ge (wipeD env own) (ds.drop (i + 1)) st6 with
                    | bad => rw [hr] at p6; exact False.elim p6
                    | exc c fs st7 => rw [hr] at p6; exact p6
                    | ok zs st7 =>
                      rw [hr] at p6
                      have e7 : acc ++ [y] ++ zs = acc ++ y :: zs := by simp
                      show Post K G W1 _ (.ok (.lst (acc ++ [y] ++ zs)) st7) Q
                      rw [e7]
                      exact p6
        · have e : i = ds.length := by omega
          subst e
          rw [List.drop_length] at p2
          refine .inl ⟨it.stops W2 lf12, ?_⟩
          have p3 : ∀ W' v, W1.le W' → Abs K G W' st2 → RelD K G W' (.lst (acc ++ [])) v → Q v W'.H := p2
          have lz : W2.lf ((W2.hold W1.T).frz L) := ⟨fun _ _ h => h, fun _ h => .inl h, fun _ _ => rfl⟩
          refine p3 ((W2.hold W1.T).frz L) (.ref L) (l12.trans Wd.le_frz) (A2.frzT TL2 (fun a h => by rw [eT]; exact .inl h) nT1) ?_
          rw [List.append_nil]
          exact .lst (.inr rfl) eL (ra.uf lz)
    · rw [if_neg hz] at p1
      exact False.elim p1
end
end DL

set_option Elab.async false
set_option linter.all false
set_option maxRecDepth 100000
/-! # DCall: comprehensions as expressions, calls of defs, attributes, methods, new instances -/
namespace DL
open PySem PySem.Spec PyProof.Rows L2

/-! ### a comprehension's tests, the comprehension -/
structure DTs (X : Cx) (G : CG) (ifs : List Expr) (g : DenB) : Prop where
  pts : PTs X ifs (rB X.K G W0 g)
theorem _root_.L2.PTs.imp {X : Cx} {e : List Expr} {t t' : TT} (h : PTs X e t) (i : ∀ σ H Q, t' σ H Q → t σ H Q) : PTs X e t' := ⟨fun pins s σ H Q I q => h.run pins s σ H Q I (i σ H Q q)⟩
def bYes : DenB := fun _ st => .ok true st
section
variable {X : Cx} {G : CG} {wx : WX}
theorem dts_nil : DTs X G [] bYes := ⟨pts_nil.imp fun σ H Q q => by
  obtain ⟨W, env, st, rfl, A, re, p⟩ := q
  exact p W .rfl' A⟩
theorem dts_one {c : Expr} {g : DenB} (h : DB X G W0 c g) : DTs X G [c] g := ⟨pts_one h.pt⟩
section
variable {elt tg iter : Expr} {ifs : List Expr} {scope : Scope} {own : List (Str × Nat)} {pos : Pos} {gi : DenA} {t : TG} {gt : D → DEnv → Option DEnv} {gf : DenB} {ge : Den}
theorem de_lc (hc : X.calm = true) (hN : X.N.Nodup) (hi : DI X G wx tg iter gi) (ok : BlkOk X.N X.env.scope scope own)
    (hg : ∀ (s : Shared) (H : Hp) (C : Addr) (cl : List (Str × Addr)) (fp : List Addr), PG (X.blk s H scope (compEnvC scope cl C X.env) fp) tg t) (ht : TGok X.K G t gt (own.map (·.2)))
    (hf : ∀ (s : Shared) (H : Hp) (C : Addr) (cl : List (Str × Addr)) (fp : List Addr), DTs (X.blk s H scope (compEnvC scope cl C X.env) fp) G ifs gf)
    (he : ∀ (s : Shared) (H : Hp) (C : Addr) (cl : List (Str × Addr)) (fp : List Addr), DE (X.blk s H scope (compEnvC scope cl C X.env) fp) G W0 elt ge) (hs : ∀ x, foldedSetIterable iter X.env x = pure x := by intro _; rfl) :
    DE X G wx (.ListComp elt [⟨tg, iter, ifs, 0⟩] scope pos) (dLc gi (own.map (·.2)) gt gf ge) :=
  ⟨(pe_lc hc hN hi.pi ok hg (fun s H C cl fp => (hf s H C cl fp).pts) (fun s H C cl fp => (he s H C cl fp).pe) hs).imp fun σ H Q q => tLc_of ht σ H Q q⟩
/-- name = [..] on one line -/
theorem ds_setLc {i : Nat} {y : Str} {py spos : Pos} (hc : X.calm = true) (hN : X.N.Nodup) (hy : X.N[i]? = some y) (hyl : X.env.scope.names.lookup y = some .local)
    (hsw : swapsWith (.ListComp elt [⟨tg, iter, ifs, 0⟩] scope pos) (some (.Name y py)) spos.line X.env = pure true) (hi : DI X G wx tg iter gi) (ok : BlkOk X.N X.env.scope scope own)
    (hg : ∀ (s : Shared) (H : Hp) (C : Addr) (cl : List (Str × Addr)) (fp : List Addr), PG (X.blk s H scope (compEnvC scope cl C X.env) fp) tg t) (ht : TGok X.K G t gt (own.map (·.2)))
    (hf : ∀ (s : Shared) (H : Hp) (C : Addr) (cl : List (Str × Addr)) (fp : List Addr), DTs (X.blk s H scope (compEnvC scope cl C X.env) fp) G ifs gf)
    (he : ∀ (s : Shared) (H : Hp) (C : Addr) (cl : List (Str × Addr)) (fp : List Addr), DE (X.blk s H scope (compEnvC scope cl C X.env) fp) G W0 elt ge) (hs : ∀ x, foldedSetIterable iter X.env x = pure x := by intro _; rfl) :
    DS X G wx (.Assign [.Name y py] (.ListComp elt [⟨tg, iter, ifs, 0⟩] scope pos) spos) (sAsg (dLc gi (own.map (·.2)) gt gf ge) (gN i)) :=
  ⟨(ps_setLc hc hN hy hyl hsw hi.pi ok hg (fun s H C cl fp => (hf s H C cl fp).pts) (fun s H C cl fp => (he s H C cl fp).pe) hs).imp fun D σ H q => by
    refine tLc_of (wx := wx) (gi := gi) (gf := gf) (ge := ge) ht σ H _ ?_
    obtain ⟨W, env, st, rfl, A, re, p⟩ := q
    refine ⟨W, env, st, rfl, A, re, Post.go re p fun d st1 W1 v _ l1 A1 r1 p1 => ?_⟩
    exact p1 W1 _ .rfl' A1 ((re.up l1).set r1)⟩
end

/-! ### calls of defs -/
section
variable {k : Nat} {f : Addr} {fd : FuncData} {ps : List Str} {fn : List D → Sto → Out D} {x : Str} {p pos : Pos} {e : Expr} {es : List Expr} {g : DenA}
def dCall (fn : List D → Sto → Out D) (g : DenA) : Den := fun env st => (g env st).bind fun ds st1 => fn ds st1
theorem de_call (F : FnOk X.prog X.w X.K X.mg X.base (L2.CX X.prog X.w) k f fd ps (spD X.K G fn)) (hr : Room k X.A) (hg : Gl X x) (hm : X.mg x = some (.ref f)) (hk : PySem.W.keepIn X.K (.ref f) = true) (hb : Binds X.K fd ps []) (tk : Takes X wx)
    (ha : DA X G wx (e :: es) g) (hdb : (x == ("__debug__" : Str)) = false := by decide) (he : starEach (e :: es) X.env = (false, eval e X.env) :: starEach es X.env := by rfl) (hpl : (backTo pos (starEach es X.env)).any (·.1) = false := by rfl) :
    DE X G wx (.Call (.Name x p) (e :: es) [] pos) (dCall fn g) := ⟨(pe_callS (E := WE wx) F hr hg hm hk hb (passAt tk) ha.pa hdb he hpl).imp fun σ H Q q => by
  obtain ⟨W, env, st, rfl, A, re, p⟩ := q
  exact ⟨W, env, st, rfl, A, re, PostA.bind p fun ds st1 W1 vs _ l1 A1 r1 p1 => ⟨W1, ds, st1, rfl, A1, r1, p1⟩⟩⟩
def dCall0 (fn : List D → Sto → Out D) : Den := fun env st => (fn [] st).nox
theorem Post.nox {K : PySem.W.Frag} {W : Wd} {xw xw' : XK} {o : Out D} {Q : VK} (p : Post K G W xw o.nox Q) : Post K G W xw' o Q := by
  cases o with
  | bad => exact p
  | ok d st => exact p
  | exc c fs st => exact False.elim p
theorem de_call0 (F : FnOk X.prog X.w X.K X.mg X.base (L2.CX X.prog X.w) k f fd ps (spD X.K G fn)) (hr : Room k X.A) (hg : Gl X x) (hm : X.mg x = some (.ref f)) (hk : PySem.W.keepIn X.K (.ref f) = true) (hb : Binds X.K fd ps [])
    (hdb : (x == ("__debug__" : Str)) = false := by decide) : DE X G wx (.Call (.Name x p) [] [] pos) (dCall0 fn) := ⟨(pe_call0 F hr hg hm hk hb .nil passL hdb).imp fun σ H Q q => by
  obtain ⟨W, env, st, rfl, A, re, p⟩ := q
  exact ⟨W, [], st, rfl, A, .nil, Post.nox p⟩⟩

/-- a def's body keeps its mirror's promise: g the body's denotation over the slots -/
def runBody (n : Nat) (g : DenS) (ds : List D) (st : Sto) : Out D := match g (ds.map some ++ List.replicate (n - ds.length) none) st with
  | .nx _ st1 => .ok .non st1
  | .rt d st1 => .ok d st1
  | .exc c fs _ st1 => .exc c fs st1
  | _ => .bad
theorem REnv.start {K : PySem.W.Frag} {W : Wd} {ds : List D} {vs : List V} {N : List Str} (r : RelDs K G W ds vs) (hl : vs.length ≤ N.length) : REnv K G W (ds.map some ++ List.replicate (N.length - ds.length) none) (L2.start N vs) := by
  have e := r.length
  refine ⟨by simp [L2.start, e], fun i d h => ?_⟩
  by_cases hi : i < ds.length
  · rw [List.getElem?_append_left (by simpa using hi), List.getElem?_map] at h
    cases hd : ds[i]? with
    | none => rw [hd] at h; cases h
    | some d' =>
      rw [hd] at h
      cases h
      obtain ⟨v, h1, h2⟩ := r.get hd
      refine ⟨v, ?_, h2⟩
      unfold L2.start
      rw [List.getElem?_append_left (by rw [List.length_map]; omega), List.getElem?_map, h1]
      rfl
  · rw [List.getElem?_append_right (by simpa using hi), List.getElem?_replicate] at h
    split at h <;> cases h
/-- from the body to the promise -/
theorem body_ok {K : PySem.W.Frag} {g : DenS} {N : List Str} {vs : List V} {H : Hp} {Q : VK} {E : XK} (hl : vs.length ≤ N.length) (q : spD K G (runBody N.length g) vs H Q E) :
    rS K G (fun cls d _ H => E cls d H) g { nx := fun _ H' => Q .non H', rt := Q } (L2.start N vs) H := by
  obtain ⟨W, ds, st, rfl, A, r, p⟩ := q
  refine ⟨W, _, st, rfl, A, REnv.start r hl, ?_⟩
  unfold runBody at p
  cases hg : g (ds.map some ++ List.replicate (N.length - ds.length) none) st with
  | bad => rw [hg] at p; exact p
  | nx env st1 => rw [hg] at p; exact fun W' σ' l a re => p W' .non l a .non
  | rt d st1 => rw [hg] at p; exact p
  | bk env st1 => rw [hg] at p; exact False.elim p
  | ct env st1 => rw [hg] at p; exact False.elim p
  | exc c fs env st1 => rw [hg] at p; exact fun σ' W1 l1 re1 => XcOk.up p l1
/-- a def of the text by its body -/
theorem fn_d {P : Program} {w : World} {K : PySem.W.Frag} {mg : Str → Option Value} {base : Heap} {x qual : Str} {st : Stmt} {f : Addr} {fd : FuncData} {N ps : List Str} {k : Nat} {g : DenS} {fn : List D → Sto → Out D} (F : Fun K x qual st f fd) (S : FnScope N ps (defScope st)) (hN : ps.length ≤ N.length)
    (hlen : ∀ ds s, ds.length ≠ ps.length → fn ds s = .bad)
    (hfn : ∀ ds s, fn ds s ≠ .bad → runBody N.length g ds s = fn ds s)
    (hbody : ∀ (cdv : Value) (A : Around) (outer : List Env) (s : Shared) (H : Hp) (E : XK), Room k (A.deeper (envOfC qual (defScope st) s.heap.objs.size f cdv)) →
      DSs (cxOf (L2.CX P w) P w K mg base N qual (defScope st) f cdv A outer s H E) G (fun cls d _ H => E cls d H) (defBody st) g) : FnOk P w K mg base (L2.CX P w) (k + 1) f fd ps (spD K G fn) := by
  have len : ∀ vs H Q E, spD K G fn vs H Q E → vs.length = ps.length := fun vs H Q E q => by
    obtain ⟨W, ds, st, rfl, A, r, p⟩ := q
    by_cases h : ds.length = ps.length
    · exact r.length ▸ h
    · rw [hlen ds st h] at p; exact False.elim p
  refine F.okX S len fun cdv A outer s H vs Q E hr q => ?_
  refine ⟨_, (hbody cdv A outer s H E hr).pss, body_ok (by rw [len vs H Q E q]; exact hN) ?_⟩
  obtain ⟨W, ds, st, rfl, A', r, p⟩ := q
  refine ⟨W, ds, st, rfl, A', r, ?_⟩
  cases hf : fn ds st with
  | bad => rw [hf] at p; exact False.elim p
  | ok d st1 => rw [hfn ds st (by rw [hf]; exact fun z => by cases z)]; exact p
  | exc c fs st1 => rw [hfn ds st (by rw [hf]; exact fun z => by cases z)]; exact p
end
/-- the context of a def takes what it raises -/
theorem takes_cx {P : Program} {w : World} {K : PySem.W.Frag} {mg : Str → Option Value} {base : Heap} {N : List Str} {qual : Str} {sc : Scope} {f : Addr} {cdv : Value} {A : Around} {outer : List Env} {s : Shared} {H : Hp} {E : XK} :
    Takes (cxOf (L2.CX P w) P w K mg base N qual sc f cdv A outer s H E) (fun cls d _ H => E cls d H) := takes_of rfl rfl rfl rfl
theorem passes_cx {P : Program} {w : World} {K : PySem.W.Frag} {mg : Str → Option Value} {base : Heap} {N : List Str} {qual : Str} {sc : Scope} {f : Addr} {cdv : Value} {A : Around} {outer : List Env} {s : Shared} {H : Hp} {E : XK} :
    PassesOwn (model P w) (cxOf (L2.CX P w) P w K mg base N qual sc f cdv A outer s H E).A (cxOf (L2.CX P w) P w K mg base N qual sc f cdv A outer s H E).env (cxOf (L2.CX P w) P w K mg base N qual sc f cdv A outer s H E).xe := passes_of rfl

/-! ### attributes -/
section
variable {o e : Expr} {f : Str} {go ga : Den} {pos pos' : Pos}
/-- the attributes of an instance, frozen or the store's -/
def insOf (d : D) (st : Sto) : Option (String × List (Str × D)) := match d with
  | .ins c fs => some (c, fs)
  | .ref i => match st.m i with | some (.ins c fs) => some (c, fs) | _ => none
  | _ => none
theorem ins_of {K : PySem.W.Frag} {W : Wd} {d : D} {st : Sto} {v : V} {c : String} {fs : List (Str × D)} (A : Abs K G W st) (r : RelD K G W d v) (h : insOf d st = some (c, fs)) :
    ∃ a C dx gs, v = .ref a ∧ G c = some C ∧ W.H a = some (.ins C dx gs) ∧ RelFs K G W fs gs := by
  cases d with
  | ins c' fs' =>
    cases h
    cases r with
    | ins hf hc hr hs => exact ⟨_, _, _, _, rfl, hc, hr, hs⟩
  | ref i =>
    cases r with
    | @ref _ a hr =>
      unfold insOf at h
      dsimp only at h
      split at h
      · rename_i c' fs' hm
        cases h
        obtain ⟨b, eb, _, rm⟩ := A.obj i _ hm
        rw [hr] at eb
        cases eb
        cases rm with
        | ins hc h1 h2 => exact ⟨_, _, _, _, rfl, hc, h1, h2⟩
      · cases h
  | _ => cases h
def dFld (cs : List String) (g : Den) (f : Str) : Den := fun env st => (g env st).bind fun d st1 => match insOf d st1 with
  | some (c, fs) => if c ∈ cs then (match fs.lookup f with | some x => .ok x st1 | none => .bad) else .bad
  | none => .bad
/-- o.f, o of one of the classes cs -/
theorem de_fld {cs : List String} (h : DE X G wx o go) (hC : ∀ c ∈ cs, ∀ C, G c = some C → Cls X.K C ∧ NoAttr X.K C f) (hb : attributeBase o f X.env (eval o X.env) = eval o X.env) : DE X G wx (.Attribute o f pos) (dFld cs go f) :=
  ⟨(pe_fld h.pe hb).imp fun σ H Q q => by
    obtain ⟨W, env, st, rfl, A, re, p⟩ := q
    refine ⟨W, env, st, rfl, A, re, Post.bind p fun d st1 W1 v _ l1 A1 r1 p1 => ?_⟩
    cases hi : insOf d st1 with
    | none => rw [hi] at p1; exact False.elim p1
    | some cf =>
      obtain ⟨c, fs⟩ := cf
      rw [hi] at p1
      dsimp only at p1
      by_cases hc : c ∈ cs
      · rw [if_pos hc] at p1
        obtain ⟨a, C, dx, gs, rfl, gc, ha, rf⟩ := ins_of A1 r1 hi
        cases hl : fs.lookup f with
        | none => rw [hl] at p1; exact False.elim p1
        | some x =>
          rw [hl] at p1
          obtain ⟨y, h1, h2⟩ := rf.look hl
          obtain ⟨k1, k2⟩ := hC c hc C gc
          exact ⟨a, C, dx, gs, y, rfl, ha, k1, k2, h1, p1 W1 y .rfl' A1 h2⟩
      · rw [if_neg hc] at p1
        exact False.elim p1⟩
theorem RelFs.putF {K : PySem.W.Frag} {W : Wd} {d : D} {v : V} (r : RelD K G W d v) (f : Str) : ∀ {fs : List (Str × D)} {gs : List (Str × V)}, RelFs K G W fs gs → RelFs K G W (putD f d fs) (L2.putF f v gs)
  | _, _, .nil => .cons r .nil
  | _, _, .cons (f := g) (fs := fs) (gs := gs) (v := u) (d := e) ru t => by
    unfold putD L2.putF
    by_cases h : g = f
    · subst h
      simp only [if_true, beq_self_eq_true]
      exact .cons r t
    · have hb : (g == f) = false := by simpa using h
      simp only [if_neg h, hb, Bool.false_eq_true, if_false]
      exact .cons ru (RelFs.putF r f t)
/-- o.f = e, o the store's -/
def sFldD (cs : List String) (go ga : Den) (f : Str) : DenS := fun env st => (ga env st).go env fun d st1 => (go env st1).go env fun o st2 => match o with
  | .ref i => match st2.m i with
    | some (.ins c fs) => if c ∈ cs ∧ fs.length < 1000 then .nx env (st2.set i (.ins c (putD f d fs))) else .bad
    | _ => .bad
  | _ => .bad
theorem ds_fld {cs : List String} (ho : DE X G wx o go) (h : DE X G wx e ga) (hC : ∀ c ∈ cs, ∀ C, G c = some C → Cls X.K C ∧ NoAttr X.K C f) (hs : swapsWith e (some (.Attribute o f pos')) pos.line X.env = pure false := by rfl) :
    DS X G wx (.Assign [.Attribute o f pos'] e pos) (sFldD cs go ga f) := ⟨(ps_fld ho.pe h.pe hs).imp fun D σ H q => by
  obtain ⟨W, env, st, rfl, A, re, p⟩ := q
  refine ⟨W, env, st, rfl, A, re, Post.go re p fun d st1 W1 v _ l1 A1 r1 p1 => ?_⟩
  refine ⟨W1, env, st1, rfl, A1, re.up l1, Post.go (re.up l1) p1 fun o st2 W2 u _ l2 A2 r2 p2 => ?_⟩
  cases o with
  | ref i =>
    dsimp only at p2
    cases hm : st2.m i with
    | none => rw [hm] at p2; exact False.elim p2
    | some m =>
      rw [hm] at p2
      cases m with
      | lst l => exact False.elim p2
      | dic l => exact False.elim p2
      | ins c fs =>
        dsimp only at p2
        by_cases hc : c ∈ cs ∧ fs.length < 1000
        · rw [if_pos hc] at p2
          cases r2 with
          | @ref _ a hr =>
            obtain ⟨b, eb, nf, rm⟩ := A2.obj i _ hm
            rw [hr] at eb
            cases eb
            cases rm with
            | @ins _ _ gs _ C dx gc h1 h2 =>
              obtain ⟨k1, k2⟩ := hC c hc.1 C gc
              refine ⟨a, C, dx, gs, rfl, h1, k1, k2, by rw [← h2.length]; exact hc.2, ?_⟩
              have lw : W2.le (W2.wr a (.ins C dx (L2.putF f v gs))) := Wd.le_wr nf
              exact p2 (W2.wr a (.ins C dx (L2.putF f v gs))) σ lw (A2.wr hm hr (.ins gc upd_same ((h2.up lw).putF ((r1.up l2).up lw) f))) ((re.up l1).up (l2.trans lw))
        · rw [if_neg hc] at p2
          exact False.elim p2
  | _ => exact False.elim p2⟩
end
end
end DL

set_option Elab.async false
set_option linter.all false
set_option maxRecDepth 100000
/-! # DSup: methods that close over __class__, super().__init__(..) as their first row -/
namespace DL
open PySem PySem.Spec PyProof.Rows L2 ClX NdefX StX

structure PSAt (X : Cx) (b : List Stmt) (st : Stmt) (t : TS) : Prop where
  run : ∀ (pins : List (Addr × Obj)) (s : Shared) (σ : L2.St) (H : Hp) (D : Ends), Inv X pins σ H s → t D σ H →
    PySem.wpAt (model X.prog X.w) X.A (.func b X.env) (exec st X.env) (SP X pins D) X.xe s
structure PSsAt (X : Cx) (b st : List Stmt) (t : TS) : Prop where
  run : ∀ (pins : List (Addr × Obj)) (s : Shared) (σ : L2.St) (H : Hp) (D : Ends), Inv X pins σ H s → t D σ H →
    PySem.wpAt (model X.prog X.w) X.A (.func b X.env) (execs st X.env) (SP X pins D) X.xe s
theorem PSAt.seq {X : Cx} {b : List Stmt} {st : Stmt} {rest : List Stmt} {t u : TS} (h1 : PSAt X b st t) (h2 : PSs X rest u) : PSsAt X b (st :: rest) (tSeq t u) := by
  refine ⟨fun pins s σ H D I h => ?_⟩
  refine ks_wpAt_execs_cons (ks_wpAt_mono (h1.run pins s σ H { D with nx := u D } I h) (fun f s1 q => ?_) fun _ _ x => x)
  cases f with
  | next =>
    obtain ⟨σ', H', I', q⟩ := q
    exact wpAt_of_wpAny (h2.run pins s1 σ' H' D I' q)
  | ret v => exact q
  | brk => exact q
  | cont => exact q

/-- what super() needs in a method that has captured __class__ (the class D) -/
structure Sup (X : Cx) (f c cc D : Addr) (sf : Str) : Prop where
  func : X.env.func = some f
  code : X.env.code = .ref c
  hks : X.env.kindOf "super" = some .globalImplicit
  hkc : X.env.kindOf "__class__" = some .free
  cell : X.env.cells.lookup ("__class__" : Str) = some cc
  cellK : ∃ a b d, X.K.lookup cc = some ⟨a, b, .cell (some (.ref D)), d⟩
  fk : ∃ a b d fd ar, X.K.lookup f = some ⟨a, b, .func fd, d⟩ ∧ (fd.params.posonlyargs ++ fd.params.args).head? = some ar ∧ ar.arg = sf
  ck : ∃ a b d vs file tf, X.K.lookup c = some ⟨a, b, .fields vs, d⟩ ∧ vs[2]? = some (.str file tf) ∧ ((X.prog.main.file : Str) == file) = true
  top : (X.prog.main.scope.names.lookup ("super" : Str)).isSome = false
  mg : X.mg "super" = none
  cls : ∃ cd, PySem.W.clsIn X.K D = some cd
  self0 : X.N[0]? = some sf
  loc : X.env.kindOf sf = some .local
  opq : PySem.W.nsIn X.K cStatics "thirdparty.any" = some none
abbrev supO (D x C : Addr) : Obj := { cls := .type "super", dict := none, data := .fields #[.ref D, .ref x, .ref C], slots := #[] }
section
variable {X : Cx} {pins : List (Addr × Obj)} {σ : L2.St} {H : Hp} {s : Shared} {f c cc D x C : Addr} {sf attr : Str} {b : List Stmt} {p0 p1 : Pos} {ox : Obj}
theorem sup_obj {E : Value → Shared → Prop} {Q : Value → Shared → Prop} {whole : Sem Value} (S : Sup X f c cc D sf) (I : Inv X pins σ H s) (h0 : σ[0]? = some (some (.ref x))) (hx : s.heap.get? x = some ox) (hxc : ox.cls = .ref C)
    (hno : ∀ cd, ox.data ≠ .cls cd) (hsub : PySem.W.mroIn X.K C (.ref D) = some true) (hat : (attr == ("__class__" : Str)) = false)
    (h : ∀ h', h'.get? s.heap.objs.size = some (supO D x C) → (∀ y o, s.heap.get? y = some o → h'.get? y = some o) → Q (.ref s.heap.objs.size) { s with heap := h' }) :
    PySem.wpAt (model X.prog X.w) X.A (.func b X.env) (attributeBase (.Call (.Name "super" p0) [] [] p1) attr X.env whole) Q E s := by
  have KX := I.kIn
  obtain ⟨_, _, _, hcell⟩ := S.cellK
  obtain ⟨_, _, _, fd, ar, hf, hp, har⟩ := S.fk
  obtain ⟨_, _, _, vs, file, tf, hc, hvs, hfile⟩ := S.ck
  obtain ⟨cd, hD⟩ := S.cls
  obtain ⟨oD, hD1, hD2⟩ : ∃ oD, s.heap.get? D = some oD ∧ oD.data = .cls cd := by
    unfold PySem.W.clsIn at hD
    split at hD
    · rename_i c d cd' sl ho
      cases hD
      exact ⟨_, KX _ _ ho, rfl⟩
    · cases hD
  refine ks_wpAt_super_base S.hks S.hkc hat S.func (KX _ _ hf) rfl hp S.code (KX _ _ hc) rfl hvs hfile S.top ?_
  obtain ⟨mb, h1, h2⟩ := I.mod.blt
  refine PySem.W.ks_loadName_global I.ok.kind S.hks (Calls.loadGlobal_builtin (by rw [I.ok.glob]; exact I.mod.glob.keeps I.bk) S.mg (by rw [I.ok.blt]; exact h1.keeps I.bk) ((h2 "super" (by decide)).trans (by decide +kernel : bootBuiltins "super" = some (.type "super"))) ⟨rfl, ?_⟩)
  refine wpAny_loadName_free I.ok.kind S.hkc S.cell ⟨_, KX _ _ hcell, rfl⟩ ?_
  obtain ⟨m, hn, hl⟩ := I.loc
  obtain ⟨u, ru, lk⟩ := hl 0 sf (.ref x) S.self0 h0 (.inl S.loc)
  obtain rfl : u = .ref x := ru
  have hm : m ar.arg = some (.ref x) := by
    rcases lk with ⟨_, q⟩ | ⟨q, _⟩
    · rw [har]; exact q
    · rw [S.loc] at q; rcases q with q | q <;> cases q
  refine wpAny_loadName_local I.ok.kind (by rw [har]; exact S.loc) hn hm ?_
  refine ks_wpAny_isType_cls hD1 hD2 ⟨rfl, ?_⟩
  obtain ⟨hh, g, d, t, os⟩ := s
  exact ks_wpAny_call_super hD1 hD2 hx hxc hno (PySem.W.looks_mroIn KX hsub) fun h' e k => h h' e k
end

/-- what the written part says of super().__init__ of a C, said in D's method: it is the def at g -/
structure SupM (K : PySem.W.Frag) (C D g : Addr) : Prop where
  sub : PySem.W.mroIn K C (.ref D) = some true
  find : PySem.W.ks_superIn K C D "__init__" = some (some (.ref g))
  ty : PySem.W.typeIn K (.ref g) = some (.type "function")
  fn : PySem.W.fnIn K g = true
def tSup (K : PySem.W.Frag) (D g : Addr) (sp : Sp) (E : XK) (ta : TA) : TS := fun Z σ H => ∃ x C dx gs, σ[0]? = some (some (.ref x)) ∧ H x = some (.ins C dx gs) ∧ SupM K C D g ∧
  ta σ H fun vs H1 => sp (.ref x :: vs) H1 (fun _ H2 => Z.nx σ H2) E
section
variable {X : Cx} {f c cc D g : Addr} {sf : Str} {b : List Stmt} {p0 p1 ap pos pos' : Pos} {e : Expr} {es : List Expr} {ta : TA} {CX : CXT} {k : Nat} {sp : Sp} {E : XK}
theorem at_sup {pl : Sem Bool} (S : Sup X f c cc D sf) (F : FnR X.prog X.w X.K X.mg X.base CX k g sp) (hr : Room k X.A) (hx : Passes CX X E) (ha : PA X (e :: es) ta)
    (he : starEach (e :: es) X.env = (false, eval e X.env) :: starEach es X.env := by rfl) (hpl : (backTo pos (starEach es X.env)).any (·.1) = false := by rfl)
    (ht : eval (.Call (.Attribute (.Call (.Name "super" p0) [] [] p1) "__init__" ap) (e :: es) [] pos) X.env = (do
      let ov ← attributeBase (.Call (.Name "super" p0) [] [] p1) "__init__" X.env (eval (.Call (.Name "super" p0) [] [] p1) X.env)
      standAt ap.atName
      let (f, first) ← holding [ov] (getMethod ov "__init__" pl)
      callWith pos f first (backTo pos (starEach (e :: es) X.env)) []) := by rfl)
    (hs : swapsWith (.Call (.Attribute (.Call (.Name "super" p0) [] [] p1) "__init__" ap) (e :: es) [] pos) none pos'.line X.env = pure false := by rfl) :
    PSAt X b (.Expr (.Call (.Attribute (.Call (.Name "super" p0) [] [] p1) "__init__" ap) (e :: es) [] pos) pos') (tSup X.K D g sp E ta) := by
  refine ⟨fun pins s σ H Z I h => ?_⟩
  obtain ⟨x, C, dx, gs, h0, ex, M, q⟩ := h
  obtain ⟨mA, ob, _, _, _, _⟩ := ins_get I.hok ex
  have ho : s.heap.get? x = some (PySem.W.instObj C dx) := ob.1
  have hnc : ∀ cd, (PySem.W.instObj C dx).data ≠ .cls cd := fun cd z => nomatch z
  refine ks_wpAt_Expr_any ?_ I.quiet hs
  refine ks_wpAt_MethodCall (pl := pl) ?_ ht
  refine sup_obj S I h0 ho rfl hnc M.sub (by decide) fun h' hso kp => ?_
  have I1 : Inv X pins σ H { s with heap := h' } := I.kept (t' := s.toks) kp
  have KX := I1.kIn
  have hfind := M.find
  unfold PySem.W.ks_superIn at hfind
  cases hcd : PySem.W.clsIn X.K C with
  | none => rw [hcd] at hfind; cases hfind
  | some cd =>
    rw [hcd] at hfind
    obtain ⟨og, hog, hogc⟩ : ∃ og, h'.get? g = some og ∧ og.cls = .type "function" := by
      have ht' : (X.K.lookup g).map (·.cls) = some (.type "function") := M.ty
      cases z : X.K.lookup g with
      | none => rw [z] at ht'; cases ht'
      | some og => rw [z] at ht'; exact ⟨og, KX _ _ z, Option.some.inj ht'⟩
    have hxC : x ≠ C := fun exC => by
      unfold PySem.W.clsIn at hcd
      split at hcd
      · rename_i c1 d1 cd1 sl1 ho1
        have z : h'.get? x = some (PySem.W.instObj C dx) := kp _ _ ho
        rw [exC, KX _ _ ho1] at z
        cases z
      · cases hcd
    obtain ⟨hh, gg, d, t, os⟩ := s
    refine ks_wpAny_getMethod_super (l₀ := cd.mro) hso (PySem.W.looks_opaque KX S.opq) (fun A Q E s k q => wpAny_bind ((PySem.W.looks_clsIn KX hcd) A _ E s k (wpAny_pure q))) rfl KX hfind hog hogc hxC (by decide) ?_
    have I2 : Inv X ((h'.objs.size, PySem.W.methodObj (.ref g) (.ref x)) :: pins) σ H ⟨h'.push (PySem.W.methodObj (.ref g) (.ref x)), gg, d, t + 1, os⟩ :=
      pin_new I1 (fun _ _ z => Heap.get?_push_of_some _ z) (Nat.le_refl _) (Heap.get?_push_size h' rfl) (fun v z => nomatch z)
    refine callwith_cm I2 (base_none I1 (Nat.le_refl _)) M.fn (thn (ha.run pos _ _ σ H _ I2 q) fun us s1 ⟨vs, H1, I3, r1, q1⟩ => ⟨⟨pin_at I3, I3.kIn⟩, ?_⟩) he hpl
    exact thn (run_cm F hr hx I3 r1 q1) fun u s2 ⟨v, H2, I4, _, q2⟩ => ⟨σ, H2, I4, q2⟩
end

/-- a method of the text that has captured the class D in the cell at cc -/
abbrev supF (x qual : Str) (st : Stmt) (cc c : Addr) : NF := ⟨x, qual, defArgs st, defBody st, defScope st, [("__class__", cc)], c⟩
structure FunC (K : PySem.W.Frag) (x qual : Str) (st : Stmt) (f : Addr) (fd : FuncData) (c cc D : Addr) : Prop where
  ex : ∃ (oc : Value) (od : Option Addr) (kV doc pm : Value) (an : Option Addr) (ct : Value) (osl : Array (Option Value)),
    fd = PySem.W.fnX x qual (defArgs st) (defBody st) (defScope st) [("__class__", cc)] .none kV doc pm an (.ref c) ct ∧ K.lookup f = some ⟨oc, od, .func fd, osl⟩ ∧ PySem.W.codeIn K (.ref c) qual = true
  cell : ∃ a b d, K.lookup cc = some ⟨a, b, .cell (some (.ref D)), d⟩
section
variable {P : Program} {w : World} {K : PySem.W.Frag} {mg : Str → Option Value} {base : Heap} {CX : CXT} {k : Nat} {f c cc D : Addr} {x qual : Str} {st : Stmt} {fd : FuncData} {N ps : List Str} {sp : Sp}
theorem fn_sup (F : FunC K x qual st f fd c cc D) (S : NScope N ps ["__class__"] (defScope st)) (len : ∀ vs H Q E, sp vs H Q E → vs.length = ps.length)
    (hbody : ∀ (A : Around) (outer : List Env) (s : Shared) (H : Hp) (vs : List V) (Q : VK) (E : XK), Room k (A.deeper (envF (supF x qual st cc c) f s.heap.objs.size)) → sp vs H Q E →
      ∃ t, PSsAt (ncx CX P w K mg base N (supF x qual st cc c) f A outer s H E) (defBody st) (defBody st) t ∧ t { nx := fun _ H' => Q .non H', rt := Q } (startF N vs [some (.ref D)]) H) :
    FnOk P w K mg base CX (k + 1) f fd ps sp := by
  obtain ⟨oc, od, kV, doc, pm, an, ct, osl, rfl, lk, hcd⟩ := F.ex
  obtain ⟨c1, c2, c3, hcell⟩ := F.cell
  refine ⟨len, fun A outer s H args us vs Q E hr e0 hb r hsp => ?_⟩
  have hl := len _ _ _ _ hsp
  have KX : K.In s.heap := e0.mod.kin.keeps fun b o e => (e0.bs b o e).1
  have lim : s.heap.NoLimit := e0.mod.nolimit.keeps fun b o e => (e0.bs b o e).1
  have C : CellsAt [("__class__", cc)] ["__class__"] [some (.ref D)] s.heap H := by
    have one : ∀ {y : Str} {a : Addr}, List.lookup y [(("__class__" : Str), cc)] = some a → y = "__class__" ∧ a = cc := fun {y a} z => by
      have m := PySem.mem_of_lookup z
      rw [List.mem_singleton] at m
      cases m
      exact ⟨rfl, rfl⟩
    refine ⟨rfl, fun y a z => ?_, fun y z a h1 h2 => (one h1).1.trans (one h2).1.symm, fun i y z => ?_⟩
    · obtain ⟨_, rfl⟩ := one z
      exact ⟨(e0.bs _ _ (e0.mod.kin _ _ hcell)).2, _, _, KX _ _ hcell, rfl⟩
    · have hi : i = 0 := by
        cases i with
        | zero => rfl
        | succ n => simp at z
      subst hi
      simp at z
      subst z
      refine ⟨cc, by simp [List.lookup], fun v hv => ?_⟩
      simp at hv
      subst hv
      exact ⟨.ref D, rfl, _, KX _ _ hcell, rfl⟩
  refine codeAny_call_function hr.depth (KX _ _ lk) rfl S.co S.gen rfl (PySem.W.codeRec_of KX hcd) (hb _ _ _ _ ?_)
  refine wpAny_newFunctionEnv S.nocell (fun ⟨n, _⟩ hy => S.par n (List.of_mem_zip hy).1) (fun h₁ hns hsb => ⟨lim.fresh _ hsb, ?_⟩) S.kind
  show codeAny _ _ (.func (defBody st) (envF (supF x qual st cc c) f s.heap.objs.size)) _ _
  refine ks_codeAny_funcAt ?_
  have kp : ∀ b o, s.heap.get? b = some o → h₁.get? b = some o := fun b o e => hsb.extBut b o (Nat.ne_of_lt (Heap.lt_size e)) (Heap.get?_push_of_some _ e)
  obtain ⟨t, ht, hq⟩ := hbody A outer s H vs Q E (hr.deeper _) hsp
  have I : Inv (ncx CX P w K mg base N (supF x qual st cc c) f A outer s H E) [] (startF N vs [some (.ref D)]) H { s with heap := h₁, toks := s.toks + (ps.zip us).length } := inv_startN S hr.hd e0 hl r C hns kp
  refine ks_wpAt_mono (ht.run [] _ _ H _ I hq) (fun fl s' hs => ?_) fun e s' hs => hs
  have fin : ∀ {σ' : L2.St} {H' : Hp} {v : V} {u : Value}, Inv (ncx CX P w K mg base N (supF x qual st cc c) f A outer s H E) [] σ' H' s' → L2.RelV v u → Q v H' → CE outer P w H s Q u s' :=
    fun {σ' H' v u} J rv q => ⟨v, H', J.os, J.bare, J.base, J.hok, rv, q⟩
  cases fl with
  | ret u =>
    obtain ⟨v, σ', H', J, rv, q⟩ := hs
    exact fin J rv q
  | next =>
    obtain ⟨σ', H', J, q⟩ := hs
    exact fin (v := V.non) (u := Value.none) J rfl q
  | brk =>
    obtain ⟨_, _, _, q⟩ := hs
    exact False.elim q
  | cont =>
    obtain ⟨_, _, _, q⟩ := hs
    exact False.elim q
end

/-! ### the same in an own exception: the built-in __init__ lays the args anew -/
structure SupE (K : PySem.W.Frag) (C D : Addr) : Prop where
  sub : PySem.W.mroIn K C (.ref D) = some true
  find : PySem.W.ks_superIn K C D "__init__" = some (some (.builtin "ValueError.__init__"))
  isVE : PySem.W.subIn K (.ref C) (.type "ValueError") = some true
  ox : OexC K C
def tSupE (K : PySem.W.Frag) (D : Addr) (ta : TA) : TS := fun Z σ H => ∃ a C, σ[0]? = some (some (.ref a)) ∧ H a = some (exo a C none) ∧ SupE K C D ∧
  ta σ H fun vs H1 => vs.length ≤ 1000 ∧ H1 a = some (exo a C none) ∧ Z.nx σ H1
section
variable {X : Cx} {pins : List (Addr × Obj)} {σ : L2.St} {H : Hp} {s : Shared} {a C u : Addr} {A : Around} {E : Value → Shared → Prop}
theorem bound_init {us : List Value} {Q : Value → Shared → Prop} (T : OexC X.K C) (I : Inv X ((u, PySem.W.kxs_mw "ValueError.__init__" a) :: pins) σ H s) (e : H a = some (exo a C none)) (hl : us.length ≤ sizeLine) (h : ∀ s', Inv X pins σ H s' → Q .none s') :
    wpAny (model X.prog X.w) A (call (.ref u) us) Q E s := by
  obtain ⟨nm, q, N, bs, bm, sn, sub, ab, col, dd, k0, k1, k2, k3, k5, hC, hbm⟩ := T.cls
  obtain ⟨t1, ho⟩ := exo_at I.hok e
  have hu := pin_at I
  have hun := pin_un I
  have hua : u ≠ a := fun z => by rw [z, e] at hun; cases hun
  have J0 := unpin I
  obtain ⟨hp, g, d, t, os⟩ := s
  refine wpAny_call (codeAny_of_tree ?_)
  show wpAny _ A.in1 (callAny (.ref u) ⟨us, []⟩) _ _ _
  simp only [callAny]
  refine wpAny_bind (wpAny_load hu ?_)
  simp only [show (Value.type "method-wrapper" == Value.type "method" || Value.type "method-wrapper" == Value.type "builtin_function_or_method" || Value.type "method-wrapper" == Value.type "method-wrapper") = true by decide, if_true]
  refine PySem.W.KFB.if_so (by decide) ?_
  refine wpAny_bind (PySem.W.check_bound_init F.excBase_ValueError.toExcCallFacts (I.kIn _ _ hC) ho rfl ?_)
  refine wpAny_bind (wpAny_pure (wpAny_pure ?_))
  refine ⟨plainId_quiet F.excBase_ValueError.init.plain _, codeAny_builtin F.excBase_ValueError.initEntry ?_⟩
  refine PySem.W.exc_init_tree (cls := .ref C) (t0 := t1) (dv := none) (c2 := .none) (c3 := .none) (b4 := .bool false) ho hl fun h' k hx _ => ?_
  have J := J0.write (t' := t) (x := a) (e := a) (o := exo a C none) (by rw [e]; exact True.intro) (.inl rfl) k ⟨_, hx⟩ (exo_ok hx)
  have eu : upd H a (exo a C none) = H := by
    funext b
    by_cases hb : b = a
    · rw [hb, upd_same, e]
    · rw [upd_ne hb]
  rw [eu] at J
  exact h _ J
end
section
variable {X : Cx} {f c cc D : Addr} {sf : Str} {b : List Stmt} {p0 p1 ap pos pos' : Pos} {e : Expr} {es : List Expr} {ta : TA}
theorem at_supE {pl : Sem Bool} (S : Sup X f c cc D sf) (ha : PA X (e :: es) ta)
    (he : starEach (e :: es) X.env = (false, eval e X.env) :: starEach es X.env := by rfl) (hpl : (backTo pos (starEach es X.env)).any (·.1) = false := by rfl)
    (ht : eval (.Call (.Attribute (.Call (.Name "super" p0) [] [] p1) "__init__" ap) (e :: es) [] pos) X.env = (do
      let ov ← attributeBase (.Call (.Name "super" p0) [] [] p1) "__init__" X.env (eval (.Call (.Name "super" p0) [] [] p1) X.env)
      standAt ap.atName
      let (f, first) ← holding [ov] (getMethod ov "__init__" pl)
      callWith pos f first (backTo pos (starEach (e :: es) X.env)) []) := by rfl)
    (hs : swapsWith (.Call (.Attribute (.Call (.Name "super" p0) [] [] p1) "__init__" ap) (e :: es) [] pos) none pos'.line X.env = pure false := by rfl) :
    PSAt X b (.Expr (.Call (.Attribute (.Call (.Name "super" p0) [] [] p1) "__init__" ap) (e :: es) [] pos) pos') (tSupE X.K D ta) := by
  refine ⟨fun pins s σ H Z I h => ?_⟩
  obtain ⟨x, C, h0, ex, M, q⟩ := h
  obtain ⟨t1, ho⟩ := exo_at I.hok ex
  refine ks_wpAt_Expr_any ?_ I.quiet hs
  refine ks_wpAt_MethodCall (pl := pl) ?_ ht
  refine sup_obj S I h0 ho rfl (fun cd z => nomatch z) M.sub (by decide) fun h' hso kp => ?_
  have I1 : Inv X pins σ H { s with heap := h' } := I.kept (t' := s.toks) kp
  have KX := I1.kIn
  have hfind := M.find
  unfold PySem.W.ks_superIn at hfind
  cases hcd : PySem.W.clsIn X.K C with
  | none => rw [hcd] at hfind; cases hfind
  | some cd =>
    rw [hcd] at hfind
    have hx1 := kp _ _ ho
    have hxC : x ≠ C := fun exC => by
      unfold PySem.W.clsIn at hcd
      split at hcd
      · rename_i c1 d1 cd1 sl1 ho1
        rw [exC, KX _ _ ho1] at hx1
        cases hx1
      · cases hcd
    have IA : PySem.W.InstAt h' x { cls := .ref C, dict := none, data := .fields #[.ref t1, .none, .none, .none, .bool false, .none] } C none := ⟨hx1, rfl, rfl, trivial⟩
    have hI : PySem.W.Looks (model X.prog X.w) h' (isInstance (.ref x) (.type "ValueError")) true := IA.type.andThen (PySem.W.looks_subIn KX M.isVE)
    obtain ⟨hh, gg, d, t, os⟩ := s
    refine PySem.W.kxs_getMethod PySem.W.kxs_ValueError (l₀ := cd.mro) hso (PySem.W.looks_opaque KX S.opq) (fun A Q E s k q => wpAny_bind ((PySem.W.looks_clsIn KX hcd) A _ E s k (wpAny_pure q))) rfl KX hfind hI hxC (by decide) ?_
    have I2 : Inv X ((h'.objs.size, PySem.W.kxs_mw "ValueError.__init__" x) :: pins) σ H ⟨h'.push (PySem.W.kxs_mw "ValueError.__init__" x), gg, d, t + 1, os⟩ :=
      pin_new I1 (fun _ _ z => Heap.get?_push_of_some _ z) (Nat.le_refl _) (Heap.get?_push_size h' rfl) (fun v z => nomatch z)
    have hargs := ha.run pos _ _ σ H _ I2 q
    rw [he] at hargs ⊢
    refine PySem.W.kxs_callWith (i := "ValueError.__init__") (x := x) (by show (false || (backTo pos (starEach es X.env)).any (·.1)) = false; rw [hpl]; rfl) (Calls.evalArgs_plain (thn hargs fun us s1 ⟨vs, H1, I3, r1, hz, e1, q1⟩ => ⟨pin_at I3, ?_⟩))
    exact bound_init M.ox I3 e1 (by show us.length ≤ sizeLine; rw [← Paired.length r1, sizeLine_eq]; omega) fun s' J => ⟨σ, H1, J, q1⟩
end
end DL

set_option Elab.async false
set_option linter.all false
set_option maxRecDepth 100000
/-! # DExc: own exceptions made as values, by place and by name -/
namespace PySem
namespace DLX
open HandSPX
section
variable {M : Model} {A : Around} {E : Value → Shared → Prop} {h : Heap} {g : Array GenState} {d : Drawn} {t : Nat} {os : OsState}
variable {nm q : Str} {C N : Addr} {bs bm bmB : List Value} {hdct : Bool} {sn : List Str} {sub : List Value} {ab : Bool} {col : Option Bool} {dd : Option Addr} {k0 k1 k2 k3 k5 : Option Value} {B newId initId : String}
theorem mk_check (FB : ExcBaseFacts B newId initId bmB) (hT : ∀ Y : String, bm.contains (.type Y) = bmB.contains (.type Y)) {vs : List Value} {kw : List (Str × Value)} {Q : Unit → Shared → Prop}
    (hC : h.get? C = some (excClassObj nm q C N bs bm hdct sn sub ab col dd k0 k1 k2 k3 k5 newId)) (hq : Q () ⟨h, g, d, t, os⟩) :
    wpAny M A (checkBuiltinCall newId ⟨.ref C :: vs, kw⟩) Q E ⟨h, g, d, t, os⟩ := by
  have c1 : (Value.ref C :: bm).contains (.type B) = true := by
    rw [List.contains_cons, hT, FB.hasB, Bool.or_true]
  have c2 := FB.noStar
  simp only [checkBuiltinCall, FB.newKind, FB.newSplit, FB.newRow]
  repeat (first
    | refine wpAny_loadPart_at hC ?_
    | (refine wpAny_isSubtype_exc hC ?_; rw [c1])
    | refine wpAny_staticBase_exc hC ?_
    | refine wpAny_madeBy_exc hC ?_
    | simp only [bne_self_eq_false, Bool.false_eq_true, if_false]
    | wp_step)
  exact hq
end
section
variable {prog : Program} {w : World} {A : Around} {E : Value → Shared → Prop} {R : Result → Shared → Prop} {h : Heap} {g : Array GenState} {d : Drawn} {t : Nat} {os : OsState}
variable {nm q : Str} {C N : Addr} {bs bm bmB : List Value} {hdct : Bool} {sn : List Str} {sub : List Value} {ab : Bool} {col : Option Bool} {dd : Option Addr} {k0 k1 k2 k3 k5 : Option Value} {B newId initId : String}
theorem mk_new (FB : ExcBaseFacts B newId initId bmB) (hT : ∀ Y : String, bm.contains (.type Y) = bmB.contains (.type Y)) {vs : List Value} {kw : List (Str × Value)}
    (hC : h.get? C = some (excClassObj nm q C N bs bm hdct sn sub ab col dd k0 k1 k2 k3 k5 newId)) (hz : vs.length ≤ sizeLine)
    (hq : R (.ok (.ret (.ref (h.objs.size + 1)))) ⟨(h.push (W.kdv_tup vs)).push (excO C h.objs.size), g, d, t, os⟩) :
    codeAny (model prog w) A (.builtin newId ⟨.ref C :: vs, kw⟩) R ⟨h, g, d, t, os⟩ := by
  have c0 := FB.ends
  have c1 : (Value.ref C :: bm).contains (.type B) = true := by
    rw [List.contains_cons, hT, FB.hasB, Bool.or_true]
  have c2 : (Value.ref C :: bm).contains (.type "AttributeError") = false := by
    rw [List.contains_cons, hT, FB.noAttr]
    rfl
  have c3 : (Value.ref C :: bm).contains (.type "NameError") = false := by
    rw [List.contains_cons, hT, FB.noName]
    rfl
  refine codeAny_builtinAt FB.entry ?_
  unfold Builtin.«BaseException.__new__»
  refine wpAt_bind ?_
  show wpAt _ _ _ (stack >>= _) _ _ _
  refine wpAt_bind (wpAt_stack fun p' lower => wpAt_of_wpAny ?_)
  wp_walk
  refine wpAt_of_wpAny ?_
  rw [FB.owner]
  repeat (first
    | with_reducible refine wpAny_madeHere_exc FB.canon hC ?_
    | with_reducible refine wpAny_loadPart_at hC ?_
    | (with_reducible refine wpAny_isSubtype_exc hC ?_; first | rw [c1] | rw [c2] | rw [c3])
    | wp_step)
  show R _ _
  rw [Heap.size_push]
  exact hq
theorem mk_type (FB : ExcBaseFacts B newId initId bmB) (hT : ∀ Y : String, bm.contains (.type Y) = bmB.contains (.type Y)) {vs : List Value} {kw : List (Str × Value)} {fI : Addr} {Q : Fin → Shared → Prop}
    (hC : h.get? C = some (excClassObj nm q C N bs bm hdct sn sub ab col dd k0 k1 k2 k3 k5 newId)) (hz : vs.length ≤ sizeLine)
    (hi : W.Looks (model prog w) h (typeLookup (.ref C) "__init__") (some (.ref fI))) (hb : ∀ o, W.Looks (model prog w) h (bindSpecial (.ref fI) o) (.ref fI, [o]))
    (hq : codeAny (model prog w) A (.call (.ref fI) ⟨.ref (h.objs.size + 1) :: vs, kw⟩)
      (fun r s' => match r with | .ok (.ret v) => v = .none ∧ Q (.done (.ret (.ref (h.objs.size + 1)))) s' | .ok _ => False | .error e => E e s')
      ⟨(h.push (W.kdv_tup vs)).push (excO C h.objs.size), g, d, t, os⟩) :
    wpAny (model prog w) A (Builtin.«type.__call__» ⟨.ref C :: vs, kw⟩) Q E ⟨h, g, d, t, os⟩ := by
  repeat (first | with_reducible refine wpAny_loadPart_at hC ?_ | with_reducible refine wpAny_madeBy_exc hC ?_ | wp_step)
  refine codeAny_call_builtin_code (Code.quiet_builtin _ FB.quiet) (mk_check FB hT hC ?_)
  refine mk_new FB hT hC hz ?_
  show wpAny _ _ _ _ _ _
  have up : ∀ b o, h.get? b = some o → ((h.push (W.kdv_tup vs)).push (excO C h.objs.size)).get? b = some o := fun b o e => Heap.get?_push_of_some _ (Heap.get?_push_of_some _ e)
  have hC2 := up _ _ hC
  have hx2 : ((h.push (W.kdv_tup vs)).push (excO C h.objs.size)).get? (h.objs.size + 1) = some (excO C h.objs.size) := by
    heap_get
  have c4 : (Value.ref C :: bm).contains (.ref C) = true := by
    simp
  have i2 := hi.keeps up
  have b2 := (hb (.ref (h.objs.size + 1))).keeps up
  unfold isInstance
  repeat (first
    | with_reducible refine wpAny_loadPart_at hx2 ?_
    | (with_reducible refine wpAny_isSubtype_exc hC2 ?_; rw [c4])
    | wp_step)
  show wpAny _ _ (typeLookup (.ref C) _) _ _ _
  refine i2.at ?_
  refine wpAny_holding (wpAny_bind (b2.at ?_))
  refine wpAny_bind (wpAny_call (codeAny_mono hq fun r s' z => ?_))
  rcases r with e | (v | _ | _ | _)
  all_goals first | exact z | exact z.elim | skip
  obtain ⟨rfl, z⟩ := z
  first
    | exact wpAny_pure (wpAny_pure z)
    | (wp_walk; exact z)
theorem mk_call (FB : ExcBaseFacts B newId initId bmB) (hT : ∀ Y : String, bm.contains (.type Y) = bmB.contains (.type Y)) {vs : List Value} {kw : List (Str × Value)} {fI : Addr}
    (hC : h.get? C = some (excClassObj nm q C N bs bm hdct sn sub ab col dd k0 k1 k2 k3 k5 newId)) (hz : vs.length ≤ sizeLine)
    (hi : W.Looks (model prog w) h (typeLookup (.ref C) "__init__") (some (.ref fI))) (hb : ∀ o, W.Looks (model prog w) h (bindSpecial (.ref fI) o) (.ref fI, [o]))
    (hq : codeAny (model prog w) (A.under (.builtin "type.__call__" ⟨.ref C :: vs, kw⟩)) (.call (.ref fI) ⟨.ref (h.objs.size + 1) :: vs, kw⟩) (W.InitBack (h.objs.size + 1) R)
      ⟨(h.push (W.kdv_tup vs)).push (excO C h.objs.size), g, d, t, os⟩) :
    codeAny (model prog w) A (.call (.ref C) ⟨vs, kw⟩) R ⟨h, g, d, t, os⟩ := by
  have g1 := tc_lookup
  have g2 := tc_bind (.ref C)
  have hTy : (⟨h, g, d, t, os⟩ : Shared).TypeIs (.ref C) "type" := ⟨_, hC, rfl⟩
  refine codeAny_of_tree ?_
  show wpAny _ _ (callAny (.ref C) _) _ _ _
  repeat (any_goals (first
    | assumption
    | with_reducible refine wpAny_loadPart_at hC ?_
    | wp_step))
  refine ⟨rfl, ?_⟩
  refine codeAny_call_builtin_at (Code.quiet_builtin _ (by decide +kernel)) entry_typeCall (wpAny_check_type_call_sub hC (mk_type FB hT hC hz hi hb ?_))
  refine codeAny_mono hq fun r s' z => ?_
  rcases r with e | (v | _ | _ | _)
  all_goals exact z
end
end DLX
end PySem

set_option Elab.async false
set_option linter.all false
set_option maxRecDepth 100000
/-! # DArgs: calls by place and by name, of defs, classes, exception classes -/
namespace DL
open PySem PySem.Spec PyProof.Rows L2 StX

/-- the arguments of a call: n by place, the names ks -/
structure PCA (X : Cx) (es : List Expr) (kws : List Keyword) (n : Nat) (ks : List Str) (t : TA) : Prop where
  run : ∀ (pos : Pos) (f : Value) (pins : List (Addr × Obj)) (s : Shared) (σ : L2.St) (H : Hp) (Q : Value → Shared → Prop) (Z : List V → Hp → Prop), PySem.W.keepIn X.K f = true → Inv X pins σ H s → t σ H Z →
    (∀ us ws vs s1 H1, Inv X pins σ H1 s1 → Vals vs (us ++ ws) → us.length = n → ws.length = ks.length → Z vs H1 → wpAny (model X.prog X.w) X.A (call f us (ks.zip ws)) Q X.xe s1) →
    wpAny (model X.prog X.w) X.A (callWith pos f [] (backTo pos (starEach es X.env)) (backToKw pos (keywordEach kws X.env))) Q X.xe s
section
variable {X : Cx} {e : Expr} {es : List Expr} {kws : List Keyword} {ta tk : TA} {n : Nat} {ks : List Str}
def tLen (n : Nat) (t : TA) : TA := fun σ H Q => t σ H fun vs H1 => vs.length = n ∧ Q vs H1
theorem pca_nil : PCA X [] [] 0 [] tNil := ⟨fun pos f pins s σ H Q Z hk I h k => PySem.W.callWith_K0 I.kIn hk (k [] [] [] s H I .nil rfl rfl h)⟩
theorem pca_pos (ha : PA X (e :: es) ta) (he : starEach (e :: es) X.env = (false, eval e X.env) :: starEach es X.env := by rfl) (hpl : ∀ pos, (backTo pos (starEach es X.env)).any (·.1) = false := by intro _; rfl) : PCA X (e :: es) [] n [] (tLen n ta) :=
  ⟨fun pos f pins s σ H Q Z hk I h k => PySem.W.callWith_K (h₀ := X.base) (first := []) I.ok.mod.kin hk (thn (ha.run pos pins s σ H _ I h) fun us s1 ⟨vs, H1, I1, r, hl, q⟩ =>
    ⟨I1.kIn, k us [] vs s1 H1 I1 (by rw [List.append_nil]; exact r) (r.length.symm.trans hl) rfl q⟩) he (hpl pos)⟩
theorem pca_kw0 (hkw : PK X kws tk) (hall : ∀ pos, (backToKw pos (keywordEach kws X.env)).all (·.1.isSome) = true := by intro _; rfl) (hks : ∀ pos, (backToKw pos (keywordEach kws X.env)).filterMap (·.1) = ks := by intro _; rfl)
    (hpl : ∀ pos, ((backTo pos (starEach [] X.env)).any (·.1) || (backToKw pos (keywordEach kws X.env)).any (·.1.isNone)) = false := by intro _; rfl) : PCA X [] kws 0 ks (tLen ks.length tk) :=
  ⟨fun pos f pins s σ H Q Z hk I h k => by
    refine PySem.W.callWith_KW0 (h₀ := X.base) I.ok.mod.kin hk (hall pos) ?_ (hpl pos)
    refine thn (hkw.run pos pins s σ H _ I h) fun ws s2 ⟨zs, H2, I2, rz, l2, q2⟩ => ⟨I2.kIn, ?_⟩
    rw [hks]
    exact k [] ws zs s2 H2 I2 rz rfl (rz.length.symm.trans l2) q2⟩
theorem pca_kw (ha : PA X (e :: es) ta) (hkw : PK X kws tk) (hall : ∀ pos, (backToKw pos (keywordEach kws X.env)).all (·.1.isSome) = true := by intro _; rfl) (hks : ∀ pos, (backToKw pos (keywordEach kws X.env)).filterMap (·.1) = ks := by intro _; rfl)
    (he : starEach (e :: es) X.env = (false, eval e X.env) :: starEach es X.env := by rfl) (hpl : ∀ pos, ((backTo pos (starEach (e :: es) X.env)).any (·.1) || (backToKw pos (keywordEach kws X.env)).any (·.1.isNone)) = false := by intro _; rfl) :
    PCA X (e :: es) kws n ks (fun σ H Q => ta σ H fun vs H1 => tk σ H1 fun zs H2 => vs.length = n ∧ zs.length = ks.length ∧ Q (vs ++ zs) H2) :=
  ⟨fun pos f pins s σ H Q Z hk I h k => by
    refine PySem.W.callWith_KW (h₀ := X.base) I.ok.mod.kin hk (hall pos) (thn (ha.run pos pins s σ H _ I h) fun us s1 ⟨vs, H1, I1, r, q⟩ => ?_) (hpl pos) he
    refine thn (hkw.run pos pins s1 σ H1 _ I1 q) fun ws s2 ⟨zs, H2, I2, rz, l1, l2, q2⟩ => ⟨I2.kIn, ?_⟩
    rw [hks]
    exact k us ws (vs ++ zs) s2 H2 I2 (r.append rz) (r.length.symm.trans l1) (rz.length.symm.trans l2) q2⟩
end

/-- a promise for calls of one form: n values by place, the names ks; told of them in the order as they are written -/
def FnB (P : Program) (w : World) (K : PySem.W.Frag) (mg : Str → Option Value) (base : Heap) (CX : CXT) (k : Nat) (f : Addr) (n : Nat) (ks : List Str) (sp : Sp) : Prop :=
  ∀ (A : Around) (outer : List Env) (s : Shared) (H : Hp) (us ws : List Value) (vs : List V) (Q : VK) (E : XK), Room k A → Env0 P w K mg base A outer s H → us.length = n → ws.length = ks.length → Vals vs (us ++ ws) → sp vs H Q E →
    codeAny (model P w) A (.call (.ref f) ⟨us, ks.zip ws⟩) (CR CX outer P w H s Q E) s
/-- the order of the parameters -/
def permO {α : Type} (π : Option (List Nat)) (l : List α) : List α := match π with
  | none => l
  | some p => p.filterMap (l[·]?)
theorem filterMap_vals {vs : List V} {us : List Value} (r : Vals vs us) : ∀ p : List Nat, Vals (p.filterMap (vs[·]?)) (p.filterMap (us[·]?))
  | [] => .nil
  | i :: p => by
    rw [List.filterMap_cons, List.filterMap_cons]
    cases h : vs[i]? with
    | none => rw [r.none_of h]; exact filterMap_vals r p
    | some v =>
      obtain ⟨u, h1, h2⟩ := r.get h
      rw [h1]
      exact .cons h2 (filterMap_vals r p)
theorem permO_vals {π : Option (List Nat)} {vs : List V} {us : List Value} (r : Vals vs us) : Vals (permO π vs) (permO π us) := by
  cases π with
  | none => exact r
  | some p => exact filterMap_vals r p
structure KBp (K : PySem.W.Frag) (fd : FuncData) (ps : List Str) (n : Nat) (ks : List Str) (π : Option (List Nat)) : Prop where
  to : ∀ (s : Shared) (us ws : List Value), K.In s.heap → us.length = n → ws.length = ks.length → BindsTo s fd ⟨us, ks.zip ws⟩ (ps.zip (permO π (us ++ ws)))
section
variable {P : Program} {w : World} {K : PySem.W.Frag} {mg : Str → Option Value} {base : Heap} {CX : CXT} {j k : Nat} {f : Addr} {fd : FuncData} {n : Nat} {ps ks : List Str} {π : Option (List Nat)} {sp sp' : Sp}
theorem KBp.pure (h : ∀ us ws : List Value, us.length = n → ws.length = ks.length → bindArgs fd ⟨us, ks.zip ws⟩ = pure (ps.zip (permO π (us ++ ws)))) : KBp K fd ps n ks π := ⟨fun s us ws _ l1 l2 => .of_eq (h us ws l1 l2)⟩
theorem FnOk.toB (F : FnOk P w K mg base CX k f fd ps sp) (hb : KBp K fd ps n ks π) : FnB P w K mg base CX k f n ks (fun vs H Q E => sp (permO π vs) H Q E) :=
  fun A outer s H us ws vs Q E hr e0 l1 l2 r h => F.run A outer s H ⟨us, ks.zip ws⟩ _ _ Q E hr e0 (hb.to s us ws (e0.mod.kin.keeps fun b o e => (e0.bs b o e).1) l1 l2) (permO_vals r) h
theorem FnB.mono (F : FnB P w K mg base CX j f n ks sp) (h : j ≤ k) : FnB P w K mg base CX k f n ks sp := fun A outer s H us ws vs Q E hr => F A outer s H us ws vs Q E (hr.mono h)
theorem FnB.imp (F : FnB P w K mg base CX k f n ks sp) (h : ∀ vs H Q E, sp' vs H Q E → sp vs H Q E) : FnB P w K mg base CX k f n ks sp' := fun A outer s H us ws vs Q E hr e0 l1 l2 r q => F A outer s H us ws vs Q E hr e0 l1 l2 r (h _ _ _ _ q)
/-- def f(a, .., *v) -/
theorem fnb_star {name qual : Str} {params : Arguments} {body : List Stmt} {scope : Scope} {dV kV doc pm cdv ct oc : Value} {an od : Option Addr} {osl : Array (Option Value)} {N : List Str} {pv : Str}
    (lk : K.lookup f = some ⟨oc, od, .func (PySem.W.fnOf name qual params body scope dV kV doc pm an cdv ct), osl⟩) (hcd : PySem.W.codeIn K cdv qual = true) (S : FnScope N (ps ++ [pv]) scope) (hCX : CXUp CX) (hm : ps.length ≤ n + ks.length)
    (hb : ∀ us ws : List Value, us.length = n → ws.length = ks.length → bindArgs (PySem.W.fnOf name qual params body scope dV kV doc pm an cdv ct) ⟨us, ks.zip ws⟩ = (newTuple ((us ++ ws).drop ps.length) >>= fun t => pure (ps.zip ((us ++ ws).take ps.length) ++ [(pv, t)])))
    (hbody : ∀ (A : Around) (outer : List Env) (s : Shared) (H : Hp) (vs : List V) (Q : VK) (E : XK), Room k (A.deeper (envOfC qual scope s.heap.objs.size f cdv)) → sp vs H Q E →
      ∃ t, PSs (cxOf CX P w K mg base N qual scope f cdv A outer s H E) body t ∧ t { nx := fun _ H' => Q .non H', rt := Q } (start N vs) H) :
    FnB P w K mg base CX (k + 1) f n ks (fun vs H Q E => (vs.drop ps.length).length ≤ sizeLine ∧ ∀ p, H p = Option.none → sp (vs.take ps.length ++ [V.ref p]) (upd H p (.tup (vs.drop ps.length))) Q E) := by
  intro A outer s H us ws vs Q E hr e0 l1 l2 r hsp
  obtain ⟨hz, hq⟩ := hsp
  have hn : H s.heap.objs.size = Option.none := e0.hok.fresh (Nat.le_refl _)
  have r1 : Vals (vs.take ps.length) ((us ++ ws).take ps.length) := r.take _
  have r2 : Vals (vs.drop ps.length) ((us ++ ws).drop ps.length) := r.drop _
  have hl : (vs.take ps.length).length = ps.length := by
    have e := r.length
    rw [List.length_append, l1, l2] at e
    rw [List.length_take]
    omega
  have hl1 : ((us ++ ws).take ps.length).length = ps.length := r1.length.symm.trans hl
  have hl2 : ((us ++ ws).drop ps.length).length ≤ sizeLine := by rw [← r2.length]; exact hz
  refine run_bnd lk hcd S hr e0 (G := fun xs H2 => ∃ p, H p = Option.none ∧ xs = vs.take ps.length ++ [V.ref p] ∧ H2 = upd H p (.tup (vs.drop ps.length))) (fun A' Ex Q' h => ?_) fun s2 H2 xs ⟨p, hp, ex, eH⟩ hr' => ?_
  · rw [hb us ws l1 l2]
    refine wpAny_bind (wpAny_newTuple (wpAny_pure ?_) hl2)
    have new : ObjOk P w (upd H s.heap.objs.size (.tup (vs.drop ps.length))) (s.heap.push ({ cls := .type "tuple", data := .seq ((us ++ ws).drop ps.length).toArray } : Obj)) s.heap.objs.size (.tup (vs.drop ps.length)) := ⟨hz, _, r2, ⟨_, Heap.get?_push_size _ rfl, rfl, _, rfl⟩⟩
    have un := un_laid (fs := frs outer) (s := s) (o := ({ cls := .type "tuple", data := .seq ((us ++ ws).drop ps.length).toArray } : Obj)) (u := .tup (vs.drop ps.length)) hn
    have z := h _ _ (vs.take ps.length ++ [V.ref s.heap.objs.size]) ((us ++ ws).take ps.length ++ [Value.ref s.heap.objs.size]) (env0_laid e0 new) un rfl (fun e s' => hCX outer s H _ _ E e s' un (fun b o q => Heap.get?_push_of_some _ q) rfl) (r1.append (.cons rfl .nil))
      (by rw [List.length_append, List.length_append, hl] <;> rfl) ⟨_, hn, rfl, rfl⟩
    rw [List.zip_append hl1.symm] at z
    exact z
  · subst ex eH
    exact hbody A outer s2 _ _ Q E hr' (hq p hp)
end

section
variable {X : Cx} {CX : CXT} {k : Nat} {f C : Addr} {sp : Sp} {E : L2.St → XK} {x : Str} {p pos : Pos} {es : List Expr} {kws : List Keyword} {n : Nat} {ks : List Str} {t : TA}
def tCallA (sp : Sp) (E : L2.St → XK) (t : TA) : TE := fun σ H Q => t σ H fun vs H1 => sp vs H1 Q (E σ)
theorem run_B {E : XK} {pins : List (Addr × Obj)} {σ : L2.St} {H : Hp} {s : Shared} {Q : VK} {us ws : List Value} {vs : List V} (F : FnB X.prog X.w X.K X.mg X.base CX k f n ks sp) (hr : Room k X.A) (hx : PassesAt CX X σ E) (I : Inv X pins σ H s) (l1 : us.length = n) (l2 : ws.length = ks.length)
    (r : Vals vs (us ++ ws)) (h : sp vs H Q E) : codeAny (model X.prog X.w) X.A (.call (.ref f) ⟨us, ks.zip ws⟩) (fun r s' => match r with | .ok (.ret v) => EP X pins σ Q v s' | .ok _ => False | .error e => X.xe e s') s := by
  refine codeAny_mono (F X.A X.stack s H us ws vs Q E hr I.env0 l1 l2 r h) fun r s' hq => ?_
  cases r with
  | error e => exact hx pins H s e s' I hq
  | ok fl =>
    cases fl with
    | ret u => exact I.after hq
    | _ => exact False.elim hq
theorem pe_callA (F : FnB X.prog X.w X.K X.mg X.base CX k f n ks sp) (hr : Room k X.A) (hg : Gl X x) (hm : X.mg x = some (.ref f)) (hk : PySem.W.keepIn X.K (.ref f) = true) (hx : ∀ σ, PassesAt CX X σ (E σ)) (ha : PCA X es kws n ks t) (hdb : (x == ("__debug__" : Str)) = false := by decide) :
    PE X (.Call (.Name x p) es kws pos) (tCallA sp E t) := by
  refine ⟨fun pins s σ H Q I h => ?_⟩
  refine wpAny_Call_Name_kw (ld_glob I hg hm ?_ hdb)
  refine ha.run pos (.ref f) pins s σ H _ _ hk I h fun us ws vs s1 H1 I1 r l1 l2 q => wpAny_call (codeAny_mono (run_B F hr (hx σ) I1 l1 l2 r q) fun r s' z => ?_)
  rcases r with e | (v | _ | _ | _) <;> exact z
/-- a new instance and its dict, then __init__ -/
def tMakeA (C : Addr) (sp : Sp) (E : L2.St → XK) (t : TA) : TE := fun σ H Q => t σ H fun vs H1 => ∀ x dx, H1 x = none → H1 dx = none → dx ≠ x →
  sp (.ref x :: vs) (upd (upd H1 dx (.own x)) x (.ins C dx [])) (fun v H2 => v = .non ∧ Q (.ref x) H2) (E σ)
theorem pe_makeA (M : Mk X.K C f) (F : FnB X.prog X.w X.K X.mg X.base CX k f (n + 1) ks sp) (hr : Room (k + 1) X.A) (hg : Gl X x) (hm : X.mg x = some (.ref C)) (hx : ∀ σ, PassesAt CX X σ (E σ)) (ha : PCA X es kws n ks t) (hdb : (x == ("__debug__" : Str)) = false := by decide) :
    PE X (.Call (.Name x p) es kws pos) (tMakeA C sp E t) := by
  refine ⟨fun pins s σ H Q I h => ?_⟩
  refine wpAny_Call_Name_kw (ld_glob I hg hm ?_ hdb)
  refine ha.run pos (.ref C) pins s σ H _ _ M.kp I h fun us ws vs s1 H1 I1 r l1 l2 q => ?_
  have hq := q (s1.heap.objs.size + 1) s1.heap.objs.size (I1.hok.fresh (Nat.le_succ _)) (I1.hok.fresh (Nat.le_refl _)) (Nat.ne_of_lt (Nat.lt_succ_self _))
  have I2 := Inv.made (C := C) I1
  have r2 : Vals (V.ref (s1.heap.objs.size + 1) :: vs) ((Value.ref (s1.heap.objs.size + 1) :: us) ++ ws) := .cons rfl r
  refine wpAny_call (make_map (f := f) I1.kIn M.makes M.init (beq_iff_eq.mp M.fn) (codeAny_mono (F _ X.stack _ _ (Value.ref (s1.heap.objs.size + 1) :: us) ws _ _ (E σ) (hr.make C us (ks.zip ws)) (I2.env0.make C us (ks.zip ws)) (by simp [l1]) l2 r2 hq) fun r s' hq' => ?_))
  cases r with
  | error e => exact hx σ pins _ _ e s' I2 hq'
  | ok fl =>
    cases fl with
    | ret u =>
      obtain ⟨v, H', I3, rv, ev, q3⟩ := I2.after hq'
      subst ev
      exact ⟨rv, ⟨V.ref (s1.heap.objs.size + 1), H', I3, rfl, q3⟩⟩
    | _ => exact False.elim hq'
/-- a new exception, then its own __init__ -/
def tMkxA (C : Addr) (sp : Sp) (E : L2.St → XK) (t : TA) : TE := fun σ H Q => t σ H fun vs H1 => vs.length ≤ 1000 ∧ ∀ a, H1 a = none → sp (.ref a :: vs) (upd H1 a (exo a C none)) (fun v H2 => v = .non ∧ Q (.ref a) H2) (E σ)
theorem pe_mkxA {fI : Addr} (T : OexC X.K C) (iC : PySem.W.findIn X.K (.ref C) "__init__" = some (some (.ref fI))) (tI : PySem.W.typeIn X.K (.ref fI) = some (.type "function")) (FI : FnB X.prog X.w X.K X.mg X.base CX k fI (n + 1) ks sp) (hr : Room (k + 1) X.A)
    (hg : Gl X x) (hm : X.mg x = some (.ref C)) (hx : ∀ σ, PassesAt CX X σ (E σ)) (ha : PCA X es kws n ks t) (hdb : (x == ("__debug__" : Str)) = false := by decide) : PE X (.Call (.Name x p) es kws pos) (tMkxA C sp E t) := by
  refine ⟨fun pins s σ H Q I h => ?_⟩
  obtain ⟨nm, q, N, bs, bm, sn, sub, ab, col, dd, k0, k1, k2, k3, k5, hC, hbm⟩ := T.cls
  refine wpAny_Call_Name_kw (ld_glob I hg hm ?_ hdb)
  refine ha.run pos (.ref C) pins s σ H _ _ T.kC I h fun us ws vs s1 H1 I1 r l1 l2 q => ?_
  obtain ⟨hz, q⟩ := q
  obtain ⟨hp, g, dr, tk, os⟩ := s1
  have hsz : hp.objs.size ≤ hp.objs.size + 1 := Nat.le_succ _
  have hq := q (hp.objs.size + 1) (I1.hok.fresh hsz)
  have kk : ∀ b o, hp.get? b = some o → ((hp.push (PySem.W.kdv_tup us)).push (PySem.HandSPX.excO C hp.objs.size)).get? b = some o := fun b o e => Heap.get?_push_of_some _ (Heap.get?_push_of_some _ e)
  have hget : ((hp.push (PySem.W.kdv_tup us)).push (PySem.HandSPX.excO C hp.objs.size)).get? (hp.objs.size + 1) = some (PySem.HandSPX.excO C hp.objs.size) := by heap_get
  have I2 : Inv X pins σ (upd H1 (hp.objs.size + 1) (exo (hp.objs.size + 1) C none)) ⟨(hp.push (PySem.W.kdv_tup us)).push (PySem.HandSPX.excO C hp.objs.size), g, dr, tk, os⟩ := I1.laid (t' := tk) kk hsz (exo_ok hget)
  have r2 : Vals (V.ref (hp.objs.size + 1) :: vs) ((Value.ref (hp.objs.size + 1) :: us) ++ ws) := .cons rfl r
  have hus : us.length ≤ sizeLine := by
    have e := r.length
    rw [List.length_append] at e
    rw [sizeLine_eq]
    omega
  refine wpAny_call (DLX.mk_call F.excBase_ValueError (fun Y => PySem.HandSPX.refsVE_contains Y bm hbm) (I1.kIn _ _ hC) hus (PySem.W.looks_findIn I1.kIn iC) (fun o => PySem.W.bind_fn I1.kIn o tI)
    (codeAny_mono (FI _ X.stack _ _ (Value.ref (hp.objs.size + 1) :: us) ws _ _ (E σ) (hr.make C us (ks.zip ws)) (I2.env0.make C us (ks.zip ws)) (by simp [l1]) l2 r2 hq) fun r s' hq' => ?_))
  cases r with
  | error er => exact hx σ pins _ _ er s' I2 hq'
  | ok fl =>
    cases fl with
    | ret u =>
      obtain ⟨v, H', I3, rv, ev, q3⟩ := I2.after hq'
      subst ev
      exact ⟨rv, ⟨V.ref (hp.objs.size + 1), H', I3, rfl, q3⟩⟩
    | _ => exact False.elim hq'
end
end DL

set_option Elab.async false
set_option linter.all false
set_option maxRecDepth 100000
/-! # DUse: calls over data: defs, classes, exception classes, by place and by name -/
namespace DL
open PySem PySem.Spec PyProof.Rows L2 StX

/-! ### keywords and whole argument lists -/
structure DK (X : Cx) (G : CG) (wx : WX) (kws : List Keyword) (g : DenA) : Prop where
  pk : PK X kws (rA X.K G wx g)
structure DC (X : Cx) (G : CG) (wx : WX) (es : List Expr) (kws : List Keyword) (n : Nat) (ks : List Str) (g : DenA) : Prop where
  pca : PCA X es kws n ks (rA X.K G wx g)
theorem _root_.L2.PK.imp {X : Cx} {e : List Keyword} {t t' : TA} (h : PK X e t) (i : ∀ σ H Q, t' σ H Q → t σ H Q) : PK X e t' := ⟨fun pos pins s σ H Q I q => h.run pos pins s σ H Q I (i σ H Q q)⟩
theorem PCA.imp {X : Cx} {es : List Expr} {kws : List Keyword} {n : Nat} {ks : List Str} {t t' : TA} (h : PCA X es kws n ks t) (i : ∀ σ H Q, t' σ H Q → t σ H Q) : PCA X es kws n ks t' :=
  ⟨fun pos f pins s σ H Q Z hk I q k => h.run pos f pins s σ H Q Z hk I (i σ H Z q) k⟩
def aLen (n : Nat) (g : DenA) : DenA := fun env st => (g env st).bind fun ds st1 => if ds.length = n then .ok ds st1 else .bad
def aKw (n m : Nat) (g h : DenA) : DenA := fun env st => (g env st).bind fun ds st1 => (h env st1).bind fun zs st2 => if ds.length = n ∧ zs.length = m then .ok (ds ++ zs) st2 else .bad
section
variable {X : Cx} {G : CG} {wx : WX} {e : Expr} {es : List Expr} {kws : List Keyword} {g gk : DenA} {ge : Den} {n : Nat} {ks : List Str} {nm : Option Str} {kpos : Pos}
theorem dk_nil : DK X G wx [] dNil := ⟨pk_nil.imp fun σ H Q q => by
  obtain ⟨W, env, st, rfl, A, re, p⟩ := q
  exact p W [] .rfl' A .nil⟩
theorem dk_cons (ha : DE X G wx e ge) (hr : DK X G wx kws g) : DK X G wx (⟨nm, e, kpos⟩ :: kws) (dCons ge g) := ⟨(pk_cons ha.pe hr.pk).imp fun σ H Q q => by
  obtain ⟨W, env, st, rfl, A, re, p⟩ := q
  refine ⟨W, env, st, rfl, A, re, Post.bindA p fun d st1 W1 v _ l1 A1 r1 p1 => ?_⟩
  refine ⟨W1, env, st1, rfl, A1, re.up l1, PostA.bindA p1 fun ds st2 W2 vs _ l2 A2 r2 p2 => ?_⟩
  exact p2 W2 (v :: vs) .rfl' A2 (.cons (r1.up l2) r2)⟩
theorem tLen_of {K : PySem.W.Frag} {σ : L2.St} {H : Hp} {Q : List V → Hp → Prop} (q : rA K G wx (aLen n g) σ H Q) : tLen n (rA K G wx g) σ H Q := by
  obtain ⟨W, env, st, rfl, A, re, p⟩ := q
  refine ⟨W, env, st, rfl, A, re, PostA.bindA p fun ds st1 W1 vs _ l1 A1 r1 p1 => ?_⟩
  by_cases h : ds.length = n
  · rw [if_pos h] at p1
    exact ⟨r1.length ▸ h, p1 W1 vs .rfl' A1 r1⟩
  · rw [if_neg h] at p1
    exact False.elim p1
theorem dc_nil : DC X G wx [] [] 0 [] dNil := ⟨pca_nil.imp fun σ H Q q => by
  obtain ⟨W, env, st, rfl, A, re, p⟩ := q
  exact p W [] .rfl' A .nil⟩
theorem dc_pos (ha : DA X G wx (e :: es) g) (he : starEach (e :: es) X.env = (false, eval e X.env) :: starEach es X.env := by rfl) (hpl : ∀ pos, (backTo pos (starEach es X.env)).any (·.1) = false := by intro _; rfl) : DC X G wx (e :: es) [] n [] (aLen n g) :=
  ⟨(pca_pos ha.pa he hpl).imp fun σ H Q q => tLen_of q⟩
theorem dc_kw0 (hkw : DK X G wx kws g) (hall : ∀ pos, (backToKw pos (keywordEach kws X.env)).all (·.1.isSome) = true := by intro _; rfl) (hks : ∀ pos, (backToKw pos (keywordEach kws X.env)).filterMap (·.1) = ks := by intro _; rfl)
    (hpl : ∀ pos, ((backTo pos (starEach [] X.env)).any (·.1) || (backToKw pos (keywordEach kws X.env)).any (·.1.isNone)) = false := by intro _; rfl) : DC X G wx [] kws 0 ks (aLen ks.length g) := ⟨(pca_kw0 hkw.pk hall hks hpl).imp fun σ H Q q => tLen_of q⟩
theorem dc_kw (ha : DA X G wx (e :: es) g) (hkw : DK X G wx kws gk) (hall : ∀ pos, (backToKw pos (keywordEach kws X.env)).all (·.1.isSome) = true := by intro _; rfl) (hks : ∀ pos, (backToKw pos (keywordEach kws X.env)).filterMap (·.1) = ks := by intro _; rfl)
    (he : starEach (e :: es) X.env = (false, eval e X.env) :: starEach es X.env := by rfl) (hpl : ∀ pos, ((backTo pos (starEach (e :: es) X.env)).any (·.1) || (backToKw pos (keywordEach kws X.env)).any (·.1.isNone)) = false := by intro _; rfl) :
    DC X G wx (e :: es) kws n ks (aKw n ks.length g gk) := ⟨(pca_kw (n := n) ha.pa hkw.pk hall hks he hpl).imp fun σ H Q q => by
  obtain ⟨W, env, st, rfl, A, re, p⟩ := q
  refine ⟨W, env, st, rfl, A, re, PostA.bindA p fun ds st1 W1 vs _ l1 A1 r1 p1 => ?_⟩
  refine ⟨W1, env, st1, rfl, A1, re.up l1, PostA.bindA p1 fun zs st2 W2 us _ l2 A2 r2 p2 => ?_⟩
  by_cases h : ds.length = n ∧ zs.length = ks.length
  · rw [if_pos h] at p2
    exact ⟨r1.length ▸ h.1, r2.length ▸ h.2, p2 W2 (vs ++ us) .rfl' A2 ((r1.up l2).append r2)⟩
  · rw [if_neg h] at p2
    exact False.elim p2⟩
end

/-! ### promises by the written order -/
theorem filterMap_rel {K : PySem.W.Frag} {G : CG} {W : Wd} {ds : List D} {vs : List V} (r : RelDs K G W ds vs) : ∀ p : List Nat, RelDs K G W (p.filterMap (ds[·]?)) (p.filterMap (vs[·]?))
  | [] => .nil
  | i :: p => by
    rw [List.filterMap_cons, List.filterMap_cons]
    cases h : ds[i]? with
    | none =>
      have hv : vs[i]? = none := by
        have e := r.length
        rw [List.getElem?_eq_none_iff] at h ⊢
        omega
      rw [hv]
      exact filterMap_rel r p
    | some d =>
      obtain ⟨v, h1, h2⟩ := r.get h
      rw [h1]
      exact .cons h2 (filterMap_rel r p)
theorem permO_rel {K : PySem.W.Frag} {G : CG} {W : Wd} {π : Option (List Nat)} {ds : List D} {vs : List V} (r : RelDs K G W ds vs) : RelDs K G W (permO π ds) (permO π vs) := by
  cases π with
  | none => exact r
  | some p => exact filterMap_rel r p
section
variable {P : Program} {w : World} {K : PySem.W.Frag} {mg : Str → Option Value} {base : Heap} {CX : CXT} {k : Nat} {f : Addr} {fd : FuncData} {n m : Nat} {ps ks : List Str} {π : Option (List Nat)} {fn : List D → Sto → Out D} {G : CG}
theorem FnOk.toD (F : FnOk P w K mg base CX k f fd ps (spD K G fn)) (hb : KBp K fd ps n ks π) : FnB P w K mg base CX k f n ks (spD K G fun ds st => fn (permO π ds) st) :=
  (DL.FnOk.toB F hb).imp fun vs H Q E q => by
    obtain ⟨W, ds, st, rfl, A, r, p⟩ := q
    exact ⟨W, permO π ds, st, rfl, A, permO_rel r, p⟩
def starFn (m : Nat) (fn : List D → Sto → Out D) : List D → Sto → Out D := fun ds st => if ds.length ≤ 10000000 then fn (ds.take m ++ [.tup (ds.drop m)]) st else .bad
theorem FnB.starD (F : FnB P w K mg base CX k f n ks (fun vs H Q E => (vs.drop m).length ≤ sizeLine ∧ ∀ p, H p = Option.none → spD K G fn (vs.take m ++ [V.ref p]) (upd H p (.tup (vs.drop m))) Q E)) :
    FnB P w K mg base CX k f n ks (spD K G (starFn m fn)) := F.imp fun vs H Q E q => by
  obtain ⟨W, ds, st, rfl, A, r, p⟩ := q
  unfold starFn at p
  by_cases h : ds.length ≤ 10000000
  · rw [if_pos h] at p
    refine ⟨?_, fun q hq => ?_⟩
    · rw [List.length_drop, ← r.length, sizeLine_eq]
      omega
    · have l := Wd.le_put (o := .tup (vs.drop m)) A hq
      exact ⟨W.put q (.tup (vs.drop m)), _, st, rfl, A.put hq, ((r.take m).up l).append (.cons (.tup (.inr rfl) upd_same ((r.drop m).up l)) .nil), Post.up p l⟩
  · rw [if_neg h] at p
    exact False.elim p
end

/-! ### calls -/
section
variable {X : Cx} {G : CG} {wx : WX} {k : Nat} {f C : Addr} {fn fi : List D → Sto → Out D} {x : Str} {p pos : Pos} {es : List Expr} {kws : List Keyword} {n : Nat} {ks : List Str} {g : DenA}
theorem de_callA (F : FnB X.prog X.w X.K X.mg X.base (L2.CX X.prog X.w) k f n ks (spD X.K G fn)) (hr : Room k X.A) (hg : Gl X x) (hm : X.mg x = some (.ref f)) (hk : PySem.W.keepIn X.K (.ref f) = true) (tk : Takes X wx) (ha : DC X G wx es kws n ks g) (hdb : (x == ("__debug__" : Str)) = false := by decide) :
    DE X G wx (.Call (.Name x p) es kws pos) (dCall fn g) := ⟨(pe_callA (E := WE wx) F hr hg hm hk (passAt tk) ha.pca hdb).imp fun σ H Q q => by
  obtain ⟨W, env, st, rfl, A, re, p⟩ := q
  exact ⟨W, env, st, rfl, A, re, PostA.bind p fun ds st1 W1 vs _ l1 A1 r1 p1 => ⟨W1, ds, st1, rfl, A1, r1, p1⟩⟩⟩
/-- C(..): a new instance, made by __init__, then never changed -/
def mkIns (c : String) (fi : List D → Sto → Out D) (ds : List D) (st : Sto) : Out D := (fi (.ref st.n :: ds) (st.new (.ins c []))).bind fun d st2 => match d with
  | .non => (match st2.m st.n with
    | some (.ins c' fs) => if c' = c then .ok (.ins c fs) (st2.del st.n) else .bad
    | _ => .bad)
  | _ => .bad
theorem de_makeA {c : String} (hc : G c = some C) (M : Mk X.K C f) (F : FnB X.prog X.w X.K X.mg X.base (L2.CX X.prog X.w) k f (n + 1) ks (spD X.K G fi)) (hr : Room (k + 1) X.A) (hg : Gl X x) (hm : X.mg x = some (.ref C)) (tk : Takes X wx) (ha : DC X G wx es kws n ks g)
    (hdb : (x == ("__debug__" : Str)) = false := by decide) : DE X G wx (.Call (.Name x p) es kws pos) (dCall (mkIns c fi) g) := ⟨(pe_makeA (E := WE wx) M F hr hg hm (passAt tk) ha.pca hdb).imp fun σ H Q q => by
  obtain ⟨W, env, st, rfl, A, re, p⟩ := q
  refine ⟨W, env, st, rfl, A, re, PostA.bind p fun ds st1 W1 vs _ l1 A1 r1 p1 => fun x dx hx hdx hne => ?_⟩
  obtain ⟨A2, l2⟩ := A1.aside (o := .own x) hdx
  have hx2 : (upd W1.H dx (.own x)) x = none := by rw [upd_ne (Ne.symm hne)]; exact hx
  have l3 := Wd.le_add (o := .ins C dx []) A2 hx2
  have l13 := l2.trans l3
  refine ⟨Wd.add ⟨W1.ρ, W1.F, W1.T, upd W1.H dx (.own x)⟩ st1.n x (.ins C dx []), .ref st1.n :: ds, st1.new (.ins c []), rfl, A2.add hx2 (.ins hc upd_same .nil), ?_, ?_⟩
  · exact .cons (.ref (by show (if st1.n = st1.n then some x else _) = some x; rw [if_pos rfl])) (r1.up l13)
  · refine Post.bind (Post.up p1 l13) fun d st4 W4 v _ l4 A4 r4 p4 => ?_
    cases d with
    | non =>
      cases r4
      refine ⟨rfl, ?_⟩
      dsimp only at p4
      cases hm4 : st4.m st1.n with
      | none => rw [hm4] at p4; exact False.elim p4
      | some mo =>
        rw [hm4] at p4
        cases mo with
        | ins c' fs =>
          dsimp only at p4
          by_cases hcc : c' = c
          · rw [if_pos hcc] at p4
            subst hcc
            obtain ⟨a, ea, nf, ra⟩ := A4.obj _ _ hm4
            have ex : W4.ρ st1.n = some x := l4.r _ _ (by show (if st1.n = st1.n then some x else _) = some x; rw [if_pos rfl])
            rw [ex] at ea
            cases ea
            cases ra with
            | ins gc h1 h2 =>
              exact p4 (W4.frz x) (.ref x) Wd.le_frz (A4.frz hm4 ex) (.ins (.inr rfl) gc h1 (h2.up Wd.le_frz))
          · rw [if_neg hcc] at p4
            exact False.elim p4
        | _ => exact False.elim p4
    | _ => exact False.elim p4⟩
end

/-! ### own exceptions: __init__(self, p..) says super().__init__(p..) and stores each -/
def spXI (K : PySem.W.Frag) (D : Addr) (names : List Str) : Sp := fun vs H Q _ => ∃ a C us, vs = .ref a :: us ∧ us.length = names.length ∧ us.length ≤ 100 ∧ H a = some (exo a C none) ∧ SupE K C D ∧ (∀ f ∈ names, PySem.W.findIn K (.ref C) f = some none) ∧
  ∀ dx, H dx = none → dx ≠ a → Q .non (upd (upd H dx (exd dx (names.zip us).reverse)) a (exo a C (some dx)))
theorem upd_swap {H : Hp} {a b : Addr} {o u v : HO} (h : b ≠ a) : upd (upd (upd H b o) a u) b v = upd (upd H b v) a u := by
  funext c
  by_cases h1 : c = b
  · subst h1
    rw [upd_same, upd_ne h, upd_same]
  · by_cases h2 : c = a
    · subst h2
      rw [upd_ne h1, upd_same, upd_same]
    · rw [upd_ne h1, upd_ne h2, upd_ne h1, upd_ne h2, upd_ne h1]
theorem upd_over {H : Hp} {a b : Addr} {o u v : HO} (h : b ≠ a) : upd (upd (upd H a o) b u) a v = upd (upd H b u) a v := by
  funext c
  by_cases h2 : c = a
  · subst h2
    rw [upd_same, upd_same]
  · rw [upd_ne h2, upd_ne h2]
    by_cases h1 : c = b
    · subst h1
      rw [upd_same, upd_same]
    · rw [upd_ne h1, upd_ne h1, upd_ne h2]
section
variable {X : Cx} {G : CG} {wx : WX} {k : Nat} {f C D : Addr} {x : Str} {p pos : Pos} {es : List Expr} {kws : List Keyword} {n : Nat} {ks names : List Str} {g : DenA}
def mkExn (c : String) (names : List Str) (ds : List DL.D) (st : Sto) : Out DL.D := if ds.length = names.length ∧ names.length ≤ 100 then .ok (.exn c (names.zip ds).reverse) st else .bad
theorem RelFs.zip {K : PySem.W.Frag} {W : Wd} : ∀ {names : List Str} {ds : List DL.D} {vs : List V}, RelDs K G W ds vs → RelFs K G W (names.zip ds) (names.zip vs)
  | [], _, _, _ => by simpa using RelFs.nil
  | _ :: _, _, _, .nil => by simpa using RelFs.nil
  | f :: names, _, _, .cons r t => .cons r (RelFs.zip t)
theorem RelFs.append {K : PySem.W.Frag} {W : Wd} : ∀ {as : List (Str × DL.D)} {bs : List (Str × DL.D)} {xs ys : List (Str × V)}, RelFs K G W as xs → RelFs K G W bs ys → RelFs K G W (as ++ bs) (xs ++ ys)
  | _, _, _, _, .nil, s => s
  | _, _, _, _, .cons r t, s => .cons r (RelFs.append t s)
theorem RelFs.reverse {K : PySem.W.Frag} {W : Wd} : ∀ {as : List (Str × DL.D)} {xs : List (Str × V)}, RelFs K G W as xs → RelFs K G W as.reverse xs.reverse
  | _, _, .nil => .nil
  | _, _, .cons r t => by
    rw [List.reverse_cons, List.reverse_cons]
    exact RelFs.append (RelFs.reverse t) (.cons r .nil)
theorem de_mkx {c : String} (hc : G c = some C) (SE : SupE X.K C D) (hn : ∀ f ∈ names, PySem.W.findIn X.K (.ref C) f = some none) (iC : PySem.W.findIn X.K (.ref C) "__init__" = some (some (.ref f))) (tI : PySem.W.typeIn X.K (.ref f) = some (.type "function"))
    (FI : FnB X.prog X.w X.K X.mg X.base (L2.CX X.prog X.w) k f (n + 1) ks (spXI X.K D names)) (hr : Room (k + 1) X.A) (hg : Gl X x) (hm : X.mg x = some (.ref C)) (tk : Takes X wx) (ha : DC X G wx es kws n ks g) (hdb : (x == ("__debug__" : Str)) = false := by decide) :
    DE X G wx (.Call (.Name x p) es kws pos) (dCall (mkExn c names) g) := ⟨(pe_mkxA (E := WE wx) SE.ox iC tI FI hr hg hm (passAt tk) ha.pca hdb).imp fun σ H Q q => by
  obtain ⟨W, env, st, rfl, A, re, p⟩ := q
  refine ⟨W, env, st, rfl, A, re, PostA.bind p fun ds st1 W1 vs _ l1 A1 r1 p1 => ?_⟩
  unfold mkExn at p1
  by_cases hl : ds.length = names.length ∧ names.length ≤ 100
  · rw [if_pos hl] at p1
    have e := r1.length
    refine ⟨by omega, fun a ha => ⟨a, C, vs, rfl, by omega, by omega, upd_same, SE, hn, fun dx hd ne => ⟨rfl, ?_⟩⟩⟩
    rw [upd_ne ne] at hd
    rw [upd_over ne]
    have lA := Wd.le_put (o := exd dx (names.zip vs).reverse) A1 hd
    have A2 := A1.put (o := exd dx (names.zip vs).reverse) hd
    have ha2 : (W1.put dx (exd dx (names.zip vs).reverse)).H a = none := by
      show upd W1.H dx (exd dx (names.zip vs).reverse) a = none
      rw [upd_ne (Ne.symm ne)]
      exact ha
    have lB := Wd.le_put (o := exo a C (some dx)) A2 ha2
    refine p1 ((W1.put dx (exd dx (names.zip vs).reverse)).put a (exo a C (some dx))) (.ref a) (lA.trans lB) (A2.put ha2) (.exn (gs := (names.zip vs).reverse) (.inr rfl) (.inl (.inr rfl)) hc upd_same ?_ ?_)
    · show upd (upd W1.H dx (exd dx (names.zip vs).reverse)) a (exo a C (some dx)) dx = some (exd dx (names.zip vs).reverse)
      rw [upd_ne ne, upd_same]
    · exact (RelFs.reverse (RelFs.zip r1)).up (lA.trans lB)
  · rw [if_neg hl] at p1
    exact False.elim p1⟩
end
end DL

set_option Elab.async false
set_option linter.all false
set_option maxRecDepth 100000
/-! # DXInit: the __init__ of own exceptions -/
namespace DL
open PySem PySem.Spec PyProof.Rows L2 StX NdefX

/-- super().__init__(..) stands on one line -/
def SupCall (es : List Expr) (p0 p1 ap pos : Pos) : Prop := ∀ env : Env, ∃ pl, eval (.Call (.Attribute (.Call (.Name "super" p0) [] [] p1) "__init__" ap) es [] pos) env = (do
      let ov ← attributeBase (.Call (.Name "super" p0) [] [] p1) "__init__" env (eval (.Call (.Name "super" p0) [] [] p1) env)
      standAt ap.atName
      let (f, first) ← holding [ov] (getMethod ov "__init__" pl)
      callWith pos f first (backTo pos (starEach es env)) [])
/-- what super() asks of the written part -/
structure SupK (P : Program) (K : PySem.W.Frag) (mg : Str → Option Value) (c D : Addr) : Prop where
  ck : ∃ a b d vs file tf, K.lookup c = some ⟨a, b, .fields vs, d⟩ ∧ vs[2]? = some (.str file tf) ∧ ((P.main.file : Str) == file) = true
  top : (P.main.scope.names.lookup ("super" : Str)).isSome = false
  mg : mg "super" = none
  cls : ∃ cd, PySem.W.clsIn K D = some cd
  opq : PySem.W.nsIn K cStatics "thirdparty.any" = some none
structure SupS (st : Stmt) (sf : Str) (N : List Str) : Prop where
  sup : (defScope st).names.lookup ("super" : Str) = some .globalImplicit
  cls : (defScope st).names.lookup ("__class__" : Str) = some .free
  loc : (defScope st).names.lookup sf = some .local
  par : ∃ ar, ((defArgs st).posonlyargs ++ (defArgs st).args).head? = some ar ∧ ar.arg = sf
  n0 : N[0]? = some sf
section
variable {P : Program} {w : World} {K : PySem.W.Frag} {mg : Str → Option Value} {base : Heap} {CX : CXT} {k : Nat} {f c cc D : Addr} {x qual : Str} {st : Stmt} {fd : FuncData} {N ps : List Str} {sf : Str}
theorem sup_ncx (F : FunC K x qual st f fd c cc D) (SK : SupK P K mg c D) (SS : SupS st sf N) (A : Around) (outer : List Env) (s : Shared) (H : Hp) (E : XK) : Sup (ncx CX P w K mg base N (supF x qual st cc c) f A outer s H E) f c cc D sf := by
  obtain ⟨oc, od, kV, doc, pm, an, ct, osl, rfl, lk, hcd⟩ := F.ex
  obtain ⟨ar, hp, ha⟩ := SS.par
  exact ⟨rfl, rfl, SS.sup, SS.cls, rfl, F.cell, ⟨_, _, _, _, ar, lk, hp, ha⟩, SK.ck, SK.top, SK.mg, SK.cls, SS.n0, SS.loc, SK.opq⟩
theorem spXI_len {names : List Str} {m : Nat} (h : m = names.length + 1) : ∀ vs H Q E, spXI K D names vs H Q E → vs.length = m := fun vs H Q E q => by
  obtain ⟨a, C, us, rfl, hl, _⟩ := q
  rw [h, ← hl]
  rfl
/-- one field -/
theorem exc_init1 {pn fld : Str} {p0 p1 ap pos pos' q1 q2 q3 q4 q5 : Pos} (F : FunC K x qual st f fd c cc D) (SK : SupK P K mg c D) (S : NScope [sf, pn, "__class__"] [sf, pn] ["__class__"] (defScope st)) (SS : SupS st sf [sf, pn, "__class__"])
    (hd : (sf == ("__debug__" : Str)) = false ∧ (sf == ("__classdict__" : Str)) = false ∧ (pn == ("__debug__" : Str)) = false ∧ (pn == ("__classdict__" : Str)) = false)
    (hsc : SupCall [.Name pn q1] p0 p1 ap pos)
    (hst : defBody st = [.Expr (.Call (.Attribute (.Call (.Name "super" p0) [] [] p1) "__init__" ap) [.Name pn q1] [] pos) pos', .Assign [.Attribute (.Name sf q2) fld q3] (.Name pn q4) q5]) :
    FnOk P w K mg base (L2.CX P w) (k + 1) f fd [sf, pn] (spXI K D [fld]) := by
  refine fn_sup (N := [sf, pn, "__class__"]) F S (spXI_len rfl) fun A outer s H vs Q E hr q => ?_
  have v0 : Vis (defScope st) sf := .inl (S.par sf (by simp))
  have v1 : Vis (defScope st) pn := .inl (S.par pn (by simp))
  obtain ⟨d1, d2, d3, d4⟩ := hd
  rw [hst]
  obtain ⟨pl, ht⟩ := hsc (ncx (L2.CX P w) P w K mg base _ (supF x qual st cc c) f A outer s H E).env
  refine ⟨_, PSAt.seq (at_supE (sup_ncx F SK SS A outer s H E) (pa_cons (pe_var (i := 1) rfl v1 d3 d4) pa_nil) (ht := ht)) (pss_one (ps_ost (pe_var (i := 0) rfl v0 d1 d2) (pe_var (i := 1) rfl v1 d3 d4))), ?_⟩
  obtain ⟨a, C, us, rfl, hl, _, ha, M, hn, hq⟩ := q
  match us, hl with
  | [u], _ =>
    refine ⟨a, C, rfl, ha, M, ?_⟩
    refine ⟨u, rfl, Nat.le_of_ble_eq_true rfl, ha, ?_⟩
    refine ⟨u, rfl, .ref a, rfl, a, C, rfl, M.ox, hn fld (by simp), .inl ⟨ha, fun dx h1 h2 => ?_⟩⟩
    exact hq dx h1 h2
/-- two fields -/
theorem exc_init2 {pn pm fld fle : Str} {p0 p1 ap pos pos' q1 q2 q3 q4 q5 q6 q7 q8 q9 q0 : Pos} (F : FunC K x qual st f fd c cc D) (SK : SupK P K mg c D) (S : NScope [sf, pn, pm, "__class__"] [sf, pn, pm] ["__class__"] (defScope st)) (SS : SupS st sf [sf, pn, pm, "__class__"])
    (hd : (sf == ("__debug__" : Str)) = false ∧ (sf == ("__classdict__" : Str)) = false ∧ (pn == ("__debug__" : Str)) = false ∧ (pn == ("__classdict__" : Str)) = false ∧ (pm == ("__debug__" : Str)) = false ∧ (pm == ("__classdict__" : Str)) = false)
    (hsc : SupCall [.Name pn q1, .Name pm q0] p0 p1 ap pos)
    (hst : defBody st = [.Expr (.Call (.Attribute (.Call (.Name "super" p0) [] [] p1) "__init__" ap) [.Name pn q1, .Name pm q0] [] pos) pos', .Assign [.Attribute (.Name sf q2) fld q3] (.Name pn q4) q5, .Assign [.Attribute (.Name sf q6) fle q7] (.Name pm q8) q9]) :
    FnOk P w K mg base (L2.CX P w) (k + 1) f fd [sf, pn, pm] (spXI K D [fld, fle]) := by
  refine fn_sup (N := [sf, pn, pm, "__class__"]) F S (spXI_len rfl) fun A outer s H vs Q E hr q => ?_
  have v0 : Vis (defScope st) sf := .inl (S.par sf (by simp))
  have v1 : Vis (defScope st) pn := .inl (S.par pn (by simp))
  have v2 : Vis (defScope st) pm := .inl (S.par pm (by simp))
  obtain ⟨d1, d2, d3, d4, d5, d6⟩ := hd
  rw [hst]
  obtain ⟨pl, ht⟩ := hsc (ncx (L2.CX P w) P w K mg base _ (supF x qual st cc c) f A outer s H E).env
  refine ⟨_, PSAt.seq (at_supE (sup_ncx F SK SS A outer s H E) (pa_cons (pe_var (i := 1) rfl v1 d3 d4) (pa_cons (pe_var (i := 2) rfl v2 d5 d6) pa_nil)) (ht := ht))
    (pss_cons (ps_ost (pe_var (i := 0) rfl v0 d1 d2) (pe_var (i := 1) rfl v1 d3 d4)) (pss_one (ps_ost (pe_var (i := 0) rfl v0 d1 d2) (pe_var (i := 2) rfl v2 d5 d6)))), ?_⟩
  obtain ⟨a, C, us, rfl, hl, _, ha, M, hn, hq⟩ := q
  match us, hl with
  | [u, v], _ =>
    refine ⟨a, C, rfl, ha, M, ?_⟩
    refine ⟨u, rfl, v, rfl, Nat.le_of_ble_eq_true rfl, ha, ?_⟩
    refine ⟨u, rfl, .ref a, rfl, a, C, rfl, M.ox, hn fld (by simp), .inl ⟨ha, fun dx h1 h2 => ?_⟩⟩
    refine ⟨v, rfl, .ref a, rfl, a, C, rfl, M.ox, hn fle (by simp), .inr ⟨dx, [(fld, u)], upd_same, ?_, Nat.le_of_ble_eq_true rfl, ?_⟩⟩
    · show upd (upd H dx _) a _ dx = _
      rw [upd_ne h2, upd_same]
    · rw [upd_swap h2]
      exact hq dx h1 h2
end
end DL

set_option Elab.async false
set_option linter.all false
set_option maxRecDepth 100000
/-! # DPap: methods over data: with a star, and with super().__init__(..) ahead -/
namespace DL
open PySem PySem.Spec PyProof.Rows L2 StX NdefX ClX

def tSupB (K : PySem.W.Frag) (D g : Addr) (n : Nat) (sp : Sp) (E : L2.St → XK) (ta : TA) : TS := fun Z σ H => ∃ x C dx gs, σ[0]? = some (some (.ref x)) ∧ H x = some (.ins C dx gs) ∧ SupM K C D g ∧
  ta σ H fun vs H1 => vs.length = n ∧ sp (.ref x :: vs) H1 (fun _ H2 => Z.nx σ H2) (E σ)
section
variable {X : Cx} {f c cc D g : Addr} {sf : Str} {b : List Stmt} {p0 p1 ap pos pos' : Pos} {e : Expr} {es : List Expr} {ta : TA} {CX : CXT} {k n : Nat} {sp : Sp} {E : L2.St → XK}
theorem at_supB (hsc : SupCall (e :: es) p0 p1 ap pos) (S : Sup X f c cc D sf) (F : FnB X.prog X.w X.K X.mg X.base CX k g (n + 1) [] sp) (hr : Room k X.A) (hx : ∀ σ, PassesAt CX X σ (E σ)) (ha : PA X (e :: es) ta)
    (he : starEach (e :: es) X.env = (false, eval e X.env) :: starEach es X.env := by rfl) (hpl : (backTo pos (starEach es X.env)).any (·.1) = false := by rfl)
    (hs : swapsWith (.Call (.Attribute (.Call (.Name "super" p0) [] [] p1) "__init__" ap) (e :: es) [] pos) none pos'.line X.env = pure false := by rfl) :
    PSAt X b (.Expr (.Call (.Attribute (.Call (.Name "super" p0) [] [] p1) "__init__" ap) (e :: es) [] pos) pos') (tSupB X.K D g n sp E ta) := by
  refine ⟨fun pins s σ H Z I h => ?_⟩
  obtain ⟨pl, ht⟩ := hsc X.env
  obtain ⟨x, C, dx, gs, h0, ex, M, q⟩ := h
  obtain ⟨mA, ob, _, _, _, _⟩ := ins_get I.hok ex
  have ho : s.heap.get? x = some (PySem.W.instObj C dx) := ob.1
  have hnc : ∀ cd, (PySem.W.instObj C dx).data ≠ .cls cd := fun cd z => nomatch z
  refine ks_wpAt_Expr_any ?_ I.quiet hs
  refine ks_wpAt_MethodCall (pl := pl) ?_ ht
  refine sup_obj S I h0 ho rfl hnc M.sub (by decide) fun h' hso kp => ?_
  have I1 : Inv X pins σ H { s with heap := h' } := I.kept (t' := s.toks) kp
  have KX := I1.kIn
  have hfind := M.find
  unfold PySem.W.ks_superIn at hfind
  cases hcd : PySem.W.clsIn X.K C with
  | none => rw [hcd] at hfind; cases hfind
  | some cd =>
    rw [hcd] at hfind
    obtain ⟨og, hog, hogc⟩ : ∃ og, h'.get? g = some og ∧ og.cls = .type "function" := by
      have ht' : (X.K.lookup g).map (·.cls) = some (.type "function") := M.ty
      cases z : X.K.lookup g with
      | none => rw [z] at ht'; cases ht'
      | some og => rw [z] at ht'; exact ⟨og, KX _ _ z, Option.some.inj ht'⟩
    have hxC : x ≠ C := fun exC => by
      unfold PySem.W.clsIn at hcd
      split at hcd
      · rename_i c1 d1 cd1 sl1 ho1
        have z : h'.get? x = some (PySem.W.instObj C dx) := kp _ _ ho
        rw [exC, KX _ _ ho1] at z
        cases z
      · cases hcd
    obtain ⟨hh, gg, d, t, os⟩ := s
    refine ks_wpAny_getMethod_super (l₀ := cd.mro) hso (PySem.W.looks_opaque KX S.opq) (fun A Q E s k q => wpAny_bind ((PySem.W.looks_clsIn KX hcd) A _ E s k (wpAny_pure q))) rfl KX hfind hog hogc hxC (by decide) ?_
    have I2 : Inv X ((h'.objs.size, PySem.W.methodObj (.ref g) (.ref x)) :: pins) σ H ⟨h'.push (PySem.W.methodObj (.ref g) (.ref x)), gg, d, t + 1, os⟩ :=
      pin_new I1 (fun _ _ z => Heap.get?_push_of_some _ z) (Nat.le_refl _) (Heap.get?_push_size h' rfl) (fun v z => nomatch z)
    refine callwith_cm I2 (base_none I1 (Nat.le_refl _)) M.fn (thn (ha.run pos _ _ σ H _ I2 q) fun us s1 ⟨vs, H1, I3, r1, hl, q1⟩ => ⟨⟨pin_at I3, I3.kIn⟩, ?_⟩) he hpl
    have rr : Vals (V.ref x :: vs) ((Value.ref x :: us) ++ []) := by rw [List.append_nil]; exact .cons rfl r1
    have z : wpAny (model X.prog X.w) X.A (call (.ref h'.objs.size) us) (EP X ((h'.objs.size, PySem.W.methodObj (.ref g) (.ref x)) :: pins) σ (fun _ H2 => Z.nx σ H2)) X.xe s1 :=
      wpAny_call (PySem.W.method_call (pin_at I3) (codeAny_mono (run_B (us := .ref x :: us) (ws := []) F hr (hx σ) I3 (by simp [← r1.length, hl]) rfl rr q1) fun r s' z => by rcases r with e | (v | _ | _ | _) <;> exact z))
    exact thn z fun u s2 y => by
      obtain ⟨v, H2, I4, _, q2⟩ := unpinE y
      exact ⟨σ, H2, I4, q2⟩
end

structure DSAt (X : Cx) (G : CG) (wx : WX) (b : List Stmt) (st : Stmt) (g : DenS) : Prop where
  at_ : PSAt X b st (rS X.K G wx g)
structure DSsAt (X : Cx) (G : CG) (wx : WX) (b st : List Stmt) (g : DenS) : Prop where
  at_ : PSsAt X b st (rS X.K G wx g)
theorem PSAt.imp {X : Cx} {b : List Stmt} {e : Stmt} {t t' : TS} (h : PSAt X b e t) (i : ∀ D σ H, t' D σ H → t D σ H) : PSAt X b e t' := ⟨fun pins s σ H D I q => h.run pins s σ H D I (i D σ H q)⟩
theorem PSsAt.imp {X : Cx} {b : List Stmt} {e : List Stmt} {t t' : TS} (h : PSsAt X b e t) (i : ∀ D σ H, t' D σ H → t D σ H) : PSsAt X b e t' := ⟨fun pins s σ H D I q => h.run pins s σ H D I (i D σ H q)⟩
/-- super().__init__(..) of an instance of one of the classes cs -/
def sSup (cs : List String) (fn : List D → Sto → Out D) (n : Nat) (g : DenA) : DenS := fun env st => match env[0]? with
  | some (some (D.ref i)) => (match st.m i with
    | some (.ins c _) => if c ∈ cs then (g env st).go env fun ds st1 => if ds.length = n then (fn (.ref i :: ds) st1).go env fun _ st2 => .nx env st2 else .bad else .bad
    | _ => .bad)
  | _ => .bad
theorem PostA.go {K : PySem.W.Frag} {G : CG} {W : Wd} {wx : WX} {env : DEnv} {σ : L2.St} {o : Out (List D)} {k : List D → Sto → SOut} {Z : Ends} {Q' : List V → Hp → Prop} (re : REnv K G W env σ) (p : PostS K G W wx (o.go env k) Z)
    (h : ∀ d st W' v, o = .ok d st → W.le W' → Abs K G W' st → RelDs K G W' d v → PostS K G W' wx (k d st) Z → Q' v W'.H) : PostA K G W (fun cls d H => wx cls d σ H) o Q' := by
  cases o with
  | bad => exact p
  | ok d st => exact fun W' v l a r => h d st W' v rfl l a r (PostS.up p l)
  | exc c fs st => exact p σ W .rfl' re
section
variable {X : Cx} {G : CG} {wx : WX} {f c cc D g : Addr} {sf : Str} {b rest : List Stmt} {st : Stmt} {p0 p1 ap pos pos' : Pos} {e : Expr} {es : List Expr} {ga : DenA} {k n : Nat} {fn : List DL.D → Sto → Out DL.D} {gs gr : DenS}
theorem ds_seqAt (h : DSAt X G wx b st gs) (hr : DSs X G wx rest gr) : DSsAt X G wx b (st :: rest) (sSeq gs gr) := ⟨(PSAt.seq h.at_ hr.pss).imp fun Z σ H q => by
  obtain ⟨W, env, st, rfl, A, re, p⟩ := q
  exact ⟨W, env, st, rfl, A, re, PostS.seq p fun env1 st1 W1 σ1 l1 A1 re1 p1 => ⟨W1, env1, st1, rfl, A1, re1, p1⟩⟩⟩
theorem ds_sup {cs : List String} (hsc : SupCall (e :: es) p0 p1 ap pos) (S : Sup X f c cc D sf) (F : FnB X.prog X.w X.K X.mg X.base (L2.CX X.prog X.w) k g (n + 1) [] (spD X.K G fn)) (hr : Room k X.A) (tk : Takes X wx) (ha : DA X G wx (e :: es) ga)
    (hC : ∀ c ∈ cs, ∀ C, G c = some C → SupM X.K C D g)
    (he : starEach (e :: es) X.env = (false, eval e X.env) :: starEach es X.env := by rfl) (hpl : (backTo pos (starEach es X.env)).any (·.1) = false := by rfl)
    (hs : swapsWith (.Call (.Attribute (.Call (.Name "super" p0) [] [] p1) "__init__" ap) (e :: es) [] pos) none pos'.line X.env = pure false := by rfl) :
    DSAt X G wx b (.Expr (.Call (.Attribute (.Call (.Name "super" p0) [] [] p1) "__init__" ap) (e :: es) [] pos) pos') (sSup cs fn n ga) := ⟨(at_supB (E := WE wx) hsc S F hr (passAt tk) ha.pa he hpl hs).imp fun Z σ H q => by
  obtain ⟨W, env, st, rfl, A, re, p⟩ := q
  unfold sSup at p
  cases h0 : env[0]? with
  | none => rw [h0] at p; exact False.elim p
  | some o =>
    rw [h0] at p
    cases o with
    | none => exact False.elim p
    | some d =>
      cases d with
      | ref i =>
        dsimp only at p
        cases hm : st.m i with
        | none => rw [hm] at p; exact False.elim p
        | some mo =>
          rw [hm] at p
          cases mo with
          | ins cn fs =>
            dsimp only at p
            by_cases hc : cn ∈ cs
            · rw [if_pos hc] at p
              obtain ⟨v, hv, rv⟩ := re.2 0 _ h0
              obtain ⟨a, ea, nf, ra⟩ := A.obj i _ hm
              cases rv with
              | @ref _ a' hr' =>
                rw [hr'] at ea
                cases ea
                cases ra with
                | ins gc h1 h2 =>
                  refine ⟨_, _, _, _, hv, h1, hC cn hc _ gc, W, env, st, rfl, A, re, PostA.go re p fun ds st1 W1 vs _ l1 A1 r1 p1 => ?_⟩
                  by_cases hn : ds.length = n
                  · rw [if_pos hn] at p1
                    exact ⟨r1.length ▸ hn, W1, .ref i :: ds, st1, rfl, A1, .cons (.ref (l1.r _ _ hr')) r1, Post.go (re.up l1) p1 fun d st2 W2 u _ l2 A2 r2 p2 => p2 W2 σ .rfl' A2 ((re.up l1).up l2)⟩
                  · rw [if_neg hn] at p1
                    exact False.elim p1
            · rw [if_neg hc] at p
              exact False.elim p
          | _ => exact False.elim p
      | _ => exact False.elim p⟩
end
section
variable {P : Program} {w : World} {K : PySem.W.Frag} {mg : Str → Option Value} {base : Heap} {k : Nat} {f c cc D : Addr} {x qual : Str} {st : Stmt} {fd : FuncData} {N ps : List Str} {G : CG} {g : DenS} {fn : List DL.D → Sto → Out DL.D}
theorem REnv.startF {W : Wd} {ds : List DL.D} {vs : List V} (r : RelDs K G W ds vs) (hl : vs.length + 1 ≤ N.length) {o : Option V} : REnv K G W (ds.map some ++ List.replicate (N.length - ds.length) none) (NdefX.startF N vs [o]) := by
  have e := r.length
  refine ⟨by simp [NdefX.startF, e]; omega, fun i d h => ?_⟩
  by_cases hi : i < ds.length
  · rw [List.getElem?_append_left (by simpa using hi), List.getElem?_map] at h
    cases hd : ds[i]? with
    | none => rw [hd] at h; cases h
    | some d' =>
      rw [hd] at h
      cases h
      obtain ⟨v, h1, h2⟩ := r.get hd
      refine ⟨v, ?_, h2⟩
      unfold NdefX.startF
      rw [List.getElem?_append_left (by rw [List.length_map]; omega), List.getElem?_map, h1]
      rfl
  · rw [List.getElem?_append_right (by simpa using hi), List.getElem?_replicate] at h
    split at h <;> cases h
/-- a method of the text with super() ahead, by its body -/
theorem fn_dS (F : FunC K x qual st f fd c cc D) (S : NScope N ps ["__class__"] (defScope st)) (hlen : ∀ ds s, ds.length ≠ ps.length → fn ds s = .bad) (hfn : ∀ ds s, fn ds s ≠ .bad → runBody N.length g ds s = fn ds s)
    (hbody : ∀ (A : Around) (outer : List Env) (s : Shared) (H : Hp) (E : XK), Room k (A.deeper (envF (supF x qual st cc c) f s.heap.objs.size)) →
      DSsAt (ncx (L2.CX P w) P w K mg base N (supF x qual st cc c) f A outer s H E) G (fun cls d _ H => E cls d H) (defBody st) (defBody st) g) : FnOk P w K mg base (L2.CX P w) (k + 1) f fd ps (spD K G fn) := by
  have len : ∀ vs H Q E, spD K G fn vs H Q E → vs.length = ps.length := fun vs H Q E q => by
    obtain ⟨W, ds, st, rfl, A, r, p⟩ := q
    by_cases h : ds.length = ps.length
    · exact r.length ▸ h
    · rw [hlen ds st h] at p; exact False.elim p
  refine fn_sup F S len fun A outer s H vs Q E hr q => ⟨_, (hbody A outer s H E hr).at_, ?_⟩
  have hl := len _ _ _ _ q
  obtain ⟨W, ds, st, rfl, A', r, p⟩ := q
  have hN : vs.length + 1 ≤ N.length := by
    have q := congrArg List.length S.pre
    rw [List.length_take, List.length_append] at q
    simp only [List.length_cons, List.length_nil] at q
    omega
  refine ⟨W, _, st, rfl, A', REnv.startF r hN, ?_⟩
  have p' : Post K G W E (runBody N.length g ds st) Q := by
    cases hf : fn ds st with
    | bad => rw [hf] at p; exact False.elim p
    | ok d st1 => rw [hfn ds st (by rw [hf]; exact fun z => by cases z)]; exact p
    | exc c fs st1 => rw [hfn ds st (by rw [hf]; exact fun z => by cases z)]; exact p
  clear p
  unfold runBody at p'
  cases hg : g (ds.map some ++ List.replicate (N.length - ds.length) none) st with
  | bad => rw [hg] at p'; exact p'
  | nx env st1 => rw [hg] at p'; exact fun W' σ' l a re => p' W' .non l a .non
  | rt d st1 => rw [hg] at p'; exact p'
  | bk env st1 => rw [hg] at p'; exact False.elim p'
  | ct env st1 => rw [hg] at p'; exact False.elim p'
  | exc c fs env st1 => rw [hg] at p'; exact fun σ' W1 l1 re1 => XcOk.up p' l1
/-- def f(a, .., *v) by its body -/
theorem fn_dStar {n : Nat} {ks : List Str} {pv : Str} (F : Fun K x qual st f fd) (S : FnScope N (ps ++ [pv]) (defScope st)) (hN : ps.length + 1 ≤ N.length) (hm : ps.length ≤ n + ks.length)
    (hb : ∀ (kV doc pm : Value) (an : Option Addr) (cdv ct : Value) (us ws : List Value), us.length = n → ws.length = ks.length → bindArgs (PySem.W.fnOf x qual (defArgs st) (defBody st) (defScope st) .none kV doc pm an cdv ct) ⟨us, ks.zip ws⟩ = (newTuple ((us ++ ws).drop ps.length) >>= fun t => pure (ps.zip ((us ++ ws).take ps.length) ++ [(pv, t)])))
    (hlen : ∀ ds s, ds.length ≠ ps.length + 1 → fn ds s = .bad) (hfn : ∀ ds s, fn ds s ≠ .bad → runBody N.length g ds s = fn ds s)
    (hbody : ∀ (cdv : Value) (A : Around) (outer : List Env) (s : Shared) (H : Hp) (E : XK), Room k (A.deeper (envOfC qual (defScope st) s.heap.objs.size f cdv)) →
      DSs (cxOf (L2.CX P w) P w K mg base N qual (defScope st) f cdv A outer s H E) G (fun cls d _ H => E cls d H) (defBody st) g) : FnB P w K mg base (L2.CX P w) (k + 1) f n ks (spD K G (starFn ps.length fn)) := by
  obtain ⟨oc, od, kV, doc, pm, an, cdv, ct, osl, rfl, lk, hcd⟩ := F.ex
  refine FnB.starD (fnb_star lk hcd S StX.cxUp hm (hb kV doc pm an cdv ct) fun A outer s H vs Q E hr q => ⟨_, (hbody cdv A outer s H E hr).pss, body_ok ?_ ?_⟩)
  · obtain ⟨W, ds, st, rfl, A', r, p⟩ := q
    by_cases h : ds.length = ps.length + 1
    · rw [← r.length, h]; exact hN
    · rw [hlen ds st h] at p; exact False.elim p
  · obtain ⟨W, ds, st, rfl, A', r, p⟩ := q
    refine ⟨W, ds, st, rfl, A', r, ?_⟩
    cases hf : fn ds st with
    | bad => rw [hf] at p; exact False.elim p
    | ok d st1 => rw [hfn ds st (by rw [hf]; exact fun z => by cases z)]; exact p
    | exc c fs st1 => rw [hfn ds st (by rw [hf]; exact fun z => by cases z)]; exact p
end
end DL

set_option Elab.async false
set_option linter.all false
set_option maxRecDepth 100000
/-! # DVal: operators, comparisons, subscripts, slices, built-ins, over data -/
namespace DL
open PySem PySem.Spec PyProof.Rows L2

abbrev F2 := D → D → Sto → Out D
/-! ### operators by kinds -/
def orF (f g : F2) : F2 := fun d e st => match f d e st with | .bad => g d e st | o => o
theorem nox_or {f g : F2} (h : NoX2 f) (h' : NoX2 g) : NoX2 (orF f g) := fun d e st c fs st' q => by
  unfold orF at q
  cases hf : f d e st with
  | bad => rw [hf] at q; exact h' _ _ _ _ _ _ q
  | ok z s => rw [hf] at q; cases q
  | exc c fs s => exact h _ _ _ _ _ _ hf
def fInt (C : Int → Int → Bool) (g : Int → Int → D) : F2 := fun d e st => match d, e with
  | .int i, .int j => if C i j = true then .ok (g i j) st else .bad
  | _, _ => .bad
theorem nox_int {C : Int → Int → Bool} {g : Int → Int → D} : NoX2 (fInt C g) := fun d e st c fs st' q => by
  unfold fInt at q
  split at q
  · split at q <;> cases q
  · cases q
/-- [..] + [..] -/
def fCat : F2 := fun d e st => match d, e with
  | .lst a, .lst b => if a.length + b.length ≤ 10000000 then .ok (.lst (a ++ b)) st else .bad
  | .tup a, .tup b => if a.isEmpty = false ∧ a.length + b.length ≤ 10000000 then .ok (.tup (a ++ b)) st else .bad
  | .str a, .str b => if a.length + b.length ≤ 10000000 then .ok (.str (a ++ b)) st else .bad
  | _, _ => .bad
theorem nox_cat : NoX2 fCat := fun d e st c fs st' q => by
  unfold fCat at q
  split at q
  · split at q <;> cases q
  · split at q <;> cases q
  · split at q <;> cases q
  · cases q
def fRep : F2 := fun d e st => match d, e with
  | .lst a, .int k => if a.length * k.toNat ≤ 10000000 ∧ k ≤ 10000000 ∧ -10000000 ≤ k then .ok (.lst (List.replicate k.toNat a).flatten) st else .bad
  | _, _ => .bad
theorem nox_rep : NoX2 fRep := fun d e st c fs st' q => by
  unfold fRep at q
  split at q
  · split at q <;> cases q
  · cases q
section
variable {X : Cx} {G : CG} {op : Value → Value → Sem Value} {r r' : R2} {f g : F2}
theorem OpR.imp (h : OpR X op r) (i : ∀ x y H Q, r' x y H Q → r x y H Q) : OpR X op r' := fun pins s σ H x y v u Q I rx ry q => h pins s σ H x y v u Q I rx ry (i _ _ _ _ q)
theorem opr_or (h : OpR X op (r2 X.K G f)) (h' : OpR X op (r2 X.K G g)) : OpR X op (r2 X.K G (orF f g)) := fun pins s σ H x y v u Q I rx ry q => by
  obtain ⟨W, d, e, st, rfl, A, r1, r2, p⟩ := q
  unfold orF at p
  cases hf : f d e st with
  | bad => rw [hf] at p; exact h' pins s σ _ x y v u Q I rx ry ⟨W, d, e, st, rfl, A, r1, r2, p⟩
  | ok z s => rw [hf] at p; exact h pins _ σ _ x y v u Q I rx ry ⟨W, d, e, st, rfl, A, r1, r2, by rw [hf]; exact p⟩
  | exc c fs s => rw [hf] at p; exact h pins _ σ _ x y v u Q I rx ry ⟨W, d, e, st, rfl, A, r1, r2, by rw [hf]; exact p⟩
theorem or_int {C : Int → Int → Bool} {g : Int → Int → D} {C' : Int → Int → Prop} {g' : Int → Int → V} (h : OpR X op (L2.rI C' g')) (hC : ∀ i j, C i j = true → C' i j) (hg : ∀ W i j, RelD X.K G W (g i j) (g' i j)) : OpR X op (r2 X.K G (fInt C g)) :=
  OpR.imp h fun x y H Q q => by
    obtain ⟨W, d, e, st, rfl, A, r1, r2, p⟩ := q
    unfold fInt at p
    split at p
    · split at p
      · cases r1
        cases r2
        exact ⟨_, _, rfl, rfl, hC _ _ ‹_›, p W _ .rfl' A (hg W _ _)⟩
      · exact False.elim p
    · exact False.elim p
theorem rI0_rI {g' : Int → Int → V} (h : OpR X op (rI0 g')) : OpR X op (L2.rI (fun _ _ => True) g') := OpR.imp h fun x y H Q q => by
  obtain ⟨i, j, h1, h2, _, q⟩ := q
  exact ⟨i, j, h1, h2, q⟩
theorem ten_line {n : Nat} (h : n ≤ 10000000) : n ≤ sizeLine := by rw [sizeLine_eq]; omega
theorem or_cat : OpR X (binaryOp .Add) (r2 X.K G fCat) := fun pins s σ H x y v u Q I rx ry q => by
  obtain ⟨W, d, e, st, rfl, A, r1, r2, p⟩ := q
  unfold fCat at p
  split at p
  · split at p
    · rename_i hz
      obtain ⟨a, vs, rfl, hf, ha, rs⟩ := r1.sq_lst
      obtain ⟨b, us, rfl, hg, hb, ss⟩ := r2.sq_lst
      refine op_cat pins s σ _ _ _ v u Q I rx ry ⟨a, b, vs, us, rfl, rfl, ha, hb, by rw [← rs.length, ← ss.length]; exact ten_line hz, fun q hq => ?_⟩
      have l := Wd.le_put (o := .lst (vs ++ us)) A hq
      exact p (W.put q _) (.ref q) l (A.put hq) (.lst (.inr rfl) upd_same ((rs.append ss).up l))
    · exact False.elim p
  · split at p
    · rename_i hz
      obtain ⟨a, vs, rfl, ha, rs⟩ := r1.sq_tup
      obtain ⟨b, us, rfl, hb, ss⟩ := r2.sq_tup
      refine op_catT pins s σ _ _ _ v u Q I rx ry ⟨a, b, vs, us, rfl, rfl, ha W (Wd.le.lf .rfl'), hb W (Wd.le.lf .rfl'), ?_, by rw [← rs.length, ← ss.length]; exact ten_line hz.2, fun hy => ?_, fun _ q hq => ?_⟩
      · rintro rfl
        cases rs
        cases hz.1
      · subst hy
        cases ss
        rw [List.append_nil] at p
        exact p W (.ref a) .rfl' A r1
      · have l := Wd.le_put (o := .tup (vs ++ us)) A hq
        exact p (W.put q _) (.ref q) l (A.put hq) (.tup (.inr rfl) upd_same ((rs.append ss).up l))
    · exact False.elim p
  · split at p
    · rename_i hz
      cases r1
      cases r2
      exact op_add_str pins s σ _ _ _ v u Q I rx ry ⟨_, _, rfl, rfl, ten_line hz, p W _ .rfl' A (.str _)⟩
    · exact False.elim p
  · exact False.elim p
theorem or_rep : OpR X (binaryOp .Mult) (r2 X.K G fRep) := fun pins s σ H x y v u Q I rx ry q => by
  obtain ⟨W, d, e, st, rfl, A, r1, r2, p⟩ := q
  unfold fRep at p
  split at p
  · split at p
    · rename_i k hz
      obtain ⟨a, vs, rfl, hf, ha, rs⟩ := r1.sq_lst
      cases r2
      have rr : ∀ n, RelDs X.K G W (List.replicate n _).flatten (List.replicate n vs).flatten := fun n => by
        induction n with
        | zero => exact .nil
        | succ n ih =>
          rw [List.replicate_succ, List.replicate_succ, List.flatten_cons, List.flatten_cons]
          exact rs.append ih
      refine op_rep pins s σ _ _ _ v u Q I rx ry ⟨a, k, vs, rfl, rfl, ha, by omega, by omega, by rw [← rs.length]; exact ten_line hz.1, fun q hq => ?_⟩
      have l := Wd.le_put (o := .lst (List.replicate k.toNat vs).flatten) A hq
      exact p (W.put q _) (.ref q) l (A.put hq) (.lst (.inr rfl) upd_same ((rr _).up l))
    · exact False.elim p
  · exact False.elim p
/-! the operators of the programs -/
def yes2 (_ _ : Int) : Bool := true
def small2 (i j : Int) : Bool := decide (-18446744073709551616 < i ∧ i < 18446744073709551616) || decide (-18446744073709551616 < j ∧ j < 18446744073709551616)
def fAdd : F2 := orF (fInt yes2 fun i j => .int (i + j)) fCat
def fSub : F2 := fInt yes2 fun i j => .int (i - j)
def fMul : F2 := orF (fInt small2 fun i j => .int (i * j)) fRep
def fMod : F2 := fInt (fun _ j => decide (0 < j)) fun i j => .int (i % j)
def fDiv : F2 := fInt (fun _ j => decide (0 < j ∧ j < 1073741824)) fun i j => .int (i / j)
def fPow : F2 := fInt (fun i j => decide (0 ≤ j ∧ j ≤ 1000 ∧ i.natAbs < 18446744073709551616)) fun i j => .int (i ^ j.toNat)
def fLt : F2 := fInt yes2 fun i j => .bl (decide (i < j))
def fLe : F2 := fInt yes2 fun i j => .bl (decide (i ≤ j))
def fGt : F2 := fInt yes2 fun i j => .bl (decide (j < i))
def fGe : F2 := fInt yes2 fun i j => .bl (decide (j ≤ i))
theorem o_add : OpR X (binaryOp .Add) (r2 X.K G fAdd) := opr_or (or_int (rI0_rI op_add) (fun _ _ _ => trivial) fun _ _ _ => .int _) or_cat
theorem o_sub : OpR X (binaryOp .Sub) (r2 X.K G fSub) := or_int (rI0_rI op_sub) (fun _ _ _ => trivial) fun _ _ _ => .int _
theorem o_mul : OpR X (binaryOp .Mult) (r2 X.K G fMul) := opr_or (or_int op_mul (fun i j h => by
  unfold small2 at h
  rw [Bool.or_eq_true, decide_eq_true_eq, decide_eq_true_eq] at h
  exact h) fun _ _ _ => .int _) or_rep
theorem o_mod : OpR X (binaryOp .Mod) (r2 X.K G fMod) := or_int op_mod (fun _ _ h => of_decide_eq_true h) fun _ _ _ => .int _
theorem o_div : OpR X (binaryOp .FloorDiv) (r2 X.K G fDiv) := or_int op_fdiv (fun _ j h => (of_decide_eq_true h : 0 < j ∧ j < 1073741824)) fun _ _ _ => .int _
theorem o_pow : OpR X (binaryOp .Pow) (r2 X.K G fPow) := or_int op_pow (fun i j h => by
  have h := of_decide_eq_true h
  exact ⟨h.1, by omega, h.2.2⟩) fun _ _ _ => .int _
theorem o_lt : OpR X (compareOp .Lt) (r2 X.K G fLt) := or_int (rI0_rI op_lt) (fun _ _ _ => trivial) fun _ _ _ => .bl _
theorem o_le : OpR X (compareOp .LtE) (r2 X.K G fLe) := or_int (rI0_rI op_le) (fun _ _ _ => trivial) fun _ _ _ => .bl _
theorem o_gt : OpR X (compareOp .Gt) (r2 X.K G fGt) := or_int (rI0_rI op_gt) (fun _ _ _ => trivial) fun _ _ _ => .bl _
theorem o_ge : OpR X (compareOp .GtE) (r2 X.K G fGe) := or_int (rI0_rI op_ge) (fun _ _ _ => trivial) fun _ _ _ => .bl _
theorem nx_add : NoX2 fAdd := nox_or nox_int nox_cat
theorem nx_mul : NoX2 fMul := nox_or nox_int nox_rep
end

/-! ### plain data -/
mutual
def toPy : D → Option PyData
  | .non => some .none
  | .bl b => some (.bool b)
  | .int i => some (.int i)
  | .str x => some (.str x)
  | .tup ds => (toPys ds).map .tuple
  | .lst ds => (toPys ds).map .list
  | _ => none
def toPys : List D → Option (List PyData)
  | [] => some []
  | d :: ds => match toPy d, toPys ds with
    | some p, some ps => some (p :: ps)
    | _, _ => none
end
section
variable {K : PySem.W.Frag} {G : CG} {W : Wd}
mutual
theorem RelD.py : ∀ {d : D} {v : V} {p : PyData}, RelD K G W d v → toPy d = some p → Dp K W.H v p
  | _, _, _, .non, h => by simp only [toPy, Option.some.injEq] at h; subst h; exact .non
  | _, _, _, .bl b, h => by simp only [toPy, Option.some.injEq] at h; subst h; exact .bl b
  | _, _, _, .int i, h => by simp only [toPy, Option.some.injEq] at h; subst h; exact .int i
  | _, _, _, .str x, h => by simp only [toPy, Option.some.injEq] at h; subst h; exact .str x
  | .tup ds, _, p, .tup hf hr hs, h => by
    simp only [toPy] at h
    cases e : toPys ds with
    | none => rw [e] at h; cases h
    | some ps => rw [e] at h; cases h; exact .tup (.inl (.inl hr)) (RelDs.py hs e)
  | .tup ds, _, p, .tupK hr hs, h => by
    simp only [toPy] at h
    cases e : toPys ds with
    | none => rw [e] at h; cases h
    | some ps => rw [e] at h; cases h; exact .tup (hr _) (RelDs.py hs e)
  | .lst ds, _, p, .lst hf hr hs, h => by
    simp only [toPy] at h
    cases e : toPys ds with
    | none => rw [e] at h; cases h
    | some ps => rw [e] at h; cases h; exact .lst (.inl (.inl hr)) (RelDs.py hs e)
  | _, _, _, .rdl _ _ _, h => by simp [toPy] at h
  | _, _, _, .rdlK _ _, h => by simp [toPy] at h
  | _, _, _, .dic _ _ _, h => by simp [toPy] at h
  | _, _, _, .ins _ _ _ _, h => by simp [toPy] at h
  | _, _, _, .exn _ _ _ _ _ _, h => by simp [toPy] at h
  | _, _, _, .cls _, h => by simp [toPy] at h
  | _, _, _, .ty _, h => by simp [toPy] at h
  | _, _, _, .ref _, h => by simp [toPy] at h
theorem RelDs.py : ∀ {ds : List D} {vs : List V} {ps : List PyData}, RelDs K G W ds vs → toPys ds = some ps → DpAll K W.H vs ps
  | _, _, _, .nil, h => by simp only [toPys, Option.some.injEq] at h; subst h; exact .nil
  | d :: ds, _, _, .cons r t, h => by
    simp only [toPys] at h
    split at h
    · rename_i p ps e1 e2
      cases h
      exact .cons (RelD.py r e1) (RelDs.py t e2)
    · cases h
end
end
def fEqW (neg : Bool) : F2 := fun d e st => match toPy d, toPy e with
  | some p, some q => if (SeqAt.shaped p && SeqAt.shaped q) = true then .ok (.bl (if neg = true then !PyData.eqv p q else PyData.eqv p q)) st else .bad
  | _, _ => .bad
theorem nox_eqW {neg : Bool} : NoX2 (fEqW neg) := fun d e st c fs st' q => by
  unfold fEqW at q
  split at q
  · split at q <;> cases q
  · cases q
section
variable {X : Cx} {G : CG}
theorem o_eqW (hu : X.A.units + 64 < cLine) : OpR X (compareOp .Eq) (r2 X.K G (fEqW false)) := OpR.imp (op_eqD hu) fun x y H Q q => by
  obtain ⟨W, d, e, st, rfl, A, r1, r2, p⟩ := q
  unfold fEqW at p
  split at p
  · rename_i a b h1 h2
    split at p
    · rename_i hs
      rw [Bool.and_eq_true] at hs
      exact ⟨a, b, r1.py h1, r2.py h2, hs.1, hs.2, p W _ .rfl' A (.bl _)⟩
    · exact False.elim p
  · exact False.elim p
theorem o_neW (hu : X.A.units + 64 < cLine) : OpR X (compareOp .NotEq) (r2 X.K G (fEqW true)) := OpR.imp (op_neD hu) fun x y H Q q => by
  obtain ⟨W, d, e, st, rfl, A, r1, r2, p⟩ := q
  unfold fEqW at p
  split at p
  · rename_i a b h1 h2
    split at p
    · rename_i hs
      rw [Bool.and_eq_true] at hs
      exact ⟨a, b, r1.py h1, r2.py h2, hs.1, hs.2, p W _ .rfl' A (.bl _)⟩
    · exact False.elim p
  · exact False.elim p
end

/-! ### subscripts and slices -/
/-- the place of an index -/
def ixD (ds : List D) (i : Int) : Option D := (ixN ds.length i).bind fun j => ds[j]?
def fIx : F2 := fun d e st => match d, e with
  | .lst ds, .int i => (match ixD ds i with | some x => .ok x st | none => .bad)
  | .tup ds, .int i => (match ixD ds i with | some x => .ok x st | none => .bad)
  | .rdl ds, .int i => (match ixD ds i with | some x => .ok x st | none => .bad)
  | .str z, .int i => if z.length ≤ 10000000 then (match atI z.cps.toList i with | some c => .ok (.str ⟨#[c]⟩) st | none => .bad) else .bad
  | .ref k, .int i => (match st.m k with
    | some (.lst ds) => (match ixD ds i with | some x => .ok x st | none => .bad)
    | _ => .bad)
  | _, _ => .bad
theorem ixD_rel {K : PySem.W.Frag} {G : CG} {W : Wd} {ds : List D} {vs : List V} {i : Int} {d : D} (r : RelDs K G W ds vs) (h : ixD ds i = some d) : ∃ v, atI vs i = some v ∧ RelD K G W d v := by
  unfold ixD at h
  unfold atI
  rw [r.length] at h
  cases e : ixN vs.length i with
  | none => rw [e] at h; cases h
  | some j =>
    rw [e] at h
    exact r.get h
section
variable {X : Cx} {G : CG} {wx : WX} {a b : Expr} {ga gb : Den} {pos p2 : Pos}
theorem IxR.imp {r r' : R2} (h : IxR X r) (i : ∀ x y H Q, r' x y H Q → r x y H Q) : IxR X r' := fun va sl pins s σ H x y v u Q I rx ry q hs => h va sl pins s σ H x y v u Q I rx ry (i _ _ _ _ q) hs
theorem nox_ix : NoX2 fIx := fun d e st c fs st' q => by
  unfold fIx at q
  repeat' (split at q)
  all_goals cases q
theorem ix_D : IxR X (r2 X.K G fIx) := IxR.imp ix_seq fun x y H Q q => by
  obtain ⟨W, d, e, st, rfl, A, r1, r2, p⟩ := q
  unfold fIx at p
  split at p
  · cases r2
    split at p
    · rename_i hx
      obtain ⟨q, vs, rfl, hf, hr, rs⟩ := r1.sq_lst
      obtain ⟨v, h1, h2⟩ := ixD_rel rs hx
      exact .inl ⟨q, vs, _, v, rfl, rfl, .inl (.inl hr), h1, p W v .rfl' A h2⟩
    · exact False.elim p
  · cases r2
    split at p
    · rename_i hx
      obtain ⟨q, vs, rfl, hr, rs⟩ := r1.sq_tup
      obtain ⟨v, h1, h2⟩ := ixD_rel rs hx
      exact .inr (.inl ⟨q, vs, _, v, rfl, rfl, hr W (Wd.le.lf .rfl'), h1, p W v .rfl' A h2⟩)
    · exact False.elim p
  · cases r2
    split at p
    · rename_i hx
      obtain ⟨q, vs, rfl, hr, rs⟩ := r1.sq_rdl
      obtain ⟨v, h1, h2⟩ := ixD_rel rs hx
      exact .inl ⟨q, vs, _, v, rfl, rfl, hr W (Wd.le.lf .rfl'), h1, p W v .rfl' A h2⟩
    · exact False.elim p
  · cases r1
    cases r2
    split at p
    · rename_i hz
      split at p
      · rename_i hx
        exact .inr (.inr ⟨_, _, _, rfl, rfl, ten_line hz, hx, p W _ .rfl' A (.str _)⟩)
      · exact False.elim p
    · exact False.elim p
  · cases r2
    split at p
    · rename_i hm
      split at p
      · rename_i hx
        obtain ⟨q, e, nf, rm⟩ := A.obj _ _ hm
        cases r1 with
        | @ref _ a' hr' =>
          rw [hr'] at e
          cases e
          cases rm with
          | lst hl rs =>
            obtain ⟨v, h1, h2⟩ := ixD_rel rs hx
            exact .inl ⟨_, _, _, v, rfl, rfl, .inl (.inl hl), h1, p W v .rfl' A h2⟩
      · exact False.elim p
    · exact False.elim p
  · exact False.elim p
theorem de_ix (ha : DE X G wx a ga) (hb : DE X G wx b gb) (hs : PlainIx b := by intro _ _; rfl) : DE X G wx (.Subscript a b pos) (dBin fIx ga gb) := ⟨(pe_ix ix_D ha.pe hb.pe hs).imp fun σ H Q q => r2_of σ H Q q nox_ix⟩
end
end DL

set_option Elab.async false
set_option linter.all false
set_option maxRecDepth 100000
/-! # DKind: isinstance, and the fields of exceptions, over data -/
namespace DL
open PySem PySem.Spec PyProof.Rows L2

/-- a class: one of the text, or a built-in -/
inductive TK where
  | own (c : String)
  | bt (n : String)
  deriving DecidableEq
inductive TyN (G : CG) : TK → Value → Prop
  | own {c : String} {C : Addr} : G c = some C → TyN G (.own c) (.ref C)
  | bt (n : String) : TyN G (.bt n) (.type n)
/-- the written part's word on a class without own __getattribute__ .. -/
structure InsK (K : PySem.W.Frag) (C : Addr) : Prop where
  cl : Cls K C
  ha : PySem.W.findIn K (.ref C) "__class__" = some (some (.builtin "object.__class__"))
  hn : PySem.W.specialIn K (.builtin "object.__class__") "__get__" = some (some (.builtin "getset_descriptor.__get__"))
  htk : PySem.W.takesIn K (.builtin "object.__class__") = some true
  hm : PySem.W.mroIn K C (.type "object") = some true
/-- .. and on an exception class -/
structure ExnK (K : PySem.W.Frag) (C : Addr) : Prop where
  isC : (PySem.W.clsIn K C).isSome = true
  ga : PySem.W.findIn K (.ref C) "__getattribute__" = some (some (.builtin "BaseException.__getattribute__"))
  gg : PySem.W.findIn K (.ref C) "__getattr__" = some none
  sub : PySem.W.subIn K (.ref C) (.type "BaseException") = some true
  hd : PySem.W.hasDictIn K C = true
  ha : PySem.W.findIn K (.ref C) "__class__" = some (some (.builtin "object.__class__"))
  hn : PySem.W.specialIn K (.builtin "object.__class__") "__get__" = some (some (.builtin "getset_descriptor.__get__"))
  htk : PySem.W.takesIn K (.builtin "object.__class__") = some true
  hm : PySem.W.mroIn K C (.type "object") = some true
/-- the classes whose instances are known: plain ones, exceptions -/
structure Known where
  ins : List String
  exn : List String
structure KnownK (K : PySem.W.Frag) (G : CG) (N : Known) : Prop where
  ins : ∀ c ∈ N.ins, ∀ C, G c = some C → InsK K C
  exn : ∀ c ∈ N.exn, ∀ C, G c = some C → ExnK K C
def tyD (N : Known) (d : D) (st : Sto) : Option TK := match d with
  | .non => some (.bt "NoneType")
  | .bl _ => some (.bt "bool")
  | .int _ => some (.bt "int")
  | .str _ => some (.bt "str")
  | .tup _ => some (.bt "tuple")
  | .lst _ => some (.bt "list")
  | .dic _ => some (.bt "dict")
  | .ins c _ => if c ∈ N.ins then some (.own c) else none
  | .exn c _ => if c ∈ N.exn then some (.own c) else none
  | .ref i => (match st.m i with
    | some (.lst _) => some (.bt "list")
    | some (.dic _) => some (.bt "dict")
    | some (.ins c _) => if c ∈ N.ins then some (.own c) else none
    | none => none)
  | _ => none
section
variable {X : Cx} {G : CG} {N : Known} {pins : List (Addr × Obj)} {σ : L2.St} {H : Hp} {s : Shared}
theorem kit_ins {C a dx : Addr} {gs : List (Str × V)} (I : Inv X pins σ H s) (T : InsK X.K C) (e : H a = some (.ins C dx gs)) : ∃ P : Heap → Prop, PySem.W.KitX X.K (.ref a) (.ref C) P ∧ P s.heap := by
  obtain ⟨mA, O, _⟩ := ins_get I.hok e
  obtain ⟨od, J, _⟩ := O.look
  exact ⟨_, PySem.W.kitx_own (T.cl.get _) T.cl.hd T.ha T.hn T.htk T.hm, J⟩
theorem kit_D (hN : KnownK X.K G N) {W : Wd} {d : D} {st : Sto} {v : V} {u : Value} {k : TK} (I : Inv X pins σ W.H s) (A : Abs X.K G W st) (r : RelD X.K G W d v) (rv : RelV v u) (h : tyD N d st = some k) :
    ∃ t P, TyN G k t ∧ PySem.W.KitX X.K u t P ∧ P s.heap ∧ u ≠ .builtin "__main__.__loader__#opaque" := by
  have tup : ∀ {a : Addr} {vs : List V}, (SqT X.K W.H a vs) → ∃ P : Heap → Prop, PySem.W.KitX X.K (.ref a) (.type "tuple") P ∧ P s.heap := fun {a vs} hq => by
    obtain ⟨its, _, p, _⟩ := I.tuple hq
    obtain ⟨o, h1, h2, _⟩ := p
    exact ⟨_, PySem.W.kitx_tuple, ⟨o, h1, h2⟩⟩
  have base : ∀ {x : V} {t : Value}, RelV x u → TyX X.K W.H x t → ∃ P, PySem.W.KitX X.K u t P ∧ P s.heap ∧ u ≠ .builtin "__main__.__loader__#opaque" := fun rx ty => kit_of I rx ty
  cases r with
  | non => cases h; obtain ⟨P, z⟩ := base rv (.base .non); exact ⟨_, P, .bt _, z⟩
  | bl b => cases h; obtain ⟨P, z⟩ := base rv (.base (.bl b)); exact ⟨_, P, .bt _, z⟩
  | int i => cases h; obtain ⟨P, z⟩ := base rv (.base (.int i)); exact ⟨_, P, .bt _, z⟩
  | str x => cases h; obtain ⟨P, z⟩ := base rv (.base (.str x)); exact ⟨_, P, .bt _, z⟩
  | tup hf hr hs =>
    cases h
    cases (show u = _ from rv)
    obtain ⟨P, z1, z2⟩ := tup (.inl (.inl hr))
    exact ⟨_, P, .bt _, z1, z2, fun z => nomatch z⟩
  | tupK hr hs =>
    cases h
    cases (show u = _ from rv)
    obtain ⟨P, z1, z2⟩ := tup (hr _)
    exact ⟨_, P, .bt _, z1, z2, fun z => nomatch z⟩
  | lst hf hr hs => cases h; obtain ⟨P, z⟩ := base rv (.base (.lst hr)); exact ⟨_, P, .bt _, z⟩
  | rdl _ _ _ => cases h
  | rdlK _ _ => cases h
  | dic hf hr hs => cases h; obtain ⟨P, z⟩ := base rv (.base (.dK hr)); exact ⟨_, P, .bt _, z⟩
  | @ins c fs gs a C dx hf hc hr hs =>
    unfold tyD at h
    dsimp only at h
    split at h
    · rename_i hm
      cases h
      cases (show u = Value.ref a from rv)
      obtain ⟨P, z1, z2⟩ := kit_ins I (hN.ins c hm C hc) hr
      exact ⟨_, P, .own hc, z1, z2, fun z => nomatch z⟩
    · cases h
  | @exn c fs gs a C dx hf hd hc hr hx hs =>
    unfold tyD at h
    dsimp only at h
    split at h
    · rename_i hm
      cases h
      cases (show u = Value.ref a from rv)
      have T := hN.exn c hm C hc
      obtain ⟨t1, ho⟩ := exo_at I.hok hr
      obtain ⟨mA, ⟨od, es, ep, hod, _⟩, _⟩ := exd_at I.hok hx
      have IA : PySem.W.InstAt s.heap a { cls := .ref C, dict := some dx, data := .fields #[.ref t1, .none, .none, .none, .bool false, .none] } C (some od) := ⟨ho, rfl, rfl, hod⟩
      exact ⟨_, _, .own hc, PySem.W.kitx_exc T.isC T.ga T.gg T.sub T.ha T.hn T.htk T.hm, IA, fun z => nomatch z⟩
    · cases h
  | cls hc => cases h
  | ty n => cases h
  | @ref i a hr =>
    unfold tyD at h
    dsimp only at h
    cases (show u = Value.ref a from rv)
    cases hm : st.m i with
    | none => rw [hm] at h; cases h
    | some mo =>
      rw [hm] at h
      obtain ⟨b, eb, nf, rm⟩ := A.obj i _ hm
      rw [hr] at eb
      cases eb
      cases rm with
      | lst hl _ => cases h; obtain ⟨P, z⟩ := base (x := .ref a) rfl (.base (.lst hl)); exact ⟨_, P, .bt _, z⟩
      | dic hl _ => cases h; obtain ⟨P, z⟩ := base (x := .ref a) rfl (.base (.dK hl)); exact ⟨_, P, .bt _, z⟩
      | @ins c fs gs _ C dx hc hl _ =>
        dsimp only at h
        split at h
        · rename_i hmm
          cases h
          obtain ⟨P, z1, z2⟩ := kit_ins I (hN.ins c hmm C hc) hl
          exact ⟨_, P, .own hc, z1, z2, fun z => nomatch z⟩
        · cases h
end
/-- the answers of isinstance -/
def IsOk (K : PySem.W.Frag) (G : CG) (IS : TK → TK → Option Bool) : Prop := ∀ k t b, IS k t = some b → ∀ u w, TyN G k u → TyN G t w → PySem.W.kitOne K u w = some b
def tgtD : D → Option TK
  | .cls c => some (.own c)
  | .ty n => some (.bt n)
  | _ => none
def anyIs (IS : TK → TK → Option Bool) (k : TK) : List D → Option Bool
  | [] => some false
  | t :: ts => match tgtD t with
    | none => none
    | some t => (match IS k t with
      | some true => (if (ts.all fun t => (tgtD t).isSome) = true then some true else none)
      | some false => anyIs IS k ts
      | none => none)
def fIsi (N : Known) (IS : TK → TK → Option Bool) : List D → Sto → Out D := fun ds st => match ds with
  | [x, t] => (match tyD N x st with
    | none => .bad
    | some k => (match t with
      | .tup ts => (match anyIs IS k ts with | some b => .ok (.bl b) st | none => .bad)
      | t => (match tgtD t with
        | none => .bad
        | some t => (match IS k t with | some b => .ok (.bl b) st | none => .bad))))
  | _ => .bad
theorem nox_isi {N : Known} {IS : TK → TK → Option Bool} : NoXN (fIsi N IS) := fun ds st c fs st' q => by
  unfold fIsi at q
  repeat' (split at q)
  all_goals cases q
section
variable {X : Cx} {G : CG} {N : Known} {IS : TK → TK → Option Bool}
theorem tgt_rel {W : Wd} {d : D} {v : V} {u : Value} {t : TK} (r : RelD X.K G W d v) (rv : RelV v u) (h : tgtD d = some t) : TyN G t u := by
  cases r with
  | cls hc => cases h; cases (show u = _ from rv); exact .own hc
  | ty n => cases h; cases (show u = _ from rv); exact .bt n
  | _ => cases h
theorem any_rel (hI : IsOk X.K G IS) {W : Wd} {k : TK} {t : Value} (hk : TyN G k t) : ∀ {ts : List D} {vs : List V} {us : List Value} {b : Bool}, RelDs X.K G W ts vs → Vals vs us → anyIs IS k ts = some b → PySem.W.kitAny X.K t us = some b
  | _, _, _, _, .nil, .nil, h => by cases h; rfl
  | _, _, _, b, .cons (d := d) r rs, .cons rv rvs, h => by
    unfold anyIs at h
    cases ht : tgtD d with
    | none => rw [ht] at h; cases h
    | some t' =>
      rw [ht] at h
      have w := tgt_rel r rv ht
      dsimp only at h
      unfold PySem.W.kitAny
      cases hi : IS k t' with
      | none => rw [hi] at h; cases h
      | some b' =>
        rw [hi] at h
        rw [hI _ _ _ hi _ _ hk w]
        cases b' with
        | true =>
          dsimp only at h ⊢
          split at h
          · cases h; rfl
          · cases h
        | false => exact any_rel hI hk rs rvs h
theorem call_isiD (hN : KnownK X.K G N) (hI : IsOk X.K G IS) : CallR X (.builtin "isinstance") (rN X.K G (fIsi N IS)) := by
  intro pins s σ H xs us Q I r h
  obtain ⟨W, ds, st, rfl, A, rd, p⟩ := h
  unfold fIsi at p
  split at p
  · rename_i x t
    cases rd with
    | cons r1 rd =>
      cases rd with
      | cons r2 rd =>
        cases rd
        obtain ⟨u1, u2, rfl, v1, v2⟩ := vals2 r
        cases hk : tyD N x st with
        | none => rw [hk] at p; exact False.elim p
        | some k =>
          rw [hk] at p
          obtain ⟨tv, P, hty, Z, hp, hx⟩ := kit_D hN I A r1 v1 hk
          dsimp only at p
          split at p
          · rename_i ts
            cases ha : anyIs IS k ts with
            | none => rw [ha] at p; exact False.elim p
            | some b =>
              rw [ha] at p
              obtain ⟨a, vs, rfl, hq, rs⟩ := r2.sq_tup
              cases (show u2 = Value.ref a from v2)
              obtain ⟨its, rvs, pt, _⟩ := I.tuple (hq W (Wd.le.lf .rfl'))
              obtain ⟨o, h1, h2, n, h3⟩ := pt
              obtain ⟨oc, od, dt, sl⟩ := o
              simp only at h2 h3
              subst h2 h3
              exact PySem.W.kia_tup Z I.kIn hp h1 (any_rel hI hty rs rvs ha) hx fun tk => ⟨.bl b, W.H, I.tok tk, rfl, p W _ .rfl' A (.bl b)⟩
          · cases ht : tgtD t with
            | none => rw [ht] at p; exact False.elim p
            | some t' =>
              rw [ht] at p
              dsimp only at p
              cases hi : IS k t' with
              | none => rw [hi] at p; exact False.elim p
              | some b =>
                rw [hi] at p
                exact PySem.W.kia_one Z I.kIn hp (hI _ _ _ hi _ _ hty (tgt_rel r2 v2 ht)) hx fun tk => ⟨.bl b, W.H, I.tok tk, rfl, p W _ .rfl' A (.bl b)⟩
  · exact False.elim p
end

/-! ### built-ins over data -/
section
variable {X : Cx} {G : CG} {wx : WX} {x : Str} {p pos : Pos} {es : List Expr} {e : Expr} {g : DenA} {f : List D → Sto → Out D} {id T : String}
theorem rN_of (hx : NoXN f) (σ : L2.St) (H : Hp) (Q : VK) (q : rE X.K G wx (dCall f g) σ H Q) : tCB (rN X.K G f) (rA X.K G wx g) σ H Q := by
  obtain ⟨W, env, st, rfl, A, re, p⟩ := q
  refine ⟨W, env, st, rfl, A, re, PostA.bind p fun ds st1 W1 vs _ l1 A1 r1 p1 => ⟨W1, ds, st1, rfl, A1, r1, ?_⟩⟩
  cases h : f ds st1 with
  | bad => rw [h] at p1; exact p1
  | ok z st3 => rw [h] at p1; exact p1
  | exc c fs st3 => exact (hx _ _ _ _ _ h).elim
theorem de_callB (hc : CallR X (.builtin id) (rN X.K G f)) (hx : NoXN f) (hg : Gl X x) (hm : X.mg x = none) (hv : bootBuiltins x = some (.builtin id)) (ha : DA X G wx (e :: es) g) (hn : x ≠ "__name__" := by decide) (hdb : (x == ("__debug__" : Str)) = false := by decide)
    (he : starEach (e :: es) X.env = (false, eval e X.env) :: starEach es X.env := by rfl) (hpl : (backTo pos (starEach es X.env)).any (·.1) = false := by rfl) : DE X G wx (.Call (.Name x p) (e :: es) [] pos) (dCall f g) :=
  ⟨(pe_callB hc hg hm hv ha.pa hn hdb he hpl).imp fun σ H Q q => rN_of hx σ H Q q⟩
theorem de_callTy (hc : CallR X (.type T) (rN X.K G f)) (hx : NoXN f) (hg : Gl X x) (hm : X.mg x = none) (hv : bootBuiltins x = some (.type T)) (ha : DA X G wx (e :: es) g) (hn : x ≠ "__name__" := by decide) (hdb : (x == ("__debug__" : Str)) = false := by decide)
    (he : starEach (e :: es) X.env = (false, eval e X.env) :: starEach es X.env := by rfl) (hpl : (backTo pos (starEach es X.env)).any (·.1) = false := by rfl) : DE X G wx (.Call (.Name x p) (e :: es) [] pos) (dCall f g) :=
  ⟨(pe_callTy hc hg hm hv ha.pa hn hdb he hpl).imp fun σ H Q q => rN_of hx σ H Q q⟩
theorem CallR.imp {fv : Value} {r r' : List V → Hp → VK → Prop} (h : CallR X fv r) (i : ∀ xs H Q, r' xs H Q → r xs H Q) : CallR X fv r' := fun pins s σ H xs us Q I rv q => h pins s σ H xs us Q I rv (i _ _ _ q)
end
def fInt1 : List D → Sto → Out D := fun ds st => match ds with
  | [.int i] => .ok (.int i) st
  | [.bl k] => .ok (.int (if k then 1 else 0)) st
  | _ => .bad
def fLen : List D → Sto → Out D := fun ds st => match ds with
  | [.lst l] => .ok (.int l.length) st
  | [.tup l] => .ok (.int l.length) st
  | [.rdl l] => .ok (.int l.length) st
  | [.str x] => if x.length ≤ 10000000 then .ok (.int x.length) st else .bad
  | [.ref i] => (match st.m i with | some (.lst l) => .ok (.int l.length) st | _ => .bad)
  | _ => .bad
def fTuple : List D → Sto → Out D := fun ds st => match ds with
  | [.lst l] => .ok (.tup l) st
  | [.tup l] => .ok (.tup l) st
  | [.ref i] => (match st.m i with | some (.lst l) => .ok (.tup l) st | _ => .bad)
  | _ => .bad
def blAll : List D → Option (List Bool)
  | [] => some []
  | .bl b :: ds => (blAll ds).map (b :: ·)
  | _ => none
def fAll : List D → Sto → Out D := fun ds st => match ds with
  | [.lst l] => (match blAll l with | some bs => .ok (.bl (bs.all id)) st | none => .bad)
  | _ => .bad
def fAny : List D → Sto → Out D := fun ds st => match ds with
  | [.lst l] => (match blAll l with | some bs => .ok (.bl (bs.any id)) st | none => .bad)
  | _ => .bad
theorem nox_int1 : NoXN fInt1 := fun ds st c fs st' q => by
  unfold fInt1 at q
  repeat' (split at q)
  all_goals cases q
theorem nox_len : NoXN fLen := fun ds st c fs st' q => by
  unfold fLen at q
  repeat' (split at q)
  all_goals cases q
theorem nox_tuple : NoXN fTuple := fun ds st c fs st' q => by
  unfold fTuple at q
  repeat' (split at q)
  all_goals cases q
theorem nox_all : NoXN fAll := fun ds st c fs st' q => by
  unfold fAll at q
  repeat' (split at q)
  all_goals cases q
theorem nox_any : NoXN fAny := fun ds st c fs st' q => by
  unfold fAny at q
  repeat' (split at q)
  all_goals cases q
section
variable {X : Cx} {G : CG}
theorem RelDs.one {K : PySem.W.Frag} {W : Wd} {d : D} {vs : List V} (r : RelDs K G W [d] vs) : ∃ v, vs = [v] ∧ RelD K G W d v := by
  cases r with
  | cons r t => cases t; exact ⟨_, rfl, r⟩
theorem RelDs.bls {K : PySem.W.Frag} {W : Wd} : ∀ {ds : List D} {vs : List V} {bs : List Bool}, RelDs K G W ds vs → blAll ds = some bs → vs = bs.map V.bl
  | _, _, _, .nil, h => by cases h; rfl
  | d :: ds, _, bs, .cons r t, h => by
    cases d with
    | bl b =>
      simp only [blAll] at h
      cases e : blAll ds with
      | none => rw [e] at h; cases h
      | some bs' =>
        rw [e] at h
        cases h
        cases r
        rw [RelDs.bls t e]
        rfl
    | _ => simp [blAll] at h
theorem c_int : CallR X (.type "int") (rN X.K G fInt1) := CallR.imp call_int1 fun xs H Q q => by
  obtain ⟨W, ds, st, rfl, A, r, p⟩ := q
  unfold fInt1 at p
  split at p
  · obtain ⟨v, rfl, ro⟩ := r.one; cases ro; exact .inl ⟨_, rfl, p W _ .rfl' A (.int _)⟩
  · obtain ⟨v, rfl, ro⟩ := r.one; cases ro; exact .inr ⟨_, rfl, p W _ .rfl' A (.int _)⟩
  · exact False.elim p
theorem c_len : CallR X (.builtin "len") (rN X.K G fLen) := CallR.imp call_len fun xs H Q q => by
  obtain ⟨W, ds, st, rfl, A, r, p⟩ := q
  unfold fLen at p
  split at p
  · obtain ⟨v, rfl, ro⟩ := r.one
    obtain ⟨a, vs, rfl, hf, hr, rs⟩ := ro.sq_lst
    exact ⟨_, _, rfl, .inl ⟨vs, .inl (.inl hr), rfl⟩, p W _ .rfl' A (by rw [← rs.length]; exact .int _)⟩
  · obtain ⟨v, rfl, ro⟩ := r.one
    obtain ⟨a, vs, rfl, hr, rs⟩ := ro.sq_tup
    exact ⟨_, _, rfl, .inr ⟨vs, hr W (Wd.le.lf .rfl'), rfl⟩, p W _ .rfl' A (by rw [← rs.length]; exact .int _)⟩
  · obtain ⟨v, rfl, ro⟩ := r.one
    obtain ⟨a, vs, rfl, hr, rs⟩ := ro.sq_rdl
    exact ⟨_, _, rfl, .inl ⟨vs, hr W (Wd.le.lf .rfl'), rfl⟩, p W _ .rfl' A (by rw [← rs.length]; exact .int _)⟩
  · obtain ⟨v, rfl, ro⟩ := r.one
    cases ro
    split at p
    · rename_i hz
      exact ⟨_, _, rfl, ⟨ten_line hz, rfl⟩, p W _ .rfl' A (.int _)⟩
    · exact False.elim p
  · obtain ⟨v, rfl, ro⟩ := r.one
    split at p
    · rename_i hm
      obtain ⟨b, eb, nf, rm⟩ := A.obj _ _ hm
      cases ro with
      | @ref _ a hr =>
        rw [hr] at eb
        cases eb
        cases rm with
        | lst hl rs => exact ⟨_, _, rfl, .inl ⟨_, .inl (.inl hl), rfl⟩, p W _ .rfl' A (by rw [← rs.length]; exact .int _)⟩
    · exact False.elim p
  · exact False.elim p
theorem c_tuple : CallR X (.type "tuple") (rN X.K G fTuple) := CallR.imp call_tuple_of fun xs H Q q => by
  obtain ⟨W, ds, st, rfl, A, r, p⟩ := q
  unfold fTuple at p
  split at p
  · obtain ⟨v, rfl, ro⟩ := r.one
    obtain ⟨a, vs, rfl, hf, hr, rs⟩ := ro.sq_lst
    refine ⟨_, vs, rfl, .inl ⟨.inl (.inl hr), fun l hl => ?_⟩⟩
    have le := Wd.le_put (o := .tup vs) A hl
    exact p (W.put l (.tup vs)) _ le (A.put hl) (.tup (.inr rfl) upd_same (rs.up le))
  · obtain ⟨v, rfl, ro⟩ := r.one
    obtain ⟨a, vs, rfl, hr, rs⟩ := ro.sq_tup
    exact ⟨_, vs, rfl, .inr ⟨hr W (Wd.le.lf .rfl'), p W _ .rfl' A ro⟩⟩
  · obtain ⟨v, rfl, ro⟩ := r.one
    split at p
    · rename_i hm
      obtain ⟨b, eb, nf, rm⟩ := A.obj _ _ hm
      cases ro with
      | @ref _ a hr =>
        rw [hr] at eb
        cases eb
        cases rm with
        | @lst _ vs _ hl' rs =>
          refine ⟨_, vs, rfl, .inl ⟨.inl (.inl hl'), fun l hl => ?_⟩⟩
          have le := Wd.le_put (o := .tup vs) A hl
          exact p (W.put l (.tup vs)) _ le (A.put hl) (.tup (.inr rfl) upd_same (rs.up le))
    · exact False.elim p
  · exact False.elim p
theorem c_all (hc : X.calm = true) : CallR X (.builtin "all") (rN X.K G fAll) := CallR.imp (cr_all hc) fun xs H Q q => by
  obtain ⟨W, ds, st, rfl, A, r, p⟩ := q
  unfold fAll at p
  split at p
  · obtain ⟨v, rfl, ro⟩ := r.one
    split at p
    · rename_i hb
      obtain ⟨a, vs, rfl, hf, hr, rs⟩ := ro.sq_lst
      exact ⟨a, _, rfl, .inl (.inl (by rw [← rs.bls hb]; exact hr)), p W _ .rfl' A (.bl _)⟩
    · exact False.elim p
  · exact False.elim p
theorem c_any (hc : X.calm = true) : CallR X (.builtin "any") (rN X.K G fAny) := CallR.imp (cr_any hc) fun xs H Q q => by
  obtain ⟨W, ds, st, rfl, A, r, p⟩ := q
  unfold fAny at p
  split at p
  · obtain ⟨v, rfl, ro⟩ := r.one
    split at p
    · rename_i hb
      obtain ⟨a, vs, rfl, hf, hr, rs⟩ := ro.sq_lst
      exact ⟨a, _, rfl, .inl (.inl (by rw [← rs.bls hb]; exact hr)), p W _ .rfl' A (.bl _)⟩
    · exact False.elim p
  · exact False.elim p
end
end DL

set_option Elab.async false
set_option linter.all false
set_option maxRecDepth 100000
/-! # DMore: fields of exceptions, cells of lists, slices, enumerate, zip -/
namespace DL
open PySem PySem.Spec PyProof.Rows L2 RZ

section
variable {X : Cx} {G : CG} {wx : WX} {o e : Expr} {f : Str} {go ga : Den} {pos pos' : Pos}
/-! ### o.f, o an exception -/
def dFldX (cs : List String) (g : Den) (f : Str) : Den := fun env st => (g env st).bind fun d st1 => match d with
  | .exn c fs => if c ∈ cs then (match fs.lookup f with | some x => .ok x st1 | none => .bad) else .bad
  | _ => .bad
theorem de_fldX {cs : List String} (h : DE X G wx o go) (hC : ∀ c ∈ cs, ∀ C, G c = some C → ExnK X.K C ∧ PySem.W.findIn X.K (.ref C) f = some none) (hb : attributeBase o f X.env (eval o X.env) = eval o X.env) :
    DE X G wx (.Attribute o f pos) (dFldX cs go f) := by
  refine ⟨⟨fun pins s σ H Q I q => ?_⟩⟩
  obtain ⟨W, env, st, rfl, A, re, p⟩ := q
  have key := h.pe.run pins s σ W.H (fun v H1 => ∃ (W1 : Wd) (d : D) (st1 : Sto), W1.H = H1 ∧ W.le W1 ∧ Abs X.K G W1 st1 ∧ RelD X.K G W1 d v ∧ Post X.K G W1 (fun cls dd H => wx cls dd σ H) (match d with
    | .exn c fs => if c ∈ cs then (match fs.lookup f with | some x => .ok x st1 | none => .bad) else .bad
    | _ => .bad) Q) I ⟨W, env, st, rfl, A, re, Post.bind p fun d st1 W1 v _ l1 A1 r1 p1 => ⟨W1, d, st1, rfl, l1, A1, r1, p1⟩⟩
  refine attr_of hb (thn key fun u s1 hh => ?_)
  obtain ⟨v, H1, I1, rv, W1, d, st1, rfl, l1, A1, r1, p1⟩ := hh
  cases d with
  | exn c fs =>
    dsimp only at p1
    by_cases hc : c ∈ cs
    · rw [if_pos hc] at p1
      cases r1 with
      | @exn _ _ gs a C dx hf hd gc hr hx hs =>
        cases (show u = Value.ref a from rv)
        obtain ⟨T, hno⟩ := hC c hc C gc
        cases hl : fs.lookup f with
        | none => rw [hl] at p1; exact False.elim p1
        | some x =>
          rw [hl] at p1
          obtain ⟨y, hy, ry⟩ := hs.look hl
          obtain ⟨t1, ho⟩ := exo_at I1.hok hr
          obtain ⟨mA, hns, rel⟩ := exd_at I1.hok hx
          obtain ⟨od, hod, hlk⟩ := lookIn_ns hns
          have rl := rel f
          rw [hy] at rl
          obtain ⟨w, hw, rw'⟩ := RelO.some_of rl
          have J : PySem.W.InstAt s1.heap a { cls := .ref C, dict := some dx, data := .fields #[.ref t1, .none, .none, .none, .bool false, .none] } C (some od) := ⟨ho, rfl, rfl, hod⟩
          exact HandSPX.exc_get I1.kIn J T.ga T.gg T.sub (PySem.W.findObj_own T.hd hno rfl (by rw [hlk, hw])) (handed_of rw') ⟨y, W1.H, I1.tok _, rw', p1 W1 y .rfl' A1 ry⟩
    · rw [if_neg hc] at p1
      exact False.elim p1
  | _ => exact False.elim p1

/-! ### o[i] = e, o a list of the store -/
def gCell (go gi : Den) : DenG := fun d env st => match go env st with
  | .ok (.ref k) st1 => (match gi env st1 with
    | .ok (.int i) st2 => (match st2.m k with
      | some (.lst l) => (match ixN l.length i with | some j => .ok env (st2.set k (.lst (l.set j d))) | none => .bad)
      | _ => .bad)
    | _ => .bad)
  | _ => .bad
theorem dg_cell {gi : Den} {i : Expr} (ho : DE X G W0 o go) (hi : DE X G W0 i gi)
    (ha : ∀ v, assign (.Subscript o i pos) X.env v = (do
      let ov ← holding [v] (eval o X.env)
      let iv ← holding [v, ov] (eval i X.env)
      standAt pos
      holding [v, ov, iv] (setItem ov iv v)
      release [v, ov, iv] []) := by intro _; rfl) : DG X G (.Subscript o i pos) (gCell go gi) := ⟨(pg_sub ho.pe hi.pe set_list ha).imp fun v σ H Q q => by
  obtain ⟨W, env, d, st, rfl, A, re, rd, p⟩ := q
  unfold gCell at p
  refine ⟨W, env, st, rfl, A, re, ?_⟩
  cases h1 : go env st with
  | bad => rw [h1] at p; exact False.elim p
  | exc c fs st1 => rw [h1] at p; exact False.elim p
  | ok d1 st1 =>
    rw [h1] at p
    cases d1 with
    | ref k =>
      dsimp only at p
      intro W1 ov l1 A1 r1
      refine ⟨W1, env, st1, rfl, A1, re.up l1, ?_⟩
      cases h2 : gi env st1 with
      | bad => rw [h2] at p; exact False.elim p
      | exc c fs st2 => rw [h2] at p; exact False.elim p
      | ok d2 st2 =>
        rw [h2] at p
        cases d2 with
        | int i =>
          dsimp only at p
          intro W2 iv l2 A2 r2
          cases hm : st2.m k with
          | none => rw [hm] at p; exact False.elim p
          | some mo =>
            rw [hm] at p
            cases mo with
            | lst l =>
              dsimp only at p
              cases hj : ixN l.length i with
              | none => rw [hj] at p; exact False.elim p
              | some j =>
                rw [hj] at p
                obtain ⟨b, eb, nf, rm⟩ := A2.obj _ _ hm
                have r1' := r1.up l2
                cases r1' with
                | @ref _ a hr =>
                  rw [hr] at eb
                  cases eb
                  cases r2
                  cases rm with
                  | @lst _ vs _ hl rs =>
                    have lw := Wd.le_wr (o := .lst (vs.set j v)) nf
                    refine ⟨_, vs, i, j, rfl, rfl, hl, by rw [← rs.length]; exact hj, ?_⟩
                    have l02 := (l1.trans l2).trans lw
                    exact p _ σ l02 (A2.wr hm hr (.lst upd_same (RelDs.set (rd.up l02) j (rs.up lw)))) (re.up l02)
            | _ => exact False.elim p
        | _ => exact False.elim p
    | _ => exact False.elim p⟩

/-! ### a[lo:hi] of a list -/
def pInt : D → Sto → Out (Option Int) := fun d st => match d with | .int i => .ok (some i) st | _ => .bad
def dPart : Option Den → DEnv → Sto → Out (Option Int)
  | none, _, st => .ok none st
  | some g, env, st => (g env st).bind pInt
def PostP (K : PySem.W.Frag) (G : CG) (W : Wd) (xw : XK) (o : Out (Option Int)) (Q : Option Int → Hp → Prop) : Prop := match o with
  | .ok o st1 => ∀ W', W.le W' → Abs K G W' st1 → Q o W'.H
  | .exc c fs st1 => XcOk K G W xw c fs st1
  | .bad => False
structure DP (X : Cx) (G : CG) (wx : WX) (e : Option Expr) (g : Option Den) : Prop where
  po : ∃ t, PO X e t ∧ ∀ σ H Q, (∃ W env st, W.H = H ∧ Abs X.K G W st ∧ REnv X.K G W env σ ∧ PostP X.K G W (fun cls d H => wx cls d σ H) (dPart g env st) Q) → t σ H Q
theorem dp_none : DP X G wx none none := ⟨_, po_none, fun σ H Q q => by
  obtain ⟨W, env, st, rfl, A, re, p⟩ := q
  exact p W .rfl' A⟩
theorem dp_some (h : DE X G wx e ga) : DP X G wx (some e) (some ga) := ⟨_, po_some h.pe, fun σ H Q q => by
  obtain ⟨W, env, st, rfl, A, re, p⟩ := q
  refine ⟨W, env, st, rfl, A, re, ?_⟩
  have p' : PostP X.K G W (fun cls d H => wx cls d σ H) ((ga env st).bind pInt) Q := p
  cases hg : ga env st with
  | bad => rw [hg] at p'; exact p'
  | exc c fs st1 => rw [hg] at p'; exact p'
  | ok d st1 =>
    rw [hg] at p'
    cases d with
    | int i =>
      intro W' v l a r
      cases r
      exact ⟨i, rfl, p' W' l a⟩
    | _ => exact False.elim p'⟩
def cutD (ds : List D) (lo hi : Option Int) : List D := (ds.drop (HT.sIx ds.length 0 lo)).take (HT.sIx ds.length ds.length hi - HT.sIx ds.length 0 lo)
def fSl (d : D) (l h : Option Int) (st : Sto) : Out D := match d with
  | .lst ds => .ok (.lst (cutD ds l h)) st
  | _ => .bad
def dSlice (g : Den) (lo hi : Option Den) : Den := fun env st => (g env st).bind fun d st1 => (dPart lo env st1).bind fun l st2 => (dPart hi env st2).bind fun h st3 => fSl d l h st3
theorem RelDs.cut {K : PySem.W.Frag} {W : Wd} {ds : List D} {vs : List V} (r : RelDs K G W ds vs) (lo hi : Option Int) : RelDs K G W (cutD ds lo hi) (cutV vs lo hi) := by
  unfold cutD cutV
  rw [r.length]
  exact (r.drop _).take _
theorem de_slice {lo hi : Option Expr} {gl gh : Option Den} {p2 : Pos} (h : DE X G wx e ga) (hl : DP X G wx lo gl) (hh : DP X G wx hi gh) : DE X G wx (.Subscript e (.Slice lo hi none p2) pos) (dSlice ga gl gh) := by
  obtain ⟨tl, pl, il⟩ := hl.po
  obtain ⟨th, ph, ih⟩ := hh.po
  refine ⟨(pe_slice sl_list h.pe pl ph).imp fun σ H Q q => ?_⟩
  obtain ⟨W, env, st, rfl, A, re, p⟩ := q
  refine ⟨W, env, st, rfl, A, re, Post.bind p fun d st1 W1 v _ l1 A1 r1 p1 => ?_⟩
  refine il σ _ _ ⟨W1, env, st1, rfl, A1, re.up l1, ?_⟩
  cases h1 : dPart gl env st1 with
  | bad => rw [h1] at p1; exact p1
  | exc c fs st2 => rw [h1] at p1; exact p1
  | ok lv st2 =>
    rw [h1] at p1
    intro W2 l2 A2
    refine ih σ _ _ ⟨W2, env, st2, rfl, A2, (re.up l1).up l2, ?_⟩
    have p2 : Post X.K G W2 (fun cls d H => wx cls d σ H) ((dPart gh env st2).bind fun h st3 => fSl d lv h st3) Q := Post.up p1 l2
    cases h2 : dPart gh env st2 with
    | bad => rw [h2] at p2; exact p2
    | exc c fs st3 => rw [h2] at p2; exact p2
    | ok hv st3 =>
      rw [h2] at p2
      intro W3 l3 A3
      have p3 : Post X.K G W3 (fun cls d H => wx cls d σ H) (fSl d lv hv st3) Q := Post.up p2 l3
      cases d with
      | lst ds =>
        obtain ⟨a, vs, rfl, hf, hr, rs⟩ := ((r1.up l2).up l3).sq_lst
        refine ⟨a, vs, rfl, .inl (.inl hr), fun q hq => ?_⟩
        have le := Wd.le_put (o := .lst (cutV vs lv hv)) A3 hq
        exact p3 (W3.put q (.lst (cutV vs lv hv))) (.ref q) le (A3.put hq) (.lst (.inr rfl) upd_same ((rs.cut lv hv).up le))
      | _ => exact False.elim p3

/-! ### enumerate, zip -/
def enumD : Nat → List D → List D
  | _, [] => []
  | i, d :: ds => .tup [.int (i : Nat), d] :: enumD (i + 1) ds
theorem enumD_get : ∀ {ds : List D} {k i : Nat} {d : D}, ds[i]? = some d → (enumD k ds)[i]? = some (.tup [.int ((k + i : Nat) : Int), d])
  | [], _, _, _, h => by simp at h
  | x :: ds, k, 0, d, h => by simp at h; subst h; simp [enumD]
  | x :: ds, k, i + 1, d, h => by
    have h' : ds[i]? = some d := by simpa using h
    have e := enumD_get (k := k + 1) h'
    simp only [enumD, List.getElem?_cons_succ]
    rw [e]
    have : k + 1 + i = k + (i + 1) := by omega
    rw [this]
theorem enumD_len : ∀ (ds : List D) (k : Nat), (enumD k ds).length = ds.length
  | [], _ => rfl
  | _ :: ds, k => by simp [enumD, enumD_len ds (k + 1)]
def zipD : List D → List D → List D
  | a :: as, b :: bs => .tup [a, b] :: zipD as bs
  | _, _ => []
theorem zipD_len : ∀ (as bs : List D), (zipD as bs).length = min as.length bs.length
  | [], _ => by simp [zipD]
  | _ :: _, [] => by simp [zipD]
  | _ :: as, _ :: bs => by simp [zipD, zipD_len as bs]
theorem zipD_get : ∀ {as bs : List D} {i : Nat} {a b : D}, as[i]? = some a → bs[i]? = some b → (zipD as bs)[i]? = some (.tup [a, b])
  | [], _, _, _, _, h, _ => by simp at h
  | _ :: _, [], _, _, _, _, h => by simp at h
  | x :: as, y :: bs, 0, a, b, h, h' => by simp at h h'; subst h; subst h'; simp [zipD]
  | x :: as, y :: bs, i + 1, a, b, h, h' => by
    simp only [zipD, List.getElem?_cons_succ]
    exact zipD_get (by simpa using h) (by simpa using h')
/-- a new pair -/
theorem pair_yield {K : PySem.W.Frag} {W2 : Wd} {st : Sto} {T : Addr} {d e : D} {x y : V} (A : Abs K G W2 st) (hT : W2.H T = none) (rx : RelD K G W2 d x) (ry : RelD K G W2 e y) :
    W2.le (W2.put T (.tup [x, y])) ∧ Abs K G (W2.put T (.tup [x, y])) st ∧ RelD K G (W2.put T (.tup [x, y])) (.tup [d, e]) (.ref T) := by
  have l := Wd.le_put (o := .tup [x, y]) A hT
  exact ⟨l, A.put hT, .tup (.inr rfl) upd_same (.cons (rx.up l) (.cons (ry.up l) .nil))⟩
theorem iter_enum {K : PySem.W.Frag} {W : Wd} {p : Addr} {vs : List V} {ds : List D} (q : ∀ W2, W.lf W2 → SqL K W2.H p vs) (rs : RelDs K G W ds vs) : IterOk K G W (Ite K p) (enumD 0 ds) := by
  have w := walk_enum (K := K) (a := p) (xs := vs)
  refine ⟨fun i W2 hi l => w.goes i W2.H (by rw [← rs.length, ← enumD_len ds 0]; exact hi) (q W2 l), fun W2 l => by rw [enumD_len, rs.length]; exact w.stops W2.H (q W2 l), fun i W2 st x H' hi l a y => ?_⟩
  obtain ⟨T, x1, x2, rfl, hT, rfl, e1, e2⟩ := w.yields i W2.H x H' (by rw [← rs.length, ← enumD_len ds 0]; exact hi) (q W2 l) y
  obtain ⟨d, h1, h2⟩ := rs.getV e2
  cases e1
  obtain ⟨k1, k2, k3⟩ := pair_yield a hT (.int ((i : Nat) : Int)) (h2.uf l)
  exact ⟨_, _, k1, rfl, k2, by have e := enumD_get (k := 0) h1; rw [Nat.zero_add] at e; exact e, k3⟩
def iEnumD (g : DenA) : DenA := fun env st => (g env st).bind fun ds st1 => match ds with
  | [.lst l] => .ok (enumD 0 l) st1
  | [.rdl l] => .ok (enumD 0 l) st1
  | _ => .bad
theorem PostA.bindI {K : PySem.W.Frag} {W : Wd} {xw : XK} {o : Out (List D)} {k : List D → Sto → Out (List D)} {R : It → Hp → Prop} {Q' : List V → Hp → Prop} (p : PostI K G W xw (o.bind k) R)
    (h : ∀ d st W' v, o = .ok d st → W.le W' → Abs K G W' st → RelDs K G W' d v → PostI K G W xw (k d st) R → Q' v W'.H) : PostA K G W xw o Q' := by
  cases o with
  | bad => exact p
  | ok d st => exact fun W' v l a r => h d st W' v rfl l a r p
  | exc c fs st => exact p
theorem di_enum {g : DenA} {p tpos : Pos} {elts : List Expr} {kk : Nat} (hg : Gl X "enumerate") (hm : X.mg "enumerate" = none) (ha : DA X G wx [e] g) (hs : starEach [e] X.env = [(false, eval e X.env)] := by rfl) :
    DI X G wx (.Tuple elts kk tpos) (.Call (.Name "enumerate" p) [e] [] pos) (iEnumD g) := ⟨(pi_enum hg hm ha.pa hs).imp fun σ H R q => by
  obtain ⟨W, env, st, rfl, A, re, p⟩ := q
  refine ⟨W, env, st, rfl, A, re, PostA.bindI p fun ds st1 W1 vs _ l1 A1 r1 p1 => ?_⟩
  split at p1
  · obtain ⟨v, rfl, ro⟩ := r1.one
    obtain ⟨a, us, rfl, hf, hr, rs⟩ := ro.sq_lst
    exact ⟨a, us, rfl, .inl (.inl hr), p1 W1 _ l1 A1 (iter_enum (fun W2 l => .inl (.inl ((l.h _ hf).trans hr))) rs)⟩
  · obtain ⟨v, rfl, ro⟩ := r1.one
    obtain ⟨a, us, rfl, hr, rs⟩ := ro.sq_rdl
    exact ⟨a, us, rfl, hr W1 (Wd.le.lf .rfl'), p1 W1 _ l1 A1 (iter_enum hr rs)⟩
  · exact False.elim p1⟩
theorem iter_zip {K : PySem.W.Frag} {W : Wd} {a b : Addr} {vs us : List V} {ds es : List D} (q : ∀ W2, W.lf W2 → SqL K W2.H a vs ∧ SqL K W2.H b us) (rs : RelDs K G W ds vs) (ss : RelDs K G W es us) : IterOk K G W (Itz K a b) (zipD ds es) := by
  have hn : (zipD ds es).length = min vs.length us.length := by rw [zipD_len, rs.length, ss.length]
  have w := walk_zip (K := K) (a := a) (b := b) (xs := vs) (ys := us) (n := (zipD ds es).length) hn
  refine ⟨fun i W2 hi l => w.goes i W2.H hi (q W2 l), fun W2 l => w.stops W2.H (q W2 l), fun i W2 st x H' hi l a y => ?_⟩
  obtain ⟨T, x1, x2, rfl, hT, rfl, e1, e2⟩ := w.yields i W2.H x H' hi (q W2 l) y
  obtain ⟨d, h1, h2⟩ := rs.getV e1
  obtain ⟨e, h3, h4⟩ := ss.getV e2
  obtain ⟨k1, k2, k3⟩ := pair_yield a hT (h2.uf l) (h4.uf l)
  exact ⟨_, _, k1, rfl, k2, zipD_get h1 h3, k3⟩
theorem iter_zipT {K : PySem.W.Frag} {W : Wd} {a b : Addr} {vs us : List V} {ds es : List D} (q : ∀ W2, W.lf W2 → SqT K W2.H a vs ∧ SqT K W2.H b us) (rs : RelDs K G W ds vs) (ss : RelDs K G W es us) : IterOk K G W (ItzT K a b) (zipD ds es) := by
  have hn : (zipD ds es).length = min vs.length us.length := by rw [zipD_len, rs.length, ss.length]
  refine ⟨fun i W2 hi l => ?_, fun W2 l => ?_, fun i W2 st x H' hi l a y => ?_⟩
  · rw [hn] at hi
    exact ⟨vs, us, vs[i]'(by omega), us[i]'(by omega), (q W2 l).1, (q W2 l).2, List.getElem?_eq_getElem (by omega), List.getElem?_eq_getElem (by omega)⟩
  · exact ⟨vs, us, (q W2 l).1, (q W2 l).2, by omega⟩
  · obtain ⟨T, x1, x2, rfl, hT, rfl, e1, e2⟩ := y
    obtain ⟨d, h1, h2⟩ := rs.getV (e1 _ (q W2 l).1)
    obtain ⟨e, h3, h4⟩ := ss.getV (e2 _ (q W2 l).2)
    obtain ⟨k1, k2, k3⟩ := pair_yield a hT (h2.uf l) (h4.uf l)
    exact ⟨_, _, k1, rfl, k2, zipD_get h1 h3, k3⟩
def iZipD (g : DenA) : DenA := fun env st => (g env st).bind fun ds st1 => match ds with
  | [.lst l, .lst m] => .ok (zipD l m) st1
  | [.tup l, .tup m] => .ok (zipD l m) st1
  | _ => .bad
theorem RelDs.two {K : PySem.W.Frag} {W : Wd} {d d' : D} {vs : List V} (r : RelDs K G W [d, d'] vs) : ∃ v v', vs = [v, v'] ∧ RelD K G W d v ∧ RelD K G W d' v' := by
  cases r with
  | cons r t =>
    obtain ⟨v', rfl, r'⟩ := t.one
    exact ⟨_, _, rfl, r, r'⟩
theorem di_zip {e2 : Expr} {g : DenA} {p tpos : Pos} {elts : List Expr} {kk : Nat} (hg : Gl X "zip") (hm : X.mg "zip" = none) (ha : DA X G wx [e, e2] g)
    (hs : starEach [e, e2] X.env = (false, eval e X.env) :: starEach [e2] X.env := by rfl) (hpl : (backTo pos (starEach [e2] X.env)).any (·.1) = false := by rfl) :
    DI X G wx (.Tuple elts kk tpos) (.Call (.Name "zip" p) [e, e2] [] pos) (iZipD g) := ⟨(pi_zipA hg hm ha.pa hs hpl).imp fun σ H R q => by
  obtain ⟨W, env, st, rfl, A, re, p⟩ := q
  refine ⟨W, env, st, rfl, A, re, PostA.bindI p fun ds st1 W1 vs _ l1 A1 r1 p1 => ?_⟩
  split at p1
  · obtain ⟨v, v', rfl, r2, r3⟩ := r1.two
    obtain ⟨a, us, rfl, hf, hr, rs⟩ := r2.sq_lst
    obtain ⟨b, ws, rfl, hg, hr', ss⟩ := r3.sq_lst
    exact ⟨a, b, us, ws, rfl, .inl ⟨.inl (.inl hr), .inl (.inl hr'), p1 W1 _ l1 A1 (iter_zip (fun W2 l => ⟨.inl (.inl ((l.h _ hf).trans hr)), .inl (.inl ((l.h _ hg).trans hr'))⟩) rs ss)⟩⟩
  · obtain ⟨v, v', rfl, r2, r3⟩ := r1.two
    obtain ⟨a, us, rfl, hr, rs⟩ := r2.sq_tup
    obtain ⟨b, ws, rfl, hr', ss⟩ := r3.sq_tup
    exact ⟨a, b, us, ws, rfl, .inr ⟨hr W1 (Wd.le.lf .rfl'), hr' W1 (Wd.le.lf .rfl'), p1 W1 _ l1 A1 (iter_zipT (fun W2 l => ⟨hr W2 l, hr' W2 l⟩) rs ss)⟩⟩
  · exact False.elim p1⟩
end
end DL

set_option Elab.async false
set_option linter.all false
set_option maxRecDepth 100000
/-! # DCmp: own __eq__ under == and !=, own __bool__ -/
namespace PySem
namespace DLX
open PySem.W PySem.Calls PyProof.Rows
section
variable {prog : Program} {w : World} {A : Around} {E : Value → Shared → Prop} {s : Shared} {K : Frag} {x y C Cy L f : Addr} {h₀ : Heap} {m : Str → Option Value} {ox oy : Obj} {od oe : Option Obj} {b tb : Value}
/-- the right one's class lies below the left one's: it is asked first -/
theorem cmp_right {Q : Value → Shared → Prop} (hu : A.units < cLine) (FR : Fr h₀ L s.heap m) (X₀ : K.In h₀) (I : W.InstAt s.heap x ox C od) (J : W.InstAt s.heap y oy Cy oe) (hne : Cy ≠ C) (hsub : subIn K (.ref Cy) (.ref C) = some true)
    (hs : findIn K (.ref Cy) "__eq__" = some (some (.ref f))) (hf : isFn K (.ref f) = true)
    (h : wpAny (model prog w) A (call (.ref f) [.ref y, .ref x]) (W.CmpBack Q) E s) : wpAny (model prog w) A (richCompare .Eq (.ref x) (.ref y)) Q E s := by
  have X := X₀.keeps FR.keep
  have one : wpAny (model prog w) A (tryCompare (.ref y) "__eq__" (.ref x)) (fun r s' => ∃ v, r = some v ∧ Q v s') E s := by
    unfold tryCompare
    refine wpAny_bind (ifBound_K X J hs hf (wpAny_mono h (fun v s' hv => ?_) fun _ _ e => e))
    cases v <;> first | exact hv.elim | exact wpAny_pure ⟨_, rfl, hv⟩
  unfold richCompare
  simp only [oneThing_ref]
  refine wpAny_holding (wpAny_bind (wpAny_cRoomFor hu ?_))
  refine wpAny_bind (I.type.here (wpAny_bind (J.type.here ?_)))
  rw [if_pos (show (Value.ref C != Value.ref Cy) = true by simp [Ne.symm hne])]
  refine wpAny_bind ((looks_subIn X hsub).here ?_)
  simp only [if_true]
  refine wpAny_bind (wpAny_mono one (fun r s' z => ?_) fun _ _ e => e)
  obtain ⟨v, rfl, hq⟩ := z
  exact wpAny_bind (wpAny_rule (wpAny_pure hq))
/-- x != b, the class has an own __eq__ and object's __ne__ -/
theorem cmp_ne {Q : Value → Shared → Prop} (hu : A.units + 2 < cLine) (FR : Fr h₀ L s.heap m) (X₀ : K.In h₀) (I : W.InstAt s.heap x ox C od) (hb : Looks (model prog w) s.heap (typeOf b) tb) (hn : notFirst K C tb = true)
    (hne : findIn K (.ref C) "__ne__" = some (some (.builtin "object.__ne__"))) (ho : mroIn K C (.type "object") = some true)
    (hs : findIn K (.ref C) "__eq__" = some (some (.ref f))) (hf : isFn K (.ref f) = true)
    (h : wpAny (model prog w) A.in1 (call (.ref f) [.ref x, b]) (fun v s' => ∃ k, v = .bool k ∧ Q (.bool (!k)) s') E s) : wpAny (model prog w) A (richCompare .NotEq (.ref x) b) Q E s := by
  have X := X₀.keeps FR.keep
  have sub : Looks (model prog w) s.heap (isInstance (.ref x) (.type "object")) true := I.type.andThen (looks_mroIn X ho)
  have one : wpAny (model prog w) A (tryCompare (.ref x) "__ne__" b) (fun r s' => ∃ v, r = some v ∧ Q v s') E s := by
    unfold tryCompare callSpecialIfBound? bindSpecialIfBound?
    refine wpAny_bind (wpAny_holding (wpAny_bind (wpAny_bind (wpAny_bind (I.type.here ((looks_findIn X hne).here ?_))))))
    have fin : wpAny (model prog w) A (call (.builtin "object.__ne__") ([.ref x] ++ [b])) (fun v s' => ∃ k, v = .bool k ∧ Q v s') E s := by
      refine wpAny_call (codeAny_call_builtin F.cmp_object.ne.plain F.cmpEntry_ne (check_slot F.cmpKind_ne F.cmpSplit_ne sub (F.cmpArgs_ne (.ref x) b) ?_))
      unfold Builtin.«object.__ne__»
      refine wpAny_bind (wpAny_of_eq (a := ((Value.ref x : Value), [b])) (by first | rfl | (simp only [slotArgs]; rfl)) ?_)
      refine wpAny_bind (wpAny_cRoomFor (by show A.units + 1 < cLine; omega) ?_)
      refine wpAny_bind (ifBound_K X I hs hf (wpAny_mono h (fun v s' hv => ?_) fun _ _ e => e))
      obtain ⟨k, rfl, hq⟩ := hv
      refine wpAny_bind (wpAny_truthy_bool ?_)
      exact wpAny_pure ⟨_, rfl, hq⟩
    simp only [F.cmp_object.ne.bind]
    refine wpAny_bind (wpAny_askSetting (wpAny_ite ?_))
    split
    · refine wpAny_bind (wpAny_pure (wpAny_pure ?_))
      refine wpAny_bind (wpAny_mono fin (fun v s' hv => wpAny_pure ?_) fun _ _ e => e)
      obtain ⟨k, rfl, hq⟩ := hv
      exact wpAny_pure ⟨_, rfl, hq⟩
    · refine wpAny_tryCatch (wpAny_bind (wpAny_pure (wpAny_pure ?_)))
      refine wpAny_bind (wpAny_mono fin (fun v s' hv => wpAny_pure ?_) fun _ _ e => e)
      obtain ⟨k, rfl, hq⟩ := hv
      exact wpAny_pure ⟨_, rfl, hq⟩
  unfold richCompare
  simp only [oneThing_ref]
  refine wpAny_holding (wpAny_bind (wpAny_cRoomFor (by omega) ?_))
  refine wpAny_bind (I.type.here (wpAny_bind (hb.here ?_)))
  split
  · rename_i q
    have e : subIn K tb (.ref C) = some false := by
      rcases Bool.or_eq_true_iff.mp hn with e | e
      · rw [beq_iff_eq.mp e] at q; simp at q
      · exact beq_iff_eq.mp e
    refine wpAny_bind ((looks_subIn X e).here ?_)
    simp only [Bool.false_eq_true, if_false]
    refine wpAny_bind (wpAny_mono one (fun r s' z => ?_) fun _ _ e => e)
    obtain ⟨v, rfl, hq⟩ := z
    exact wpAny_pure hq
  · refine wpAny_bind (wpAny_pure ?_)
    simp only [Bool.false_eq_true, if_false]
    refine wpAny_bind (wpAny_mono one (fun r s' z => ?_) fun _ _ e => e)
    obtain ⟨v, rfl, hq⟩ := z
    exact wpAny_pure hq
end
end DLX
end PySem

set_option Elab.async false
set_option linter.all false
set_option maxRecDepth 100000
/-! # DCmp2: bool(o) by an own __bool__; C.__name__ of an own class -/
namespace PySem
namespace DLX
open PySem.W PySem.Calls PyProof.Rows Builtin Builtin.Getset_descriptor
section
variable {prog : Program} {w : World} {A : Around} {E : Value → Shared → Prop} {s : Shared}
theorem bool_new_meets (x : Addr) : MeetsIn prog w (Builtin.«bool.__new__» ⟨[.type "bool", .ref x], []⟩)
    (fun A R s => wpAny (model prog w) A.in1 (truthy (.ref x)) (fun b s' => R (.ok (.ret (.bool b))) s') (fun e s' => R (.error e) s') s) :=
  .of_wp fun A R s h => by
    have f1 := F.conv_sub_bool
    obtain ⟨hp, g, d, tk, os⟩ := s
    repeat (any_goals (first | assumption | (with_reducible refine wpAny_bind (m := truthy (.ref x)) (wpAny_mono h (fun b s' z => ?_) fun _ _ z => z)) | wp_step))
    all_goals first | exact ⟨_, rfl, z⟩ | skip
theorem call_bool_own {x : Addr} {Q : Value → Shared → Prop} (h : wpAny (model prog w) A.in1.in1 (truthy (.ref x)) (fun b s' => Q (.bool b) s') E s) : wpAny (model prog w) A (call (.type "bool") [.ref x]) Q E s :=
  callType_newIn F.called_bool F.newNe_bool (F.typeCall_bool_1 _) (F.newCall_bool_1 _) (fun obj => F.args_object_init_2 obj _) F.entry_bool_new (bool_new_meets x) (wpAny_mono h (fun b s' z => ⟨rfl, z⟩) fun _ _ z => z)
end
theorem nm_dga (d tp : Value) (C : Addr) : descrGetArgs ⟨[d, .ref C, tp], []⟩ = pure (d, some (.ref C), given tp) := by kernel_rfl
section
variable {prog : Program} {w : World} {A : Around} {E : Value → Shared → Prop} {s : Shared} {K : Frag} {R : Result → Shared → Prop} {C : Addr} {oC : Obj} {nv mc : Value}
theorem name_get {tp : Value} (hC : s.heap.get? C = some oC) (hcls : oC.cls = .type "type") (hnm : oC.slots[2]? = some (some nv)) (h : R (.ok (.ret nv)) s) :
    codeAny (model prog w) A (.call (.builtin "getset_descriptor.__get__") ⟨[.builtin "type.__name__", .ref C, tp], []⟩) R s := by
  obtain ⟨hh, g, dr, t, os⟩ := s
  have L0 : Looks (model prog w) hh (typeOf (.ref C)) (.type "type") := by
    have z : Looks (model prog w) hh (typeOf (.ref C)) oC.cls := (Looks.ld hC).andThen .now
    rw [hcls] at z
    exact z
  have L1 : Looks (model prog w) hh (isSubtype (.type "type") (.type "type")) true := Looks.of_pure (by rw [isSubtype_type]; kernel_rfl)
  refine codeAny_call_builtin KF.slot_gs.plain KF.entry_gs (KF.slot_gs.check _ _ _ _ _ _ _ _ ktyn_type (KF.args_gs _ _ _) ?_)
  unfold Builtin.«getset_descriptor.__get__» descrGet
  rw [nm_dga]
  refine wpAny_bind (wpAny_pure ?_)
  unfold descrGetter descrCheckInstance descrNameAndClass isInstance
  simp only [ktyn_owner]
  repeat lk
  refine ⟨Code.quiet_builtin _ (by decide +kernel), codeAny_builtin ktyn_entry ?_⟩
  unfold Builtin.«type.__name__» keptObject slotAt
  dsimp only
  repeat (first | (with_reducible refine wpAny_loadPart_at hC ?_) | wp_step)
  rw [hnm]
  repeat wp_step
  exact h
end
end DLX
end PySem

set_option Elab.async false
set_option linter.all false
set_option maxRecDepth 100000
/-! # DOwn: ==, !=, bool of own instances, over data -/
namespace DL
open PySem PySem.Spec PyProof.Rows L2

/-- whether a class lies below an own one -/
def SubOk (K : PySem.W.Frag) (G : CG) (SB : TK → String → Option Bool) : Prop := ∀ k c b, SB k c = some b → ∀ u C, TyN G k u → G c = some C → PySem.W.subIn K u (.ref C) = some b
structure EqK (K : PySem.W.Frag) (C f : Addr) : Prop where
  ins : InsK K C
  eq : PySem.W.findIn K (.ref C) "__eq__" = some (some (.ref f))
  fn : PySem.W.isFn K (.ref f) = true
  ne : PySem.W.findIn K (.ref C) "__ne__" = some (some (.builtin "object.__ne__"))
def sameTK (k : TK) (c : String) : Bool := decide (k = .own c)
/-- o == x (neg: o != x), o an instance of one of the classes cs, whose __eq__ is fn -/
def fOwn (N : Known) (SB : TK → String → Option Bool) (cs : List String) (fn : List D → Sto → Out D) (neg : Bool) : F2 := fun d e st => match d with
  | .ins c _ => if c ∈ cs then (match tyD N e st with
    | none => .bad
    | some k => if (sameTK k c || SB k c == some false) = true then ((fn [d, e] st).nox.bind fun r st1 => match r with | .bl b => .ok (.bl (if neg = true then !b else b)) st1 | _ => .bad)
      else if neg = false ∧ SB k c = some true then (match e with
        | .ins c2 _ => if c2 ∈ cs ∧ c2 ≠ c then ((fn [e, d] st).nox.bind fun r st1 => match r with | .bl b => .ok (.bl b) st1 | _ => .bad) else .bad
        | _ => .bad)
      else .bad) else .bad
  | _ => .bad
theorem nox_nox {α β : Type} {o : Out α} {k : α → Sto → Out β} (h : ∀ a st c fs st', k a st ≠ .exc c fs st') : ∀ c fs st', (o.nox.bind k) ≠ .exc c fs st' := fun c fs st' q => by
  cases o with
  | bad => cases q
  | ok a st => exact h _ _ _ _ _ q
  | exc c fs st => cases q
theorem nox_own {N : Known} {SB : TK → String → Option Bool} {cs : List String} {fn : List D → Sto → Out D} {neg : Bool} : NoX2 (fOwn N SB cs fn neg) := fun d e st c fs st' q => by
  unfold fOwn at q
  split at q
  · split at q
    · split at q
      · cases q
      · split at q
        · exact nox_nox (fun r st1 c fs st' z => by split at z <;> cases z) _ _ _ q
        · split at q
          · split at q
            · split at q
              · exact nox_nox (fun r st1 c fs st' z => by split at z <;> cases z) _ _ _ q
              · cases q
            · cases q
          · cases q
    · cases q
  · cases q
section
variable {X : Cx} {G : CG} {N : Known} {SB : TK → String → Option Bool} {cs : List String} {fn : List D → Sto → Out D} {k : Nat} {f : Addr}
/-- the own __eq__ runs, at any place of the same frames -/
theorem run_two {pins : List (Addr × Obj)} {σ : L2.St} {s : Shared} {W : Wd} {st : Sto} {ds : List D} {vs : List V} {us : List Value} {A : Around} {E : Value → Shared → Prop} {Q : VK} {n : Nat} (F : FnB X.prog X.w X.K X.mg X.base (L2.CX X.prog X.w) k f n [] (spD X.K G fn)) (hr : Room k A) (hfr : A.frames = X.A.frames)
    (I : Inv X pins σ W.H s) (AA : Abs X.K G W st) (rd : RelDs X.K G W ds vs) (rv : Vals vs us) (hn : us.length = n) (p : Post X.K G W E0 (fn ds st) Q) : wpAny (model X.prog X.w) A (call (.ref f) us) (EP X pins σ Q) E s := by
  have e0 : Env0 X.prog X.w X.K X.mg X.base A X.stack s W.H := by
    have e := I.env0
    exact ⟨by rw [hfr]; exact e.frames, e.mod, e.bs, e.bsz, e.funs, e.frf, e.hok, e.bare⟩
  refine wpAny_call (codeAny_mono (F A X.stack s W.H us [] vs Q E0 hr e0 hn rfl (by rw [List.append_nil]; exact rv) ⟨W, ds, st, rfl, AA, rd, p⟩) fun r s' hq => ?_)
  cases r with
  | error e =>
    obtain ⟨_, _, _, _, _, _, _, _, _, _, _, _, z⟩ := hq
    exact z.elim
  | ok fl =>
    cases fl with
    | ret u => exact I.after hq
    | _ => exact False.elim hq
theorem Post.nox0 {K : PySem.W.Frag} {W : Wd} {xw : XK} {o : Out D} {g : D → Sto → Out D} {Q Q' : VK} (p : Post K G W xw (o.nox.bind g) Q)
    (h : ∀ d st W' v, o = .ok d st → W.le W' → Abs K G W' st → RelD K G W' d v → Post K G W' xw (g d st) Q → Q' v W'.H) : Post K G W E0 o Q' := by
  cases o with
  | bad => exact False.elim p
  | ok d st => exact fun W' v l a r => h d st W' v rfl l a r (Post.up p l)
  | exc c fs st => exact False.elim p
theorem o_own {neg : Bool} {op : CmpOp} (hop : op = if neg = true then .NotEq else .Eq) (hN : KnownK X.K G N) (hS : SubOk X.K G SB) (hC : ∀ c ∈ cs, ∀ C, G c = some C → EqK X.K C f) (hinj : ∀ c c2 C, G c = some C → G c2 = some C → c = c2)
    (F : FnB X.prog X.w X.K X.mg X.base (L2.CX X.prog X.w) k f 2 [] (spD X.K G fn)) (hr : Room (k + 1) X.A) : OpR X (compareOp op) (r2 X.K G (fOwn N SB cs fn neg)) := by
  intro pins s σ H x y v u Q I rx ry q
  obtain ⟨W, d, e, st, rfl, A, r1, r2, p⟩ := q
  have hu : X.A.units + 2 < cLine := by have := hr.un; omega
  unfold fOwn at p
  split at p
  · rename_i c fs
    split at p
    · rename_i hc
      split at p
      · exact False.elim p
      · rename_i tk htk
        cases r1 with
        | @ins _ _ gs a C dx hf gc ha hs =>
          cases (show v = Value.ref a from rx)
          have T := hC c hc C gc
          have r1 : RelD X.K G W (.ins c fs) (.ref a) := .ins hf gc ha hs
          obtain ⟨t, P, hty, Z, hp, hx⟩ := kit_D hN I A r2 ry htk
          obtain ⟨mA, J, _⟩ := ins_get I.hok ha
          obtain ⟨od, J, _⟩ := J.look
          obtain ⟨m, FR⟩ := I.fr
          have LT := Z.ty (model X.prog X.w) s.heap I.kIn hp
          split at p
          · rename_i hfirst
            have nf : PySem.W.notFirst X.K C t = true := by
              unfold PySem.W.notFirst
              rcases Bool.or_eq_true_iff.mp hfirst with z | z
              · have e1 := of_decide_eq_true z
                subst e1
                cases hty with
                | own g =>
                  rw [gc] at g
                  cases g
                  rw [beq_self_eq_true, Bool.true_or]
              · rw [hS _ _ _ (beq_iff_eq.mp z) _ _ hty gc, beq_self_eq_true, Bool.or_true]
            cases neg with
            | false =>
              subst hop
              refine PySem.W.cmp_ofEq (PySem.W.cmp_K (op := .Eq) (tb := t) (by omega) FR I.ok.mod.kin J LT nf T.eq T.fn ?_)
              have post : Post X.K G W E0 (fn [.ins c fs, e] st) (fun z H1 => ∃ b, z = .bl b ∧ Q z H1) := Post.nox0 p fun r st1 W1 z _ l1 A1 rr p1 => by
                cases r with
                | bl b => cases rr; exact ⟨b, rfl, p1 W1 _ .rfl' A1 (.bl b)⟩
                | _ => exact False.elim p1
              refine thn (run_two (vs := [.ref a, y]) (us := [.ref a, u]) F (hr.mono (Nat.le_succ k)) rfl I A (.cons r1 (.cons r2 .nil)) (.cons rfl (.cons ry .nil)) rfl post) fun w s1 hw => ?_
              obtain ⟨z, H1, I1, rz, b, rfl, q1⟩ := hw
              cases (show w = Value.bool b from rz)
              exact ⟨.bl b, H1, I1, rfl, q1⟩
            | true =>
              subst hop
              refine PySem.W.cmp_ofNotEq (DLX.cmp_ne (tb := t) hu FR I.ok.mod.kin J LT nf T.ne T.ins.hm T.eq T.fn ?_)
              have post : Post X.K G W E0 (fn [.ins c fs, e] st) (fun z H1 => ∃ b, z = .bl b ∧ Q (.bl (!b)) H1) := Post.nox0 p fun r st1 W1 z _ l1 A1 rr p1 => by
                cases r with
                | bl b => cases rr; exact ⟨b, rfl, p1 W1 _ .rfl' A1 (.bl _)⟩
                | _ => exact False.elim p1
              refine thn (run_two (vs := [.ref a, y]) (us := [.ref a, u]) F hr.in1 rfl I A (.cons r1 (.cons r2 .nil)) (.cons rfl (.cons ry .nil)) rfl post) fun w s1 hw => ?_
              obtain ⟨z, H1, I1, rz, b, rfl, q1⟩ := hw
              cases (show w = Value.bool b from rz)
              exact ⟨b, rfl, .bl (!b), H1, I1, rfl, q1⟩
          · split at p
            · rename_i hb
              obtain ⟨hneg, hsb⟩ := hb
              subst hneg
              subst hop
              split at p
              · rename_i c2 fs2
                split at p
                · rename_i hc2
                  cases r2 with
                  | @ins _ _ gs2 a2 C2 dx2 hf2 gc2 ha2 hs2 =>
                    cases (show u = Value.ref a2 from ry)
                    have T2 := hC c2 hc2.1 C2 gc2
                    have r2 : RelD X.K G W (.ins c2 fs2) (.ref a2) := .ins hf2 gc2 ha2 hs2
                    have hCC : C2 ≠ C := fun z => hc2.2 (hinj c2 c C (by rw [← z]; exact gc2) gc)
                    have htk2 : tk = .own c2 := by
                      unfold tyD at htk
                      dsimp only at htk
                      split at htk
                      · cases htk; rfl
                      · cases htk
                    subst htk2
                    obtain ⟨mB, J2, _⟩ := ins_get I.hok ha2
                    obtain ⟨od2, J2, _⟩ := J2.look
                    refine PySem.W.cmp_ofEq (DLX.cmp_right (by omega) FR I.ok.mod.kin J J2 hCC (hS _ _ _ hsb _ _ (.own gc2) gc) T2.eq T2.fn ?_)
                    have post : Post X.K G W E0 (fn [.ins c2 fs2, .ins c fs] st) (fun z H1 => ∃ b, z = .bl b ∧ Q z H1) := Post.nox0 p fun r st1 W1 z _ l1 A1 rr p1 => by
                      cases r with
                      | bl b => cases rr; exact ⟨b, rfl, p1 W1 _ .rfl' A1 (.bl b)⟩
                      | _ => exact False.elim p1
                    refine thn (run_two (vs := [.ref a2, .ref a]) (us := [.ref a2, .ref a]) F (hr.mono (Nat.le_succ k)) rfl I A (.cons r2 (.cons r1 .nil)) (.cons rfl (.cons rfl .nil)) rfl post) fun w s1 hw => ?_
                    obtain ⟨z, H1, I1, rz, b, rfl, q1⟩ := hw
                    cases (show w = Value.bool b from rz)
                    exact ⟨.bl b, H1, I1, rfl, q1⟩
                · exact False.elim p
              · exact False.elim p
            · exact False.elim p
    · exact False.elim p
  · exact False.elim p

/-! ### truth, bool -/
/-- the own __bool__ of each class -/
def BoOk (X : Cx) (G : CG) (k : Nat) (BO : String → Option (List D → Sto → Out D)) : Prop := ∀ c fb, BO c = some fb → ∀ C, G c = some C → ∃ f, PySem.W.findIn X.K (.ref C) "__bool__" = some (some (.ref f)) ∧ PySem.W.isFn X.K (.ref f) = true ∧
  FnB X.prog X.w X.K X.mg X.base (L2.CX X.prog X.w) k f 1 [] (spD X.K G fb)
def truB (BO : String → Option (List D → Sto → Out D)) (d : D) (st : Sto) : Out Bool := match d with
  | .bl b => .ok b st
  | .ins c _ => (match BO c with
    | some fb => (fb [d] st).nox.bind fun r st1 => match r with | .bl b => .ok b st1 | _ => .bad
    | none => .bad)
  | _ => .bad
theorem truthy_own {BO : String → Option (List D → Sto → Out D)} (hB : BoOk X G k BO) {pins : List (Addr × Obj)} {σ : L2.St} {s : Shared} {W : Wd} {st : Sto} {c : String} {fs : List (Str × D)} {v : V} {u : Value} {A : Around} {E : Value → Shared → Prop} {Q : Bool → Hp → Prop} {fb : List D → Sto → Out D} (hb : BO c = some fb) (hr : Room k A) (hfr : A.frames = X.A.frames)
    (I : Inv X pins σ W.H s) (AA : Abs X.K G W st) (r : RelD X.K G W (.ins c fs) v) (rv : RelV v u) (p : PostB X.K G W E0 ((fb [.ins c fs] st).nox.bind fun r st1 => match r with | .bl b => .ok b st1 | _ => .bad) Q) :
    wpAny (model X.prog X.w) A (truthy u) (TP X pins σ Q) E s := by
  cases r with
  | @ins _ _ gs a C dx hf gc ha hs =>
    cases (show u = Value.ref a from rv)
    obtain ⟨f, h1, h2, F⟩ := hB c fb hb C gc
    obtain ⟨mA, J, _⟩ := ins_get I.hok ha
    obtain ⟨od, J, _⟩ := J.look
    obtain ⟨m, FR⟩ := I.fr
    have r1 : RelD X.K G W (.ins c fs) (.ref a) := .ins hf gc ha hs
    have post : Post X.K G W E0 (fb [.ins c fs] st) (fun z H1 => ∃ b, z = .bl b ∧ Q b H1) := by
      cases ho : fb [.ins c fs] st with
      | bad => rw [ho] at p; exact False.elim p
      | exc c' fs' st' => rw [ho] at p; exact False.elim p
      | ok r st1 =>
        rw [ho] at p
        cases r with
        | bl b =>
          intro W' v l a' rr
          cases rr
          exact ⟨b, rfl, p W' l a'⟩
        | _ => exact False.elim p
    refine PySem.W.truthy_K FR I.ok.mod.kin J h1 h2 (thn (run_two (vs := [.ref a]) (us := [.ref a]) F hr hfr I AA (.cons r1 .nil) (.cons rfl .nil) rfl post) fun w s1 hw => ?_)
    obtain ⟨z, H1, I1, rz, b, rfl, q1⟩ := hw
    cases (show w = Value.bool b from rz)
    exact ⟨H1, I1, q1⟩
def fBool (BO : String → Option (List D → Sto → Out D)) : List D → Sto → Out D := fun ds st => match ds with
  | [d] => (truB BO d st).bind fun b st1 => .ok (.bl b) st1
  | _ => .bad
theorem truB_nox {BO : String → Option (List D → Sto → Out D)} {d : D} {st : Sto} : ∀ c fs st', truB BO d st ≠ .exc c fs st' := fun c fs st' q => by
  unfold truB at q
  split at q
  · cases q
  · split at q
    · exact nox_nox (fun r st1 c fs st' z => by split at z <;> cases z) _ _ _ q
    · cases q
  · cases q
theorem nox_bool {BO : String → Option (List D → Sto → Out D)} : NoXN (fBool BO) := fun ds st c fs st' q => by
  unfold fBool at q
  split at q
  · rename_i d
    cases h : truB BO d st with
    | bad => rw [h] at q; cases q
    | ok b st1 => rw [h] at q; cases q
    | exc c2 fs2 st2 => exact truB_nox _ _ _ h
  · cases q
theorem c_bool {BO : String → Option (List D → Sto → Out D)} (hB : BoOk X G k BO) (hr : Room (k + 2) X.A) : CallR X (.type "bool") (rN X.K G (fBool BO)) := by
  intro pins s σ H xs us Q I rv q
  obtain ⟨W, ds, st, rfl, A, r, p⟩ := q
  unfold fBool at p
  split at p
  · rename_i d
    obtain ⟨v, rfl, ro⟩ := r.one
    obtain ⟨u, rfl, rv1⟩ := vals1 rv
    cases d with
    | bl b =>
      cases ro
      cases (show u = Value.bool b from rv1)
      exact call_bool_bool ⟨.bl b, W.H, I, rfl, p W _ .rfl' A (.bl b)⟩
    | ins c fs =>
      have p' : Post X.K G W (fun _ _ _ => False) ((truB BO (.ins c fs) st).bind fun b st1 => .ok (.bl b) st1) Q := p
      unfold truB at p'
      dsimp only at p'
      cases hb : BO c with
      | none => rw [hb] at p'; exact False.elim p'
      | some fb =>
        rw [hb] at p'
        dsimp only at p'
        obtain ⟨a, rfl⟩ : ∃ a, u = Value.ref a := by
          cases ro with
          | ins => exact ⟨_, rv1⟩
        refine DLX.call_bool_own (thn (truthy_own hB (Q := fun b H1 => Q (.bl b) H1) hb hr.in1.in1 rfl I A ro rv1 ?_) fun b s1 ⟨H1, I1, q1⟩ => ⟨.bl b, H1, I1, rfl, q1⟩)
        cases ho : fb [.ins c fs] st with
        | bad => rw [ho] at p'; exact False.elim p'
        | exc c' fs' st' => rw [ho] at p'; exact False.elim p'
        | ok rr st1 =>
          rw [ho] at p'
          cases rr with
          | bl b => exact fun W' l a' => p' W' _ l a' (.bl b)
          | _ => exact False.elim p'
    | _ => exact False.elim p
  · exact False.elim p
theorem db_tru {BO : String → Option (List D → Sto → Out D)} {wx : WX} {e : Expr} {g : Den} (hB : BoOk X G k BO) (hr : Room k X.A) (h : DE X G wx e g) (he : ∀ whole, isTrue e X.env whole = (do let v ← whole; standAt e.pos; holding [v] (truthy v)) := by intro _; rfl) :
    DB X G wx e (fun env st => (g env st).bind (truB BO)) := by
  refine ⟨⟨fun pins s σ H Q I q => ?_⟩⟩
  obtain ⟨W, env, st, rfl, A, re, p⟩ := q
  have key := h.pe.run pins s σ W.H (fun v H1 => ∃ (W1 : Wd) (d : D) (st1 : Sto), W1.H = H1 ∧ W.le W1 ∧ Abs X.K G W1 st1 ∧ RelD X.K G W1 d v ∧ PostB X.K G W1 (fun cls dd H => wx cls dd σ H) (truB BO d st1) Q) I ⟨W, env, st, rfl, A, re, Post.bindB p fun d st1 W1 v _ l1 A1 r1 p1 => ⟨W1, d, st1, rfl, l1, A1, r1, p1⟩⟩
  rw [he]
  refine wpAny_bind (thn key fun u s1 hh => wpAny_bind (wpAny_standAt (wpAny_holding ?_)))
  obtain ⟨v, H1, I1, rv, W1, d, st1, rfl, l1, A1, r1, p1⟩ := hh
  cases d with
  | bl b =>
    cases r1
    cases (show u = Value.bool b from rv)
    exact wpAny_truthy_bool ⟨W1.H, I1, p1 W1 .rfl' A1⟩
  | ins c fs =>
    unfold truB at p1
    dsimp only at p1
    cases hb : BO c with
    | none => rw [hb] at p1; exact False.elim p1
    | some fb =>
      rw [hb] at p1
      refine truthy_own hB hb hr rfl I1 A1 r1 rv ?_
      dsimp only at p1
      cases ho : fb [.ins c fs] st1 with
      | bad => rw [ho] at p1; exact False.elim p1
      | exc c' fs' st' => rw [ho] at p1; exact False.elim p1
      | ok rr st2 =>
        rw [ho] at p1
        cases rr with
        | bl b => exact p1
        | _ => exact False.elim p1
  | _ => exact False.elim p1
end
end DL

set_option Elab.async false
set_option linter.all false
set_option maxRecDepth 100000
/-! # DRepr: repr over data (where no guard stands beneath) -/
namespace DL
open PySem PySem.Spec PyProof.Rows L2

def keyPy : Key → PyData
  | .inl i => .int i
  | .inr x => .str x
def flatPy : D → Option PyData
  | .non => some .none
  | .bl b => some (.bool b)
  | .int i => some (.int i)
  | .str x => some (.str x)
  | _ => none
def kvPy : List (Key × D) → Option (List (PyData × PyData))
  | [] => some []
  | (k, d) :: r => match flatPy d, kvPy r with
    | some p, some ps => some ((keyPy k, p) :: ps)
    | _, _ => none
/-- an item: data without a dict, or a dict of flat things -/
def itemPy (d : D) : Option PyData := match d with
  | .dic ks => (kvPy ks).map .dict
  | d => toPy d
def itemsPy : List D → Option (List PyData)
  | [] => some []
  | d :: ds => match itemPy d, itemsPy ds with
    | some p, some ps => some (p :: ps)
    | _, _ => none
mutual
theorem toPy_noDict : ∀ {d : D} {p : PyData}, toPy d = some p → p.hasDict = false
  | .non, _, h => by simp only [toPy, Option.some.injEq] at h; subst h; simp only [PyData.hasDict]
  | .bl b, _, h => by simp only [toPy, Option.some.injEq] at h; subst h; simp only [PyData.hasDict]
  | .int i, _, h => by simp only [toPy, Option.some.injEq] at h; subst h; simp only [PyData.hasDict]
  | .str x, _, h => by simp only [toPy, Option.some.injEq] at h; subst h; simp only [PyData.hasDict]
  | .tup ds, _, h => by
    simp only [toPy] at h
    cases e : toPys ds with
    | none => rw [e] at h; cases h
    | some ps => rw [e] at h; cases h; simp only [PyData.hasDict]; exact toPys_noDict e
  | .lst ds, _, h => by
    simp only [toPy] at h
    cases e : toPys ds with
    | none => rw [e] at h; cases h
    | some ps => rw [e] at h; cases h; simp only [PyData.hasDict]; exact toPys_noDict e
  | .rdl _, _, h => by simp [toPy] at h
  | .dic _, _, h => by simp [toPy] at h
  | .ins _ _, _, h => by simp [toPy] at h
  | .exn _ _, _, h => by simp [toPy] at h
  | .cls _, _, h => by simp [toPy] at h
  | .ty _, _, h => by simp [toPy] at h
  | .ref _, _, h => by simp [toPy] at h
theorem toPys_noDict : ∀ {ds : List D} {ps : List PyData}, toPys ds = some ps → PyData.hasDictAll ps = false
  | [], _, h => by simp only [toPys, Option.some.injEq] at h; subst h; simp only [PyData.hasDictAll]
  | d :: ds, _, h => by
    simp only [toPys] at h
    split at h
    · rename_i p ps e1 e2
      cases h
      simp only [PyData.hasDictAll, toPy_noDict e1, toPys_noDict e2, Bool.or_self]
    · cases h
end
section
variable {X : Cx} {G : CG} {pins : List (Addr × Obj)} {σ : L2.St} {s : Shared} {W : Wd}
theorem flat_reads {d : D} {v : V} {u : Value} {p : PyData} (r : RelD X.K G W d v) (rv : RelV v u) (h : flatPy d = some p) : Reads s.heap u p [] := by
  cases r with
  | non => cases h; cases (show u = Value.none from rv); exact .none
  | bl b => cases h; cases (show u = Value.bool b from rv); exact .bool b
  | int i => cases h; obtain ⟨t, e⟩ := (show ∃ t, u = Value.int i t from rv); subst e; exact .int i t
  | str x => cases h; obtain ⟨t, e⟩ := (show ∃ t, u = Value.str x t from rv); subst e; exact .str x t
  | _ => cases h
theorem kv_reads : ∀ {ks : List (Key × D)} {gs : List (Key × V)} {vs : List (Key × Value)} {es : List DictEntry} {ps : List (PyData × PyData)}, RelKs X.K G W ks gs → KV gs vs → Pairs (mixKind X.prog X.w) es vs → kvPy ks = some ps →
    ReadsAll s.heap (es.map (·.key)) (ps.map (·.1)) [] ∧ ReadsAll s.heap (es.map (·.val)) (ps.map (·.2)) []
  | _, _, _, _, _, .nil, .nil, .nil, h => by cases h; exact ⟨.nil, .nil⟩
  | (k, d) :: ks, _, _, _, ps, .cons r t, .cons kv kvt, .cons (e := e) pe1 pe2 pt, h => by
    simp only [kvPy] at h
    split at h
    · rename_i p ps' e1 e2
      cases h
      obtain ⟨h1, h2⟩ := kv_reads t kvt pt e2
      obtain ⟨q1, q2⟩ := kv
      dsimp only at q1 q2
      have rk : Reads s.heap e.key (keyPy k) [] := by
        have z : keyIs _ e.key = true := pe1
        rw [← q1] at z
        rcases keyIs_shape z with ⟨i, t, e1, e2⟩ | ⟨x, t, e1, e2⟩
        · rw [e1, e2]; exact .int i t
        · rw [e1, e2]; exact .str x t
      have rvv : Reads s.heap e.val p [] := by rw [pe2]; exact flat_reads r q2 e1
      exact ⟨.cons (as := []) (bs := []) rk h1, .cons (as := []) (bs := []) rvv h2⟩
    · cases h
theorem item_reads (I : Inv X pins σ W.H s) {d : D} {v : V} {u : Value} {p : PyData} (r : RelD X.K G W d v) (rv : RelV v u) (h : itemPy d = some p) : ∃ as, Reads s.heap u p as ∧ (p.hasDict = true → sysModules ∉ as) := by
  by_cases hd : ∃ ks, d = .dic ks
  · obtain ⟨ks, rfl⟩ := hd
    cases r with
    | @dic _ gs a hf hr hk =>
      cases (show u = Value.ref a from rv)
      cases e : kvPy ks with
      | none => simp [itemPy, e] at h
      | some ps =>
        simp only [itemPy, e, Option.map_some, Option.some.injEq] at h
        subst h
        obtain ⟨_, hno, vs, hkv, o, es, ep, ho, hx, hdt, _, hp, _⟩ := dk_of I.hok hr
        obtain ⟨h1, h2⟩ := kv_reads (s := s) hk hkv hp e
        refine ⟨_, Reads.dict ho hx.1 hdt h1 h2, fun _ hm => ?_⟩
        have : sysModules = a := by simpa using hm
        rw [this, beq_self_eq_true] at hno
        cases hno
  · have h' : toPy d = some p := by
      cases d with
      | dic ks => exact absurd ⟨ks, rfl⟩ hd
      | _ => exact h
    obtain ⟨as, q⟩ := Dp.reads I p v u (r.py h') rv
    exact ⟨as, q, fun z => by rw [toPy_noDict h'] at z; cases z⟩
theorem items_repr (I : Inv X pins σ W.H s) : ∀ {ds : List D} {vs : List V} {us : List Value} {ps : List PyData}, RelDs X.K G W ds vs → Vals vs us → itemsPy ds = some ps → PyData.showableAll ps = true → (∀ t ∈ PyData.shownAll ps, t.length ≤ sizeLine) →
    ∃ as bs, ReadsAll s.heap us ps as ∧ ReadAtMost s.heap (PyData.depthAll ps) bs ∧ ReprAllK X.prog X.w bs s.heap (PyData.depthAll ps) us (PyData.shownAll ps)
  | _, _, _, _, .nil, .nil, h, _, _ => by
    cases h
    exact ⟨[], [], .nil, (fun _ h => nomatch h), by simp only [PyData.shownAll]; exact .nil⟩
  | d :: ds, _, _, ps, .cons r t, .cons rv rvt, h, hs, hz => by
    simp only [itemsPy] at h
    split at h
    · rename_i p ps' e1 e2
      cases h
      have hs' : p.showable = true ∧ PyData.showableAll ps' = true := by simpa [PyData.showableAll] using hs
      obtain ⟨a1, q1, n1⟩ := item_reads I r rv e1
      obtain ⟨b1, hb1, k1⟩ := ReprK.of_reads (prog := X.prog) (w := X.w) q1 hs'.1 n1 (hz _ (by simp only [PyData.shownAll]; exact List.mem_cons_self ..))
      obtain ⟨a2, b2, q2, hb2, k2⟩ := items_repr I t rvt e2 hs'.2 (fun t ht => hz t (by simp only [PyData.shownAll]; exact List.mem_cons_of_mem _ ht))
      refine ⟨a1 ++ a2, b1 ++ b2, .cons q1 q2, ?_, ?_⟩
      · simp only [PyData.depthAll]
        exact (hb1.mono (Nat.le_max_left _ _)).append (hb2.mono (Nat.le_max_right _ _))
      · simp only [PyData.depthAll, PyData.shownAll]
        exact .cons ((k1.more fun b hb => List.mem_append_left _ hb).level_le (Nat.le_max_left _ _)) (k2.more_le (fun b hb => List.mem_append_right _ hb) (Nat.le_max_right _ _))
    · cases h
end
/-- so a text can be shown -/
def shOk (p : PyData) : Bool := p.showable && decide (p.depth ≤ 60) && decide (p.shown.length ≤ 10000000)
def fRepr : List D → Sto → Out D := fun ds st => match ds with
  | [.lst l] => (match itemsPy l with | some ps => if shOk (.list ps) = true then .ok (.str (PyData.shown (.list ps))) st else .bad | none => .bad)
  | [.tup l] => (match toPys l with | some ps => if shOk (.tuple ps) = true then .ok (.str (PyData.shown (.tuple ps))) st else .bad | none => .bad)
  | [.non] => .ok (.str "None") st
  | [.bl b] => .ok (.str (if b then "True" else "False")) st
  | [.int i] => if i.natAbs.log2 < 1920 then .ok (.str (toString i)) st else .bad
  | [.str x] => if (reprText x).length ≤ 10000000 then .ok (.str (reprText x)) st else .bad
  | _ => .bad
theorem nox_repr : NoXN fRepr := fun ds st c fs st' q => by
  unfold fRepr at q
  repeat' (split at q)
  all_goals cases q
section
variable {X : Cx} {G : CG}
theorem c_repr (hg : X.A.guards = some []) (hu : X.A.units + 64 < cLine) : CallR X (.builtin "repr") (rN X.K G fRepr) := by
  intro pins s σ H xs us Q I rv q
  obtain ⟨W, ds, st, rfl, A, r, p⟩ := q
  unfold fRepr at p
  split at p
  · rename_i l
    obtain ⟨v, rfl, ro⟩ := r.one
    obtain ⟨u, rfl, rv1⟩ := vals1 rv
    obtain ⟨a, vs, rfl, hf, hr, rs⟩ := ro.sq_lst
    cases (show u = Value.ref a from rv1)
    split at p
    · rename_i ps hps
      split at p
      · rename_i hok
        unfold shOk at hok
        simp only [Bool.and_eq_true, decide_eq_true_eq] at hok
        obtain ⟨⟨h1, h2⟩, h3⟩ := hok
        obtain ⟨its, rvs, ⟨o, n, ho, hc, hn, hd⟩, _⟩ := I.list (xs := vs) (a := a) (.inl (.inl hr))
        have hz' : (listText (PyData.shownAll ps)).length ≤ sizeLine := by
          have e : PyData.shown (.list ps) = listText (PyData.shownAll ps) := by simp only [PyData.shown]
          rw [e] at h3
          exact ten_line h3
        have hdep : PyData.depthAll ps + 1 ≤ 60 := by simpa only [PyData.depth] using h2
        obtain ⟨as, bs, qa, hb, hk⟩ := items_repr I rs rvs hps (by simpa [PyData.showable] using h1) (fun t ht => Nat.le_trans (listText_mem_le ht) hz')
        have hna : a ∉ bs := not_mem_of_deeper (.list ho hc hd qa) (by simp only [PyData.depth]; omega) hb
        have fin : ∀ h' u tk, (∀ b o, s.heap.get? b = some o → h'.get? b = some o) → EP X pins σ Q (.str (PyData.shown (.list ps)) u) { s with heap := h', toks := tk } := fun h' u tk k => ⟨.str _, W.H, I.kept k, ⟨u, rfl⟩, p W _ .rfl' A (.str _)⟩
        refine call_repr_slot (by omega) (T := "list") ⟨o, ho, hc⟩ F.slot_list_repr.toG ?_
        have hd' : o.data = .seq its.toArray n := hd
        cases its with
        | nil =>
          cases qa
          refine call_list_repr_empty (A := X.A.in1) ⟨o, ho, hc⟩ ho hd' ?_
          have e : PyData.shown (.list []) = ("[]" : Str) := by simp only [PyData.shown, PyData.shownAll, listText_nil]
          have f0 := fun h' u tk k => fin h' u tk k
          rw [e] at f0
          exact ⟨_, _, rfl, f0 s.heap _ _ fun _ _ e => e⟩
        | cons x l' =>
          refine call_list_reprK (A := X.A.in1) ho hc hd' hna (by simpa using hk.length_eq) (fun i y e => hk.item i y (by simpa using e)) hg (fun b _ => Clear.nil b) (by show X.A.units + 1 + _ < cLine; omega) (fun _ _ e => e) (fun h' u tk k => ⟨_, _, rfl, ?_⟩) hz'
          have e : PyData.shown (.list ps) = listText (PyData.shownAll ps) := by simp only [PyData.shown]
          rw [← e]
          exact fin h' u tk k
      · exact False.elim p
    · exact False.elim p
  · rename_i l
    obtain ⟨v, rfl, ro⟩ := r.one
    obtain ⟨u, rfl, rv1⟩ := vals1 rv
    split at p
    · rename_i ps hps
      split at p
      · rename_i hok
        unfold shOk at hok
        simp only [Bool.and_eq_true, decide_eq_true_eq] at hok
        obtain ⟨⟨h1, h2⟩, h3⟩ := hok
        have ht : toPy (.tup l) = some (.tuple ps) := by simp only [toPy, hps, Option.map_some]
        obtain ⟨a, vs, rfl, hr, rs⟩ := ro.sq_tup
        cases (show u = Value.ref a from rv1)
        obtain ⟨as, qa⟩ := Dp.reads I _ _ _ (ro.py ht) rfl
        exact repr_of_reads' qa h1 (PyData.noDict_hsm (toPy_noDict ht)) hg (by omega) (fun _ _ e => e) (fun h' u tk k => ⟨.str _, W.H, I.kept k, ⟨u, rfl⟩, p W _ .rfl' A (.str _)⟩) (ten_line h3)
      · exact False.elim p
    · exact False.elim p
  · obtain ⟨v, rfl, ro⟩ := r.one
    obtain ⟨u, rfl, rv1⟩ := vals1 rv
    cases ro
    cases (show u = Value.none from rv1)
    exact P.repr_of_none ⟨.str _, W.H, I.tok _, ⟨_, rfl⟩, p W _ .rfl' A (.str _)⟩
  · rename_i b
    obtain ⟨v, rfl, ro⟩ := r.one
    obtain ⟨u, rfl, rv1⟩ := vals1 rv
    cases ro
    cases (show u = Value.bool b from rv1)
    exact P.repr_of_bool ⟨.str _, W.H, I.tok _, ⟨_, rfl⟩, p W _ .rfl' A (.str _)⟩
  · rename_i i
    obtain ⟨v, rfl, ro⟩ := r.one
    obtain ⟨u, rfl, rv1⟩ := vals1 rv
    cases ro
    obtain ⟨t, rfl⟩ := (show ∃ t, u = Value.int i t from rv1)
    split at p
    · rename_i hl
      exact P.repr_of_int hl ⟨.str _, W.H, I.tok _, ⟨_, rfl⟩, p W _ .rfl' A (.str _)⟩
    · exact False.elim p
  · rename_i x
    obtain ⟨v, rfl, ro⟩ := r.one
    obtain ⟨u, rfl, rv1⟩ := vals1 rv
    cases ro
    obtain ⟨t, rfl⟩ := (show ∃ t, u = Value.str x t from rv1)
    split at p
    · rename_i hl
      exact P.repr_of_str ⟨.str _, W.H, I.tok _, ⟨_, rfl⟩, p W _ .rfl' A (.str _)⟩ (ten_line hl)
    · exact False.elim p
  · exact False.elim p
end
end DL

set_option Elab.async false
set_option linter.all false
set_option maxRecDepth 100000
/-! # DCls: o.__class__, C.__name__, fields as targets, small dicts -/
namespace DL
open PySem PySem.Spec PyProof.Rows L2

/-- the name that the class object bears -/
structure NmK (K : PySem.W.Frag) (C : Addr) (c : String) : Prop where
  rd : PySem.W.readsIn K C (.type "type") = true
  at_ : PySem.W.findCls K (.ref C) (.type "type") "__name__" = some (.get (.builtin "getset_descriptor.__get__") (.builtin "type.__name__") (.ref C) (.type "type"))
  obj : ∃ oC t, K.lookup C = some oC ∧ oC.cls = .type "type" ∧ oC.slots[2]? = some (some (.str (Str.ofString c) t))
section
variable {X : Cx} {G : CG} {wx : WX} {o e : Expr} {f : Str} {go ga : Den} {pos pos' : Pos} {cs : List String}
/-- a one-place reading of an attribute, by data -/
theorem attrD {k : D → Sto → Out D} (h : DE X G wx o go) (hb : attributeBase o f X.env (eval o X.env) = eval o X.env)
    (hk : ∀ (pins : List (Addr × Obj)) (s : Shared) (σ : L2.St) (W : Wd) (d : D) (v : V) (u : Value) (st : Sto) (Q : VK), Inv X pins σ W.H s → Abs X.K G W st → RelD X.K G W d v → RelV v u → Post X.K G W (fun cls dd H => wx cls dd σ H) (k d st) Q →
      wpAny (model X.prog X.w) X.A (getAttr u f true) (EP X pins σ Q) X.xe s) : DE X G wx (.Attribute o f pos) (fun env st => (go env st).bind k) := by
  refine ⟨⟨fun pins s σ H Q I q => ?_⟩⟩
  obtain ⟨W, env, st, rfl, A, re, p⟩ := q
  have key := h.pe.run pins s σ W.H (fun v H1 => ∃ (W1 : Wd) (d : D) (st1 : Sto), W1.H = H1 ∧ W.le W1 ∧ Abs X.K G W1 st1 ∧ RelD X.K G W1 d v ∧ Post X.K G W1 (fun cls dd H => wx cls dd σ H) (k d st1) Q) I ⟨W, env, st, rfl, A, re, Post.bind p fun d st1 W1 v _ l1 A1 r1 p1 => ⟨W1, d, st1, rfl, l1, A1, r1, p1⟩⟩
  refine attr_of hb (thn key fun u s1 hh => ?_)
  obtain ⟨v, H1, I1, rv, W1, d, st1, rfl, l1, A1, r1, p1⟩ := hh
  exact hk pins s1 σ W1 d v u st1 Q I1 A1 r1 rv p1
def kCls (cs : List String) : D → Sto → Out D := fun d st => match d with
  | .ins c _ => if c ∈ cs then .ok (.cls c) st else .bad
  | _ => .bad
theorem de_class (h : DE X G wx o go) (hC : ∀ c ∈ cs, ∀ C, G c = some C → InsK X.K C) (hb : attributeBase o "__class__" X.env (eval o X.env) = eval o X.env) : DE X G wx (.Attribute o "__class__" pos) (fun env st => (go env st).bind (kCls cs)) :=
  attrD h hb fun pins s σ W d v u st Q I A r rv p => by
    unfold kCls at p
    split at p
    · rename_i c fs
      split at p
      · rename_i hc
        cases r with
        | @ins _ _ gs a C dx hf gc ha hs =>
          cases (show u = Value.ref a from rv)
          have T := hC c hc C gc
          obtain ⟨mA, J, _⟩ := ins_get I.hok ha
          obtain ⟨od, J, _⟩ := J.look
          obtain ⟨m, FR⟩ := I.fr
          exact PySem.W.get_class FR I.ok.mod.kin J (T.cl.get _) T.cl.hd T.ha T.hn T.htk T.hm ⟨.ref C, W.H, I.tok _, rfl, p W _ .rfl' A (.cls gc)⟩
      · exact False.elim p
    · exact False.elim p
def kName (cs : List String) : D → Sto → Out D := fun d st => match d with
  | .cls c => if c ∈ cs then .ok (.str (Str.ofString c)) st else .bad
  | _ => .bad
theorem de_cname (h : DE X G wx o go) (hC : ∀ c ∈ cs, ∀ C, G c = some C → NmK X.K C c) (hb : attributeBase o "__name__" X.env (eval o X.env) = eval o X.env) : DE X G wx (.Attribute o "__name__" pos) (fun env st => (go env st).bind (kName cs)) :=
  attrD h hb fun pins s σ W d v u st Q I A r rv p => by
    unfold kName at p
    split at p
    · rename_i c
      split at p
      · rename_i hc
        cases r with
        | cls gc =>
          rename_i C
          cases (show u = Value.ref C from rv)
          have T := hC c hc C gc
          obtain ⟨oC, t, lk, hcl, hsl⟩ := T.obj
          refine PySem.W.cls_bind I.kIn T.rd T.at_ (wpAny_call (DLX.name_get (s := { s with toks := s.toks + 1 }) (I.kIn _ _ lk) hcl hsl ?_))
          exact PySem.W.handed_on rfl ⟨.str _, W.H, I.tok _, ⟨_, rfl⟩, p W _ .rfl' A (.str _)⟩
      · exact False.elim p
    · exact False.elim p

/-! ### fields as targets -/
def gFldD (cs : List String) (go : Den) (f : Str) : DenG := fun d env st => match go env st with
  | .ok (.ref i) st1 => (match st1.m i with
    | some (.ins c fs) => if c ∈ cs ∧ fs.length < 1000 then .ok env (st1.set i (.ins c (putD f d fs))) else .bad
    | _ => .bad)
  | _ => .bad
theorem dg_fld (ho : DE X G W0 o go) (hC : ∀ c ∈ cs, ∀ C, G c = some C → Cls X.K C ∧ NoAttr X.K C f) : DG X G (.Attribute o f pos) (gFldD cs go f) := by
  refine ⟨⟨fun pins s σ H v u Q I rv q => ?_⟩⟩
  obtain ⟨W, env, d, st, rfl, A, re, rd, p⟩ := q
  unfold gFldD at p
  rw [assign_Attribute]
  cases h1 : go env st with
  | bad => rw [h1] at p; exact False.elim p
  | exc c fs st1 => rw [h1] at p; exact False.elim p
  | ok d1 st1 =>
    rw [h1] at p
    cases d1 with
    | ref i =>
      dsimp only at p
      have key := ho.pe.run pins s σ W.H (fun x H1 => ∃ (W1 : Wd), W1.H = H1 ∧ W.le W1 ∧ Abs X.K G W1 st1 ∧ RelD X.K G W1 (.ref i) x) I ⟨W, env, st, rfl, A, re, by rw [h1]; exact fun W1 x l a r => ⟨W1, rfl, l, a, r⟩⟩
      refine wpAny_bind (wpAny_holding (thn key fun ov s1 hh => ?_))
      obtain ⟨x, H1, I1, rx, W1, rfl, l1, A1, r1⟩ := hh
      refine wpAny_bind (wpAny_standAt (wpAny_bind (wpAny_holding ?_)))
      cases hm : st1.m i with
      | none => rw [hm] at p; exact False.elim p
      | some mo =>
        rw [hm] at p
        cases mo with
        | ins c fs =>
          dsimp only at p
          by_cases hc : c ∈ cs ∧ fs.length < 1000
          · rw [if_pos hc] at p
            obtain ⟨b, eb, nf, rm⟩ := A1.obj i _ hm
            cases r1 with
            | @ref _ a hr =>
              rw [hr] at eb
              cases eb
              cases (show ov = Value.ref _ from rx)
              cases rm with
              | @ins _ _ gs _ C dx gc h2 h3 =>
                obtain ⟨k1, k2⟩ := hC c hc.1 C gc
                have lw := Wd.le_wr (o := .ins C dx (L2.putF f v gs)) nf
                refine setattr_ok I1 h2 k1 k2 (by rw [← h3.length]; exact hc.2) rv fun s3 I3 => ?_
                exact wpAny_release ⟨σ, _, I3, p _ σ (l1.trans lw) (A1.wr hm hr (.ins gc upd_same ((h3.up lw).putF ((rd.up l1).up lw) f))) (re.up (l1.trans lw))⟩
          · rw [if_neg hc] at p
            exact False.elim p
        | _ => exact False.elim p
    | _ => exact False.elim p
/-- {'k': n}, written -/
theorem de_dict1 {x : Str} {i : Int} {j1 j2 : Nat} {p1 p2 : Pos} : DE X G wx (.Dict [some (.Constant (.str x) j1 p1)] [.Constant (.int i) j2 p2] pos) (dC (.dic [(.inr x, .int i)])) :=
  ⟨(pe_disp (pps_cons pe_str pe_int pps_nil) (by rfl) (by rfl) (fun z => by cases z) (by show 1 ≤ 15; decide)).imp fun σ H Q q => by
    obtain ⟨W, env, st, rfl, A, re, p⟩ := q
    intro q hq
    refine ⟨upd_same, [(.inr x, .int i)], rfl, by show 1 ≤ 15; decide, ?_⟩
    have e : upd (upd W.H q (.dK [])) q (.dK (mergeK [] [(.inr x, .int i)])) = upd W.H q (.dK [(.inr x, .int i)]) := by
      funext b
      by_cases hb : b = q
      · subst hb; rw [upd_same, upd_same]; rfl
      · rw [upd_ne hb, upd_ne hb, upd_ne hb]
    show Q (.ref q) (upd (upd W.H q (.dK [])) q (.dK (mergeK [] [(.inr x, .int i)])))
    rw [e]
    have l := Wd.le_put (o := .dK [(.inr x, .int i)]) A hq
    exact p (W.put q _) (.ref q) l (A.put hq) (.dic (.inr rfl) upd_same (.cons (.int i) .nil))⟩
end
end DL

set_option Elab.async false
set_option linter.all false
set_option maxRecDepth 100000
/-! # DEnd: the law's own def, run where the row calls it (no guard beneath), and the row's walk -/
namespace DL
open PySem PySem.Spec PyProof.Rows L2

/-- a promise kept where A runs around -/
def FnAt (A : Around) (P : Program) (w : World) (K : PySem.W.Frag) (mg : Str → Option Value) (base : Heap) (CX : CXT) (f : Addr) (fd : FuncData) (ps : List Str) (sp : Sp) : Prop :=
  ∀ (outer : List Env) (s : Shared) (H : Hp) (args : Args) (us : List Value) (vs : List V) (Q : VK) (E : XK), Env0 P w K mg base A outer s H → BindsTo s fd args (ps.zip us) → Vals vs us → sp vs H Q E →
    codeAny (model P w) A (.call (.ref f) args) (CR CX outer P w H s Q E) s
section
variable {A : Around} {P : Program} {w : World} {K : PySem.W.Frag} {mg : Str → Option Value} {base : Heap} {k : Nat} {f : Addr} {x qual : Str} {st : Stmt} {fd : FuncData} {N ps : List Str} {G : CG} {g : DenS} {fn : List D → Sto → Out D}
theorem fn_at (F : Fun K x qual st f fd) (S : FnScope N ps (defScope st)) (hr : Room (k + 1) A) (hN : ps.length ≤ N.length) (hlen : ∀ ds s, ds.length ≠ ps.length → fn ds s = .bad) (hfn : ∀ ds s, fn ds s ≠ .bad → runBody N.length g ds s = fn ds s)
    (hbody : ∀ (cdv : Value) (outer : List Env) (s : Shared) (H : Hp) (E : XK), Room k (A.deeper (envOfC qual (defScope st) s.heap.objs.size f cdv)) →
      DSs (cxOf (L2.CX P w) P w K mg base N qual (defScope st) f cdv A outer s H E) G (fun cls d _ H => E cls d H) (defBody st) g) : FnAt A P w K mg base (L2.CX P w) f fd ps (spD K G fn) := by
  obtain ⟨oc, od, kV, doc, pm, an, cdv, ct, osl, rfl, lk, hcd⟩ := F.ex
  intro outer s H args us vs Q E e0 hb r hsp
  have hl : vs.length = ps.length := by
    obtain ⟨W, ds, st, rfl, _, rr, p⟩ := hsp
    by_cases h : ds.length = ps.length
    · exact rr.length ▸ h
    · rw [hlen ds st h] at p; exact False.elim p
  have KX : K.In s.heap := e0.mod.kin.keeps fun b o e => (e0.bs b o e).1
  have lim : s.heap.NoLimit := e0.mod.nolimit.keeps fun b o e => (e0.bs b o e).1
  have kinds : ∀ y ∈ ps.zip us, (defScope st).names.lookup y.1 = some .local ∨ ((defScope st).names.lookup y.1 = some .cell ∧ ((cellsFrom (s.heap.objs.size + 1) (defScope st).names []).lookup y.1).isSome = true) := fun ⟨n, v⟩ hy => by
    rcases S.par n (List.of_mem_zip hy).1 with z | z
    · exact .inl z
    · exact .inr ⟨z, PySem.W.cellsFrom_some _ _ _ (.inl z)⟩
  refine codeAny_call_function hr.depth (KX _ _ lk) rfl S.co S.gen rfl (PySem.W.codeRec_of KX hcd) (hb _ _ _ _ ?_)
  refine wpAny_newFunctionEnv_cells S.kind kinds fun env henv s1 ic => ?_
  subst henv
  refine ⟨lim.keeps ic.toInCall.keep, codeAny_func ?_⟩
  have I := inv_start (E := E) (CX := L2.CX P w) (f := f) (qual := qual) (cd := cdv) S hr.hd e0 hl r ic
  have q : spD K G (runBody N.length g) vs H Q E := by
    obtain ⟨W, ds, st, e, A', rr, p⟩ := hsp
    refine ⟨W, ds, st, e, A', rr, ?_⟩
    cases hf : fn ds st with
    | bad => rw [hf] at p; exact False.elim p
    | ok d st1 => rw [hfn ds st (by rw [hf]; exact fun z => by cases z)]; exact p
    | exc c fs st1 => rw [hfn ds st (by rw [hf]; exact fun z => by cases z)]; exact p
  refine wpAny_mono ((hbody cdv outer s H E (hr.deeper _)).pss.run [] s1 _ H _ I (body_ok (by rw [hl]; exact hN) q)) (fun fl s' hs => ?_) fun e s' hs => hs
  have done : ∀ {σ' : L2.St} {H' : Hp} {v : V} {u : Value}, Inv (cxOf (L2.CX P w) P w K mg base N qual (defScope st) f cdv A outer s H E) [] σ' H' s' → L2.RelV v u → Q v H' → CE outer P w H s Q u s' := fun {σ' H' v u} J rv z => ⟨v, H', J.os, J.bare, J.base, J.hok, rv, z⟩
  cases fl with
  | ret u =>
    obtain ⟨v, σ', H', J, rv, z⟩ := hs
    exact done J rv z
  | next =>
    obtain ⟨σ', H', J, z⟩ := hs
    exact done (v := V.non) (u := Value.none) J rfl z
  | brk =>
    obtain ⟨_, _, _, z⟩ := hs
    exact False.elim z
  | cont =>
    obtain ⟨_, _, _, z⟩ := hs
    exact False.elim z
end

/-- the call of the law, over an abstract heap in which nothing but the script may stand -/
theorem law_at {P : Program} {w : World} {K : PySem.W.Frag} {mg mb : Str → Option Value} {CX : CXT} {fa a : Addr} {fd : FuncData} {x : Str} {sp : Sp} {s₁ : Shared} {vs : List Value} {ns : List Int}
    (KX : K.In s₁.heap) (h1 : s₁.heap.Ns mainGlobals mg) (h2 : s₁.heap.Ns builtinsNs mb) (h3 : ∀ x : Str, x ≠ "__name__" → mb x = bootBuiltins x) (h4 : s₁.heap.NoLimit) (h5 : s₁.gens = #[])
    (ha : s₁.heap.get? a = some { cls := .type "list", data := .seq vs.toArray }) (hi : IntsAre vs ns) (hl : ns.length ≤ sizeLine)
    (F : ∀ base : Heap, K.In base → base.Ns mainGlobals mg → FnAt callerA P w K mg base CX fa fd [x] sp) (hb : ∀ (s : Shared) (u : Value), BindsTo s fd ⟨[u], []⟩ [(x, u)])
    (hsp : ∀ H : Hp, Only H → SqL K H a (ns.map V.int) → sp [.ref a] H (fun v _ => v = .bl true) fun _ _ _ => False)
    (hX : ∀ H e s', CX [] H s₁ (fun _ _ _ => False) e s' → False) :
    codeAny (model P w) callerA (.call (.ref fa) ⟨[.ref a], []⟩) (fun r s' => r = .ok (.ret (.bool true)) ∧ OldK s₁.heap s'.heap ∧ s'.os = s₁.os ∧ AllBare s'.gens) s₁ := by
  have rv := vals_ints hi
  have lenV := hi.length
  have core : ∀ H : Hp, Only H → SqL K H a (ns.map V.int) → HOk P w H s₁.heap → (∀ b, H b ≠ none → b = a) → (H a ≠ none → K.lookup a = none) →
      codeAny (model P w) callerA (.call (.ref fa) ⟨[.ref a], []⟩) (fun r s' => r = .ok (.ret (.bool true)) ∧ OldK s₁.heap s'.heap ∧ s'.os = s₁.os ∧ AllBare s'.gens) s₁ := by
    intro H hO hS hok hA hK
    have there : ∀ {b : Addr} {o : Obj}, s₁.heap.get? b = some o → H b = none → (hidT s₁.heap H).get? b = some o := fun e n => hidT_get e n
    have plain : ∀ {b : Addr} {o : Obj} {es : Array DictEntry} {ep : Nat}, s₁.heap.get? b = some o → o.data = .dict es ep → H b = none := fun {b o es ep} e d => by
      cases q : H b with
      | none => rfl
      | some u =>
        have eb : b = a := hA b (by rw [q]; simp)
        subst eb
        rw [ha] at e
        cases e
        have d' : Data.seq vs.toArray _ = Data.dict es ep := d
        cases d'
    have nsK : ∀ {b : Addr} {m : Str → Option Value}, s₁.heap.Ns b m → (hidT s₁.heap H).Ns b m := fun {b m} ⟨o, es, ep, e, d, r⟩ => ⟨o, es, ep, there e (plain e d), d, r⟩
    have KB : K.In (hidT s₁.heap H) := fun b o e => there (KX b o e) (by
      cases q : H b with
      | none => rfl
      | some u =>
        have eb : b = a := hA b (by rw [q]; simp)
        subst eb
        rw [hK (by rw [q]; simp)] at e
        cases e)
    have M : Mod K mg (hidT s₁.heap H) := ⟨KB, nsK h1, ⟨mb, nsK h2, h3⟩, let ⟨mc, c1, c2⟩ := h4; ⟨mc, nsK c1, c2⟩⟩
    have e0 : Env0 P w K mg (hidT s₁.heap H) callerA [] s₁ H := ⟨rfl, M, fun b o e => of_hidT e, Nat.le_of_eq (hidT_size _ _), trivial, fun b hb => absurd (show b ∈ ([] : List Addr) from hb) (by simp), hok, .of_eq h5⟩
    refine codeAny_mono (F _ KB (nsK h1) [] s₁ H ⟨[.ref a], []⟩ [.ref a] [.ref a] _ _ e0 (hb s₁ (.ref a)) (.cons rfl .nil) (hsp H hO hS)) fun r s' h => ?_
    cases r with
    | error e => exact (hX H e s' h).elim
    | ok fl =>
      cases fl with
      | ret u =>
        obtain ⟨v, H', os, bare, un, hok', r', q⟩ := h
        have q' : v = .bl true := q
        subst q'
        obtain rfl : u = Value.bool true := r'
        refine ⟨rfl, OldK.of_keep fun b o e => ?_, os, bare⟩
        cases q : H b with
        | none => exact un.keep b o e q (by intro z; exact absurd (show b ∈ ([] : List Addr) from z) (by simp)) (by simp)
        | some u =>
          rcases hO b with z | ⟨ob, xs, z⟩
          · rw [q] at z
            cases z
          · have z2 := un.frzs b ob _ z
            obtain ⟨e1, _⟩ := hok b _ z
            obtain ⟨e2, _⟩ := hok' b _ z2
            rw [e] at e1
            cases e1
            exact e2
      | _ => exact False.elim h
  cases hk : K.lookup a with
  | some o =>
    have e := KX a o hk
    rw [ha] at e
    cases e
    have hs : SqL K (fun _ => none) a (ns.map V.int) := .inr ⟨_, vs.toArray, _, hk, rfl, rfl, rfl, by rw [List.size_toArray, lenV]; exact hl, by simpa using rv⟩
    refine core (fun _ => none) (fun _ => .inl rfl) hs (fun b u z => ?_) (fun b z => absurd rfl z) fun z => absurd rfl z
    have z' : (none : Option HO) = some u := z
    cases z'
  | none =>
    let H0 : Hp := fun b => if b = a then some (.frz { cls := .type "list", data := .seq vs.toArray } (.lst (ns.map V.int))) else none
    have at0 : H0 a = some (.frz { cls := .type "list", data := .seq vs.toArray } (.lst (ns.map V.int))) := if_pos rfl
    have off0 : ∀ {b : Addr}, b ≠ a → H0 b = none := fun hb => if_neg hb
    refine core H0 (fun b => ?_) (.inl (.inr ⟨_, at0⟩)) (fun b u z => ?_) (fun b z => ?_) fun _ => hk
    · by_cases hb : b = a
      · subst hb
        exact .inr ⟨_, _, at0⟩
      · exact .inl (off0 hb)
    · by_cases hb : b = a
      · subst hb
        rw [at0] at z
        cases z
        exact ⟨ha, by rw [List.length_map]; exact hl, vs, _, rv, ha⟩
      · rw [off0 hb] at z
        cases z
    · by_cases hb : b = a
      · exact hb
      · exact absurd (off0 hb) z
/-- the row's walk from the mirror's answer -/
theorem walk_at {l : PySem.W.OpenLaw} {n : Nat} {q : Program} {loose : List Str} {XP : (Str → Option Value) → Heap → Prop} {YP : World → Heap → Prop} {d : DefRec} {K : Params → PySem.W.Frag} {x : Str} {fn : List D → Sto → Out D}
    (hn : l.most = some n) (hn2 : n ≤ sizeLine) (hdf : d.params.defaults = []) (hY : ∀ (w : World) (h : Heap), YP w h → (K w.params).In h)
    (F : ∀ (w : World) (mg : Str → Option Value) (fa : Addr) (h : Heap), (K w.params).In h → h.Ns mainGlobals mg → mg d.name = some (.ref fa) →
      ∃ (fd : FuncData) (G : CG), (∀ (s : Shared) (u : Value), BindsTo s fd ⟨[u], []⟩ [(x, u)]) ∧
        ∀ base : Heap, (K w.params).In base → base.Ns mainGlobals mg → FnAt callerA l.prog w (K w.params) mg base (L2.CX l.prog w) fa fd [x] (spD (K w.params) G fn))
    (law : ∀ ns : List Int, ns.length ≤ n → ∃ st, fn [.rdl (ns.map D.int)] ⟨0, fun _ => none⟩ = .ok (.bl true) st) :
    PySem.W.WalkO q loose XP YP l.row.toRowW d [] (fun f vs => PySem.call f vs) := by
  refine Att.attach_call hn hdf fun w s₀ s₁ mg mb fa o pm cd doc a vs ns GG Y ho hd hcd hmg hobj hints hlen hg => ?_
  have KX := hY w _ Y
  obtain ⟨fd, G, hb, hF⟩ := F w mg fa _ KX GG.T.g hmg
  refine law_at KX GG.T.g GG.T.b GG.T.builtins GG.T.nolimit hg hobj hints (Nat.le_trans hlen hn2) hF hb (fun H hO hS => ?_) fun H e s' z => ?_
  · obtain ⟨st, hst⟩ := law ns hlen
    have rel : ∀ (W : Wd), RelDs (K w.params) G W (ns.map D.int) (ns.map V.int) := fun W => by
      induction ns with
      | nil => exact .nil
      | cons i ns ih => exact .cons (.int i) (by
          clear ih
          generalize ns = ms
          induction ms with
          | nil => exact .nil
          | cons j ms ih => exact .cons (.int j) ih)
    rcases hS with hS | hS
    · have hx : ∃ o, H a = some o := by
        rcases hS with z | ⟨o, z⟩
        · exact ⟨_, z⟩
        · exact ⟨_, z⟩
      refine ⟨⟨fun _ => none, fun b => b = a, fun _ => False, H⟩, [.rdl (ns.map D.int)], ⟨0, fun _ => none⟩, rfl, ⟨fun b hb => ?_, fun _ _ z => z, (fun i o z => nomatch z), (fun i j o u b z => nomatch z), fun _ _ => rfl⟩, .cons (.rdl rfl hS (rel _)) .nil, ?_⟩
      · rcases hb with hb | hb
        · rw [hb]; exact hx
        · exact hb.elim
      · rw [hst]
        intro W' v l A r
        cases r
        rfl
    · refine ⟨⟨fun _ => none, fun _ => False, fun _ => False, H⟩, [.rdl (ns.map D.int)], ⟨0, fun _ => none⟩, rfl, ⟨fun b hb => ?_, fun _ _ z => z, (fun i o z => nomatch z), (fun i j o u b z => nomatch z), fun _ _ => rfl⟩, .cons (.rdlK (fun H => .inr hS) (rel _)) .nil, ?_⟩
      · rcases hb with hb | hb <;> exact hb.elim
      · rw [hst]
        intro W' v l A r
        cases r
        rfl
  · obtain ⟨_, _, _, _, _, _, _, _, _, _, _, _, y⟩ := z
    exact y
end DL

set_option Elab.async false
set_option linter.all false
set_option maxRecDepth 100000
/-! # DLaw: defs by their bodies alone; fields of any kind; what a law's text is made of -/
namespace DL
open PySem PySem.Spec PyProof.Rows L2 StX NdefX

/-- the mirror of a def of n parameters, m slots, by its body -/
def mk (n m : Nat) (g : DenS) : List D → Sto → Out D := fun ds st => if ds.length = n then runBody m g ds st else .bad
theorem mk_len {n m : Nat} {g : DenS} : ∀ ds s, ds.length ≠ n → mk n m g ds s = .bad := fun ds s h => if_neg h
theorem mk_run {n m : Nat} {g : DenS} : ∀ ds s, mk n m g ds s ≠ .bad → runBody m g ds s = mk n m g ds s := fun ds s h => by
  unfold mk at h ⊢
  split at h
  · rename_i e
    rw [if_pos e]
  · exact absurd rfl h
section
variable {P : Program} {w : World} {K : PySem.W.Frag} {mg : Str → Option Value} {base : Heap} {k : Nat} {f c cc D : Addr} {x qual : Str} {st : Stmt} {fd : FuncData} {N ps : List Str} {G : CG} {g : DenS} {A : Around}
theorem fn_bad {CX : CXT} {fd : FuncData} : FnOk P w K mg base CX k f fd ps (spD K G fun _ _ => .bad) :=
  ⟨fun vs H Q E q => by obtain ⟨_, _, _, _, _, _, z⟩ := q; exact False.elim z, fun A outer s H args us vs Q E _ _ _ _ q => by obtain ⟨_, _, _, _, _, _, z⟩ := q; exact False.elim z⟩
theorem fn_m (F : Fun K x qual st f fd) (S : FnScope N ps (defScope st)) (hN : ps.length ≤ N.length)
    (hbody : ∀ (cdv : Value) (A : Around) (outer : List Env) (s : Shared) (H : Hp) (E : XK), Room k (A.deeper (envOfC qual (defScope st) s.heap.objs.size f cdv)) →
      DSs (cxOf (L2.CX P w) P w K mg base N qual (defScope st) f cdv A outer s H E) G (fun cls d _ H => E cls d H) (defBody st) g) : FnOk P w K mg base (L2.CX P w) (k + 1) f fd ps (spD K G (mk ps.length N.length g)) := fn_d F S hN mk_len mk_run hbody
theorem fn_mA (F : Fun K x qual st f fd) (S : FnScope N ps (defScope st)) (hr : Room (k + 1) A) (hN : ps.length ≤ N.length)
    (hbody : ∀ (cdv : Value) (outer : List Env) (s : Shared) (H : Hp) (E : XK), Room k (A.deeper (envOfC qual (defScope st) s.heap.objs.size f cdv)) →
      DSs (cxOf (L2.CX P w) P w K mg base N qual (defScope st) f cdv A outer s H E) G (fun cls d _ H => E cls d H) (defBody st) g) : FnAt A P w K mg base (L2.CX P w) f fd ps (spD K G (mk ps.length N.length g)) := fn_at F S hr hN mk_len mk_run hbody
theorem fn_mS (F : FunC K x qual st f fd c cc D) (S : NScope N ps ["__class__"] (defScope st))
    (hbody : ∀ (A : Around) (outer : List Env) (s : Shared) (H : Hp) (E : XK), Room k (A.deeper (envF (supF x qual st cc c) f s.heap.objs.size)) →
      DSsAt (ncx (L2.CX P w) P w K mg base N (supF x qual st cc c) f A outer s H E) G (fun cls d _ H => E cls d H) (defBody st) (defBody st) g) : FnOk P w K mg base (L2.CX P w) (k + 1) f fd ps (spD K G (mk ps.length N.length g)) := fn_dS F S mk_len mk_run hbody
theorem fn_mStar {n : Nat} {ks : List Str} {pv : Str} (F : Fun K x qual st f fd) (S : FnScope N (ps ++ [pv]) (defScope st)) (hN : ps.length + 1 ≤ N.length) (hm : ps.length ≤ n + ks.length)
    (hb : ∀ (kV doc pm : Value) (an : Option Addr) (cdv ct : Value) (us ws : List Value), us.length = n → ws.length = ks.length → bindArgs (PySem.W.fnOf x qual (defArgs st) (defBody st) (defScope st) .none kV doc pm an cdv ct) ⟨us, ks.zip ws⟩ = (newTuple ((us ++ ws).drop ps.length) >>= fun t => pure (ps.zip ((us ++ ws).take ps.length) ++ [(pv, t)])))
    (hbody : ∀ (cdv : Value) (A : Around) (outer : List Env) (s : Shared) (H : Hp) (E : XK), Room k (A.deeper (envOfC qual (defScope st) s.heap.objs.size f cdv)) →
      DSs (cxOf (L2.CX P w) P w K mg base N qual (defScope st) f cdv A outer s H E) G (fun cls d _ H => E cls d H) (defBody st) g) : FnB P w K mg base (L2.CX P w) (k + 1) f n ks (spD K G (starFn ps.length (mk (ps.length + 1) N.length g))) := fn_dStar F S hN hm hb mk_len mk_run hbody
theorem takes_nc {E : XK} {F : NF} {outer : List Env} {s : Shared} {H : Hp} : Takes (ncx (L2.CX P w) P w K mg base N F f A outer s H E) (fun cls d _ H => E cls d H) := takes_of rfl rfl rfl rfl
/-- arguments by place alone -/
theorem Fun.kb (F : Fun K x qual st f fd) (n : Nat) (ks : List Str) (π : Option (List Nat)) (h : ∀ (kV doc pm : Value) (an : Option Addr) (cdv ct : Value) (us ws : List Value), us.length = n → ws.length = ks.length →
    bindArgs (PySem.W.fnOf x qual (defArgs st) (defBody st) (defScope st) .none kV doc pm an cdv ct) ⟨us, ks.zip ws⟩ = pure (ps.zip (permO π (us ++ ws)))) : KBp K fd ps n ks π := by
  obtain ⟨oc, od, kV, doc, pm, an, cdv, ct, osl, rfl, lk, hcd⟩ := F.ex
  exact KBp.pure (h kV doc pm an cdv ct)
theorem FunC.kb (F : FunC K x qual st f fd c cc D) (n : Nat) (ks : List Str) (π : Option (List Nat)) (h : ∀ (kV doc pm : Value) (an : Option Addr) (ct : Value) (us ws : List Value), us.length = n → ws.length = ks.length →
    bindArgs (PySem.W.fnX x qual (defArgs st) (defBody st) (defScope st) [("__class__", cc)] .none kV doc pm an (.ref c) ct) ⟨us, ks.zip ws⟩ = pure (ps.zip (permO π (us ++ ws)))) : KBp K fd ps n ks π := by
  obtain ⟨oc, od, kV, doc, pm, an, ct, osl, rfl, lk, hcd⟩ := F.ex
  exact KBp.pure (h kV doc pm an ct)
end

/-! ### a field of an instance or of an exception -/
/-- which classes have the field -/
structure FldK (K : PySem.W.Frag) (G : CG) (cs es : List String) (f : Str) : Prop where
  ins : ∀ c ∈ cs, ∀ C, G c = some C → Cls K C ∧ NoAttr K C f
  exn : ∀ c ∈ es, ∀ C, G c = some C → ExnK K C ∧ PySem.W.findIn K (.ref C) f = some none
def kFld (cs es : List String) (f : Str) : D → Sto → Out D := fun d st => match d with
  | .exn c fs => if c ∈ es then (match fs.lookup f with | some x => .ok x st | none => .bad) else .bad
  | d => (match insOf d st with
    | some (c, fs) => if c ∈ cs then (match fs.lookup f with | some x => .ok x st | none => .bad) else .bad
    | none => .bad)
section
variable {X : Cx} {G : CG} {wx : WX} {o : Expr} {f : Str} {go : Den} {pos : Pos} {cs es : List String}
theorem de_get (h : DE X G wx o go) (T : FldK X.K G cs es f) (hb : attributeBase o f X.env (eval o X.env) = eval o X.env) : DE X G wx (.Attribute o f pos) (fun env st => (go env st).bind (kFld cs es f)) :=
  attrD h hb fun pins s σ W d v u st Q I A r rv p => by
    have insCase : (∀ c fs, d ≠ .exn c fs) → wpAny (model X.prog X.w) X.A (getAttr u f true) (EP X pins σ Q) X.xe s := fun hd => by
      have p' : Post X.K G W (fun cls dd H => wx cls dd σ H) (match insOf d st with
        | some (c, fs) => if c ∈ cs then (match fs.lookup f with | some x => .ok x st | none => .bad) else .bad
        | none => .bad) Q := by
        cases d with
        | exn c fs => exact absurd rfl (hd c fs)
        | _ => exact p
      cases hi : insOf d st with
      | none => rw [hi] at p'; exact False.elim p'
      | some cf =>
        obtain ⟨c, fs⟩ := cf
        rw [hi] at p'
        dsimp only at p'
        by_cases hc : c ∈ cs
        · rw [if_pos hc] at p'
          obtain ⟨a, C, dx, gs, rfl, gc, ha, rf⟩ := ins_of A r hi
          cases (show u = Value.ref a from rv)
          cases hl : fs.lookup f with
          | none => rw [hl] at p'; exact False.elim p'
          | some x =>
            rw [hl] at p'
            obtain ⟨y, h1, h2⟩ := rf.look hl
            obtain ⟨k1, k2⟩ := T.ins c hc C gc
            exact getattr_ok I ha k1 k2 h1 fun w s' I' rw' => ⟨y, W.H, I', rw', p' W y .rfl' A h2⟩
        · rw [if_neg hc] at p'
          exact False.elim p'
    cases d with
    | exn c fs =>
      clear insCase
      have p1 : Post X.K G W (fun cls dd H => wx cls dd σ H) (if c ∈ es then (match fs.lookup f with | some x => .ok x st | none => .bad) else .bad) Q := p
      by_cases hc : c ∈ es
      · rw [if_pos hc] at p1
        cases r with
        | @exn _ _ gs a C dx hf hd gc hr hx hs =>
          cases (show u = Value.ref a from rv)
          obtain ⟨TE, hno⟩ := T.exn c hc C gc
          cases hl : fs.lookup f with
          | none => rw [hl] at p1; exact False.elim p1
          | some x =>
            rw [hl] at p1
            obtain ⟨y, hy, ry⟩ := hs.look hl
            obtain ⟨t1, ho⟩ := exo_at I.hok hr
            obtain ⟨mA, hns, rel⟩ := exd_at I.hok hx
            obtain ⟨od, hod, hlk⟩ := lookIn_ns hns
            have rl := rel f
            rw [hy] at rl
            obtain ⟨w, hw, rw'⟩ := RelO.some_of rl
            have J : PySem.W.InstAt s.heap a { cls := .ref C, dict := some dx, data := .fields #[.ref t1, .none, .none, .none, .bool false, .none] } C (some od) := ⟨ho, rfl, rfl, hod⟩
            exact HandSPX.exc_get I.kIn J TE.ga TE.gg TE.sub (PySem.W.findObj_own TE.hd hno rfl (by rw [hlk, hw])) (handed_of rw') ⟨y, W.H, I.tok _, rw', p1 W y .rfl' A ry⟩
      · rw [if_neg hc] at p1
        exact False.elim p1
    | _ => exact insCase fun c fs z => nomatch z
theorem de_cls {x : Str} {c : String} {C : Addr} (hg : Gl X x) (hm : X.mg x = some (.ref C)) (hc : G c = some C) (hd : (x == ("__debug__" : Str)) = false := by decide) : DE X G wx (.Name x pos) (dC (.cls c)) := de_const (pe_glob hg hm (v := .ref C) rfl hd) fun _ => .cls hc
theorem de_ty {x : Str} {n : String} (hg : Gl X x) (hm : X.mg x = none) (hv : bootBuiltins x = some (.type n)) (hn : x ≠ "__name__" := by decide) (hd : (x == ("__debug__" : Str)) = false := by decide) : DE X G wx (.Name x pos) (dC (.ty n)) := de_const (pe_bltn hg hm hv (v := .ty n) rfl hn hd) fun _ => .ty n
end
end DL

set_option Elab.async false
set_option linter.all false
set_option maxRecDepth 100000
/-! # DMeth: o.m() of own classes, x, y = [..], -i -/
namespace DL
open PySem PySem.Spec PyProof.Rows L2
section
variable {X : Cx} {G : CG} {wx : WX} {o a : Expr} {go ga : Den} {pos apos : Pos} {m : Str} {C f : Addr} {k : Nat} {fd : FuncData} {ps : List Str} {fn : List D → Sto → Out D} {c : String}
def dMeth0 (c : String) (m : Str) (fn : List D → Sto → Out D) (g : Den) : Den := fun env st => (g env st).bind fun d st1 => match d with
  | .ins c' fs => if c' = c ∧ fs.lookup m = none then (fn [d] st1).nox else .bad
  | _ => .bad
theorem de_meth0 {pl : Sem Bool} (h : DE X G wx o go) (hc : G c = some C) (T : Cls X.K C) (hm : Meth X.K C m f) (F : FnOk X.prog X.w X.K X.mg X.base (L2.CX X.prog X.w) k f fd ps (spD X.K G fn)) (hr : Room k X.A) (hb : Binds X.K fd ps [])
    (ht : eval (.Call (.Attribute o m apos) [] [] pos) X.env = (do
      let ov ← eval o X.env
      standAt apos.atName
      let (f, first) ← holding [ov] (getMethod ov m pl)
      callWith pos f first (backTo pos (starEach [] X.env)) (backToKw pos (keywordEach [] X.env))) := by rfl) : DE X G wx (.Call (.Attribute o m apos) [] [] pos) (dMeth0 c m fn go) :=
  ⟨(pe_meth0 (pl := pl) h.pe T hm F hr hb .nil passL ht).imp fun σ H Q q => by
    obtain ⟨W, env, st, rfl, A, re, p⟩ := q
    refine ⟨W, env, st, rfl, A, re, Post.bind p fun d st1 W1 v _ l1 A1 r1 p1 => ?_⟩
    cases d with
    | ins c' fs =>
      have p2 : Post X.K G W1 (fun cls dd H => wx cls dd σ H) (if c' = c ∧ fs.lookup m = none then (fn [.ins c' fs] st1).nox else .bad) Q := p1
      by_cases hh : c' = c ∧ fs.lookup m = none
      · rw [if_pos hh] at p2
        obtain ⟨rfl, hl⟩ := hh
        have r2 := r1
        cases r1 with
        | @ins _ _ gs a C' dx hf gc ha hs =>
          rw [hc] at gc
          cases gc
          exact ⟨a, dx, gs, rfl, ha, hs.look_none hl, W1, [.ins c' fs], st1, rfl, A1, .cons r2 .nil, Post.nox p2⟩
      · rw [if_neg hh] at p2
        exact False.elim p2
    | _ => exact False.elim p1⟩
/-- x, y = a list -/
def gUnlD (n : Nat) (g : DenGs) : DenG := fun d env st => match d with
  | .lst ds => if ds.length = n then g ds env st else .bad
  | _ => .bad
theorem dg_unl {ts : List Expr} {g : DenGs} {n k : Nat} (hc : X.calm = true) (hs : DGs X G ts g) (hn : (assignEach ts X.env).length = n := by rfl) (hst : (assignEach ts X.env).findIdx? (·.1) = none := by rfl) : DG X G (.Tuple ts k pos) (gUnlD n g) := ⟨(pg_unl hc hs.pgs hn hst).imp fun v σ H Q q => by
  obtain ⟨W, env, d, st, rfl, A, re, rd, p⟩ := q
  cases d with
  | lst ds =>
    unfold PostG gUnlD at p
    by_cases hn : ds.length = n
    · dsimp only at p
      rw [if_pos hn] at p
      obtain ⟨a, vs, rfl, hf, ha, rs⟩ := rd.sq_lst
      exact ⟨a, vs, rfl, .inl (.inl ha), by rw [← rs.length]; exact hn, W, env, ds, st, rfl, A, re, rs, p⟩
    · dsimp only at p
      rw [if_neg hn] at p
      exact False.elim p
  | _ => exact False.elim p⟩
/-- -i -/
def kNeg : D → Sto → Out D := fun d st => match d with
  | .int i => .ok (.int (-i)) st
  | _ => .bad
theorem de_neg (h : DE X G wx a ga) : DE X G wx (.UnaryOp .USub a pos) (fun env st => (ga env st).bind kNeg) := ⟨(pe_un un_neg h.pe).imp fun σ H Q q => by
  obtain ⟨W, env, st, rfl, A, re, p⟩ := q
  refine ⟨W, env, st, rfl, A, re, Post.bind p fun d st1 W1 v _ l1 A1 r1 p1 => ?_⟩
  cases d with
  | int i =>
    cases r1
    exact ⟨i, rfl, p1 W1 _ .rfl' A1 (.int _)⟩
  | _ => exact False.elim p1⟩
end
end DL

set_option Elab.async false
set_option linter.all false
set_option maxRecDepth 100000
/-! # DLsEq: [..] != [..], lists of own instances, equal pair by pair -/
namespace DLX
open PySem PySem.SeqAt AutoSeq1 MeetsSeq MeetsSeq2 MeetsSeq3 SeqRoads2
section
variable {prog : Program} {w : World} {A : Around} {R : Result → Shared → Prop} {Z : Nat → Shared → Prop} {p q : Addr} {N : Nat}
theorem ne_turns (hl : GQ.ListI prog w A (fun e s' => R (.error e) s') p q N Z) (fin : ∀ s, Z N s → R (.ok (.ret (.bool false))) s) :
    ∀ (k i : Nat), N - i = k → i ≤ N → ∀ s, Z i s → wpAny (model prog w) A.in1 (Builtin.«list.__eq__.loop» ⟨[.ref p, .ref q, rawInt i, rawInt 3], []⟩) (GQ.FinOf prog w A R) (fun e s' => R (.error e) s') s := by
  intro k
  induction k with
  | zero =>
    intro i hk hi s hz
    obtain ⟨xs, ys, n, m, l1, l2, z1, z2, _⟩ := hl i s hz
    obtain rfl : i = N := by omega
    have done := fin s hz
    obtain ⟨hp, g, d, tk, os⟩ := s
    wp_walk using wpAny_loadPart' l1, wpAny_loadPart' l2
    have o1 : xs[((i : Nat) : Int).toNat]? = none := by simp; omega
    have o2 : ys[((i : Nat) : Int).toNat]? = none := by simp; omega
    rw [o1, o2]
    wp_walk using wpAny_loadPart' l1, wpAny_loadPart' l2
    show R (.ok (.ret (.bool (xs.size != ys.size)))) _
    rw [z1, z2]
    simpa using done
  | succ k ih =>
    intro i hk hi s hz
    obtain ⟨xs, ys, n, m, l1, l2, z1, z2, turn⟩ := hl i s hz
    have b1 : i < xs.size := by omega
    have b2 : i < ys.size := by omega
    have now := turn b1 b2
    obtain ⟨hp, g, d, tk, os⟩ := s
    wp_walk using wpAny_loadPart' l1, wpAny_loadPart' l2
    have o1 : xs[((i : Nat) : Int).toNat]? = some xs[i] := by simp [b1]
    have o2 : ys[((i : Nat) : Int).toNat]? = some ys[i] := by simp [b2]
    have up : ((i : Int) + 1) = ((i + 1 : Nat) : Int) := by omega
    rw [o1, o2]
    refine wpAny_bind (wpAny_mono now (fun r s2 ⟨hr, z⟩ => ?_) fun _ _ x => x)
    subst hr
    have more := ih (i + 1) (by omega) (by omega) s2 z
    obtain ⟨hp2, g2, d2, tk2, os2⟩ := s2
    wp_walk
    rw [up]
    exact ⟨plainId_quiet plain_eq_loop _, codeAny_builtin entry_eq_loop (by rw [Around.under_plainId plain_eq_loop _]; exact more)⟩
theorem ne_list (hl : GQ.ListI prog w A (fun e s' => R (.error e) s') p q N Z) (fin : ∀ s, Z N s → R (.ok (.ret (.bool false))) s) {s : Shared} (h : Z 0 s) :
    wpAny (model prog w) A.in1 (Builtin.«list.__ne__» ⟨[.ref p, .ref q], []⟩) (GQ.FinOf prog w A R) (fun e s' => R (.error e) s') s := by
  obtain ⟨xs, ys, n, m, l1, l2, z1, z2, _⟩ := hl 0 s h
  have all := ne_turns (A := A) (R := R) hl fin _ 0 rfl (Nat.zero_le N) s h
  obtain ⟨hp, g, d, tk, os⟩ := s
  have f3 := AutoSeq1.sub_list_list
  have same : ¬ (xs.size != ys.size) = true := by simp [z1, z2]
  wp_walk using wpAny_loadPart' l1, wpAny_loadPart' l2
  exact ⟨plainId_quiet plain_eq_loop _, codeAny_builtin entry_eq_loop (by rw [Around.under_plainId plain_eq_loop _]; exact all)⟩
end
theorem rc_ne {prog : Program} {w : World} {A : Around} {E : Value → Shared → Prop} {s : Shared} {p q : Addr} {N : Nat} {Q : Value → Shared → Prop} {Z : Nat → Shared → Prop} (hu : A.units < cLine) (hl : GQ.ListI prog w A E p q N Z)
    (fin : ∀ s, Z N s → Q (.bool false) s) (h : Z 0 s) : wpAny (model prog w) A (richCompare .NotEq (.ref p) (.ref q)) Q E s := by
  obtain ⟨xs, ys, n, m, l1, l2, _, _, _⟩ := hl 0 s h
  refine wpAny_richCompare_same_room (op := .NotEq) ⟨_, l1, rfl⟩ ⟨_, l2, rfl⟩ F.slot_list_ne (GQ.call_here F.slot_list_ne ⟨_, l1, rfl⟩ F.entry_list_ne (F.args_list_ne_2 _ _) ?_) hu
  exact ne_list (R := wants (fun v s' => v ≠ .notImplemented ∧ Q v s') E) hl (fun s' z => ⟨(fun x => nomatch x), fin s' z⟩) h
end DLX
namespace DL
open PySem PySem.Spec PyProof.Rows L2
open Classical in
/-- xs != ys: no, if the two are instances of one own class each, and equal by its __eq__ -/
noncomputable def fNeL (cs : List String) (fn : List D → Sto → Out D) : F2 := fun d e st => match d, e with
  | .lst ds, .lst es => if ds.length = es.length ∧ ∀ (i : Nat) (d e : D), ds[i]? = some d → es[i]? = some e → ∃ c fs gs, d = .ins c fs ∧ e = .ins c gs ∧ c ∈ cs ∧ fn [d, e] st = .ok (.bl true) st then .ok (.bl false) st else .bad
  | _, _ => .bad
theorem nox_neL {cs : List String} {fn : List D → Sto → Out D} : NoX2 (fNeL cs fn) := fun d e st c fs st' q => by
  unfold fNeL at q
  split at q
  · split at q <;> cases q
  · cases q
section
variable {X : Cx} {G : CG} {cs : List String} {fn : List D → Sto → Out D} {k : Nat} {f : Addr}
theorem o_neL (hC : ∀ c ∈ cs, ∀ C, G c = some C → EqK X.K C f) (F : FnB X.prog X.w X.K X.mg X.base (L2.CX X.prog X.w) k f 2 [] (spD X.K G fn)) (hr : Room (k + 1) X.A) : OpR X (compareOp .NotEq) (r2 X.K G (fNeL cs fn)) := by
  intro pins s σ H x y v u Q I rx ry q
  obtain ⟨W, d, e, st, rfl, A, r1, r2, p⟩ := q
  unfold fNeL at p
  split at p
  · rename_i ds es
    split at p
    · rename_i hh
      obtain ⟨hlen, hall⟩ := hh
      obtain ⟨a, vs, rfl, hf, ha, rs⟩ := r1.sq_lst
      obtain ⟨b, us, rfl, hf2, hb, rs2⟩ := r2.sq_lst
      cases (show v = Value.ref a from rx)
      cases (show u = Value.ref b from ry)
      show wpAny (model X.prog X.w) X.A (richCompare .NotEq (.ref a) (.ref b)) (EP X pins σ Q) X.xe s
      refine DLX.rc_ne (N := ds.length) (Z := fun _ s' => ∃ W', W.le W' ∧ Inv X pins σ W'.H s' ∧ Abs X.K G W' st) hr.units0 (fun i s' z => ?_) (fun s' z => ?_) ⟨W, .rfl', I, A⟩
      · obtain ⟨W1, l1, I1, A1⟩ := z
        obtain ⟨zz, its, n, r, e⟩ := I1.hok a _ ((l1.h a hf).trans ha)
        obtain ⟨zz2, its2, n2, r2', e2⟩ := I1.hok b _ ((l1.h b hf2).trans hb)
        refine ⟨its.toArray, its2.toArray, n, n2, e, e2, by rw [List.size_toArray, ← r.length, ← rs.length], by rw [List.size_toArray, ← r2'.length, ← rs2.length, hlen], fun h1 h2 => ?_⟩
        have g1 : its[i]? = some its.toArray[i] := by
          have h1' : i < its.length := by simpa using h1
          rw [List.getElem?_eq_getElem h1']; simp
        have g2 : its2[i]? = some its2.toArray[i] := by
          have h2' : i < its2.length := by simpa using h2
          rw [List.getElem?_eq_getElem h2']; simp
        have k1 : i < ds.length := by rw [rs.length, r.length]; simpa using h1
        have k2 : i < es.length := by rw [rs2.length, r2'.length]; simpa using h2
        obtain ⟨x1, hx1, rx1⟩ := rs.get (List.getElem?_eq_getElem k1)
        obtain ⟨y1, hy1, ry1⟩ := rs2.get (List.getElem?_eq_getElem k2)
        obtain ⟨u1, hu1, ru1⟩ := r.get hx1
        obtain ⟨v1, hv1, rv1⟩ := r2'.get hy1
        rw [g1] at hu1
        rw [g2] at hv1
        rw [Option.some.inj hu1, Option.some.inj hv1]
        obtain ⟨c, fs, gs, ed, ee, hc, hfn⟩ := hall i _ _ (List.getElem?_eq_getElem k1) (List.getElem?_eq_getElem k2)
        rw [ed, ee] at hfn
        rw [ed] at rx1
        rw [ee] at ry1
        have rx2 := rx1.up l1
        have ry2 := ry1.up l1
        cases rx2 with
        | @ins _ _ gs1 a1 C1 dx1 hf1 gc1 ha1 hs1 =>
          cases ry2 with
          | @ins _ _ gs2 a2 C2 dx2 hf3 gc2 ha2 hs2 =>
            rw [gc1] at gc2
            cases gc2
            cases (show u1 = Value.ref a1 from ru1)
            cases (show v1 = Value.ref a2 from rv1)
            by_cases hab : a1 = a2
            · subst hab
              exact SeqAt.EqAt.same (A := X.A.in1) (s := s') (.ref a1) X.prog X.w X.xe _ ⟨rfl, W1, l1, I1, A1⟩
            · have T := hC c hc C1 gc1
              obtain ⟨mA, J, _⟩ := ins_get I1.hok ha1
              obtain ⟨mB, J', _⟩ := ins_get I1.hok ha2
              obtain ⟨od, J, _⟩ := J.look
              obtain ⟨od', J', _⟩ := J'.look
              obtain ⟨m, FR⟩ := I1.fr
              refine GQ.eqBool_refG hab (PySem.W.cmp_K (op := .Eq) (tb := .ref C1) hr.in1.units0 FR I1.ok.mod.kin J J'.type (by simp [PySem.W.notFirst]) T.eq T.fn ?_)
              have post : Post X.K G W1 E0 (fn [.ins c fs, .ins c gs] st) (fun z H1 => z = .bl true ∧ ∃ W', W.le W' ∧ W'.H = H1 ∧ Abs X.K G W' st) := by
                rw [hfn]
                intro W' z l a' rr
                cases rr
                exact ⟨rfl, W', l1.trans l, rfl, a'⟩
              refine thn (run_two (vs := [.ref a1, .ref a2]) (us := [.ref a1, .ref a2]) F hr.in1 rfl I1 A1 (.cons (.ins hf1 gc1 ha1 hs1) (.cons (.ins hf3 gc1 ha2 hs2) .nil)) (.cons rfl (.cons rfl .nil)) rfl post) fun w s1 hw => ?_
              obtain ⟨z, H1, I2, rz, rfl, W', l', rfl, A'⟩ := hw
              cases (show w = Value.bool true from rz)
              exact ⟨true, rfl, rfl, W', l', I2, A'⟩
      · obtain ⟨W1, l1, I1, A1⟩ := z
        exact ⟨.bl false, W1.H, I1, rfl, p W1 _ l1 A1 (.bl false)⟩
    · exact False.elim p
  · exact False.elim p
end
end DL

set_option Elab.async false
set_option linter.all false
set_option maxRecDepth 100000
/-! # DPen: what the drawing pen's mirrors answer -/
namespace DL
open PySem PySem.Spec PyProof.Rows L2 StX NdefX
section
variable {env : DEnv} {st st1 st2 st3 : Sto} {a b : Den} {x y z : D} {f : F2} {i j : Int}
theorem bs_bin (ha : a env st = .ok x st1) (hb : b env st1 = .ok y st2) (hf : f x y st2 = .ok z st3) : dBin f a b env st = .ok z st3 := by
  unfold dBin
  rw [ha]
  show (b env st1).bind _ = _
  rw [hb]
  exact hf
theorem bs_int1 (ha : a env st = .ok (.int i) st1) : dCall fInt1 (dCons a dNil) env st = .ok (.int i) st1 := by
  unfold dCall dCons
  rw [ha]
  rfl
theorem bs_c {d : D} : dC d env st = .ok d st := rfl
theorem add_i : fAdd (.int i) (.int j) st = .ok (.int (i + j)) st := rfl
theorem sub_i : fSub (.int i) (.int j) st = .ok (.int (i - j)) st := rfl
theorem mul_i (h : small2 i j = true) : fMul (.int i) (.int j) st = .ok (.int (i * j)) st := by
  unfold fMul orF fInt
  dsimp only
  rw [if_pos h]
theorem mod_i (h : 0 < j) : fMod (.int i) (.int j) st = .ok (.int (i % j)) st := by
  unfold fMod fInt
  dsimp only
  rw [if_pos (decide_eq_true h)]
theorem div_i (h : 0 < j ∧ j < 1073741824) : fDiv (.int i) (.int j) st = .ok (.int (i / j)) st := by
  unfold fDiv fInt
  dsimp only
  rw [if_pos (decide_eq_true h)]
theorem pow_i (h : 0 ≤ j ∧ j ≤ 1000 ∧ i.natAbs < 18446744073709551616) : fPow (.int i) (.int j) st = .ok (.int (i ^ j.toNat)) st := by
  unfold fPow fInt
  dsimp only
  rw [if_pos (decide_eq_true h)]
theorem small_r (h : -18446744073709551616 < j ∧ j < 18446744073709551616) : small2 i j = true := by
  unfold small2
  rw [decide_eq_true h, Bool.or_true]
theorem ix0 {k : Nat} {s : Int} (h : st.m k = some (.lst [.int s])) : fIx (.ref k) (.int 0) st = .ok (.int s) st := by
  unfold fIx
  dsimp only
  rw [h]
  rfl
end
/-- the draw's body -/
def bDraw : DenS :=
  (sSeq (sIf (fun env st => toB (dBin fLt (dVar 1) (dC (.int 1)) env st)) (sSeq (sRet (dC (.int 0)))
    sNil) sNil)
    (sSeq (sAsg (dBin fMod (dCall fInt1 (dCons (dBin fAdd (dBin fMul (dBin fIx (dVar 0) (dC (.int 0))) (dC (.int 6364136223846793005))) (dC (.int 1442695040888963407))) dNil)) (dBin fPow (dC (.int 2)) (dC (.int 64)))) (gCell (dVar 0) (dC (.int 0))))
    (sSeq (sRet (dBin fMod (dCall fInt1 (dCons (dBin fDiv (dBin fIx (dVar 0) (dC (.int 0))) (dC (.int 65537))) dNil)) (dVar 1)))
    sNil)))
/-- the pen lies at 0 -/
def PenAt (st : Sto) : Prop := 1 ≤ st.n ∧ ∃ s : Int, st.m 0 = some (.lst [.int s])
theorem draw_law {st : Sto} {j : Int} (hj : 1 ≤ j) (h : PenAt st) : ∃ (i : Int) (st' : Sto), mk 2 2 bDraw [.ref 0, .int j] st = .ok (.int i) st' ∧ 0 ≤ i ∧ i < j ∧ PenAt st' := by
  obtain ⟨hn, s, hs⟩ := h
  have e1 : toB (dBin fLt (dVar 1) (dC (.int 1)) [some (.ref 0), some (.int j)] st) = .ok false st := by
    show Out.ok (decide (j < 1)) st = _
    rw [decide_eq_false (by omega)]
  have e2 : dBin fMod (dCall fInt1 (dCons (dBin fAdd (dBin fMul (dBin fIx (dVar 0) (dC (.int 0))) (dC (.int 6364136223846793005))) (dC (.int 1442695040888963407))) dNil)) (dBin fPow (dC (.int 2)) (dC (.int 64))) [some (.ref 0), some (.int j)] st = .ok (.int ((s * 6364136223846793005 + 1442695040888963407) % 2 ^ 64)) st :=
    bs_bin (bs_int1 (bs_bin (bs_bin (bs_bin rfl rfl (ix0 hs)) bs_c (mul_i (small_r (by decide)))) bs_c add_i)) (bs_bin bs_c bs_c (pow_i (by decide))) (mod_i (by decide))
  generalize (s * 6364136223846793005 + 1442695040888963407) % 2 ^ 64 = t at e2
  have e3 : gCell (dVar 0) (dC (.int 0)) (.int t) [some (.ref 0), some (.int j)] st = .ok [some (.ref 0), some (.int j)] (st.set 0 (.lst [.int t])) := by
    show (match st.m 0 with
      | some (.lst l) => (match ixN l.length 0 with | some j => Out.ok _ (st.set 0 (.lst (l.set j (.int t)))) | none => .bad)
      | _ => .bad) = _
    rw [hs]
    rfl
  have hm : (st.set 0 (.lst [.int t])).m 0 = some (.lst [.int t]) := rfl
  have e4 : dBin fMod (dCall fInt1 (dCons (dBin fDiv (dBin fIx (dVar 0) (dC (.int 0))) (dC (.int 65537))) dNil)) (dVar 1) [some (.ref 0), some (.int j)] (st.set 0 (.lst [.int t])) = .ok (.int (t / 65537 % j)) (st.set 0 (.lst [.int t])) :=
    bs_bin (bs_int1 (bs_bin (bs_bin rfl rfl (ix0 hm)) bs_c (div_i (by decide)))) rfl (mod_i (by omega))
  refine ⟨t / 65537 % j, st.set 0 (.lst [.int t]), ?_, Int.emod_nonneg _ (by omega), Int.emod_lt_of_pos _ (by omega), hn, t, hm⟩
  show runBody 2 bDraw [.ref 0, .int j] st = _
  unfold runBody bDraw
  show (match (((toB (dBin fLt (dVar 1) (dC (.int 1)) [some (.ref 0), some (.int j)] st)).go _ _).seq _ : SOut) with | .nx _ st1 => Out.ok D.non st1 | .rt d st1 => .ok d st1 | .exc c fs _ st1 => .exc c fs st1 | _ => .bad) = _
  rw [e1]
  show (match ((((dBin fMod _ _ [some (.ref 0), some (.int j)] st).go _ _ : SOut)).seq _ : SOut) with | .nx _ st1 => Out.ok D.non st1 | .rt d st1 => .ok d st1 | .exc c fs _ st1 => .exc c fs st1 | _ => .bad) = _
  rw [e2]
  show (match (((match gCell (dVar 0) (dC (.int 0)) (.int t) [some (.ref 0), some (.int j)] st with | .ok env1 st2 => .nx env1 st2 | _ => .bad : SOut)).seq _ : SOut) with | .nx _ st1 => Out.ok D.non st1 | .rt d st1 => .ok d st1 | .exc c fs _ st1 => .exc c fs st1 | _ => .bad) = _
  rw [e3]
  show (match ((((dBin fMod _ _ [some (.ref 0), some (.int j)] (st.set 0 (.lst [.int t]))).go _ _ : SOut)).seq _ : SOut) with | .nx _ st1 => Out.ok D.non st1 | .rt d st1 => .ok d st1 | .exc c fs _ st1 => .exc c fs st1 | _ => .bad) = _
  rw [e4]
  rfl
/-- the pen's body -/
def bPen (c : Int) : DenS :=
  (sSeq (sAsg (dC (.int c)) (gN 1))
    (sSeq (sFor (iSeq (dVar 0)) (gN 2) (sSeq (sAsg (dBin fMod (dCall fInt1 (dCons (dBin fAdd (dBin fAdd (dBin fMul (dVar 1) (dC (.int 1000003))) (dBin fMod (dCall fInt1 (dCons (dVar 2) dNil)) (dBin fPow (dC (.int 10)) (dC (.int 18))))) (dC (.int 9247))) dNil)) (dBin fSub (dBin fPow (dC (.int 2)) (dC (.int 61))) (dC (.int 1)))) (gN 1))
    sNil))
    (sSeq (sRet (dNew (dCons (dVar 1) dNil)))
    sNil)))
theorem pen_run {gb : DenS} (hb : ∀ (r : D) (s i : Int) (st : Sto), ∃ t : Int, gb [some r, some (.int s), some (.int i)] st = .nx [some r, some (.int t), some (.int i)] st) (r : D) (st : Sto) :
    ∀ (ns : List Int) (s : Int) (e : Option D), ∃ (t : Int) (e' : Option D), forRun (gN 2) gb (ns.map D.int) [some r, some (.int s), e] st = .nx [some r, some (.int t), e'] st
  | [], s, e => ⟨s, e, rfl⟩
  | i :: ns, s, e => by
    obtain ⟨t, ht⟩ := hb r s i st
    obtain ⟨u, e', hu⟩ := pen_run hb r st ns t (some (.int i))
    refine ⟨u, e', ?_⟩
    show (match gb [some r, some (.int s), some (.int i)] st with
      | .nx env2 st2 => forRun (gN 2) gb (ns.map D.int) env2 st2
      | .ct env2 st2 => forRun (gN 2) gb (ns.map D.int) env2 st2
      | .bk env2 st2 => .nx env2 st2
      | .bad => .bad
      | .rt d st2 => .rt d st2
      | .exc c fs env2 st2 => .exc c fs env2 st2 : SOut) = _
    rw [ht]
    exact hu
theorem pen_law {c : Int} (ns : List Int) : ∃ st', mk 1 3 (bPen c) [.rdl (ns.map D.int)] ⟨0, fun _ => none⟩ = .ok (.ref 0) st' ∧ PenAt st' := by
  obtain ⟨t, e', h⟩ := pen_run (gb := (sSeq (sAsg (dBin fMod (dCall fInt1 (dCons (dBin fAdd (dBin fAdd (dBin fMul (dVar 1) (dC (.int 1000003))) (dBin fMod (dCall fInt1 (dCons (dVar 2) dNil)) (dBin fPow (dC (.int 10)) (dC (.int 18))))) (dC (.int 9247))) dNil)) (dBin fSub (dBin fPow (dC (.int 2)) (dC (.int 61))) (dC (.int 1)))) (gN 1)) sNil)) (fun r s i st => by
    have e2 : dBin fMod (dCall fInt1 (dCons (dBin fAdd (dBin fAdd (dBin fMul (dVar 1) (dC (.int 1000003))) (dBin fMod (dCall fInt1 (dCons (dVar 2) dNil)) (dBin fPow (dC (.int 10)) (dC (.int 18))))) (dC (.int 9247))) dNil)) (dBin fSub (dBin fPow (dC (.int 2)) (dC (.int 61))) (dC (.int 1))) [some r, some (.int s), some (.int i)] st = .ok (.int ((s * 1000003 + i % 10 ^ 18 + 9247) % (2 ^ 61 - 1))) st :=
      bs_bin (bs_int1 (bs_bin (bs_bin (bs_bin rfl bs_c (mul_i (small_r (by decide)))) (bs_bin (bs_int1 rfl) (bs_bin bs_c bs_c (pow_i (by decide))) (mod_i (by decide))) add_i) bs_c add_i)) (bs_bin (bs_bin bs_c bs_c (pow_i (by decide))) bs_c sub_i) (mod_i (by decide))
    refine ⟨(s * 1000003 + i % 10 ^ 18 + 9247) % (2 ^ 61 - 1), ?_⟩
    unfold sSeq sAsg
    rw [e2]
    rfl) (.rdl (ns.map D.int)) ⟨0, fun _ => none⟩ ns c none
  refine ⟨(⟨0, fun _ => none⟩ : Sto).new (.lst [.int t]), ?_, Nat.le_refl _, t, rfl⟩
  show runBody 3 (bPen c) [.rdl (ns.map D.int)] ⟨0, fun _ => none⟩ = _
  unfold runBody bPen
  show (match ((forRun (gN 2) _ (ns.map D.int) [some (.rdl (ns.map D.int)), some (.int c), none] ⟨0, fun _ => none⟩).seq _ : SOut) with | .nx _ st1 => Out.ok D.non st1 | .rt d st1 => .ok d st1 | .exc c fs _ st1 => .exc c fs st1 | _ => .bad) = _
  rw [h]
  rfl
end DL

set_option Elab.async false
set_option linter.all false
set_option maxRecDepth 100000
/-! # DPenK: the pen of any law -/
namespace DL
open PySem PySem.Spec PyProof.Rows L2 StX NdefX
/-- the pen's body, for any two constants -/
def bPenK (c k : Int) : DenS :=
  (sSeq (sAsg (dC (.int c)) (gN 1))
    (sSeq (sFor (iSeq (dVar 0)) (gN 2) (sSeq (sAsg (dBin fMod (dCall fInt1 (dCons (dBin fAdd (dBin fAdd (dBin fMul (dVar 1) (dC (.int 1000003))) (dBin fMod (dCall fInt1 (dCons (dVar 2) dNil)) (dBin fPow (dC (.int 10)) (dC (.int 18))))) (dC (.int k))) dNil)) (dBin fSub (dBin fPow (dC (.int 2)) (dC (.int 61))) (dC (.int 1)))) (gN 1))
    sNil))
    (sSeq (sRet (dNew (dCons (dVar 1) dNil)))
    sNil)))
theorem pen_lawK {c k : Int} (ns : List Int) : ∃ st', mk 1 3 (bPenK c k) [.rdl (ns.map D.int)] ⟨0, fun _ => none⟩ = .ok (.ref 0) st' ∧ PenAt st' := by
  obtain ⟨t, e', h⟩ := pen_run (gb := (sSeq (sAsg (dBin fMod (dCall fInt1 (dCons (dBin fAdd (dBin fAdd (dBin fMul (dVar 1) (dC (.int 1000003))) (dBin fMod (dCall fInt1 (dCons (dVar 2) dNil)) (dBin fPow (dC (.int 10)) (dC (.int 18))))) (dC (.int k))) dNil)) (dBin fSub (dBin fPow (dC (.int 2)) (dC (.int 61))) (dC (.int 1)))) (gN 1)) sNil)) (fun r s i st => by
    have e2 : dBin fMod (dCall fInt1 (dCons (dBin fAdd (dBin fAdd (dBin fMul (dVar 1) (dC (.int 1000003))) (dBin fMod (dCall fInt1 (dCons (dVar 2) dNil)) (dBin fPow (dC (.int 10)) (dC (.int 18))))) (dC (.int k))) dNil)) (dBin fSub (dBin fPow (dC (.int 2)) (dC (.int 61))) (dC (.int 1))) [some r, some (.int s), some (.int i)] st = .ok (.int ((s * 1000003 + i % 10 ^ 18 + k) % (2 ^ 61 - 1))) st :=
      bs_bin (bs_int1 (bs_bin (bs_bin (bs_bin rfl bs_c (mul_i (small_r (by decide)))) (bs_bin (bs_int1 rfl) (bs_bin bs_c bs_c (pow_i (by decide))) (mod_i (by decide))) add_i) bs_c add_i)) (bs_bin (bs_bin bs_c bs_c (pow_i (by decide))) bs_c sub_i) (mod_i (by decide))
    refine ⟨(s * 1000003 + i % 10 ^ 18 + k) % (2 ^ 61 - 1), ?_⟩
    unfold sSeq sAsg
    rw [e2]
    rfl) (.rdl (ns.map D.int)) ⟨0, fun _ => none⟩ ns c none
  refine ⟨(⟨0, fun _ => none⟩ : Sto).new (.lst [.int t]), ?_, Nat.le_refl _, t, rfl⟩
  show runBody 3 (bPenK c k) [.rdl (ns.map D.int)] ⟨0, fun _ => none⟩ = _
  unfold runBody bPenK
  show (match ((forRun (gN 2) _ (ns.map D.int) [some (.rdl (ns.map D.int)), some (.int c), none] ⟨0, fun _ => none⟩).seq _ : SOut) with | .nx _ st1 => Out.ok D.non st1 | .rt d st1 => .ok d st1 | .exc c fs _ st1 => .exc c fs st1 | _ => .bad) = _
  rw [h]
  rfl
end DL

set_option Elab.async false
set_option linter.all false
set_option maxRecDepth 100000
/-! # DBig: what mirrors answer, piece by piece -/
namespace DL
open PySem PySem.Spec PyProof.Rows L2
section
variable {g h : Den} {ga r : DenA} {t u : DenB} {gs gr : DenS} {env e1 : DEnv} {st st1 st2 st3 : Sto} {x y d : D} {xs ds ys : List D} {fn : List D → Sto → Out D} {o : Out D} {so : SOut} {b : Bool} {i n m : Nat}
theorem bg_var (h : env[i]? = some (some d)) : dVar i env st = .ok d st := by unfold dVar; rw [h]
theorem bg_cons (h : g env st = .ok x st1) (h' : r env st1 = .ok xs st2) : dCons g r env st = .ok (x :: xs) st2 := by
  unfold dCons
  rw [h]
  show (r env st1).bind _ = _
  rw [h']
  rfl
theorem bg_len (h : ga env st = .ok xs st1) (hl : xs.length = n) : aLen n ga env st = .ok xs st1 := by
  unfold aLen
  rw [h]
  exact if_pos hl
theorem bg_call (h : ga env st = .ok xs st1) (h' : fn xs st1 = o) : dCall fn ga env st = o := by
  unfold dCall
  rw [h]
  exact h'
theorem bg_lst (h : ga env st = .ok xs st1) (hl : xs.length ≤ 10000000) : dLst ga env st = .ok (.lst xs) st1 := by
  unfold dLst
  rw [h]
  exact if_pos hl
theorem bg_tup (h : ga env st = .ok xs st1) (hl : xs.length ≤ 10000000) : dTup ga env st = .ok (.tup xs) st1 := by
  unfold dTup
  rw [h]
  exact if_pos hl
theorem bg_bind {k : D → Sto → Out D} (h : g env st = .ok x st1) (h' : k x st1 = o) : (g env st).bind k = o := by rw [h]; exact h'
theorem bg_bin {f : F2} (ha : g env st = .ok x st1) (hb : h env st1 = .ok y st2) (hf : f x y st2 = o) : dBin f g h env st = o := by
  unfold dBin
  rw [ha]
  show (h env st1).bind _ = _
  rw [hb]
  exact hf
theorem bg_toB (h : g env st = .ok (.bl b) st1) : toB (g env st) = .ok b st1 := by rw [h]; rfl
theorem bg_or (h : t env st = .ok b st1) (h' : (if b = true then Out.ok true st1 else u env st1) = .ok true st2 ∨ (if b = true then Out.ok true st1 else u env st1) = .ok false st2) : bOr t u env st = (if b = true then Out.ok true st1 else u env st1) := by
  unfold bOr
  rw [h]
  rfl
theorem bg_orT (h : t env st = .ok true st1) : bOr t u env st = .ok true st1 := by unfold bOr; rw [h]; rfl
theorem bg_orF (h : t env st = .ok false st1) (h' : u env st1 = .ok b st2) : bOr t u env st = .ok b st2 := by unfold bOr; rw [h]; exact h'
theorem bg_not (h : t env st = .ok b st1) : bNot t env st = .ok (!b) st1 := by unfold bNot; rw [h]; rfl
theorem bg_if (h1 : t env st = .ok b st1) (h2 : (if b = true then g env st1 else h env st1) = o) : dIf t g h env st = o := by unfold dIf; rw [h1]; exact h2
theorem sg_seq (h : gs env st = .nx e1 st1) (h' : gr e1 st1 = so) : sSeq gs gr env st = so := by unfold sSeq; rw [h]; exact h'
theorem sg_rt (h : gs env st = .rt d st1) : sSeq gs gr env st = .rt d st1 := by unfold sSeq; rw [h]; rfl
theorem sg_if (h : t env st = .ok b st1) (h' : (if b = true then gs env st1 else gr env st1) = so) : sIf t gs gr env st = so := by unfold sIf; rw [h]; exact h'
theorem sg_ret (h : g env st = .ok d st1) : sRet g env st = .rt d st1 := by unfold sRet; rw [h]; rfl
theorem sg_asgN (h : g env st = .ok x st1) : sAsg g (gN i) env st = .nx (env.set i (some x)) st1 := by unfold sAsg; rw [h]; rfl
theorem sg_run (h : gs (ds.map some ++ List.replicate (n - ds.length) none) st = .rt d st1) : runBody n gs ds st = .ok d st1 := by unfold runBody; rw [h]
theorem sg_mk (hl : ds.length = m) (h : gs (ds.map some ++ List.replicate (n - ds.length) none) st = .rt d st1) : mk m n gs ds st = .ok d st1 := by unfold mk; rw [if_pos hl]; exact sg_run h
theorem bg_lc {gi : DenA} {own : List Nat} {gt : D → DEnv → Option DEnv} {gf : DenB} (h1 : gi env st = .ok ds st1) (hl : ds.length ≤ 10000000) (h2 : lcRun gt gf g (wipeD env own) ds st1 = .ok ys st2) : dLc gi own gt gf g env st = .ok (.lst ys) st2 := by
  unfold dLc
  rw [h1]
  show (if ds.length ≤ 10000000 then (lcRun gt gf g (wipeD env own) ds st1).bind fun ys st2 => Out.ok (D.lst ys) st2 else Out.bad) = _
  rw [if_pos hl, h2]
  rfl
theorem lc_cons {gt : D → DEnv → Option DEnv} {gf : DenB} (h0 : gt x env = some e1) (h1 : gf e1 st = .ok true st1) (h2 : g e1 st1 = .ok y st2) (h3 : lcRun gt gf g env ds st2 = .ok ys st3) : lcRun gt gf g env (x :: ds) st = .ok (y :: ys) st3 := by
  show (match gt x env with
    | none => Out.bad
    | some env1 => (gf env1 st).nox.bind fun k st1 => if k = true then (g env1 st1).nox.bind fun y st2 => (lcRun gt gf g env ds st2).bind fun ys st3 => .ok (y :: ys) st3 else lcRun gt gf g env ds st1) = _
  rw [h0]
  show ((gf e1 st).nox.bind fun k st1 => if k = true then (g e1 st1).nox.bind fun y st2 => (lcRun gt gf g env ds st2).bind fun ys st3 => .ok (y :: ys) st3 else lcRun gt gf g env ds st1) = _
  rw [h1]
  show ((g e1 st1).nox.bind fun y st2 => (lcRun gt gf g env ds st2).bind fun ys st3 => .ok (y :: ys) st3) = _
  rw [h2]
  show ((lcRun gt gf g env ds st2).bind fun ys st3 => .ok (y :: ys) st3) = _
  rw [h3]
  rfl
theorem lc_skip {gt : D → DEnv → Option DEnv} {gf : DenB} (h0 : gt x env = some e1) (h1 : gf e1 st = .ok false st1) (h3 : lcRun gt gf g env ds st1 = .ok ys st3) : lcRun gt gf g env (x :: ds) st = .ok ys st3 := by
  show (match gt x env with
    | none => Out.bad
    | some env1 => (gf env1 st).nox.bind fun k st1 => if k = true then (g env1 st1).nox.bind fun y st2 => (lcRun gt gf g env ds st2).bind fun ys st3 => .ok (y :: ys) st3 else lcRun gt gf g env ds st1) = _
  rw [h0]
  show ((gf e1 st).nox.bind fun k st1 => if k = true then (g e1 st1).nox.bind fun y st2 => (lcRun gt gf g env ds st2).bind fun ys st3 => .ok (y :: ys) st3 else lcRun gt gf g env ds st1) = _
  rw [h1]
  exact h3
theorem for_cons {gt : DenG} (h0 : gt x env st = .ok e1 st1) {e2 : DEnv} (h1 : gs e1 st1 = .nx e2 st2) (h2 : forRun gt gs ds e2 st2 = so) : forRun gt gs (x :: ds) env st = so := by
  unfold forRun
  rw [h0]
  show (match gs e1 st1 with
    | .nx env2 st2 => forRun gt gs ds env2 st2
    | .ct env2 st2 => forRun gt gs ds env2 st2
    | .bk env2 st2 => .nx env2 st2
    | .bad => .bad
    | .rt d st2 => .rt d st2
    | .exc c fs env2 st2 => .exc c fs env2 st2 : SOut) = _
  rw [h1]
  exact h2
theorem sg_for {gi : DenA} {gt : DenG} (h1 : gi env st = .ok ds st1) (h2 : forRun gt gs ds env st1 = so) : sFor gi gt gs env st = so := by unfold sFor; rw [h1]; exact h2
end
/-- later: nothing that stood is otherwise -/
def Le (st st' : Sto) : Prop := st.n ≤ st'.n ∧ ∀ j, j < st.n → st'.m j = st.m j
theorem Le.refl {st : Sto} : Le st st := ⟨Nat.le_refl _, fun _ _ => rfl⟩
theorem Le.trans {a b c : Sto} (h : Le a b) (h' : Le b c) : Le a c := ⟨Nat.le_trans h.1 h'.1, fun j hj => (h'.2 j (Nat.lt_of_lt_of_le hj h.1)).trans (h.2 j hj)⟩
theorem Le.pen {st st' : Sto} (h : Le st st') (p : PenAt st) : PenAt st' := by
  obtain ⟨h1, s, h2⟩ := p
  exact ⟨Nat.le_trans h1 h.1, s, (h.2 0 h1).trans h2⟩
end DL

set_option Elab.async false
set_option linter.all false
set_option maxRecDepth 100000
/-! # DEv: what mirrors answer in every store, which then only grows -/
namespace DL
open PySem PySem.Spec PyProof.Rows L2
def FV (fn : List D → Sto → Out D) (xs : List D) (d : D) : Prop := ∀ st, ∃ st', fn xs st = .ok d st' ∧ Le st st'
def F2V (f : F2) (x y z : D) : Prop := ∀ st, ∃ st', f x y st = .ok z st' ∧ Le st st'
def EV (g : Den) (env : DEnv) (x : D) : Prop := ∀ st, ∃ st', g env st = .ok x st' ∧ Le st st'
def EVA (g : DenA) (env : DEnv) (xs : List D) : Prop := ∀ st, ∃ st', g env st = .ok xs st' ∧ Le st st'
def EVB (g : DenB) (env : DEnv) (b : Bool) : Prop := ∀ st, ∃ st', g env st = .ok b st' ∧ Le st st'
def EVS (g : DenS) (env env' : DEnv) : Prop := ∀ st, ∃ st', g env st = .nx env' st' ∧ Le st st'
section
variable {g h : Den} {ga r gi : DenA} {t u gf : DenB} {gs gr : DenS} {env e1 e2 : DEnv} {x y z d : D} {xs ds ys : List D} {fn : List D → Sto → Out D} {b c : Bool} {i n : Nat} {f : F2} {own : List Nat} {gt : D → DEnv → Option DEnv}
theorem fv (h : ∀ st, fn xs st = .ok d st) : FV fn xs d := fun st => ⟨st, h st, .refl⟩
theorem f2v (h : ∀ st, f x y st = .ok z st) : F2V f x y z := fun st => ⟨st, h st, .refl⟩
theorem ev (h : ∀ st, g env st = .ok x st) : EV g env x := fun st => ⟨st, h st, .refl⟩
theorem evb (h : ∀ st, t env st = .ok b st) : EVB t env b := fun st => ⟨st, h st, .refl⟩
theorem evs (h : ∀ st, gs env st = .nx e1 st) : EVS gs env e1 := fun st => ⟨st, h st, .refl⟩
theorem ev_var (h : env[i]? = some (some d)) : EV (dVar i) env d := ev fun _ => bg_var h
theorem ev_c : EV (dC d) env d := ev fun _ => rfl
theorem ev_nil : EVA dNil env [] := fun st => ⟨st, rfl, .refl⟩
theorem ev_cons (h1 : EV g env x) (h2 : EVA r env xs) : EVA (dCons g r) env (x :: xs) := fun st => by
  obtain ⟨s1, a1, l1⟩ := h1 st
  obtain ⟨s2, a2, l2⟩ := h2 s1
  exact ⟨s2, bg_cons a1 a2, l1.trans l2⟩
theorem ev_len (h : EVA ga env xs) (hl : xs.length = n) : EVA (aLen n ga) env xs := fun st => by
  obtain ⟨s1, a1, l1⟩ := h st
  exact ⟨s1, bg_len a1 hl, l1⟩
theorem ev_call (h : EVA ga env xs) (h' : FV fn xs d) : EV (dCall fn ga) env d := fun st => by
  obtain ⟨s1, a1, l1⟩ := h st
  obtain ⟨s2, a2, l2⟩ := h' s1
  exact ⟨s2, bg_call a1 a2, l1.trans l2⟩
theorem ev_lst (h : EVA ga env xs) (hl : xs.length ≤ 10000000) : EV (dLst ga) env (.lst xs) := fun st => by
  obtain ⟨s1, a1, l1⟩ := h st
  exact ⟨s1, bg_lst a1 hl, l1⟩
theorem ev_tup (h : EVA ga env xs) (hl : xs.length ≤ 10000000) : EV (dTup ga) env (.tup xs) := fun st => by
  obtain ⟨s1, a1, l1⟩ := h st
  exact ⟨s1, bg_tup a1 hl, l1⟩
theorem ev_bin (h1 : EV g env x) (h2 : EV h env y) (h3 : F2V f x y z) : EV (dBin f g h) env z := fun st => by
  obtain ⟨s1, a1, l1⟩ := h1 st
  obtain ⟨s2, a2, l2⟩ := h2 s1
  obtain ⟨s3, a3, l3⟩ := h3 s2
  exact ⟨s3, bg_bin a1 a2 a3, l1.trans (l2.trans l3)⟩
theorem ev_bind {k : D → Sto → Out D} (h : EV g env x) (h' : ∀ st, k x st = .ok y st) : EV (fun env st => (g env st).bind k) env y := fun st => by
  obtain ⟨s1, a1, l1⟩ := h st
  exact ⟨s1, bg_bind a1 (h' s1), l1⟩
theorem ev_if (h1 : EVB t env b) (h2 : if b = true then EV g env x else EV h env x) : EV (dIf t g h) env x := fun st => by
  obtain ⟨s1, a1, l1⟩ := h1 st
  cases b with
  | true => obtain ⟨s2, a2, l2⟩ := h2 s1; exact ⟨s2, bg_if a1 a2, l1.trans l2⟩
  | false => obtain ⟨s2, a2, l2⟩ := h2 s1; exact ⟨s2, bg_if a1 a2, l1.trans l2⟩
theorem evb_toB (h : EV g env (.bl b)) : EVB (fun env st => toB (g env st)) env b := fun st => by
  obtain ⟨s1, a1, l1⟩ := h st
  exact ⟨s1, bg_toB a1, l1⟩
theorem evb_or (h1 : EVB t env b) (h2 : EVB u env c) : EVB (bOr t u) env (b || c) := fun st => by
  obtain ⟨s1, a1, l1⟩ := h1 st
  cases b with
  | true => exact ⟨s1, bg_orT a1, l1⟩
  | false => obtain ⟨s2, a2, l2⟩ := h2 s1; exact ⟨s2, bg_orF a1 a2, l1.trans l2⟩
theorem evb_not (h : EVB t env b) : EVB (bNot t) env (!b) := fun st => by
  obtain ⟨s1, a1, l1⟩ := h st
  exact ⟨s1, bg_not a1, l1⟩
theorem ev_and {h : Den} (h1 : EV g env (.bl true)) (h2 : EV h env x) : EV (dAnd g h) env x := fun st => by
  obtain ⟨s1, a1, l1⟩ := h1 st
  obtain ⟨s2, a2, l2⟩ := h2 s1
  refine ⟨s2, ?_, l1.trans l2⟩
  unfold dAnd
  rw [bg_toB a1]
  exact a2
theorem ev_not (h1 : EV g env (.bl b)) : EV (dNot g) env (.bl (!b)) := fun st => by
  obtain ⟨s1, a1, l1⟩ := h1 st
  refine ⟨s1, ?_, l1⟩
  unfold dNot
  rw [bg_toB a1]
  rfl
/-- a comprehension's turns -/
def EVL (gt : D → DEnv → Option DEnv) (gf : DenB) (g : Den) (env : DEnv) (ds ys : List D) : Prop := ∀ st, ∃ st', lcRun gt gf g env ds st = .ok ys st' ∧ Le st st'
theorem evl_nil : EVL gt gf g env [] [] := fun st => ⟨st, rfl, .refl⟩
theorem evl_cons (h0 : gt x env = some e1) (h1 : EVB gf e1 true) (h2 : EV g e1 y) (h3 : EVL gt gf g env ds ys) : EVL gt gf g env (x :: ds) (y :: ys) := fun st => by
  obtain ⟨s1, a1, l1⟩ := h1 st
  obtain ⟨s2, a2, l2⟩ := h2 s1
  obtain ⟨s3, a3, l3⟩ := h3 s2
  exact ⟨s3, lc_cons h0 a1 a2 a3, l1.trans (l2.trans l3)⟩
theorem evl_skip (h0 : gt x env = some e1) (h1 : EVB gf e1 false) (h3 : EVL gt gf g env ds ys) : EVL gt gf g env (x :: ds) ys := fun st => by
  obtain ⟨s1, a1, l1⟩ := h1 st
  obtain ⟨s3, a3, l3⟩ := h3 s1
  exact ⟨s3, lc_skip h0 a1 a3, l1.trans l3⟩
theorem evb_yes : EVB bYes env true := evb fun _ => rfl
theorem ev_lc (h1 : EVA gi env ds) (hl : ds.length ≤ 10000000) (h2 : EVL gt gf g (wipeD env own) ds ys) : EV (dLc gi own gt gf g) env (.lst ys) := fun st => by
  obtain ⟨s1, a1, l1⟩ := h1 st
  obtain ⟨s2, a2, l2⟩ := h2 s1
  exact ⟨s2, bg_lc a1 hl a2, l1.trans l2⟩
theorem ev_seqL (h : EV g env (.lst ds)) : EVA (iSeq g) env ds := fun st => by
  obtain ⟨s1, a1, l1⟩ := h st
  exact ⟨s1, by unfold iSeq; rw [a1]; rfl, l1⟩
theorem ev_seqT (h : EV g env (.tup ds)) : EVA (iSeq g) env ds := fun st => by
  obtain ⟨s1, a1, l1⟩ := h st
  exact ⟨s1, by unfold iSeq; rw [a1]; rfl, l1⟩
theorem evs_asg (h : EV g env x) : EVS (sAsg g (gN i)) env (env.set i (some x)) := fun st => by
  obtain ⟨s1, a1, l1⟩ := h st
  exact ⟨s1, sg_asgN a1, l1⟩
theorem evs_if (h : EVB t env false) : EVS (sIf t gs sNil) env env := fun st => by
  obtain ⟨s1, a1, l1⟩ := h st
  exact ⟨s1, sg_if a1 rfl, l1⟩
theorem evs_seq (h1 : EVS gs env e1) (h2 : EVS gr e1 e2) : EVS (sSeq gs gr) env e2 := fun st => by
  obtain ⟨s1, a1, l1⟩ := h1 st
  obtain ⟨s2, a2, l2⟩ := h2 s1
  exact ⟨s2, sg_seq a1 a2, l1.trans l2⟩
theorem evs_nil : EVS sNil env env := evs fun _ => rfl
theorem or2 {g : F2} (h1 : ∀ st, f x y st = .bad) (h2 : F2V g x y z) : F2V (orF f g) x y z := fun st => by
  obtain ⟨s1, a1, l1⟩ := h2 st
  exact ⟨s1, by unfold orF; rw [h1]; exact a1, l1⟩
theorem or1 {g : F2} (h1 : F2V f x y z) : F2V (orF f g) x y z := fun st => by
  obtain ⟨s1, a1, l1⟩ := h1 st
  exact ⟨s1, by unfold orF; rw [a1], l1⟩
end
end DL

set_option Elab.async false
set_option linter.all false
set_option maxRecDepth 100000
set_option maxHeartbeats 1000000
/-! # DTxt: what the top has written, as tests that the kernel runs over the written part -/
namespace DL
open PySem PySem.Spec PyProof.Rows L2
abbrev yes (x : Option (Option Value)) (b : String) : Bool := decide (x = some (some (.builtin b)))
abbrev yesR (x : Option (Option Value)) (f : Addr) : Bool := decide (x = some (some (.ref f)))
abbrev nay (x : Option (Option Value)) : Bool := decide (x = some none)
abbrev tru (x : Option Bool) : Bool := decide (x = some true)
def insB (K : PySem.W.Frag) (C : Addr) : Bool := PySem.W.plainGet K C Str.empty && PySem.W.hasDictIn K C && PySem.W.plainOver K C && yes (PySem.W.findIn K (.ref C) "__setattr__") "object.__setattr__"
  && yes (PySem.W.findIn K (.ref C) "__class__") "object.__class__" && yes (PySem.W.specialIn K (.builtin "object.__class__") "__get__") "getset_descriptor.__get__" && tru (PySem.W.takesIn K (.builtin "object.__class__")) && tru (PySem.W.mroIn K C (.type "object"))
theorem insB_ok {K : PySem.W.Frag} {C : Addr} (h : insB K C = true) : InsK K C := by
  simp only [insB, Bool.and_eq_true, decide_eq_true_eq] at h
  obtain ⟨⟨⟨⟨⟨⟨⟨a, b⟩, c⟩, d⟩, e⟩, f⟩, g⟩, i⟩ := h
  exact ⟨⟨a, b, c, d⟩, e, f, g, i⟩
def exnB (K : PySem.W.Frag) (C : Addr) : Bool := (PySem.W.clsIn K C).isSome && yes (PySem.W.findIn K (.ref C) "__getattribute__") "BaseException.__getattribute__" && nay (PySem.W.findIn K (.ref C) "__getattr__")
  && tru (PySem.W.subIn K (.ref C) (.type "BaseException")) && PySem.W.hasDictIn K C && yes (PySem.W.findIn K (.ref C) "__class__") "object.__class__" && yes (PySem.W.specialIn K (.builtin "object.__class__") "__get__") "getset_descriptor.__get__"
  && tru (PySem.W.takesIn K (.builtin "object.__class__")) && tru (PySem.W.mroIn K C (.type "object"))
theorem exnB_ok {K : PySem.W.Frag} {C : Addr} (h : exnB K C = true) : ExnK K C := by
  simp only [exnB, Bool.and_eq_true, decide_eq_true_eq] at h
  obtain ⟨⟨⟨⟨⟨⟨⟨⟨a, b⟩, c⟩, d⟩, e⟩, f⟩, g⟩, i⟩, j⟩ := h
  exact ⟨a, b, c, d, e, f, g, i, j⟩
def nameB (x : Option Obj) (c : String) : Bool := match x with
  | some o => decide (o.cls = .type "type") && (match o.slots[2]? with | some (some (Value.str s _)) => decide (s = Str.ofString c) | _ => false)
  | none => false
def getB (x : Option PySem.W.CFound) (C : Addr) : Bool := match x with
  | some (.get a b c d) => decide (a = .builtin "getset_descriptor.__get__") && decide (b = .builtin "type.__name__") && decide (c = .ref C) && decide (d = .type "type")
  | _ => false
theorem getB_ok {x : Option PySem.W.CFound} {C : Addr} (h : getB x C = true) : x = some (.get (.builtin "getset_descriptor.__get__") (.builtin "type.__name__") (.ref C) (.type "type")) := by
  unfold getB at h
  split at h
  · simp only [Bool.and_eq_true, decide_eq_true_eq] at h
    obtain ⟨⟨⟨rfl, rfl⟩, rfl⟩, rfl⟩ := h
    rfl
  · cases h
def nmB (K : PySem.W.Frag) (C : Addr) (c : String) : Bool := PySem.W.readsIn K C (.type "type")
  && getB (PySem.W.findCls K (.ref C) (.type "type") "__name__") C && nameB (K.lookup C) c
theorem nmB_ok {K : PySem.W.Frag} {C : Addr} {c : String} (h : nmB K C c = true) : NmK K C c := by
  simp only [nmB, Bool.and_eq_true, decide_eq_true_eq] at h
  obtain ⟨⟨a, b⟩, d⟩ := h
  refine ⟨a, getB_ok b, ?_⟩
  unfold nameB at d
  split at d
  · rename_i o e
    rw [Bool.and_eq_true, decide_eq_true_eq] at d
    obtain ⟨d1, d2⟩ := d
    split at d2
    · rename_i s t e2
      have := of_decide_eq_true d2
      subst this
      exact ⟨o, t, e, d1, e2⟩
    · cases d2
  · cases d
def eqB (K : PySem.W.Frag) (C f : Addr) : Bool := insB K C && yesR (PySem.W.findIn K (.ref C) "__eq__") f && PySem.W.isFn K (.ref f) && yes (PySem.W.findIn K (.ref C) "__ne__") "object.__ne__"
theorem eqB_ok {K : PySem.W.Frag} {C f : Addr} (h : eqB K C f = true) : EqK K C f := by
  simp only [eqB, Bool.and_eq_true, decide_eq_true_eq] at h
  obtain ⟨⟨⟨a, b⟩, c⟩, d⟩ := h
  exact ⟨insB_ok a, b, c, d⟩
def mkB (K : PySem.W.Frag) (C f : Addr) : Bool := PySem.W.makesIn K C && yesR (PySem.W.findIn K (.ref C) "__init__") f && PySem.W.isFn K (.ref f) && PySem.W.keepIn K (.ref C)
theorem mkB_ok {K : PySem.W.Frag} {C f : Addr} (h : mkB K C f = true) : Mk K C f := by
  simp only [mkB, Bool.and_eq_true, decide_eq_true_eq] at h
  obtain ⟨⟨⟨a, b⟩, c⟩, d⟩ := h
  exact ⟨a, b, c, d⟩
def supMB (K : PySem.W.Frag) (C D g : Addr) : Bool := tru (PySem.W.mroIn K C (.ref D)) && yesR (PySem.W.ks_superIn K C D "__init__") g && decide (PySem.W.typeIn K (.ref g) = some (.type "function")) && PySem.W.fnIn K g
theorem supMB_ok {K : PySem.W.Frag} {C D g : Addr} (h : supMB K C D g = true) : SupM K C D g := by
  simp only [supMB, Bool.and_eq_true, decide_eq_true_eq] at h
  obtain ⟨⟨⟨a, b⟩, c⟩, d⟩ := h
  exact ⟨a, b, c, d⟩
def supEB (K : PySem.W.Frag) (C D : Addr) : Bool := tru (PySem.W.mroIn K C (.ref D)) && yes (PySem.W.ks_superIn K C D "__init__") "ValueError.__init__" && tru (PySem.W.subIn K (.ref C) (.type "ValueError"))
  && yes (PySem.W.findIn K (.ref C) "__setattr__") "object.__setattr__" && tru (PySem.W.subIn K (.ref C) (.type "BaseException")) && decide (PySem.W.typeIn K (.ref C) = some (.type "type")) && PySem.W.keepIn K (.ref C)
/-- the class object of an own exception -/
def ExcObj (K : PySem.W.Frag) (C : Addr) : Prop := ∃ nm q N bs bm sn sub ab col dd k0 k1 k2 k3 k5, K.lookup C = some (excClassObj nm q C N bs bm true sn sub ab col dd k0 k1 k2 k3 k5 "ValueError.__new__") ∧ PySem.HandSPX.refsVE bm = true
theorem exc_obj {K : PySem.W.Frag} {C : Addr} {nm q N bs bm sn sub ab col dd k0 k1 k2 k3 k5} (l : K.lookup C = some (excClassObj nm q C N bs bm true sn sub ab col dd k0 k1 k2 k3 k5 "ValueError.__new__")) (r : PySem.HandSPX.refsVE bm = true) : ExcObj K C := ⟨nm, q, N, bs, bm, sn, sub, ab, col, dd, k0, k1, k2, k3, k5, l, r⟩
theorem supEB_ok {K : PySem.W.Frag} {C D : Addr} (o : ExcObj K C) (h : supEB K C D = true) : SupE K C D := by
  simp only [supEB, Bool.and_eq_true, decide_eq_true_eq] at h
  obtain ⟨⟨⟨⟨⟨⟨a, b⟩, c⟩, d⟩, e⟩, f⟩, g⟩ := h
  exact ⟨a, b, c, ⟨o, d, e, f, g⟩⟩
def fileB (P : Program) (x : Option Obj) : Bool := match x with
  | some ⟨_, _, .fields vs, _⟩ => (match vs[2]? with | some (Value.str file _) => (P.main.file : Str) == file | _ => false)
  | _ => false
def skB (P : Program) (K : PySem.W.Frag) (c D : Addr) : Bool := fileB P (K.lookup c) && !(P.main.scope.names.lookup ("super" : Str)).isSome && (PySem.W.clsIn K D).isSome && nay (PySem.W.nsIn K cStatics "thirdparty.any")
theorem skB_ok {P : Program} {K : PySem.W.Frag} {mg : Str → Option Value} {c D : Addr} (m : mg "super" = none) (h : skB P K c D = true) : SupK P K mg c D := by
  simp only [skB, Bool.and_eq_true, decide_eq_true_eq, Bool.not_eq_true'] at h
  obtain ⟨⟨⟨a, b⟩, d⟩, e⟩ := h
  refine ⟨?_, b, m, ?_, e⟩
  · unfold fileB at a
    split at a
    · rename_i a0 b0 vs d0 e0
      split at a
      · rename_i fl tf e1
        exact ⟨a0, b0, d0, vs, fl, tf, e0, e1, a⟩
      · cases a
    · cases a
  · cases q : PySem.W.clsIn K D with
    | some cd => exact ⟨cd, rfl⟩
    | none => rw [q] at d; cases d
/-- a test of each class of a list -/
def eachB (G : CG) (cs : List String) (t : String → Addr → Bool) : Bool := cs.all fun c => match G c with | some C => t c C | none => true
theorem eachB_ok {G : CG} {cs : List String} {t : String → Addr → Bool} (h : eachB G cs t = true) : ∀ c ∈ cs, ∀ C, G c = some C → t c C = true := fun c hc C e => by
  have := List.all_eq_true.mp h c hc
  simp only [e] at this
  exact this
def knownB (K : PySem.W.Frag) (G : CG) (N : Known) : Bool := eachB G N.ins (fun _ C => insB K C) && eachB G N.exn fun _ C => exnB K C
theorem knownB_ok {K : PySem.W.Frag} {G : CG} {N : Known} (h : knownB K G N = true) : KnownK K G N := by
  rw [knownB, Bool.and_eq_true] at h
  exact ⟨fun c hc C e => insB_ok (eachB_ok h.1 c hc C e), fun c hc C e => exnB_ok (eachB_ok h.2 c hc C e)⟩
def fldB (K : PySem.W.Frag) (G : CG) (cs es : List String) (f : Str) : Bool := eachB G cs (fun _ C => nay (PySem.W.findIn K (.ref C) f)) && eachB G es fun _ C => nay (PySem.W.findIn K (.ref C) f)
theorem fldB_ok {K : PySem.W.Frag} {G : CG} {N : Known} {cs es : List String} {f : Str} (k : KnownK K G N) (h1 : ∀ c ∈ cs, c ∈ N.ins) (h2 : ∀ c ∈ es, c ∈ N.exn) (h : fldB K G cs es f = true) : FldK K G cs es f := by
  rw [fldB, Bool.and_eq_true] at h
  exact ⟨fun c hc C e => ⟨(k.ins c (h1 c hc) C e).cl, (show PySem.W.findIn K (.ref C) f = some none from of_decide_eq_true (eachB_ok h.1 c hc C e))⟩, fun c hc C e => ⟨k.exn c (h2 c hc) C e, of_decide_eq_true (eachB_ok h.2 c hc C e)⟩⟩
theorem fld_st {K : PySem.W.Frag} {G : CG} {N : Known} {cs : List String} {f : Str} (k : KnownK K G N) (h1 : ∀ c ∈ cs, c ∈ N.ins) (h : fldB K G cs [] f = true) : ∀ c ∈ cs, ∀ C, G c = some C → Cls K C ∧ NoAttr K C f := (fldB_ok (es := []) k h1 (fun _ z => nomatch z) h).ins
/-- the class that a kind names -/
def tvOf (G : CG) : TK → Option Value
  | .own c => (G c).map .ref
  | .bt n => some (.type n)
theorem tvOf_ok {G : CG} {k : TK} {u : Value} (h : TyN G k u) : tvOf G k = some u := by
  cases h with
  | own e => simp [tvOf, e]
  | bt n => rfl
def pairB (G : CG) (f : TK → TK → Option Bool) (g : Value → Value → Option Bool) (ks ts : List TK) : Bool := ks.all fun k => ts.all fun t => match f k t, tvOf G k, tvOf G t with
  | some b, some u, some w => decide (g u w = some b)
  | _, _, _ => true
theorem pairB_ok {G : CG} {f : TK → TK → Option Bool} {g : Value → Value → Option Bool} {ks ts : List TK} (h : pairB G f g ks ts = true) {k t : TK} (hk : k ∈ ks) (ht : t ∈ ts) {b : Bool} (e : f k t = some b) {u w : Value} (hu : TyN G k u) (hw : TyN G t w) : g u w = some b := by
  have := List.all_eq_true.mp (List.all_eq_true.mp h k hk) t ht
  simp only [e, tvOf_ok hu, tvOf_ok hw] at this
  exact of_decide_eq_true this
theorem isB_ok {K : PySem.W.Frag} {G : CG} {IS : TK → TK → Option Bool} (ks ts : List TK) (hi : ∀ k t b, IS k t = some b → k ∈ ks ∧ t ∈ ts) (h : pairB G IS (PySem.W.kitOne K) ks ts = true) : IsOk K G IS := fun k t b e u w hu hw =>
  pairB_ok h (hi k t b e).1 (hi k t b e).2 e hu hw
theorem sbB_ok {K : PySem.W.Frag} {G : CG} {SB : TK → String → Option Bool} (ks : List TK) (cs : List String) (hi : ∀ k c b, SB k c = some b → k ∈ ks ∧ c ∈ cs)
    (h : pairB G (fun k t => match t with | .own c => SB k c | _ => none) (PySem.W.subIn K) ks (cs.map .own) = true) : SubOk K G SB := fun k c b e u C hu hC =>
  pairB_ok (t := .own c) h (hi k c b e).1 (List.mem_map.mpr ⟨c, (hi k c b e).2, rfl⟩) e hu (.own hC)
theorem inj_of {l : List (String × Addr)} (h : (l.map (·.2)).Nodup) {c c2 : String} {C : Addr} (e : l.lookup c = some C) (e2 : l.lookup c2 = some C) : c = c2 := by
  induction l with
  | nil => cases e
  | cons p l ih =>
    obtain ⟨n, x⟩ := p
    have mem : ∀ {d : String} {l : List (String × Addr)}, l.lookup d = some C → C ∈ l.map (·.2) := fun {d l} e => by
      induction l with
      | nil => cases e
      | cons q l ih =>
        obtain ⟨m, y⟩ := q
        rw [List.lookup_cons] at e
        split at e
        · cases e; exact .head _
        · exact .tail _ (ih e)
    rw [List.map_cons, List.nodup_cons] at h
    rw [List.lookup_cons] at e e2
    split at e
    · rename_i b1
      split at e2
      · rename_i b2
        exact (beq_iff_eq.mp b1).trans (beq_iff_eq.mp b2).symm
      · cases e
        exact absurd (mem e2) h.1
    · split at e2
      · cases e2
        exact absurd (mem e) h.1
      · exact ih h.2 e e2
def noneB (K : PySem.W.Frag) (ns : List String) : Bool := ns.all fun n => nay (PySem.W.nsIn K mainGlobals (Str.ofString n))
theorem noneB_ok {K : PySem.W.Frag} {h : Heap} {mg : Str → Option Value} {ns : List String} (X : K.In h) (G : h.Ns mainGlobals mg) (b : noneB K ns = true) (n : String) (hn : n ∈ ns) : mg (Str.ofString n) = none :=
  PySem.W.mg_none_of X G (of_decide_eq_true (List.all_eq_true.mp b n hn))
theorem func_mk {K : PySem.W.Frag} {x qual : Str} {st : Stmt} {f c cc D : Addr} {oc : Value} {od an : Option Addr} {osl : Array (Option Value)} {kV doc pm ct : Value} {a b d}
    (l : K.lookup f = some ⟨oc, od, .func (PySem.W.fnX x qual (defArgs st) (defBody st) (defScope st) [("__class__", cc)] .none kV doc pm an (.ref c) ct), osl⟩) (h : PySem.W.codeIn K (.ref c) qual = true)
    (xx : K.lookup cc = some ⟨a, b, .cell (some (.ref D)), d⟩) : ∃ fd, FunC K x qual st f fd c cc D := ⟨_, ⟨_, _, _, _, _, _, _, _, rfl, l, h⟩, ⟨_, _, _, xx⟩⟩
end DL

set_option Elab.async false
set_option linter.all false
set_option maxRecDepth 100000
set_option maxHeartbeats 8000000
namespace K45
open PySem PySem.Spec PyProof.Rows L2 StX NdefX DL
def top (i : Nat) : Stmt := PySem.Challenge.pw_freedbyhand_k45_papers_of_any_values.main.body.getD i (.Pass ⟨0, 0, 0, 0⟩)
/-- where the text's defs and classes stand -/
structure Ad where
  (fixed are_alike pen draw pick d_any d_told law Paper Denial Freed Torn Needed Dies Lives Both Unmet Deaths iPaper bPaper ePaper bDenial counted iFreed iTorn iNeeded iDies iLives iBoth iUnmet iDeaths cFreed cTorn cNeeded cDies cLives cBoth cUnmet cDeaths xFreed xTorn xNeeded xDies xLives xBoth xUnmet xDeaths : Addr)
def GL (a : Ad) : List (String × Addr) := [("Paper", a.Paper), ("Denial", a.Denial), ("Freed", a.Freed), ("Torn", a.Torn), ("Needed", a.Needed), ("Dies", a.Dies), ("Lives", a.Lives), ("Both", a.Both), ("Unmet", a.Unmet), ("Deaths", a.Deaths)]
def GG (a : Ad) : CG := fun n => (GL a).lookup n
def EC : List String := ["Paper", "Denial", "Freed", "Torn", "Needed", "Dies", "Lives", "Both", "Unmet", "Deaths"]
def KN : Known := ⟨EC, []⟩
/-- what lies above a class -/
def anc : TK → Option (List TK)
  | .own c => if c = "Paper" then some [.own "Paper", .bt "object"] else if c = "Denial" then some [.own "Denial", .own "Paper", .bt "object"] else
    if c ∈ (["Freed", "Needed", "Dies", "Deaths"] : List String) then some [.own c, .own "Paper", .bt "object"] else if c ∈ (["Torn", "Lives", "Both", "Unmet"] : List String) then some [.own c, .own "Denial", .own "Paper", .bt "object"] else none
  | .bt n => if n = "NoneType" ∨ n = "int" ∨ n = "str" ∨ n = "tuple" ∨ n = "list" ∨ n = "dict" then some [.bt n, .bt "object"] else if n = "bool" then some [.bt "bool", .bt "int", .bt "object"] else none
def tgts : List TK := [.own "Paper", .own "Denial", .bt "list", .bt "tuple", .bt "bool"]
def IS (k t : TK) : Option Bool := if t ∈ tgts then (anc k).map (·.contains t) else none
def SB (k : TK) (c : String) : Option Bool := if c ∈ EC then (anc k).map (·.contains (.own c)) else none
abbrev s_fixed : Stmt := top 1
abbrev s_are_alike : Stmt := top 2
abbrev s_pen : Stmt := top 17
abbrev s_draw : Stmt := top 18
abbrev s_pick : Stmt := top 19
abbrev s_d_any : Stmt := top 20
abbrev s_d_told : Stmt := top 21
abbrev s_law : Stmt := top 22
abbrev s_Paper_i : Stmt := inClass (top 3) 0
abbrev s_Paper_b : Stmt := inClass (top 3) 1
abbrev s_Paper_e : Stmt := inClass (top 3) 2
abbrev s_Denial_b : Stmt := inClass (top 4) 0
abbrev s_counted : Stmt := inClass (top 9) 1
abbrev s_Freed_i : Stmt := inClass (top 6) 0
abbrev s_Torn_i : Stmt := inClass (top 7) 0
abbrev s_Needed_i : Stmt := inClass (top 9) 0
abbrev s_Dies_i : Stmt := inClass (top 11) 0
abbrev s_Lives_i : Stmt := inClass (top 12) 0
abbrev s_Both_i : Stmt := inClass (top 13) 0
abbrev s_Unmet_i : Stmt := inClass (top 14) 0
abbrev s_Deaths_i : Stmt := inClass (top 15) 0
def CI_word : List String := ["Paper", "Denial", "Freed", "Torn", "Needed", "Dies", "Lives", "Both", "Unmet", "Deaths"]
def CE_word : List String := []
def CI_parts : List String := ["Paper", "Denial", "Freed", "Torn", "Needed", "Dies", "Lives", "Both", "Unmet", "Deaths"]
def CE_parts : List String := []
def CI_frees : List String := ["Freed"]
def CE_frees : List String := []
def CI_rows : List String := ["Freed", "Dies", "Lives", "Unmet", "Deaths"]
def CE_rows : List String := []
def CI_shape : List String := ["Torn"]
def CE_shape : List String := []
def CI_run : List String := ["Torn", "Dies", "Lives", "Both"]
def CE_run : List String := []
def CI_others : List String := ["Torn"]
def CE_others : List String := []
def CI_torn : List String := ["Needed"]
def CE_torn : List String := []
def CI_freed : List String := ["Needed"]
def CE_freed : List String := []
def CI_other : List String := ["Both"]
def CE_other : List String := []
def CI_spots : List String := ["Deaths"]
def CE_spots : List String := []
structure Txt (P : Program) (w : World) (K : PySem.W.Frag) (mg : Str → Option Value) (a : Ad) : Prop where
  n_isinstance : mg "isinstance" = none
  n_list : mg "list" = none
  n_tuple : mg "tuple" = none
  n_bool : mg "bool" = none
  n_len : mg "len" = none
  n_int : mg "int" = none
  n_all : mg "all" = none
  n_zip : mg "zip" = none
  n_range : mg "range" = none
  n_enumerate : mg "enumerate" = none
  n_repr : mg "repr" = none
  g_fixed : mg "fixed" = some (.ref a.fixed)
  k_fixed : PySem.W.keepIn K (.ref a.fixed) = true
  F_fixed : ∃ fd, Fun K "fixed" "fixed" s_fixed a.fixed fd
  g_are_alike : mg "are_alike" = some (.ref a.are_alike)
  k_are_alike : PySem.W.keepIn K (.ref a.are_alike) = true
  F_are_alike : ∃ fd, Fun K "are_alike" "are_alike" s_are_alike a.are_alike fd
  g__law_pen : mg "_law_pen" = some (.ref a.pen)
  k__law_pen : PySem.W.keepIn K (.ref a.pen) = true
  F_pen : ∃ fd, Fun K "_law_pen" "_law_pen" s_pen a.pen fd
  g__law_draw : mg "_law_draw" = some (.ref a.draw)
  k__law_draw : PySem.W.keepIn K (.ref a.draw) = true
  F_draw : ∃ fd, Fun K "_law_draw" "_law_draw" s_draw a.draw fd
  g__law_pick : mg "_law_pick" = some (.ref a.pick)
  k__law_pick : PySem.W.keepIn K (.ref a.pick) = true
  F_pick : ∃ fd, Fun K "_law_pick" "_law_pick" s_pick a.pick fd
  g__law_d_any : mg "_law_d_any" = some (.ref a.d_any)
  k__law_d_any : PySem.W.keepIn K (.ref a.d_any) = true
  F_d_any : ∃ fd, Fun K "_law_d_any" "_law_d_any" s_d_any a.d_any fd
  g__law_d_told : mg "_law_d_told" = some (.ref a.d_told)
  k__law_d_told : PySem.W.keepIn K (.ref a.d_told) = true
  F_d_told : ∃ fd, Fun K "_law_d_told" "_law_d_told" s_d_told a.d_told fd
  hN : KnownK K (GG a) KN
  hI : IsOk K (GG a) IS
  g_Paper : mg "Paper" = some (.ref a.Paper)
  g_Denial : mg "Denial" = some (.ref a.Denial)
  g_Freed : mg "Freed" = some (.ref a.Freed)
  g_Torn : mg "Torn" = some (.ref a.Torn)
  g_Needed : mg "Needed" = some (.ref a.Needed)
  g_Dies : mg "Dies" = some (.ref a.Dies)
  g_Lives : mg "Lives" = some (.ref a.Lives)
  g_Both : mg "Both" = some (.ref a.Both)
  g_Unmet : mg "Unmet" = some (.ref a.Unmet)
  g_Deaths : mg "Deaths" = some (.ref a.Deaths)
  mk_Paper : Mk K a.Paper a.iPaper
  mk_Denial : Mk K a.Denial a.iPaper
  mk_Freed : Mk K a.Freed a.iFreed
  mk_Torn : Mk K a.Torn a.iTorn
  mk_Needed : Mk K a.Needed a.iNeeded
  mk_Dies : Mk K a.Dies a.iDies
  mk_Lives : Mk K a.Lives a.iLives
  mk_Both : Mk K a.Both a.iBoth
  mk_Unmet : Mk K a.Unmet a.iUnmet
  mk_Deaths : Mk K a.Deaths a.iDeaths
  F_Paper_i : ∃ fd, Fun K "__init__" "Paper.__init__" s_Paper_i a.iPaper fd
  F_Paper_b : ∃ fd, Fun K "__bool__" "Paper.__bool__" s_Paper_b a.bPaper fd
  F_Paper_e : ∃ fd, Fun K "__eq__" "Paper.__eq__" s_Paper_e a.ePaper fd
  F_Denial_b : ∃ fd, Fun K "__bool__" "Denial.__bool__" s_Denial_b a.bDenial fd
  F_counted : ∃ fd, Fun K "counted" "Needed.counted" s_counted a.counted fd
  clNeeded : Cls K a.Needed
  mtCounted : Meth K a.Needed "counted" a.counted
  F_Freed : ∃ fd, FunC K "__init__" "Freed.__init__" s_Freed_i a.iFreed fd a.cFreed a.xFreed a.Freed
  sk_Freed : SupK P K mg a.cFreed a.Freed
  sm_Freed : SupM K a.Freed a.Freed a.iPaper
  F_Torn : ∃ fd, FunC K "__init__" "Torn.__init__" s_Torn_i a.iTorn fd a.cTorn a.xTorn a.Torn
  sk_Torn : SupK P K mg a.cTorn a.Torn
  sm_Torn : SupM K a.Torn a.Torn a.iPaper
  F_Needed : ∃ fd, FunC K "__init__" "Needed.__init__" s_Needed_i a.iNeeded fd a.cNeeded a.xNeeded a.Needed
  sk_Needed : SupK P K mg a.cNeeded a.Needed
  sm_Needed : SupM K a.Needed a.Needed a.iPaper
  F_Dies : ∃ fd, FunC K "__init__" "Dies.__init__" s_Dies_i a.iDies fd a.cDies a.xDies a.Dies
  sk_Dies : SupK P K mg a.cDies a.Dies
  sm_Dies : SupM K a.Dies a.Dies a.iPaper
  F_Lives : ∃ fd, FunC K "__init__" "Lives.__init__" s_Lives_i a.iLives fd a.cLives a.xLives a.Lives
  sk_Lives : SupK P K mg a.cLives a.Lives
  sm_Lives : SupM K a.Lives a.Lives a.iPaper
  F_Both : ∃ fd, FunC K "__init__" "Both.__init__" s_Both_i a.iBoth fd a.cBoth a.xBoth a.Both
  sk_Both : SupK P K mg a.cBoth a.Both
  sm_Both : SupM K a.Both a.Both a.iPaper
  F_Unmet : ∃ fd, FunC K "__init__" "Unmet.__init__" s_Unmet_i a.iUnmet fd a.cUnmet a.xUnmet a.Unmet
  sk_Unmet : SupK P K mg a.cUnmet a.Unmet
  sm_Unmet : SupM K a.Unmet a.Unmet a.iPaper
  F_Deaths : ∃ fd, FunC K "__init__" "Deaths.__init__" s_Deaths_i a.iDeaths fd a.cDeaths a.xDeaths a.Deaths
  sk_Deaths : SupK P K mg a.cDeaths a.Deaths
  sm_Deaths : SupM K a.Deaths a.Deaths a.iPaper
  insE : ∀ c ∈ EC, ∀ C, GG a c = some C → InsK K C
  nmE : ∀ c ∈ EC, ∀ C, GG a c = some C → NmK K C c
  eqE : ∀ c ∈ EC, ∀ C, GG a c = some C → EqK K C a.ePaper
  inj : ∀ c c2 C, GG a c = some C → GG a c2 = some C → c = c2
  hS : SubOk K (GG a) SB
  bP : ∀ c ∈ (["Paper", "Freed", "Needed", "Dies", "Deaths"] : List String), ∀ C, GG a c = some C → PySem.W.findIn K (.ref C) "__bool__" = some (some (.ref a.bPaper)) ∧ PySem.W.isFn K (.ref a.bPaper) = true
  bD : ∀ c ∈ (["Denial", "Torn", "Lives", "Both", "Unmet"] : List String), ∀ C, GG a c = some C → PySem.W.findIn K (.ref C) "__bool__" = some (some (.ref a.bDenial)) ∧ PySem.W.isFn K (.ref a.bDenial) = true
  st_word : ∀ c ∈ EC, ∀ C, GG a c = some C → Cls K C ∧ NoAttr K C "word"
  st_parts : ∀ c ∈ EC, ∀ C, GG a c = some C → Cls K C ∧ NoAttr K C "parts"
  st_frees : ∀ c ∈ EC, ∀ C, GG a c = some C → Cls K C ∧ NoAttr K C "frees"
  st_rows : ∀ c ∈ EC, ∀ C, GG a c = some C → Cls K C ∧ NoAttr K C "rows"
  st_shape : ∀ c ∈ EC, ∀ C, GG a c = some C → Cls K C ∧ NoAttr K C "shape"
  st_run : ∀ c ∈ EC, ∀ C, GG a c = some C → Cls K C ∧ NoAttr K C "run"
  st_others : ∀ c ∈ EC, ∀ C, GG a c = some C → Cls K C ∧ NoAttr K C "others"
  st_torn : ∀ c ∈ EC, ∀ C, GG a c = some C → Cls K C ∧ NoAttr K C "torn"
  st_freed : ∀ c ∈ EC, ∀ C, GG a c = some C → Cls K C ∧ NoAttr K C "freed"
  st_other : ∀ c ∈ EC, ∀ C, GG a c = some C → Cls K C ∧ NoAttr K C "other"
  st_spots : ∀ c ∈ EC, ∀ C, GG a c = some C → Cls K C ∧ NoAttr K C "spots"
  fld_word : FldK K (GG a) CI_word CE_word "word"
  fld_parts : FldK K (GG a) CI_parts CE_parts "parts"
  fld_frees : FldK K (GG a) CI_frees CE_frees "frees"
  fld_rows : FldK K (GG a) CI_rows CE_rows "rows"
  fld_shape : FldK K (GG a) CI_shape CE_shape "shape"
  fld_run : FldK K (GG a) CI_run CE_run "run"
  fld_others : FldK K (GG a) CI_others CE_others "others"
  fld_torn : FldK K (GG a) CI_torn CE_torn "torn"
  fld_freed : FldK K (GG a) CI_freed CE_freed "freed"
  fld_other : FldK K (GG a) CI_other CE_other "other"
  fld_spots : FldK K (GG a) CI_spots CE_spots "spots"
def bo0 : String → Option (List D → Sto → Out D) := fun _ => none
theorem bo0_ok {X : Cx} {G : CG} : BoOk X G 0 bo0 := fun c fb h => by cases h
theorem u64 {k : Nat} {A : Around} (r : Room k A) : A.units + 64 < cLine := by have := r.un; omega

abbrev N_pen : List Str := ["script", "seed", "cell"]
theorem sc_pen : FnScope ["script", "seed", "cell"] ["script"] (defScope s_pen) := ⟨rfl, rfl, rfl, by decide +kernel, rfl, by decide +kernel, by decide +kernel⟩
def g_pen : DenS :=
  (sSeq (sAsg (dC (.int 80728)) (gN 1))
    (sSeq (sFor (iSeq (dVar 0)) (gN 2) (sSeq (sAsg (dBin fMod (dCall fInt1 (dCons (dBin fAdd (dBin fAdd (dBin fMul (dVar 1) (dC (.int 1000003))) (dBin fMod (dCall fInt1 (dCons (dVar 2) dNil)) (dBin fPow (dC (.int 10)) (dC (.int 18))))) (dC (.int 10838))) dNil)) (dBin fSub (dBin fPow (dC (.int 2)) (dC (.int 61))) (dC (.int 1)))) (gN 1))
    sNil))
    (sSeq (sRet (dNew (dCons (dVar 1) dNil)))
    sNil)))
def m_pen : List D → Sto → Out D := mk 1 3 g_pen
theorem ok_pen {P : Program} {w : World} {K : PySem.W.Frag} {mg : Str → Option Value} {base : Heap} {a : Ad} (T : Txt P w K mg a) : FnB P w K mg base (L2.CX P w) 1 a.pen 1 [] (spD K (GG a) m_pen) := by
  obtain ⟨fd, F⟩ := T.F_pen
  refine FnOk.toD (π := none) (fn_m (k := 0) (g := g_pen) F sc_pen (by decide) fun cdv A outer s H E hr => ?_) (Fun.kb F 1 [] none fun _ _ _ _ _ _ us ws l1 l2 => match us, ws, l1, l2 with | [_], [], _, _ => rfl)
  exact (ds_cons (ds_asg de_int (dg_name (pg_name (i := 1) sc_pen.nd rfl (.inl rfl))))
    (ds_cons (ds_for passes_cx rfl (di_seq (de_var (pv 0))) (dg_name (pg_name (i := 2) sc_pen.nd rfl (.inl rfl))) (ds_cons (ds_asg (de_op o_mod nox_int (de_callTy c_int nox_int1 (by rfl) T.n_int (by decide +kernel) (da_cons (de_op o_add nx_add (de_op o_add nx_add (de_op o_mul nx_mul (de_var (pv 1)) de_int) (de_op o_mod nox_int (de_callTy c_int nox_int1 (by rfl) T.n_int (by decide +kernel) (da_cons (de_var (pv 2)) da_nil)) (de_op o_pow nox_int de_int de_int))) de_int) da_nil)) (de_op o_sub nox_int (de_op o_pow nox_int de_int de_int) de_int)) (dg_name (pg_name (i := 1) sc_pen.nd rfl (.inl rfl))))
    ds_nil) (fun a b c => ps_for passes_cx rfl a b c))
    (ds_cons (ds_ret (de_new (da_cons (de_var (pv 1)) da_nil)))
    ds_nil)))

abbrev N_draw : List Str := ["pen", "many"]
theorem sc_draw : FnScope ["pen", "many"] ["pen", "many"] (defScope s_draw) := ⟨rfl, rfl, rfl, by decide +kernel, rfl, by decide +kernel, by decide +kernel⟩
def g_draw : DenS :=
  (sSeq (sIf (fun env st => toB (dBin fLt (dVar 1) (dC (.int 1)) env st)) (sSeq (sRet (dC (.int 0)))
    sNil) sNil)
    (sSeq (sAsg (dBin fMod (dCall fInt1 (dCons (dBin fAdd (dBin fMul (dBin fIx (dVar 0) (dC (.int 0))) (dC (.int 6364136223846793005))) (dC (.int 1442695040888963407))) dNil)) (dBin fPow (dC (.int 2)) (dC (.int 64)))) (gCell (dVar 0) (dC (.int 0))))
    (sSeq (sRet (dBin fMod (dCall fInt1 (dCons (dBin fDiv (dBin fIx (dVar 0) (dC (.int 0))) (dC (.int 65537))) dNil)) (dVar 1)))
    sNil)))
def m_draw : List D → Sto → Out D := mk 2 2 g_draw
theorem ok_draw {P : Program} {w : World} {K : PySem.W.Frag} {mg : Str → Option Value} {base : Heap} {a : Ad} (T : Txt P w K mg a) : FnB P w K mg base (L2.CX P w) 1 a.draw 2 [] (spD K (GG a) m_draw) := by
  obtain ⟨fd, F⟩ := T.F_draw
  refine FnOk.toD (π := none) (fn_m (k := 0) (g := g_draw) F sc_draw (by decide) fun cdv A outer s H E hr => ?_) (Fun.kb F 2 [] none fun _ _ _ _ _ _ us ws l1 l2 => match us, ws, l1, l2 with | [_, _], [], _, _ => rfl)
  exact (ds_cons (ds_if (db_cmp o_lt nox_int (de_var (pv 1)) de_int) (ds_cons (ds_ret de_int)
    ds_nil) ds_nil)
    (ds_cons (ds_asg (de_op o_mod nox_int (de_callTy c_int nox_int1 (by rfl) T.n_int (by decide +kernel) (da_cons (de_op o_add nx_add (de_op o_mul nx_mul (de_ix (de_var (pv 0)) de_int) de_int) de_int) da_nil)) (de_op o_pow nox_int de_int de_int)) (dg_cell (de_var (pv 0)) de_int))
    (ds_cons (ds_ret (de_op o_mod nox_int (de_callTy c_int nox_int1 (by rfl) T.n_int (by decide +kernel) (da_cons (de_op o_div nox_int (de_ix (de_var (pv 0)) de_int) de_int) da_nil)) (de_var (pv 1))))
    ds_nil)))

abbrev N_pick : List Str := ["pen", "some"]
theorem sc_pick : FnScope ["pen", "some"] ["pen", "some"] (defScope s_pick) := ⟨rfl, rfl, rfl, by decide +kernel, rfl, by decide +kernel, by decide +kernel⟩
def g_pick : DenS :=
  (sSeq (sRet (dBin fIx (dVar 1) (dCall m_draw (aLen 2 (dCons (dVar 0) (dCons (dCall fLen (dCons (dVar 1) dNil)) dNil))))))
    sNil)
def m_pick : List D → Sto → Out D := mk 2 2 g_pick
theorem ok_pick {P : Program} {w : World} {K : PySem.W.Frag} {mg : Str → Option Value} {base : Heap} {a : Ad} (T : Txt P w K mg a) : FnB P w K mg base (L2.CX P w) 2 a.pick 2 [] (spD K (GG a) m_pick) := by
  obtain ⟨fd, F⟩ := T.F_pick
  refine FnOk.toD (π := none) (fn_m (k := 1) (g := g_pick) F sc_pick (by decide) fun cdv A outer s H E hr => ?_) (Fun.kb F 2 [] none fun _ _ _ _ _ _ us ws l1 l2 => match us, ws, l1, l2 with | [_, _], [], _, _ => rfl)
  exact (ds_cons (ds_ret (de_ix (de_var (pv 1)) (de_callA (fn := m_draw) (ok_draw T) (hr.mono (by decide)) (by rfl) T.g__law_draw T.k__law_draw takes_cx (dc_pos (n := 2) (da_cons (de_var (pv 0)) (da_cons (de_callB c_len nox_len (by rfl) T.n_len (by decide +kernel) (da_cons (de_var (pv 1)) da_nil)) da_nil))))))
    ds_nil)

abbrev N_fixed : List Str := ["value", "part"]
theorem sc_fixed : FnScope ["value", "part"] ["value"] (defScope s_fixed) := ⟨rfl, rfl, rfl, by decide +kernel, rfl, by decide +kernel, by decide +kernel⟩
def g_fixed (f : List D → Sto → Out D) : DenS :=
  (sSeq (sIf (fun env st => toB ((dCall (fIsi KN IS) (dCons (dVar 0) (dCons (dTup (dCons (dC (.ty "list")) (dCons (dC (.ty "tuple")) dNil))) dNil))) env st)) (sSeq (sRet (dCall fTuple (dCons (dLc (iSeq (dVar 0)) [1] (gtN 1) bYes (dCall f (aLen 1 (dCons (dVar 1) dNil)))) dNil)))
    sNil) sNil)
    (sSeq (sRet (dVar 0))
    sNil))
def m_fixed : Nat → List D → Sto → Out D
  | 0 => fun _ _ => .bad
  | n + 1 => mk 1 2 (g_fixed (m_fixed n))
theorem okn_fixed {P : Program} {w : World} {K : PySem.W.Frag} {mg : Str → Option Value} {base : Heap} {a : Ad} (T : Txt P w K mg a) : ∀ n, FnB P w K mg base (L2.CX P w) (n + 2) a.fixed 1 [] (spD K (GG a) (m_fixed n))
  | 0 => by
    obtain ⟨fd, F⟩ := T.F_fixed
    exact FnOk.toD (π := none) (fn_bad (ps := ["value"])) (Fun.kb (ps := ["value"]) F 1 [] none fun _ _ _ _ _ _ us ws l1 l2 => match us, ws, l1, l2 with | [_], [], _, _ => rfl)
  | n + 1 => by
    obtain ⟨fd, F⟩ := T.F_fixed
    have ih := okn_fixed (base := base) T n
    show FnB P w K mg base (L2.CX P w) (n + 3) a.fixed 1 [] (spD K (GG a) (mk 1 2 (g_fixed (m_fixed n))))
    generalize m_fixed n = f at ih ⊢
    refine FnOk.toD (π := none) (fn_m (k := n + 2) (g := g_fixed f) F sc_fixed (by decide) fun cdv A outer s H E hr => ?_) (Fun.kb (ps := ["value"]) F 1 [] none fun _ _ _ _ _ _ us ws l1 l2 => match us, ws, l1, l2 with | [_], [], _, _ => rfl)
    exact (ds_cons (ds_if (db_val (de_callB (call_isiD T.hN T.hI) nox_isi (by rfl) T.n_isinstance (by decide +kernel) (da_cons (de_var (pv 0)) (da_cons (de_tup (da_cons (de_ty (by rfl) T.n_list (by decide +kernel)) (da_cons (de_ty (by rfl) T.n_tuple (by decide +kernel)) da_nil))) da_nil)))) (ds_cons (ds_ret (de_callTy c_tuple nox_tuple (by rfl) T.n_tuple (by decide +kernel) (da_cons (de_lc (own := [("part", 1)]) (gi := (iSeq (dVar 0))) (gt := (gtN 1)) (gf := bYes) (ge := (dCall f (aLen 1 (dCons (dVar 1) dNil)))) rfl sc_fixed.nd (di_seq (de_var (pv 0))) (blkOk_by (own := [("part", 1)]) (N := N_fixed) (sc := defScope s_fixed) (by decide +kernel)) (fun _ _ _ _ _ => pg_name (i := 1) sc_fixed.nd rfl (Or.inl rfl)) (tg_name (by decide)) (fun _ _ _ _ _ => dts_nil) (fun _ _ _ _ _ => (de_callA (fn := f) ih hr (by rfl) T.g_fixed T.k_fixed takes0 (dc_pos (n := 1) (da_cons (de_var (pv 1)) da_nil))))) da_nil)))
    ds_nil) ds_nil)
    (ds_cons (ds_ret (de_var (pv 0)))
    ds_nil))
theorem ok_fixed {P : Program} {w : World} {K : PySem.W.Frag} {mg : Str → Option Value} {base : Heap} {a : Ad} (T : Txt P w K mg a) : FnB P w K mg base (L2.CX P w) 14 a.fixed 1 [] (spD K (GG a) (m_fixed 12)) := okn_fixed T 12

abbrev N_are_alike : List Str := ["one", "other", "part", "its"]
theorem sc_are_alike : FnScope ["one", "other", "part", "its"] ["one", "other"] (defScope s_are_alike) := ⟨rfl, rfl, rfl, by decide +kernel, rfl, by decide +kernel, by decide +kernel⟩
def g_are_alike (f : List D → Sto → Out D) : DenS :=
  (sSeq (sIf (bAnd (fun env st => toB ((dCall (fIsi KN IS) (dCons (dVar 0) (dCons (dC (.ty "tuple")) dNil))) env st)) (fun env st => toB ((dCall (fIsi KN IS) (dCons (dVar 1) (dCons (dC (.ty "tuple")) dNil))) env st))) (sSeq (sRet (dAnd (dBin (fEqW false) (dCall fLen (dCons (dVar 0) dNil)) (dCall fLen (dCons (dVar 1) dNil))) (dCall fAll (dCons (dLc (iZipD (dCons (dVar 0) (dCons (dVar 1) dNil))) [2, 3] (gtT [2, 3]) bYes (dCall f (aLen 2 (dCons (dVar 2) (dCons (dVar 3) dNil))))) dNil))))
    sNil) sNil)
    (sSeq (sIf (fun env st => toB (dBin (fEqW true) (dCall (fIsi KN IS) (dCons (dVar 0) (dCons (dC (.ty "bool")) dNil))) (dCall (fIsi KN IS) (dCons (dVar 1) (dCons (dC (.ty "bool")) dNil))) env st)) (sSeq (sRet (dC (.bl false)))
    sNil) sNil)
    (sSeq (sRet (dCall (fBool bo0) (dCons (dBin (fEqW false) (dVar 0) (dVar 1)) dNil)))
    sNil)))
def m_are_alike : Nat → List D → Sto → Out D
  | 0 => fun _ _ => .bad
  | n + 1 => mk 2 4 (g_are_alike (m_are_alike n))
theorem okn_are_alike {P : Program} {w : World} {K : PySem.W.Frag} {mg : Str → Option Value} {base : Heap} {a : Ad} (T : Txt P w K mg a) : ∀ n, FnB P w K mg base (L2.CX P w) (n + 2) a.are_alike 2 [] (spD K (GG a) (m_are_alike n))
  | 0 => by
    obtain ⟨fd, F⟩ := T.F_are_alike
    exact FnOk.toD (π := none) (fn_bad (ps := ["one", "other"])) (Fun.kb (ps := ["one", "other"]) F 2 [] none fun _ _ _ _ _ _ us ws l1 l2 => match us, ws, l1, l2 with | [_, _], [], _, _ => rfl)
  | n + 1 => by
    obtain ⟨fd, F⟩ := T.F_are_alike
    have ih := okn_are_alike (base := base) T n
    show FnB P w K mg base (L2.CX P w) (n + 3) a.are_alike 2 [] (spD K (GG a) (mk 2 4 (g_are_alike (m_are_alike n))))
    generalize m_are_alike n = f at ih ⊢
    refine FnOk.toD (π := none) (fn_m (k := n + 2) (g := g_are_alike f) F sc_are_alike (by decide) fun cdv A outer s H E hr => ?_) (Fun.kb (ps := ["one", "other"]) F 2 [] none fun _ _ _ _ _ _ us ws l1 l2 => match us, ws, l1, l2 with | [_, _], [], _, _ => rfl)
    exact (ds_cons (ds_if (db_of (dbw_and (db_val (de_callB (call_isiD T.hN T.hI) nox_isi (by rfl) T.n_isinstance (by decide +kernel) (da_cons (de_var (pv 0)) (da_cons (de_ty (by rfl) T.n_tuple (by decide +kernel)) da_nil)))) (dbw_and1 (db_val (de_callB (call_isiD T.hN T.hI) nox_isi (by rfl) T.n_isinstance (by decide +kernel) (da_cons (de_var (pv 1)) (da_cons (de_ty (by rfl) T.n_tuple (by decide +kernel)) da_nil))))))) (ds_cons (ds_ret (de_and (de_cmp (o_eqW (u64 hr)) nox_eqW (de_callB c_len nox_len (by rfl) T.n_len (by decide +kernel) (da_cons (de_var (pv 0)) da_nil)) (de_callB c_len nox_len (by rfl) T.n_len (by decide +kernel) (da_cons (de_var (pv 1)) da_nil))) (de_and1 (de_callB (c_all rfl) nox_all (by rfl) T.n_all (by decide +kernel) (da_cons (de_lc (own := [("part", 2), ("its", 3)]) (gi := (iZipD (dCons (dVar 0) (dCons (dVar 1) dNil)))) (gt := (gtT [2, 3])) (gf := bYes) (ge := (dCall f (aLen 2 (dCons (dVar 2) (dCons (dVar 3) dNil))))) rfl sc_are_alike.nd (di_zip (by rfl) T.n_zip (da_cons (de_var (pv 0)) (da_cons (de_var (pv 1)) da_nil))) (blkOk_by (own := [("part", 2), ("its", 3)]) (N := N_are_alike) (sc := defScope s_are_alike) (by decide +kernel)) (fun _ _ _ _ _ => pg_tup rfl (pgs_cons (pg_name (i := 2) sc_are_alike.nd rfl (Or.inl rfl)) (pgs_cons (pg_name (i := 3) sc_are_alike.nd rfl (Or.inl rfl)) pgs_nil))) (tg_tup (is := [2, 3]) (by decide)) (fun _ _ _ _ _ => dts_nil) (fun _ _ _ _ _ => (de_callA (fn := f) ih hr (by rfl) T.g_are_alike T.k_are_alike takes0 (dc_pos (n := 2) (da_cons (de_var (pv 2)) (da_cons (de_var (pv 3)) da_nil)))))) da_nil)))))
    ds_nil) ds_nil)
    (ds_cons (ds_if (db_cmp (o_neW (u64 hr)) nox_eqW (de_callB (call_isiD T.hN T.hI) nox_isi (by rfl) T.n_isinstance (by decide +kernel) (da_cons (de_var (pv 0)) (da_cons (de_ty (by rfl) T.n_bool (by decide +kernel)) da_nil))) (de_callB (call_isiD T.hN T.hI) nox_isi (by rfl) T.n_isinstance (by decide +kernel) (da_cons (de_var (pv 1)) (da_cons (de_ty (by rfl) T.n_bool (by decide +kernel)) da_nil)))) (ds_cons (ds_ret de_bl)
    ds_nil) ds_nil)
    (ds_cons (ds_ret (de_callTy (c_bool (k := 0) bo0_ok (hr.mono (by omega))) nox_bool (by rfl) T.n_bool (by decide +kernel) (da_cons (de_cmp (o_eqW (u64 hr)) nox_eqW (de_var (pv 0)) (de_var (pv 1))) da_nil)))
    ds_nil)))
theorem ok_are_alike {P : Program} {w : World} {K : PySem.W.Frag} {mg : Str → Option Value} {base : Heap} {a : Ad} (T : Txt P w K mg a) : FnB P w K mg base (L2.CX P w) 14 a.are_alike 2 [] (spD K (GG a) (m_are_alike 12)) := okn_are_alike T 12

abbrev N_d_any : List Str := ["pen", "deep", "way", "some", "turn"]
theorem sc_d_any : FnScope ["pen", "deep", "way", "some", "turn"] ["pen", "deep"] (defScope s_d_any) := ⟨rfl, rfl, rfl, by decide +kernel, rfl, by decide +kernel, by decide +kernel⟩
def g_d_any (f : List D → Sto → Out D) : DenS :=
  (sSeq (sAsg (dCall m_draw (aLen 2 (dCons (dVar 0) (dCons (dC (.int 9)) dNil)))) (gN 2))
    (sSeq (sIf (bOr (fun env st => toB (dBin fLt (dVar 2) (dC (.int 7)) env st)) (fun env st => toB (dBin (fEqW false) (dVar 1) (dC (.int 0)) env st))) (sSeq (sRet (dCall m_pick (aLen 2 (dCons (dVar 0) (dCons (dLst (dCons (dC .non) (dCons (dC (.bl true)) (dCons (dC (.bl false)) (dCons (dC (.int 0)) (dCons (dC (.int 1)) (dCons (fun env st => ((dC (.int 5)) env st).bind kNeg) (dCons (dC (.str "word")) (dCons (dC (.str "")) (dCons (dC (.str "leaf")) (dCons (dBin fPow (dC (.int 10)) (dC (.int 40))) dNil))))))))))) dNil)))))
    sNil) sNil)
    (sSeq (sAsg (dLc (iRange (dCall m_draw (aLen 2 (dCons (dVar 0) (dCons (dC (.int 3)) dNil))))) [4] (gtN 4) bYes (dCall f (aLen 2 (dCons (dVar 0) (dCons (dBin fSub (dVar 1) (dC (.int 1))) dNil))))) (gN 3))
    (sSeq (sRet (dIf (fun env st => toB (dBin (fEqW false) (dVar 2) (dC (.int 7)) env st)) (dVar 3) (dCall fTuple (dCons (dVar 3) dNil))))
    sNil))))
def m_d_any : Nat → List D → Sto → Out D
  | 0 => fun _ _ => .bad
  | n + 1 => mk 2 5 (g_d_any (m_d_any n))
theorem okn_d_any {P : Program} {w : World} {K : PySem.W.Frag} {mg : Str → Option Value} {base : Heap} {a : Ad} (T : Txt P w K mg a) : ∀ n, FnB P w K mg base (L2.CX P w) (n + 2) a.d_any 2 [] (spD K (GG a) (m_d_any n))
  | 0 => by
    obtain ⟨fd, F⟩ := T.F_d_any
    exact FnOk.toD (π := none) (fn_bad (ps := ["pen", "deep"])) (Fun.kb (ps := ["pen", "deep"]) F 2 [] none fun _ _ _ _ _ _ us ws l1 l2 => match us, ws, l1, l2 with | [_, _], [], _, _ => rfl)
  | n + 1 => by
    obtain ⟨fd, F⟩ := T.F_d_any
    have ih := okn_d_any (base := base) T n
    show FnB P w K mg base (L2.CX P w) (n + 3) a.d_any 2 [] (spD K (GG a) (mk 2 5 (g_d_any (m_d_any n))))
    generalize m_d_any n = f at ih ⊢
    refine FnOk.toD (π := none) (fn_m (k := n + 2) (g := g_d_any f) F sc_d_any (by decide) fun cdv A outer s H E hr => ?_) (Fun.kb (ps := ["pen", "deep"]) F 2 [] none fun _ _ _ _ _ _ us ws l1 l2 => match us, ws, l1, l2 with | [_, _], [], _, _ => rfl)
    exact (ds_cons (ds_asg (de_callA (fn := m_draw) (ok_draw T) (hr.mono (by omega)) (by rfl) T.g__law_draw T.k__law_draw takes_cx (dc_pos (n := 2) (da_cons (de_var (pv 0)) (da_cons de_int da_nil)))) (dg_name (pg_name (i := 2) sc_d_any.nd rfl (.inl rfl))))
    (ds_cons (ds_if (db_of (dbw_or (db_cmp o_lt nox_int (de_var (pv 2)) de_int) (dbw_or1 (db_cmp (o_eqW (u64 hr)) nox_eqW (de_var (pv 1)) de_int)))) (ds_cons (ds_ret (de_callA (fn := m_pick) (ok_pick T) (hr.mono (by omega)) (by rfl) T.g__law_pick T.k__law_pick takes_cx (dc_pos (n := 2) (da_cons (de_var (pv 0)) (da_cons (de_lst (da_cons de_non (da_cons de_bl (da_cons de_bl (da_cons de_int (da_cons de_int (da_cons (de_neg de_int) (da_cons de_str (da_cons de_str (da_cons de_str (da_cons (de_op o_pow nox_int de_int de_int) da_nil))))))))))) da_nil)))))
    ds_nil) ds_nil)
    (ds_cons (ds_setLc (i := 3) (own := [("turn", 4)]) (gi := (iRange (dCall m_draw (aLen 2 (dCons (dVar 0) (dCons (dC (.int 3)) dNil)))))) (gt := (gtN 4)) (gf := bYes) (ge := (dCall f (aLen 2 (dCons (dVar 0) (dCons (dBin fSub (dVar 1) (dC (.int 1))) dNil))))) rfl sc_d_any.nd rfl rfl (sw_true rfl rfl rfl (by decide +kernel)) (di_range (by rfl) T.n_range (de_callA (fn := m_draw) (ok_draw T) (hr.mono (by omega)) (by rfl) T.g__law_draw T.k__law_draw takes_cx (dc_pos (n := 2) (da_cons (de_var (pv 0)) (da_cons de_int da_nil))))) (blkOk_by (own := [("turn", 4)]) (N := N_d_any) (sc := defScope s_d_any) (by decide +kernel)) (fun _ _ _ _ _ => pg_name (i := 4) sc_d_any.nd rfl (Or.inl rfl)) (tg_name (by decide)) (fun _ _ _ _ _ => dts_nil) (fun _ _ _ _ _ => (de_callA (fn := f) ih hr (by rfl) T.g__law_d_any T.k__law_d_any takes0 (dc_pos (n := 2) (da_cons (de_var (pv 0)) (da_cons (de_op o_sub nox_int (de_var (pv 1)) de_int) da_nil))))))
    (ds_cons (ds_ret (de_if (db_cmp (o_eqW (u64 hr)) nox_eqW (de_var (pv 2)) de_int) (de_var (pv 3)) (de_callTy c_tuple nox_tuple (by rfl) T.n_tuple (by decide +kernel) (da_cons (de_var (pv 3)) da_nil))))
    ds_nil))))
theorem ok_d_any {P : Program} {w : World} {K : PySem.W.Frag} {mg : Str → Option Value} {base : Heap} {a : Ad} (T : Txt P w K mg a) : FnB P w K mg base (L2.CX P w) 6 a.d_any 2 [] (spD K (GG a) (m_d_any 4)) := okn_d_any T 4

abbrev N_d_told : List Str := ["value", "part"]
theorem sc_d_told : FnScope ["value", "part"] ["value"] (defScope s_d_told) := ⟨rfl, rfl, rfl, by decide +kernel, rfl, by decide +kernel, by decide +kernel⟩
def g_d_told (f : List D → Sto → Out D) : DenS :=
  (sSeq (sRet (dIf (fun env st => toB ((dCall (fIsi KN IS) (dCons (dVar 0) (dCons (dTup (dCons (dC (.ty "list")) (dCons (dC (.ty "tuple")) dNil))) dNil))) env st)) (dCall fTuple (dCons (dLc (iSeq (dVar 0)) [1] (gtN 1) bYes (dCall f (aLen 1 (dCons (dVar 1) dNil)))) dNil)) (dVar 0)))
    sNil)
def m_d_told : Nat → List D → Sto → Out D
  | 0 => fun _ _ => .bad
  | n + 1 => mk 1 2 (g_d_told (m_d_told n))
theorem okn_d_told {P : Program} {w : World} {K : PySem.W.Frag} {mg : Str → Option Value} {base : Heap} {a : Ad} (T : Txt P w K mg a) : ∀ n, FnB P w K mg base (L2.CX P w) (n + 2) a.d_told 1 [] (spD K (GG a) (m_d_told n))
  | 0 => by
    obtain ⟨fd, F⟩ := T.F_d_told
    exact FnOk.toD (π := none) (fn_bad (ps := ["value"])) (Fun.kb (ps := ["value"]) F 1 [] none fun _ _ _ _ _ _ us ws l1 l2 => match us, ws, l1, l2 with | [_], [], _, _ => rfl)
  | n + 1 => by
    obtain ⟨fd, F⟩ := T.F_d_told
    have ih := okn_d_told (base := base) T n
    show FnB P w K mg base (L2.CX P w) (n + 3) a.d_told 1 [] (spD K (GG a) (mk 1 2 (g_d_told (m_d_told n))))
    generalize m_d_told n = f at ih ⊢
    refine FnOk.toD (π := none) (fn_m (k := n + 2) (g := g_d_told f) F sc_d_told (by decide) fun cdv A outer s H E hr => ?_) (Fun.kb (ps := ["value"]) F 1 [] none fun _ _ _ _ _ _ us ws l1 l2 => match us, ws, l1, l2 with | [_], [], _, _ => rfl)
    exact (ds_cons (ds_ret (de_if (db_val (de_callB (call_isiD T.hN T.hI) nox_isi (by rfl) T.n_isinstance (by decide +kernel) (da_cons (de_var (pv 0)) (da_cons (de_tup (da_cons (de_ty (by rfl) T.n_list (by decide +kernel)) (da_cons (de_ty (by rfl) T.n_tuple (by decide +kernel)) da_nil))) da_nil)))) (de_callTy c_tuple nox_tuple (by rfl) T.n_tuple (by decide +kernel) (da_cons (de_lc (own := [("part", 1)]) (gi := (iSeq (dVar 0))) (gt := (gtN 1)) (gf := bYes) (ge := (dCall f (aLen 1 (dCons (dVar 1) dNil)))) rfl sc_d_told.nd (di_seq (de_var (pv 0))) (blkOk_by (own := [("part", 1)]) (N := N_d_told) (sc := defScope s_d_told) (by decide +kernel)) (fun _ _ _ _ _ => pg_name (i := 1) sc_d_told.nd rfl (Or.inl rfl)) (tg_name (by decide)) (fun _ _ _ _ _ => dts_nil) (fun _ _ _ _ _ => (de_callA (fn := f) ih hr (by rfl) T.g__law_d_told T.k__law_d_told takes0 (dc_pos (n := 1) (da_cons (de_var (pv 1)) da_nil))))) da_nil)) (de_var (pv 0))))
    ds_nil)
theorem ok_d_told {P : Program} {w : World} {K : PySem.W.Frag} {mg : Str → Option Value} {base : Heap} {a : Ad} (T : Txt P w K mg a) : FnB P w K mg base (L2.CX P w) 14 a.d_told 1 [] (spD K (GG a) (m_d_told 12)) := okn_d_told T 12
end K45

set_option Elab.async false
set_option linter.all false
set_option maxRecDepth 100000
set_option maxHeartbeats 8000000
namespace K45
open PySem PySem.Spec PyProof.Rows L2 StX NdefX DL

abbrev N_Paper_i : List Str := ["self", "word", "parts"]
theorem sc_Paper_i : FnScope ["self", "word", "parts"] ["self", "word", "parts"] (defScope s_Paper_i) := ⟨rfl, rfl, rfl, by decide +kernel, rfl, by decide +kernel, by decide +kernel⟩
def g_Paper_i : DenS :=
  (sSeq (sFldD EC (dVar 0) (dCall (m_fixed 12) (aLen 1 (dCons (dVar 1) dNil))) "word")
    (sSeq (sFldD EC (dVar 0) (dCall (m_fixed 12) (aLen 1 (dCons (dVar 2) dNil))) "parts")
    sNil))

def m_Paper_i : List D → Sto → Out D := starFn 2 (mk 3 3 g_Paper_i)
theorem pap_body {P : Program} {w : World} {K : PySem.W.Frag} {mg : Str → Option Value} {base : Heap} {a : Ad} (T : Txt P w K mg a) : ∀ (cdv : Value) (A : Around) (outer : List Env) (s : Shared) (H : Hp) (E : XK), Room 14 (A.deeper (envOfC "Paper.__init__" (defScope s_Paper_i) s.heap.objs.size a.iPaper cdv)) →
    DSs (cxOf (L2.CX P w) P w K mg base ["self", "word", "parts"] "Paper.__init__" (defScope s_Paper_i) a.iPaper cdv A outer s H E) (GG a) (fun cls d _ H => E cls d H) (defBody s_Paper_i) g_Paper_i := fun cdv A outer s H E hr =>
  (ds_cons (ds_fld (de_var (pv 0)) (de_callA (fn := (m_fixed 12)) (ok_fixed T) (hr.mono (by decide)) (by rfl) T.g_fixed T.k_fixed takes_cx (dc_pos (n := 1) (da_cons (de_var (pv 1)) da_nil))) T.st_word)
    (ds_cons (ds_fld (de_var (pv 0)) (de_callA (fn := (m_fixed 12)) (ok_fixed T) (hr.mono (by decide)) (by rfl) T.g_fixed T.k_fixed takes_cx (dc_pos (n := 1) (da_cons (de_var (pv 2)) da_nil))) T.st_parts)
    ds_nil))
theorem FP2 {P : Program} {w : World} {K : PySem.W.Frag} {mg : Str → Option Value} {base : Heap} {a : Ad} (T : Txt P w K mg a) : FnB P w K mg base (L2.CX P w) 15 a.iPaper (2 + 1) [] (spD K (GG a) m_Paper_i) := by
  obtain ⟨fd, F⟩ := T.F_Paper_i
  exact fn_mStar (k := 14) (ps := ["self", "word"]) (pv := "parts") (n := 2 + 1) (ks := []) F sc_Paper_i (by decide) (by decide) (fun _ _ _ _ _ _ us ws l1 l2 => match us, ws, l1, l2 with | [_, _, _], [], _, _ => rfl) (fun cdv A outer s H E hr => pap_body T cdv A outer s H E hr)
theorem FP3 {P : Program} {w : World} {K : PySem.W.Frag} {mg : Str → Option Value} {base : Heap} {a : Ad} (T : Txt P w K mg a) : FnB P w K mg base (L2.CX P w) 15 a.iPaper (3 + 1) [] (spD K (GG a) m_Paper_i) := by
  obtain ⟨fd, F⟩ := T.F_Paper_i
  exact fn_mStar (k := 14) (ps := ["self", "word"]) (pv := "parts") (n := 3 + 1) (ks := []) F sc_Paper_i (by decide) (by decide) (fun _ _ _ _ _ _ us ws l1 l2 => match us, ws, l1, l2 with | [_, _, _, _], [], _, _ => rfl) (fun cdv A outer s H E hr => pap_body T cdv A outer s H E hr)
theorem FP4 {P : Program} {w : World} {K : PySem.W.Frag} {mg : Str → Option Value} {base : Heap} {a : Ad} (T : Txt P w K mg a) : FnB P w K mg base (L2.CX P w) 15 a.iPaper (4 + 1) [] (spD K (GG a) m_Paper_i) := by
  obtain ⟨fd, F⟩ := T.F_Paper_i
  exact fn_mStar (k := 14) (ps := ["self", "word"]) (pv := "parts") (n := 4 + 1) (ks := []) F sc_Paper_i (by decide) (by decide) (fun _ _ _ _ _ _ us ws l1 l2 => match us, ws, l1, l2 with | [_, _, _, _, _], [], _, _ => rfl) (fun cdv A outer s H E hr => pap_body T cdv A outer s H E hr)

abbrev N_Paper_b : List Str := ["self"]
theorem sc_Paper_b : FnScope ["self"] ["self"] (defScope s_Paper_b) := ⟨rfl, rfl, rfl, by decide +kernel, rfl, by decide +kernel, by decide +kernel⟩
def g_Paper_b : DenS :=
  (sSeq (sRet (dC (.bl true)))
    sNil)
def m_Paper_b : List D → Sto → Out D := mk 1 1 g_Paper_b
theorem ok_Paper_b {P : Program} {w : World} {K : PySem.W.Frag} {mg : Str → Option Value} {base : Heap} {a : Ad} (T : Txt P w K mg a) : FnB P w K mg base (L2.CX P w) 1 a.bPaper 1 [] (spD K (GG a) m_Paper_b) := by
  obtain ⟨fd, F⟩ := T.F_Paper_b
  refine FnOk.toD (π := none) (fn_m (k := 0) (g := g_Paper_b) F sc_Paper_b (by decide) fun cdv A outer s H E hr => ?_) (Fun.kb F 1 [] none fun _ _ _ _ _ _ us ws l1 l2 => match us, ws, l1, l2 with | [_], [], _, _ => rfl)
  exact (ds_cons (ds_ret de_bl)
    ds_nil)

abbrev N_Denial_b : List Str := ["self"]
theorem sc_Denial_b : FnScope ["self"] ["self"] (defScope s_Denial_b) := ⟨rfl, rfl, rfl, by decide +kernel, rfl, by decide +kernel, by decide +kernel⟩
def g_Denial_b : DenS :=
  (sSeq (sRet (dC (.bl false)))
    sNil)
def m_Denial_b : List D → Sto → Out D := mk 1 1 g_Denial_b
theorem ok_Denial_b {P : Program} {w : World} {K : PySem.W.Frag} {mg : Str → Option Value} {base : Heap} {a : Ad} (T : Txt P w K mg a) : FnB P w K mg base (L2.CX P w) 1 a.bDenial 1 [] (spD K (GG a) m_Denial_b) := by
  obtain ⟨fd, F⟩ := T.F_Denial_b
  refine FnOk.toD (π := none) (fn_m (k := 0) (g := g_Denial_b) F sc_Denial_b (by decide) fun cdv A outer s H E hr => ?_) (Fun.kb F 1 [] none fun _ _ _ _ _ _ us ws l1 l2 => match us, ws, l1, l2 with | [_], [], _, _ => rfl)
  exact (ds_cons (ds_ret de_bl)
    ds_nil)

abbrev N_Paper_e : List Str := ["self", "other"]
theorem sc_Paper_e : FnScope ["self", "other"] ["self", "other"] (defScope s_Paper_e) := ⟨rfl, rfl, rfl, by decide +kernel, rfl, by decide +kernel, by decide +kernel⟩
def g_Paper_e : DenS :=
  (sSeq (sIf (bOr (bNot (fun env st => toB ((dCall (fIsi KN IS) (dCons (dVar 1) (dCons (dC (.cls "Paper")) dNil))) env st))) (fun env st => toB (dBin (fEqW true) (fun env st => ((fun env st => ((dVar 0) env st).bind (kCls EC)) env st).bind (kName EC)) (fun env st => ((fun env st => ((dVar 1) env st).bind (kCls EC)) env st).bind (kName EC)) env st))) (sSeq (sRet (dC (.bl false)))
    sNil) sNil)
    (sSeq (sRet (dCall (m_are_alike 12) (aLen 2 (dCons (dTup (dCons (fun env st => ((dVar 0) env st).bind (kFld CI_word CE_word "word")) (dCons (fun env st => ((dVar 0) env st).bind (kFld CI_parts CE_parts "parts")) dNil))) (dCons (dTup (dCons (fun env st => ((dVar 1) env st).bind (kFld CI_word CE_word "word")) (dCons (fun env st => ((dVar 1) env st).bind (kFld CI_parts CE_parts "parts")) dNil))) dNil)))))
    sNil))
def m_Paper_e : List D → Sto → Out D := mk 2 2 g_Paper_e
theorem ok_Paper_e {P : Program} {w : World} {K : PySem.W.Frag} {mg : Str → Option Value} {base : Heap} {a : Ad} (T : Txt P w K mg a) : FnB P w K mg base (L2.CX P w) 15 a.ePaper 2 [] (spD K (GG a) m_Paper_e) := by
  obtain ⟨fd, F⟩ := T.F_Paper_e
  refine FnOk.toD (π := none) (fn_m (k := 14) (g := g_Paper_e) F sc_Paper_e (by decide) fun cdv A outer s H E hr => ?_) (Fun.kb F 2 [] none fun _ _ _ _ _ _ us ws l1 l2 => match us, ws, l1, l2 with | [_, _], [], _, _ => rfl)
  exact (ds_cons (ds_if (db_of (dbw_or (db_not (db_val (de_callB (call_isiD T.hN T.hI) nox_isi (by rfl) T.n_isinstance (by decide +kernel) (da_cons (de_var (pv 1)) (da_cons (de_cls (by rfl) T.g_Paper rfl) da_nil))))) (dbw_or1 (db_cmp (o_neW (u64 hr)) nox_eqW (de_cname (de_class (de_var (pv 0)) T.insE (by rfl)) T.nmE (by rfl)) (de_cname (de_class (de_var (pv 1)) T.insE (by rfl)) T.nmE (by rfl)))))) (ds_cons (ds_ret de_bl)
    ds_nil) ds_nil)
    (ds_cons (ds_ret (de_callA (fn := (m_are_alike 12)) (ok_are_alike T) (hr.mono (by decide)) (by rfl) T.g_are_alike T.k_are_alike takes_cx (dc_pos (n := 2) (da_cons (de_tup (da_cons (de_get (de_var (pv 0)) T.fld_word (by rfl)) (da_cons (de_get (de_var (pv 0)) T.fld_parts (by rfl)) da_nil))) (da_cons (de_tup (da_cons (de_get (de_var (pv 1)) T.fld_word (by rfl)) (da_cons (de_get (de_var (pv 1)) T.fld_parts (by rfl)) da_nil))) da_nil)))))
    ds_nil))

abbrev N_Freed_i : List Str := ["self", "frees", "rows", "__class__"]
theorem nsc_Freed_i : NScope ["self", "frees", "rows", "__class__"] ["self", "frees", "rows"] ["__class__"] (defScope s_Freed_i) := nscope_by (by decide +kernel)
theorem sss_Freed_i : SupS s_Freed_i "self" ["self", "frees", "rows", "__class__"] := ⟨by decide +kernel, by decide +kernel, by decide +kernel, ⟨_, rfl, rfl⟩, rfl⟩
def g_Freed_i : DenS :=
  (sSeq (sSup ["Freed"] m_Paper_i 3 (dCons (dC (.str "freed")) (dCons (dVar 1) (dCons (dVar 2) dNil))))
    (sSeq (sAsg (fun env st => ((dVar 0) env st).bind (kFld CI_parts CE_parts "parts")) (gTupD 2 (gsCons (gFldD EC (dVar 0) "frees") (gsCons (gFldD EC (dVar 0) "rows") gsNil))))
    sNil))
def m_Freed_i : List D → Sto → Out D := mk 3 4 g_Freed_i
theorem sup_Freed {P : Program} {w : World} {K : PySem.W.Frag} {mg : Str → Option Value} {a : Ad} (T : Txt P w K mg a) : ∀ c ∈ ["Freed"], ∀ C, GG a c = some C → SupM K C a.Freed a.iPaper := fun c hc C h => by
  rw [List.mem_singleton] at hc
  subst hc
  have e : GG a "Freed" = some a.Freed := rfl
  rw [e] at h
  cases h
  exact T.sm_Freed
theorem okf_Freed {P : Program} {w : World} {K : PySem.W.Frag} {mg : Str → Option Value} {base : Heap} {a : Ad} (T : Txt P w K mg a) : ∃ fd, FunC K "__init__" "Freed.__init__" s_Freed_i a.iFreed fd a.cFreed a.xFreed a.Freed ∧ FnOk P w K mg base (L2.CX P w) 16 a.iFreed fd ["self", "frees", "rows"] (spD K (GG a) m_Freed_i) := by
  obtain ⟨fd, F⟩ := T.F_Freed
  refine ⟨fd, F, fn_mS (k := 15) (g := g_Freed_i) F nsc_Freed_i fun A outer s H E hr => ?_⟩
  exact ds_seqAt (ds_sup (cs := ["Freed"]) (n := 3) (fn := m_Paper_i) (fun env => ⟨_, rfl⟩) (sup_ncx F T.sk_Freed sss_Freed_i A outer s H E) (FP3 T) (hr.mono (by decide)) takes_nc (da_cons de_str (da_cons (de_var (pv 1)) (da_cons (de_var (pv 2)) da_nil))) (sup_Freed T))
    (ds_cons (ds_asg (de_get (de_var (pv 0)) T.fld_parts (by rfl)) (dg_tup (t := gTup K 0) (n := 2) (fun _ h => pg_tup rfl h) (dgs_cons (dg_fld (de_var (pv 0)) T.st_frees) (dgs_cons (dg_fld (de_var (pv 0)) T.st_rows) dgs_nil))))
    ds_nil)
theorem FN_Freed {P : Program} {w : World} {K : PySem.W.Frag} {mg : Str → Option Value} {base : Heap} {a : Ad} (T : Txt P w K mg a) : FnB P w K mg base (L2.CX P w) 16 a.iFreed (2 + 1) [] (spD K (GG a) m_Freed_i) := by
  obtain ⟨fd, F, h⟩ := okf_Freed (base := base) T
  exact FnOk.toD (π := none) h (FunC.kb F 3 [] none fun _ _ _ _ _ us ws l1 l2 => match us, ws, l1, l2 with | [_, _, _], [], _, _ => rfl)
theorem FK_Freed {P : Program} {w : World} {K : PySem.W.Frag} {mg : Str → Option Value} {base : Heap} {a : Ad} (T : Txt P w K mg a) : FnB P w K mg base (L2.CX P w) 16 a.iFreed (0 + 1) ["rows", "frees"] (spD K (GG a) fun ds st => m_Freed_i (permO (some [0, 2, 1]) ds) st) := by
  obtain ⟨fd, F, h⟩ := okf_Freed (base := base) T
  exact FnOk.toD (π := some [0, 2, 1]) h (FunC.kb F 1 ["rows", "frees"] (some [0, 2, 1]) fun _ _ _ _ _ us ws l1 l2 => match us, ws, l1, l2 with | [_], [_, _], _, _ => rfl)

abbrev N_Torn_i : List Str := ["self", "shape", "run", "others", "__class__"]
theorem nsc_Torn_i : NScope ["self", "shape", "run", "others", "__class__"] ["self", "shape", "run", "others"] ["__class__"] (defScope s_Torn_i) := nscope_by (by decide +kernel)
theorem sss_Torn_i : SupS s_Torn_i "self" ["self", "shape", "run", "others", "__class__"] := ⟨by decide +kernel, by decide +kernel, by decide +kernel, ⟨_, rfl, rfl⟩, rfl⟩
def g_Torn_i : DenS :=
  (sSeq (sSup ["Torn"] m_Paper_i 4 (dCons (dC (.str "torn")) (dCons (dVar 1) (dCons (dVar 2) (dCons (dVar 3) dNil)))))
    (sSeq (sAsg (fun env st => ((dVar 0) env st).bind (kFld CI_parts CE_parts "parts")) (gTupD 3 (gsCons (gFldD EC (dVar 0) "shape") (gsCons (gFldD EC (dVar 0) "run") (gsCons (gFldD EC (dVar 0) "others") gsNil)))))
    sNil))
def m_Torn_i : List D → Sto → Out D := mk 4 5 g_Torn_i
theorem sup_Torn {P : Program} {w : World} {K : PySem.W.Frag} {mg : Str → Option Value} {a : Ad} (T : Txt P w K mg a) : ∀ c ∈ ["Torn"], ∀ C, GG a c = some C → SupM K C a.Torn a.iPaper := fun c hc C h => by
  rw [List.mem_singleton] at hc
  subst hc
  have e : GG a "Torn" = some a.Torn := rfl
  rw [e] at h
  cases h
  exact T.sm_Torn
theorem okf_Torn {P : Program} {w : World} {K : PySem.W.Frag} {mg : Str → Option Value} {base : Heap} {a : Ad} (T : Txt P w K mg a) : ∃ fd, FunC K "__init__" "Torn.__init__" s_Torn_i a.iTorn fd a.cTorn a.xTorn a.Torn ∧ FnOk P w K mg base (L2.CX P w) 16 a.iTorn fd ["self", "shape", "run", "others"] (spD K (GG a) m_Torn_i) := by
  obtain ⟨fd, F⟩ := T.F_Torn
  refine ⟨fd, F, fn_mS (k := 15) (g := g_Torn_i) F nsc_Torn_i fun A outer s H E hr => ?_⟩
  exact ds_seqAt (ds_sup (cs := ["Torn"]) (n := 4) (fn := m_Paper_i) (fun env => ⟨_, rfl⟩) (sup_ncx F T.sk_Torn sss_Torn_i A outer s H E) (FP4 T) (hr.mono (by decide)) takes_nc (da_cons de_str (da_cons (de_var (pv 1)) (da_cons (de_var (pv 2)) (da_cons (de_var (pv 3)) da_nil)))) (sup_Torn T))
    (ds_cons (ds_asg (de_get (de_var (pv 0)) T.fld_parts (by rfl)) (dg_tup (t := gTup K 0) (n := 3) (fun _ h => pg_tup rfl h) (dgs_cons (dg_fld (de_var (pv 0)) T.st_shape) (dgs_cons (dg_fld (de_var (pv 0)) T.st_run) (dgs_cons (dg_fld (de_var (pv 0)) T.st_others) dgs_nil)))))
    ds_nil)
theorem FN_Torn {P : Program} {w : World} {K : PySem.W.Frag} {mg : Str → Option Value} {base : Heap} {a : Ad} (T : Txt P w K mg a) : FnB P w K mg base (L2.CX P w) 16 a.iTorn (3 + 1) [] (spD K (GG a) m_Torn_i) := by
  obtain ⟨fd, F, h⟩ := okf_Torn (base := base) T
  exact FnOk.toD (π := none) h (FunC.kb F 4 [] none fun _ _ _ _ _ us ws l1 l2 => match us, ws, l1, l2 with | [_, _, _, _], [], _, _ => rfl)
theorem FK_Torn {P : Program} {w : World} {K : PySem.W.Frag} {mg : Str → Option Value} {base : Heap} {a : Ad} (T : Txt P w K mg a) : FnB P w K mg base (L2.CX P w) 16 a.iTorn (0 + 1) ["others", "run", "shape"] (spD K (GG a) fun ds st => m_Torn_i (permO (some [0, 3, 2, 1]) ds) st) := by
  obtain ⟨fd, F, h⟩ := okf_Torn (base := base) T
  exact FnOk.toD (π := some [0, 3, 2, 1]) h (FunC.kb F 1 ["others", "run", "shape"] (some [0, 3, 2, 1]) fun _ _ _ _ _ us ws l1 l2 => match us, ws, l1, l2 with | [_], [_, _, _], _, _ => rfl)

abbrev N_Needed_i : List Str := ["self", "torn", "freed", "__class__"]
theorem nsc_Needed_i : NScope ["self", "torn", "freed", "__class__"] ["self", "torn", "freed"] ["__class__"] (defScope s_Needed_i) := nscope_by (by decide +kernel)
theorem sss_Needed_i : SupS s_Needed_i "self" ["self", "torn", "freed", "__class__"] := ⟨by decide +kernel, by decide +kernel, by decide +kernel, ⟨_, rfl, rfl⟩, rfl⟩
def g_Needed_i : DenS :=
  (sSeq (sSup ["Needed"] m_Paper_i 3 (dCons (dC (.str "needed")) (dCons (dVar 1) (dCons (dVar 2) dNil))))
    (sSeq (sAsg (fun env st => ((dVar 0) env st).bind (kFld CI_parts CE_parts "parts")) (gTupD 2 (gsCons (gFldD EC (dVar 0) "torn") (gsCons (gFldD EC (dVar 0) "freed") gsNil))))
    sNil))
def m_Needed_i : List D → Sto → Out D := mk 3 4 g_Needed_i
theorem sup_Needed {P : Program} {w : World} {K : PySem.W.Frag} {mg : Str → Option Value} {a : Ad} (T : Txt P w K mg a) : ∀ c ∈ ["Needed"], ∀ C, GG a c = some C → SupM K C a.Needed a.iPaper := fun c hc C h => by
  rw [List.mem_singleton] at hc
  subst hc
  have e : GG a "Needed" = some a.Needed := rfl
  rw [e] at h
  cases h
  exact T.sm_Needed
theorem okf_Needed {P : Program} {w : World} {K : PySem.W.Frag} {mg : Str → Option Value} {base : Heap} {a : Ad} (T : Txt P w K mg a) : ∃ fd, FunC K "__init__" "Needed.__init__" s_Needed_i a.iNeeded fd a.cNeeded a.xNeeded a.Needed ∧ FnOk P w K mg base (L2.CX P w) 16 a.iNeeded fd ["self", "torn", "freed"] (spD K (GG a) m_Needed_i) := by
  obtain ⟨fd, F⟩ := T.F_Needed
  refine ⟨fd, F, fn_mS (k := 15) (g := g_Needed_i) F nsc_Needed_i fun A outer s H E hr => ?_⟩
  exact ds_seqAt (ds_sup (cs := ["Needed"]) (n := 3) (fn := m_Paper_i) (fun env => ⟨_, rfl⟩) (sup_ncx F T.sk_Needed sss_Needed_i A outer s H E) (FP3 T) (hr.mono (by decide)) takes_nc (da_cons de_str (da_cons (de_var (pv 1)) (da_cons (de_var (pv 2)) da_nil))) (sup_Needed T))
    (ds_cons (ds_asg (de_get (de_var (pv 0)) T.fld_parts (by rfl)) (dg_tup (t := gTup K 0) (n := 2) (fun _ h => pg_tup rfl h) (dgs_cons (dg_fld (de_var (pv 0)) T.st_torn) (dgs_cons (dg_fld (de_var (pv 0)) T.st_freed) dgs_nil))))
    ds_nil)
theorem FN_Needed {P : Program} {w : World} {K : PySem.W.Frag} {mg : Str → Option Value} {base : Heap} {a : Ad} (T : Txt P w K mg a) : FnB P w K mg base (L2.CX P w) 16 a.iNeeded (2 + 1) [] (spD K (GG a) m_Needed_i) := by
  obtain ⟨fd, F, h⟩ := okf_Needed (base := base) T
  exact FnOk.toD (π := none) h (FunC.kb F 3 [] none fun _ _ _ _ _ us ws l1 l2 => match us, ws, l1, l2 with | [_, _, _], [], _, _ => rfl)
theorem FK_Needed {P : Program} {w : World} {K : PySem.W.Frag} {mg : Str → Option Value} {base : Heap} {a : Ad} (T : Txt P w K mg a) : FnB P w K mg base (L2.CX P w) 16 a.iNeeded (0 + 1) ["freed", "torn"] (spD K (GG a) fun ds st => m_Needed_i (permO (some [0, 2, 1]) ds) st) := by
  obtain ⟨fd, F, h⟩ := okf_Needed (base := base) T
  exact FnOk.toD (π := some [0, 2, 1]) h (FunC.kb F 1 ["freed", "torn"] (some [0, 2, 1]) fun _ _ _ _ _ us ws l1 l2 => match us, ws, l1, l2 with | [_], [_, _], _, _ => rfl)

abbrev N_Dies_i : List Str := ["self", "run", "rows", "__class__"]
theorem nsc_Dies_i : NScope ["self", "run", "rows", "__class__"] ["self", "run", "rows"] ["__class__"] (defScope s_Dies_i) := nscope_by (by decide +kernel)
theorem sss_Dies_i : SupS s_Dies_i "self" ["self", "run", "rows", "__class__"] := ⟨by decide +kernel, by decide +kernel, by decide +kernel, ⟨_, rfl, rfl⟩, rfl⟩
def g_Dies_i : DenS :=
  (sSeq (sSup ["Dies"] m_Paper_i 3 (dCons (dC (.str "dies")) (dCons (dVar 1) (dCons (dVar 2) dNil))))
    (sSeq (sAsg (fun env st => ((dVar 0) env st).bind (kFld CI_parts CE_parts "parts")) (gTupD 2 (gsCons (gFldD EC (dVar 0) "run") (gsCons (gFldD EC (dVar 0) "rows") gsNil))))
    sNil))
def m_Dies_i : List D → Sto → Out D := mk 3 4 g_Dies_i
theorem sup_Dies {P : Program} {w : World} {K : PySem.W.Frag} {mg : Str → Option Value} {a : Ad} (T : Txt P w K mg a) : ∀ c ∈ ["Dies"], ∀ C, GG a c = some C → SupM K C a.Dies a.iPaper := fun c hc C h => by
  rw [List.mem_singleton] at hc
  subst hc
  have e : GG a "Dies" = some a.Dies := rfl
  rw [e] at h
  cases h
  exact T.sm_Dies
theorem okf_Dies {P : Program} {w : World} {K : PySem.W.Frag} {mg : Str → Option Value} {base : Heap} {a : Ad} (T : Txt P w K mg a) : ∃ fd, FunC K "__init__" "Dies.__init__" s_Dies_i a.iDies fd a.cDies a.xDies a.Dies ∧ FnOk P w K mg base (L2.CX P w) 16 a.iDies fd ["self", "run", "rows"] (spD K (GG a) m_Dies_i) := by
  obtain ⟨fd, F⟩ := T.F_Dies
  refine ⟨fd, F, fn_mS (k := 15) (g := g_Dies_i) F nsc_Dies_i fun A outer s H E hr => ?_⟩
  exact ds_seqAt (ds_sup (cs := ["Dies"]) (n := 3) (fn := m_Paper_i) (fun env => ⟨_, rfl⟩) (sup_ncx F T.sk_Dies sss_Dies_i A outer s H E) (FP3 T) (hr.mono (by decide)) takes_nc (da_cons de_str (da_cons (de_var (pv 1)) (da_cons (de_var (pv 2)) da_nil))) (sup_Dies T))
    (ds_cons (ds_asg (de_get (de_var (pv 0)) T.fld_parts (by rfl)) (dg_tup (t := gTup K 0) (n := 2) (fun _ h => pg_tup rfl h) (dgs_cons (dg_fld (de_var (pv 0)) T.st_run) (dgs_cons (dg_fld (de_var (pv 0)) T.st_rows) dgs_nil))))
    ds_nil)
theorem FN_Dies {P : Program} {w : World} {K : PySem.W.Frag} {mg : Str → Option Value} {base : Heap} {a : Ad} (T : Txt P w K mg a) : FnB P w K mg base (L2.CX P w) 16 a.iDies (2 + 1) [] (spD K (GG a) m_Dies_i) := by
  obtain ⟨fd, F, h⟩ := okf_Dies (base := base) T
  exact FnOk.toD (π := none) h (FunC.kb F 3 [] none fun _ _ _ _ _ us ws l1 l2 => match us, ws, l1, l2 with | [_, _, _], [], _, _ => rfl)
theorem FK_Dies {P : Program} {w : World} {K : PySem.W.Frag} {mg : Str → Option Value} {base : Heap} {a : Ad} (T : Txt P w K mg a) : FnB P w K mg base (L2.CX P w) 16 a.iDies (0 + 1) ["rows", "run"] (spD K (GG a) fun ds st => m_Dies_i (permO (some [0, 2, 1]) ds) st) := by
  obtain ⟨fd, F, h⟩ := okf_Dies (base := base) T
  exact FnOk.toD (π := some [0, 2, 1]) h (FunC.kb F 1 ["rows", "run"] (some [0, 2, 1]) fun _ _ _ _ _ us ws l1 l2 => match us, ws, l1, l2 with | [_], [_, _], _, _ => rfl)

abbrev N_Lives_i : List Str := ["self", "run", "rows", "__class__"]
theorem nsc_Lives_i : NScope ["self", "run", "rows", "__class__"] ["self", "run", "rows"] ["__class__"] (defScope s_Lives_i) := nscope_by (by decide +kernel)
theorem sss_Lives_i : SupS s_Lives_i "self" ["self", "run", "rows", "__class__"] := ⟨by decide +kernel, by decide +kernel, by decide +kernel, ⟨_, rfl, rfl⟩, rfl⟩
def g_Lives_i : DenS :=
  (sSeq (sSup ["Lives"] m_Paper_i 3 (dCons (dC (.str "lives")) (dCons (dVar 1) (dCons (dVar 2) dNil))))
    (sSeq (sAsg (fun env st => ((dVar 0) env st).bind (kFld CI_parts CE_parts "parts")) (gTupD 2 (gsCons (gFldD EC (dVar 0) "run") (gsCons (gFldD EC (dVar 0) "rows") gsNil))))
    sNil))
def m_Lives_i : List D → Sto → Out D := mk 3 4 g_Lives_i
theorem sup_Lives {P : Program} {w : World} {K : PySem.W.Frag} {mg : Str → Option Value} {a : Ad} (T : Txt P w K mg a) : ∀ c ∈ ["Lives"], ∀ C, GG a c = some C → SupM K C a.Lives a.iPaper := fun c hc C h => by
  rw [List.mem_singleton] at hc
  subst hc
  have e : GG a "Lives" = some a.Lives := rfl
  rw [e] at h
  cases h
  exact T.sm_Lives
theorem okf_Lives {P : Program} {w : World} {K : PySem.W.Frag} {mg : Str → Option Value} {base : Heap} {a : Ad} (T : Txt P w K mg a) : ∃ fd, FunC K "__init__" "Lives.__init__" s_Lives_i a.iLives fd a.cLives a.xLives a.Lives ∧ FnOk P w K mg base (L2.CX P w) 16 a.iLives fd ["self", "run", "rows"] (spD K (GG a) m_Lives_i) := by
  obtain ⟨fd, F⟩ := T.F_Lives
  refine ⟨fd, F, fn_mS (k := 15) (g := g_Lives_i) F nsc_Lives_i fun A outer s H E hr => ?_⟩
  exact ds_seqAt (ds_sup (cs := ["Lives"]) (n := 3) (fn := m_Paper_i) (fun env => ⟨_, rfl⟩) (sup_ncx F T.sk_Lives sss_Lives_i A outer s H E) (FP3 T) (hr.mono (by decide)) takes_nc (da_cons de_str (da_cons (de_var (pv 1)) (da_cons (de_var (pv 2)) da_nil))) (sup_Lives T))
    (ds_cons (ds_asg (de_get (de_var (pv 0)) T.fld_parts (by rfl)) (dg_tup (t := gTup K 0) (n := 2) (fun _ h => pg_tup rfl h) (dgs_cons (dg_fld (de_var (pv 0)) T.st_run) (dgs_cons (dg_fld (de_var (pv 0)) T.st_rows) dgs_nil))))
    ds_nil)
theorem FN_Lives {P : Program} {w : World} {K : PySem.W.Frag} {mg : Str → Option Value} {base : Heap} {a : Ad} (T : Txt P w K mg a) : FnB P w K mg base (L2.CX P w) 16 a.iLives (2 + 1) [] (spD K (GG a) m_Lives_i) := by
  obtain ⟨fd, F, h⟩ := okf_Lives (base := base) T
  exact FnOk.toD (π := none) h (FunC.kb F 3 [] none fun _ _ _ _ _ us ws l1 l2 => match us, ws, l1, l2 with | [_, _, _], [], _, _ => rfl)
theorem FK_Lives {P : Program} {w : World} {K : PySem.W.Frag} {mg : Str → Option Value} {base : Heap} {a : Ad} (T : Txt P w K mg a) : FnB P w K mg base (L2.CX P w) 16 a.iLives (0 + 1) ["rows", "run"] (spD K (GG a) fun ds st => m_Lives_i (permO (some [0, 2, 1]) ds) st) := by
  obtain ⟨fd, F, h⟩ := okf_Lives (base := base) T
  exact FnOk.toD (π := some [0, 2, 1]) h (FunC.kb F 1 ["rows", "run"] (some [0, 2, 1]) fun _ _ _ _ _ us ws l1 l2 => match us, ws, l1, l2 with | [_], [_, _], _, _ => rfl)

abbrev N_Both_i : List Str := ["self", "run", "other", "__class__"]
theorem nsc_Both_i : NScope ["self", "run", "other", "__class__"] ["self", "run", "other"] ["__class__"] (defScope s_Both_i) := nscope_by (by decide +kernel)
theorem sss_Both_i : SupS s_Both_i "self" ["self", "run", "other", "__class__"] := ⟨by decide +kernel, by decide +kernel, by decide +kernel, ⟨_, rfl, rfl⟩, rfl⟩
def g_Both_i : DenS :=
  (sSeq (sSup ["Both"] m_Paper_i 3 (dCons (dC (.str "both")) (dCons (dVar 1) (dCons (dVar 2) dNil))))
    (sSeq (sAsg (fun env st => ((dVar 0) env st).bind (kFld CI_parts CE_parts "parts")) (gTupD 2 (gsCons (gFldD EC (dVar 0) "run") (gsCons (gFldD EC (dVar 0) "other") gsNil))))
    sNil))
def m_Both_i : List D → Sto → Out D := mk 3 4 g_Both_i
theorem sup_Both {P : Program} {w : World} {K : PySem.W.Frag} {mg : Str → Option Value} {a : Ad} (T : Txt P w K mg a) : ∀ c ∈ ["Both"], ∀ C, GG a c = some C → SupM K C a.Both a.iPaper := fun c hc C h => by
  rw [List.mem_singleton] at hc
  subst hc
  have e : GG a "Both" = some a.Both := rfl
  rw [e] at h
  cases h
  exact T.sm_Both
theorem okf_Both {P : Program} {w : World} {K : PySem.W.Frag} {mg : Str → Option Value} {base : Heap} {a : Ad} (T : Txt P w K mg a) : ∃ fd, FunC K "__init__" "Both.__init__" s_Both_i a.iBoth fd a.cBoth a.xBoth a.Both ∧ FnOk P w K mg base (L2.CX P w) 16 a.iBoth fd ["self", "run", "other"] (spD K (GG a) m_Both_i) := by
  obtain ⟨fd, F⟩ := T.F_Both
  refine ⟨fd, F, fn_mS (k := 15) (g := g_Both_i) F nsc_Both_i fun A outer s H E hr => ?_⟩
  exact ds_seqAt (ds_sup (cs := ["Both"]) (n := 3) (fn := m_Paper_i) (fun env => ⟨_, rfl⟩) (sup_ncx F T.sk_Both sss_Both_i A outer s H E) (FP3 T) (hr.mono (by decide)) takes_nc (da_cons de_str (da_cons (de_var (pv 1)) (da_cons (de_var (pv 2)) da_nil))) (sup_Both T))
    (ds_cons (ds_asg (de_get (de_var (pv 0)) T.fld_parts (by rfl)) (dg_tup (t := gTup K 0) (n := 2) (fun _ h => pg_tup rfl h) (dgs_cons (dg_fld (de_var (pv 0)) T.st_run) (dgs_cons (dg_fld (de_var (pv 0)) T.st_other) dgs_nil))))
    ds_nil)
theorem FN_Both {P : Program} {w : World} {K : PySem.W.Frag} {mg : Str → Option Value} {base : Heap} {a : Ad} (T : Txt P w K mg a) : FnB P w K mg base (L2.CX P w) 16 a.iBoth (2 + 1) [] (spD K (GG a) m_Both_i) := by
  obtain ⟨fd, F, h⟩ := okf_Both (base := base) T
  exact FnOk.toD (π := none) h (FunC.kb F 3 [] none fun _ _ _ _ _ us ws l1 l2 => match us, ws, l1, l2 with | [_, _, _], [], _, _ => rfl)
theorem FK_Both {P : Program} {w : World} {K : PySem.W.Frag} {mg : Str → Option Value} {base : Heap} {a : Ad} (T : Txt P w K mg a) : FnB P w K mg base (L2.CX P w) 16 a.iBoth (0 + 1) ["other", "run"] (spD K (GG a) fun ds st => m_Both_i (permO (some [0, 2, 1]) ds) st) := by
  obtain ⟨fd, F, h⟩ := okf_Both (base := base) T
  exact FnOk.toD (π := some [0, 2, 1]) h (FunC.kb F 1 ["other", "run"] (some [0, 2, 1]) fun _ _ _ _ _ us ws l1 l2 => match us, ws, l1, l2 with | [_], [_, _], _, _ => rfl)

abbrev N_Unmet_i : List Str := ["self", "rows", "__class__"]
theorem nsc_Unmet_i : NScope ["self", "rows", "__class__"] ["self", "rows"] ["__class__"] (defScope s_Unmet_i) := nscope_by (by decide +kernel)
theorem sss_Unmet_i : SupS s_Unmet_i "self" ["self", "rows", "__class__"] := ⟨by decide +kernel, by decide +kernel, by decide +kernel, ⟨_, rfl, rfl⟩, rfl⟩
def g_Unmet_i : DenS :=
  (sSeq (sSup ["Unmet"] m_Paper_i 2 (dCons (dC (.str "unmet")) (dCons (dVar 1) dNil)))
    (sSeq (sFldD EC (dVar 0) (dBin fIx (fun env st => ((dVar 0) env st).bind (kFld CI_parts CE_parts "parts")) (dC (.int 0))) "rows")
    sNil))
def m_Unmet_i : List D → Sto → Out D := mk 2 3 g_Unmet_i
theorem sup_Unmet {P : Program} {w : World} {K : PySem.W.Frag} {mg : Str → Option Value} {a : Ad} (T : Txt P w K mg a) : ∀ c ∈ ["Unmet"], ∀ C, GG a c = some C → SupM K C a.Unmet a.iPaper := fun c hc C h => by
  rw [List.mem_singleton] at hc
  subst hc
  have e : GG a "Unmet" = some a.Unmet := rfl
  rw [e] at h
  cases h
  exact T.sm_Unmet
theorem okf_Unmet {P : Program} {w : World} {K : PySem.W.Frag} {mg : Str → Option Value} {base : Heap} {a : Ad} (T : Txt P w K mg a) : ∃ fd, FunC K "__init__" "Unmet.__init__" s_Unmet_i a.iUnmet fd a.cUnmet a.xUnmet a.Unmet ∧ FnOk P w K mg base (L2.CX P w) 16 a.iUnmet fd ["self", "rows"] (spD K (GG a) m_Unmet_i) := by
  obtain ⟨fd, F⟩ := T.F_Unmet
  refine ⟨fd, F, fn_mS (k := 15) (g := g_Unmet_i) F nsc_Unmet_i fun A outer s H E hr => ?_⟩
  exact ds_seqAt (ds_sup (cs := ["Unmet"]) (n := 2) (fn := m_Paper_i) (fun env => ⟨_, rfl⟩) (sup_ncx F T.sk_Unmet sss_Unmet_i A outer s H E) (FP2 T) (hr.mono (by decide)) takes_nc (da_cons de_str (da_cons (de_var (pv 1)) da_nil)) (sup_Unmet T))
    (ds_cons (ds_fld (de_var (pv 0)) (de_ix (de_get (de_var (pv 0)) T.fld_parts (by rfl)) de_int) T.st_rows)
    ds_nil)
theorem FN_Unmet {P : Program} {w : World} {K : PySem.W.Frag} {mg : Str → Option Value} {base : Heap} {a : Ad} (T : Txt P w K mg a) : FnB P w K mg base (L2.CX P w) 16 a.iUnmet (1 + 1) [] (spD K (GG a) m_Unmet_i) := by
  obtain ⟨fd, F, h⟩ := okf_Unmet (base := base) T
  exact FnOk.toD (π := none) h (FunC.kb F 2 [] none fun _ _ _ _ _ us ws l1 l2 => match us, ws, l1, l2 with | [_, _], [], _, _ => rfl)
theorem FK_Unmet {P : Program} {w : World} {K : PySem.W.Frag} {mg : Str → Option Value} {base : Heap} {a : Ad} (T : Txt P w K mg a) : FnB P w K mg base (L2.CX P w) 16 a.iUnmet (0 + 1) ["rows"] (spD K (GG a) fun ds st => m_Unmet_i (permO (some [0, 1]) ds) st) := by
  obtain ⟨fd, F, h⟩ := okf_Unmet (base := base) T
  exact FnOk.toD (π := some [0, 1]) h (FunC.kb F 1 ["rows"] (some [0, 1]) fun _ _ _ _ _ us ws l1 l2 => match us, ws, l1, l2 with | [_], [_], _, _ => rfl)

abbrev N_Deaths_i : List Str := ["self", "spots", "rows", "__class__"]
theorem nsc_Deaths_i : NScope ["self", "spots", "rows", "__class__"] ["self", "spots", "rows"] ["__class__"] (defScope s_Deaths_i) := nscope_by (by decide +kernel)
theorem sss_Deaths_i : SupS s_Deaths_i "self" ["self", "spots", "rows", "__class__"] := ⟨by decide +kernel, by decide +kernel, by decide +kernel, ⟨_, rfl, rfl⟩, rfl⟩
def g_Deaths_i : DenS :=
  (sSeq (sSup ["Deaths"] m_Paper_i 3 (dCons (dC (.str "deaths")) (dCons (dVar 1) (dCons (dVar 2) dNil))))
    (sSeq (sAsg (fun env st => ((dVar 0) env st).bind (kFld CI_parts CE_parts "parts")) (gTupD 2 (gsCons (gFldD EC (dVar 0) "spots") (gsCons (gFldD EC (dVar 0) "rows") gsNil))))
    sNil))
def m_Deaths_i : List D → Sto → Out D := mk 3 4 g_Deaths_i
theorem sup_Deaths {P : Program} {w : World} {K : PySem.W.Frag} {mg : Str → Option Value} {a : Ad} (T : Txt P w K mg a) : ∀ c ∈ ["Deaths"], ∀ C, GG a c = some C → SupM K C a.Deaths a.iPaper := fun c hc C h => by
  rw [List.mem_singleton] at hc
  subst hc
  have e : GG a "Deaths" = some a.Deaths := rfl
  rw [e] at h
  cases h
  exact T.sm_Deaths
theorem okf_Deaths {P : Program} {w : World} {K : PySem.W.Frag} {mg : Str → Option Value} {base : Heap} {a : Ad} (T : Txt P w K mg a) : ∃ fd, FunC K "__init__" "Deaths.__init__" s_Deaths_i a.iDeaths fd a.cDeaths a.xDeaths a.Deaths ∧ FnOk P w K mg base (L2.CX P w) 16 a.iDeaths fd ["self", "spots", "rows"] (spD K (GG a) m_Deaths_i) := by
  obtain ⟨fd, F⟩ := T.F_Deaths
  refine ⟨fd, F, fn_mS (k := 15) (g := g_Deaths_i) F nsc_Deaths_i fun A outer s H E hr => ?_⟩
  exact ds_seqAt (ds_sup (cs := ["Deaths"]) (n := 3) (fn := m_Paper_i) (fun env => ⟨_, rfl⟩) (sup_ncx F T.sk_Deaths sss_Deaths_i A outer s H E) (FP3 T) (hr.mono (by decide)) takes_nc (da_cons de_str (da_cons (de_var (pv 1)) (da_cons (de_var (pv 2)) da_nil))) (sup_Deaths T))
    (ds_cons (ds_asg (de_get (de_var (pv 0)) T.fld_parts (by rfl)) (dg_tup (t := gTup K 0) (n := 2) (fun _ h => pg_tup rfl h) (dgs_cons (dg_fld (de_var (pv 0)) T.st_spots) (dgs_cons (dg_fld (de_var (pv 0)) T.st_rows) dgs_nil))))
    ds_nil)
theorem FN_Deaths {P : Program} {w : World} {K : PySem.W.Frag} {mg : Str → Option Value} {base : Heap} {a : Ad} (T : Txt P w K mg a) : FnB P w K mg base (L2.CX P w) 16 a.iDeaths (2 + 1) [] (spD K (GG a) m_Deaths_i) := by
  obtain ⟨fd, F, h⟩ := okf_Deaths (base := base) T
  exact FnOk.toD (π := none) h (FunC.kb F 3 [] none fun _ _ _ _ _ us ws l1 l2 => match us, ws, l1, l2 with | [_, _, _], [], _, _ => rfl)
theorem FK_Deaths {P : Program} {w : World} {K : PySem.W.Frag} {mg : Str → Option Value} {base : Heap} {a : Ad} (T : Txt P w K mg a) : FnB P w K mg base (L2.CX P w) 16 a.iDeaths (0 + 1) ["rows", "spots"] (spD K (GG a) fun ds st => m_Deaths_i (permO (some [0, 2, 1]) ds) st) := by
  obtain ⟨fd, F, h⟩ := okf_Deaths (base := base) T
  exact FnOk.toD (π := some [0, 2, 1]) h (FunC.kb F 1 ["rows", "spots"] (some [0, 2, 1]) fun _ _ _ _ _ us ws l1 l2 => match us, ws, l1, l2 with | [_], [_, _], _, _ => rfl)

abbrev N_counted : List Str := ["self", "row"]
theorem sc_counted : FnScope ["self", "row"] ["self"] (defScope s_counted) := ⟨rfl, rfl, rfl, by decide +kernel, rfl, by decide +kernel, by decide +kernel⟩
def g_counted : DenS :=
  (sSeq (sRet (dCall fTuple (dCons (dLc (iSeq (fun env st => ((dVar 0) env st).bind (kFld CI_torn CE_torn "torn"))) [1] (gtN 1) bYes (dBin fIx (dVar 1) (dC (.int 0)))) dNil)))
    sNil)

def m_counted : List D → Sto → Out D := mk 1 2 g_counted
theorem okf_counted {P : Program} {w : World} {K : PySem.W.Frag} {mg : Str → Option Value} {base : Heap} {a : Ad} (T : Txt P w K mg a) : ∃ fd, FnOk P w K mg base (L2.CX P w) 2 a.counted fd ["self"] (spD K (GG a) m_counted) ∧ Binds K fd ["self"] [] := by
  obtain ⟨fd, F⟩ := T.F_counted
  refine ⟨fd, ?_, F.binds (ps := ["self"]) fun _ _ _ _ _ _ us hl => match us, hl with | [_], _ => rfl⟩
  have h := fn_m (w := w) (mg := mg) (base := base) (P := P) (G := GG a) (k := 1) (g := g_counted) F sc_counted (by decide) fun cdv A outer s H E hr => (by
    exact (ds_cons (ds_ret (de_callTy c_tuple nox_tuple (by rfl) T.n_tuple (by decide +kernel) (da_cons (de_lc (own := [("row", 1)]) (gi := (iSeq (fun env st => ((dVar 0) env st).bind (kFld CI_torn CE_torn "torn")))) (gt := (gtN 1)) (gf := bYes) (ge := (dBin fIx (dVar 1) (dC (.int 0)))) rfl sc_counted.nd (di_seq (de_get (de_var (pv 0)) T.fld_torn (by rfl))) (blkOk_by (own := [("row", 1)]) (N := N_counted) (sc := defScope s_counted) (by decide +kernel)) (fun _ _ _ _ _ => pg_name (i := 1) sc_counted.nd rfl (Or.inl rfl)) (tg_name (by decide)) (fun _ _ _ _ _ => dts_nil) (fun _ _ _ _ _ => (de_ix (de_var (pv 1)) de_int))) da_nil)))
    ds_nil))
  exact h
end K45

set_option Elab.async false
set_option linter.all false
set_option maxRecDepth 100000
set_option maxHeartbeats 2000000
namespace K45
open PySem PySem.Spec PyProof.Rows L2 StX NdefX DL

def BO : String → Option (List D → Sto → Out D) := fun c => if c ∈ (["Paper", "Freed", "Needed", "Dies", "Deaths"] : List String) then some m_Paper_b else if c ∈ (["Denial", "Torn", "Lives", "Both", "Unmet"] : List String) then some m_Denial_b else none
theorem bo_ok {X : Cx} {a : Ad} (T : Txt X.prog X.w X.K X.mg a) : BoOk X (GG a) 1 BO := fun c fb h C gc => by
  unfold BO at h
  split at h
  · rename_i h1
    cases h
    obtain ⟨q1, q2⟩ := T.bP c h1 C gc
    exact ⟨_, q1, q2, ok_Paper_b T⟩
  · split at h
    · rename_i h2
      cases h
      obtain ⟨q1, q2⟩ := T.bD c h2 C gc
      exact ⟨_, q1, q2, ok_Denial_b T⟩
    · cases h
def fEqA : F2 := orF (fEqW false) (fOwn KN SB EC m_Paper_e false)
def fNeA : F2 := orF (fEqW true) (fOwn KN SB EC m_Paper_e true)
noncomputable def fNeP : F2 := fNeL EC m_Paper_e
theorem nx_eqA : NoX2 fEqA := nox_or nox_eqW nox_own
theorem nx_neA : NoX2 fNeA := nox_or nox_eqW nox_own
theorem nx_neP : NoX2 fNeP := nox_neL
theorem o_eqA {X : Cx} {a : Ad} (T : Txt X.prog X.w X.K X.mg a) (hr : Room 17 X.A) : OpR X (compareOp .Eq) (r2 X.K (GG a) fEqA) := opr_or (o_eqW (u64 hr)) (o_own rfl T.hN T.hS T.eqE T.inj (ok_Paper_e T) (hr.mono (by decide)))
theorem o_neA {X : Cx} {a : Ad} (T : Txt X.prog X.w X.K X.mg a) (hr : Room 17 X.A) : OpR X (compareOp .NotEq) (r2 X.K (GG a) fNeA) := opr_or (o_neW (u64 hr)) (o_own rfl T.hN T.hS T.eqE T.inj (ok_Paper_e T) (hr.mono (by decide)))
theorem o_neP {X : Cx} {a : Ad} (T : Txt X.prog X.w X.K X.mg a) (hr : Room 17 X.A) : OpR X (compareOp .NotEq) (r2 X.K (GG a) fNeP) := o_neL T.eqE (ok_Paper_e T) (hr.mono (by decide))

abbrev N_law : List Str := ["script", "pen", "turn", "one", "two", "three", "told", "papers", "named", "sizes", "attributes", "at", "paper", "bent", "needed", "lap", "value", "size", "other"]
theorem sc_law : FnScope ["script", "pen", "turn", "one", "two", "three", "told", "papers", "named", "sizes", "attributes", "at", "paper", "bent", "needed", "lap", "value", "size", "other"] ["script"] (defScope s_law) := ⟨rfl, rfl, rfl, by decide +kernel, rfl, by decide +kernel, by decide +kernel⟩
abbrev XL (P : Program) (w : World) (K : PySem.W.Frag) (mg : Str → Option Value) (base : Heap) (a : Ad) (cdv : Value) (outer : List Env) (s : Shared) (H : Hp) (E : XK) : Cx := cxOf (L2.CX P w) P w K mg base N_law "law" (defScope s_law) a.law cdv callerA outer s H E
abbrev stAt (l : List Stmt) (i : Nat) : Stmt := l.getD i (.Pass ⟨0, 0, 0, 0⟩)
abbrev forBody (s : Stmt) : List Stmt := match s with | .For _ _ b _ _ => b | _ => []
end K45

set_option Elab.async false
set_option linter.all false
set_option maxRecDepth 100000
set_option maxHeartbeats 2000000
namespace K45
open PySem PySem.Spec PyProof.Rows L2 StX NdefX DL
def b0 : DenS := (sAsg (dCall m_pen (aLen 1 (dCons (dVar 0) dNil))) (gN 1))
theorem t_b0 {P : Program} {w : World} {K : PySem.W.Frag} {mg : Str → Option Value} {base : Heap} {a : Ad} (T : Txt P w K mg a) {cdv : Value} {outer : List Env} {s : Shared} {H : Hp} {E : XK} {fdc : FuncData}
    (FCnt : FnOk P w K mg base (L2.CX P w) 2 a.counted fdc ["self"] (spD K (GG a) m_counted)) (FCb : Binds K fdc ["self"] []) (hgd : callerA.guards = some [])
    (hr : Room 17 (callerA.deeper (envOfC "law" (defScope s_law) s.heap.objs.size a.law cdv))) : DS (XL P w K mg base a cdv outer s H E) (GG a) (fun cls d _ H => E cls d H) (stAt (defBody s_law) 0) b0 := by
  unfold b0
  exact (ds_asg (de_callA (fn := m_pen) (ok_pen T) (hr.mono (by decide)) (by rfl) T.g__law_pen T.k__law_pen takes_cx (dc_pos (n := 1) (da_cons (de_var (pv 0)) da_nil))) (dg_name (pg_name (i := 1) sc_law.nd rfl (.inr rfl))))
noncomputable def b1_5 : DenS := (sIf (bOr (fun env st => toB (dBin fNeP (dVar 7) (dVar 8) env st)) (fun env st => toB (dBin fNeA (dLc (iSeq (dVar 7)) [12] (gtN 12) bYes (fun env st => ((dVar 12) env st).bind (kFld CI_word CE_word "word"))) (dLst (dCons (dC (.str "dies")) (dCons (dC (.str "lives")) (dCons (dC (.str "both")) (dCons (dC (.str "unmet")) (dCons (dC (.str "deaths")) (dCons (dC (.str "freed")) (dCons (dC (.str "torn")) (dCons (dC (.str "needed")) dNil))))))))) env st))) (sSeq (sRet (dC (.bl false)))
    sNil) sNil)
theorem t_b1_5 {P : Program} {w : World} {K : PySem.W.Frag} {mg : Str → Option Value} {base : Heap} {a : Ad} (T : Txt P w K mg a) {cdv : Value} {outer : List Env} {s : Shared} {H : Hp} {E : XK} {fdc : FuncData}
    (FCnt : FnOk P w K mg base (L2.CX P w) 2 a.counted fdc ["self"] (spD K (GG a) m_counted)) (FCb : Binds K fdc ["self"] []) (hgd : callerA.guards = some [])
    (hr : Room 17 (callerA.deeper (envOfC "law" (defScope s_law) s.heap.objs.size a.law cdv))) : DS (XL P w K mg base a cdv outer s H E) (GG a) (fun cls d _ H => E cls d H) (stAt (forBody (stAt (defBody s_law) 1)) 5) b1_5 := by
  unfold b1_5
  exact (ds_if (db_of (dbw_or (db_cmp (o_neP T hr) nx_neP (de_var (pv 7)) (de_var (pv 8))) (dbw_or1 (db_cmp (o_neA T hr) nx_neA (de_lc (own := [("paper", 12)]) (gi := (iSeq (dVar 7))) (gt := (gtN 12)) (gf := bYes) (ge := (fun env st => ((dVar 12) env st).bind (kFld CI_word CE_word "word"))) rfl sc_law.nd (di_seq (de_var (pv 7))) (blkOk_by (own := [("paper", 12)]) (N := N_law) (sc := defScope s_law) (by decide +kernel)) (fun _ _ _ _ _ => pg_name (i := 12) sc_law.nd rfl (Or.inl rfl)) (tg_name (by decide)) (fun _ _ _ _ _ => dts_nil) (fun _ _ _ _ _ => (de_get (de_var (pv 12)) T.fld_word (by rfl)))) (de_lst (da_cons de_str (da_cons de_str (da_cons de_str (da_cons de_str (da_cons de_str (da_cons de_str (da_cons de_str (da_cons de_str da_nil))))))))))))) (ds_cons (ds_ret de_bl)
    ds_nil) ds_nil)
def b1_11 : DenS := (sFor (iEnumD (dCons (dVar 7) dNil)) (gTupD 2 (gsCons (gN 11) (gsCons (gN 12) gsNil))) (sSeq (sIf (fun env st => toB (dBin fNeA (dLc (iSeq (dSlice (dVar 7) none (some (dVar 11)))) [18] (gtN 18) (bOr (fun env st => toB (dBin fEqA (dVar 12) (dVar 18) env st)) (bNot (fun env st => toB (dBin fNeA (dVar 12) (dVar 18) env st)))) (dVar 18)) (dLst dNil) env st)) (sSeq (sRet (dC (.bl false)))
    sNil) sNil)
    sNil))
theorem t_b1_11 {P : Program} {w : World} {K : PySem.W.Frag} {mg : Str → Option Value} {base : Heap} {a : Ad} (T : Txt P w K mg a) {cdv : Value} {outer : List Env} {s : Shared} {H : Hp} {E : XK} {fdc : FuncData}
    (FCnt : FnOk P w K mg base (L2.CX P w) 2 a.counted fdc ["self"] (spD K (GG a) m_counted)) (FCb : Binds K fdc ["self"] []) (hgd : callerA.guards = some [])
    (hr : Room 17 (callerA.deeper (envOfC "law" (defScope s_law) s.heap.objs.size a.law cdv))) : DS (XL P w K mg base a cdv outer s H E) (GG a) (fun cls d _ H => E cls d H) (stAt (forBody (stAt (defBody s_law) 1)) 11) b1_11 := by
  unfold b1_11
  exact (ds_for passes_cx rfl (di_enum (by rfl) T.n_enumerate (da_cons (de_var (pv 7)) da_nil)) (dg_tup (t := gTup K 0) (n := 2) (fun _ h => pg_tup rfl h) (dgs_cons (dg_name (pg_name (i := 11) sc_law.nd rfl (.inl rfl))) (dgs_cons (dg_name (pg_name (i := 12) sc_law.nd rfl (.inr rfl))) dgs_nil))) (ds_cons (ds_if (db_cmp (o_neA T hr) nx_neA (de_lc (own := [("other", 18)]) (gi := (iSeq (dSlice (dVar 7) none (some (dVar 11))))) (gt := (gtN 18)) (gf := (bOr (fun env st => toB (dBin fEqA (dVar 12) (dVar 18) env st)) (bNot (fun env st => toB (dBin fNeA (dVar 12) (dVar 18) env st))))) (ge := (dVar 18)) rfl sc_law.nd (di_seq (de_slice (de_var (pv 7)) dp_none (dp_some (de_var (pv 11))))) (blkOk_by (own := [("other", 18)]) (N := N_law) (sc := defScope s_law) (by decide +kernel)) (fun _ _ _ _ _ => pg_name (i := 18) sc_law.nd rfl (Or.inl rfl)) (tg_name (by decide)) (fun _ _ _ _ _ => dts_one (db_of (dbw_or (db_cmp (o_eqA T hr) nx_eqA (de_var (pv 12)) (de_var (pv 18))) (dbw_or1 (db_not (db_cmp (o_neA T hr) nx_neA (de_var (pv 12)) (de_var (pv 18)))))))) (fun _ _ _ _ _ => (de_var (pv 18)))) (de_lst da_nil)) (ds_cons (ds_ret de_bl)
    ds_nil) ds_nil)
    ds_nil) (fun a b c => ps_for passes_cx rfl a b c))
def b4 : DenS := (sRet (dAnd (dBin fEqA (dMeth0 "Needed" "counted" m_counted (dVar 14)) (dTup (dCons (dC (.str "b")) (dCons (dC (.str "a")) dNil)))) (dAnd (dCall (fIsi KN IS) (dCons (dVar 14) (dCons (dC (.cls "Paper")) dNil))) (dAnd (dNot (dCall (fIsi KN IS) (dCons (dCall (mkIns "Freed" m_Freed_i) (aLen 2 (dCons (dC (.int 1)) (dCons (dC (.int 2)) dNil)))) (dCons (dC (.cls "Denial")) dNil)))) (dAnd (dCall (fIsi KN IS) (dCons (dCall (mkIns "Torn" m_Torn_i) (aLen 3 (dCons (dC (.int 1)) (dCons (dC (.int 2)) (dCons (dC (.int 3)) dNil))))) (dCons (dC (.cls "Denial")) dNil))) (dCall (fIsi KN IS) (dCons (dCall (mkIns "Unmet" m_Unmet_i) (aLen 1 (dCons (dC (.int 1)) dNil))) (dCons (dC (.cls "Denial")) dNil))))))))
theorem t_b4 {P : Program} {w : World} {K : PySem.W.Frag} {mg : Str → Option Value} {base : Heap} {a : Ad} (T : Txt P w K mg a) {cdv : Value} {outer : List Env} {s : Shared} {H : Hp} {E : XK} {fdc : FuncData}
    (FCnt : FnOk P w K mg base (L2.CX P w) 2 a.counted fdc ["self"] (spD K (GG a) m_counted)) (FCb : Binds K fdc ["self"] []) (hgd : callerA.guards = some [])
    (hr : Room 17 (callerA.deeper (envOfC "law" (defScope s_law) s.heap.objs.size a.law cdv))) : DS (XL P w K mg base a cdv outer s H E) (GG a) (fun cls d _ H => E cls d H) (stAt (defBody s_law) 4) b4 := by
  unfold b4
  exact (ds_ret (de_and (de_cmp (o_eqA T hr) nx_eqA (de_meth0 (c := "Needed") (fn := m_counted) (de_var (pv 14)) rfl T.clNeeded T.mtCounted FCnt (hr.mono (by decide)) FCb) (de_tup (da_cons de_str (da_cons de_str da_nil)))) (de_and (de_callB (call_isiD T.hN T.hI) nox_isi (by rfl) T.n_isinstance (by decide +kernel) (da_cons (de_var (pv 14)) (da_cons (de_cls (by rfl) T.g_Paper rfl) da_nil))) (de_and (de_not (de_callB (call_isiD T.hN T.hI) nox_isi (by rfl) T.n_isinstance (by decide +kernel) (da_cons (de_makeA (c := "Freed") (fi := m_Freed_i) rfl T.mk_Freed (FN_Freed T) (hr.mono (by decide)) (by rfl) T.g_Freed takes_cx (dc_pos (n := 2) (da_cons de_int (da_cons de_int da_nil)))) (da_cons (de_cls (by rfl) T.g_Denial rfl) da_nil)))) (de_and (de_callB (call_isiD T.hN T.hI) nox_isi (by rfl) T.n_isinstance (by decide +kernel) (da_cons (de_makeA (c := "Torn") (fi := m_Torn_i) rfl T.mk_Torn (FN_Torn T) (hr.mono (by decide)) (by rfl) T.g_Torn takes_cx (dc_pos (n := 3) (da_cons de_int (da_cons de_int (da_cons de_int da_nil))))) (da_cons (de_cls (by rfl) T.g_Denial rfl) da_nil))) (de_and1 (de_callB (call_isiD T.hN T.hI) nox_isi (by rfl) T.n_isinstance (by decide +kernel) (da_cons (de_makeA (c := "Unmet") (fi := m_Unmet_i) rfl T.mk_Unmet (FN_Unmet T) (hr.mono (by decide)) (by rfl) T.g_Unmet takes_cx (dc_pos (n := 1) (da_cons de_int da_nil))) (da_cons (de_cls (by rfl) T.g_Denial rfl) da_nil)))))))))
end K45

set_option Elab.async false
set_option linter.all false
set_option maxRecDepth 100000
set_option maxHeartbeats 2000000
namespace K45
open PySem PySem.Spec PyProof.Rows L2 StX NdefX DL
def b1_0 : DenS := (sAsg (dLc (iRange (dC (.int 3))) [15] (gtN 15) bYes (dCall (m_d_any 4) (aLen 2 (dCons (dVar 1) (dCons (dC (.int 2)) dNil))))) (gUnlD 3 (gsCons (gN 3) (gsCons (gN 4) (gsCons (gN 5) gsNil)))))
theorem t_b1_0 {P : Program} {w : World} {K : PySem.W.Frag} {mg : Str → Option Value} {base : Heap} {a : Ad} (T : Txt P w K mg a) {cdv : Value} {outer : List Env} {s : Shared} {H : Hp} {E : XK} {fdc : FuncData}
    (FCnt : FnOk P w K mg base (L2.CX P w) 2 a.counted fdc ["self"] (spD K (GG a) m_counted)) (FCb : Binds K fdc ["self"] []) (hgd : callerA.guards = some [])
    (hr : Room 17 (callerA.deeper (envOfC "law" (defScope s_law) s.heap.objs.size a.law cdv))) : DS (XL P w K mg base a cdv outer s H E) (GG a) (fun cls d _ H => E cls d H) (stAt (forBody (stAt (defBody s_law) 1)) 0) b1_0 := by
  unfold b1_0
  exact (ds_asg (de_lc (own := [("lap", 15)]) (gi := (iRange (dC (.int 3)))) (gt := (gtN 15)) (gf := bYes) (ge := (dCall (m_d_any 4) (aLen 2 (dCons (dVar 1) (dCons (dC (.int 2)) dNil))))) rfl sc_law.nd (di_range (by rfl) T.n_range de_int) (blkOk_by (own := [("lap", 15)]) (N := N_law) (sc := defScope s_law) (by decide +kernel)) (fun _ _ _ _ _ => pg_name (i := 15) sc_law.nd rfl (Or.inl rfl)) (tg_name (by decide)) (fun _ _ _ _ _ => dts_nil) (fun _ _ _ _ _ => (de_callA (fn := (m_d_any 4)) (ok_d_any T) (hr.mono (by decide)) (by rfl) T.g__law_d_any T.k__law_d_any takes0 (dc_pos (n := 2) (da_cons (de_var (pv 1)) (da_cons de_int da_nil)))))) (dg_unl (n := 3) rfl (dgs_cons (dg_name (pg_name (i := 3) sc_law.nd rfl (.inl rfl))) (dgs_cons (dg_name (pg_name (i := 4) sc_law.nd rfl (.inl rfl))) (dgs_cons (dg_name (pg_name (i := 5) sc_law.nd rfl (.inl rfl))) dgs_nil)))))
def b1_6 : DenS := (sIf (fun env st => toB (dBin fNeA (dLc (iSeq (dVar 7)) [12] (gtN 12) bYes (dCall (fBool BO) (dCons (dVar 12) dNil))) (dLst (dCons (dC (.bl true)) (dCons (dC (.bl false)) (dCons (dC (.bl false)) (dCons (dC (.bl false)) (dCons (dC (.bl true)) (dCons (dC (.bl true)) (dCons (dC (.bl false)) (dCons (dC (.bl true)) dNil))))))))) env st)) (sSeq (sRet (dC (.bl false)))
    sNil) sNil)
theorem t_b1_6 {P : Program} {w : World} {K : PySem.W.Frag} {mg : Str → Option Value} {base : Heap} {a : Ad} (T : Txt P w K mg a) {cdv : Value} {outer : List Env} {s : Shared} {H : Hp} {E : XK} {fdc : FuncData}
    (FCnt : FnOk P w K mg base (L2.CX P w) 2 a.counted fdc ["self"] (spD K (GG a) m_counted)) (FCb : Binds K fdc ["self"] []) (hgd : callerA.guards = some [])
    (hr : Room 17 (callerA.deeper (envOfC "law" (defScope s_law) s.heap.objs.size a.law cdv))) : DS (XL P w K mg base a cdv outer s H E) (GG a) (fun cls d _ H => E cls d H) (stAt (forBody (stAt (defBody s_law) 1)) 6) b1_6 := by
  unfold b1_6
  exact (ds_if (db_cmp (o_neA T hr) nx_neA (de_lc (own := [("paper", 12)]) (gi := (iSeq (dVar 7))) (gt := (gtN 12)) (gf := bYes) (ge := (dCall (fBool BO) (dCons (dVar 12) dNil))) rfl sc_law.nd (di_seq (de_var (pv 7))) (blkOk_by (own := [("paper", 12)]) (N := N_law) (sc := defScope s_law) (by decide +kernel)) (fun _ _ _ _ _ => pg_name (i := 12) sc_law.nd rfl (Or.inl rfl)) (tg_name (by decide)) (fun _ _ _ _ _ => dts_nil) (fun _ _ _ _ _ => (de_callTy (c_bool (k := 1) (bo_ok T) (hr.mono (by decide))) nox_bool (by rfl) T.n_bool (by decide +kernel) (da_cons (de_var (pv 12)) da_nil)))) (de_lst (da_cons de_bl (da_cons de_bl (da_cons de_bl (da_cons de_bl (da_cons de_bl (da_cons de_bl (da_cons de_bl (da_cons de_bl da_nil)))))))))) (ds_cons (ds_ret de_bl)
    ds_nil) ds_nil)
def b1_12 : DenS := (sAsg (dCall (m_d_any 4) (aLen 2 (dCons (dVar 1) (dCons (dC (.int 2)) dNil)))) (gN 13))
theorem t_b1_12 {P : Program} {w : World} {K : PySem.W.Frag} {mg : Str → Option Value} {base : Heap} {a : Ad} (T : Txt P w K mg a) {cdv : Value} {outer : List Env} {s : Shared} {H : Hp} {E : XK} {fdc : FuncData}
    (FCnt : FnOk P w K mg base (L2.CX P w) 2 a.counted fdc ["self"] (spD K (GG a) m_counted)) (FCb : Binds K fdc ["self"] []) (hgd : callerA.guards = some [])
    (hr : Room 17 (callerA.deeper (envOfC "law" (defScope s_law) s.heap.objs.size a.law cdv))) : DS (XL P w K mg base a cdv outer s H E) (GG a) (fun cls d _ H => E cls d H) (stAt (forBody (stAt (defBody s_law) 1)) 12) b1_12 := by
  unfold b1_12
  exact (ds_asg (de_callA (fn := (m_d_any 4)) (ok_d_any T) (hr.mono (by decide)) (by rfl) T.g__law_d_any T.k__law_d_any takes_cx (dc_pos (n := 2) (da_cons (de_var (pv 1)) (da_cons de_int da_nil)))) (dg_name (pg_name (i := 13) sc_law.nd rfl (.inl rfl))))
end K45

set_option Elab.async false
set_option linter.all false
set_option maxRecDepth 100000
set_option maxHeartbeats 2000000
namespace K45
open PySem PySem.Spec PyProof.Rows L2 StX NdefX DL
def b1_1 : DenS := (sAsg (dLc (iSeq (dTup (dCons (dVar 3) (dCons (dVar 4) (dCons (dVar 5) dNil))))) [16] (gtN 16) bYes (dCall (m_d_told 12) (aLen 1 (dCons (dVar 16) dNil)))) (gN 6))
theorem t_b1_1 {P : Program} {w : World} {K : PySem.W.Frag} {mg : Str → Option Value} {base : Heap} {a : Ad} (T : Txt P w K mg a) {cdv : Value} {outer : List Env} {s : Shared} {H : Hp} {E : XK} {fdc : FuncData}
    (FCnt : FnOk P w K mg base (L2.CX P w) 2 a.counted fdc ["self"] (spD K (GG a) m_counted)) (FCb : Binds K fdc ["self"] []) (hgd : callerA.guards = some [])
    (hr : Room 17 (callerA.deeper (envOfC "law" (defScope s_law) s.heap.objs.size a.law cdv))) : DS (XL P w K mg base a cdv outer s H E) (GG a) (fun cls d _ H => E cls d H) (stAt (forBody (stAt (defBody s_law) 1)) 1) b1_1 := by
  unfold b1_1
  exact (ds_asg (de_lc (own := [("value", 16)]) (gi := (iSeq (dTup (dCons (dVar 3) (dCons (dVar 4) (dCons (dVar 5) dNil)))))) (gt := (gtN 16)) (gf := bYes) (ge := (dCall (m_d_told 12) (aLen 1 (dCons (dVar 16) dNil)))) rfl sc_law.nd (di_seq (de_tup (da_cons (de_var (pv 3)) (da_cons (de_var (pv 4)) (da_cons (de_var (pv 5)) da_nil))))) (blkOk_by (own := [("value", 16)]) (N := N_law) (sc := defScope s_law) (by decide +kernel)) (fun _ _ _ _ _ => pg_name (i := 16) sc_law.nd rfl (Or.inl rfl)) (tg_name (by decide)) (fun _ _ _ _ _ => dts_nil) (fun _ _ _ _ _ => (de_callA (fn := (m_d_told 12)) (ok_d_told T) (hr.mono (by decide)) (by rfl) T.g__law_d_told T.k__law_d_told takes0 (dc_pos (n := 1) (da_cons (de_var (pv 16)) da_nil))))) (dg_name (pg_name (i := 6) sc_law.nd rfl (.inr rfl))))
def b1_7 : DenS := (sAsg (dLst (dCons (dC (.int 2)) (dCons (dC (.int 2)) (dCons (dC (.int 2)) (dCons (dC (.int 1)) (dCons (dC (.int 2)) (dCons (dC (.int 2)) (dCons (dC (.int 3)) (dCons (dC (.int 2)) dNil))))))))) (gN 9))
theorem t_b1_7 {P : Program} {w : World} {K : PySem.W.Frag} {mg : Str → Option Value} {base : Heap} {a : Ad} (T : Txt P w K mg a) {cdv : Value} {outer : List Env} {s : Shared} {H : Hp} {E : XK} {fdc : FuncData}
    (FCnt : FnOk P w K mg base (L2.CX P w) 2 a.counted fdc ["self"] (spD K (GG a) m_counted)) (FCb : Binds K fdc ["self"] []) (hgd : callerA.guards = some [])
    (hr : Room 17 (callerA.deeper (envOfC "law" (defScope s_law) s.heap.objs.size a.law cdv))) : DS (XL P w K mg base a cdv outer s H E) (GG a) (fun cls d _ H => E cls d H) (stAt (forBody (stAt (defBody s_law) 1)) 7) b1_7 := by
  unfold b1_7
  exact (ds_asg (de_lst (da_cons de_int (da_cons de_int (da_cons de_int (da_cons de_int (da_cons de_int (da_cons de_int (da_cons de_int (da_cons de_int da_nil))))))))) (dg_name (pg_name (i := 9) sc_law.nd rfl (.inl rfl))))
def b1_13 : DenS := (sIf (bOr (fun env st => toB (dBin fNeA (dBin fEqA (dCall (mkIns "Dies" m_Dies_i) (aLen 2 (dCons (dVar 13) (dCons (dVar 4) dNil)))) (dBin fIx (dVar 7) (dC (.int 0)))) (dBin fEqA (dCall fRepr (dCons (dCall (m_d_told 12) (aLen 1 (dCons (dVar 13) dNil))) dNil)) (dCall fRepr (dCons (dBin fIx (dVar 6) (dC (.int 0))) dNil))) env st)) (fun env st => toB (dBin fNeA (dBin fEqA (dCall (mkIns "Torn" m_Torn_i) (aLen 3 (dCons (dVar 3) (dCons (dVar 4) (dCons (dVar 13) dNil))))) (dBin fIx (dVar 7) (dC (.int 6)))) (dBin fEqA (dCall fRepr (dCons (dCall (m_d_told 12) (aLen 1 (dCons (dVar 13) dNil))) dNil)) (dCall fRepr (dCons (dBin fIx (dVar 6) (dC (.int 2))) dNil))) env st))) (sSeq (sRet (dC (.bl false)))
    sNil) sNil)
theorem t_b1_13 {P : Program} {w : World} {K : PySem.W.Frag} {mg : Str → Option Value} {base : Heap} {a : Ad} (T : Txt P w K mg a) {cdv : Value} {outer : List Env} {s : Shared} {H : Hp} {E : XK} {fdc : FuncData}
    (FCnt : FnOk P w K mg base (L2.CX P w) 2 a.counted fdc ["self"] (spD K (GG a) m_counted)) (FCb : Binds K fdc ["self"] []) (hgd : callerA.guards = some [])
    (hr : Room 17 (callerA.deeper (envOfC "law" (defScope s_law) s.heap.objs.size a.law cdv))) : DS (XL P w K mg base a cdv outer s H E) (GG a) (fun cls d _ H => E cls d H) (stAt (forBody (stAt (defBody s_law) 1)) 13) b1_13 := by
  unfold b1_13
  exact (ds_if (db_of (dbw_or (db_cmp (o_neA T hr) nx_neA (de_cmp (o_eqA T hr) nx_eqA (de_makeA (c := "Dies") (fi := m_Dies_i) rfl T.mk_Dies (FN_Dies T) (hr.mono (by decide)) (by rfl) T.g_Dies takes_cx (dc_pos (n := 2) (da_cons (de_var (pv 13)) (da_cons (de_var (pv 4)) da_nil)))) (de_ix (de_var (pv 7)) de_int)) (de_cmp (o_eqA T hr) nx_eqA (de_callB (c_repr hgd (u64 hr)) nox_repr (by rfl) T.n_repr (by decide +kernel) (da_cons (de_callA (fn := (m_d_told 12)) (ok_d_told T) (hr.mono (by decide)) (by rfl) T.g__law_d_told T.k__law_d_told takes_cx (dc_pos (n := 1) (da_cons (de_var (pv 13)) da_nil))) da_nil)) (de_callB (c_repr hgd (u64 hr)) nox_repr (by rfl) T.n_repr (by decide +kernel) (da_cons (de_ix (de_var (pv 6)) de_int) da_nil)))) (dbw_or1 (db_cmp (o_neA T hr) nx_neA (de_cmp (o_eqA T hr) nx_eqA (de_makeA (c := "Torn") (fi := m_Torn_i) rfl T.mk_Torn (FN_Torn T) (hr.mono (by decide)) (by rfl) T.g_Torn takes_cx (dc_pos (n := 3) (da_cons (de_var (pv 3)) (da_cons (de_var (pv 4)) (da_cons (de_var (pv 13)) da_nil))))) (de_ix (de_var (pv 7)) de_int)) (de_cmp (o_eqA T hr) nx_eqA (de_callB (c_repr hgd (u64 hr)) nox_repr (by rfl) T.n_repr (by decide +kernel) (da_cons (de_callA (fn := (m_d_told 12)) (ok_d_told T) (hr.mono (by decide)) (by rfl) T.g__law_d_told T.k__law_d_told takes_cx (dc_pos (n := 1) (da_cons (de_var (pv 13)) da_nil))) da_nil)) (de_callB (c_repr hgd (u64 hr)) nox_repr (by rfl) T.n_repr (by decide +kernel) (da_cons (de_ix (de_var (pv 6)) de_int) da_nil))))))) (ds_cons (ds_ret de_bl)
    ds_nil) ds_nil)
end K45

set_option Elab.async false
set_option linter.all false
set_option maxRecDepth 100000
set_option maxHeartbeats 2000000
namespace K45
open PySem PySem.Spec PyProof.Rows L2 StX NdefX DL
def b1_2 : DenS := (sAsg (dLst (dCons (dCall (mkIns "Dies" m_Dies_i) (aLen 2 (dCons (dVar 3) (dCons (dVar 4) dNil)))) (dCons (dCall (mkIns "Lives" m_Lives_i) (aLen 2 (dCons (dVar 3) (dCons (dVar 4) dNil)))) (dCons (dCall (mkIns "Both" m_Both_i) (aLen 2 (dCons (dVar 3) (dCons (dVar 4) dNil)))) (dCons (dCall (mkIns "Unmet" m_Unmet_i) (aLen 1 (dCons (dVar 3) dNil))) (dCons (dCall (mkIns "Deaths" m_Deaths_i) (aLen 2 (dCons (dVar 3) (dCons (dVar 4) dNil)))) (dCons (dCall (mkIns "Freed" m_Freed_i) (aLen 2 (dCons (dVar 3) (dCons (dVar 4) dNil)))) (dCons (dCall (mkIns "Torn" m_Torn_i) (aLen 3 (dCons (dVar 3) (dCons (dVar 4) (dCons (dVar 5) dNil))))) (dCons (dCall (mkIns "Needed" m_Needed_i) (aLen 2 (dCons (dVar 3) (dCons (dVar 4) dNil)))) dNil))))))))) (gN 7))
theorem t_b1_2 {P : Program} {w : World} {K : PySem.W.Frag} {mg : Str → Option Value} {base : Heap} {a : Ad} (T : Txt P w K mg a) {cdv : Value} {outer : List Env} {s : Shared} {H : Hp} {E : XK} {fdc : FuncData}
    (FCnt : FnOk P w K mg base (L2.CX P w) 2 a.counted fdc ["self"] (spD K (GG a) m_counted)) (FCb : Binds K fdc ["self"] []) (hgd : callerA.guards = some [])
    (hr : Room 17 (callerA.deeper (envOfC "law" (defScope s_law) s.heap.objs.size a.law cdv))) : DS (XL P w K mg base a cdv outer s H E) (GG a) (fun cls d _ H => E cls d H) (stAt (forBody (stAt (defBody s_law) 1)) 2) b1_2 := by
  unfold b1_2
  exact (ds_asg (de_lst (da_cons (de_makeA (c := "Dies") (fi := m_Dies_i) rfl T.mk_Dies (FN_Dies T) (hr.mono (by decide)) (by rfl) T.g_Dies takes_cx (dc_pos (n := 2) (da_cons (de_var (pv 3)) (da_cons (de_var (pv 4)) da_nil)))) (da_cons (de_makeA (c := "Lives") (fi := m_Lives_i) rfl T.mk_Lives (FN_Lives T) (hr.mono (by decide)) (by rfl) T.g_Lives takes_cx (dc_pos (n := 2) (da_cons (de_var (pv 3)) (da_cons (de_var (pv 4)) da_nil)))) (da_cons (de_makeA (c := "Both") (fi := m_Both_i) rfl T.mk_Both (FN_Both T) (hr.mono (by decide)) (by rfl) T.g_Both takes_cx (dc_pos (n := 2) (da_cons (de_var (pv 3)) (da_cons (de_var (pv 4)) da_nil)))) (da_cons (de_makeA (c := "Unmet") (fi := m_Unmet_i) rfl T.mk_Unmet (FN_Unmet T) (hr.mono (by decide)) (by rfl) T.g_Unmet takes_cx (dc_pos (n := 1) (da_cons (de_var (pv 3)) da_nil))) (da_cons (de_makeA (c := "Deaths") (fi := m_Deaths_i) rfl T.mk_Deaths (FN_Deaths T) (hr.mono (by decide)) (by rfl) T.g_Deaths takes_cx (dc_pos (n := 2) (da_cons (de_var (pv 3)) (da_cons (de_var (pv 4)) da_nil)))) (da_cons (de_makeA (c := "Freed") (fi := m_Freed_i) rfl T.mk_Freed (FN_Freed T) (hr.mono (by decide)) (by rfl) T.g_Freed takes_cx (dc_pos (n := 2) (da_cons (de_var (pv 3)) (da_cons (de_var (pv 4)) da_nil)))) (da_cons (de_makeA (c := "Torn") (fi := m_Torn_i) rfl T.mk_Torn (FN_Torn T) (hr.mono (by decide)) (by rfl) T.g_Torn takes_cx (dc_pos (n := 3) (da_cons (de_var (pv 3)) (da_cons (de_var (pv 4)) (da_cons (de_var (pv 5)) da_nil))))) (da_cons (de_makeA (c := "Needed") (fi := m_Needed_i) rfl T.mk_Needed (FN_Needed T) (hr.mono (by decide)) (by rfl) T.g_Needed takes_cx (dc_pos (n := 2) (da_cons (de_var (pv 3)) (da_cons (de_var (pv 4)) da_nil)))) da_nil))))))))) (dg_name (pg_name (i := 7) sc_law.nd rfl (.inl rfl))))
def b1_8 : DenS := (sIf (fun env st => toB (dBin fNeA (dLc (iSeq (dVar 7)) [12] (gtN 12) bYes (dCall fRepr (dCons (fun env st => ((dVar 12) env st).bind (kFld CI_parts CE_parts "parts")) dNil))) (dLc (iSeq (dVar 9)) [17] (gtN 17) bYes (dCall fRepr (dCons (dCall fTuple (dCons (dSlice (dVar 6) none (some (dVar 17))) dNil)) dNil))) env st)) (sSeq (sRet (dC (.bl false)))
    sNil) sNil)
theorem t_b1_8 {P : Program} {w : World} {K : PySem.W.Frag} {mg : Str → Option Value} {base : Heap} {a : Ad} (T : Txt P w K mg a) {cdv : Value} {outer : List Env} {s : Shared} {H : Hp} {E : XK} {fdc : FuncData}
    (FCnt : FnOk P w K mg base (L2.CX P w) 2 a.counted fdc ["self"] (spD K (GG a) m_counted)) (FCb : Binds K fdc ["self"] []) (hgd : callerA.guards = some [])
    (hr : Room 17 (callerA.deeper (envOfC "law" (defScope s_law) s.heap.objs.size a.law cdv))) : DS (XL P w K mg base a cdv outer s H E) (GG a) (fun cls d _ H => E cls d H) (stAt (forBody (stAt (defBody s_law) 1)) 8) b1_8 := by
  unfold b1_8
  exact (ds_if (db_cmp (o_neA T hr) nx_neA (de_lc (own := [("paper", 12)]) (gi := (iSeq (dVar 7))) (gt := (gtN 12)) (gf := bYes) (ge := (dCall fRepr (dCons (fun env st => ((dVar 12) env st).bind (kFld CI_parts CE_parts "parts")) dNil))) rfl sc_law.nd (di_seq (de_var (pv 7))) (blkOk_by (own := [("paper", 12)]) (N := N_law) (sc := defScope s_law) (by decide +kernel)) (fun _ _ _ _ _ => pg_name (i := 12) sc_law.nd rfl (Or.inl rfl)) (tg_name (by decide)) (fun _ _ _ _ _ => dts_nil) (fun _ _ _ _ _ => (de_callB (c_repr hgd (u64 hr)) nox_repr (by rfl) T.n_repr (by decide +kernel) (da_cons (de_get (de_var (pv 12)) T.fld_parts (by rfl)) da_nil)))) (de_lc (own := [("size", 17)]) (gi := (iSeq (dVar 9))) (gt := (gtN 17)) (gf := bYes) (ge := (dCall fRepr (dCons (dCall fTuple (dCons (dSlice (dVar 6) none (some (dVar 17))) dNil)) dNil))) rfl sc_law.nd (di_seq (de_var (pv 9))) (blkOk_by (own := [("size", 17)]) (N := N_law) (sc := defScope s_law) (by decide +kernel)) (fun _ _ _ _ _ => pg_name (i := 17) sc_law.nd rfl (Or.inl rfl)) (tg_name (by decide)) (fun _ _ _ _ _ => dts_nil) (fun _ _ _ _ _ => (de_callB (c_repr hgd (u64 hr)) nox_repr (by rfl) T.n_repr (by decide +kernel) (da_cons (de_callTy c_tuple nox_tuple (by rfl) T.n_tuple (by decide +kernel) (da_cons (de_slice (de_var (pv 6)) dp_none (dp_some (de_var (pv 17)))) da_nil)) da_nil))))) (ds_cons (ds_ret de_bl)
    ds_nil) ds_nil)
def b1_14 : DenS := (sIf (bOr (fun env st => toB (dBin fEqA (dBin fIx (dVar 7) (dC (.int 0))) (dVar 6) env st)) (bOr (fun env st => toB (dBin fEqA (dCall (mkIns "Denial" m_Paper_i) (aLen 3 (dCons (dC (.str "both")) (dCons (dVar 3) (dCons (dVar 4) dNil))))) (dBin fIx (dVar 7) (dC (.int 2))) env st)) (bOr (fun env st => toB (dBin fEqA (dCall (mkIns "Paper" m_Paper_i) (aLen 3 (dCons (dC (.str "deaths")) (dCons (dVar 3) (dCons (dVar 4) dNil))))) (dBin fIx (dVar 7) (dC (.int 4))) env st)) (bNot (fun env st => toB (dBin fEqA (dBin fIx (dVar 7) (dC (.int 1))) (dCall (mkIns "Lives" m_Lives_i) (aLen 2 (dCons (dBin fIx (dVar 6) (dC (.int 0))) (dCons (dBin fIx (dVar 6) (dC (.int 1))) dNil)))) env st)))))) (sSeq (sRet (dC (.bl false)))
    sNil) sNil)
theorem t_b1_14 {P : Program} {w : World} {K : PySem.W.Frag} {mg : Str → Option Value} {base : Heap} {a : Ad} (T : Txt P w K mg a) {cdv : Value} {outer : List Env} {s : Shared} {H : Hp} {E : XK} {fdc : FuncData}
    (FCnt : FnOk P w K mg base (L2.CX P w) 2 a.counted fdc ["self"] (spD K (GG a) m_counted)) (FCb : Binds K fdc ["self"] []) (hgd : callerA.guards = some [])
    (hr : Room 17 (callerA.deeper (envOfC "law" (defScope s_law) s.heap.objs.size a.law cdv))) : DS (XL P w K mg base a cdv outer s H E) (GG a) (fun cls d _ H => E cls d H) (stAt (forBody (stAt (defBody s_law) 1)) 14) b1_14 := by
  unfold b1_14
  exact (ds_if (db_of (dbw_or (db_cmp (o_eqA T hr) nx_eqA (de_ix (de_var (pv 7)) de_int) (de_var (pv 6))) (dbw_or (db_cmp (o_eqA T hr) nx_eqA (de_makeA (c := "Denial") (fi := m_Paper_i) rfl T.mk_Denial (FP3 T) (hr.mono (by decide)) (by rfl) T.g_Denial takes_cx (dc_pos (n := 3) (da_cons de_str (da_cons (de_var (pv 3)) (da_cons (de_var (pv 4)) da_nil))))) (de_ix (de_var (pv 7)) de_int)) (dbw_or (db_cmp (o_eqA T hr) nx_eqA (de_makeA (c := "Paper") (fi := m_Paper_i) rfl T.mk_Paper (FP3 T) (hr.mono (by decide)) (by rfl) T.g_Paper takes_cx (dc_pos (n := 3) (da_cons de_str (da_cons (de_var (pv 3)) (da_cons (de_var (pv 4)) da_nil))))) (de_ix (de_var (pv 7)) de_int)) (dbw_or1 (db_not (db_cmp (o_eqA T hr) nx_eqA (de_ix (de_var (pv 7)) de_int) (de_makeA (c := "Lives") (fi := m_Lives_i) rfl T.mk_Lives (FN_Lives T) (hr.mono (by decide)) (by rfl) T.g_Lives takes_cx (dc_pos (n := 2) (da_cons (de_ix (de_var (pv 6)) de_int) (da_cons (de_ix (de_var (pv 6)) de_int) da_nil))))))))))) (ds_cons (ds_ret de_bl)
    ds_nil) ds_nil)
end K45

set_option Elab.async false
set_option linter.all false
set_option maxRecDepth 100000
set_option maxHeartbeats 2000000
namespace K45
open PySem PySem.Spec PyProof.Rows L2 StX NdefX DL
def b1_3 : DenS := (sAsg (dLst (dCons (dCall (mkIns "Dies" (fun ds st => m_Dies_i (permO (some [0, 2, 1]) ds) st)) (aLen 2 (dCons (dVar 4) (dCons (dVar 3) dNil)))) (dCons (dCall (mkIns "Lives" (fun ds st => m_Lives_i (permO (some [0, 2, 1]) ds) st)) (aLen 2 (dCons (dVar 4) (dCons (dVar 3) dNil)))) (dCons (dCall (mkIns "Both" (fun ds st => m_Both_i (permO (some [0, 2, 1]) ds) st)) (aLen 2 (dCons (dVar 4) (dCons (dVar 3) dNil)))) (dCons (dCall (mkIns "Unmet" (fun ds st => m_Unmet_i (permO (some [0, 1]) ds) st)) (aLen 1 (dCons (dVar 3) dNil))) (dCons (dCall (mkIns "Deaths" (fun ds st => m_Deaths_i (permO (some [0, 2, 1]) ds) st)) (aLen 2 (dCons (dVar 4) (dCons (dVar 3) dNil)))) (dCons (dCall (mkIns "Freed" (fun ds st => m_Freed_i (permO (some [0, 2, 1]) ds) st)) (aLen 2 (dCons (dVar 4) (dCons (dVar 3) dNil)))) dNil))))))) (gN 8))
theorem t_b1_3 {P : Program} {w : World} {K : PySem.W.Frag} {mg : Str → Option Value} {base : Heap} {a : Ad} (T : Txt P w K mg a) {cdv : Value} {outer : List Env} {s : Shared} {H : Hp} {E : XK} {fdc : FuncData}
    (FCnt : FnOk P w K mg base (L2.CX P w) 2 a.counted fdc ["self"] (spD K (GG a) m_counted)) (FCb : Binds K fdc ["self"] []) (hgd : callerA.guards = some [])
    (hr : Room 17 (callerA.deeper (envOfC "law" (defScope s_law) s.heap.objs.size a.law cdv))) : DS (XL P w K mg base a cdv outer s H E) (GG a) (fun cls d _ H => E cls d H) (stAt (forBody (stAt (defBody s_law) 1)) 3) b1_3 := by
  unfold b1_3
  exact (ds_asg (de_lst (da_cons (de_makeA (c := "Dies") (fi := (fun ds st => m_Dies_i (permO (some [0, 2, 1]) ds) st)) rfl T.mk_Dies (FK_Dies T) (hr.mono (by decide)) (by rfl) T.g_Dies takes_cx (dc_kw0 (ks := ["rows", "run"]) (dk_cons (de_var (pv 4)) (dk_cons (de_var (pv 3)) dk_nil)))) (da_cons (de_makeA (c := "Lives") (fi := (fun ds st => m_Lives_i (permO (some [0, 2, 1]) ds) st)) rfl T.mk_Lives (FK_Lives T) (hr.mono (by decide)) (by rfl) T.g_Lives takes_cx (dc_kw0 (ks := ["rows", "run"]) (dk_cons (de_var (pv 4)) (dk_cons (de_var (pv 3)) dk_nil)))) (da_cons (de_makeA (c := "Both") (fi := (fun ds st => m_Both_i (permO (some [0, 2, 1]) ds) st)) rfl T.mk_Both (FK_Both T) (hr.mono (by decide)) (by rfl) T.g_Both takes_cx (dc_kw0 (ks := ["other", "run"]) (dk_cons (de_var (pv 4)) (dk_cons (de_var (pv 3)) dk_nil)))) (da_cons (de_makeA (c := "Unmet") (fi := (fun ds st => m_Unmet_i (permO (some [0, 1]) ds) st)) rfl T.mk_Unmet (FK_Unmet T) (hr.mono (by decide)) (by rfl) T.g_Unmet takes_cx (dc_kw0 (ks := ["rows"]) (dk_cons (de_var (pv 3)) dk_nil))) (da_cons (de_makeA (c := "Deaths") (fi := (fun ds st => m_Deaths_i (permO (some [0, 2, 1]) ds) st)) rfl T.mk_Deaths (FK_Deaths T) (hr.mono (by decide)) (by rfl) T.g_Deaths takes_cx (dc_kw0 (ks := ["rows", "spots"]) (dk_cons (de_var (pv 4)) (dk_cons (de_var (pv 3)) dk_nil)))) (da_cons (de_makeA (c := "Freed") (fi := (fun ds st => m_Freed_i (permO (some [0, 2, 1]) ds) st)) rfl T.mk_Freed (FK_Freed T) (hr.mono (by decide)) (by rfl) T.g_Freed takes_cx (dc_kw0 (ks := ["rows", "frees"]) (dk_cons (de_var (pv 4)) (dk_cons (de_var (pv 3)) dk_nil)))) da_nil))))))) (dg_name (pg_name (i := 8) sc_law.nd rfl (.inl rfl))))
def b1_9 : DenS := (sAsg (dLst (dCons (fun env st => ((dBin fIx (dVar 7) (dC (.int 0))) env st).bind (kFld CI_run CE_run "run")) (dCons (fun env st => ((dBin fIx (dVar 7) (dC (.int 0))) env st).bind (kFld CI_rows CE_rows "rows")) (dCons (fun env st => ((dBin fIx (dVar 7) (dC (.int 2))) env st).bind (kFld CI_other CE_other "other")) (dCons (fun env st => ((dBin fIx (dVar 7) (dC (.int 3))) env st).bind (kFld CI_rows CE_rows "rows")) (dCons (fun env st => ((dBin fIx (dVar 7) (dC (.int 4))) env st).bind (kFld CI_spots CE_spots "spots")) (dCons (fun env st => ((dBin fIx (dVar 7) (dC (.int 5))) env st).bind (kFld CI_frees CE_frees "frees")) (dCons (fun env st => ((dBin fIx (dVar 7) (dC (.int 6))) env st).bind (kFld CI_shape CE_shape "shape")) (dCons (fun env st => ((dBin fIx (dVar 7) (dC (.int 6))) env st).bind (kFld CI_others CE_others "others")) (dCons (fun env st => ((dBin fIx (dVar 7) (dC (.int 7))) env st).bind (kFld CI_torn CE_torn "torn")) (dCons (fun env st => ((dBin fIx (dVar 7) (dC (.int 7))) env st).bind (kFld CI_freed CE_freed "freed")) dNil))))))))))) (gN 10))
theorem t_b1_9 {P : Program} {w : World} {K : PySem.W.Frag} {mg : Str → Option Value} {base : Heap} {a : Ad} (T : Txt P w K mg a) {cdv : Value} {outer : List Env} {s : Shared} {H : Hp} {E : XK} {fdc : FuncData}
    (FCnt : FnOk P w K mg base (L2.CX P w) 2 a.counted fdc ["self"] (spD K (GG a) m_counted)) (FCb : Binds K fdc ["self"] []) (hgd : callerA.guards = some [])
    (hr : Room 17 (callerA.deeper (envOfC "law" (defScope s_law) s.heap.objs.size a.law cdv))) : DS (XL P w K mg base a cdv outer s H E) (GG a) (fun cls d _ H => E cls d H) (stAt (forBody (stAt (defBody s_law) 1)) 9) b1_9 := by
  unfold b1_9
  exact (ds_asg (de_lst (da_cons (de_get (de_ix (de_var (pv 7)) de_int) T.fld_run (by rfl)) (da_cons (de_get (de_ix (de_var (pv 7)) de_int) T.fld_rows (by rfl)) (da_cons (de_get (de_ix (de_var (pv 7)) de_int) T.fld_other (by rfl)) (da_cons (de_get (de_ix (de_var (pv 7)) de_int) T.fld_rows (by rfl)) (da_cons (de_get (de_ix (de_var (pv 7)) de_int) T.fld_spots (by rfl)) (da_cons (de_get (de_ix (de_var (pv 7)) de_int) T.fld_frees (by rfl)) (da_cons (de_get (de_ix (de_var (pv 7)) de_int) T.fld_shape (by rfl)) (da_cons (de_get (de_ix (de_var (pv 7)) de_int) T.fld_others (by rfl)) (da_cons (de_get (de_ix (de_var (pv 7)) de_int) T.fld_torn (by rfl)) (da_cons (de_get (de_ix (de_var (pv 7)) de_int) T.fld_freed (by rfl)) da_nil))))))))))) (dg_name (pg_name (i := 10) sc_law.nd rfl (.inl rfl))))
def b2 : DenS := (sIf (bOr (fun env st => toB (dBin fEqA (dCall (mkIns "Dies" m_Dies_i) (aLen 2 (dCons (dC (.int 1)) (dCons (dTup dNil) dNil)))) (dCall (mkIns "Dies" m_Dies_i) (aLen 2 (dCons (dC (.bl true)) (dCons (dTup dNil) dNil)))) env st)) (bOr (fun env st => toB (dBin fNeA (dCall (mkIns "Freed" m_Freed_i) (aLen 2 (dCons (dLst (dCons (dLst (dCons (dC (.int 0)) dNil)) dNil)) (dCons (dC (.int 0)) dNil)))) (dCall (mkIns "Freed" m_Freed_i) (aLen 2 (dCons (dTup (dCons (dTup (dCons (dC (.int 0)) dNil)) dNil)) (dCons (dC (.int 0)) dNil)))) env st)) (fun env st => toB (dBin fEqA (dCall (mkIns "Freed" m_Freed_i) (aLen 2 (dCons (dTup (dCons (dTup (dCons (dC (.bl false)) dNil)) dNil)) (dCons (dC (.int 0)) dNil)))) (dCall (mkIns "Freed" m_Freed_i) (aLen 2 (dCons (dTup (dCons (dTup (dCons (dC (.int 0)) dNil)) dNil)) (dCons (dC (.int 0)) dNil)))) env st)))) (sSeq (sRet (dC (.bl false)))
    sNil) sNil)
theorem t_b2 {P : Program} {w : World} {K : PySem.W.Frag} {mg : Str → Option Value} {base : Heap} {a : Ad} (T : Txt P w K mg a) {cdv : Value} {outer : List Env} {s : Shared} {H : Hp} {E : XK} {fdc : FuncData}
    (FCnt : FnOk P w K mg base (L2.CX P w) 2 a.counted fdc ["self"] (spD K (GG a) m_counted)) (FCb : Binds K fdc ["self"] []) (hgd : callerA.guards = some [])
    (hr : Room 17 (callerA.deeper (envOfC "law" (defScope s_law) s.heap.objs.size a.law cdv))) : DS (XL P w K mg base a cdv outer s H E) (GG a) (fun cls d _ H => E cls d H) (stAt (defBody s_law) 2) b2 := by
  unfold b2
  exact (ds_if (db_of (dbw_or (db_cmp (o_eqA T hr) nx_eqA (de_makeA (c := "Dies") (fi := m_Dies_i) rfl T.mk_Dies (FN_Dies T) (hr.mono (by decide)) (by rfl) T.g_Dies takes_cx (dc_pos (n := 2) (da_cons de_int (da_cons (de_tup da_nil) da_nil)))) (de_makeA (c := "Dies") (fi := m_Dies_i) rfl T.mk_Dies (FN_Dies T) (hr.mono (by decide)) (by rfl) T.g_Dies takes_cx (dc_pos (n := 2) (da_cons de_bl (da_cons (de_tup da_nil) da_nil))))) (dbw_or (db_cmp (o_neA T hr) nx_neA (de_makeA (c := "Freed") (fi := m_Freed_i) rfl T.mk_Freed (FN_Freed T) (hr.mono (by decide)) (by rfl) T.g_Freed takes_cx (dc_pos (n := 2) (da_cons (de_lst (da_cons (de_lst (da_cons de_int da_nil)) da_nil)) (da_cons de_int da_nil)))) (de_makeA (c := "Freed") (fi := m_Freed_i) rfl T.mk_Freed (FN_Freed T) (hr.mono (by decide)) (by rfl) T.g_Freed takes_cx (dc_pos (n := 2) (da_cons (de_tup (da_cons (de_tup (da_cons de_int da_nil)) da_nil)) (da_cons de_int da_nil))))) (dbw_or1 (db_cmp (o_eqA T hr) nx_eqA (de_makeA (c := "Freed") (fi := m_Freed_i) rfl T.mk_Freed (FN_Freed T) (hr.mono (by decide)) (by rfl) T.g_Freed takes_cx (dc_pos (n := 2) (da_cons (de_tup (da_cons (de_tup (da_cons de_bl da_nil)) da_nil)) (da_cons de_int da_nil)))) (de_makeA (c := "Freed") (fi := m_Freed_i) rfl T.mk_Freed (FN_Freed T) (hr.mono (by decide)) (by rfl) T.g_Freed takes_cx (dc_pos (n := 2) (da_cons (de_tup (da_cons (de_tup (da_cons de_int da_nil)) da_nil)) (da_cons de_int da_nil))))))))) (ds_cons (ds_ret de_bl)
    ds_nil) ds_nil)
end K45

set_option Elab.async false
set_option linter.all false
set_option maxRecDepth 100000
set_option maxHeartbeats 2000000
namespace K45
open PySem PySem.Spec PyProof.Rows L2 StX NdefX DL
def b1_4 : DenS := (sAsg (dBin fAdd (dVar 8) (dLst (dCons (dCall (mkIns "Torn" (fun ds st => m_Torn_i (permO (some [0, 3, 2, 1]) ds) st)) (aLen 3 (dCons (dVar 5) (dCons (dVar 4) (dCons (dVar 3) dNil))))) (dCons (dCall (mkIns "Needed" (fun ds st => m_Needed_i (permO (some [0, 2, 1]) ds) st)) (aLen 2 (dCons (dVar 4) (dCons (dVar 3) dNil)))) dNil)))) (gN 8))
theorem t_b1_4 {P : Program} {w : World} {K : PySem.W.Frag} {mg : Str → Option Value} {base : Heap} {a : Ad} (T : Txt P w K mg a) {cdv : Value} {outer : List Env} {s : Shared} {H : Hp} {E : XK} {fdc : FuncData}
    (FCnt : FnOk P w K mg base (L2.CX P w) 2 a.counted fdc ["self"] (spD K (GG a) m_counted)) (FCb : Binds K fdc ["self"] []) (hgd : callerA.guards = some [])
    (hr : Room 17 (callerA.deeper (envOfC "law" (defScope s_law) s.heap.objs.size a.law cdv))) : DS (XL P w K mg base a cdv outer s H E) (GG a) (fun cls d _ H => E cls d H) (stAt (forBody (stAt (defBody s_law) 1)) 4) b1_4 := by
  unfold b1_4
  exact (ds_asg (de_op o_add nx_add (de_var (pv 8)) (de_lst (da_cons (de_makeA (c := "Torn") (fi := (fun ds st => m_Torn_i (permO (some [0, 3, 2, 1]) ds) st)) rfl T.mk_Torn (FK_Torn T) (hr.mono (by decide)) (by rfl) T.g_Torn takes_cx (dc_kw0 (ks := ["others", "run", "shape"]) (dk_cons (de_var (pv 5)) (dk_cons (de_var (pv 4)) (dk_cons (de_var (pv 3)) dk_nil))))) (da_cons (de_makeA (c := "Needed") (fi := (fun ds st => m_Needed_i (permO (some [0, 2, 1]) ds) st)) rfl T.mk_Needed (FK_Needed T) (hr.mono (by decide)) (by rfl) T.g_Needed takes_cx (dc_kw0 (ks := ["freed", "torn"]) (dk_cons (de_var (pv 4)) (dk_cons (de_var (pv 3)) dk_nil)))) da_nil)))) (dg_name (pg_name (i := 8) sc_law.nd rfl (.inl rfl))))
def b1_10 : DenS := (sIf (fun env st => toB (dBin fNeA (dCall fRepr (dCons (dVar 10) dNil)) (dCall fRepr (dCons (dLst (dCons (dBin fIx (dVar 6) (dC (.int 0))) (dCons (dBin fIx (dVar 6) (dC (.int 1))) (dCons (dBin fIx (dVar 6) (dC (.int 1))) (dCons (dBin fIx (dVar 6) (dC (.int 0))) (dCons (dBin fIx (dVar 6) (dC (.int 0))) (dCons (dBin fIx (dVar 6) (dC (.int 0))) (dCons (dBin fIx (dVar 6) (dC (.int 0))) (dCons (dBin fIx (dVar 6) (dC (.int 2))) (dCons (dBin fIx (dVar 6) (dC (.int 0))) (dCons (dBin fIx (dVar 6) (dC (.int 1))) dNil))))))))))) dNil)) env st)) (sSeq (sRet (dC (.bl false)))
    sNil) sNil)
theorem t_b1_10 {P : Program} {w : World} {K : PySem.W.Frag} {mg : Str → Option Value} {base : Heap} {a : Ad} (T : Txt P w K mg a) {cdv : Value} {outer : List Env} {s : Shared} {H : Hp} {E : XK} {fdc : FuncData}
    (FCnt : FnOk P w K mg base (L2.CX P w) 2 a.counted fdc ["self"] (spD K (GG a) m_counted)) (FCb : Binds K fdc ["self"] []) (hgd : callerA.guards = some [])
    (hr : Room 17 (callerA.deeper (envOfC "law" (defScope s_law) s.heap.objs.size a.law cdv))) : DS (XL P w K mg base a cdv outer s H E) (GG a) (fun cls d _ H => E cls d H) (stAt (forBody (stAt (defBody s_law) 1)) 10) b1_10 := by
  unfold b1_10
  exact (ds_if (db_cmp (o_neA T hr) nx_neA (de_callB (c_repr hgd (u64 hr)) nox_repr (by rfl) T.n_repr (by decide +kernel) (da_cons (de_var (pv 10)) da_nil)) (de_callB (c_repr hgd (u64 hr)) nox_repr (by rfl) T.n_repr (by decide +kernel) (da_cons (de_lst (da_cons (de_ix (de_var (pv 6)) de_int) (da_cons (de_ix (de_var (pv 6)) de_int) (da_cons (de_ix (de_var (pv 6)) de_int) (da_cons (de_ix (de_var (pv 6)) de_int) (da_cons (de_ix (de_var (pv 6)) de_int) (da_cons (de_ix (de_var (pv 6)) de_int) (da_cons (de_ix (de_var (pv 6)) de_int) (da_cons (de_ix (de_var (pv 6)) de_int) (da_cons (de_ix (de_var (pv 6)) de_int) (da_cons (de_ix (de_var (pv 6)) de_int) da_nil))))))))))) da_nil))) (ds_cons (ds_ret de_bl)
    ds_nil) ds_nil)
def b3 : DenS := (sAsg (dCall (mkIns "Needed" m_Needed_i) (aLen 2 (dCons (dLst (dCons (dTup (dCons (dC (.str "b")) (dCons (dC .non) dNil))) (dCons (dTup (dCons (dC (.str "a")) (dCons (dC (.int 5)) dNil))) dNil))) (dCons (dC .non) dNil)))) (gN 14))
theorem t_b3 {P : Program} {w : World} {K : PySem.W.Frag} {mg : Str → Option Value} {base : Heap} {a : Ad} (T : Txt P w K mg a) {cdv : Value} {outer : List Env} {s : Shared} {H : Hp} {E : XK} {fdc : FuncData}
    (FCnt : FnOk P w K mg base (L2.CX P w) 2 a.counted fdc ["self"] (spD K (GG a) m_counted)) (FCb : Binds K fdc ["self"] []) (hgd : callerA.guards = some [])
    (hr : Room 17 (callerA.deeper (envOfC "law" (defScope s_law) s.heap.objs.size a.law cdv))) : DS (XL P w K mg base a cdv outer s H E) (GG a) (fun cls d _ H => E cls d H) (stAt (defBody s_law) 3) b3 := by
  unfold b3
  exact (ds_asg (de_makeA (c := "Needed") (fi := m_Needed_i) rfl T.mk_Needed (FN_Needed T) (hr.mono (by decide)) (by rfl) T.g_Needed takes_cx (dc_pos (n := 2) (da_cons (de_lst (da_cons (de_tup (da_cons de_str (da_cons de_non da_nil))) (da_cons (de_tup (da_cons de_str (da_cons de_int da_nil))) da_nil))) (da_cons de_non da_nil)))) (dg_name (pg_name (i := 14) sc_law.nd rfl (.inl rfl))))
end K45

set_option Elab.async false
set_option linter.all false
set_option maxRecDepth 100000
set_option maxHeartbeats 2000000
namespace K45
open PySem PySem.Spec PyProof.Rows L2 StX NdefX DL
noncomputable def b1 : DenS := sFor (iRange (dC (.int 8))) (gN 2) (sSeq b1_0 (sSeq b1_1 (sSeq b1_2 (sSeq b1_3 (sSeq b1_4 (sSeq b1_5 (sSeq b1_6 (sSeq b1_7 (sSeq b1_8 (sSeq b1_9 (sSeq b1_10 (sSeq b1_11 (sSeq b1_12 (sSeq b1_13 (sSeq b1_14 sNil)))))))))))))))
theorem t_b1 {P : Program} {w : World} {K : PySem.W.Frag} {mg : Str → Option Value} {base : Heap} {a : Ad} (T : Txt P w K mg a) {cdv : Value} {outer : List Env} {s : Shared} {H : Hp} {E : XK} {fdc : FuncData}
    (FCnt : FnOk P w K mg base (L2.CX P w) 2 a.counted fdc ["self"] (spD K (GG a) m_counted)) (FCb : Binds K fdc ["self"] []) (hgd : callerA.guards = some [])
    (hr : Room 17 (callerA.deeper (envOfC "law" (defScope s_law) s.heap.objs.size a.law cdv))) : DS (XL P w K mg base a cdv outer s H E) (GG a) (fun cls d _ H => E cls d H) (stAt (defBody s_law) 1) b1 := by
  unfold b1
  exact (ds_for passes_cx rfl (di_range (by rfl) T.n_range de_int) (dg_name (pg_name (i := 2) sc_law.nd rfl (.inl rfl))) (ds_cons (t_b1_0 T FCnt FCb hgd hr) (ds_cons (t_b1_1 T FCnt FCb hgd hr) (ds_cons (t_b1_2 T FCnt FCb hgd hr) (ds_cons (t_b1_3 T FCnt FCb hgd hr) (ds_cons (t_b1_4 T FCnt FCb hgd hr) (ds_cons (t_b1_5 T FCnt FCb hgd hr) (ds_cons (t_b1_6 T FCnt FCb hgd hr) (ds_cons (t_b1_7 T FCnt FCb hgd hr) (ds_cons (t_b1_8 T FCnt FCb hgd hr) (ds_cons (t_b1_9 T FCnt FCb hgd hr) (ds_cons (t_b1_10 T FCnt FCb hgd hr) (ds_cons (t_b1_11 T FCnt FCb hgd hr) (ds_cons (t_b1_12 T FCnt FCb hgd hr) (ds_cons (t_b1_13 T FCnt FCb hgd hr) (ds_cons (t_b1_14 T FCnt FCb hgd hr) ds_nil))))))))))))))) (fun a b c => ps_for passes_cx rfl a b c))
noncomputable def g_law : DenS := (sSeq b0 (sSeq b1 (sSeq b2 (sSeq b3 (sSeq b4 sNil)))))
noncomputable def m_law : List D → Sto → Out D := mk 1 19 g_law
theorem ok_law {P : Program} {w : World} {K : PySem.W.Frag} {mg : Str → Option Value} {base : Heap} {a : Ad} (T : Txt P w K mg a) {fd : FuncData} (F : Fun K "law" "law" s_law a.law fd) (hroom : Room 18 callerA) : FnAt callerA P w K mg base (L2.CX P w) a.law fd ["script"] (spD K (GG a) m_law) := by
  have hgd : callerA.guards = some [] := rfl
  obtain ⟨fdc, FCnt, FCb⟩ := okf_counted (base := base) T
  have h := fn_mA (P := P) (w := w) (mg := mg) (base := base) (G := GG a) (k := 17) (g := g_law) F sc_law hroom (by decide) fun cdv outer s H E hr => (by
    exact (ds_cons (t_b0 T FCnt FCb hgd hr) (ds_cons (t_b1 T FCnt FCb hgd hr) (ds_cons (t_b2 T FCnt FCb hgd hr) (ds_cons (t_b3 T FCnt FCb hgd hr) (ds_cons (t_b4 T FCnt FCb hgd hr) ds_nil))))))
  exact h
end K45

set_option Elab.async false
set_option linter.all false
set_option maxRecDepth 100000
set_option maxHeartbeats 8000000
namespace K45
open PySem PySem.Spec PyProof.Rows L2 StX NdefX DL
def ckNone (K : PySem.W.Frag) : Bool := noneB K ["isinstance", "list", "tuple", "bool", "len", "int", "all", "zip", "range", "enumerate", "repr", "super"]
def ckKeep (K : PySem.W.Frag) (a : Ad) : Bool := [a.fixed, a.are_alike, a.pen, a.draw, a.pick, a.d_any, a.d_told].all fun f => PySem.W.keepIn K (.ref f)
def ckKN (K : PySem.W.Frag) (a : Ad) : Bool := knownB K (GG a) KN
def kinds0 : List TK := EC.map .own ++ ["NoneType", "int", "str", "tuple", "list", "dict", "bool"].map .bt
def ckIS (K : PySem.W.Frag) (a : Ad) : Bool := pairB (GG a) IS (PySem.W.kitOne K) kinds0 tgts
def ckSB (K : PySem.W.Frag) (a : Ad) : Bool := pairB (GG a) (fun k t => match t with | .own c => SB k c | _ => none) (PySem.W.subIn K) kinds0 (EC.map .own)
def ckC_Freed (P : Program) (K : PySem.W.Frag) (a : Ad) : Bool := skB P K a.cFreed a.Freed && supMB K a.Freed a.Freed a.iPaper && mkB K a.Freed a.iFreed
def ckC_Torn (P : Program) (K : PySem.W.Frag) (a : Ad) : Bool := skB P K a.cTorn a.Torn && supMB K a.Torn a.Torn a.iPaper && mkB K a.Torn a.iTorn
def ckC_Needed (P : Program) (K : PySem.W.Frag) (a : Ad) : Bool := skB P K a.cNeeded a.Needed && supMB K a.Needed a.Needed a.iPaper && mkB K a.Needed a.iNeeded
def ckC_Dies (P : Program) (K : PySem.W.Frag) (a : Ad) : Bool := skB P K a.cDies a.Dies && supMB K a.Dies a.Dies a.iPaper && mkB K a.Dies a.iDies
def ckC_Lives (P : Program) (K : PySem.W.Frag) (a : Ad) : Bool := skB P K a.cLives a.Lives && supMB K a.Lives a.Lives a.iPaper && mkB K a.Lives a.iLives
def ckC_Both (P : Program) (K : PySem.W.Frag) (a : Ad) : Bool := skB P K a.cBoth a.Both && supMB K a.Both a.Both a.iPaper && mkB K a.Both a.iBoth
def ckC_Unmet (P : Program) (K : PySem.W.Frag) (a : Ad) : Bool := skB P K a.cUnmet a.Unmet && supMB K a.Unmet a.Unmet a.iPaper && mkB K a.Unmet a.iUnmet
def ckC_Deaths (P : Program) (K : PySem.W.Frag) (a : Ad) : Bool := skB P K a.cDeaths a.Deaths && supMB K a.Deaths a.Deaths a.iPaper && mkB K a.Deaths a.iDeaths
def ckMk (K : PySem.W.Frag) (a : Ad) : Bool := mkB K a.Paper a.iPaper && mkB K a.Denial a.iPaper
def ckMt (K : PySem.W.Frag) (a : Ad) : Bool := yesR (PySem.W.findIn K (.ref a.Needed) "counted") a.counted && PySem.W.isFn K (.ref a.counted) && PySem.W.keepIn K (.ref a.counted)
def ckE (K : PySem.W.Frag) (a : Ad) : Bool := eachB (GG a) EC (fun c C => nmB K C c) && eachB (GG a) EC (fun _ C => eqB K C a.ePaper)
def ckB (K : PySem.W.Frag) (a : Ad) : Bool := eachB (GG a) ["Paper", "Freed", "Needed", "Dies", "Deaths"] (fun _ C => yesR (PySem.W.findIn K (.ref C) "__bool__") a.bPaper && PySem.W.isFn K (.ref a.bPaper)) && eachB (GG a) ["Denial", "Torn", "Lives", "Both", "Unmet"] (fun _ C => yesR (PySem.W.findIn K (.ref C) "__bool__") a.bDenial && PySem.W.isFn K (.ref a.bDenial))
def ckF_word (K : PySem.W.Frag) (a : Ad) : Bool := fldB K (GG a) EC [] "word" && fldB K (GG a) CI_word CE_word "word"
def ckF_parts (K : PySem.W.Frag) (a : Ad) : Bool := fldB K (GG a) EC [] "parts" && fldB K (GG a) CI_parts CE_parts "parts"
def ckF_frees (K : PySem.W.Frag) (a : Ad) : Bool := fldB K (GG a) EC [] "frees" && fldB K (GG a) CI_frees CE_frees "frees"
def ckF_rows (K : PySem.W.Frag) (a : Ad) : Bool := fldB K (GG a) EC [] "rows" && fldB K (GG a) CI_rows CE_rows "rows"
def ckF_shape (K : PySem.W.Frag) (a : Ad) : Bool := fldB K (GG a) EC [] "shape" && fldB K (GG a) CI_shape CE_shape "shape"
def ckF_run (K : PySem.W.Frag) (a : Ad) : Bool := fldB K (GG a) EC [] "run" && fldB K (GG a) CI_run CE_run "run"
def ckF_others (K : PySem.W.Frag) (a : Ad) : Bool := fldB K (GG a) EC [] "others" && fldB K (GG a) CI_others CE_others "others"
def ckF_torn (K : PySem.W.Frag) (a : Ad) : Bool := fldB K (GG a) EC [] "torn" && fldB K (GG a) CI_torn CE_torn "torn"
def ckF_freed (K : PySem.W.Frag) (a : Ad) : Bool := fldB K (GG a) EC [] "freed" && fldB K (GG a) CI_freed CE_freed "freed"
def ckF_other (K : PySem.W.Frag) (a : Ad) : Bool := fldB K (GG a) EC [] "other" && fldB K (GG a) CI_other CE_other "other"
def ckF_spots (K : PySem.W.Frag) (a : Ad) : Bool := fldB K (GG a) EC [] "spots" && fldB K (GG a) CI_spots CE_spots "spots"
def ckInj (a : Ad) : Bool := decide (((GL a).map (·.2)).Nodup)
theorem kinds0_anc {k : TK} {l : List TK} (h : anc k = some l) : k ∈ kinds0 := by
  cases k with
  | own c =>
    unfold anc at h
    dsimp only at h
    have : c ∈ EC := by
      repeat' split at h
      all_goals first | (cases h; done) | (subst_vars; decide) | (rename_i hm; simp only [List.mem_cons, List.not_mem_nil, or_false] at hm; rcases hm with r | r | r | r | r | r <;> subst r <;> decide) | (rename_i hm; simp only [List.mem_cons, List.not_mem_nil, or_false] at hm; rcases hm with r | r | r | r | r <;> subst r <;> decide) | (rename_i hm; simp only [List.mem_cons, List.not_mem_nil, or_false] at hm; rcases hm with r | r | r | r <;> subst r <;> decide) | (rename_i hm; simp only [List.mem_cons, List.not_mem_nil, or_false] at hm; rcases hm with r | r | r <;> subst r <;> decide)
    exact List.mem_append_left _ (List.mem_map.mpr ⟨c, this, rfl⟩)
  | bt n =>
    unfold anc at h
    dsimp only at h
    refine List.mem_append_right _ (List.mem_map.mpr ⟨n, ?_, rfl⟩)
    split at h
    · rename_i h1
      rcases h1 with h1 | h1 | h1 | h1 | h1 | h1 <;> subst h1 <;> decide
    · split at h
      · rename_i h1; subst h1; decide
      · cases h
theorem is_in : ∀ k t b, IS k t = some b → k ∈ kinds0 ∧ t ∈ tgts := fun k t b e => by
  unfold IS at e
  split at e
  · rename_i h
    obtain ⟨l, h1, -⟩ := Option.map_eq_some_iff.mp e
    exact ⟨kinds0_anc h1, h⟩
  · cases e
theorem sb_in : ∀ k c b, SB k c = some b → k ∈ kinds0 ∧ c ∈ EC := fun k t b e => by
  unfold SB at e
  split at e
  · rename_i h
    obtain ⟨l, h1, -⟩ := Option.map_eq_some_iff.mp e
    exact ⟨kinds0_anc h1, h⟩
  · cases e
theorem txt_mk {P : Program} {w : World} {K : PySem.W.Frag} {h : Heap} {mg : Str → Option Value} {a : Ad} (X : K.In h) (G : h.Ns mainGlobals mg)
    (g_fixed : PySem.W.nsIn K mainGlobals "fixed" = some (some (.ref a.fixed)))
    (g_are_alike : PySem.W.nsIn K mainGlobals "are_alike" = some (some (.ref a.are_alike)))
    (g_pen : PySem.W.nsIn K mainGlobals "_law_pen" = some (some (.ref a.pen)))
    (g_draw : PySem.W.nsIn K mainGlobals "_law_draw" = some (some (.ref a.draw)))
    (g_pick : PySem.W.nsIn K mainGlobals "_law_pick" = some (some (.ref a.pick)))
    (g_d_any : PySem.W.nsIn K mainGlobals "_law_d_any" = some (some (.ref a.d_any)))
    (g_d_told : PySem.W.nsIn K mainGlobals "_law_d_told" = some (some (.ref a.d_told)))
    (g_law : PySem.W.nsIn K mainGlobals "law" = some (some (.ref a.law)))
    (g_Paper : PySem.W.nsIn K mainGlobals "Paper" = some (some (.ref a.Paper)))
    (g_Denial : PySem.W.nsIn K mainGlobals "Denial" = some (some (.ref a.Denial)))
    (g_Freed : PySem.W.nsIn K mainGlobals "Freed" = some (some (.ref a.Freed)))
    (g_Torn : PySem.W.nsIn K mainGlobals "Torn" = some (some (.ref a.Torn)))
    (g_Needed : PySem.W.nsIn K mainGlobals "Needed" = some (some (.ref a.Needed)))
    (g_Dies : PySem.W.nsIn K mainGlobals "Dies" = some (some (.ref a.Dies)))
    (g_Lives : PySem.W.nsIn K mainGlobals "Lives" = some (some (.ref a.Lives)))
    (g_Both : PySem.W.nsIn K mainGlobals "Both" = some (some (.ref a.Both)))
    (g_Unmet : PySem.W.nsIn K mainGlobals "Unmet" = some (some (.ref a.Unmet)))
    (g_Deaths : PySem.W.nsIn K mainGlobals "Deaths" = some (some (.ref a.Deaths)))
    (f_Paper_i : PySem.W.findIn K (.ref a.Paper) "__init__" = some (some (.ref a.iPaper)))
    (f_Paper_b : PySem.W.findIn K (.ref a.Paper) "__bool__" = some (some (.ref a.bPaper)))
    (f_Paper_e : PySem.W.findIn K (.ref a.Paper) "__eq__" = some (some (.ref a.ePaper)))
    (f_Denial_b : PySem.W.findIn K (.ref a.Denial) "__bool__" = some (some (.ref a.bDenial)))
    (f_counted : PySem.W.findIn K (.ref a.Needed) "counted" = some (some (.ref a.counted)))
    (f_Freed : PySem.W.findIn K (.ref a.Freed) "__init__" = some (some (.ref a.iFreed)))
    (f_Torn : PySem.W.findIn K (.ref a.Torn) "__init__" = some (some (.ref a.iTorn)))
    (f_Needed : PySem.W.findIn K (.ref a.Needed) "__init__" = some (some (.ref a.iNeeded)))
    (f_Dies : PySem.W.findIn K (.ref a.Dies) "__init__" = some (some (.ref a.iDies)))
    (f_Lives : PySem.W.findIn K (.ref a.Lives) "__init__" = some (some (.ref a.iLives)))
    (f_Both : PySem.W.findIn K (.ref a.Both) "__init__" = some (some (.ref a.iBoth)))
    (f_Unmet : PySem.W.findIn K (.ref a.Unmet) "__init__" = some (some (.ref a.iUnmet)))
    (f_Deaths : PySem.W.findIn K (.ref a.Deaths) "__init__" = some (some (.ref a.iDeaths)))
    (F_fixed : ∃ fd, Fun K "fixed" "fixed" s_fixed a.fixed fd)
    (F_are_alike : ∃ fd, Fun K "are_alike" "are_alike" s_are_alike a.are_alike fd)
    (F_pen : ∃ fd, Fun K "_law_pen" "_law_pen" s_pen a.pen fd)
    (F_draw : ∃ fd, Fun K "_law_draw" "_law_draw" s_draw a.draw fd)
    (F_pick : ∃ fd, Fun K "_law_pick" "_law_pick" s_pick a.pick fd)
    (F_d_any : ∃ fd, Fun K "_law_d_any" "_law_d_any" s_d_any a.d_any fd)
    (F_d_told : ∃ fd, Fun K "_law_d_told" "_law_d_told" s_d_told a.d_told fd)
    (F_law : ∃ fd, Fun K "law" "law" s_law a.law fd)
    (F_Paper_i : ∃ fd, Fun K "__init__" "Paper.__init__" s_Paper_i a.iPaper fd)
    (F_Paper_b : ∃ fd, Fun K "__bool__" "Paper.__bool__" s_Paper_b a.bPaper fd)
    (F_Paper_e : ∃ fd, Fun K "__eq__" "Paper.__eq__" s_Paper_e a.ePaper fd)
    (F_Denial_b : ∃ fd, Fun K "__bool__" "Denial.__bool__" s_Denial_b a.bDenial fd)
    (F_counted : ∃ fd, Fun K "counted" "Needed.counted" s_counted a.counted fd)
    (C_Freed : ∃ fd, FunC K "__init__" "Freed.__init__" s_Freed_i a.iFreed fd a.cFreed a.xFreed a.Freed)
    (C_Torn : ∃ fd, FunC K "__init__" "Torn.__init__" s_Torn_i a.iTorn fd a.cTorn a.xTorn a.Torn)
    (C_Needed : ∃ fd, FunC K "__init__" "Needed.__init__" s_Needed_i a.iNeeded fd a.cNeeded a.xNeeded a.Needed)
    (C_Dies : ∃ fd, FunC K "__init__" "Dies.__init__" s_Dies_i a.iDies fd a.cDies a.xDies a.Dies)
    (C_Lives : ∃ fd, FunC K "__init__" "Lives.__init__" s_Lives_i a.iLives fd a.cLives a.xLives a.Lives)
    (C_Both : ∃ fd, FunC K "__init__" "Both.__init__" s_Both_i a.iBoth fd a.cBoth a.xBoth a.Both)
    (C_Unmet : ∃ fd, FunC K "__init__" "Unmet.__init__" s_Unmet_i a.iUnmet fd a.cUnmet a.xUnmet a.Unmet)
    (C_Deaths : ∃ fd, FunC K "__init__" "Deaths.__init__" s_Deaths_i a.iDeaths fd a.cDeaths a.xDeaths a.Deaths)
    (k_None : ckNone K = true)
    (k_Keep : ckKeep K a = true)
    (k_KN : ckKN K a = true)
    (k_IS : ckIS K a = true)
    (k_SB : ckSB K a = true)
    (k_C_Freed : ckC_Freed P K a = true)
    (k_C_Torn : ckC_Torn P K a = true)
    (k_C_Needed : ckC_Needed P K a = true)
    (k_C_Dies : ckC_Dies P K a = true)
    (k_C_Lives : ckC_Lives P K a = true)
    (k_C_Both : ckC_Both P K a = true)
    (k_C_Unmet : ckC_Unmet P K a = true)
    (k_C_Deaths : ckC_Deaths P K a = true)
    (k_Mk : ckMk K a = true)
    (k_Mt : ckMt K a = true)
    (k_E : ckE K a = true)
    (k_B : ckB K a = true)
    (k_F_word : ckF_word K a = true)
    (k_F_parts : ckF_parts K a = true)
    (k_F_frees : ckF_frees K a = true)
    (k_F_rows : ckF_rows K a = true)
    (k_F_shape : ckF_shape K a = true)
    (k_F_run : ckF_run K a = true)
    (k_F_others : ckF_others K a = true)
    (k_F_torn : ckF_torn K a = true)
    (k_F_freed : ckF_freed K a = true)
    (k_F_other : ckF_other K a = true)
    (k_F_spots : ckF_spots K a = true)
    (k_Inj : ckInj a = true) : Txt P w K mg a := by
  have nn := noneB_ok X G k_None
  have kp := List.all_eq_true.mp k_Keep
  have KNK := knownB_ok k_KN
  simp only [ckMk, Bool.and_eq_true] at k_Mk
  simp only [ckMt, Bool.and_eq_true, decide_eq_true_eq] at k_Mt
  simp only [ckE, Bool.and_eq_true] at k_E
  simp only [ckB, Bool.and_eq_true] at k_B
  simp only [ckC_Freed, Bool.and_eq_true] at k_C_Freed
  simp only [ckC_Torn, Bool.and_eq_true] at k_C_Torn
  simp only [ckC_Needed, Bool.and_eq_true] at k_C_Needed
  simp only [ckC_Dies, Bool.and_eq_true] at k_C_Dies
  simp only [ckC_Lives, Bool.and_eq_true] at k_C_Lives
  simp only [ckC_Both, Bool.and_eq_true] at k_C_Both
  simp only [ckC_Unmet, Bool.and_eq_true] at k_C_Unmet
  simp only [ckC_Deaths, Bool.and_eq_true] at k_C_Deaths
  simp only [ckF_word, Bool.and_eq_true] at k_F_word
  simp only [ckF_parts, Bool.and_eq_true] at k_F_parts
  simp only [ckF_frees, Bool.and_eq_true] at k_F_frees
  simp only [ckF_rows, Bool.and_eq_true] at k_F_rows
  simp only [ckF_shape, Bool.and_eq_true] at k_F_shape
  simp only [ckF_run, Bool.and_eq_true] at k_F_run
  simp only [ckF_others, Bool.and_eq_true] at k_F_others
  simp only [ckF_torn, Bool.and_eq_true] at k_F_torn
  simp only [ckF_freed, Bool.and_eq_true] at k_F_freed
  simp only [ckF_other, Bool.and_eq_true] at k_F_other
  simp only [ckF_spots, Bool.and_eq_true] at k_F_spots
  exact {
    n_isinstance := nn "isinstance" (by decide)
    n_list := nn "list" (by decide)
    n_tuple := nn "tuple" (by decide)
    n_bool := nn "bool" (by decide)
    n_len := nn "len" (by decide)
    n_int := nn "int" (by decide)
    n_all := nn "all" (by decide)
    n_zip := nn "zip" (by decide)
    n_range := nn "range" (by decide)
    n_enumerate := nn "enumerate" (by decide)
    n_repr := nn "repr" (by decide)
    g_fixed := PySem.W.mg_of X G g_fixed
    k_fixed := kp _ (by simp)
    F_fixed := F_fixed
    g_are_alike := PySem.W.mg_of X G g_are_alike
    k_are_alike := kp _ (by simp)
    F_are_alike := F_are_alike
    g__law_pen := PySem.W.mg_of X G g_pen
    k__law_pen := kp _ (by simp)
    F_pen := F_pen
    g__law_draw := PySem.W.mg_of X G g_draw
    k__law_draw := kp _ (by simp)
    F_draw := F_draw
    g__law_pick := PySem.W.mg_of X G g_pick
    k__law_pick := kp _ (by simp)
    F_pick := F_pick
    g__law_d_any := PySem.W.mg_of X G g_d_any
    k__law_d_any := kp _ (by simp)
    F_d_any := F_d_any
    g__law_d_told := PySem.W.mg_of X G g_d_told
    k__law_d_told := kp _ (by simp)
    F_d_told := F_d_told
    hN := KNK
    hI := isB_ok kinds0 tgts is_in k_IS
    g_Paper := PySem.W.mg_of X G g_Paper
    g_Denial := PySem.W.mg_of X G g_Denial
    g_Freed := PySem.W.mg_of X G g_Freed
    g_Torn := PySem.W.mg_of X G g_Torn
    g_Needed := PySem.W.mg_of X G g_Needed
    g_Dies := PySem.W.mg_of X G g_Dies
    g_Lives := PySem.W.mg_of X G g_Lives
    g_Both := PySem.W.mg_of X G g_Both
    g_Unmet := PySem.W.mg_of X G g_Unmet
    g_Deaths := PySem.W.mg_of X G g_Deaths
    mk_Paper := mkB_ok k_Mk.1
    mk_Denial := mkB_ok k_Mk.2
    mk_Freed := mkB_ok k_C_Freed.2
    F_Freed := C_Freed
    sk_Freed := skB_ok (nn "super" (by decide)) k_C_Freed.1.1
    sm_Freed := supMB_ok k_C_Freed.1.2
    mk_Torn := mkB_ok k_C_Torn.2
    F_Torn := C_Torn
    sk_Torn := skB_ok (nn "super" (by decide)) k_C_Torn.1.1
    sm_Torn := supMB_ok k_C_Torn.1.2
    mk_Needed := mkB_ok k_C_Needed.2
    F_Needed := C_Needed
    sk_Needed := skB_ok (nn "super" (by decide)) k_C_Needed.1.1
    sm_Needed := supMB_ok k_C_Needed.1.2
    mk_Dies := mkB_ok k_C_Dies.2
    F_Dies := C_Dies
    sk_Dies := skB_ok (nn "super" (by decide)) k_C_Dies.1.1
    sm_Dies := supMB_ok k_C_Dies.1.2
    mk_Lives := mkB_ok k_C_Lives.2
    F_Lives := C_Lives
    sk_Lives := skB_ok (nn "super" (by decide)) k_C_Lives.1.1
    sm_Lives := supMB_ok k_C_Lives.1.2
    mk_Both := mkB_ok k_C_Both.2
    F_Both := C_Both
    sk_Both := skB_ok (nn "super" (by decide)) k_C_Both.1.1
    sm_Both := supMB_ok k_C_Both.1.2
    mk_Unmet := mkB_ok k_C_Unmet.2
    F_Unmet := C_Unmet
    sk_Unmet := skB_ok (nn "super" (by decide)) k_C_Unmet.1.1
    sm_Unmet := supMB_ok k_C_Unmet.1.2
    mk_Deaths := mkB_ok k_C_Deaths.2
    F_Deaths := C_Deaths
    sk_Deaths := skB_ok (nn "super" (by decide)) k_C_Deaths.1.1
    sm_Deaths := supMB_ok k_C_Deaths.1.2
    F_Paper_i := F_Paper_i
    F_Paper_b := F_Paper_b
    F_Paper_e := F_Paper_e
    F_Denial_b := F_Denial_b
    F_counted := F_counted
    clNeeded := (KNK.ins "Needed" (by decide) _ rfl).cl
    mtCounted := ⟨k_Mt.1.1, k_Mt.1.2, k_Mt.2⟩
    insE := fun c hc C e => KNK.ins c hc C e
    nmE := fun c hc C e => nmB_ok (eachB_ok k_E.1 c hc C e)
    eqE := fun c hc C e => eqB_ok (eachB_ok k_E.2 c hc C e)
    inj := fun c c2 C e e2 => inj_of (l := GL a) (of_decide_eq_true k_Inj) e e2
    hS := sbB_ok kinds0 EC sb_in k_SB
    bP := fun c hc C e => by
      have z := eachB_ok k_B.1 c hc C e
      rw [Bool.and_eq_true, decide_eq_true_eq] at z
      exact z
    bD := fun c hc C e => by
      have z := eachB_ok k_B.2 c hc C e
      rw [Bool.and_eq_true, decide_eq_true_eq] at z
      exact z
    st_word := fld_st KNK (fun c h => h) k_F_word.1
    st_parts := fld_st KNK (fun c h => h) k_F_parts.1
    st_frees := fld_st KNK (fun c h => h) k_F_frees.1
    st_rows := fld_st KNK (fun c h => h) k_F_rows.1
    st_shape := fld_st KNK (fun c h => h) k_F_shape.1
    st_run := fld_st KNK (fun c h => h) k_F_run.1
    st_others := fld_st KNK (fun c h => h) k_F_others.1
    st_torn := fld_st KNK (fun c h => h) k_F_torn.1
    st_freed := fld_st KNK (fun c h => h) k_F_freed.1
    st_other := fld_st KNK (fun c h => h) k_F_other.1
    st_spots := fld_st KNK (fun c h => h) k_F_spots.1
    fld_word := fldB_ok KNK (by decide) (by decide) k_F_word.2
    fld_parts := fldB_ok KNK (by decide) (by decide) k_F_parts.2
    fld_frees := fldB_ok KNK (by decide) (by decide) k_F_frees.2
    fld_rows := fldB_ok KNK (by decide) (by decide) k_F_rows.2
    fld_shape := fldB_ok KNK (by decide) (by decide) k_F_shape.2
    fld_run := fldB_ok KNK (by decide) (by decide) k_F_run.2
    fld_others := fldB_ok KNK (by decide) (by decide) k_F_others.2
    fld_torn := fldB_ok KNK (by decide) (by decide) k_F_torn.2
    fld_freed := fldB_ok KNK (by decide) (by decide) k_F_freed.2
    fld_other := fldB_ok KNK (by decide) (by decide) k_F_other.2
    fld_spots := fldB_ok KNK (by decide) (by decide) k_F_spots.2 }
end K45

set_option Elab.async false
set_option linter.all false
set_option maxRecDepth 100000
set_option maxHeartbeats 2000000
namespace K45
open PySem PySem.Spec PyProof.Rows L2 StX NdefX DL
/-! ### values as drawn, and as told -/
inductive Lf : D → Prop
  | non : Lf .non
  | bl (b : Bool) : Lf (.bl b)
  | int (i : Int) : Lf (.int i)
  | str (x : Str) : PyData.strOk x = true → Lf (.str x)
/-- d, of depth n, is told as the other -/
inductive RV : Nat → D → D → Prop
  | lf {n d} : Lf d → RV n d d
  | l0 {n} : RV (n + 1) (.lst []) (.tup [])
  | l1 {n a a'} : RV n a a' → RV (n + 1) (.lst [a]) (.tup [a'])
  | l2 {n a a' b b'} : RV n a a' → RV n b b' → RV (n + 1) (.lst [a, b]) (.tup [a', b'])
  | t0 {n} : RV (n + 1) (.tup []) (.tup [])
  | t1 {n a a'} : RV n a a' → RV (n + 1) (.tup [a]) (.tup [a'])
  | t2 {n a a' b b'} : RV n a a' → RV n b b' → RV (n + 1) (.tup [a, b]) (.tup [a', b'])
  | t3 {n a a' b b' c c'} : RV n a a' → RV n b b' → RV n c c' → RV (n + 1) (.tup [a, b, c]) (.tup [a', b', c'])
theorem fixed_law {n : Nat} {d t : D} (h : RV n d t) : ∀ (m : Nat) (st : Sto), n < m → m_fixed m [d] st = .ok t st := by
  induction h with
  | lf h =>
    intro m st hm
    obtain ⟨m, rfl⟩ : ∃ k, m = k + 1 := ⟨m - 1, by omega⟩
    show mk 1 2 (g_fixed (m_fixed m)) _ st = _
    generalize m_fixed m = f
    cases h with
    | non => cbv
    | bl b => cbv
    | int i => cbv
    | str x hx => cbv
  | l0 =>
    intro m st hm
    obtain ⟨m, rfl⟩ : ∃ k, m = k + 1 := ⟨m - 1, by omega⟩
    show mk 1 2 (g_fixed (m_fixed m)) _ st = _
    generalize m_fixed m = f
    cbv
  | l1 _ ih =>
    intro m st hm
    obtain ⟨m, rfl⟩ : ∃ k, m = k + 1 := ⟨m - 1, by omega⟩
    have i1 := fun st => ih m st (by omega)
    show mk 1 2 (g_fixed (m_fixed m)) _ st = _
    generalize m_fixed m = f at i1 ⊢
    cbv
    repeat (simp only [i1]; try cbv)
  | l2 _ _ ih ih2 =>
    intro m st hm
    obtain ⟨m, rfl⟩ : ∃ k, m = k + 1 := ⟨m - 1, by omega⟩
    have i1 := fun st => ih m st (by omega)
    have i2 := fun st => ih2 m st (by omega)
    show mk 1 2 (g_fixed (m_fixed m)) _ st = _
    generalize m_fixed m = f at i1 i2 ⊢
    cbv
    repeat (simp only [i1, i2]; try cbv)
  | t0 =>
    intro m st hm
    obtain ⟨m, rfl⟩ : ∃ k, m = k + 1 := ⟨m - 1, by omega⟩
    show mk 1 2 (g_fixed (m_fixed m)) _ st = _
    generalize m_fixed m = f
    cbv
  | t1 _ ih =>
    intro m st hm
    obtain ⟨m, rfl⟩ : ∃ k, m = k + 1 := ⟨m - 1, by omega⟩
    have i1 := fun st => ih m st (by omega)
    show mk 1 2 (g_fixed (m_fixed m)) _ st = _
    generalize m_fixed m = f at i1 ⊢
    cbv
    repeat (simp only [i1]; try cbv)
  | t2 _ _ ih ih2 =>
    intro m st hm
    obtain ⟨m, rfl⟩ : ∃ k, m = k + 1 := ⟨m - 1, by omega⟩
    have i1 := fun st => ih m st (by omega)
    have i2 := fun st => ih2 m st (by omega)
    show mk 1 2 (g_fixed (m_fixed m)) _ st = _
    generalize m_fixed m = f at i1 i2 ⊢
    cbv
    repeat (simp only [i1, i2]; try cbv)
  | t3 _ _ _ ih ih2 ih3 =>
    intro m st hm
    obtain ⟨m, rfl⟩ : ∃ k, m = k + 1 := ⟨m - 1, by omega⟩
    have i1 := fun st => ih m st (by omega)
    have i2 := fun st => ih2 m st (by omega)
    have i3 := fun st => ih3 m st (by omega)
    show mk 1 2 (g_fixed (m_fixed m)) _ st = _
    generalize m_fixed m = f at i1 i2 i3 ⊢
    cbv
    repeat (simp only [i1, i2, i3]; try cbv)
theorem told_law {n : Nat} {d t : D} (h : RV n d t) : ∀ (m : Nat) (st : Sto), n < m → m_d_told m [d] st = .ok t st := by
  induction h with
  | lf h =>
    intro m st hm
    obtain ⟨m, rfl⟩ : ∃ k, m = k + 1 := ⟨m - 1, by omega⟩
    show mk 1 2 (g_d_told (m_d_told m)) _ st = _
    generalize m_d_told m = f
    cases h with
    | non => cbv
    | bl b => cbv
    | int i => cbv
    | str x hx => cbv
  | l0 =>
    intro m st hm
    obtain ⟨m, rfl⟩ : ∃ k, m = k + 1 := ⟨m - 1, by omega⟩
    show mk 1 2 (g_d_told (m_d_told m)) _ st = _
    generalize m_d_told m = f
    cbv
  | t0 =>
    intro m st hm
    obtain ⟨m, rfl⟩ : ∃ k, m = k + 1 := ⟨m - 1, by omega⟩
    show mk 1 2 (g_d_told (m_d_told m)) _ st = _
    generalize m_d_told m = f
    cbv
  | l1 _ ih | t1 _ ih =>
    intro m st hm
    obtain ⟨m, rfl⟩ : ∃ k, m = k + 1 := ⟨m - 1, by omega⟩
    have i1 := fun st => ih m st (by omega)
    show mk 1 2 (g_d_told (m_d_told m)) _ st = _
    generalize m_d_told m = f at i1 ⊢
    cbv
    repeat (simp only [i1]; try cbv)
  | l2 _ _ ih ih2 | t2 _ _ ih ih2 =>
    intro m st hm
    obtain ⟨m, rfl⟩ : ∃ k, m = k + 1 := ⟨m - 1, by omega⟩
    have i1 := fun st => ih m st (by omega)
    have i2 := fun st => ih2 m st (by omega)
    show mk 1 2 (g_d_told (m_d_told m)) _ st = _
    generalize m_d_told m = f at i1 i2 ⊢
    cbv
    repeat (simp only [i1, i2]; try cbv)
  | t3 _ _ _ ih ih2 ih3 =>
    intro m st hm
    obtain ⟨m, rfl⟩ : ∃ k, m = k + 1 := ⟨m - 1, by omega⟩
    have i1 := fun st => ih m st (by omega)
    have i2 := fun st => ih2 m st (by omega)
    have i3 := fun st => ih3 m st (by omega)
    show mk 1 2 (g_d_told (m_d_told m)) _ st = _
    generalize m_d_told m = f at i1 i2 i3 ⊢
    cbv
    repeat (simp only [i1, i2, i3]; try cbv)
/-- what is told: tuples of at most three -/
inductive TV : Nat → D → Prop
  | lf {n d} : Lf d → TV n d
  | t0 {n} : TV (n + 1) (.tup [])
  | t1 {n a} : TV n a → TV (n + 1) (.tup [a])
  | t2 {n a b} : TV n a → TV n b → TV (n + 1) (.tup [a, b])
  | t3 {n a b c} : TV n a → TV n b → TV n c → TV (n + 1) (.tup [a, b, c])
theorem RV.tv {n : Nat} {d t : D} (h : RV n d t) : TV n t := by
  induction h with
  | lf h => exact .lf h
  | l0 => exact .t0
  | l1 _ a => exact .t1 a
  | l2 _ _ a b => exact .t2 a b
  | t0 => exact .t0
  | t1 _ a => exact .t1 a
  | t2 _ _ a b => exact .t2 a b
  | t3 _ _ _ a b c => exact .t3 a b c
/-- told again it is the same -/
theorem TV.rv {n : Nat} {t : D} (h : TV n t) : RV n t t := by
  induction h with
  | lf h => exact .lf h
  | t0 => exact .t0
  | t1 _ a => exact .t1 a
  | t2 _ _ a b => exact .t2 a b
  | t3 _ _ _ a b c => exact .t3 a b c
mutual
def eqD : D → D → Bool
  | .non, .non => true
  | .bl a, .bl b => a == b
  | .int a, .int b => a == b
  | .str a, .str b => a == b
  | .tup l, .tup m => eqDs l m
  | _, _ => false
def eqDs : List D → List D → Bool
  | [], [] => true
  | a :: l, b :: m => eqD a b && eqDs l m
  | _, _ => false
end
theorem eqD_refl {n : Nat} {t : D} (h : TV n t) : eqD t t = true := by
  induction h with
  | lf h => cases h <;> simp [eqD]
  | t0 => rfl
  | t1 _ a => simp [eqD, eqDs, a]
  | t2 _ _ a b => simp [eqD, eqDs, a, b]
  | t3 _ _ _ a b c => simp [eqD, eqDs, a, b, c]
theorem eqD_eq {n : Nat} {t : D} (h : TV n t) : ∀ {m : Nat} {u : D}, TV m u → eqD t u = true → t = u := by
  induction h with
  | lf h =>
    intro m u hu e
    cases hu with
    | lf hu => cases h <;> cases hu <;> simp_all [eqD]
    | _ => cases h <;> simp [eqD] at e
  | t0 =>
    intro m u hu e
    cases hu with
    | lf hu => cases hu <;> simp [eqD] at e
    | t0 => rfl
    | _ => simp [eqD, eqDs] at e
  | t1 _ a =>
    intro m u hu e
    cases hu with
    | lf hu => cases hu <;> simp [eqD] at e
    | t1 x => simp [eqD, eqDs] at e; rw [a x e]
    | _ => simp [eqD, eqDs] at e
  | t2 _ _ a b =>
    intro m u hu e
    cases hu with
    | lf hu => cases hu <;> simp [eqD] at e
    | t2 x y => simp [eqD, eqDs] at e; rw [a x e.1, b y e.2]
    | _ => simp [eqD, eqDs] at e
  | t3 _ _ _ a b c =>
    intro m u hu e
    cases hu with
    | lf hu => cases hu <;> simp [eqD] at e
    | t3 x y z => simp [eqD, eqDs] at e; rw [a x e.1, b y e.2.1, c z e.2.2]
    | _ => simp [eqD, eqDs] at e
end K45

set_option Elab.async false
set_option linter.all false
set_option maxRecDepth 100000
set_option maxHeartbeats 2000000
namespace K45
open PySem PySem.Spec PyProof.Rows L2 StX NdefX DL
theorem TV.py {n : Nat} {t : D} (h : TV n t) : ∃ p, toPy t = some p ∧ p.canLay0 = true ∧ p.depth ≤ n := by
  induction h with
  | lf h => cases h <;> exact ⟨_, rfl, (by first | assumption | rfl), (by simp only [PyData.depth]; omega)⟩
  | t0 => exact ⟨.tuple [], rfl, rfl, by simp only [PyData.depth, PyData.depthAll]; omega⟩
  | t1 _ a =>
    obtain ⟨p, e, c, d⟩ := a
    exact ⟨.tuple [p], by simp only [toPy, toPys, e, Option.map_some], by simp only [PyData.canLay0, PyData.canLayAll0, c, Bool.and_true], by simp only [PyData.depth, PyData.depthAll]; omega⟩
  | t2 _ _ a b =>
    obtain ⟨p, e, c, d⟩ := a
    obtain ⟨p2, e2, c2, d2⟩ := b
    exact ⟨.tuple [p, p2], by simp only [toPy, toPys, e, e2, Option.map_some], by simp only [PyData.canLay0, PyData.canLayAll0, c, c2, Bool.and_true], by simp only [PyData.depth, PyData.depthAll]; omega⟩
  | t3 _ _ _ a b c =>
    obtain ⟨p, e, c1, d⟩ := a
    obtain ⟨p2, e2, c2, d2⟩ := b
    obtain ⟨p3, e3, c3, d3⟩ := c
    exact ⟨.tuple [p, p2, p3], by simp only [toPy, toPys, e, e2, e3, Option.map_some], by simp only [PyData.canLay0, PyData.canLayAll0, c1, c2, c3, Bool.and_true], by simp only [PyData.depth, PyData.depthAll]; omega⟩
theorem shaped_of {n : Nat} {p : PyData} (c : p.canLay0 = true) (d : p.depth ≤ n) (hn : n ≤ 64) : SeqAt.shaped p = true := by
  unfold SeqAt.shaped
  rw [c, decide_eq_true (by omega)]
  rfl
def isB : D → Bool
  | .bl _ => true
  | _ => false
theorem eqW_py {a b : D} {p q : PyData} {neg : Bool} {st : Sto} (e : toPy a = some p) (e2 : toPy b = some q) (h : SeqAt.shaped p = true) (h2 : SeqAt.shaped q = true) : fEqW neg a b st = .ok (.bl (if neg = true then !PyData.eqv p q else PyData.eqv p q)) st := by
  unfold fEqW
  rw [e, e2]
  dsimp only
  rw [h, h2]
  rfl
theorem eqW_l {n : Nat} {a b : D} {st : Sto} (ha : Lf a) (hb : TV n b) (hn : n ≤ 60) (hk : isB a = isB b) : fEqW false a b st = .ok (.bl (eqD a b)) st := by
  obtain ⟨q, e2, c2, d2⟩ := hb.py
  have h2 := shaped_of c2 d2 (by omega)
  obtain ⟨p, e, c, d⟩ := (TV.lf (n := 0) ha).py
  rw [eqW_py e e2 (shaped_of c d (by omega)) h2]
  cases hb with
  | lf hb => cases ha <;> cases hb <;> cases e <;> cases e2 <;> first | (cases hk; done) | simp [PyData.eqv, eqD]
  | _ =>
    simp only [toPy, Option.map_eq_some_iff] at e2
    obtain ⟨l, -, rfl⟩ := e2
    cases ha <;> cases e <;> simp [PyData.eqv, eqD]
theorem eqW_r {n : Nat} {a b : D} {st : Sto} (ha : TV n a) (hb : Lf b) (hn : n ≤ 60) (hk : isB a = isB b) : fEqW false a b st = .ok (.bl (eqD a b)) st := by
  obtain ⟨p, e, c, d⟩ := ha.py
  have h1 := shaped_of c d (by omega)
  obtain ⟨q, e2, c2, d2⟩ := (TV.lf (n := 0) hb).py
  rw [eqW_py e e2 h1 (shaped_of c2 d2 (by omega))]
  cases ha with
  | lf ha => cases ha <;> cases hb <;> cases e <;> cases e2 <;> first | (cases hk; done) | simp [PyData.eqv, eqD]
  | _ =>
    simp only [toPy, Option.map_eq_some_iff] at e
    obtain ⟨l, -, rfl⟩ := e
    cases hb <;> cases e2 <;> simp [PyData.eqv, eqD]
theorem eqW_b {p q : Bool} {st : Sto} : fEqW true (.bl p) (.bl q) st = .ok (.bl (p != q)) st := by
  rw [eqW_py (p := .bool p) (q := .bool q) rfl rfl rfl rfl]
  cases p <;> cases q <;> rfl
theorem eqW_i {i j : Int} {st : Sto} : fEqW false (.int i) (.int j) st = .ok (.bl (i == j)) st := by
  rw [eqW_py (p := .int i) (q := .int j) rfl rfl rfl rfl]
  simp only [PyData.eqv, Bool.false_eq_true, if_false]
/-- one of the two is no tuple -/
theorem alike_leaf {m n : Nat} {a b : D} {st : Sto} (ha : TV n a) (hb : TV n b) (hl : Lf a ∨ Lf b) (hn : n ≤ 60) : m_are_alike (m + 1) [a, b] st = .ok (.bl (eqD a b)) st := by
  have hq : isB a = isB b → ∀ st, fEqW false a b st = .ok (.bl (eqD a b)) st := fun hk st => hl.elim (fun h => eqW_l h hb hn hk) fun h => eqW_r ha h hn hk
  have hb' : ∀ p q st, fEqW true (.bl p) (.bl q) st = .ok (.bl (p != q)) st := fun p q st => eqW_b
  show mk 2 4 (g_are_alike (m_are_alike m)) [a, b] st = _
  generalize m_are_alike m = f
  unfold g_are_alike
  generalize fEqW false = eqF at hq ⊢
  generalize fEqW true = neF at hb' ⊢
  have go : isB a = isB b ∨ isB a ≠ isB b := Classical.em _
  rcases ha with h | _ | _ | _ | _ <;> rcases hb with h' | _ | _ | _ | _ <;> (try cases h) <;> (try cases h') <;>
    first
      | (exfalso; rcases hl with z | z <;> cases z; done)
      | (have hq2 := hq rfl; clear hq; generalize eqD _ _ = e at hq2 ⊢; cbv; repeat (simp only [hb', hq2]; try cbv))
      | (clear hq; cbv; repeat (simp only [hb']; try cbv))
end K45

set_option Elab.async false
set_option linter.all false
set_option maxRecDepth 100000
set_option maxHeartbeats 2000000
namespace K45
open PySem PySem.Spec PyProof.Rows L2 StX NdefX DL
theorem alike_law {n : Nat} {a : D} (ha : TV n a) : ∀ {b : D} {m : Nat} {st : Sto}, TV n b → n < m → n ≤ 60 → m_are_alike m [a, b] st = .ok (.bl (eqD a b)) st := by
  induction ha with
  | lf h =>
    intro b m st hb hm hn
    obtain ⟨m, rfl⟩ : ∃ k, m = k + 1 := ⟨m - 1, by omega⟩
    exact alike_leaf (.lf h) hb (.inl h) hn
  | @t0 n =>
    intro b m st hb hm hn
    obtain ⟨m, rfl⟩ : ∃ k, m = k + 1 := ⟨m - 1, by omega⟩
    cases hb with
    | lf h => exact alike_leaf .t0 (.lf h) (.inr h) hn
    | t0 | t1 | t2 | t3 =>
      have hi : ∀ i j st, fEqW false (.int i) (.int j) st = .ok (.bl (i == j)) st := fun i j st => eqW_i
      show mk 2 4 (g_are_alike (m_are_alike m)) _ st = _
      simp only [eqD, eqDs]
      generalize m_are_alike m = f
      unfold g_are_alike
      generalize fEqW false = eqF at hi ⊢
      generalize fEqW true = neF
      cbv; repeat (simp only [hi]; try cbv)
  | @t1 n x _ ih =>
    intro b m st hb hm hn
    obtain ⟨m, rfl⟩ : ∃ k, m = k + 1 := ⟨m - 1, by omega⟩
    have hi : ∀ i j st, fEqW false (.int i) (.int j) st = .ok (.bl (i == j)) st := fun i j st => eqW_i
    have ih' := fun (b : D) (hb : TV n b) (st : Sto) => ih (m := m) (st := st) hb (by omega) (by omega)
    cases hb with
    | lf h => exact alike_leaf (.t1 ‹_›) (.lf h) (.inr h) hn
    | t1 h1 =>
      have j1 := ih' _ h1
      show mk 2 4 (g_are_alike (m_are_alike m)) _ st = _
      simp only [eqD, eqDs]
      clear ih'
      generalize m_are_alike m = f at j1 ⊢
      unfold g_are_alike
      generalize fEqW false = eqF at hi ⊢
      generalize fEqW true = neF
      generalize eqD x _ = e at j1 ⊢
      cases e <;> (cbv; repeat (simp only [hi, j1]; try cbv))
    | t0 | t2 | t3 =>
      clear ih'
      show mk 2 4 (g_are_alike (m_are_alike m)) _ st = _
      simp only [eqD, eqDs, Bool.and_false]
      generalize m_are_alike m = f
      unfold g_are_alike
      generalize fEqW false = eqF at hi ⊢
      generalize fEqW true = neF
      cbv; repeat (simp only [hi]; try cbv)
  | @t2 n x y _ _ ih ih2 =>
    intro b m st hb hm hn
    obtain ⟨m, rfl⟩ : ∃ k, m = k + 1 := ⟨m - 1, by omega⟩
    have hi : ∀ i j st, fEqW false (.int i) (.int j) st = .ok (.bl (i == j)) st := fun i j st => eqW_i
    have ih' := fun (b : D) (hb : TV n b) (st : Sto) => ih (m := m) (st := st) hb (by omega) (by omega)
    have ih2' := fun (b : D) (hb : TV n b) (st : Sto) => ih2 (m := m) (st := st) hb (by omega) (by omega)
    cases hb with
    | lf h => exact alike_leaf (.t2 ‹_› ‹_›) (.lf h) (.inr h) hn
    | t2 h1 h2 =>
      have j1 := ih' _ h1
      have j2 := ih2' _ h2
      show mk 2 4 (g_are_alike (m_are_alike m)) _ st = _
      simp only [eqD, eqDs]
      clear ih' ih2'
      generalize m_are_alike m = f at j1 j2 ⊢
      unfold g_are_alike
      generalize fEqW false = eqF at hi ⊢
      generalize fEqW true = neF
      generalize eqD x _ = e at j1 ⊢
      generalize eqD y _ = e' at j2 ⊢
      cases e <;> cases e' <;> (cbv; repeat (simp only [hi, j1, j2]; try cbv))
    | t0 | t1 | t3 =>
      clear ih' ih2'
      show mk 2 4 (g_are_alike (m_are_alike m)) _ st = _
      simp only [eqD, eqDs, Bool.and_false]
      generalize m_are_alike m = f
      unfold g_are_alike
      generalize fEqW false = eqF at hi ⊢
      generalize fEqW true = neF
      cbv; repeat (simp only [hi]; try cbv)
  | @t3 n x y z _ _ _ ih ih2 ih3 =>
    intro b m st hb hm hn
    obtain ⟨m, rfl⟩ : ∃ k, m = k + 1 := ⟨m - 1, by omega⟩
    have hi : ∀ i j st, fEqW false (.int i) (.int j) st = .ok (.bl (i == j)) st := fun i j st => eqW_i
    have ih' := fun (b : D) (hb : TV n b) (st : Sto) => ih (m := m) (st := st) hb (by omega) (by omega)
    have ih2' := fun (b : D) (hb : TV n b) (st : Sto) => ih2 (m := m) (st := st) hb (by omega) (by omega)
    have ih3' := fun (b : D) (hb : TV n b) (st : Sto) => ih3 (m := m) (st := st) hb (by omega) (by omega)
    cases hb with
    | lf h => exact alike_leaf (.t3 ‹_› ‹_› ‹_›) (.lf h) (.inr h) hn
    | t3 h1 h2 h3 =>
      have j1 := ih' _ h1
      have j2 := ih2' _ h2
      have j3 := ih3' _ h3
      show mk 2 4 (g_are_alike (m_are_alike m)) _ st = _
      simp only [eqD, eqDs]
      clear ih' ih2' ih3'
      generalize m_are_alike m = f at j1 j2 j3 ⊢
      unfold g_are_alike
      generalize fEqW false = eqF at hi ⊢
      generalize fEqW true = neF
      generalize eqD x _ = e at j1 ⊢
      generalize eqD y _ = e' at j2 ⊢
      generalize eqD z _ = e'' at j3 ⊢
      cases e <;> cases e' <;> cases e'' <;> (cbv; repeat (simp only [hi, j1, j2, j3]; try cbv))
    | t0 | t1 | t2 =>
      clear ih' ih2' ih3'
      show mk 2 4 (g_are_alike (m_are_alike m)) _ st = _
      simp only [eqD, eqDs, Bool.and_false]
      generalize m_are_alike m = f
      unfold g_are_alike
      generalize fEqW false = eqF at hi ⊢
      generalize fEqW true = neF
      cbv; repeat (simp only [hi]; try cbv)
end K45

set_option Elab.async false
set_option linter.all false
set_option maxRecDepth 100000
set_option maxHeartbeats 2000000
namespace K45
open PySem PySem.Spec PyProof.Rows L2 StX NdefX DL
/-! ### what repr shows tells the values apart -/
def LV : List D := [.non, .bl true, .bl false, .int 0, .int 1, .int (-5), .str "word", .str "", .str "leaf", .int (10 ^ 40)]
def sh (t : D) : Str := match toPy t with | some p => PyData.shown p | none => ""
def S (t : D) : List Nat := (sh t).cps.toList
theorem cps_app (x y : Str) : (x ++ y).cps.toList = x.cps.toList ++ y.cps.toList := by
  show (x.cps ++ y.cps).toList = _
  rw [Array.toList_append]
inductive TL : Nat → D → Prop
  | lf {n d} : d ∈ LV → TL n d
  | t0 {n} : TL (n + 1) (.tup [])
  | t1 {n a} : TL n a → TL (n + 1) (.tup [a])
  | t2 {n a b} : TL n a → TL n b → TL (n + 1) (.tup [a, b])
theorem lv_lf {d : D} (h : d ∈ LV) : Lf d := by
  simp only [LV, List.mem_cons, List.not_mem_nil, or_false] at h
  rcases h with h | h | h | h | h | h | h | h | h | h <;> subst h
  · exact .non
  · exact .bl _
  · exact .bl _
  · exact .int _
  · exact .int _
  · exact .int _
  · exact .str _ (by decide +kernel)
  · exact .str _ (by decide +kernel)
  · exact .str _ (by decide +kernel)
  · exact .int _
theorem TL.tv {n : Nat} {t : D} (h : TL n t) : TV n t := by
  induction h with
  | lf h => exact .lf (lv_lf h)
  | t0 => exact .t0
  | t1 _ a => exact .t1 a
  | t2 _ _ a b => exact .t2 a b
def Lmax : Nat → Nat
  | 0 => 41
  | n + 1 => 3 * Lmax n + 6
theorem Lmax_41 : ∀ n, 41 ≤ Lmax n
  | 0 => Nat.le_refl _
  | n + 1 => by have := Lmax_41 n; simp only [Lmax]; omega
/-- what can be shown -/
structure Sh (n : Nat) (t : D) (p : PyData) : Prop where
  py : toPy t = some p
  ok : p.showable = true
  dp : p.depth ≤ n
  ln : (S t).length ≤ Lmax n
  cs : ∀ c ∈ S t, c < 0x110000
theorem Sh.eq {n : Nat} {t : D} {p : PyData} (h : Sh n t p) : sh t = PyData.shown p := by
  unfold sh
  rw [h.py]
theorem Sh.strOk {n : Nat} {t : D} {p : PyData} (h : Sh n t p) : PyData.strOk (sh t) = true := by
  unfold PyData.strOk
  rw [← Array.all_toList]
  exact List.all_eq_true.mpr fun c hc => decide_eq_true (h.cs c hc)
theorem sh_leaf {d : D} (h : d ∈ LV) : ∀ n, ∃ p, Sh n d p := by
  intro n
  have l := Lmax_41 n
  simp only [LV, List.mem_cons, List.not_mem_nil, or_false] at h
  have key : ∀ (t : D) (p : PyData), toPy t = some p → p.showable = true → p.depth = 0 → (S t).length ≤ 41 → (S t).all (· < 0x110000) = true → ∃ p, Sh n t p := fun t p a b c d e =>
    ⟨p, a, b, by omega, by omega, fun c hc => by simpa using List.all_eq_true.mp e c hc⟩
  rcases h with h | h | h | h | h | h | h | h | h | h <;> subst h <;> exact key _ _ rfl (by decide +kernel) (by simp only [PyData.depth]) (by decide +kernel) (by decide +kernel)
theorem S_t0 : S (.tup []) = [40, 41] := by decide +kernel
theorem S_t1 {a : D} {p : PyData} (h : toPy a = some p) : S (.tup [a]) = 40 :: (S a ++ [44, 41]) := by
  have e : PyData.shown (.tuple [p]) = (("(" : Str) ++ PyData.shown p) ++ (",)" : Str) := by simp only [PyData.shown, PyData.shownAll]; rfl
  unfold S sh
  simp only [toPy, toPys, h, Option.map_some, e, cps_app]
  show [40] ++ _ ++ [44, 41] = _
  simp
theorem S_t2 {a b : D} {p q : PyData} (h : toPy a = some p) (h2 : toPy b = some q) : S (.tup [a, b]) = 40 :: (S a ++ 44 :: 32 :: (S b ++ [41])) := by
  have e : PyData.shown (.tuple [p, q]) = (("(" : Str) ++ (PyData.shown p ++ (", " : Str) ++ PyData.shown q)) ++ (")" : Str) := by simp only [PyData.shown, PyData.shownAll]; rfl
  unfold S sh
  simp only [toPy, toPys, h, h2, Option.map_some, e, cps_app]
  show [40] ++ (_ ++ [44, 32] ++ _) ++ [41] = _
  simp
theorem S_t3 {a b c : D} {p q r : PyData} (h : toPy a = some p) (h2 : toPy b = some q) (h3 : toPy c = some r) : S (.tup [a, b, c]) = 40 :: (S a ++ 44 :: 32 :: (S b ++ 44 :: 32 :: (S c ++ [41]))) := by
  have e : PyData.shown (.tuple [p, q, r]) = (("(" : Str) ++ (PyData.shown p ++ (", " : Str) ++ (PyData.shown q ++ (", " : Str) ++ PyData.shown r))) ++ (")" : Str) := by simp only [PyData.shown, PyData.shownAll]; rfl
  unfold S sh
  simp only [toPy, toPys, h, h2, h3, Option.map_some, e, cps_app]
  show [40] ++ (_ ++ [44, 32] ++ (_ ++ [44, 32] ++ _)) ++ [41] = _
  simp
theorem Sh.t0 {n : Nat} : Sh (n + 1) (.tup []) (.tuple []) := ⟨rfl, rfl, by simp only [PyData.depth, PyData.depthAll]; omega, by rw [S_t0]; simp only [Lmax, List.length_cons, List.length_nil]; omega, fun c hc => by rw [S_t0] at hc; simp at hc; omega⟩
theorem Sh.t1 {n : Nat} {a : D} {p : PyData} (h : Sh n a p) : Sh (n + 1) (.tup [a]) (.tuple [p]) := ⟨by simp only [toPy, toPys, h.py, Option.map_some], by simp only [PyData.showable, PyData.showableAll, h.ok, Bool.and_true],
  by have := h.dp; simp only [PyData.depth, PyData.depthAll]; omega, by have := h.ln; rw [S_t1 h.py]; simp only [Lmax, List.length_cons, List.length_nil, List.length_append]; omega,
  fun c hc => by
    rw [S_t1 h.py] at hc
    simp at hc
    rcases hc with hc | hc | hc | hc
    · omega
    · exact h.cs c hc
    · omega
    · omega⟩
theorem Sh.t2 {n : Nat} {a b : D} {p q : PyData} (h : Sh n a p) (h2 : Sh n b q) : Sh (n + 1) (.tup [a, b]) (.tuple [p, q]) := ⟨by simp only [toPy, toPys, h.py, h2.py, Option.map_some], by simp only [PyData.showable, PyData.showableAll, h.ok, h2.ok, Bool.and_true],
  by have := h.dp; have := h2.dp; simp only [PyData.depth, PyData.depthAll]; omega, by have := h.ln; have := h2.ln; rw [S_t2 h.py h2.py]; simp only [Lmax, List.length_cons, List.length_nil, List.length_append]; omega,
  fun c hc => by
    rw [S_t2 h.py h2.py] at hc
    simp at hc
    rcases hc with hc | hc | hc | hc | hc | hc
    · omega
    · exact h.cs c hc
    · omega
    · omega
    · exact h2.cs c hc
    · omega⟩
theorem Sh.t3 {n : Nat} {a b c : D} {p q r : PyData} (h : Sh n a p) (h2 : Sh n b q) (h3 : Sh n c r) : Sh (n + 1) (.tup [a, b, c]) (.tuple [p, q, r]) := ⟨by simp only [toPy, toPys, h.py, h2.py, h3.py, Option.map_some], by simp only [PyData.showable, PyData.showableAll, h.ok, h2.ok, h3.ok, Bool.and_true],
  by have := h.dp; have := h2.dp; have := h3.dp; simp only [PyData.depth, PyData.depthAll]; omega, by have := h.ln; have := h2.ln; have := h3.ln; rw [S_t3 h.py h2.py h3.py]; simp only [Lmax, List.length_cons, List.length_nil, List.length_append]; omega,
  fun d hc => by
    rw [S_t3 h.py h2.py h3.py] at hc
    simp at hc
    rcases hc with hc | hc | hc | hc | hc | hc | hc | hc | hc
    · omega
    · exact h.cs d hc
    · omega
    · omega
    · exact h2.cs d hc
    · omega
    · omega
    · exact h3.cs d hc
    · omega⟩
theorem TL.shd {n : Nat} {t : D} (h : TL n t) : ∃ p, Sh n t p := by
  induction h with
  | lf h => exact sh_leaf h _
  | t0 => exact ⟨_, .t0⟩
  | t1 _ a =>
    obtain ⟨p, a⟩ := a
    exact ⟨_, a.t1⟩
  | t2 _ _ a b =>
    obtain ⟨p, a⟩ := a
    obtain ⟨q, b⟩ := b
    exact ⟨_, a.t2 b⟩
/-- repr of what can be shown -/
theorem repr_sh {n : Nat} {t : D} {p : PyData} {st : Sto} (h : Sh n t p) (hn : n ≤ 3) (ht : (∃ l, t = .tup l) ∨ t ∈ LV) : fRepr [t] st = .ok (.str (sh t)) st := by
  rcases ht with ⟨l, rfl⟩ | ht
  · have e := h.py
    simp only [toPy, Option.map_eq_some_iff] at e
    obtain ⟨ps, e1, rfl⟩ := e
    have hl : Lmax n ≤ 10000 := by
      have : n = 0 ∨ n = 1 ∨ n = 2 ∨ n = 3 := by omega
      rcases this with z | z | z | z <;> subst z <;> decide
    have l2 : (PyData.shown (.tuple ps)).length ≤ 10000000 := by
      have := h.ln
      unfold S at this
      rw [h.eq, Array.length_toList] at this
      exact Nat.le_trans this (by omega)
    unfold fRepr
    dsimp only
    rw [e1]
    dsimp only
    have d := h.dp
    rw [if_pos (by unfold shOk; rw [h.ok, decide_eq_true (by omega), decide_eq_true l2]; rfl), h.eq]
  · simp only [LV, List.mem_cons, List.not_mem_nil, or_false] at ht
    rcases ht with h | h | h | h | h | h | h | h | h | h <;> subst h
    · rfl
    · rfl
    · rfl
    · unfold fRepr; dsimp only; rw [if_pos (by decide +kernel)]; unfold sh; simp only [toPy, PyData.shown]
    · unfold fRepr; dsimp only; rw [if_pos (by decide +kernel)]; unfold sh; simp only [toPy, PyData.shown]
    · unfold fRepr; dsimp only; rw [if_pos (by decide +kernel)]; unfold sh; simp only [toPy, PyData.shown]
    · unfold fRepr; dsimp only; rw [if_pos (by decide +kernel)]; unfold sh; simp only [toPy, PyData.shown]
    · unfold fRepr; dsimp only; rw [if_pos (by decide +kernel)]; unfold sh; simp only [toPy, PyData.shown]
    · unfold fRepr; dsimp only; rw [if_pos (by decide +kernel)]; unfold sh; simp only [toPy, PyData.shown]
    · unfold fRepr; dsimp only; rw [if_pos (by decide +kernel)]; unfold sh; simp only [toPy, PyData.shown]
theorem TL.repr {n : Nat} {t : D} {st : Sto} (h : TL n t) (hn : n ≤ 3) : fRepr [t] st = .ok (.str (sh t)) st := by
  obtain ⟨p, hp⟩ := h.shd
  refine repr_sh hp hn ?_
  cases h with
  | lf h => exact .inr h
  | _ => exact .inl ⟨_, rfl⟩
/-- two texts that part ahead of , or ) -/
def clash : List Nat → List Nat → Bool
  | [], [] => false
  | [], c :: _ => c != 44 && c != 41
  | c :: _, [] => c != 44 && c != 41
  | c :: x, d :: y => if c = d then clash x y else true
def Ends (r : List Nat) : Prop := ∀ c x, r = c :: x → c = 44 ∨ c = 41
theorem clash_no : ∀ {x y : List Nat}, clash x y = true → ∀ {r r' : List Nat}, Ends r → Ends r' → x ++ r = y ++ r' → False
  | [], [], h, _, _, _, _, _ => by cases h
  | [], c :: y, h, r, r', e, _, q => by
    have := e c (y ++ r') q
    simp [clash] at h
    omega
  | c :: x, [], h, r, r', _, e, q => by
    have := e c (x ++ r) q.symm
    simp [clash] at h
    omega
  | c :: x, d :: y, h, r, r', e, e', q => by
    simp only [List.cons_append, List.cons.injEq] at q
    unfold clash at h
    rw [if_pos q.1] at h
    exact clash_no h e e' q.2
theorem leaf_pairs {a b : D} (h : a ∈ LV) (h' : b ∈ LV) : a = b ∨ clash (S a) (S b) = true := by
  simp only [LV, List.mem_cons, List.not_mem_nil, or_false] at h h'
  rcases h with h | h | h | h | h | h | h | h | h | h <;> subst h <;> rcases h' with h' | h' | h' | h' | h' | h' | h' | h' | h' | h' <;> subst h' <;> first | exact .inl rfl | exact .inr (by decide +kernel)
/-- how a leaf begins -/
theorem leaf_head {a : D} (h : a ∈ LV) : ∃ c x, S a = c :: x ∧ c ≠ 40 ∧ c ≠ 41 := by
  have key : ∀ t : D, (match S t with | c :: _ => decide (c ≠ 40 ∧ c ≠ 41) | [] => false) = true → ∃ c x, S t = c :: x ∧ c ≠ 40 ∧ c ≠ 41 := fun t z => by
    split at z
    · rename_i c x e
      have := of_decide_eq_true z
      exact ⟨c, x, e, this⟩
    · cases z
  simp only [LV, List.mem_cons, List.not_mem_nil, or_false] at h
  rcases h with h | h | h | h | h | h | h | h | h | h <;> subst h <;> exact key _ (by decide +kernel)
theorem TL.head {n : Nat} {a : D} (h : TL n a) : ∃ c x, S a = c :: x ∧ c ≠ 41 := by
  cases h with
  | lf h => obtain ⟨c, x, e, _, z⟩ := leaf_head h; exact ⟨c, x, e, z⟩
  | t0 => exact ⟨_, _, S_t0, by decide⟩
  | t1 h => obtain ⟨p, hp⟩ := h.shd; exact ⟨_, _, S_t1 hp.py, by decide⟩
  | t2 h h2 => obtain ⟨p, hp⟩ := h.shd; obtain ⟨q, hq⟩ := h2.shd; exact ⟨_, _, S_t2 hp.py hq.py, by decide⟩
theorem ends_c {c : Nat} {x : List Nat} (h : c = 44 ∨ c = 41) : Ends (c :: x) := fun d y e => by cases e; exact h
theorem TL.inj {n : Nat} {a : D} (ha : TL n a) : ∀ {m : Nat} {b : D}, TL m b → ∀ {r r' : List Nat}, Ends r → Ends r' → S a ++ r = S b ++ r' → a = b ∧ r = r' := by
  have tup : ∀ {m : Nat} {b : D}, TL m b → b ∉ LV → ∃ x, S b = 40 :: x := fun {m b} h z => by
    cases h with
    | lf h => exact absurd h z
    | t0 => exact ⟨_, S_t0⟩
    | t1 h => obtain ⟨p, hp⟩ := h.shd; exact ⟨_, S_t1 hp.py⟩
    | t2 h h2 => obtain ⟨p, hp⟩ := h.shd; obtain ⟨q, hq⟩ := h2.shd; exact ⟨_, S_t2 hp.py hq.py⟩
  have notin : ∀ l, D.tup l ∉ LV := fun l h => by simp [LV] at h
  induction ha with
  | lf h =>
    intro m b hb r r' e e' q
    by_cases hb' : b ∈ LV
    · rcases leaf_pairs h hb' with z | z
      · subst z
        exact ⟨rfl, List.append_cancel_left q⟩
      · exact (clash_no z e e' q).elim
    · obtain ⟨x, ex⟩ := tup hb hb'
      obtain ⟨c, y, ey, h1, _⟩ := leaf_head h
      rw [ex, ey] at q
      simp at q
      exact absurd q.1 h1
  | t0 =>
    intro m b hb r r' e e' q
    cases hb with
    | lf hb =>
      obtain ⟨c, y, ey, h1, _⟩ := leaf_head hb
      rw [S_t0, ey] at q
      simp at q
      exact absurd q.1.symm h1
    | t0 => exact ⟨rfl, List.append_cancel_left q⟩
    | t1 hx =>
      obtain ⟨p, hp⟩ := hx.shd
      obtain ⟨c, y, ey, h1⟩ := hx.head
      rw [S_t0, S_t1 hp.py, ey] at q
      simp at q
      exact absurd q.1.symm h1
    | t2 hx hy =>
      obtain ⟨p, hp⟩ := hx.shd
      obtain ⟨p2, hp2⟩ := hy.shd
      obtain ⟨c, y, ey, h1⟩ := hx.head
      rw [S_t0, S_t2 hp.py hp2.py, ey] at q
      simp at q
      exact absurd q.1.symm h1
  | t1 ha ih =>
    intro m b hb r r' e e' q
    obtain ⟨pa, hpa⟩ := ha.shd
    rw [S_t1 hpa.py] at q
    cases hb with
    | lf hb =>
      obtain ⟨c, y, ey, h1, _⟩ := leaf_head hb
      rw [ey] at q
      simp at q
      exact absurd q.1.symm h1
    | t0 =>
      obtain ⟨c, y, ey, h1⟩ := ha.head
      rw [S_t0, ey] at q
      simp at q
      exact absurd q.1 h1
    | t1 hx =>
      obtain ⟨p, hp⟩ := hx.shd
      rw [S_t1 hp.py] at q
      simp only [List.cons_append, List.append_assoc, List.cons.injEq, true_and, List.nil_append] at q
      obtain ⟨z1, z2⟩ := ih hx (ends_c (.inl rfl)) (ends_c (.inl rfl)) q
      simp at z2
      exact ⟨by rw [z1], z2⟩
    | t2 hx hy =>
      obtain ⟨p, hp⟩ := hx.shd
      obtain ⟨p2, hp2⟩ := hy.shd
      rw [S_t2 hp.py hp2.py] at q
      simp only [List.cons_append, List.append_assoc, List.cons.injEq, true_and, List.nil_append] at q
      obtain ⟨z1, z2⟩ := ih hx (ends_c (.inl rfl)) (ends_c (.inl rfl)) q
      simp at z2
  | t2 ha hb0 ih ih2 =>
    intro m b hb r r' e e' q
    obtain ⟨pa, hpa⟩ := ha.shd
    obtain ⟨pb, hpb⟩ := hb0.shd
    rw [S_t2 hpa.py hpb.py] at q
    cases hb with
    | lf hb =>
      obtain ⟨c, y, ey, h1, _⟩ := leaf_head hb
      rw [ey] at q
      simp at q
      exact absurd q.1.symm h1
    | t0 =>
      obtain ⟨c, y, ey, h1⟩ := ha.head
      rw [S_t0, ey] at q
      simp at q
      exact absurd q.1 h1
    | t1 hx =>
      obtain ⟨p, hp⟩ := hx.shd
      rw [S_t1 hp.py] at q
      simp only [List.cons_append, List.append_assoc, List.cons.injEq, true_and, List.nil_append] at q
      obtain ⟨z1, z2⟩ := ih hx (ends_c (.inl rfl)) (ends_c (.inl rfl)) q
      simp at z2
    | t2 hx hy =>
      obtain ⟨p, hp⟩ := hx.shd
      obtain ⟨p2, hp2⟩ := hy.shd
      rw [S_t2 hp.py hp2.py] at q
      simp only [List.cons_append, List.append_assoc, List.cons.injEq, true_and, List.nil_append] at q
      obtain ⟨z1, z2⟩ := ih hx (ends_c (.inl rfl)) (ends_c (.inl rfl)) q
      simp only [List.cons.injEq, true_and] at z2
      obtain ⟨y1, y2⟩ := ih2 hy (ends_c (.inr rfl)) (ends_c (.inr rfl)) z2
      simp at y2
      exact ⟨by rw [z1, y1], y2⟩
/-- so the texts are alike just where the values are -/
theorem sh_eq {n m : Nat} {a b : D} (ha : TL n a) (hb : TL m b) : (sh a == sh b) = eqD a b := by
  cases h : eqD a b with
  | true =>
    rw [eqD_eq ha.tv hb.tv h]
    exact beq_self_eq_true _
  | false =>
    rw [beq_eq_false_iff_ne]
    intro z
    have q : S a ++ [] = S b ++ [] := by unfold S; rw [z]
    have en : Ends [] := fun _ _ z => by cases z
    obtain ⟨e, _⟩ := ha.inj hb en en q
    subst e
    rw [eqD_refl ha.tv] at h
    cases h
end K45

set_option Elab.async false
set_option linter.all false
set_option maxRecDepth 100000
set_option maxHeartbeats 2000000
namespace K45
open PySem PySem.Spec PyProof.Rows L2 StX NdefX DL
/-! ### what is drawn -/
inductive DV : Nat → D → D → Prop
  | lf {n d} : d ∈ LV → DV n d d
  | l0 {n} : DV (n + 1) (.lst []) (.tup [])
  | l1 {n a a'} : DV n a a' → DV (n + 1) (.lst [a]) (.tup [a'])
  | l2 {n a a' b b'} : DV n a a' → DV n b b' → DV (n + 1) (.lst [a, b]) (.tup [a', b'])
  | t0 {n} : DV (n + 1) (.tup []) (.tup [])
  | t1 {n a a'} : DV n a a' → DV (n + 1) (.tup [a]) (.tup [a'])
  | t2 {n a a' b b'} : DV n a a' → DV n b b' → DV (n + 1) (.tup [a, b]) (.tup [a', b'])
theorem DV.rv {n : Nat} {d t : D} (h : DV n d t) : RV n d t := by
  induction h with
  | lf h => exact .lf (lv_lf h)
  | l0 => exact .l0
  | l1 _ a => exact .l1 a
  | l2 _ _ a b => exact .l2 a b
  | t0 => exact .t0
  | t1 _ a => exact .t1 a
  | t2 _ _ a b => exact .t2 a b
theorem DV.tl {n : Nat} {d t : D} (h : DV n d t) : TL n t := by
  induction h with
  | lf h => exact .lf h
  | l0 => exact .t0
  | l1 _ a => exact .t1 a
  | l2 _ _ a b => exact .t2 a b
  | t0 => exact .t0
  | t1 _ a => exact .t1 a
  | t2 _ _ a b => exact .t2 a b
theorem pick10 {st : Sto} (h : PenAt st) : ∃ (v : D) (st' : Sto), m_pick [.ref 0, .lst LV] st = .ok v st' ∧ v ∈ LV ∧ PenAt st' := by
  obtain ⟨i, st1, h1, h2, h3, h4⟩ := draw_law (j := 10) (by decide) h
  have h1' : m_draw [.ref 0, .int 10] st = .ok (.int i) st1 := h1
  have key : ∀ v, fIx (.lst LV) (.int i) st1 = .ok v st1 → m_pick [.ref 0, .lst LV] st = .ok v st1 := fun v hv =>
    sg_mk rfl (sg_rt (sg_ret (bg_bin (bg_var rfl) (bg_call (xs := [.ref 0, .int 10]) rfl h1') hv)))
  have : i = 0 ∨ i = 1 ∨ i = 2 ∨ i = 3 ∨ i = 4 ∨ i = 5 ∨ i = 6 ∨ i = 7 ∨ i = 8 ∨ i = 9 := by omega
  rcases this with h | h | h | h | h | h | h | h | h | h <;> subst h <;> exact ⟨_, st1, key _ rfl, by simp [LV], h4⟩
/-- rows of drawn values -/
inductive DVs (n : Nat) : List D → List D → Prop
  | nil : DVs n [] []
  | cons {a a' l l'} : DV n a a' → DVs n l l' → DVs n (a :: l) (a' :: l')
theorem any_row {n : Nat} {f : List D → Sto → Out D} {i : Int} (ih : ∀ st, PenAt st → ∃ d t st', f [.ref 0, .int n] st = .ok d st' ∧ DV n d t ∧ PenAt st') : ∀ (ds : List D) (st : Sto), PenAt st →
    ∃ ys ts st', lcRun (gtN 4) bYes (dCall f (aLen 2 (dCons (dVar 0) (dCons (dBin fSub (dVar 1) (dC (.int 1))) dNil)))) [some (.ref 0), some (.int ((n + 1 : Nat) : Int)), some (.int i), none, none] ds st = .ok ys st' ∧ DVs n ys ts ∧ ys.length = ds.length ∧ PenAt st'
  | [], st, h => ⟨[], [], st, rfl, .nil, rfl, h⟩
  | x :: ds, st, h => by
    obtain ⟨d, t, st1, h1, h2, h3⟩ := ih st h
    obtain ⟨ys, ts, st2, h4, h5, h6, h7⟩ := any_row ih ds st1 h3
    have e : ((n + 1 : Nat) : Int) - 1 = (n : Int) := by omega
    refine ⟨d :: ys, t :: ts, st2, lc_cons rfl rfl (bg_call (xs := [.ref 0, .int n]) (bg_len (bg_cons (bg_var rfl) (bg_cons (bg_bin (bg_var rfl) rfl (by rw [← e]; rfl)) rfl)) rfl) h1) h4, .cons h2 h5, by rw [List.length_cons, List.length_cons, h6], h7⟩
theorem lt_i {i j : Int} {st : Sto} : fLt (.int i) (.int j) st = .ok (.bl (decide (i < j))) st := rfl
theorem any_args {env : DEnv} {st : Sto} (h : env[0]? = some (some (.ref 0))) : aLen 2 (dCons (dVar 0) (dCons (dLst (dCons (dC .non) (dCons (dC (.bl true)) (dCons (dC (.bl false)) (dCons (dC (.int 0)) (dCons (dC (.int 1)) (dCons (fun env st => ((dC (.int 5)) env st).bind kNeg) (dCons (dC (.str "word")) (dCons (dC (.str "")) (dCons (dC (.str "leaf")) (dCons (dBin fPow (dC (.int 10)) (dC (.int 40))) dNil))))))))))) dNil)) env st = .ok [.ref 0, .lst LV] st :=
  bg_len (bg_cons (bg_var h) (bg_cons (bg_lst (xs := LV) (bg_cons rfl (bg_cons rfl (bg_cons rfl (bg_cons rfl (bg_cons rfl (bg_cons rfl (bg_cons rfl (bg_cons rfl (bg_cons rfl (bg_cons (bg_bin rfl rfl (pow_i (by decide))) rfl)))))))))) (by decide)) rfl)) rfl
theorem range_i {g : Den} {env : DEnv} {st st1 : Sto} {j : Int} (h : g env st = .ok (.int j) st1) (h0 : 0 ≤ j) (h1 : j < 3) : iRange g env st = .ok (rangeD j.toNat) st1 := by
  unfold iRange
  rw [h]
  exact if_pos (by omega)
theorem row_dv {n : Nat} {ys ts : List D} (h : DVs n ys ts) (hl : ys.length ≤ 2) : DV (n + 1) (.lst ys) (.tup ts) ∧ DV (n + 1) (.tup ys) (.tup ts) := by
  cases h with
  | nil => exact ⟨.l0, .t0⟩
  | cons a r =>
    cases r with
    | nil => exact ⟨.l1 a, .t1 a⟩
    | cons b r =>
      cases r with
      | nil => exact ⟨.l2 a b, .t2 a b⟩
      | cons c r => simp at hl
theorem any_law : ∀ (n m : Nat) (st : Sto), n < m → PenAt st → ∃ d t st', m_d_any m [.ref 0, .int (n : Int)] st = .ok d st' ∧ DV n d t ∧ PenAt st' := by
  intro n
  induction n with
  | zero =>
    intro m st hm hp
    obtain ⟨m, rfl⟩ : ∃ k, m = k + 1 := ⟨m - 1, by omega⟩
    obtain ⟨i, st1, h1, i0, i9, hp1⟩ := draw_law (j := 9) (by decide) hp
    have h1' : m_draw [.ref 0, .int 9] st = .ok (.int i) st1 := h1
    obtain ⟨v, st2, p2, hv, hp2⟩ := pick10 hp1
    refine ⟨v, v, st2, ?_, .lf hv, hp2⟩
    refine sg_mk rfl (sg_seq (sg_asgN (bg_call (xs := [.ref 0, .int 9]) rfl h1')) (sg_rt (sg_if (b := true) ?t (sg_rt (sg_ret (bg_call (xs := [.ref 0, .lst LV]) (any_args rfl) p2))))))
    by_cases h7 : i < 7
    · exact bg_orT (bg_toB (bg_bin (bg_var rfl) rfl (by rw [lt_i, decide_eq_true h7])))
    · exact bg_orF (bg_toB (bg_bin (bg_var rfl) rfl (by rw [lt_i, decide_eq_false h7]))) (bg_toB (bg_bin (bg_var rfl) rfl eqW_i))
  | succ n ih =>
    intro m st hm hp
    obtain ⟨m, rfl⟩ : ∃ k, m = k + 1 := ⟨m - 1, by omega⟩
    have ih' := fun st h => ih m st (by omega) h
    obtain ⟨i, st1, h1, i0, i9, hp1⟩ := draw_law (j := 9) (by decide) hp
    have h1' : m_draw [.ref 0, .int 9] st = .ok (.int i) st1 := h1
    have hne : (((n + 1 : Nat) : Int) == 0) = false := by rw [beq_eq_false_iff_ne]; omega
    by_cases h7 : i < 7
    · obtain ⟨v, st2, p2, hv, hp2⟩ := pick10 hp1
      refine ⟨v, v, st2, ?_, .lf hv, hp2⟩
      refine sg_mk rfl (sg_seq (sg_asgN (bg_call (xs := [.ref 0, .int 9]) rfl h1')) (sg_rt (sg_if (b := true) ?_ (sg_rt (sg_ret (bg_call (xs := [.ref 0, .lst LV]) (any_args rfl) p2))))))
      exact bg_orT (bg_toB (bg_bin (bg_var rfl) rfl (by rw [lt_i, decide_eq_true h7])))
    · obtain ⟨j, st2, h2, j0, j3, hp2⟩ := draw_law (j := 3) (by decide) hp1
      have h2' : m_draw [.ref 0, .int 3] st1 = .ok (.int j) st2 := h2
      obtain ⟨ys, ts, st3, r1, r2, r3, hp3⟩ := any_row (i := i) ih' (rangeD j.toNat) st2 hp2
      have hl : (rangeD j.toNat).length ≤ 2 := by simp [rangeD]; omega
      obtain ⟨d1, d2⟩ := row_dv r2 (by omega)
      have test : bOr (fun env st => toB (dBin fLt (dVar 2) (dC (.int 7)) env st)) (fun env st => toB (dBin (fEqW false) (dVar 1) (dC (.int 0)) env st)) [some (.ref 0), some (.int ((n + 1 : Nat) : Int)), some (.int i), none, none] st1 = .ok false st1 :=
        bg_orF (bg_toB (bg_bin (bg_var rfl) rfl (by rw [lt_i, decide_eq_false h7]))) (bg_toB (bg_bin (bg_var rfl) rfl (by rw [eqW_i, hne])))
      refine ⟨if i = 7 then .lst ys else .tup ys, .tup ts, st3, ?_, by split <;> assumption, hp3⟩
      refine sg_mk rfl (sg_seq (sg_asgN (bg_call (xs := [.ref 0, .int 9]) rfl h1')) (sg_seq (sg_if (b := false) test rfl) (sg_seq (sg_asgN (bg_lc (range_i (bg_call (xs := [.ref 0, .int 3]) rfl h2') j0 j3) (by omega) r1)) (sg_rt (sg_ret (bg_if (b := decide (i = 7)) (bg_toB (bg_bin (bg_var rfl) rfl (by rw [eqW_i]; rfl))) ?_))))))
      by_cases h : i = 7
      · rw [decide_eq_true h, if_pos rfl, if_pos h]
        rfl
      · rw [decide_eq_false h, if_neg Bool.false_ne_true, if_neg h]
        rfl
end K45

set_option Elab.async false
set_option linter.all false
set_option maxRecDepth 100000
set_option maxHeartbeats 2000000
namespace K45
open PySem PySem.Spec PyProof.Rows L2 StX NdefX DL
theorem fixed_str (x : Str) (st : Sto) : m_fixed 12 [.str x] st = .ok (.str x) st := by
  show mk 1 2 (g_fixed (m_fixed 11)) _ st = _
  generalize m_fixed 11 = f
  cbv
def vFreed (a b : D) : D := .ins "Freed" [("word", .str "freed"), ("parts", .tup [a, b]), ("frees", a), ("rows", b)]
theorem mkv_Freed {a b ta tb : D} (ha : RV 2 a ta) (hb : RV 2 b tb) : FV (mkIns "Freed" m_Freed_i) [a, b] (vFreed ta tb) := fun st => by
  have f1 := fixed_str
  have f2 : ∀ st, m_fixed 12 [.tup [a, b]] st = .ok (.tup [ta, tb]) st := fun st => fixed_law (n := 3) (.t2 ha hb) 12 st (by decide)
  unfold m_Freed_i g_Freed_i m_Paper_i g_Paper_i
  generalize m_fixed 12 = f at f1 f2 ⊢
  obtain ⟨n, m⟩ := st
  generalize hh : mkIns _ _ _ ⟨n, m⟩ = o
  cbv at hh
  simp only [f1] at hh
  cbv at hh
  simp only [f2] at hh
  cbv at hh
  subst hh
  refine ⟨_, rfl, ?_, fun j hj => ?_⟩
  · first | exact Nat.le_refl _ | (simp <;> omega) | omega
  · dsimp only at hj ⊢
    try simp (disch := omega) [if_neg]
theorem mkk_Freed {a b ta tb : D} (ha : RV 2 a ta) (hb : RV 2 b tb) : FV (mkIns "Freed" (fun ds st => m_Freed_i (permO (some [0, 2, 1]) ds) st)) [b, a] (vFreed ta tb) := mkv_Freed ha hb
def vTorn (a b c : D) : D := .ins "Torn" [("word", .str "torn"), ("parts", .tup [a, b, c]), ("shape", a), ("run", b), ("others", c)]
theorem mkv_Torn {a b c ta tb tc : D} (ha : RV 2 a ta) (hb : RV 2 b tb) (hc : RV 2 c tc) : FV (mkIns "Torn" m_Torn_i) [a, b, c] (vTorn ta tb tc) := fun st => by
  have f1 := fixed_str
  have f2 : ∀ st, m_fixed 12 [.tup [a, b, c]] st = .ok (.tup [ta, tb, tc]) st := fun st => fixed_law (n := 3) (.t3 ha hb hc) 12 st (by decide)
  unfold m_Torn_i g_Torn_i m_Paper_i g_Paper_i
  generalize m_fixed 12 = f at f1 f2 ⊢
  obtain ⟨n, m⟩ := st
  generalize hh : mkIns _ _ _ ⟨n, m⟩ = o
  cbv at hh
  simp only [f1] at hh
  cbv at hh
  simp only [f2] at hh
  cbv at hh
  subst hh
  refine ⟨_, rfl, ?_, fun j hj => ?_⟩
  · first | exact Nat.le_refl _ | (simp <;> omega) | omega
  · dsimp only at hj ⊢
    try simp (disch := omega) [if_neg]
theorem mkk_Torn {a b c ta tb tc : D} (ha : RV 2 a ta) (hb : RV 2 b tb) (hc : RV 2 c tc) : FV (mkIns "Torn" (fun ds st => m_Torn_i (permO (some [0, 3, 2, 1]) ds) st)) [c, b, a] (vTorn ta tb tc) := mkv_Torn ha hb hc
def vNeeded (a b : D) : D := .ins "Needed" [("word", .str "needed"), ("parts", .tup [a, b]), ("torn", a), ("freed", b)]
theorem mkv_Needed {a b ta tb : D} (ha : RV 2 a ta) (hb : RV 2 b tb) : FV (mkIns "Needed" m_Needed_i) [a, b] (vNeeded ta tb) := fun st => by
  have f1 := fixed_str
  have f2 : ∀ st, m_fixed 12 [.tup [a, b]] st = .ok (.tup [ta, tb]) st := fun st => fixed_law (n := 3) (.t2 ha hb) 12 st (by decide)
  unfold m_Needed_i g_Needed_i m_Paper_i g_Paper_i
  generalize m_fixed 12 = f at f1 f2 ⊢
  obtain ⟨n, m⟩ := st
  generalize hh : mkIns _ _ _ ⟨n, m⟩ = o
  cbv at hh
  simp only [f1] at hh
  cbv at hh
  simp only [f2] at hh
  cbv at hh
  subst hh
  refine ⟨_, rfl, ?_, fun j hj => ?_⟩
  · first | exact Nat.le_refl _ | (simp <;> omega) | omega
  · dsimp only at hj ⊢
    try simp (disch := omega) [if_neg]
theorem mkk_Needed {a b ta tb : D} (ha : RV 2 a ta) (hb : RV 2 b tb) : FV (mkIns "Needed" (fun ds st => m_Needed_i (permO (some [0, 2, 1]) ds) st)) [b, a] (vNeeded ta tb) := mkv_Needed ha hb
def vDies (a b : D) : D := .ins "Dies" [("word", .str "dies"), ("parts", .tup [a, b]), ("run", a), ("rows", b)]
theorem mkv_Dies {a b ta tb : D} (ha : RV 2 a ta) (hb : RV 2 b tb) : FV (mkIns "Dies" m_Dies_i) [a, b] (vDies ta tb) := fun st => by
  have f1 := fixed_str
  have f2 : ∀ st, m_fixed 12 [.tup [a, b]] st = .ok (.tup [ta, tb]) st := fun st => fixed_law (n := 3) (.t2 ha hb) 12 st (by decide)
  unfold m_Dies_i g_Dies_i m_Paper_i g_Paper_i
  generalize m_fixed 12 = f at f1 f2 ⊢
  obtain ⟨n, m⟩ := st
  generalize hh : mkIns _ _ _ ⟨n, m⟩ = o
  cbv at hh
  simp only [f1] at hh
  cbv at hh
  simp only [f2] at hh
  cbv at hh
  subst hh
  refine ⟨_, rfl, ?_, fun j hj => ?_⟩
  · first | exact Nat.le_refl _ | (simp <;> omega) | omega
  · dsimp only at hj ⊢
    try simp (disch := omega) [if_neg]
theorem mkk_Dies {a b ta tb : D} (ha : RV 2 a ta) (hb : RV 2 b tb) : FV (mkIns "Dies" (fun ds st => m_Dies_i (permO (some [0, 2, 1]) ds) st)) [b, a] (vDies ta tb) := mkv_Dies ha hb
def vLives (a b : D) : D := .ins "Lives" [("word", .str "lives"), ("parts", .tup [a, b]), ("run", a), ("rows", b)]
theorem mkv_Lives {a b ta tb : D} (ha : RV 2 a ta) (hb : RV 2 b tb) : FV (mkIns "Lives" m_Lives_i) [a, b] (vLives ta tb) := fun st => by
  have f1 := fixed_str
  have f2 : ∀ st, m_fixed 12 [.tup [a, b]] st = .ok (.tup [ta, tb]) st := fun st => fixed_law (n := 3) (.t2 ha hb) 12 st (by decide)
  unfold m_Lives_i g_Lives_i m_Paper_i g_Paper_i
  generalize m_fixed 12 = f at f1 f2 ⊢
  obtain ⟨n, m⟩ := st
  generalize hh : mkIns _ _ _ ⟨n, m⟩ = o
  cbv at hh
  simp only [f1] at hh
  cbv at hh
  simp only [f2] at hh
  cbv at hh
  subst hh
  refine ⟨_, rfl, ?_, fun j hj => ?_⟩
  · first | exact Nat.le_refl _ | (simp <;> omega) | omega
  · dsimp only at hj ⊢
    try simp (disch := omega) [if_neg]
theorem mkk_Lives {a b ta tb : D} (ha : RV 2 a ta) (hb : RV 2 b tb) : FV (mkIns "Lives" (fun ds st => m_Lives_i (permO (some [0, 2, 1]) ds) st)) [b, a] (vLives ta tb) := mkv_Lives ha hb
def vBoth (a b : D) : D := .ins "Both" [("word", .str "both"), ("parts", .tup [a, b]), ("run", a), ("other", b)]
theorem mkv_Both {a b ta tb : D} (ha : RV 2 a ta) (hb : RV 2 b tb) : FV (mkIns "Both" m_Both_i) [a, b] (vBoth ta tb) := fun st => by
  have f1 := fixed_str
  have f2 : ∀ st, m_fixed 12 [.tup [a, b]] st = .ok (.tup [ta, tb]) st := fun st => fixed_law (n := 3) (.t2 ha hb) 12 st (by decide)
  unfold m_Both_i g_Both_i m_Paper_i g_Paper_i
  generalize m_fixed 12 = f at f1 f2 ⊢
  obtain ⟨n, m⟩ := st
  generalize hh : mkIns _ _ _ ⟨n, m⟩ = o
  cbv at hh
  simp only [f1] at hh
  cbv at hh
  simp only [f2] at hh
  cbv at hh
  subst hh
  refine ⟨_, rfl, ?_, fun j hj => ?_⟩
  · first | exact Nat.le_refl _ | (simp <;> omega) | omega
  · dsimp only at hj ⊢
    try simp (disch := omega) [if_neg]
theorem mkk_Both {a b ta tb : D} (ha : RV 2 a ta) (hb : RV 2 b tb) : FV (mkIns "Both" (fun ds st => m_Both_i (permO (some [0, 2, 1]) ds) st)) [b, a] (vBoth ta tb) := mkv_Both ha hb
def vUnmet (a : D) : D := .ins "Unmet" [("word", .str "unmet"), ("parts", .tup [a]), ("rows", a)]
theorem mkv_Unmet {a ta : D} (ha : RV 2 a ta) : FV (mkIns "Unmet" m_Unmet_i) [a] (vUnmet ta) := fun st => by
  have f1 := fixed_str
  have f2 : ∀ st, m_fixed 12 [.tup [a]] st = .ok (.tup [ta]) st := fun st => fixed_law (n := 3) (.t1 ha) 12 st (by decide)
  unfold m_Unmet_i g_Unmet_i m_Paper_i g_Paper_i
  generalize m_fixed 12 = f at f1 f2 ⊢
  obtain ⟨n, m⟩ := st
  generalize hh : mkIns _ _ _ ⟨n, m⟩ = o
  cbv at hh
  simp only [f1] at hh
  cbv at hh
  simp only [f2] at hh
  cbv at hh
  subst hh
  refine ⟨_, rfl, ?_, fun j hj => ?_⟩
  · first | exact Nat.le_refl _ | (simp <;> omega) | omega
  · dsimp only at hj ⊢
    try simp (disch := omega) [if_neg]
theorem mkk_Unmet {a ta : D} (ha : RV 2 a ta) : FV (mkIns "Unmet" (fun ds st => m_Unmet_i (permO (some [0, 1]) ds) st)) [a] (vUnmet ta) := mkv_Unmet ha
def vDeaths (a b : D) : D := .ins "Deaths" [("word", .str "deaths"), ("parts", .tup [a, b]), ("spots", a), ("rows", b)]
theorem mkv_Deaths {a b ta tb : D} (ha : RV 2 a ta) (hb : RV 2 b tb) : FV (mkIns "Deaths" m_Deaths_i) [a, b] (vDeaths ta tb) := fun st => by
  have f1 := fixed_str
  have f2 : ∀ st, m_fixed 12 [.tup [a, b]] st = .ok (.tup [ta, tb]) st := fun st => fixed_law (n := 3) (.t2 ha hb) 12 st (by decide)
  unfold m_Deaths_i g_Deaths_i m_Paper_i g_Paper_i
  generalize m_fixed 12 = f at f1 f2 ⊢
  obtain ⟨n, m⟩ := st
  generalize hh : mkIns _ _ _ ⟨n, m⟩ = o
  cbv at hh
  simp only [f1] at hh
  cbv at hh
  simp only [f2] at hh
  cbv at hh
  subst hh
  refine ⟨_, rfl, ?_, fun j hj => ?_⟩
  · first | exact Nat.le_refl _ | (simp <;> omega) | omega
  · dsimp only at hj ⊢
    try simp (disch := omega) [if_neg]
theorem mkk_Deaths {a b ta tb : D} (ha : RV 2 a ta) (hb : RV 2 b tb) : FV (mkIns "Deaths" (fun ds st => m_Deaths_i (permO (some [0, 2, 1]) ds) st)) [b, a] (vDeaths ta tb) := mkv_Deaths ha hb
theorem mkp_Paper {a b ta tb : D} (x : Str) (ha : RV 2 a ta) (hb : RV 2 b tb) : FV (mkIns "Paper" m_Paper_i) [.str x, a, b] (.ins "Paper" [("word", .str x), ("parts", .tup [ta, tb])]) := fun st => by
  have f1 := fixed_str
  have f2 : ∀ st, m_fixed 12 [.tup [a, b]] st = .ok (.tup [ta, tb]) st := fun st => fixed_law (n := 3) (.t2 ha hb) 12 st (by decide)
  unfold m_Paper_i g_Paper_i
  generalize m_fixed 12 = f at f1 f2 ⊢
  obtain ⟨n, m⟩ := st
  generalize hh : mkIns _ _ _ ⟨n, m⟩ = o
  cbv at hh
  simp only [f1] at hh
  cbv at hh
  simp only [f2] at hh
  cbv at hh
  subst hh
  refine ⟨_, rfl, ?_, fun j hj => ?_⟩
  · first | exact Nat.le_refl _ | (simp <;> omega) | omega
  · dsimp only at hj ⊢
    try simp (disch := omega) [if_neg]
theorem mkp_Denial {a b ta tb : D} (x : Str) (ha : RV 2 a ta) (hb : RV 2 b tb) : FV (mkIns "Denial" m_Paper_i) [.str x, a, b] (.ins "Denial" [("word", .str x), ("parts", .tup [ta, tb])]) := fun st => by
  have f1 := fixed_str
  have f2 : ∀ st, m_fixed 12 [.tup [a, b]] st = .ok (.tup [ta, tb]) st := fun st => fixed_law (n := 3) (.t2 ha hb) 12 st (by decide)
  unfold m_Paper_i g_Paper_i
  generalize m_fixed 12 = f at f1 f2 ⊢
  obtain ⟨n, m⟩ := st
  generalize hh : mkIns _ _ _ ⟨n, m⟩ = o
  cbv at hh
  simp only [f1] at hh
  cbv at hh
  simp only [f2] at hh
  cbv at hh
  subst hh
  refine ⟨_, rfl, ?_, fun j hj => ?_⟩
  · first | exact Nat.le_refl _ | (simp <;> omega) | omega
  · dsimp only at hj ⊢
    try simp (disch := omega) [if_neg]
end K45

set_option Elab.async false
set_option linter.all false
set_option maxRecDepth 100000
set_option maxHeartbeats 2000000
namespace K45
open PySem PySem.Spec PyProof.Rows L2 StX NdefX DL
theorem len_ok {xs : List D} (h : Nat.ble xs.length 10000000 = true := by rfl) : xs.length ≤ 10000000 := Nat.le_of_ble_eq_true h
theorem pe_Dies {a b a' b' : D} (ha : TV 2 a) (hb : TV 2 b) (ka : TV 2 a') (kb : TV 2 b') (st : Sto) : m_Paper_e [vDies a b, vDies a' b'] st = .ok (.bl (eqD (.tup [a, b]) (.tup [a', b']))) st := by
  have h : ∀ st, m_are_alike 12 [.tup [.str (⟨⟨[100, 105, 101, 115]⟩⟩ : Str), .tup [a, b]], .tup [.str (⟨⟨[100, 105, 101, 115]⟩⟩ : Str), .tup [a', b']]] st = .ok (.bl (eqD (.tup [a, b]) (.tup [a', b']))) st := fun st => by
    rw [alike_law (n := 4) (.t2 (.lf (.str _ (by decide +kernel))) (.t2 ha hb)) (.t2 (.lf (.str _ (by decide +kernel))) (.t2 ka kb)) (by decide) (by decide)]
    simp only [eqD, eqDs, beq_self_eq_true, Bool.true_and, Bool.and_true]
  unfold m_Paper_e g_Paper_e vDies
  generalize m_are_alike 12 = al at h ⊢
  generalize eqD _ _ = e at h ⊢
  cbv
  simp only [h]
theorem oe_Dies {a b a' b' : D} (ha : TV 2 a) (hb : TV 2 b) (ka : TV 2 a') (kb : TV 2 b') : F2V fEqA (vDies a b) (vDies a' b') (.bl (eqD (.tup [a, b]) (.tup [a', b']))) := by
  refine or2 (fun st => rfl) (f2v fun st => ?_)
  have h := pe_Dies ha hb ka kb st
  have key : fOwn KN SB EC m_Paper_e false (vDies a b) (vDies a' b') st = ((m_Paper_e [vDies a b, vDies a' b'] st).nox.bind fun r st1 => match r with | .bl b => .ok (.bl b) st1 | _ => .bad) := by
    unfold vDies
    generalize m_Paper_e = pe
    cbv
  rw [key, h]
  rfl
theorem pe_Lives {a b a' b' : D} (ha : TV 2 a) (hb : TV 2 b) (ka : TV 2 a') (kb : TV 2 b') (st : Sto) : m_Paper_e [vLives a b, vLives a' b'] st = .ok (.bl (eqD (.tup [a, b]) (.tup [a', b']))) st := by
  have h : ∀ st, m_are_alike 12 [.tup [.str (⟨⟨[108, 105, 118, 101, 115]⟩⟩ : Str), .tup [a, b]], .tup [.str (⟨⟨[108, 105, 118, 101, 115]⟩⟩ : Str), .tup [a', b']]] st = .ok (.bl (eqD (.tup [a, b]) (.tup [a', b']))) st := fun st => by
    rw [alike_law (n := 4) (.t2 (.lf (.str _ (by decide +kernel))) (.t2 ha hb)) (.t2 (.lf (.str _ (by decide +kernel))) (.t2 ka kb)) (by decide) (by decide)]
    simp only [eqD, eqDs, beq_self_eq_true, Bool.true_and, Bool.and_true]
  unfold m_Paper_e g_Paper_e vLives
  generalize m_are_alike 12 = al at h ⊢
  generalize eqD _ _ = e at h ⊢
  cbv
  simp only [h]
theorem oe_Lives {a b a' b' : D} (ha : TV 2 a) (hb : TV 2 b) (ka : TV 2 a') (kb : TV 2 b') : F2V fEqA (vLives a b) (vLives a' b') (.bl (eqD (.tup [a, b]) (.tup [a', b']))) := by
  refine or2 (fun st => rfl) (f2v fun st => ?_)
  have h := pe_Lives ha hb ka kb st
  have key : fOwn KN SB EC m_Paper_e false (vLives a b) (vLives a' b') st = ((m_Paper_e [vLives a b, vLives a' b'] st).nox.bind fun r st1 => match r with | .bl b => .ok (.bl b) st1 | _ => .bad) := by
    unfold vLives
    generalize m_Paper_e = pe
    cbv
  rw [key, h]
  rfl
theorem pe_Both {a b a' b' : D} (ha : TV 2 a) (hb : TV 2 b) (ka : TV 2 a') (kb : TV 2 b') (st : Sto) : m_Paper_e [vBoth a b, vBoth a' b'] st = .ok (.bl (eqD (.tup [a, b]) (.tup [a', b']))) st := by
  have h : ∀ st, m_are_alike 12 [.tup [.str (⟨⟨[98, 111, 116, 104]⟩⟩ : Str), .tup [a, b]], .tup [.str (⟨⟨[98, 111, 116, 104]⟩⟩ : Str), .tup [a', b']]] st = .ok (.bl (eqD (.tup [a, b]) (.tup [a', b']))) st := fun st => by
    rw [alike_law (n := 4) (.t2 (.lf (.str _ (by decide +kernel))) (.t2 ha hb)) (.t2 (.lf (.str _ (by decide +kernel))) (.t2 ka kb)) (by decide) (by decide)]
    simp only [eqD, eqDs, beq_self_eq_true, Bool.true_and, Bool.and_true]
  unfold m_Paper_e g_Paper_e vBoth
  generalize m_are_alike 12 = al at h ⊢
  generalize eqD _ _ = e at h ⊢
  cbv
  simp only [h]
theorem oe_Both {a b a' b' : D} (ha : TV 2 a) (hb : TV 2 b) (ka : TV 2 a') (kb : TV 2 b') : F2V fEqA (vBoth a b) (vBoth a' b') (.bl (eqD (.tup [a, b]) (.tup [a', b']))) := by
  refine or2 (fun st => rfl) (f2v fun st => ?_)
  have h := pe_Both ha hb ka kb st
  have key : fOwn KN SB EC m_Paper_e false (vBoth a b) (vBoth a' b') st = ((m_Paper_e [vBoth a b, vBoth a' b'] st).nox.bind fun r st1 => match r with | .bl b => .ok (.bl b) st1 | _ => .bad) := by
    unfold vBoth
    generalize m_Paper_e = pe
    cbv
  rw [key, h]
  rfl
theorem pe_Unmet {a a' : D} (ha : TV 2 a) (ka : TV 2 a') (st : Sto) : m_Paper_e [vUnmet a, vUnmet a'] st = .ok (.bl (eqD (.tup [a]) (.tup [a']))) st := by
  have h : ∀ st, m_are_alike 12 [.tup [.str (⟨⟨[117, 110, 109, 101, 116]⟩⟩ : Str), .tup [a]], .tup [.str (⟨⟨[117, 110, 109, 101, 116]⟩⟩ : Str), .tup [a']]] st = .ok (.bl (eqD (.tup [a]) (.tup [a']))) st := fun st => by
    rw [alike_law (n := 4) (.t2 (.lf (.str _ (by decide +kernel))) (.t1 ha)) (.t2 (.lf (.str _ (by decide +kernel))) (.t1 ka)) (by decide) (by decide)]
    simp only [eqD, eqDs, beq_self_eq_true, Bool.true_and, Bool.and_true]
  unfold m_Paper_e g_Paper_e vUnmet
  generalize m_are_alike 12 = al at h ⊢
  generalize eqD _ _ = e at h ⊢
  cbv
  simp only [h]
theorem oe_Unmet {a a' : D} (ha : TV 2 a) (ka : TV 2 a') : F2V fEqA (vUnmet a) (vUnmet a') (.bl (eqD (.tup [a]) (.tup [a']))) := by
  refine or2 (fun st => rfl) (f2v fun st => ?_)
  have h := pe_Unmet ha ka st
  have key : fOwn KN SB EC m_Paper_e false (vUnmet a) (vUnmet a') st = ((m_Paper_e [vUnmet a, vUnmet a'] st).nox.bind fun r st1 => match r with | .bl b => .ok (.bl b) st1 | _ => .bad) := by
    unfold vUnmet
    generalize m_Paper_e = pe
    cbv
  rw [key, h]
  rfl
theorem pe_Deaths {a b a' b' : D} (ha : TV 2 a) (hb : TV 2 b) (ka : TV 2 a') (kb : TV 2 b') (st : Sto) : m_Paper_e [vDeaths a b, vDeaths a' b'] st = .ok (.bl (eqD (.tup [a, b]) (.tup [a', b']))) st := by
  have h : ∀ st, m_are_alike 12 [.tup [.str (⟨⟨[100, 101, 97, 116, 104, 115]⟩⟩ : Str), .tup [a, b]], .tup [.str (⟨⟨[100, 101, 97, 116, 104, 115]⟩⟩ : Str), .tup [a', b']]] st = .ok (.bl (eqD (.tup [a, b]) (.tup [a', b']))) st := fun st => by
    rw [alike_law (n := 4) (.t2 (.lf (.str _ (by decide +kernel))) (.t2 ha hb)) (.t2 (.lf (.str _ (by decide +kernel))) (.t2 ka kb)) (by decide) (by decide)]
    simp only [eqD, eqDs, beq_self_eq_true, Bool.true_and, Bool.and_true]
  unfold m_Paper_e g_Paper_e vDeaths
  generalize m_are_alike 12 = al at h ⊢
  generalize eqD _ _ = e at h ⊢
  cbv
  simp only [h]
theorem oe_Deaths {a b a' b' : D} (ha : TV 2 a) (hb : TV 2 b) (ka : TV 2 a') (kb : TV 2 b') : F2V fEqA (vDeaths a b) (vDeaths a' b') (.bl (eqD (.tup [a, b]) (.tup [a', b']))) := by
  refine or2 (fun st => rfl) (f2v fun st => ?_)
  have h := pe_Deaths ha hb ka kb st
  have key : fOwn KN SB EC m_Paper_e false (vDeaths a b) (vDeaths a' b') st = ((m_Paper_e [vDeaths a b, vDeaths a' b'] st).nox.bind fun r st1 => match r with | .bl b => .ok (.bl b) st1 | _ => .bad) := by
    unfold vDeaths
    generalize m_Paper_e = pe
    cbv
  rw [key, h]
  rfl
theorem pe_Freed {a b a' b' : D} (ha : TV 2 a) (hb : TV 2 b) (ka : TV 2 a') (kb : TV 2 b') (st : Sto) : m_Paper_e [vFreed a b, vFreed a' b'] st = .ok (.bl (eqD (.tup [a, b]) (.tup [a', b']))) st := by
  have h : ∀ st, m_are_alike 12 [.tup [.str (⟨⟨[102, 114, 101, 101, 100]⟩⟩ : Str), .tup [a, b]], .tup [.str (⟨⟨[102, 114, 101, 101, 100]⟩⟩ : Str), .tup [a', b']]] st = .ok (.bl (eqD (.tup [a, b]) (.tup [a', b']))) st := fun st => by
    rw [alike_law (n := 4) (.t2 (.lf (.str _ (by decide +kernel))) (.t2 ha hb)) (.t2 (.lf (.str _ (by decide +kernel))) (.t2 ka kb)) (by decide) (by decide)]
    simp only [eqD, eqDs, beq_self_eq_true, Bool.true_and, Bool.and_true]
  unfold m_Paper_e g_Paper_e vFreed
  generalize m_are_alike 12 = al at h ⊢
  generalize eqD _ _ = e at h ⊢
  cbv
  simp only [h]
theorem oe_Freed {a b a' b' : D} (ha : TV 2 a) (hb : TV 2 b) (ka : TV 2 a') (kb : TV 2 b') : F2V fEqA (vFreed a b) (vFreed a' b') (.bl (eqD (.tup [a, b]) (.tup [a', b']))) := by
  refine or2 (fun st => rfl) (f2v fun st => ?_)
  have h := pe_Freed ha hb ka kb st
  have key : fOwn KN SB EC m_Paper_e false (vFreed a b) (vFreed a' b') st = ((m_Paper_e [vFreed a b, vFreed a' b'] st).nox.bind fun r st1 => match r with | .bl b => .ok (.bl b) st1 | _ => .bad) := by
    unfold vFreed
    generalize m_Paper_e = pe
    cbv
  rw [key, h]
  rfl
theorem pe_Torn {a b c a' b' c' : D} (ha : TV 2 a) (hb : TV 2 b) (hc : TV 2 c) (ka : TV 2 a') (kb : TV 2 b') (kc : TV 2 c') (st : Sto) : m_Paper_e [vTorn a b c, vTorn a' b' c'] st = .ok (.bl (eqD (.tup [a, b, c]) (.tup [a', b', c']))) st := by
  have h : ∀ st, m_are_alike 12 [.tup [.str (⟨⟨[116, 111, 114, 110]⟩⟩ : Str), .tup [a, b, c]], .tup [.str (⟨⟨[116, 111, 114, 110]⟩⟩ : Str), .tup [a', b', c']]] st = .ok (.bl (eqD (.tup [a, b, c]) (.tup [a', b', c']))) st := fun st => by
    rw [alike_law (n := 4) (.t2 (.lf (.str _ (by decide +kernel))) (.t3 ha hb hc)) (.t2 (.lf (.str _ (by decide +kernel))) (.t3 ka kb kc)) (by decide) (by decide)]
    simp only [eqD, eqDs, beq_self_eq_true, Bool.true_and, Bool.and_true]
  unfold m_Paper_e g_Paper_e vTorn
  generalize m_are_alike 12 = al at h ⊢
  generalize eqD _ _ = e at h ⊢
  cbv
  simp only [h]
theorem oe_Torn {a b c a' b' c' : D} (ha : TV 2 a) (hb : TV 2 b) (hc : TV 2 c) (ka : TV 2 a') (kb : TV 2 b') (kc : TV 2 c') : F2V fEqA (vTorn a b c) (vTorn a' b' c') (.bl (eqD (.tup [a, b, c]) (.tup [a', b', c']))) := by
  refine or2 (fun st => rfl) (f2v fun st => ?_)
  have h := pe_Torn ha hb hc ka kb kc st
  have key : fOwn KN SB EC m_Paper_e false (vTorn a b c) (vTorn a' b' c') st = ((m_Paper_e [vTorn a b c, vTorn a' b' c'] st).nox.bind fun r st1 => match r with | .bl b => .ok (.bl b) st1 | _ => .bad) := by
    unfold vTorn
    generalize m_Paper_e = pe
    cbv
  rw [key, h]
  rfl
theorem pe_Needed {a b a' b' : D} (ha : TV 2 a) (hb : TV 2 b) (ka : TV 2 a') (kb : TV 2 b') (st : Sto) : m_Paper_e [vNeeded a b, vNeeded a' b'] st = .ok (.bl (eqD (.tup [a, b]) (.tup [a', b']))) st := by
  have h : ∀ st, m_are_alike 12 [.tup [.str (⟨⟨[110, 101, 101, 100, 101, 100]⟩⟩ : Str), .tup [a, b]], .tup [.str (⟨⟨[110, 101, 101, 100, 101, 100]⟩⟩ : Str), .tup [a', b']]] st = .ok (.bl (eqD (.tup [a, b]) (.tup [a', b']))) st := fun st => by
    rw [alike_law (n := 4) (.t2 (.lf (.str _ (by decide +kernel))) (.t2 ha hb)) (.t2 (.lf (.str _ (by decide +kernel))) (.t2 ka kb)) (by decide) (by decide)]
    simp only [eqD, eqDs, beq_self_eq_true, Bool.true_and, Bool.and_true]
  unfold m_Paper_e g_Paper_e vNeeded
  generalize m_are_alike 12 = al at h ⊢
  generalize eqD _ _ = e at h ⊢
  cbv
  simp only [h]
theorem oe_Needed {a b a' b' : D} (ha : TV 2 a) (hb : TV 2 b) (ka : TV 2 a') (kb : TV 2 b') : F2V fEqA (vNeeded a b) (vNeeded a' b') (.bl (eqD (.tup [a, b]) (.tup [a', b']))) := by
  refine or2 (fun st => rfl) (f2v fun st => ?_)
  have h := pe_Needed ha hb ka kb st
  have key : fOwn KN SB EC m_Paper_e false (vNeeded a b) (vNeeded a' b') st = ((m_Paper_e [vNeeded a b, vNeeded a' b'] st).nox.bind fun r st1 => match r with | .bl b => .ok (.bl b) st1 | _ => .bad) := by
    unfold vNeeded
    generalize m_Paper_e = pe
    cbv
  rw [key, h]
  rfl
def papV (t1 t2 t3 : D) : List D := [vDies t1 t2, vLives t1 t2, vBoth t1 t2, vUnmet t1, vDeaths t1 t2, vFreed t1 t2, vTorn t1 t2 t3, vNeeded t1 t2]
theorem s_1 {d1 d2 d3 t1 t2 t3 : D} {e0 e2 e6 e7 e8 e9 e10 e11 e12 e13 e14 e15 e16 e17 e18 : Option D} (r1 : RV 2 d1 t1) (r2 : RV 2 d2 t2) (r3 : RV 2 d3 t3) : EVS b1_1 [e0, some (.ref 0), e2, some d1, some d2, some d3, e6, e7, e8, e9, e10, e11, e12, e13, e14, e15, e16, e17, e18] [e0, some (.ref 0), e2, some d1, some d2, some d3, some (.lst [t1, t2, t3]), e7, e8, e9, e10, e11, e12, e13, e14, e15, e16, e17, e18] :=
  evs_asg (ev_lc (ds := [d1, d2, d3]) (ev_seqT (ev_tup (ev_cons (ev_var rfl) (ev_cons (ev_var rfl) (ev_cons (ev_var rfl) ev_nil))) len_ok)) len_ok (evl_cons rfl evb_yes (ev_call (ev_len (ev_cons (ev_var rfl) ev_nil) rfl) (fv fun st => told_law r1 12 st (by decide))) (evl_cons rfl evb_yes (ev_call (ev_len (ev_cons (ev_var rfl) ev_nil) rfl) (fv fun st => told_law r2 12 st (by decide))) (evl_cons rfl evb_yes (ev_call (ev_len (ev_cons (ev_var rfl) ev_nil) rfl) (fv fun st => told_law r3 12 st (by decide))) evl_nil))))
theorem s_2 {d1 d2 d3 t1 t2 t3 : D} {e0 e2 e7 e8 e9 e10 e11 e12 e13 e14 e15 e16 e17 e18 : Option D} (r1 : RV 2 d1 t1) (r2 : RV 2 d2 t2) (r3 : RV 2 d3 t3) : EVS b1_2 [e0, some (.ref 0), e2, some d1, some d2, some d3, some (.lst [t1, t2, t3]), e7, e8, e9, e10, e11, e12, e13, e14, e15, e16, e17, e18] [e0, some (.ref 0), e2, some d1, some d2, some d3, some (.lst [t1, t2, t3]), some (.lst (papV t1 t2 t3)), e8, e9, e10, e11, e12, e13, e14, e15, e16, e17, e18] :=
  evs_asg (ev_lst (xs := papV t1 t2 t3) (ev_cons (ev_call (ev_len (ev_cons (ev_var rfl) (ev_cons (ev_var rfl) ev_nil)) rfl) (mkv_Dies r1 r2)) (ev_cons (ev_call (ev_len (ev_cons (ev_var rfl) (ev_cons (ev_var rfl) ev_nil)) rfl) (mkv_Lives r1 r2)) (ev_cons (ev_call (ev_len (ev_cons (ev_var rfl) (ev_cons (ev_var rfl) ev_nil)) rfl) (mkv_Both r1 r2)) (ev_cons (ev_call (ev_len (ev_cons (ev_var rfl) ev_nil) rfl) (mkv_Unmet r1)) (ev_cons (ev_call (ev_len (ev_cons (ev_var rfl) (ev_cons (ev_var rfl) ev_nil)) rfl) (mkv_Deaths r1 r2)) (ev_cons (ev_call (ev_len (ev_cons (ev_var rfl) (ev_cons (ev_var rfl) ev_nil)) rfl) (mkv_Freed r1 r2)) (ev_cons (ev_call (ev_len (ev_cons (ev_var rfl) (ev_cons (ev_var rfl) (ev_cons (ev_var rfl) ev_nil))) rfl) (mkv_Torn r1 r2 r3)) (ev_cons (ev_call (ev_len (ev_cons (ev_var rfl) (ev_cons (ev_var rfl) ev_nil)) rfl) (mkv_Needed r1 r2)) ev_nil)))))))) len_ok)
theorem s_3 {d1 d2 d3 t1 t2 t3 : D} {e0 e2 e8 e9 e10 e11 e12 e13 e14 e15 e16 e17 e18 : Option D} (r1 : RV 2 d1 t1) (r2 : RV 2 d2 t2) (r3 : RV 2 d3 t3) : EVS b1_3 [e0, some (.ref 0), e2, some d1, some d2, some d3, some (.lst [t1, t2, t3]), some (.lst (papV t1 t2 t3)), e8, e9, e10, e11, e12, e13, e14, e15, e16, e17, e18] [e0, some (.ref 0), e2, some d1, some d2, some d3, some (.lst [t1, t2, t3]), some (.lst (papV t1 t2 t3)), some (.lst [vDies t1 t2, vLives t1 t2, vBoth t1 t2, vUnmet t1, vDeaths t1 t2, vFreed t1 t2]), e9, e10, e11, e12, e13, e14, e15, e16, e17, e18] :=
  evs_asg (ev_lst (xs := [vDies t1 t2, vLives t1 t2, vBoth t1 t2, vUnmet t1, vDeaths t1 t2, vFreed t1 t2]) (ev_cons (ev_call (ev_len (ev_cons (ev_var rfl) (ev_cons (ev_var rfl) ev_nil)) rfl) (mkk_Dies r1 r2)) (ev_cons (ev_call (ev_len (ev_cons (ev_var rfl) (ev_cons (ev_var rfl) ev_nil)) rfl) (mkk_Lives r1 r2)) (ev_cons (ev_call (ev_len (ev_cons (ev_var rfl) (ev_cons (ev_var rfl) ev_nil)) rfl) (mkk_Both r1 r2)) (ev_cons (ev_call (ev_len (ev_cons (ev_var rfl) ev_nil) rfl) (mkk_Unmet r1)) (ev_cons (ev_call (ev_len (ev_cons (ev_var rfl) (ev_cons (ev_var rfl) ev_nil)) rfl) (mkk_Deaths r1 r2)) (ev_cons (ev_call (ev_len (ev_cons (ev_var rfl) (ev_cons (ev_var rfl) ev_nil)) rfl) (mkk_Freed r1 r2)) ev_nil)))))) len_ok)
theorem s_4 {d1 d2 d3 t1 t2 t3 : D} {e0 e2 e9 e10 e11 e12 e13 e14 e15 e16 e17 e18 : Option D} (r1 : RV 2 d1 t1) (r2 : RV 2 d2 t2) (r3 : RV 2 d3 t3) : EVS b1_4 [e0, some (.ref 0), e2, some d1, some d2, some d3, some (.lst [t1, t2, t3]), some (.lst (papV t1 t2 t3)), some (.lst [vDies t1 t2, vLives t1 t2, vBoth t1 t2, vUnmet t1, vDeaths t1 t2, vFreed t1 t2]), e9, e10, e11, e12, e13, e14, e15, e16, e17, e18] [e0, some (.ref 0), e2, some d1, some d2, some d3, some (.lst [t1, t2, t3]), some (.lst (papV t1 t2 t3)), some (.lst (papV t1 t2 t3)), e9, e10, e11, e12, e13, e14, e15, e16, e17, e18] :=
  evs_asg (ev_bin (x := .lst [vDies t1 t2, vLives t1 t2, vBoth t1 t2, vUnmet t1, vDeaths t1 t2, vFreed t1 t2]) (y := .lst [vTorn t1 t2 t3, vNeeded t1 t2]) (ev_var rfl) (ev_lst (xs := [vTorn t1 t2 t3, vNeeded t1 t2]) (ev_cons (ev_call (ev_len (ev_cons (ev_var rfl) (ev_cons (ev_var rfl) (ev_cons (ev_var rfl) ev_nil))) rfl) (mkk_Torn r1 r2 r3)) (ev_cons (ev_call (ev_len (ev_cons (ev_var rfl) (ev_cons (ev_var rfl) ev_nil)) rfl) (mkk_Needed r1 r2)) ev_nil)) len_ok) (f2v fun st => rfl))
theorem ne_P {t1 t2 t3 : D} (k1 : TV 2 t1) (k2 : TV 2 t2) (k3 : TV 2 t3) : F2V fNeP (.lst (papV t1 t2 t3)) (.lst (papV t1 t2 t3)) (.bl false) := f2v fun st => by
  unfold fNeP fNeL
  refine if_pos ⟨rfl, fun i d e h1 h2 => ?_⟩
  rw [h1] at h2
  cases h2
  have pe : ∀ {l : List D} {n : Nat}, TV n (.tup l) → eqD (.tup l) (.tup l) = true := fun h => eqD_refl h
  have hlt : i < 8 := (List.getElem?_eq_some_iff.mp h1).1
  have : i = 0 ∨ i = 1 ∨ i = 2 ∨ i = 3 ∨ i = 4 ∨ i = 5 ∨ i = 6 ∨ i = 7 := by omega
  rcases this with z | z | z | z | z | z | z | z <;> subst z <;> cases h1
  · exact ⟨"Dies", _, _, rfl, rfl, by decide, by rw [pe_Dies k1 k2 k1 k2, pe (n := 3) (.t2 k1 k2)]⟩
  · exact ⟨"Lives", _, _, rfl, rfl, by decide, by rw [pe_Lives k1 k2 k1 k2, pe (n := 3) (.t2 k1 k2)]⟩
  · exact ⟨"Both", _, _, rfl, rfl, by decide, by rw [pe_Both k1 k2 k1 k2, pe (n := 3) (.t2 k1 k2)]⟩
  · exact ⟨"Unmet", _, _, rfl, rfl, by decide, by rw [pe_Unmet k1 k1, pe (n := 3) (.t1 k1)]⟩
  · exact ⟨"Deaths", _, _, rfl, rfl, by decide, by rw [pe_Deaths k1 k2 k1 k2, pe (n := 3) (.t2 k1 k2)]⟩
  · exact ⟨"Freed", _, _, rfl, rfl, by decide, by rw [pe_Freed k1 k2 k1 k2, pe (n := 3) (.t2 k1 k2)]⟩
  · exact ⟨"Torn", _, _, rfl, rfl, by decide, by rw [pe_Torn k1 k2 k3 k1 k2 k3, pe (n := 3) (.t3 k1 k2 k3)]⟩
  · exact ⟨"Needed", _, _, rfl, rfl, by decide, by rw [pe_Needed k1 k2 k1 k2, pe (n := 3) (.t2 k1 k2)]⟩
theorem evb_orF {t u : DenB} {env : DEnv} {c : Bool} (h1 : EVB t env false) (h2 : EVB u env c) : EVB (bOr t u) env c := evb_or (b := false) h1 h2
theorem s_5 {d1 d2 d3 t1 t2 t3 : D} {e0 e2 e9 e10 e11 e12 e13 e14 e15 e16 e17 e18 : Option D} (k1 : TV 2 t1) (k2 : TV 2 t2) (k3 : TV 2 t3) : EVS b1_5 [e0, some (.ref 0), e2, some d1, some d2, some d3, some (.lst [t1, t2, t3]), some (.lst (papV t1 t2 t3)), some (.lst (papV t1 t2 t3)), e9, e10, e11, e12, e13, e14, e15, e16, e17, e18] [e0, some (.ref 0), e2, some d1, some d2, some d3, some (.lst [t1, t2, t3]), some (.lst (papV t1 t2 t3)), some (.lst (papV t1 t2 t3)), e9, e10, e11, e12, e13, e14, e15, e16, e17, e18] :=
  evs_if (evb_orF (evb_toB (ev_bin (ev_var rfl) (ev_var rfl) (ne_P k1 k2 k3))) (evb_toB (ev fun st => by
    unfold papV fNeA m_Paper_e g_Paper_e
    generalize m_are_alike 12 = al
    cbv)))
theorem s_6 {d1 d2 d3 t1 t2 t3 : D} {e0 e2 e9 e10 e11 e12 e13 e14 e15 e16 e17 e18 : Option D} : EVS b1_6 [e0, some (.ref 0), e2, some d1, some d2, some d3, some (.lst [t1, t2, t3]), some (.lst (papV t1 t2 t3)), some (.lst (papV t1 t2 t3)), e9, e10, e11, e12, e13, e14, e15, e16, e17, e18] [e0, some (.ref 0), e2, some d1, some d2, some d3, some (.lst [t1, t2, t3]), some (.lst (papV t1 t2 t3)), some (.lst (papV t1 t2 t3)), e9, e10, e11, e12, e13, e14, e15, e16, e17, e18] := evs fun st => by
    unfold b1_6 papV fNeA m_Paper_e g_Paper_e
    generalize m_are_alike 12 = al
    cbv
theorem s_7 {d1 d2 d3 t1 t2 t3 : D} {e0 e2 e9 e10 e11 e12 e13 e14 e15 e16 e17 e18 : Option D} : EVS b1_7 [e0, some (.ref 0), e2, some d1, some d2, some d3, some (.lst [t1, t2, t3]), some (.lst (papV t1 t2 t3)), some (.lst (papV t1 t2 t3)), e9, e10, e11, e12, e13, e14, e15, e16, e17, e18] [e0, some (.ref 0), e2, some d1, some d2, some d3, some (.lst [t1, t2, t3]), some (.lst (papV t1 t2 t3)), some (.lst (papV t1 t2 t3)), some (.lst [.int 2, .int 2, .int 2, .int 1, .int 2, .int 2, .int 3, .int 2]), e10, e11, e12, e13, e14, e15, e16, e17, e18] := evs fun st => by cbv
theorem s_9 {d1 d2 d3 t1 t2 t3 : D} {e0 e2 e10 e11 e12 e13 e14 e15 e16 e17 e18 : Option D} : EVS b1_9 [e0, some (.ref 0), e2, some d1, some d2, some d3, some (.lst [t1, t2, t3]), some (.lst (papV t1 t2 t3)), some (.lst (papV t1 t2 t3)), some (.lst [.int 2, .int 2, .int 2, .int 1, .int 2, .int 2, .int 3, .int 2]), e10, e11, e12, e13, e14, e15, e16, e17, e18] [e0, some (.ref 0), e2, some d1, some d2, some d3, some (.lst [t1, t2, t3]), some (.lst (papV t1 t2 t3)), some (.lst (papV t1 t2 t3)), some (.lst [.int 2, .int 2, .int 2, .int 1, .int 2, .int 2, .int 3, .int 2]), some (.lst [t1, t2, t2, t1, t1, t1, t1, t3, t1, t2]), e11, e12, e13, e14, e15, e16, e17, e18] := evs fun st => by
    unfold b1_9 papV
    cbv
end K45

set_option Elab.async false
set_option linter.all false
set_option maxRecDepth 100000
set_option maxHeartbeats 2000000
namespace K45
open PySem PySem.Spec PyProof.Rows L2 StX NdefX DL
theorem ok_app {x y : Str} (h : PyData.strOk x = true) (h2 : PyData.strOk y = true) : PyData.strOk (x ++ y) = true := by
  unfold PyData.strOk at *
  rw [← Array.all_toList] at *
  rw [cps_app, List.all_append, h, h2]
  rfl
/-- rows of texts are alike with themselves -/
theorem eqW_strs {ss : List Str} (h : ∀ s ∈ ss, PyData.strOk s = true) (st : Sto) : fEqW true (.lst (ss.map D.str)) (.lst (ss.map D.str)) st = .ok (.bl false) st := by
  have e : ∀ l : List Str, toPys (l.map D.str) = some (l.map PyData.str) := fun l => by
    induction l with
    | nil => rfl
    | cons x l ih => simp only [List.map_cons, toPys, toPy, ih]
  have c : ∀ l : List Str, (∀ s ∈ l, PyData.strOk s = true) → PyData.canLayAll0 (l.map PyData.str) = true := fun l => by
    induction l with
    | nil => intro _; rfl
    | cons x l ih => intro h; simp only [List.map_cons, PyData.canLayAll0, PyData.canLay0, h x List.mem_cons_self, ih fun s hs => h s (List.mem_cons_of_mem _ hs), Bool.and_true]
  have d : ∀ l : List Str, PyData.depthAll (l.map PyData.str) = 0 := fun l => by
    induction l with
    | nil => rfl
    | cons x l ih => simp only [List.map_cons, PyData.depthAll, PyData.depth, ih, Nat.max_self]
  have q : ∀ l : List Str, PyData.eqvAll (l.map PyData.str) (l.map PyData.str) = true := fun l => by
    induction l with
    | nil => rfl
    | cons x l ih => simp only [List.map_cons, PyData.eqvAll, PyData.eqv, ih, beq_self_eq_true, Bool.and_true]
  have t : toPy (.lst (ss.map D.str)) = some (.list (ss.map PyData.str)) := by simp only [toPy, e, Option.map_some]
  have s : SeqAt.shaped (.list (ss.map PyData.str)) = true := by
    unfold SeqAt.shaped
    simp only [PyData.canLay0, c ss h, PyData.depth, d ss]
    rfl
  rw [eqW_py t t s s]
  simp only [PyData.eqv, q ss, if_true, Bool.not_true]
theorem eqW_str {x y : Str} {neg : Bool} (h : PyData.strOk x = true) (h2 : PyData.strOk y = true) (st : Sto) : fEqW neg (.str x) (.str y) st = .ok (.bl (if neg = true then !(x == y) else (x == y))) st := by
  have s : ∀ {z : Str}, PyData.strOk z = true → SeqAt.shaped (.str z) = true := fun {z} h => by
    unfold SeqAt.shaped
    simp only [PyData.canLay0, h, PyData.depth]
    rfl
  rw [eqW_py (p := .str x) (q := .str y) rfl rfl (s h) (s h2)]
  simp only [PyData.eqv]
theorem s_8 {d1 d2 d3 t1 t2 t3 : D} {e0 e2 e10 e11 e12 e13 e14 e15 e16 e17 e18 : Option D} (k1 : TL 2 t1) (k2 : TL 2 t2) (k3 : TL 2 t3) : EVS b1_8 [e0, some (.ref 0), e2, some d1, some d2, some d3, some (.lst [t1, t2, t3]), some (.lst (papV t1 t2 t3)), some (.lst (papV t1 t2 t3)), some (.lst [.int 2, .int 2, .int 2, .int 1, .int 2, .int 2, .int 3, .int 2]), e10, e11, e12, e13, e14, e15, e16, e17, e18] [e0, some (.ref 0), e2, some d1, some d2, some d3, some (.lst [t1, t2, t3]), some (.lst (papV t1 t2 t3)), some (.lst (papV t1 t2 t3)), some (.lst [.int 2, .int 2, .int 2, .int 1, .int 2, .int 2, .int 3, .int 2]), e10, e11, e12, e13, e14, e15, e16, e17, e18] := by
  obtain ⟨p1, h1⟩ := k1.shd
  obtain ⟨p2, h2⟩ := k2.shd
  obtain ⟨p3, h3⟩ := k3.shd
  have q1 : ∀ st, fRepr [.tup [t1]] st = .ok (.str (sh (.tup [t1]))) st := fun st => repr_sh h1.t1 (by decide) (.inl ⟨_, rfl⟩)
  have q2 : ∀ st, fRepr [.tup [t1, t2]] st = .ok (.str (sh (.tup [t1, t2]))) st := fun st => repr_sh (h1.t2 h2) (by decide) (.inl ⟨_, rfl⟩)
  have q3 : ∀ st, fRepr [.tup [t1, t2, t3]] st = .ok (.str (sh (.tup [t1, t2, t3]))) st := fun st => repr_sh (h1.t3 h2 h3) (by decide) (.inl ⟨_, rfl⟩)
  have w1 := h1.t1.strOk
  have w2 := (h1.t2 h2).strOk
  have w3 := (h1.t3 h2 h3).strOk
  have same : F2V fNeA (.lst ([sh (.tup [t1, t2]), sh (.tup [t1, t2]), sh (.tup [t1, t2]), sh (.tup [t1]), sh (.tup [t1, t2]), sh (.tup [t1, t2]), sh (.tup [t1, t2, t3]), sh (.tup [t1, t2])].map D.str)) (.lst ([sh (.tup [t1, t2]), sh (.tup [t1, t2]), sh (.tup [t1, t2]), sh (.tup [t1]), sh (.tup [t1, t2]), sh (.tup [t1, t2]), sh (.tup [t1, t2, t3]), sh (.tup [t1, t2])].map D.str)) (.bl false) := or1 (f2v fun st => eqW_strs (fun s hs => by
    simp only [List.mem_cons, List.not_mem_nil, or_false] at hs
    rcases hs with z | z | z | z | z | z | z | z <;> subst z <;> assumption) st)
  refine evs_if (evb_toB (ev_bin (x := .lst ([sh (.tup [t1, t2]), sh (.tup [t1, t2]), sh (.tup [t1, t2]), sh (.tup [t1]), sh (.tup [t1, t2]), sh (.tup [t1, t2]), sh (.tup [t1, t2, t3]), sh (.tup [t1, t2])].map D.str)) (y := .lst ([sh (.tup [t1, t2]), sh (.tup [t1, t2]), sh (.tup [t1, t2]), sh (.tup [t1]), sh (.tup [t1, t2]), sh (.tup [t1, t2]), sh (.tup [t1, t2, t3]), sh (.tup [t1, t2])].map D.str)) (ev_lc (ds := papV t1 t2 t3) (ev_seqL (ev_var rfl)) len_ok ?_) (ev_lc (ds := [.int 2, .int 2, .int 2, .int 1, .int 2, .int 2, .int 3, .int 2]) (ev_seqL (ev_var rfl)) len_ok ?_) same))
  · exact (evl_cons rfl evb_yes (ev_call (ev_cons (ev_bind (y := .tup [t1, t2]) (ev_var rfl) fun st => rfl) ev_nil) (fv q2)) (evl_cons rfl evb_yes (ev_call (ev_cons (ev_bind (y := .tup [t1, t2]) (ev_var rfl) fun st => rfl) ev_nil) (fv q2)) (evl_cons rfl evb_yes (ev_call (ev_cons (ev_bind (y := .tup [t1, t2]) (ev_var rfl) fun st => rfl) ev_nil) (fv q2)) (evl_cons rfl evb_yes (ev_call (ev_cons (ev_bind (y := .tup [t1]) (ev_var rfl) fun st => rfl) ev_nil) (fv q1)) (evl_cons rfl evb_yes (ev_call (ev_cons (ev_bind (y := .tup [t1, t2]) (ev_var rfl) fun st => rfl) ev_nil) (fv q2)) (evl_cons rfl evb_yes (ev_call (ev_cons (ev_bind (y := .tup [t1, t2]) (ev_var rfl) fun st => rfl) ev_nil) (fv q2)) (evl_cons rfl evb_yes (ev_call (ev_cons (ev_bind (y := .tup [t1, t2, t3]) (ev_var rfl) fun st => rfl) ev_nil) (fv q3)) (evl_cons rfl evb_yes (ev_call (ev_cons (ev_bind (y := .tup [t1, t2]) (ev_var rfl) fun st => rfl) ev_nil) (fv q2)) evl_nil))))))))
  · exact (evl_cons rfl evb_yes (ev_call (ev_cons (ev_call (ev_cons (ev (x := .lst [t1, t2]) fun st => rfl) ev_nil) (fv fun st => rfl)) ev_nil) (fv q2)) (evl_cons rfl evb_yes (ev_call (ev_cons (ev_call (ev_cons (ev (x := .lst [t1, t2]) fun st => rfl) ev_nil) (fv fun st => rfl)) ev_nil) (fv q2)) (evl_cons rfl evb_yes (ev_call (ev_cons (ev_call (ev_cons (ev (x := .lst [t1, t2]) fun st => rfl) ev_nil) (fv fun st => rfl)) ev_nil) (fv q2)) (evl_cons rfl evb_yes (ev_call (ev_cons (ev_call (ev_cons (ev (x := .lst [t1]) fun st => rfl) ev_nil) (fv fun st => rfl)) ev_nil) (fv q1)) (evl_cons rfl evb_yes (ev_call (ev_cons (ev_call (ev_cons (ev (x := .lst [t1, t2]) fun st => rfl) ev_nil) (fv fun st => rfl)) ev_nil) (fv q2)) (evl_cons rfl evb_yes (ev_call (ev_cons (ev_call (ev_cons (ev (x := .lst [t1, t2]) fun st => rfl) ev_nil) (fv fun st => rfl)) ev_nil) (fv q2)) (evl_cons rfl evb_yes (ev_call (ev_cons (ev_call (ev_cons (ev (x := .lst [t1, t2, t3]) fun st => rfl) ev_nil) (fv fun st => rfl)) ev_nil) (fv q3)) (evl_cons rfl evb_yes (ev_call (ev_cons (ev_call (ev_cons (ev (x := .lst [t1, t2]) fun st => rfl) ev_nil) (fv fun st => rfl)) ev_nil) (fv q2)) evl_nil))))))))
/-- a row of ten can be shown -/
theorem repr_ten {ts : List D} {ps : List PyData} (h : ∃ a b c d e f g h i j, ps = [a, b, c, d, e, f, g, h, i, j]) (py : itemsPy ts = some ps) (ok : ∀ p ∈ ps, p.showable = true ∧ p.depth ≤ 3 ∧ (PyData.shown p).length ≤ 10000 ∧ PyData.strOk (PyData.shown p) = true) :
    ∃ r, PyData.strOk r = true ∧ ∀ st, fRepr [.lst ts] st = .ok (.str r) st := by
  obtain ⟨a, b, c, d, e, f, g, h, i, j, rfl⟩ := h
  simp only [List.mem_cons, List.not_mem_nil, or_false, forall_eq_or_imp, forall_eq] at ok
  obtain ⟨a1, b1, c1, d1, e1, f1, g1, h1, i1, j1⟩ := ok
  have eq : PyData.shown (.list [a, b, c, d, e, f, g, h, i, j]) = (("[" : Str) ++ ("" : Str) ++ PyData.shown a ++ (", " : Str) ++ PyData.shown b ++ (", " : Str) ++ PyData.shown c ++ (", " : Str) ++ PyData.shown d ++ (", " : Str) ++ PyData.shown e ++ (", " : Str) ++ PyData.shown f ++ (", " : Str) ++ PyData.shown g ++ (", " : Str) ++ PyData.shown h ++ (", " : Str) ++ PyData.shown i ++ (", " : Str) ++ PyData.shown j) ++ ("]" : Str) := by
    simp only [PyData.shown, PyData.shownAll]
    rfl
  have s1 : PyData.strOk (("[" : String) : Str) = true := by decide +kernel
  have s2 : PyData.strOk (("" : String) : Str) = true := by decide +kernel
  have s3 : PyData.strOk ((", " : String) : Str) = true := by decide +kernel
  have s4 : PyData.strOk (("]" : String) : Str) = true := by decide +kernel
  have l1 : (("[" : String) : Str).length = 1 := by decide +kernel
  have l2 : (("" : String) : Str).length = 0 := by decide +kernel
  have l3 : ((", " : String) : Str).length = 2 := by decide +kernel
  have l4 : (("]" : String) : Str).length = 1 := by decide +kernel
  refine ⟨PyData.shown (.list [a, b, c, d, e, f, g, h, i, j]), ?_, fun st => ?_⟩
  rotate_left
  · unfold fRepr
    dsimp only
    rw [py]
    dsimp only
    refine if_pos ?_
    unfold shOk
    have z1 : (PyData.list [a, b, c, d, e, f, g, h, i, j]).showable = true := by simp only [PyData.showable, PyData.showableAll, a1.1, b1.1, c1.1, d1.1, e1.1, f1.1, g1.1, h1.1, i1.1, j1.1, Bool.and_true]
    have z2 : (PyData.list [a, b, c, d, e, f, g, h, i, j]).depth ≤ 60 := by
      simp only [PyData.depth, PyData.depthAll]
      omega
    have z3 : (PyData.shown (.list [a, b, c, d, e, f, g, h, i, j])).length ≤ 10000000 := by
      rw [eq]
      simp only [strLen_append, l1, l2, l3, l4]
      omega
    rw [z1, decide_eq_true z2, decide_eq_true z3]
    rfl
  · rw [eq]
    exact ok_app (ok_app (ok_app (ok_app (ok_app (ok_app (ok_app (ok_app (ok_app (ok_app (ok_app (ok_app (ok_app (ok_app (ok_app (ok_app (ok_app (ok_app (ok_app (ok_app (ok_app s1 s2) a1.2.2.2) s3) b1.2.2.2) s3) c1.2.2.2) s3) d1.2.2.2) s3) e1.2.2.2) s3) f1.2.2.2) s3) g1.2.2.2) s3) h1.2.2.2) s3) i1.2.2.2) s3) j1.2.2.2) s4
theorem sh_facts {n : Nat} {t : D} {p : PyData} (h : Sh n t p) (hn : n ≤ 3) : p.showable = true ∧ p.depth ≤ 3 ∧ (PyData.shown p).length ≤ 10000 ∧ PyData.strOk (PyData.shown p) = true := by
  have hl : Lmax n ≤ 10000 := by
    have : n = 0 ∨ n = 1 ∨ n = 2 ∨ n = 3 := by omega
    rcases this with z | z | z | z <;> subst z <;> decide
  have := h.ln
  unfold S at this
  rw [h.eq, Array.length_toList] at this
  refine ⟨h.ok, Nat.le_trans h.dp hn, Nat.le_trans this hl, ?_⟩
  rw [← h.eq]
  exact h.strOk
theorem item_py {n : Nat} {t : D} {p : PyData} (h : Sh n t p) (ht : TL n t) : itemPy t = some p := by
  have := h.py
  cases ht with
  | lf ht => have hl := lv_lf ht; cases hl <;> exact this
  | _ => exact this
theorem s_10 {d1 d2 d3 t1 t2 t3 : D} {e0 e2 e11 e12 e13 e14 e15 e16 e17 e18 : Option D} (k1 : TL 2 t1) (k2 : TL 2 t2) (k3 : TL 2 t3) : EVS b1_10 [e0, some (.ref 0), e2, some d1, some d2, some d3, some (.lst [t1, t2, t3]), some (.lst (papV t1 t2 t3)), some (.lst (papV t1 t2 t3)), some (.lst [.int 2, .int 2, .int 2, .int 1, .int 2, .int 2, .int 3, .int 2]), some (.lst [t1, t2, t2, t1, t1, t1, t1, t3, t1, t2]), e11, e12, e13, e14, e15, e16, e17, e18] [e0, some (.ref 0), e2, some d1, some d2, some d3, some (.lst [t1, t2, t3]), some (.lst (papV t1 t2 t3)), some (.lst (papV t1 t2 t3)), some (.lst [.int 2, .int 2, .int 2, .int 1, .int 2, .int 2, .int 3, .int 2]), some (.lst [t1, t2, t2, t1, t1, t1, t1, t3, t1, t2]), e11, e12, e13, e14, e15, e16, e17, e18] := by
  obtain ⟨p1, h1⟩ := k1.shd
  obtain ⟨p2, h2⟩ := k2.shd
  obtain ⟨p3, h3⟩ := k3.shd
  have i1 := item_py h1 k1
  have i2 := item_py h2 k2
  have i3 := item_py h3 k3
  obtain ⟨r, ro, hr⟩ := repr_ten (ts := [t1, t2, t2, t1, t1, t1, t1, t3, t1, t2]) (ps := [p1, p2, p2, p1, p1, p1, p1, p3, p1, p2]) ⟨_, _, _, _, _, _, _, _, _, _, rfl⟩ (by simp only [itemsPy, i1, i2, i3]) (fun p hp => by
    simp only [List.mem_cons, List.not_mem_nil, or_false] at hp
    rcases hp with z | z | z | z | z | z | z | z | z | z <;> subst z <;> first | exact sh_facts h1 (by decide) | exact sh_facts h2 (by decide) | exact sh_facts h3 (by decide))
  exact evs_if (evb_toB (ev_bin (ev_call (xs := [.lst [t1, t2, t2, t1, t1, t1, t1, t3, t1, t2]]) (ev_cons (ev_var rfl) ev_nil) (fv hr)) (ev_call (xs := [.lst [t1, t2, t2, t1, t1, t1, t1, t3, t1, t2]]) (ev_cons (ev_lst (ev_cons (ev (x := t1) fun st => rfl) (ev_cons (ev (x := t2) fun st => rfl) (ev_cons (ev (x := t2) fun st => rfl) (ev_cons (ev (x := t1) fun st => rfl) (ev_cons (ev (x := t1) fun st => rfl) (ev_cons (ev (x := t1) fun st => rfl) (ev_cons (ev (x := t1) fun st => rfl) (ev_cons (ev (x := t3) fun st => rfl) (ev_cons (ev (x := t1) fun st => rfl) (ev_cons (ev (x := t2) fun st => rfl) ev_nil)))))))))) len_ok) ev_nil) (fv hr)) (or1 (f2v fun st => by
    rw [eqW_str ro ro]
    simp only [beq_self_eq_true, if_true, Bool.not_true]))))
theorem s_11 {d1 d2 d3 t1 t2 t3 : D} {e0 e2 e11 e12 e13 e14 e15 e16 e17 e18 : Option D} : EVS b1_11 [e0, some (.ref 0), e2, some d1, some d2, some d3, some (.lst [t1, t2, t3]), some (.lst (papV t1 t2 t3)), some (.lst (papV t1 t2 t3)), some (.lst [.int 2, .int 2, .int 2, .int 1, .int 2, .int 2, .int 3, .int 2]), some (.lst [t1, t2, t2, t1, t1, t1, t1, t3, t1, t2]), e11, e12, e13, e14, e15, e16, e17, e18] [e0, some (.ref 0), e2, some d1, some d2, some d3, some (.lst [t1, t2, t3]), some (.lst (papV t1 t2 t3)), some (.lst (papV t1 t2 t3)), some (.lst [.int 2, .int 2, .int 2, .int 1, .int 2, .int 2, .int 3, .int 2]), some (.lst [t1, t2, t2, t1, t1, t1, t1, t3, t1, t2]), some (.int 7), some (vNeeded t1 t2), e13, e14, e15, e16, e17, e18] := evs fun st => by
  unfold b1_11 papV fNeA fEqA m_Paper_e g_Paper_e
  generalize m_are_alike 12 = al
  cbv
end K45

set_option Elab.async false
set_option linter.all false
set_option maxRecDepth 100000
set_option maxHeartbeats 2000000
namespace K45
open PySem PySem.Spec PyProof.Rows L2 StX NdefX DL
theorem on_Freed {a b a' b' : D} (ha : TV 2 a) (hb : TV 2 b) (ka : TV 2 a') (kb : TV 2 b') : F2V fNeA (vFreed a b) (vFreed a' b') (.bl (!eqD (.tup [a, b]) (.tup [a', b']))) := by
  refine or2 (fun st => rfl) (f2v fun st => ?_)
  have h := pe_Freed ha hb ka kb st
  have key : fOwn KN SB EC m_Paper_e true (vFreed a b) (vFreed a' b') st = ((m_Paper_e [vFreed a b, vFreed a' b'] st).nox.bind fun r st1 => match r with | .bl b => .ok (.bl (!b)) st1 | _ => .bad) := by
    unfold vFreed
    generalize m_Paper_e = pe
    cbv
  rw [key, h]
  rfl
theorem ne_bl {p : Bool} : F2V fNeA (.bl p) (.bl p) (.bl false) := or1 (f2v fun st => by rw [eqW_b]; cases p <;> rfl)
theorem s_13 {d1 d2 d3 d4 t1 t2 t3 t4 : D} {e0 e2 e14 e15 e16 e17 e18 : Option D} (r1 : RV 2 d1 t1) (r2 : RV 2 d2 t2) (r3 : RV 2 d3 t3) (r4 : RV 2 d4 t4) (k1 : TL 2 t1) (k2 : TL 2 t2) (k3 : TL 2 t3) (k4 : TL 2 t4) : EVS b1_13 [e0, some (.ref 0), e2, some d1, some d2, some d3, some (.lst [t1, t2, t3]), some (.lst (papV t1 t2 t3)), some (.lst (papV t1 t2 t3)), some (.lst [.int 2, .int 2, .int 2, .int 1, .int 2, .int 2, .int 3, .int 2]), some (.lst [t1, t2, t2, t1, t1, t1, t1, t3, t1, t2]), some (.int 7), some (vNeeded t1 t2), some d4, e14, e15, e16, e17, e18] [e0, some (.ref 0), e2, some d1, some d2, some d3, some (.lst [t1, t2, t3]), some (.lst (papV t1 t2 t3)), some (.lst (papV t1 t2 t3)), some (.lst [.int 2, .int 2, .int 2, .int 1, .int 2, .int 2, .int 3, .int 2]), some (.lst [t1, t2, t2, t1, t1, t1, t1, t3, t1, t2]), some (.int 7), some (vNeeded t1 t2), some d4, e14, e15, e16, e17, e18] := by
  have w1 : ∀ {t : D}, TL 2 t → PyData.strOk (sh t) = true := fun k => by
    obtain ⟨p, h⟩ := k.shd
    exact h.strOk
  have c1 : eqD (.tup [t4, t2]) (.tup [t1, t2]) = eqD t4 t1 := by simp only [eqD, eqDs, eqD_refl k2.tv, Bool.and_true]
  have c2 : eqD (.tup [t1, t2, t4]) (.tup [t1, t2, t3]) = eqD t4 t3 := by simp only [eqD, eqDs, eqD_refl k1.tv, eqD_refl k2.tv, Bool.and_true, Bool.true_and]
  have y1 := oe_Dies k4.tv k2.tv k1.tv k2.tv
  have y2 := oe_Torn k1.tv k2.tv k4.tv k1.tv k2.tv k3.tv
  rw [c1] at y1
  rw [c2] at y2
  have s1 : F2V fEqA (.str (sh t4)) (.str (sh t1)) (.bl (eqD t4 t1)) := or1 (f2v fun st => by
    rw [eqW_str (w1 k4) (w1 k1), ← sh_eq k4 k1]
    rfl)
  have s2 : F2V fEqA (.str (sh t4)) (.str (sh t3)) (.bl (eqD t4 t3)) := or1 (f2v fun st => by
    rw [eqW_str (w1 k4) (w1 k3), ← sh_eq k4 k3]
    rfl)
  have told : EV (dCall (m_d_told 12) (aLen 1 (dCons (dVar 13) dNil))) [e0, some (.ref 0), e2, some d1, some d2, some d3, some (.lst [t1, t2, t3]), some (.lst (papV t1 t2 t3)), some (.lst (papV t1 t2 t3)), some (.lst [.int 2, .int 2, .int 2, .int 1, .int 2, .int 2, .int 3, .int 2]), some (.lst [t1, t2, t2, t1, t1, t1, t1, t3, t1, t2]), some (.int 7), some (vNeeded t1 t2), some d4, e14, e15, e16, e17, e18] t4 := (ev_call (ev_len (ev_cons (ev_var rfl) ev_nil) rfl) (fv fun st => told_law r4 12 st (by decide)))
  have rp : ∀ {t : D}, TL 2 t → FV fRepr [t] (.str (sh t)) := fun k => fv fun st => k.repr (by decide)
  exact evs_if (evb_orF
    (evb_toB (ev_bin (ev_bin (ev_call (ev_len (ev_cons (ev_var rfl) (ev_cons (ev_var rfl) ev_nil)) rfl) (mkv_Dies r4 r2)) (ev (x := vDies t1 t2) fun st => rfl) y1) (ev_bin (ev_call (ev_cons told ev_nil) (rp k4)) (ev_call (ev_cons (ev (x := t1) fun st => rfl) ev_nil) (rp k1)) s1) ne_bl))
    (evb_toB (ev_bin (ev_bin (ev_call (ev_len (ev_cons (ev_var rfl) (ev_cons (ev_var rfl) (ev_cons (ev_var rfl) ev_nil))) rfl) (mkv_Torn r1 r2 r4)) (ev (x := vTorn t1 t2 t3) fun st => rfl) y2) (ev_bin (ev_call (ev_cons told ev_nil) (rp k4)) (ev_call (ev_cons (ev (x := t3) fun st => rfl) ev_nil) (rp k3)) s2) ne_bl)))
theorem s_14 {d1 d2 d3 d4 t1 t2 t3 : D} {e0 e2 e14 e15 e16 e17 e18 : Option D} (r1 : RV 2 d1 t1) (r2 : RV 2 d2 t2) (r3 : RV 2 d3 t3) (k1 : TV 2 t1) (k2 : TV 2 t2) : EVS b1_14 [e0, some (.ref 0), e2, some d1, some d2, some d3, some (.lst [t1, t2, t3]), some (.lst (papV t1 t2 t3)), some (.lst (papV t1 t2 t3)), some (.lst [.int 2, .int 2, .int 2, .int 1, .int 2, .int 2, .int 3, .int 2]), some (.lst [t1, t2, t2, t1, t1, t1, t1, t3, t1, t2]), some (.int 7), some (vNeeded t1 t2), some d4, e14, e15, e16, e17, e18] [e0, some (.ref 0), e2, some d1, some d2, some d3, some (.lst [t1, t2, t3]), some (.lst (papV t1 t2 t3)), some (.lst (papV t1 t2 t3)), some (.lst [.int 2, .int 2, .int 2, .int 1, .int 2, .int 2, .int 3, .int 2]), some (.lst [t1, t2, t2, t1, t1, t1, t1, t3, t1, t2]), some (.int 7), some (vNeeded t1 t2), some d4, e14, e15, e16, e17, e18] := by
  have x1 : F2V fEqA (vDies t1 t2) (.lst [t1, t2, t3]) (.bl false) := f2v fun st => by
    unfold fEqA m_Paper_e g_Paper_e vDies
    generalize m_are_alike 12 = al
    cbv
  have x2 : F2V fEqA (.ins "Denial" [("word", .str "both"), ("parts", .tup [t1, t2])]) (vBoth t1 t2) (.bl false) := f2v fun st => by
    unfold fEqA m_Paper_e g_Paper_e vBoth
    generalize m_are_alike 12 = al
    cbv
  have x3 : F2V fEqA (.ins "Paper" [("word", .str "deaths"), ("parts", .tup [t1, t2])]) (vDeaths t1 t2) (.bl false) := f2v fun st => by
    unfold fEqA m_Paper_e g_Paper_e vDeaths
    generalize m_are_alike 12 = al
    cbv
  have x4 := oe_Lives k1 k2 k1 k2
  rw [eqD_refl (n := 3) (.t2 k1 k2)] at x4
  exact evs_if (evb_orF (evb_toB (ev_bin (ev (x := vDies t1 t2) fun st => rfl) (ev_var rfl) x1)) (evb_orF
    (evb_toB (ev_bin (ev_call (ev_len (ev_cons ev_c (ev_cons (ev_var rfl) (ev_cons (ev_var rfl) ev_nil))) rfl) (mkp_Denial "both" r1 r2)) (ev (x := vBoth t1 t2) fun st => rfl) x2)) (evb_orF
    (evb_toB (ev_bin (ev_call (ev_len (ev_cons ev_c (ev_cons (ev_var rfl) (ev_cons (ev_var rfl) ev_nil))) rfl) (mkp_Paper "deaths" r1 r2)) (ev (x := vDeaths t1 t2) fun st => rfl) x3))
    (evb_not (b := true) (evb_toB (ev_bin (ev (x := vLives t1 t2) fun st => rfl) (ev_call (ev_len (ev_cons (ev (x := t1) fun st => rfl) (ev_cons (ev (x := t2) fun st => rfl) ev_nil)) rfl) (mkv_Lives k1.rv k2.rv)) x4))))))
theorem evs_ret {g : Den} {env : DEnv} {x : D} (h : EV g env x) (st : Sto) : ∃ st', sRet g env st = .rt x st' := by
  obtain ⟨s1, a1, _⟩ := h st
  exact ⟨s1, sg_ret a1⟩
theorem c_int (i : Int) : RV 2 (.int i) (.int i) := .lf (.int i)
theorem e_2 {e0 e2 e3 e4 e5 e6 e7 e8 e9 e10 e11 e12 e13 e14 e15 e16 e17 e18 : Option D} : EVS b2 [e0, some (.ref 0), e2, e3, e4, e5, e6, e7, e8, e9, e10, e11, e12, e13, e14, e15, e16, e17, e18] [e0, some (.ref 0), e2, e3, e4, e5, e6, e7, e8, e9, e10, e11, e12, e13, e14, e15, e16, e17, e18] := by
  have l1 : RV 2 (.lst [.lst [.int 0]]) (.tup [.tup [.int 0]]) := .l1 (.l1 (.lf (.int 0)))
  have l2 : RV 2 (.tup [.tup [.int 0]]) (.tup [.tup [.int 0]]) := .t1 (.t1 (.lf (.int 0)))
  have l3 : RV 2 (.tup [.tup [.bl false]]) (.tup [.tup [.bl false]]) := .t1 (.t1 (.lf (.bl false)))
  have l0 : RV 2 (.tup []) (.tup []) := .t0
  have lb : RV 2 (.bl true) (.bl true) := .lf (.bl true)
  have y1 : F2V fEqA (vDies (.int 1) (.tup [])) (vDies (.bl true) (.tup [])) (.bl false) := oe_Dies (c_int 1).tv l0.tv lb.tv l0.tv
  have y2 : F2V fNeA (vFreed (.tup [.tup [.int 0]]) (.int 0)) (vFreed (.tup [.tup [.int 0]]) (.int 0)) (.bl false) := on_Freed l2.tv (c_int 0).tv l2.tv (c_int 0).tv
  have y3 : F2V fEqA (vFreed (.tup [.tup [.bl false]]) (.int 0)) (vFreed (.tup [.tup [.int 0]]) (.int 0)) (.bl false) := oe_Freed l3.tv (c_int 0).tv l2.tv (c_int 0).tv
  have t2 : ∀ {g h : Den} {x y : D} {env : DEnv}, EV g env x → EV h env y → EVA (aLen 2 (dCons g (dCons h dNil))) env [x, y] := fun a b => ev_len (ev_cons a (ev_cons b ev_nil)) rfl
  exact evs_if (evb_orF (evb_toB (ev_bin (ev_call (t2 ev_c (ev fun st => rfl)) (mkv_Dies (c_int 1) l0)) (ev_call (t2 ev_c (ev fun st => rfl)) (mkv_Dies lb l0)) y1)) (evb_orF
    (evb_toB (ev_bin (ev_call (t2 (ev fun st => rfl) ev_c) (mkv_Freed l1 (c_int 0))) (ev_call (t2 (ev fun st => rfl) ev_c) (mkv_Freed l2 (c_int 0))) y2))
    (evb_toB (ev_bin (ev_call (t2 (ev fun st => rfl) ev_c) (mkv_Freed l3 (c_int 0))) (ev_call (t2 (ev fun st => rfl) ev_c) (mkv_Freed l2 (c_int 0))) y3))))
def needT : D := .tup [.tup [.str "b", .non], .tup [.str "a", .int 5]]
theorem e_3 {e0 e2 e3 e4 e5 e6 e7 e8 e9 e10 e11 e12 e13 e14 e15 e16 e17 e18 : Option D} : EVS b3 [e0, some (.ref 0), e2, e3, e4, e5, e6, e7, e8, e9, e10, e11, e12, e13, e14, e15, e16, e17, e18] [e0, some (.ref 0), e2, e3, e4, e5, e6, e7, e8, e9, e10, e11, e12, e13, some (vNeeded needT .non), e15, e16, e17, e18] := by
  have l1 : RV 2 (.lst [.tup [.str "b", .non], .tup [.str "a", .int 5]]) needT := .l2 (.t2 (.lf (.str _ (by decide +kernel))) (.lf .non)) (.t2 (.lf (.str _ (by decide +kernel))) (.lf (.int 5)))
  exact evs_asg (ev_call (ev_len (ev_cons (ev fun st => rfl) (ev_cons ev_c ev_nil)) rfl) (mkv_Needed l1 (.lf .non)))
theorem e_4 {e0 e2 e3 e4 e5 e6 e7 e8 e9 e10 e11 e12 e13 e15 e16 e17 e18 : Option D} (st : Sto) : ∃ st', b4 [e0, some (.ref 0), e2, e3, e4, e5, e6, e7, e8, e9, e10, e11, e12, e13, some (vNeeded needT .non), e15, e16, e17, e18] st = .rt (.bl true) st' := by
  have cnt : EV (dMeth0 "Needed" "counted" m_counted (dVar 14)) [e0, some (.ref 0), e2, e3, e4, e5, e6, e7, e8, e9, e10, e11, e12, e13, some (vNeeded needT .non), e15, e16, e17, e18] (.tup [.str "b", .str "a"]) := ev fun st => by
    unfold vNeeded needT
    cbv
  have q : F2V fEqA (.tup [.str "b", .str "a"]) (.tup [.str "b", .str "a"]) (.bl true) := or1 (f2v fun st => by cbv)
  have i1 : FV (fIsi KN IS) [vNeeded needT .non, .cls "Paper"] (.bl true) := fv fun st => by
    unfold vNeeded
    cbv
  have i2 : FV (fIsi KN IS) [vFreed (.int 1) (.int 2), .cls "Denial"] (.bl false) := fv fun st => by cbv
  have i3 : FV (fIsi KN IS) [vTorn (.int 1) (.int 2) (.int 3), .cls "Denial"] (.bl true) := fv fun st => by cbv
  have i4 : FV (fIsi KN IS) [vUnmet (.int 1), .cls "Denial"] (.bl true) := fv fun st => by cbv
  exact evs_ret (ev_and (ev_bin cnt (ev (x := .tup [.str "b", .str "a"]) fun st => rfl) q) (ev_and (ev_call (ev_cons (ev_var rfl) (ev_cons ev_c ev_nil)) i1) (ev_and (ev_not (b := false) (ev_call (ev_cons (ev_call (ev_len (ev_cons ev_c (ev_cons ev_c ev_nil)) rfl) (mkv_Freed (c_int 1) (c_int 2))) (ev_cons ev_c ev_nil)) i2))
    (ev_and (ev_call (ev_cons (ev_call (ev_len (ev_cons ev_c (ev_cons ev_c (ev_cons ev_c ev_nil))) rfl) (mkv_Torn (c_int 1) (c_int 2) (c_int 3))) (ev_cons ev_c ev_nil)) i3) (ev_call (ev_cons (ev_call (ev_len (ev_cons ev_c ev_nil) rfl) (mkv_Unmet (c_int 1))) (ev_cons ev_c ev_nil)) i4))))) st
/-- the law's slots between turns -/
def Slots (env : DEnv) : Prop := ∃ e0 e2 e3 e4 e5 e6 e7 e8 e9 e10 e11 e12 e13 e14 e15 e16 e17 e18, env = [e0, some (.ref 0), e2, e3, e4, e5, e6, e7, e8, e9, e10, e11, e12, e13, e14, e15, e16, e17, e18]
theorem sg_asg {g : Den} {t : DenG} {env e1 : DEnv} {st st1 st2 : Sto} {x : D} (h : g env st = .ok x st1) (h' : t x env st1 = .ok e1 st2) : sAsg g t env st = .nx e1 st2 := by
  unfold sAsg
  rw [h]
  show (match t x env st1 with | .ok env1 st2 => SOut.nx env1 st2 | _ => .bad) = _
  rw [h']
theorem draw3 {st : Sto} {e0 e2 e3 e4 e5 e6 e7 e8 e9 e10 e11 e12 e13 e14 e15 e16 e17 e18 : Option D} (h : PenAt st) : ∃ d1 d2 d3 t1 t2 t3 st', b1_0 [e0, some (.ref 0), e2, e3, e4, e5, e6, e7, e8, e9, e10, e11, e12, e13, e14, e15, e16, e17, e18] st = .nx [e0, some (.ref 0), e2, some d1, some d2, some d3, e6, e7, e8, e9, e10, e11, e12, e13, e14, e15, e16, e17, e18] st' ∧ DV 2 d1 t1 ∧ DV 2 d2 t2 ∧ DV 2 d3 t3 ∧ PenAt st' := by
  obtain ⟨d1, t1, s1, p1, v1, h1⟩ := any_law 2 4 st (by decide) h
  obtain ⟨d2, t2, s2, p2, v2, h2⟩ := any_law 2 4 s1 (by decide) h1
  obtain ⟨d3, t3, s3, p3, v3, h3⟩ := any_law 2 4 s2 (by decide) h2
  refine ⟨d1, d2, d3, t1, t2, t3, s3, ?_, v1, v2, v3, h3⟩
  exact sg_asg (bg_lc (ds := [.int 0, .int 1, .int 2]) rfl len_ok (lc_cons rfl rfl (bg_call (xs := [.ref 0, .int 2]) (bg_len (bg_cons (bg_var rfl) (bg_cons rfl rfl)) rfl) p1) (lc_cons rfl rfl (bg_call (xs := [.ref 0, .int 2]) (bg_len (bg_cons (bg_var rfl) (bg_cons rfl rfl)) rfl) p2) (lc_cons rfl rfl (bg_call (xs := [.ref 0, .int 2]) (bg_len (bg_cons (bg_var rfl) (bg_cons rfl rfl)) rfl) p3) rfl)))) rfl
noncomputable def turnS : DenS := (sSeq b1_0 (sSeq b1_1 (sSeq b1_2 (sSeq b1_3 (sSeq b1_4 (sSeq b1_5 (sSeq b1_6 (sSeq b1_7 (sSeq b1_8 (sSeq b1_9 (sSeq b1_10 (sSeq b1_11 (sSeq b1_12 (sSeq b1_13 (sSeq b1_14 sNil)))))))))))))))
theorem turn_law {env : DEnv} {st : Sto} (he : Slots env) (h : PenAt st) : ∃ env' st', turnS env st = .nx env' st' ∧ Slots env' ∧ PenAt st' := by
  obtain ⟨e0, e2, e3, e4, e5, e6, e7, e8, e9, e10, e11, e12, e13, e14, e15, e16, e17, e18, rfl⟩ := he
  obtain ⟨d1, d2, d3, t1, t2, t3, s0, p0, v1, v2, v3, h0⟩ := draw3 (e0 := e0) (e2 := e2) (e3 := e3) (e4 := e4) (e5 := e5) (e6 := e6) (e7 := e7) (e8 := e8) (e9 := e9) (e10 := e10) (e11 := e11) (e12 := e12) (e13 := e13) (e14 := e14) (e15 := e15) (e16 := e16) (e17 := e17) (e18 := e18) h
  have r1 := v1.rv
  have r2 := v2.rv
  have r3 := v3.rv
  have k1 := v1.tl
  have k2 := v2.tl
  have k3 := v3.tl
  obtain ⟨s1, p1, l1⟩ := s_1 (e0 := e0) (e2 := e2) (e7 := e7) (e8 := e8) (e9 := e9) (e10 := e10) (e11 := e11) (e12 := e12) (e13 := e13) (e14 := e14) (e15 := e15) (e16 := e16) (e17 := e17) (e18 := e18) (e6 := e6) r1 r2 r3 s0
  obtain ⟨s2, p2, l2⟩ := s_2 (e7 := e7) r1 r2 r3 s1
  obtain ⟨s3, p3, l3⟩ := s_3 (e8 := e8) r1 r2 r3 s2
  obtain ⟨s4, p4, l4⟩ := s_4 r1 r2 r3 s3
  obtain ⟨s5, p5, l5⟩ := s_5 k1.tv k2.tv k3.tv s4
  obtain ⟨s6, p6, l6⟩ := s_6 s5
  obtain ⟨s7, p7, l7⟩ := s_7 (e9 := e9) s6
  obtain ⟨s8, p8, l8⟩ := s_8 k1 k2 k3 s7
  obtain ⟨s9, p9, l9⟩ := s_9 (e10 := e10) s8
  obtain ⟨s10, p10, l10⟩ := s_10 k1 k2 k3 s9
  obtain ⟨s11, p11, l11⟩ := s_11 (e11 := e11) (e12 := e12) s10
  have h11 : PenAt s11 := l11.pen (l10.pen (l9.pen (l8.pen (l7.pen (l6.pen (l5.pen (l4.pen (l3.pen (l2.pen (l1.pen h0))))))))))
  obtain ⟨d4, t4, s12, p12, v4, h12⟩ := any_law 2 4 s11 (by decide) h11
  obtain ⟨s13, p13, l13⟩ := s_13 r1 r2 r3 v4.rv k1 k2 k3 v4.tl s12
  obtain ⟨s14, p14, l14⟩ := s_14 (d4 := d4) (t3 := t3) r1 r2 r3 k1.tv k2.tv s13
  refine ⟨_, s14, sg_seq p0 (sg_seq p1 (sg_seq p2 (sg_seq p3 (sg_seq p4 (sg_seq p5 (sg_seq p6 (sg_seq p7 (sg_seq p8 (sg_seq p9 (sg_seq p10 (sg_seq p11 (sg_seq (sg_asgN (bg_call (xs := [.ref 0, .int 2]) (bg_len (bg_cons (bg_var rfl) (bg_cons rfl rfl)) rfl) p12)) (sg_seq p13 (sg_seq p14 rfl)))))))))))))), ⟨_, _, _, _, _, _, _, _, _, _, _, _, _, _, _, _, _, _, rfl⟩, l14.pen (l13.pen h12)⟩
theorem turns_law : ∀ (ds : List D) (env : DEnv) (st : Sto), Slots env → PenAt st → ∃ env' st', forRun (gN 2) turnS ds env st = .nx env' st' ∧ Slots env' ∧ PenAt st'
  | [], env, st, he, h => ⟨env, st, rfl, he, h⟩
  | d :: ds, env, st, he, h => by
    have he1 : Slots (env.set 2 (some d)) := by
      obtain ⟨e0, e2, e3, e4, e5, e6, e7, e8, e9, e10, e11, e12, e13, e14, e15, e16, e17, e18, rfl⟩ := he
      exact ⟨_, _, _, _, _, _, _, _, _, _, _, _, _, _, _, _, _, _, rfl⟩
    obtain ⟨env1, st1, p1, he2, h2⟩ := turn_law he1 h
    obtain ⟨env2, st2, p2, he3, h3⟩ := turns_law ds env1 st1 he2 h2
    exact ⟨env2, st2, for_cons rfl p1 p2, he3, h3⟩
theorem law_true (ns : List Int) : ∃ st, m_law [.rdl (ns.map D.int)] ⟨0, fun _ => none⟩ = .ok (.bl true) st := by
  obtain ⟨s0, p0, h0⟩ := pen_lawK (c := 80728) (k := 10838) ns
  have p0' : m_pen [.rdl (ns.map D.int)] ⟨0, fun _ => none⟩ = .ok (.ref 0) s0 := p0
  have sl : Slots [some (.rdl (ns.map D.int)), some (.ref 0), none, none, none, none, none, none, none, none, none, none, none, none, none, none, none, none, none] := ⟨_, _, _, _, _, _, _, _, _, _, _, _, _, _, _, _, _, _, rfl⟩
  obtain ⟨env1, s1, p1, h1, _⟩ := turns_law (rangeD 8) _ _ sl h0
  obtain ⟨e0, e2, e3, e4, e5, e6, e7, e8, e9, e10, e11, e12, e13, e14, e15, e16, e17, e18, rfl⟩ := h1
  obtain ⟨s2, p2, _⟩ := e_2 (e0 := e0) (e2 := e2) (e3 := e3) (e4 := e4) (e5 := e5) (e6 := e6) (e7 := e7) (e8 := e8) (e9 := e9) (e10 := e10) (e11 := e11) (e12 := e12) (e13 := e13) (e14 := e14) (e15 := e15) (e16 := e16) (e17 := e17) (e18 := e18) s1
  obtain ⟨s3, p3, _⟩ := e_3 (e0 := e0) (e2 := e2) (e3 := e3) (e4 := e4) (e5 := e5) (e6 := e6) (e7 := e7) (e8 := e8) (e9 := e9) (e10 := e10) (e11 := e11) (e12 := e12) (e13 := e13) (e14 := e14) (e15 := e15) (e16 := e16) (e17 := e17) (e18 := e18) s2
  obtain ⟨s4, p4⟩ := e_4 (e0 := e0) (e2 := e2) (e3 := e3) (e4 := e4) (e5 := e5) (e6 := e6) (e7 := e7) (e8 := e8) (e9 := e9) (e10 := e10) (e11 := e11) (e12 := e12) (e13 := e13) (e15 := e15) (e16 := e16) (e17 := e17) (e18 := e18) s3
  exact ⟨s4, sg_mk rfl (sg_seq (sg_asgN (bg_call (xs := [.rdl (ns.map D.int)]) rfl p0')) (sg_seq (sg_for (ds := rangeD 8) rfl p1) (sg_seq p2 (sg_seq p3 (sg_rt p4)))))⟩
end K45

set_option Elab.async false
set_option linter.all false
set_option maxRecDepth 100000
set_option maxHeartbeats 8000000
namespace K45
open PySem PySem.Spec PyProof.Rows L2 StX NdefX DL
theorem fin {P : Program} {w : World} {K : PySem.W.Frag} {h : Heap} {mg : Str → Option Value} {fa : Addr} {fixed are_alike pen draw pick d_any d_told law Paper Denial Freed Torn Needed Dies Lives Both Unmet Deaths iPaper bPaper ePaper bDenial counted iFreed iTorn iNeeded iDies iLives iBoth iUnmet iDeaths cFreed cTorn cNeeded cDies cLives cBoth cUnmet cDeaths xFreed xTorn xNeeded xDies xLives xBoth xUnmet xDeaths : Addr} (X : K.In h) (G : h.Ns mainGlobals mg) (hfa : mg "law" = some (.ref fa))
    (g_fixed : PySem.W.nsIn K mainGlobals "fixed" = some (some (.ref fixed)))
    (g_are_alike : PySem.W.nsIn K mainGlobals "are_alike" = some (some (.ref are_alike)))
    (g_pen : PySem.W.nsIn K mainGlobals "_law_pen" = some (some (.ref pen)))
    (g_draw : PySem.W.nsIn K mainGlobals "_law_draw" = some (some (.ref draw)))
    (g_pick : PySem.W.nsIn K mainGlobals "_law_pick" = some (some (.ref pick)))
    (g_d_any : PySem.W.nsIn K mainGlobals "_law_d_any" = some (some (.ref d_any)))
    (g_d_told : PySem.W.nsIn K mainGlobals "_law_d_told" = some (some (.ref d_told)))
    (g_law : PySem.W.nsIn K mainGlobals "law" = some (some (.ref law)))
    (g_Paper : PySem.W.nsIn K mainGlobals "Paper" = some (some (.ref Paper)))
    (g_Denial : PySem.W.nsIn K mainGlobals "Denial" = some (some (.ref Denial)))
    (g_Freed : PySem.W.nsIn K mainGlobals "Freed" = some (some (.ref Freed)))
    (g_Torn : PySem.W.nsIn K mainGlobals "Torn" = some (some (.ref Torn)))
    (g_Needed : PySem.W.nsIn K mainGlobals "Needed" = some (some (.ref Needed)))
    (g_Dies : PySem.W.nsIn K mainGlobals "Dies" = some (some (.ref Dies)))
    (g_Lives : PySem.W.nsIn K mainGlobals "Lives" = some (some (.ref Lives)))
    (g_Both : PySem.W.nsIn K mainGlobals "Both" = some (some (.ref Both)))
    (g_Unmet : PySem.W.nsIn K mainGlobals "Unmet" = some (some (.ref Unmet)))
    (g_Deaths : PySem.W.nsIn K mainGlobals "Deaths" = some (some (.ref Deaths)))
    (f_Paper_i : PySem.W.findIn K (.ref Paper) "__init__" = some (some (.ref iPaper)))
    (f_Paper_b : PySem.W.findIn K (.ref Paper) "__bool__" = some (some (.ref bPaper)))
    (f_Paper_e : PySem.W.findIn K (.ref Paper) "__eq__" = some (some (.ref ePaper)))
    (f_Denial_b : PySem.W.findIn K (.ref Denial) "__bool__" = some (some (.ref bDenial)))
    (f_counted : PySem.W.findIn K (.ref Needed) "counted" = some (some (.ref counted)))
    (f_Freed : PySem.W.findIn K (.ref Freed) "__init__" = some (some (.ref iFreed)))
    (f_Torn : PySem.W.findIn K (.ref Torn) "__init__" = some (some (.ref iTorn)))
    (f_Needed : PySem.W.findIn K (.ref Needed) "__init__" = some (some (.ref iNeeded)))
    (f_Dies : PySem.W.findIn K (.ref Dies) "__init__" = some (some (.ref iDies)))
    (f_Lives : PySem.W.findIn K (.ref Lives) "__init__" = some (some (.ref iLives)))
    (f_Both : PySem.W.findIn K (.ref Both) "__init__" = some (some (.ref iBoth)))
    (f_Unmet : PySem.W.findIn K (.ref Unmet) "__init__" = some (some (.ref iUnmet)))
    (f_Deaths : PySem.W.findIn K (.ref Deaths) "__init__" = some (some (.ref iDeaths)))
    (F_fixed : ∃ fd, Fun K "fixed" "fixed" s_fixed fixed fd)
    (F_are_alike : ∃ fd, Fun K "are_alike" "are_alike" s_are_alike are_alike fd)
    (F_pen : ∃ fd, Fun K "_law_pen" "_law_pen" s_pen pen fd)
    (F_draw : ∃ fd, Fun K "_law_draw" "_law_draw" s_draw draw fd)
    (F_pick : ∃ fd, Fun K "_law_pick" "_law_pick" s_pick pick fd)
    (F_d_any : ∃ fd, Fun K "_law_d_any" "_law_d_any" s_d_any d_any fd)
    (F_d_told : ∃ fd, Fun K "_law_d_told" "_law_d_told" s_d_told d_told fd)
    (F_law : ∃ fd, Fun K "law" "law" s_law law fd)
    (F_Paper_i : ∃ fd, Fun K "__init__" "Paper.__init__" s_Paper_i iPaper fd)
    (F_Paper_b : ∃ fd, Fun K "__bool__" "Paper.__bool__" s_Paper_b bPaper fd)
    (F_Paper_e : ∃ fd, Fun K "__eq__" "Paper.__eq__" s_Paper_e ePaper fd)
    (F_Denial_b : ∃ fd, Fun K "__bool__" "Denial.__bool__" s_Denial_b bDenial fd)
    (F_counted : ∃ fd, Fun K "counted" "Needed.counted" s_counted counted fd)
    (C_Freed : ∃ fd, FunC K "__init__" "Freed.__init__" s_Freed_i iFreed fd cFreed xFreed Freed)
    (C_Torn : ∃ fd, FunC K "__init__" "Torn.__init__" s_Torn_i iTorn fd cTorn xTorn Torn)
    (C_Needed : ∃ fd, FunC K "__init__" "Needed.__init__" s_Needed_i iNeeded fd cNeeded xNeeded Needed)
    (C_Dies : ∃ fd, FunC K "__init__" "Dies.__init__" s_Dies_i iDies fd cDies xDies Dies)
    (C_Lives : ∃ fd, FunC K "__init__" "Lives.__init__" s_Lives_i iLives fd cLives xLives Lives)
    (C_Both : ∃ fd, FunC K "__init__" "Both.__init__" s_Both_i iBoth fd cBoth xBoth Both)
    (C_Unmet : ∃ fd, FunC K "__init__" "Unmet.__init__" s_Unmet_i iUnmet fd cUnmet xUnmet Unmet)
    (C_Deaths : ∃ fd, FunC K "__init__" "Deaths.__init__" s_Deaths_i iDeaths fd cDeaths xDeaths Deaths)
    (k_None : ckNone K = true)
    (k_Keep : ckKeep K ⟨fixed, are_alike, pen, draw, pick, d_any, d_told, law, Paper, Denial, Freed, Torn, Needed, Dies, Lives, Both, Unmet, Deaths, iPaper, bPaper, ePaper, bDenial, counted, iFreed, iTorn, iNeeded, iDies, iLives, iBoth, iUnmet, iDeaths, cFreed, cTorn, cNeeded, cDies, cLives, cBoth, cUnmet, cDeaths, xFreed, xTorn, xNeeded, xDies, xLives, xBoth, xUnmet, xDeaths⟩ = true)
    (k_KN : ckKN K ⟨fixed, are_alike, pen, draw, pick, d_any, d_told, law, Paper, Denial, Freed, Torn, Needed, Dies, Lives, Both, Unmet, Deaths, iPaper, bPaper, ePaper, bDenial, counted, iFreed, iTorn, iNeeded, iDies, iLives, iBoth, iUnmet, iDeaths, cFreed, cTorn, cNeeded, cDies, cLives, cBoth, cUnmet, cDeaths, xFreed, xTorn, xNeeded, xDies, xLives, xBoth, xUnmet, xDeaths⟩ = true)
    (k_IS : ckIS K ⟨fixed, are_alike, pen, draw, pick, d_any, d_told, law, Paper, Denial, Freed, Torn, Needed, Dies, Lives, Both, Unmet, Deaths, iPaper, bPaper, ePaper, bDenial, counted, iFreed, iTorn, iNeeded, iDies, iLives, iBoth, iUnmet, iDeaths, cFreed, cTorn, cNeeded, cDies, cLives, cBoth, cUnmet, cDeaths, xFreed, xTorn, xNeeded, xDies, xLives, xBoth, xUnmet, xDeaths⟩ = true)
    (k_SB : ckSB K ⟨fixed, are_alike, pen, draw, pick, d_any, d_told, law, Paper, Denial, Freed, Torn, Needed, Dies, Lives, Both, Unmet, Deaths, iPaper, bPaper, ePaper, bDenial, counted, iFreed, iTorn, iNeeded, iDies, iLives, iBoth, iUnmet, iDeaths, cFreed, cTorn, cNeeded, cDies, cLives, cBoth, cUnmet, cDeaths, xFreed, xTorn, xNeeded, xDies, xLives, xBoth, xUnmet, xDeaths⟩ = true)
    (k_C_Freed : ckC_Freed P K ⟨fixed, are_alike, pen, draw, pick, d_any, d_told, law, Paper, Denial, Freed, Torn, Needed, Dies, Lives, Both, Unmet, Deaths, iPaper, bPaper, ePaper, bDenial, counted, iFreed, iTorn, iNeeded, iDies, iLives, iBoth, iUnmet, iDeaths, cFreed, cTorn, cNeeded, cDies, cLives, cBoth, cUnmet, cDeaths, xFreed, xTorn, xNeeded, xDies, xLives, xBoth, xUnmet, xDeaths⟩ = true)
    (k_C_Torn : ckC_Torn P K ⟨fixed, are_alike, pen, draw, pick, d_any, d_told, law, Paper, Denial, Freed, Torn, Needed, Dies, Lives, Both, Unmet, Deaths, iPaper, bPaper, ePaper, bDenial, counted, iFreed, iTorn, iNeeded, iDies, iLives, iBoth, iUnmet, iDeaths, cFreed, cTorn, cNeeded, cDies, cLives, cBoth, cUnmet, cDeaths, xFreed, xTorn, xNeeded, xDies, xLives, xBoth, xUnmet, xDeaths⟩ = true)
    (k_C_Needed : ckC_Needed P K ⟨fixed, are_alike, pen, draw, pick, d_any, d_told, law, Paper, Denial, Freed, Torn, Needed, Dies, Lives, Both, Unmet, Deaths, iPaper, bPaper, ePaper, bDenial, counted, iFreed, iTorn, iNeeded, iDies, iLives, iBoth, iUnmet, iDeaths, cFreed, cTorn, cNeeded, cDies, cLives, cBoth, cUnmet, cDeaths, xFreed, xTorn, xNeeded, xDies, xLives, xBoth, xUnmet, xDeaths⟩ = true)
    (k_C_Dies : ckC_Dies P K ⟨fixed, are_alike, pen, draw, pick, d_any, d_told, law, Paper, Denial, Freed, Torn, Needed, Dies, Lives, Both, Unmet, Deaths, iPaper, bPaper, ePaper, bDenial, counted, iFreed, iTorn, iNeeded, iDies, iLives, iBoth, iUnmet, iDeaths, cFreed, cTorn, cNeeded, cDies, cLives, cBoth, cUnmet, cDeaths, xFreed, xTorn, xNeeded, xDies, xLives, xBoth, xUnmet, xDeaths⟩ = true)
    (k_C_Lives : ckC_Lives P K ⟨fixed, are_alike, pen, draw, pick, d_any, d_told, law, Paper, Denial, Freed, Torn, Needed, Dies, Lives, Both, Unmet, Deaths, iPaper, bPaper, ePaper, bDenial, counted, iFreed, iTorn, iNeeded, iDies, iLives, iBoth, iUnmet, iDeaths, cFreed, cTorn, cNeeded, cDies, cLives, cBoth, cUnmet, cDeaths, xFreed, xTorn, xNeeded, xDies, xLives, xBoth, xUnmet, xDeaths⟩ = true)
    (k_C_Both : ckC_Both P K ⟨fixed, are_alike, pen, draw, pick, d_any, d_told, law, Paper, Denial, Freed, Torn, Needed, Dies, Lives, Both, Unmet, Deaths, iPaper, bPaper, ePaper, bDenial, counted, iFreed, iTorn, iNeeded, iDies, iLives, iBoth, iUnmet, iDeaths, cFreed, cTorn, cNeeded, cDies, cLives, cBoth, cUnmet, cDeaths, xFreed, xTorn, xNeeded, xDies, xLives, xBoth, xUnmet, xDeaths⟩ = true)
    (k_C_Unmet : ckC_Unmet P K ⟨fixed, are_alike, pen, draw, pick, d_any, d_told, law, Paper, Denial, Freed, Torn, Needed, Dies, Lives, Both, Unmet, Deaths, iPaper, bPaper, ePaper, bDenial, counted, iFreed, iTorn, iNeeded, iDies, iLives, iBoth, iUnmet, iDeaths, cFreed, cTorn, cNeeded, cDies, cLives, cBoth, cUnmet, cDeaths, xFreed, xTorn, xNeeded, xDies, xLives, xBoth, xUnmet, xDeaths⟩ = true)
    (k_C_Deaths : ckC_Deaths P K ⟨fixed, are_alike, pen, draw, pick, d_any, d_told, law, Paper, Denial, Freed, Torn, Needed, Dies, Lives, Both, Unmet, Deaths, iPaper, bPaper, ePaper, bDenial, counted, iFreed, iTorn, iNeeded, iDies, iLives, iBoth, iUnmet, iDeaths, cFreed, cTorn, cNeeded, cDies, cLives, cBoth, cUnmet, cDeaths, xFreed, xTorn, xNeeded, xDies, xLives, xBoth, xUnmet, xDeaths⟩ = true)
    (k_Mk : ckMk K ⟨fixed, are_alike, pen, draw, pick, d_any, d_told, law, Paper, Denial, Freed, Torn, Needed, Dies, Lives, Both, Unmet, Deaths, iPaper, bPaper, ePaper, bDenial, counted, iFreed, iTorn, iNeeded, iDies, iLives, iBoth, iUnmet, iDeaths, cFreed, cTorn, cNeeded, cDies, cLives, cBoth, cUnmet, cDeaths, xFreed, xTorn, xNeeded, xDies, xLives, xBoth, xUnmet, xDeaths⟩ = true)
    (k_Mt : ckMt K ⟨fixed, are_alike, pen, draw, pick, d_any, d_told, law, Paper, Denial, Freed, Torn, Needed, Dies, Lives, Both, Unmet, Deaths, iPaper, bPaper, ePaper, bDenial, counted, iFreed, iTorn, iNeeded, iDies, iLives, iBoth, iUnmet, iDeaths, cFreed, cTorn, cNeeded, cDies, cLives, cBoth, cUnmet, cDeaths, xFreed, xTorn, xNeeded, xDies, xLives, xBoth, xUnmet, xDeaths⟩ = true)
    (k_E : ckE K ⟨fixed, are_alike, pen, draw, pick, d_any, d_told, law, Paper, Denial, Freed, Torn, Needed, Dies, Lives, Both, Unmet, Deaths, iPaper, bPaper, ePaper, bDenial, counted, iFreed, iTorn, iNeeded, iDies, iLives, iBoth, iUnmet, iDeaths, cFreed, cTorn, cNeeded, cDies, cLives, cBoth, cUnmet, cDeaths, xFreed, xTorn, xNeeded, xDies, xLives, xBoth, xUnmet, xDeaths⟩ = true)
    (k_B : ckB K ⟨fixed, are_alike, pen, draw, pick, d_any, d_told, law, Paper, Denial, Freed, Torn, Needed, Dies, Lives, Both, Unmet, Deaths, iPaper, bPaper, ePaper, bDenial, counted, iFreed, iTorn, iNeeded, iDies, iLives, iBoth, iUnmet, iDeaths, cFreed, cTorn, cNeeded, cDies, cLives, cBoth, cUnmet, cDeaths, xFreed, xTorn, xNeeded, xDies, xLives, xBoth, xUnmet, xDeaths⟩ = true)
    (k_F_word : ckF_word K ⟨fixed, are_alike, pen, draw, pick, d_any, d_told, law, Paper, Denial, Freed, Torn, Needed, Dies, Lives, Both, Unmet, Deaths, iPaper, bPaper, ePaper, bDenial, counted, iFreed, iTorn, iNeeded, iDies, iLives, iBoth, iUnmet, iDeaths, cFreed, cTorn, cNeeded, cDies, cLives, cBoth, cUnmet, cDeaths, xFreed, xTorn, xNeeded, xDies, xLives, xBoth, xUnmet, xDeaths⟩ = true)
    (k_F_parts : ckF_parts K ⟨fixed, are_alike, pen, draw, pick, d_any, d_told, law, Paper, Denial, Freed, Torn, Needed, Dies, Lives, Both, Unmet, Deaths, iPaper, bPaper, ePaper, bDenial, counted, iFreed, iTorn, iNeeded, iDies, iLives, iBoth, iUnmet, iDeaths, cFreed, cTorn, cNeeded, cDies, cLives, cBoth, cUnmet, cDeaths, xFreed, xTorn, xNeeded, xDies, xLives, xBoth, xUnmet, xDeaths⟩ = true)
    (k_F_frees : ckF_frees K ⟨fixed, are_alike, pen, draw, pick, d_any, d_told, law, Paper, Denial, Freed, Torn, Needed, Dies, Lives, Both, Unmet, Deaths, iPaper, bPaper, ePaper, bDenial, counted, iFreed, iTorn, iNeeded, iDies, iLives, iBoth, iUnmet, iDeaths, cFreed, cTorn, cNeeded, cDies, cLives, cBoth, cUnmet, cDeaths, xFreed, xTorn, xNeeded, xDies, xLives, xBoth, xUnmet, xDeaths⟩ = true)
    (k_F_rows : ckF_rows K ⟨fixed, are_alike, pen, draw, pick, d_any, d_told, law, Paper, Denial, Freed, Torn, Needed, Dies, Lives, Both, Unmet, Deaths, iPaper, bPaper, ePaper, bDenial, counted, iFreed, iTorn, iNeeded, iDies, iLives, iBoth, iUnmet, iDeaths, cFreed, cTorn, cNeeded, cDies, cLives, cBoth, cUnmet, cDeaths, xFreed, xTorn, xNeeded, xDies, xLives, xBoth, xUnmet, xDeaths⟩ = true)
    (k_F_shape : ckF_shape K ⟨fixed, are_alike, pen, draw, pick, d_any, d_told, law, Paper, Denial, Freed, Torn, Needed, Dies, Lives, Both, Unmet, Deaths, iPaper, bPaper, ePaper, bDenial, counted, iFreed, iTorn, iNeeded, iDies, iLives, iBoth, iUnmet, iDeaths, cFreed, cTorn, cNeeded, cDies, cLives, cBoth, cUnmet, cDeaths, xFreed, xTorn, xNeeded, xDies, xLives, xBoth, xUnmet, xDeaths⟩ = true)
    (k_F_run : ckF_run K ⟨fixed, are_alike, pen, draw, pick, d_any, d_told, law, Paper, Denial, Freed, Torn, Needed, Dies, Lives, Both, Unmet, Deaths, iPaper, bPaper, ePaper, bDenial, counted, iFreed, iTorn, iNeeded, iDies, iLives, iBoth, iUnmet, iDeaths, cFreed, cTorn, cNeeded, cDies, cLives, cBoth, cUnmet, cDeaths, xFreed, xTorn, xNeeded, xDies, xLives, xBoth, xUnmet, xDeaths⟩ = true)
    (k_F_others : ckF_others K ⟨fixed, are_alike, pen, draw, pick, d_any, d_told, law, Paper, Denial, Freed, Torn, Needed, Dies, Lives, Both, Unmet, Deaths, iPaper, bPaper, ePaper, bDenial, counted, iFreed, iTorn, iNeeded, iDies, iLives, iBoth, iUnmet, iDeaths, cFreed, cTorn, cNeeded, cDies, cLives, cBoth, cUnmet, cDeaths, xFreed, xTorn, xNeeded, xDies, xLives, xBoth, xUnmet, xDeaths⟩ = true)
    (k_F_torn : ckF_torn K ⟨fixed, are_alike, pen, draw, pick, d_any, d_told, law, Paper, Denial, Freed, Torn, Needed, Dies, Lives, Both, Unmet, Deaths, iPaper, bPaper, ePaper, bDenial, counted, iFreed, iTorn, iNeeded, iDies, iLives, iBoth, iUnmet, iDeaths, cFreed, cTorn, cNeeded, cDies, cLives, cBoth, cUnmet, cDeaths, xFreed, xTorn, xNeeded, xDies, xLives, xBoth, xUnmet, xDeaths⟩ = true)
    (k_F_freed : ckF_freed K ⟨fixed, are_alike, pen, draw, pick, d_any, d_told, law, Paper, Denial, Freed, Torn, Needed, Dies, Lives, Both, Unmet, Deaths, iPaper, bPaper, ePaper, bDenial, counted, iFreed, iTorn, iNeeded, iDies, iLives, iBoth, iUnmet, iDeaths, cFreed, cTorn, cNeeded, cDies, cLives, cBoth, cUnmet, cDeaths, xFreed, xTorn, xNeeded, xDies, xLives, xBoth, xUnmet, xDeaths⟩ = true)
    (k_F_other : ckF_other K ⟨fixed, are_alike, pen, draw, pick, d_any, d_told, law, Paper, Denial, Freed, Torn, Needed, Dies, Lives, Both, Unmet, Deaths, iPaper, bPaper, ePaper, bDenial, counted, iFreed, iTorn, iNeeded, iDies, iLives, iBoth, iUnmet, iDeaths, cFreed, cTorn, cNeeded, cDies, cLives, cBoth, cUnmet, cDeaths, xFreed, xTorn, xNeeded, xDies, xLives, xBoth, xUnmet, xDeaths⟩ = true)
    (k_F_spots : ckF_spots K ⟨fixed, are_alike, pen, draw, pick, d_any, d_told, law, Paper, Denial, Freed, Torn, Needed, Dies, Lives, Both, Unmet, Deaths, iPaper, bPaper, ePaper, bDenial, counted, iFreed, iTorn, iNeeded, iDies, iLives, iBoth, iUnmet, iDeaths, cFreed, cTorn, cNeeded, cDies, cLives, cBoth, cUnmet, cDeaths, xFreed, xTorn, xNeeded, xDies, xLives, xBoth, xUnmet, xDeaths⟩ = true)
    (k_Inj : ckInj ⟨fixed, are_alike, pen, draw, pick, d_any, d_told, law, Paper, Denial, Freed, Torn, Needed, Dies, Lives, Both, Unmet, Deaths, iPaper, bPaper, ePaper, bDenial, counted, iFreed, iTorn, iNeeded, iDies, iLives, iBoth, iUnmet, iDeaths, cFreed, cTorn, cNeeded, cDies, cLives, cBoth, cUnmet, cDeaths, xFreed, xTorn, xNeeded, xDies, xLives, xBoth, xUnmet, xDeaths⟩ = true) :
    ∃ (fd : FuncData) (G : CG), (∀ (s : Shared) (u : Value), BindsTo s fd ⟨[u], []⟩ [("script", u)]) ∧ ∀ base : Heap, K.In base → base.Ns mainGlobals mg → FnAt callerA P w K mg base (L2.CX P w) fa fd ["script"] (spD K G m_law) := by
  have e := hfa.symm.trans (PySem.W.mg_of X G g_law)
  cases e
  have T : Txt P w K mg ⟨fixed, are_alike, pen, draw, pick, d_any, d_told, fa, Paper, Denial, Freed, Torn, Needed, Dies, Lives, Both, Unmet, Deaths, iPaper, bPaper, ePaper, bDenial, counted, iFreed, iTorn, iNeeded, iDies, iLives, iBoth, iUnmet, iDeaths, cFreed, cTorn, cNeeded, cDies, cLives, cBoth, cUnmet, cDeaths, xFreed, xTorn, xNeeded, xDies, xLives, xBoth, xUnmet, xDeaths⟩ := txt_mk X G g_fixed g_are_alike g_pen g_draw g_pick g_d_any g_d_told g_law g_Paper g_Denial g_Freed g_Torn g_Needed g_Dies g_Lives g_Both g_Unmet g_Deaths f_Paper_i f_Paper_b f_Paper_e f_Denial_b f_counted f_Freed f_Torn f_Needed f_Dies f_Lives f_Both f_Unmet f_Deaths F_fixed F_are_alike F_pen F_draw F_pick F_d_any F_d_told F_law F_Paper_i F_Paper_b F_Paper_e F_Denial_b F_counted C_Freed C_Torn C_Needed C_Dies C_Lives C_Both C_Unmet C_Deaths k_None k_Keep k_KN k_IS k_SB k_C_Freed k_C_Torn k_C_Needed k_C_Dies k_C_Lives k_C_Both k_C_Unmet k_C_Deaths k_Mk k_Mt k_E k_B k_F_word k_F_parts k_F_frees k_F_rows k_F_shape k_F_run k_F_others k_F_torn k_F_freed k_F_other k_F_spots k_Inj
  obtain ⟨fd, F⟩ := F_law
  have F0 := F
  obtain ⟨⟨oc, od, kV, doc, pm, an, cdv, ct, osl, rfl, lk, hcd⟩, -⟩ := F0
  exact ⟨_, GG ⟨fixed, are_alike, pen, draw, pick, d_any, d_told, fa, Paper, Denial, Freed, Torn, Needed, Dies, Lives, Both, Unmet, Deaths, iPaper, bPaper, ePaper, bDenial, counted, iFreed, iTorn, iNeeded, iDies, iLives, iBoth, iUnmet, iDeaths, cFreed, cTorn, cNeeded, cDies, cLives, cBoth, cUnmet, cDeaths, xFreed, xTorn, xNeeded, xDies, xLives, xBoth, xUnmet, xDeaths⟩, fun s u => .of_eq rfl, fun base _ _ => ok_law T F (by constructor <;> decide)⟩
end K45

set_option Elab.async false
set_option linter.all false
open PySem PySem.W PyProof.Rows
set_option maxRecDepth 100000 in
set_option maxHeartbeats 0 in
theorem PySem.Challenge.cw_freedbyhand_k45_papers_of_any_values_holds : PySem.Challenge.rw_freedbyhand_k45_papers_of_any_values.Holds := by
  w_on; o_law; k_head; (case hw => w_witness2)
  k_fill
  refine DL.walk_at (l := PySem.Challenge.rw_freedbyhand_k45_papers_of_any_values) (n := 63) (x := "script") (fn := K45.m_law) rfl (by decide) rfl (fun w h Y => PySem.W.kIn_of Y) ?F (fun ns _ => K45.law_true ns)
  case F =>
    intro w mg fa h KX G hmg
    refine' K45.fin KX G hmg ?g_fixed ?g_are_alike ?g_pen ?g_draw ?g_pick ?g_d_any ?g_d_told ?g_law ?g_Paper ?g_Denial ?g_Freed ?g_Torn ?g_Needed ?g_Dies ?g_Lives ?g_Both ?g_Unmet ?g_Deaths ?f_Paper_i ?f_Paper_b ?f_Paper_e ?f_Denial_b ?f_counted ?f_Freed ?f_Torn ?f_Needed ?f_Dies ?f_Lives ?f_Both ?f_Unmet ?f_Deaths ?F_fixed ?F_are_alike ?F_pen ?F_draw ?F_pick ?F_d_any ?F_d_told ?F_law ?F_Paper_i ?F_Paper_b ?F_Paper_e ?F_Denial_b ?F_counted ?C_Freed ?C_Torn ?C_Needed ?C_Dies ?C_Lives ?C_Both ?C_Unmet ?C_Deaths ?k_None ?k_Keep ?k_KN ?k_IS ?k_SB ?k_C_Freed ?k_C_Torn ?k_C_Needed ?k_C_Dies ?k_C_Lives ?k_C_Both ?k_C_Unmet ?k_C_Deaths ?k_Mk ?k_Mt ?k_E ?k_B ?k_F_word ?k_F_parts ?k_F_frees ?k_F_rows ?k_F_shape ?k_F_run ?k_F_others ?k_F_torn ?k_F_freed ?k_F_other ?k_F_spots ?k_Inj
    (case g_fixed => k_is)
    (case g_are_alike => k_is)
    (case g_pen => k_is)
    (case g_draw => k_is)
    (case g_pick => k_is)
    (case g_d_any => k_is)
    (case g_d_told => k_is)
    (case g_law => k_is)
    (case g_Paper => k_is)
    (case g_Denial => k_is)
    (case g_Freed => k_is)
    (case g_Torn => k_is)
    (case g_Needed => k_is)
    (case g_Dies => k_is)
    (case g_Lives => k_is)
    (case g_Both => k_is)
    (case g_Unmet => k_is)
    (case g_Deaths => k_is)
    (case f_Paper_i => k_is)
    (case f_Paper_b => k_is)
    (case f_Paper_e => k_is)
    (case f_Denial_b => k_is)
    (case f_counted => k_is)
    (case f_Freed => k_is)
    (case f_Torn => k_is)
    (case f_Needed => k_is)
    (case f_Dies => k_is)
    (case f_Lives => k_is)
    (case f_Both => k_is)
    (case f_Unmet => k_is)
    (case f_Deaths => k_is)
    (case F_fixed => refine' ⟨_, L2.fun_mk ?l ?c ?k⟩; (case l => k_is); (case c => k_is); (case k => k_is))
    (case F_are_alike => refine' ⟨_, L2.fun_mk ?l ?c ?k⟩; (case l => k_is); (case c => k_is); (case k => k_is))
    (case F_pen => refine' ⟨_, L2.fun_mk ?l ?c ?k⟩; (case l => k_is); (case c => k_is); (case k => k_is))
    (case F_draw => refine' ⟨_, L2.fun_mk ?l ?c ?k⟩; (case l => k_is); (case c => k_is); (case k => k_is))
    (case F_pick => refine' ⟨_, L2.fun_mk ?l ?c ?k⟩; (case l => k_is); (case c => k_is); (case k => k_is))
    (case F_d_any => refine' ⟨_, L2.fun_mk ?l ?c ?k⟩; (case l => k_is); (case c => k_is); (case k => k_is))
    (case F_d_told => refine' ⟨_, L2.fun_mk ?l ?c ?k⟩; (case l => k_is); (case c => k_is); (case k => k_is))
    (case F_law => refine' ⟨_, L2.fun_mk ?l ?c ?k⟩; (case l => k_is); (case c => k_is); (case k => k_is))
    (case F_Paper_i => refine' ⟨_, L2.fun_mk ?l ?c ?k⟩; (case l => k_is); (case c => k_is); (case k => k_is))
    (case F_Paper_b => refine' ⟨_, L2.fun_mk ?l ?c ?k⟩; (case l => k_is); (case c => k_is); (case k => k_is))
    (case F_Paper_e => refine' ⟨_, L2.fun_mk ?l ?c ?k⟩; (case l => k_is); (case c => k_is); (case k => k_is))
    (case F_Denial_b => refine' ⟨_, L2.fun_mk ?l ?c ?k⟩; (case l => k_is); (case c => k_is); (case k => k_is))
    (case F_counted => refine' ⟨_, L2.fun_mk ?l ?c ?k⟩; (case l => k_is); (case c => k_is); (case k => k_is))
    (case C_Freed => refine' DL.func_mk ?l ?c ?k; (case l => k_is); (case c => k_is); (case k => k_is))
    (case C_Torn => refine' DL.func_mk ?l ?c ?k; (case l => k_is); (case c => k_is); (case k => k_is))
    (case C_Needed => refine' DL.func_mk ?l ?c ?k; (case l => k_is); (case c => k_is); (case k => k_is))
    (case C_Dies => refine' DL.func_mk ?l ?c ?k; (case l => k_is); (case c => k_is); (case k => k_is))
    (case C_Lives => refine' DL.func_mk ?l ?c ?k; (case l => k_is); (case c => k_is); (case k => k_is))
    (case C_Both => refine' DL.func_mk ?l ?c ?k; (case l => k_is); (case c => k_is); (case k => k_is))
    (case C_Unmet => refine' DL.func_mk ?l ?c ?k; (case l => k_is); (case c => k_is); (case k => k_is))
    (case C_Deaths => refine' DL.func_mk ?l ?c ?k; (case l => k_is); (case c => k_is); (case k => k_is))
    (case k_None => kernel_rfl)
    (case k_Keep => kernel_rfl)
    (case k_KN => kernel_rfl)
    (case k_IS => kernel_rfl)
    (case k_SB => kernel_rfl)
    (case k_C_Freed => kernel_rfl)
    (case k_C_Torn => kernel_rfl)
    (case k_C_Needed => kernel_rfl)
    (case k_C_Dies => kernel_rfl)
    (case k_C_Lives => kernel_rfl)
    (case k_C_Both => kernel_rfl)
    (case k_C_Unmet => kernel_rfl)
    (case k_C_Deaths => kernel_rfl)
    (case k_Mk => kernel_rfl)
    (case k_Mt => kernel_rfl)
    (case k_E => kernel_rfl)
    (case k_B => kernel_rfl)
    (case k_F_word => kernel_rfl)
    (case k_F_parts => kernel_rfl)
    (case k_F_frees => kernel_rfl)
    (case k_F_rows => kernel_rfl)
    (case k_F_shape => kernel_rfl)
    (case k_F_run => kernel_rfl)
    (case k_F_others => kernel_rfl)
    (case k_F_torn => kernel_rfl)
    (case k_F_freed => kernel_rfl)
    (case k_F_other => kernel_rfl)
    (case k_F_spots => kernel_rfl)
    (case k_Inj => kernel_rfl)
#print axioms PySem.Challenge.cw_freedbyhand_k45_papers_of_any_values_holds
