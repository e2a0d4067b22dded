import PyProof.Rows.All
import Wide.All
import OpenK.AllK
import Wide.FinOn
import HandS.ForMost
import HandS.ForExc
import HandS.ExcInit
import HandS.Walk
import HandS.Star
import HandS.Nested
import HandS.ClsMeth
import KE.KExcSuper
import HandS.Defaults
import HandS.Wide
import HandS.IsInst
import KE.KExcIs
import HandS.Zip
import PyProof.InstEq
import KE.KTypeName
import PyProof.ReprRoads
import HandS.Ends
import PySem.Challenge.RW_freedbyhand_k02_errors_and_papers
set_option Elab.async false
set_option linter.all false
set_option maxRecDepth 100000
/-! # DCore: python values as Lean data -/
namespace DL
open PySem PySem.Spec PyProof.Rows L2

/-- a python value: tuples, frozen lists and frozen instances by content; what changes by a number of the store -/
inductive D where
  | non
  | bl (b : Bool)
  | int (i : Int)
  | str (x : Str)
  | tup (l : List D)
  | lst (l : List D)
  | rdl (l : List D)
  | dic (ks : List (Key × D))
  | ins (c : String) (fs : List (Str × D))
  | exn (c : String) (fs : List (Str × D))
  | cls (c : String)
  | ty (n : String)
  | ref (i : Nat)

/-- what the store holds -/
inductive MO where
  | lst (l : List D)
  | dic (ks : List (Key × D))
  | ins (c : String) (fs : List (Str × D))

structure Sto where
  n : Nat
  m : Nat → Option MO
def Sto.set (st : Sto) (i : Nat) (o : MO) : Sto := ⟨st.n, fun j => if j = i then some o else st.m j⟩
def Sto.del (st : Sto) (i : Nat) : Sto := ⟨st.n, fun j => if j = i then none else st.m j⟩
def Sto.new (st : Sto) (o : MO) : Sto := ⟨st.n + 1, fun j => if j = st.n then some o else st.m j⟩

/-- where the store's numbers lie; what is frozen; what is held aside; the heap -/
structure Wd where
  ρ : Nat → Option Addr
  F : Addr → Prop
  T : Addr → Prop
  H : Hp
def Wd.put (W : Wd) (p : Addr) (o : HO) : Wd := ⟨W.ρ, fun a => W.F a ∨ a = p, W.T, upd W.H p o⟩

structure Wd.le (W W' : Wd) : Prop where
  r : ∀ i a, W.ρ i = some a → W'.ρ i = some a
  f : ∀ a, W.F a → W'.F a
  h : ∀ a, W.F a → W'.H a = W.H a
  t : W'.T = W.T
  k : ∀ a, W.T a → W'.H a = W.H a
theorem Wd.le.rfl' {W : Wd} : W.le W := ⟨fun _ _ h => h, fun _ h => h, fun _ _ => rfl, rfl, fun _ _ => rfl⟩
theorem Wd.le.trans {W W1 W2 : Wd} (a : W.le W1) (b : W1.le W2) : W.le W2 :=
  ⟨fun i x h => b.r i x (a.r i x h), fun x h => b.f x (a.f x h), fun x h => (b.h x (a.f x h)).trans (a.h x h), b.t.trans a.t, fun x h => (b.k x (by rw [a.t]; exact h)).trans (a.k x h)⟩
/-- an object of the store, or one held aside, is frozen -/
def Wd.frz (W : Wd) (a : Addr) : Wd := ⟨W.ρ, fun b => W.F b ∨ b = a, W.T, W.H⟩
/-- what the values hang on -/
structure Wd.lf (W W' : Wd) : Prop where
  r : ∀ i a, W.ρ i = some a → W'.ρ i = some a
  f : ∀ a, W.F a → W'.F a
  h : ∀ a, W.F a → W'.H a = W.H a
theorem Wd.le.lf {W W' : Wd} (l : W.le W') : W.lf W' := ⟨l.r, l.f, l.h⟩
theorem Wd.lf.trans {W W1 W2 : Wd} (a : W.lf W1) (b : W1.lf W2) : W.lf W2 :=
  ⟨fun i x h => b.r i x (a.r i x h), fun x h => b.f x (a.f x h), fun x h => (b.h x (a.f x h)).trans (a.h x h)⟩
/-- more, or less, held aside -/
def Wd.hold (W : Wd) (T : Addr → Prop) : Wd := ⟨W.ρ, W.F, T, W.H⟩
theorem Wd.le.unhold {W W' : Wd} {T : Addr → Prop} (l : (W.hold T).le W') (h : ∀ a, W.T a → T a) : W.le (W'.hold W.T) :=
  ⟨l.r, l.f, l.h, rfl, fun a q => l.k a (h a q)⟩

/-- where the classes of the text lie -/
abbrev CG := String → Option Addr

mutual
inductive RelD (K : PySem.W.Frag) (G : CG) (W : Wd) : D → V → Prop
  | non : RelD K G W .non .non
  | bl (b : Bool) : RelD K G W (.bl b) (.bl b)
  | int (i : Int) : RelD K G W (.int i) (.int i)
  | str (x : Str) : RelD K G W (.str x) (.str x)
  | tup {ds : List D} {vs : List V} {a : Addr} : W.F a → W.H a = some (.tup vs) → RelDs K G W ds vs → RelD K G W (.tup ds) (.ref a)
  | tupK {ds : List D} {vs : List V} {a : Addr} : (∀ H, SqT K H a vs) → RelDs K G W ds vs → RelD K G W (.tup ds) (.ref a)
  | lst {ds : List D} {vs : List V} {a : Addr} : W.F a → W.H a = some (.lst vs) → RelDs K G W ds vs → RelD K G W (.lst ds) (.ref a)
  | rdl {ds : List D} {vs : List V} {a : Addr} : W.F a → Rd W.H a (.lst vs) → RelDs K G W ds vs → RelD K G W (.rdl ds) (.ref a)
  | rdlK {ds : List D} {vs : List V} {a : Addr} : (∀ H, SqL K H a vs) → RelDs K G W ds vs → RelD K G W (.rdl ds) (.ref a)
  | ins {c : String} {fs : List (Str × D)} {gs : List (Str × V)} {a C dx : Addr} : W.F a → G c = some C → W.H a = some (.ins C dx gs) → RelFs K G W fs gs → RelD K G W (.ins c fs) (.ref a)
  | dic {ks : List (Key × D)} {gs : List (Key × V)} {a : Addr} : W.F a → W.H a = some (.dK gs) → RelKs K G W ks gs → RelD K G W (.dic ks) (.ref a)
  | exn {c : String} {fs : List (Str × D)} {gs : List (Str × V)} {a C dx : Addr} : W.F a → W.F dx → G c = some C → W.H a = some (exo a C (some dx)) → W.H dx = some (exd dx gs) → RelFs K G W fs gs → RelD K G W (.exn c fs) (.ref a)
  | cls {c : String} {C : Addr} : G c = some C → RelD K G W (.cls c) (.ref C)
  | ty (n : String) : RelD K G W (.ty n) (.ty n)
  | ref {i : Nat} {a : Addr} : W.ρ i = some a → RelD K G W (.ref i) (.ref a)
inductive RelDs (K : PySem.W.Frag) (G : CG) (W : Wd) : List D → List V → Prop
  | nil : RelDs K G W [] []
  | cons {d : D} {ds : List D} {v : V} {vs : List V} : RelD K G W d v → RelDs K G W ds vs → RelDs K G W (d :: ds) (v :: vs)
inductive RelFs (K : PySem.W.Frag) (G : CG) (W : Wd) : List (Str × D) → List (Str × V) → Prop
  | nil : RelFs K G W [] []
  | cons {f : Str} {d : D} {fs : List (Str × D)} {v : V} {gs : List (Str × V)} : RelD K G W d v → RelFs K G W fs gs → RelFs K G W ((f, d) :: fs) ((f, v) :: gs)
inductive RelKs (K : PySem.W.Frag) (G : CG) (W : Wd) : List (Key × D) → List (Key × V) → Prop
  | nil : RelKs K G W [] []
  | cons {f : Key} {d : D} {fs : List (Key × D)} {v : V} {gs : List (Key × V)} : RelD K G W d v → RelKs K G W fs gs → RelKs K G W ((f, d) :: fs) ((f, v) :: gs)
end

section
variable {K : PySem.W.Frag} {G : CG} {W W' : Wd}
mutual
theorem RelD.re (lr : ∀ i a, W.ρ i = some a → W'.ρ i = some a) (lf : ∀ a, W.F a → W'.F a) (lh : ∀ a, W.F a → W'.H a = W.H a) : ∀ {d : D} {v : V}, RelD K G W d v → RelD K G W' d v
  | _, _, .non => .non
  | _, _, .bl b => .bl b
  | _, _, .int i => .int i
  | _, _, .str x => .str x
  | _, _, .tup hf hr hs => .tup (lf _ hf) ((lh _ hf).trans hr) (RelDs.re lr lf lh hs)
  | _, _, .rdl hf hr hs => .rdl (lf _ hf) (by unfold Rd at *; rw [lh _ hf]; exact hr) (RelDs.re lr lf lh hs)
  | _, _, .rdlK hr hs => .rdlK hr (RelDs.re lr lf lh hs)
  | _, _, .tupK hr hs => .tupK hr (RelDs.re lr lf lh hs)
  | _, _, .lst hf hr hs => .lst (lf _ hf) ((lh _ hf).trans hr) (RelDs.re lr lf lh hs)
  | _, _, .ins hf hc hr hs => .ins (lf _ hf) hc (by rw [lh _ hf]; exact hr) (RelFs.re lr lf lh hs)
  | _, _, .dic hf hr hs => .dic (lf _ hf) ((lh _ hf).trans hr) (RelKs.re lr lf lh hs)
  | _, _, .exn hf hd hc hr hx hs => .exn (lf _ hf) (lf _ hd) hc (by rw [lh _ hf]; exact hr) (by rw [lh _ hd]; exact hx) (RelFs.re lr lf lh hs)
  | _, _, .cls h => .cls h
  | _, _, .ty n => .ty n
  | _, _, .ref h => .ref (lr _ _ h)
theorem RelDs.re (lr : ∀ i a, W.ρ i = some a → W'.ρ i = some a) (lf : ∀ a, W.F a → W'.F a) (lh : ∀ a, W.F a → W'.H a = W.H a) : ∀ {ds : List D} {vs : List V}, RelDs K G W ds vs → RelDs K G W' ds vs
  | _, _, .nil => .nil
  | _, _, .cons h t => .cons (RelD.re lr lf lh h) (RelDs.re lr lf lh t)
theorem RelFs.re (lr : ∀ i a, W.ρ i = some a → W'.ρ i = some a) (lf : ∀ a, W.F a → W'.F a) (lh : ∀ a, W.F a → W'.H a = W.H a) : ∀ {fs : List (Str × D)} {gs : List (Str × V)}, RelFs K G W fs gs → RelFs K G W' fs gs
  | _, _, .nil => .nil
  | _, _, .cons h t => .cons (RelD.re lr lf lh h) (RelFs.re lr lf lh t)
theorem RelKs.re (lr : ∀ i a, W.ρ i = some a → W'.ρ i = some a) (lf : ∀ a, W.F a → W'.F a) (lh : ∀ a, W.F a → W'.H a = W.H a) : ∀ {fs : List (Key × D)} {gs : List (Key × V)}, RelKs K G W fs gs → RelKs K G W' fs gs
  | _, _, .nil => .nil
  | _, _, .cons h t => .cons (RelD.re lr lf lh h) (RelKs.re lr lf lh t)
end
theorem RelD.up (l : W.le W') {d : D} {v : V} (r : RelD K G W d v) : RelD K G W' d v := r.re l.r l.f l.h
theorem RelDs.up (l : W.le W') {ds : List D} {vs : List V} (r : RelDs K G W ds vs) : RelDs K G W' ds vs := r.re l.r l.f l.h
theorem RelFs.up (l : W.le W') {fs : List (Str × D)} {gs : List (Str × V)} (r : RelFs K G W fs gs) : RelFs K G W' fs gs := r.re l.r l.f l.h
theorem RelKs.up (l : W.le W') {fs : List (Key × D)} {gs : List (Key × V)} (r : RelKs K G W fs gs) : RelKs K G W' fs gs := r.re l.r l.f l.h
theorem RelKs.uf (l : W.lf W') {fs : List (Key × D)} {gs : List (Key × V)} (r : RelKs K G W fs gs) : RelKs K G W' fs gs := r.re l.r l.f l.h
theorem RelD.uf (l : W.lf W') {d : D} {v : V} (r : RelD K G W d v) : RelD K G W' d v := r.re l.r l.f l.h
theorem RelDs.uf (l : W.lf W') {ds : List D} {vs : List V} (r : RelDs K G W ds vs) : RelDs K G W' ds vs := r.re l.r l.f l.h
theorem RelFs.uf (l : W.lf W') {fs : List (Str × D)} {gs : List (Str × V)} (r : RelFs K G W fs gs) : RelFs K G W' fs gs := r.re l.r l.f l.h
theorem RelDs.length : ∀ {ds : List D} {vs : List V}, RelDs K G W ds vs → ds.length = vs.length
  | _, _, .nil => rfl
  | _, _, .cons _ t => by simp [RelDs.length t]
theorem RelDs.get : ∀ {ds : List D} {vs : List V} {i : Nat} {d : D}, RelDs K G W ds vs → ds[i]? = some d → ∃ v, vs[i]? = some v ∧ RelD K G W d v
  | _, _, _, _, .nil, e => by simp at e
  | _, _, 0, _, .cons r _, e => by simp at e; subst e; exact ⟨_, rfl, r⟩
  | _, _, i + 1, d, .cons _ t, e => by
    obtain ⟨v, h1, h2⟩ := RelDs.get (i := i) (d := d) t (by simpa using e)
    exact ⟨v, by simpa using h1, h2⟩
theorem RelDs.getV : ∀ {ds : List D} {vs : List V} {i : Nat} {v : V}, RelDs K G W ds vs → vs[i]? = some v → ∃ d, ds[i]? = some d ∧ RelD K G W d v
  | _, _, _, _, .nil, e => by simp at e
  | _, _, 0, _, .cons r _, e => by simp at e; subst e; exact ⟨_, rfl, r⟩
  | _, _, i + 1, d, .cons _ t, e => by
    obtain ⟨v, h1, h2⟩ := RelDs.getV (i := i) (v := d) t (by simpa using e)
    exact ⟨v, by simpa using h1, h2⟩
theorem RelDs.append : ∀ {ds es : List D} {vs us : List V}, RelDs K G W ds vs → RelDs K G W es us → RelDs K G W (ds ++ es) (vs ++ us)
  | _, _, _, _, .nil, s => s
  | _, _, _, _, .cons r t, s => .cons r (RelDs.append t s)
theorem RelDs.take : ∀ {ds : List D} {vs : List V} (n : Nat), RelDs K G W ds vs → RelDs K G W (ds.take n) (vs.take n)
  | _, _, 0, _ => .nil
  | _, _, _ + 1, .nil => .nil
  | _, _, n + 1, .cons r t => .cons r (RelDs.take n t)
theorem RelDs.drop : ∀ {ds : List D} {vs : List V} (n : Nat), RelDs K G W ds vs → RelDs K G W (ds.drop n) (vs.drop n)
  | _, _, 0, r => r
  | _, _, _ + 1, .nil => .nil
  | _, _, n + 1, .cons _ t => RelDs.drop n t
theorem RelDs.set {d : D} {v : V} (r : RelD K G W d v) : ∀ {ds : List D} {vs : List V} (i : Nat), RelDs K G W ds vs → RelDs K G W (ds.set i d) (vs.set i v)
  | _, _, _, .nil => .nil
  | _, _, 0, .cons _ t => .cons r t
  | _, _, i + 1, .cons q t => .cons q (RelDs.set r i t)
theorem RelFs.look : ∀ {fs : List (Str × D)} {gs : List (Str × V)} {f : Str} {d : D}, RelFs K G W fs gs → fs.lookup f = some d → ∃ v, gs.lookup f = some v ∧ RelD K G W d v
  | _, _, _, _, .nil, e => by simp at e
  | _, _, f, d, .cons (f := g) r t, e => by
    rw [List.lookup_cons] at e
    rw [List.lookup_cons]
    cases hb : f == g with
    | true => rw [hb] at e; simp at e; subst e; exact ⟨_, rfl, r⟩
    | false => rw [hb] at e; exact RelFs.look t e
theorem RelFs.look_none : ∀ {fs : List (Str × D)} {gs : List (Str × V)} {f : Str}, RelFs K G W fs gs → fs.lookup f = none → gs.lookup f = none
  | _, _, _, .nil, e => rfl
  | _, _, f, .cons (f := g) r t, e => by
    rw [List.lookup_cons] at e
    rw [List.lookup_cons]
    cases hb : f == g with
    | true => rw [hb] at e; simp at e
    | false => rw [hb] at e; exact RelFs.look_none t e
theorem RelFs.length : ∀ {fs : List (Str × D)} {gs : List (Str × V)}, RelFs K G W fs gs → fs.length = gs.length
  | _, _, .nil => rfl
  | _, _, .cons _ t => by simp [RelFs.length t]
end

/-- o.f = d among the attributes -/
def putD (f : Str) (d : D) : List (Str × D) → List (Str × D)
  | [] => [(f, d)]
  | (g, e) :: r => if g = f then (g, d) :: r else (g, e) :: putD f d r

/-- the store lies in the heap -/
inductive RelM (K : PySem.W.Frag) (G : CG) (W : Wd) : MO → Addr → Prop
  | dic {ks : List (Key × D)} {gs : List (Key × V)} {a : Addr} : W.H a = some (.dK gs) → RelKs K G W ks gs → RelM K G W (.dic ks) a
  | lst {ds : List D} {vs : List V} {a : Addr} : W.H a = some (.lst vs) → RelDs K G W ds vs → RelM K G W (.lst ds) a
  | ins {c : String} {fs : List (Str × D)} {gs : List (Str × V)} {a C dx : Addr} : G c = some C → W.H a = some (.ins C dx gs) → RelFs K G W fs gs → RelM K G W (.ins c fs) a
structure Abs (K : PySem.W.Frag) (G : CG) (W : Wd) (st : Sto) : Prop where
  fz : ∀ a, W.F a ∨ W.T a → ∃ o, W.H a = some o
  ft : ∀ a, W.F a → ¬ W.T a
  obj : ∀ i o, st.m i = some o → ∃ a, W.ρ i = some a ∧ ¬ (W.F a ∨ W.T a) ∧ RelM K G W o a
  inj : ∀ i j o u a, st.m i = some o → st.m j = some u → W.ρ i = some a → W.ρ j = some a → i = j
  new : ∀ i, st.n ≤ i → W.ρ i = none
theorem RelM.some {K : PySem.W.Frag} {G : CG} {W : Wd} {o : MO} {a : Addr} (r : RelM K G W o a) : ∃ u, W.H a = Option.some u := by
  cases r with
  | lst h _ => exact ⟨_, h⟩
  | dic h _ => exact ⟨_, h⟩
  | ins _ h _ => exact ⟨_, h⟩
theorem Abs.lt {K : PySem.W.Frag} {G : CG} {W : Wd} {st : Sto} (A : Abs K G W st) {i : Nat} {o : MO} (h : st.m i = some o) : i < st.n := by
  obtain ⟨a, e, _⟩ := A.obj i o h
  refine Nat.lt_of_not_le fun z => ?_
  rw [A.new i z] at e; cases e

section
variable {K : PySem.W.Frag} {G : CG} {W W' : Wd} {st st' : Sto} {p : Addr} {o : HO}
theorem Abs.old (A : Abs K G W st) (hp : W.H p = none) {a : Addr} (h : W.F a ∨ W.T a) : upd W.H p o a = W.H a := by
  obtain ⟨u, e⟩ := A.fz a h
  exact upd_ne (ne_of_none e hp)
theorem Wd.le_put (A : Abs K G W st) (hp : W.H p = none) : W.le (W.put p o) :=
  ⟨fun _ _ h => h, fun _ h => .inl h, fun a h => A.old hp (.inl h), rfl, fun a h => A.old hp (.inr h)⟩
/-- a new frozen object -/
theorem Abs.put (A : Abs K G W st) (hp : W.H p = none) : Abs K G (W.put p o) st := by
  have l := Wd.le_put (o := o) A hp
  have nT : ¬ W.T p := fun z => by
    obtain ⟨u, e⟩ := A.fz p (.inr z)
    rw [hp] at e; cases e
  refine ⟨fun a h => ?_, fun a h => ?_, fun i m h => ?_, A.inj, A.new⟩
  · have h' : (W.F a ∨ a = p) ∨ W.T a := h
    rcases h' with (h | rfl) | h
    · obtain ⟨u, e⟩ := A.fz a (.inl h)
      exact ⟨u, (upd_ne (ne_of_none e hp)).trans e⟩
    · exact ⟨o, upd_same⟩
    · obtain ⟨u, e⟩ := A.fz a (.inr h)
      exact ⟨u, (upd_ne (ne_of_none e hp)).trans e⟩
  · have h' : W.F a ∨ a = p := h
    rcases h' with h | rfl
    · exact A.ft a h
    · exact nT
  · obtain ⟨a, e, nf, r⟩ := A.obj i m h
    obtain ⟨u, eu⟩ := r.some
    have na : a ≠ p := ne_of_none eu hp
    refine ⟨a, e, fun z => ?_, ?_⟩
    · have z' : (W.F a ∨ a = p) ∨ W.T a := z
      rcases z' with (z | z) | z
      · exact nf (.inl z)
      · exact na z
      · exact nf (.inr z)
    cases r with
    | lst h1 h2 => exact .lst ((upd_ne na).trans h1) (h2.up l)
    | dic h1 h2 => exact .dic ((upd_ne na).trans h1) (h2.up l)
    | ins h0 h1 h2 => exact .ins h0 ((upd_ne na).trans h1) (h2.up l)
/-- another object, neither frozen nor the store's, may come at a free place -/
theorem Abs.aside (A : Abs K G W st) (hp : W.H p = none) : Abs K G ⟨W.ρ, W.F, W.T, upd W.H p o⟩ st ∧ W.le ⟨W.ρ, W.F, W.T, upd W.H p o⟩ := by
  have l : W.le ⟨W.ρ, W.F, W.T, upd W.H p o⟩ := ⟨fun _ _ h => h, fun _ h => h, fun a h => A.old hp (.inl h), rfl, fun a h => A.old hp (.inr h)⟩
  refine ⟨⟨fun a h => ?_, A.ft, fun i m h => ?_, A.inj, A.new⟩, l⟩
  · obtain ⟨u, e⟩ := A.fz a h
    exact ⟨u, (upd_ne (ne_of_none e hp)).trans e⟩
  · obtain ⟨a, e, nf, r⟩ := A.obj i m h
    obtain ⟨u, eu⟩ := r.some
    have na : a ≠ p := ne_of_none eu hp
    refine ⟨a, e, nf, ?_⟩
    cases r with
    | lst h1 h2 => exact .lst ((upd_ne na).trans h1) (h2.up l)
    | dic h1 h2 => exact .dic ((upd_ne na).trans h1) (h2.up l)
    | ins h0 h1 h2 => exact .ins h0 ((upd_ne na).trans h1) (h2.up l)
/-- .. and be held aside -/
theorem Abs.keepT (A : Abs K G W st) {T : Addr → Prop} (h1 : ∀ a, T a → ∃ o, W.H a = some o) (h2 : ∀ a, T a → ¬ W.F a) (h3 : ∀ i o a, st.m i = some o → W.ρ i = some a → ¬ T a) : Abs K G (W.hold T) st := by
  refine ⟨fun a h => h.elim (fun h => A.fz a (.inl h)) (h1 a), fun a h z => h2 a z h, fun i m h => ?_, A.inj, A.new⟩
  obtain ⟨a, e, nf, r⟩ := A.obj i m h
  refine ⟨a, e, fun z => z.elim (fun z => nf (.inl z)) (h3 i m a h e), ?_⟩
  have up : ∀ {ds vs}, RelDs K G W ds vs → RelDs K G (W.hold T) ds vs := fun r => r.re (W := W) (W' := W.hold T) (fun _ _ h => h) (fun _ h => h) (fun _ _ => rfl)
  have upF : ∀ {ds vs}, RelFs K G W ds vs → RelFs K G (W.hold T) ds vs := fun r => r.re (W := W) (W' := W.hold T) (fun _ _ h => h) (fun _ h => h) (fun _ _ => rfl)
  have upK : ∀ {ds vs}, RelKs K G W ds vs → RelKs K G (W.hold T) ds vs := fun r => r.re (W := W) (W' := W.hold T) (fun _ _ h => h) (fun _ h => h) (fun _ _ => rfl)
  cases r with
  | lst h1 h2 => exact .lst h1 (up h2)
  | dic h1 h2 => exact .dic h1 (upK h2)
  | ins h0 h1 h2 => exact .ins h0 h1 (upF h2)
/-- less is held aside -/
theorem Abs.drop (A : Abs K G W st) {T : Addr → Prop} (h : ∀ a, T a → W.T a) : Abs K G (W.hold T) st := by
  refine ⟨fun a z => A.fz a (z.imp id (h a)), fun a z t => A.ft a z (h a t), fun i m z => ?_, A.inj, A.new⟩
  obtain ⟨a, e, nf, r⟩ := A.obj i m z
  have l : W.lf (W.hold T) := ⟨fun _ _ h => h, fun _ h => h, fun _ _ => rfl⟩
  refine ⟨a, e, fun z => nf (z.imp id (h a)), ?_⟩
  cases r with
  | lst h1 h2 => exact .lst h1 (h2.uf l)
  | dic h1 h2 => exact .dic h1 (h2.uf l)
  | ins h0 h1 h2 => exact .ins h0 h1 (h2.uf l)
/-- what is held aside is written -/
theorem Abs.wrT (A : Abs K G W st) {p : Addr} {o : HO} (hp : W.T p) : Abs K G ⟨W.ρ, W.F, W.T, upd W.H p o⟩ st := by
  have l : W.lf ⟨W.ρ, W.F, W.T, upd W.H p o⟩ := ⟨fun _ _ h => h, fun _ h => h, fun a h => upd_ne fun (z : a = p) => A.ft a h (by rw [z]; exact hp)⟩
  refine ⟨fun a h => ?_, A.ft, fun i m h => ?_, A.inj, A.new⟩
  · by_cases hap : a = p
    · exact ⟨o, by rw [hap]; exact upd_same⟩
    · obtain ⟨u, e⟩ := A.fz a h
      exact ⟨u, (upd_ne hap).trans e⟩
  · obtain ⟨a, e, nf, r⟩ := A.obj i m h
    have na : a ≠ p := fun z => nf (.inr (by rw [z]; exact hp))
    refine ⟨a, e, nf, ?_⟩
    cases r with
    | lst h1 h2 => exact .lst ((upd_ne na).trans h1) (h2.uf l)
    | dic h1 h2 => exact .dic ((upd_ne na).trans h1) (h2.uf l)
    | ins h0 h1 h2 => exact .ins h0 ((upd_ne na).trans h1) (h2.uf l)
/-- what was held aside is frozen -/
theorem Abs.frzT (A : Abs K G W st) {p : Addr} {T : Addr → Prop} (hp : W.T p) (h : ∀ a, T a → W.T a) (hn : ¬ T p) : Abs K G ((W.hold T).frz p) st := by
  have l : W.lf ((W.hold T).frz p) := ⟨fun _ _ h => h, fun _ h => .inl h, fun _ _ => rfl⟩
  refine ⟨fun a z => ?_, fun a z t => ?_, fun i m z => ?_, A.inj, A.new⟩
  · have z' : (W.F a ∨ a = p) ∨ T a := z
    rcases z' with (z | rfl) | z
    · exact A.fz a (.inl z)
    · exact A.fz a (.inr hp)
    · exact A.fz a (.inr (h a z))
  · have z' : W.F a ∨ a = p := z
    rcases z' with z | rfl
    · exact A.ft a z (h a t)
    · exact hn t
  · obtain ⟨a, e, nf, r⟩ := A.obj i m z
    refine ⟨a, e, fun z => ?_, ?_⟩
    · have z' : (W.F a ∨ a = p) ∨ T a := z
      rcases z' with (z | rfl) | z
      · exact nf (.inl z)
      · exact nf (.inr hp)
      · exact nf (.inr (h a z))
    cases r with
    | lst h1 h2 => exact .lst h1 (h2.uf l)
    | dic h1 h2 => exact .dic h1 (h2.uf l)
    | ins h0 h1 h2 => exact .ins h0 h1 (h2.uf l)
/-- a new object of the store -/
def Wd.add (W : Wd) (n : Nat) (p : Addr) (o : HO) : Wd := ⟨fun i => if i = n then some p else W.ρ i, W.F, W.T, upd W.H p o⟩
theorem Wd.le_add (A : Abs K G W st) (hp : W.H p = none) : W.le (W.add st.n p o) :=
  ⟨fun i a h => by
    show (if i = st.n then some p else W.ρ i) = some a
    rw [if_neg (fun z => by rw [z, A.new st.n (Nat.le_refl _)] at h; cases h)]; exact h, fun _ h => h, fun a h => A.old hp (.inl h), rfl, fun a h => A.old hp (.inr h)⟩
theorem Abs.add (A : Abs K G W st) (hp : W.H p = none) {m : MO} (r : RelM K G (W.add st.n p o) m p) : Abs K G (W.add st.n p o) (st.new m) := by
  have l := Wd.le_add (o := o) A hp
  refine ⟨fun a h => ?_, A.ft, fun i u h => ?_, fun i j u v a h1 h2 e1 e2 => ?_, fun i h => ?_⟩
  · obtain ⟨u, e⟩ := A.fz a h
    exact ⟨u, (upd_ne (ne_of_none e hp)).trans e⟩
  · have h' : (if i = st.n then some m else st.m i) = some u := h
    by_cases hi : i = st.n
    · rw [if_pos hi] at h'
      cases h'
      refine ⟨p, (by show (if i = st.n then some p else W.ρ i) = some p; rw [if_pos hi]), fun z => ?_, r⟩
      obtain ⟨u, e⟩ := A.fz p z
      rw [hp] at e; cases e
    · rw [if_neg hi] at h'
      obtain ⟨a, e, nf, r'⟩ := A.obj i u h'
      obtain ⟨w, ew⟩ := r'.some
      have na : a ≠ p := ne_of_none ew hp
      refine ⟨a, (by show (if i = st.n then some p else W.ρ i) = some a; rw [if_neg hi]; exact e), nf, ?_⟩
      cases r' with
      | lst h1 h2 => exact .lst ((upd_ne na).trans h1) (h2.up l)
      | dic h1 h2 => exact .dic ((upd_ne na).trans h1) (h2.up l)
      | ins h0 h1 h2 => exact .ins h0 ((upd_ne na).trans h1) (h2.up l)
  · have h1' : (if i = st.n then some m else st.m i) = some u := h1
    have h2' : (if j = st.n then some m else st.m j) = some v := h2
    have e1' : (if i = st.n then some p else W.ρ i) = some a := e1
    have e2' : (if j = st.n then some p else W.ρ j) = some a := e2
    have old : ∀ {k : Nat} {q : MO}, st.m k = some q → W.ρ k = some p → False := fun {k q} hk hr => by
      obtain ⟨b, eb, _, rb⟩ := A.obj k q hk
      rw [hr] at eb
      cases eb
      obtain ⟨w, ew⟩ := rb.some
      rw [hp] at ew; cases ew
    by_cases hi : i = st.n <;> by_cases hj : j = st.n
    · rw [hi, hj]
    · rw [if_pos hi] at e1'
      cases e1'
      rw [if_neg hj] at h2' e2'
      exact (old h2' e2').elim
    · rw [if_pos hj] at e2'
      cases e2'
      rw [if_neg hi] at h1' e1'
      exact (old h1' e1').elim
    · rw [if_neg hi] at h1' e1'
      rw [if_neg hj] at h2' e2'
      exact A.inj i j u v a h1' h2' e1' e2'
  · have hi : st.n + 1 ≤ i := h
    show (if i = st.n then some p else W.ρ i) = none
    rw [if_neg (by omega)]
    exact A.new i (by omega)
/-- an object of the store is written -/
def Wd.wr (W : Wd) (a : Addr) (o : HO) : Wd := ⟨W.ρ, W.F, W.T, upd W.H a o⟩
theorem Wd.le_wr {a : Addr} (nf : ¬ (W.F a ∨ W.T a)) : W.le (W.wr a o) :=
  ⟨fun _ _ h => h, fun _ h => h, fun b h => upd_ne fun (z : b = a) => nf (by rw [← z]; exact .inl h), rfl, fun b h => upd_ne fun (z : b = a) => nf (by rw [← z]; exact .inr h)⟩
theorem Abs.wr (A : Abs K G W st) {i : Nat} {m m' : MO} {a : Addr} (hm : st.m i = some m) (hr : W.ρ i = some a) (r : RelM K G (W.wr a o) m' a) : Abs K G (W.wr a o) (st.set i m') := by
  obtain ⟨a', ea, nf, _⟩ := A.obj i m hm
  rw [hr] at ea
  cases ea
  have l := Wd.le_wr (o := o) nf
  refine ⟨fun b h => ?_, A.ft, fun j u h => ?_, fun j k u v b h1 h2 e1 e2 => ?_, A.new⟩
  · obtain ⟨u, e⟩ := A.fz b h
    exact ⟨u, (upd_ne fun (z : b = a) => nf (by rw [← z]; exact h)).trans e⟩
  · have h' : (if j = i then some m' else st.m j) = some u := h
    by_cases hj : j = i
    · rw [if_pos hj] at h'
      cases h'
      exact ⟨a, by rw [hj]; exact hr, nf, r⟩
    · rw [if_neg hj] at h'
      obtain ⟨b, e, nb, r'⟩ := A.obj j u h'
      have na : b ≠ a := fun z => hj (A.inj j i u m a h' hm (z ▸ e) hr)
      refine ⟨b, e, nb, ?_⟩
      cases r' with
      | lst h1 h2 => exact .lst ((upd_ne na).trans h1) (h2.up l)
      | dic h1 h2 => exact .dic ((upd_ne na).trans h1) (h2.up l)
      | ins h0 h1 h2 => exact .ins h0 ((upd_ne na).trans h1) (h2.up l)
  · have h1' : (if j = i then some m' else st.m j) = some u := h1
    have h2' : (if k = i then some m' else st.m k) = some v := h2
    have old : ∀ {k : Nat} {u : MO}, (if k = i then some m' else st.m k) = some u → ∃ u', st.m k = some u' := fun {k u} h => by
      by_cases hk : k = i
      · exact ⟨m, by rw [hk]; exact hm⟩
      · rw [if_neg hk] at h; exact ⟨u, h⟩
    obtain ⟨u', q1⟩ := old h1'
    obtain ⟨v', q2⟩ := old h2'
    exact A.inj j k u' v' b q1 q2 e1 e2
/-- an object of the store is frozen -/
theorem Wd.le_frz {a : Addr} : W.le (W.frz a) := ⟨fun _ _ h => h, fun _ h => .inl h, fun _ _ => rfl, rfl, fun _ _ => rfl⟩
theorem Abs.frz (A : Abs K G W st) {i : Nat} {m : MO} {a : Addr} (hm : st.m i = some m) (hr : W.ρ i = some a) : Abs K G (W.frz a) (st.del i) := by
  have l := Wd.le_frz (W := W) (a := a)
  obtain ⟨a', ea, nfa, ra⟩ := A.obj i m hm
  rw [hr] at ea
  cases ea
  refine ⟨fun b h => ?_, fun b h => ?_, fun j u h => ?_, fun j k u v b h1 h2 e1 e2 => ?_, A.new⟩
  · have h' : (W.F b ∨ b = a) ∨ W.T b := h
    rcases h' with (h | rfl) | h
    · exact A.fz b (.inl h)
    · exact ra.some
    · exact A.fz b (.inr h)
  · have h' : W.F b ∨ b = a := h
    rcases h' with h | rfl
    · exact A.ft b h
    · exact fun z => nfa (.inr z)
  · have h' : (if j = i then none else st.m j) = some u := h
    by_cases hj : j = i
    · rw [if_pos hj] at h'; cases h'
    · rw [if_neg hj] at h'
      obtain ⟨b, e, nb, r'⟩ := A.obj j u h'
      have na : b ≠ a := fun z => hj (A.inj j i u m a h' hm (z ▸ e) hr)
      refine ⟨b, e, fun z => ?_, ?_⟩
      · have z' : (W.F b ∨ b = a) ∨ W.T b := z
        rcases z' with (z | z) | z
        · exact nb (.inl z)
        · exact na z
        · exact nb (.inr z)
      cases r' with
      | lst h1 h2 => exact .lst h1 (h2.up l)
      | dic h1 h2 => exact .dic h1 (h2.up l)
      | ins h0 h1 h2 => exact .ins h0 h1 (h2.up l)
  · have cut : ∀ {k : Nat} {u : MO}, (if k = i then none else st.m k) = some u → st.m k = some u := fun {k u} h => by
      by_cases hk : k = i
      · rw [if_pos hk] at h; cases h
      · rw [if_neg hk] at h; exact h
    exact A.inj j k u v b (cut h1) (cut h2) e1 e2
end
end DL

set_option Elab.async false
set_option linter.all false
set_option maxRecDepth 100000
/-! # DJudge: denotations, readings made of them, names, constants, displays, operators -/
namespace DL
open PySem PySem.Spec PyProof.Rows L2

abbrev DEnv := List (Option D)
/-- what a piece of code comes to: bad is no claim -/
inductive Out (α : Type) where
  | bad
  | ok (a : α) (st : Sto)
  | exc (c : String) (fs : List (Str × D)) (st : Sto)
def Out.bind {α β : Type} (o : Out α) (k : α → Sto → Out β) : Out β := match o with
  | .bad => .bad
  | .ok a st => k a st
  | .exc c fs st => .exc c fs st
inductive SOut where
  | bad
  | nx (env : DEnv) (st : Sto)
  | rt (d : D) (st : Sto)
  | bk (env : DEnv) (st : Sto)
  | ct (env : DEnv) (st : Sto)
  | exc (c : String) (fs : List (Str × D)) (env : DEnv) (st : Sto)
/-- from an expression on to statements -/
def Out.go {α : Type} (o : Out α) (env : DEnv) (k : α → Sto → SOut) : SOut := match o with
  | .bad => .bad
  | .ok a st => k a st
  | .exc c fs st => .exc c fs env st

abbrev Den := DEnv → Sto → Out D
abbrev DenA := DEnv → Sto → Out (List D)
abbrev DenB := DEnv → Sto → Out Bool
abbrev DenS := DEnv → Sto → SOut

section
variable (K : PySem.W.Frag) (G : CG)
def REnv (W : Wd) (env : DEnv) (σ : L2.St) : Prop := env.length = σ.length ∧ ∀ (i : Nat) (d : D), env[i]? = some (some d) → ∃ v : V, σ[i]? = some (some v) ∧ RelD K G W d v
/-- an exception of the class c with these fields lies as X wants it -/
def XcOk (W : Wd) (xw : XK) (c : String) (fs : List (Str × D)) (st : Sto) : Prop :=
  ∀ W' C dd gs, W.le W' → Abs K G W' st → G c = some C → W'.H dd = some (.xd gs) → RelFs K G W' fs gs → xw (.ref C) (some dd) W'.H
def Post (W : Wd) (xw : XK) (o : Out D) (Q : VK) : Prop := match o with
  | .bad => False
  | .ok d st => ∀ W' v, W.le W' → Abs K G W' st → RelD K G W' d v → Q v W'.H
  | .exc c fs st => XcOk K G W xw c fs st
def PostA (W : Wd) (xw : XK) (o : Out (List D)) (Q : List V → Hp → Prop) : Prop := match o with
  | .bad => False
  | .ok ds st => ∀ W' vs, W.le W' → Abs K G W' st → RelDs K G W' ds vs → Q vs W'.H
  | .exc c fs st => XcOk K G W xw c fs st
def PostB (W : Wd) (xw : XK) (o : Out Bool) (Q : Bool → Hp → Prop) : Prop := match o with
  | .bad => False
  | .ok b st => ∀ W', W.le W' → Abs K G W' st → Q b W'.H
  | .exc c fs st => XcOk K G W xw c fs st
def PostS (W : Wd) (wx : WX) (o : SOut) (D : Ends) : Prop := match o with
  | .bad => False
  | .nx env st => ∀ W' σ', W.le W' → Abs K G W' st → REnv K G W' env σ' → D.nx σ' W'.H
  | .rt d st => ∀ W' v, W.le W' → Abs K G W' st → RelD K G W' d v → D.rt v W'.H
  | .bk env st => ∀ W' σ', W.le W' → Abs K G W' st → REnv K G W' env σ' → D.bk σ' W'.H
  | .ct env st => ∀ W' σ', W.le W' → Abs K G W' st → REnv K G W' env σ' → D.ct σ' W'.H
  | .exc c fs env st => ∀ σ', ∀ W1, W.le W1 → REnv K G W1 env σ' → XcOk K G W1 (fun cls d H => wx cls d σ' H) c fs st
def rE (wx : WX) (g : Den) : TE := fun σ H Q => ∃ W env st, W.H = H ∧ Abs K G W st ∧ REnv K G W env σ ∧ Post K G W (fun cls d H => wx cls d σ H) (g env st) Q
def rA (wx : WX) (g : DenA) : TA := fun σ H Q => ∃ W env st, W.H = H ∧ Abs K G W st ∧ REnv K G W env σ ∧ PostA K G W (fun cls d H => wx cls d σ H) (g env st) Q
def rB (wx : WX) (g : DenB) : TT := fun σ H Q => ∃ W env st, W.H = H ∧ Abs K G W st ∧ REnv K G W env σ ∧ PostB K G W (fun cls d H => wx cls d σ H) (g env st) Q
def rS (wx : WX) (g : DenS) : TS := fun D σ H => ∃ W env st, W.H = H ∧ Abs K G W st ∧ REnv K G W env σ ∧ PostS K G W wx (g env st) D
/-- a two-place operation by values; it raises nothing -/
def r2 (f : D → D → Sto → Out D) : R2 := fun x y H Q => ∃ W d e st, W.H = H ∧ Abs K G W st ∧ RelD K G W d x ∧ RelD K G W e y ∧ Post K G W (fun _ _ _ => False) (f d e st) Q
def r1 (f : D → Sto → Out D) : V → Hp → VK → Prop := fun x H Q => ∃ W d st, W.H = H ∧ Abs K G W st ∧ RelD K G W d x ∧ Post K G W (fun _ _ _ => False) (f d st) Q
def rN (f : List D → Sto → Out D) : List V → Hp → VK → Prop := fun xs H Q => ∃ W ds st, W.H = H ∧ Abs K G W st ∧ RelDs K G W ds xs ∧ Post K G W (fun _ _ _ => False) (f ds st) Q
/-- a def's promise by its mirror -/
def spD (f : List D → Sto → Out D) : Sp := fun vs H Q E => ∃ W ds st, W.H = H ∧ Abs K G W st ∧ RelDs K G W ds vs ∧ Post K G W E (f ds st) Q
end

structure DE (X : Cx) (G : CG) (wx : WX) (e : Expr) (g : Den) : Prop where
  pe : PE X e (rE X.K G wx g)
structure DB (X : Cx) (G : CG) (wx : WX) (e : Expr) (g : DenB) : Prop where
  pt : PT X e (rB X.K G wx g)
structure DBW (X : Cx) (G : CG) (wx : WX) (e : Expr) (g : DenB) : Prop where
  pw : PW X e (rB X.K G wx g)
structure DA (X : Cx) (G : CG) (wx : WX) (es : List Expr) (g : DenA) : Prop where
  pa : PA X es (rA X.K G wx g)
structure DS (X : Cx) (G : CG) (wx : WX) (st : Stmt) (g : DenS) : Prop where
  ps : PS X st (rS X.K G wx g)
structure DSs (X : Cx) (G : CG) (wx : WX) (sts : List Stmt) (g : DenS) : Prop where
  pss : PSs X sts (rS X.K G wx g)

theorem _root_.L2.PE.imp {X : Cx} {e : Expr} {t t' : TE} (h : PE X e t) (i : ∀ σ H Q, t' σ H Q → t σ H Q) : PE X e t' := ⟨fun pins s σ H Q I q => h.run pins s σ H Q I (i σ H Q q)⟩
theorem _root_.L2.PT.imp {X : Cx} {e : Expr} {t t' : TT} (h : PT X e t) (i : ∀ σ H Q, t' σ H Q → t σ H Q) : PT X e t' := ⟨fun pins s σ H Q I q => h.run pins s σ H Q I (i σ H Q q)⟩
theorem _root_.L2.PW.imp {X : Cx} {e : Expr} {t t' : TT} (h : PW X e t) (i : ∀ σ H Q, t' σ H Q → t σ H Q) : PW X e t' := ⟨fun wh pins s σ H Q I q => h.run wh pins s σ H Q I (i σ H Q q)⟩
theorem _root_.L2.PA.imp {X : Cx} {e : List Expr} {t t' : TA} (h : PA X e t) (i : ∀ σ H Q, t' σ H Q → t σ H Q) : PA X e t' := ⟨fun pos pins s σ H Q I q => h.run pos pins s σ H Q I (i σ H Q q)⟩
theorem _root_.L2.PS.imp {X : Cx} {e : Stmt} {t t' : TS} (h : PS X e t) (i : ∀ D σ H, t' D σ H → t D σ H) : PS X e t' := ⟨fun pins s σ H D I q => h.run pins s σ H D I (i D σ H q)⟩
theorem _root_.L2.PSs.imp {X : Cx} {e : List Stmt} {t t' : TS} (h : PSs X e t) (i : ∀ D σ H, t' D σ H → t D σ H) : PSs X e t' := ⟨fun pins s σ H D I q => h.run pins s σ H D I (i D σ H q)⟩

section
variable {K : PySem.W.Frag} {G : CG} {W W' : Wd} {xw : XK} {wx : WX} {σ : L2.St} {env : DEnv} {st : Sto}
theorem REnv.up (r : REnv K G W env σ) (l : W.le W') : REnv K G W' env σ := ⟨r.1, fun i d e => let ⟨v, h1, h2⟩ := r.2 i d e; ⟨v, h1, h2.up l⟩⟩
theorem REnv.set {i : Nat} {d : D} {v : V} (r : REnv K G W env σ) (rd : RelD K G W d v) : REnv K G W (env.set i (some d)) (σ.set i (some v)) := by
  refine ⟨by rw [List.length_set, List.length_set]; exact r.1, fun j e h => ?_⟩
  by_cases hj : i = j
  · subst hj
    by_cases hl : i < env.length
    · rw [List.getElem?_set_self hl] at h
      cases h
      exact ⟨v, List.getElem?_set_self (r.1 ▸ hl), rd⟩
    · rw [List.getElem?_eq_none (by rw [List.length_set]; omega)] at h
      cases h
  · rw [List.getElem?_set_ne hj] at h ⊢
    exact r.2 j e h
theorem XcOk.up {c : String} {fs : List (Str × D)} (x : XcOk K G W xw c fs st) (l : W.le W') : XcOk K G W' xw c fs st := fun W2 C dd gs l2 => x W2 C dd gs (l.trans l2)
theorem XcOk.imp {c : String} {fs : List (Str × D)} {xw' : XK} (x : XcOk K G W xw c fs st) (h : ∀ cls d H, xw cls d H → xw' cls d H) : XcOk K G W xw' c fs st := fun W2 C dd gs l2 a g e r => h _ _ _ (x W2 C dd gs l2 a g e r)
theorem Post.up {o : Out D} {Q : VK} (p : Post K G W xw o Q) (l : W.le W') : Post K G W' xw o Q := by
  cases o with
  | bad => exact p
  | ok d st => exact fun W2 v l2 => p W2 v (l.trans l2)
  | exc c fs st => exact XcOk.up p l
theorem PostA.up {o : Out (List D)} {Q : List V → Hp → Prop} (p : PostA K G W xw o Q) (l : W.le W') : PostA K G W' xw o Q := by
  cases o with
  | bad => exact p
  | ok d st => exact fun W2 v l2 => p W2 v (l.trans l2)
  | exc c fs st => exact XcOk.up p l
theorem PostB.up {o : Out Bool} {Q : Bool → Hp → Prop} (p : PostB K G W xw o Q) (l : W.le W') : PostB K G W' xw o Q := by
  cases o with
  | bad => exact p
  | ok d st => exact fun W2 l2 => p W2 (l.trans l2)
  | exc c fs st => exact XcOk.up p l
theorem PostS.up {o : SOut} {D : Ends} (p : PostS K G W wx o D) (l : W.le W') : PostS K G W' wx o D := by
  cases o with
  | bad => exact p
  | nx env st => exact fun W2 σ' l2 => p W2 σ' (l.trans l2)
  | rt d st => exact fun W2 v l2 => p W2 v (l.trans l2)
  | bk env st => exact fun W2 σ' l2 => p W2 σ' (l.trans l2)
  | ct env st => exact fun W2 σ' l2 => p W2 σ' (l.trans l2)
  | exc c fs env st => exact fun σ' W1 l2 => p σ' W1 (l.trans l2)
/-- an expression, then more -/
theorem Post.bind {o : Out D} {k : D → Sto → Out D} {Q : VK} {Q' : VK} (p : Post K G W xw (o.bind k) Q)
    (h : ∀ d st W' v, o = .ok d st → W.le W' → Abs K G W' st → RelD K G W' d v → Post K G W' xw (k d st) Q → Q' v W'.H) : Post K G W xw o Q' := by
  cases o with
  | bad => exact p
  | ok d st => exact fun W' v l a r => h d st W' v rfl l a r (Post.up p l)
  | exc c fs st => exact p
/-- .. for any kinds of ends -/
theorem Post.bindB {o : Out D} {k : D → Sto → Out Bool} {Q : Bool → Hp → Prop} {Q' : VK} (p : PostB K G W xw (o.bind k) Q)
    (h : ∀ d st W' v, o = .ok d st → W.le W' → Abs K G W' st → RelD K G W' d v → PostB K G W' xw (k d st) Q → Q' v W'.H) : Post K G W xw o Q' := by
  cases o with
  | bad => exact p
  | ok d st => exact fun W' v l a r => h d st W' v rfl l a r (PostB.up p l)
  | exc c fs st => exact p
theorem Post.bindA {o : Out D} {k : D → Sto → Out (List D)} {Q : List V → Hp → Prop} {Q' : VK} (p : PostA K G W xw (o.bind k) Q)
    (h : ∀ d st W' v, o = .ok d st → W.le W' → Abs K G W' st → RelD K G W' d v → PostA K G W' xw (k d st) Q → Q' v W'.H) : Post K G W xw o Q' := by
  cases o with
  | bad => exact p
  | ok d st => exact fun W' v l a r => h d st W' v rfl l a r (PostA.up p l)
  | exc c fs st => exact p
theorem Post.go {o : Out D} {k : D → Sto → SOut} {D : Ends} {Q' : VK} (re : REnv K G W env σ) (p : PostS K G W wx (o.go env k) D)
    (h : ∀ d st W' v, o = .ok d st → W.le W' → Abs K G W' st → RelD K G W' d v → PostS K G W' wx (k d st) D → Q' v W'.H) : Post K G W (fun cls d H => wx cls d σ H) o Q' := by
  cases o with
  | bad => exact p
  | ok d st => exact fun W' v l a r => h d st W' v rfl l a r (PostS.up p l)
  | exc c fs st => exact p σ W .rfl' re
theorem PostA.bind {o : Out (List D)} {k : List D → Sto → Out D} {Q : VK} {Q' : List V → Hp → Prop} (p : Post K G W xw (o.bind k) Q)
    (h : ∀ ds st W' vs, o = .ok ds st → W.le W' → Abs K G W' st → RelDs K G W' ds vs → Post K G W' xw (k ds st) Q → Q' vs W'.H) : PostA K G W xw o Q' := by
  cases o with
  | bad => exact p
  | ok d st => exact fun W' v l a r => h d st W' v rfl l a r (Post.up p l)
  | exc c fs st => exact p
theorem PostA.bindA {o : Out (List D)} {k : List D → Sto → Out (List D)} {Q : List V → Hp → Prop} {Q' : List V → Hp → Prop} (p : PostA K G W xw (o.bind k) Q)
    (h : ∀ ds st W' vs, o = .ok ds st → W.le W' → Abs K G W' st → RelDs K G W' ds vs → PostA K G W' xw (k ds st) Q → Q' vs W'.H) : PostA K G W xw o Q' := by
  cases o with
  | bad => exact p
  | ok d st => exact fun W' v l a r => h d st W' v rfl l a r (PostA.up p l)
  | exc c fs st => exact p
theorem PostB.bind {o : Out Bool} {k : Bool → Sto → Out D} {Q : VK} {Q' : Bool → Hp → Prop} (p : Post K G W xw (o.bind k) Q)
    (h : ∀ b st W', o = .ok b st → W.le W' → Abs K G W' st → Post K G W' xw (k b st) Q → Q' b W'.H) : PostB K G W xw o Q' := by
  cases o with
  | bad => exact p
  | ok d st => exact fun W' l a => h d st W' rfl l a (Post.up p l)
  | exc c fs st => exact p
theorem PostB.bindB {o : Out Bool} {k : Bool → Sto → Out Bool} {Q : Bool → Hp → Prop} {Q' : Bool → Hp → Prop} (p : PostB K G W xw (o.bind k) Q)
    (h : ∀ b st W', o = .ok b st → W.le W' → Abs K G W' st → PostB K G W' xw (k b st) Q → Q' b W'.H) : PostB K G W xw o Q' := by
  cases o with
  | bad => exact p
  | ok d st => exact fun W' l a => h d st W' rfl l a (PostB.up p l)
  | exc c fs st => exact p
theorem PostB.go {o : Out Bool} {k : Bool → Sto → SOut} {D : Ends} {Q' : Bool → Hp → Prop} (re : REnv K G W env σ) (p : PostS K G W wx (o.go env k) D)
    (h : ∀ b st W', o = .ok b st → W.le W' → Abs K G W' st → PostS K G W' wx (k b st) D → Q' b W'.H) : PostB K G W (fun cls d H => wx cls d σ H) o Q' := by
  cases o with
  | bad => exact p
  | ok d st => exact fun W' l a => h d st W' rfl l a (PostS.up p l)
  | exc c fs st => exact p σ W .rfl' re
/-- an end without exceptions is one with any wish -/
theorem Post.any {o : Out D} {Q : VK} (p : Post K G W (fun _ _ _ => False) o Q) : Post K G W xw o Q := by
  cases o with
  | bad => exact p
  | ok d st => exact p
  | exc c fs st => exact XcOk.imp (xw := fun _ _ _ => False) p fun _ _ _ z => False.elim z
end

section
variable {X : Cx} {G : CG} {wx : WX} {a b c : Expr} {ga gb gc : Den} {pos : Pos}

/-! ### names, constants -/
def dVar (i : Nat) : Den := fun env st => match env[i]? with | some (some d) => .ok d st | _ => .bad
def dC (d : D) : Den := fun _ st => .ok d st
theorem de_var {i : Nat} {x : Str} (h : PE X (.Name x pos) (tVar i)) : DE X G wx (.Name x pos) (dVar i) := ⟨h.imp fun σ H Q q => by
  obtain ⟨W, env, st, rfl, A, re, p⟩ := q
  unfold dVar at p
  split at p
  · rename_i d hd
    obtain ⟨v, h1, h2⟩ := re.2 i d hd
    exact ⟨v, h1, p W v .rfl' A h2⟩
  · exact False.elim p⟩
theorem de_const {e : Expr} {d : D} {v : V} (h : PE X e (tC v)) (r : ∀ W, RelD X.K G W d v) : DE X G wx e (dC d) := ⟨h.imp fun σ H Q q => by
  obtain ⟨W, env, st, rfl, A, re, p⟩ := q
  exact p W v .rfl' A (r W)⟩
theorem de_int {i : Int} {j : Nat} : DE X G wx (.Constant (.int i) j pos) (dC (.int i)) := de_const pe_int fun _ => .int i
theorem de_str {x : Str} {j : Nat} : DE X G wx (.Constant (.str x) j pos) (dC (.str x)) := de_const pe_str fun _ => .str x
theorem de_bl {k : Bool} {j : Nat} : DE X G wx (.Constant (.bool k) j pos) (dC (.bl k)) := de_const pe_bl fun _ => .bl k
theorem de_non {j : Nat} : DE X G wx (.Constant .none j pos) (dC .non) := de_const pe_non fun _ => .non

/-! ### arguments and displays -/
def dNil : DenA := fun _ st => .ok [] st
def dCons (g : Den) (r : DenA) : DenA := fun env st => (g env st).bind fun d st1 => (r env st1).bind fun ds st2 => .ok (d :: ds) st2
theorem da_nil : DA X G wx [] dNil := ⟨pa_nil.imp fun σ H Q q => by
  obtain ⟨W, env, st, rfl, A, re, p⟩ := q
  exact p W [] .rfl' A .nil⟩
theorem da_cons {es : List Expr} {r : DenA} (ha : DE X G wx a ga) (hr : DA X G wx es r) (hs : starEach (a :: es) X.env = (false, eval a X.env) :: starEach es X.env := by rfl) : DA X G wx (a :: es) (dCons ga r) :=
  ⟨(pa_cons ha.pe hr.pa hs).imp fun σ H Q q => by
    obtain ⟨W, env, st, rfl, A, re, p⟩ := q
    refine ⟨W, env, st, rfl, A, re, Post.bindA p fun d st1 W1 v _ l1 A1 r1 p1 => ?_⟩
    refine ⟨W1, env, st1, rfl, A1, re.up l1, PostA.bindA p1 fun ds st2 W2 vs _ l2 A2 r2 p2 => ?_⟩
    exact p2 W2 (v :: vs) .rfl' A2 (.cons (r1.up l2) r2)⟩
/-- so long a row can be made -/
def chk (ds : List D) (k : Out D) : Out D := if ds.length ≤ 10000000 then k else .bad
theorem chk_line {ds : List D} (h : ds.length ≤ 10000000) : ds.length ≤ sizeLine := by rw [sizeLine_eq]; omega
def dTup (g : DenA) : Den := fun env st => (g env st).bind fun ds st1 => chk ds (.ok (.tup ds) st1)
def dLst (g : DenA) : Den := fun env st => (g env st).bind fun ds st1 => chk ds (.ok (.lst ds) st1)
/-- a list that will be changed -/
def dNew (g : DenA) : Den := fun env st => (g env st).bind fun ds st1 => chk ds (.ok (.ref st1.n) (st1.new (.lst ds)))
theorem rd_put {H : Hp} {p : Addr} {o : HO} : Rd (upd H p o) p o := .inl upd_same
theorem de_tup {es : List Expr} {g : DenA} {j : Nat} (h : DA X G wx es g) : DE X G wx (.Tuple es j pos) (dTup g) := ⟨(pe_tup h.pa).imp fun σ H Q q => by
  obtain ⟨W, env, st, rfl, A, re, p⟩ := q
  refine ⟨W, env, st, rfl, A, re, PostA.bind p fun ds st1 W1 vs _ l1 A1 r1 p1 => ?_⟩
  unfold chk at p1
  split at p1
  · rename_i hz
    refine ⟨by rw [← r1.length]; exact chk_line hz, fun q hq => ?_⟩
    have l := Wd.le_put (o := .tup vs) A1 hq
    exact p1 (W1.put q (.tup vs)) (.ref q) l (A1.put hq) (.tup (.inr rfl) upd_same (r1.up l))
  · exact False.elim p1⟩
theorem de_lst {es : List Expr} {g : DenA} (h : DA X G wx es g) : DE X G wx (.List es pos) (dLst g) := ⟨(pe_lst h.pa).imp fun σ H Q q => by
  obtain ⟨W, env, st, rfl, A, re, p⟩ := q
  refine ⟨W, env, st, rfl, A, re, PostA.bind p fun ds st1 W1 vs _ l1 A1 r1 p1 => ?_⟩
  unfold chk at p1
  split at p1
  · rename_i hz
    refine ⟨by rw [← r1.length]; exact chk_line hz, fun q hq => ?_⟩
    have l := Wd.le_put (o := .lst vs) A1 hq
    exact p1 (W1.put q (.lst vs)) (.ref q) l (A1.put hq) (.lst (.inr rfl) upd_same (r1.up l))
  · exact False.elim p1⟩
theorem de_new {es : List Expr} {g : DenA} (h : DA X G wx es g) : DE X G wx (.List es pos) (dNew g) := ⟨(pe_lst h.pa).imp fun σ H Q q => by
  obtain ⟨W, env, st, rfl, A, re, p⟩ := q
  refine ⟨W, env, st, rfl, A, re, PostA.bind p fun ds st1 W1 vs _ l1 A1 r1 p1 => ?_⟩
  unfold chk at p1
  split at p1
  · rename_i hz
    refine ⟨by rw [← r1.length]; exact chk_line hz, fun q hq => ?_⟩
    have l := Wd.le_add (o := .lst vs) A1 hq
    exact p1 (W1.add st1.n q (.lst vs)) (.ref q) l (A1.add hq (.lst upd_same (r1.up l))) (.ref (by show (if st1.n = st1.n then some q else _) = some q; rw [if_pos rfl]))
  · exact False.elim p1⟩

/-! ### operators, by values -/
def dBin (f : D → D → Sto → Out D) (ga gb : Den) : Den := fun env st => (ga env st).bind fun d st1 => (gb env st1).bind fun e st2 => f d e st2
theorem r2_of {f : D → D → Sto → Out D} (σ : L2.St) (H : Hp) (Q : VK) (q : rE X.K G wx (dBin f ga gb) σ H Q) (hx : ∀ d e st c fs st', f d e st ≠ .exc c fs st') : tOp (r2 X.K G f) (rE X.K G wx ga) (rE X.K G wx gb) σ H Q := by
  obtain ⟨W, env, st, rfl, A, re, p⟩ := q
  refine ⟨W, env, st, rfl, A, re, Post.bind p fun d st1 W1 v _ l1 A1 r1 p1 => ?_⟩
  refine ⟨W1, env, st1, rfl, A1, re.up l1, Post.bind p1 fun e st2 W2 u _ l2 A2 r2 p2 => ?_⟩
  refine ⟨W2, d, e, st2, rfl, A2, r1.up l2, r2, ?_⟩
  cases h : f d e st2 with
  | bad => rw [h] at p2; exact p2
  | ok z st3 => rw [h] at p2; exact p2
  | exc c fs st3 => exact (hx _ _ _ _ _ _ h).elim
/-- f raises nothing -/
def NoX2 (f : D → D → Sto → Out D) : Prop := ∀ d e st c fs st', f d e st ≠ .exc c fs st'
def NoX1 (f : D → Sto → Out D) : Prop := ∀ d st c fs st', f d st ≠ .exc c fs st'
def NoXN (f : List D → Sto → Out D) : Prop := ∀ ds st c fs st', f ds st ≠ .exc c fs st'
theorem de_op {op : Operator} {f : D → D → Sto → Out D} (ho : OpR X (binaryOp op) (r2 X.K G f)) (hx : NoX2 f) (ha : DE X G wx a ga) (hb : DE X G wx b gb) : DE X G wx (.BinOp a op b pos) (dBin f ga gb) :=
  ⟨(pe_op ho ha.pe hb.pe).imp fun σ H Q q => r2_of σ H Q q hx⟩
theorem de_cmp {op : CmpOp} {f : D → D → Sto → Out D} (ho : OpR X (compareOp op) (r2 X.K G f)) (hx : NoX2 f) (ha : DE X G wx a ga) (hb : DE X G wx b gb) (hm : behindInMarks op b = false := by first | exact nomark _ | rfl) : DE X G wx (.Compare a [op] [b] pos) (dBin f ga gb) :=
  ⟨(pe_cmpR ho ha.pe hb.pe hm).imp fun σ H Q q => r2_of σ H Q q hx⟩
/-- a value that is a truth, as a test -/
def toB (o : Out D) : Out Bool := o.bind fun d st => match d with | .bl k => .ok k st | _ => .bad
theorem tTest_of {K : PySem.W.Frag} {t : TE} {g : Den} (h : ∀ σ H Q, rE K G wx g σ H Q → t σ H Q) (σ : L2.St) (H : Hp) (Q : Bool → Hp → Prop) (q : rB K G wx (fun env st => toB (g env st)) σ H Q) : tTest t σ H Q := by
  obtain ⟨W, env, st, rfl, A, re, p⟩ := q
  refine h σ _ _ ⟨W, env, st, rfl, A, re, Post.bindB p fun d st1 W1 v _ l1 A1 r1 p1 => ?_⟩
  cases d <;> first | exact False.elim p1 | skip
  cases r1
  exact ⟨_, rfl, p1 W1 .rfl' A1⟩
theorem db_cmp {op : CmpOp} {f : D → D → Sto → Out D} (ho : OpR X (compareOp op) (r2 X.K G f)) (hx : NoX2 f) (ha : DE X G wx a ga) (hb : DE X G wx b gb) (hm : behindInMarks op b = false := by first | exact nomark _ | rfl) : DB X G wx (.Compare a [op] [b] pos) (fun env st => toB (dBin f ga gb env st)) :=
  ⟨(pt_cmpR ho ha.pe hb.pe hm).imp fun σ H Q q => tTest_of (fun σ H Q q => r2_of σ H Q q hx) σ H Q q⟩
theorem db_val {e : Expr} {g : Den} (h : DE X G wx e g) (he : ∀ whole, isTrue e X.env whole = (do let v ← whole; standAt e.pos; holding [v] (truthy v)) := by intro _; rfl) : DB X G wx e (fun env st => toB (g env st)) :=
  ⟨(pt_val h.pe he).imp fun σ H Q q => by
    have z := tTest_of (G := G) (wx := wx) (K := X.K) (t := rE X.K G wx g) (fun _ _ _ q => q) σ H Q q
    exact z⟩
end
end DL

set_option Elab.async false
set_option linter.all false
set_option maxRecDepth 100000
/-! # DStmt: tests, statements, loops, comprehensions -/
namespace DL
open PySem PySem.Spec PyProof.Rows L2

section
variable {X : Cx} {G : CG} {wx : WX} {a b c : Expr} {ga gb gc : Den} {ta tb : DenB} {pos : Pos} {rest : List Expr}

/-! ### and, or, not, if-else -/
def bAnd (t u : DenB) : DenB := fun env st => (t env st).bind fun k st1 => if k = true then u env st1 else .ok false st1
def bOr (t u : DenB) : DenB := fun env st => (t env st).bind fun k st1 => if k = true then .ok true st1 else u env st1
def bNot (t : DenB) : DenB := fun env st => (t env st).bind fun k st1 => .ok (!k) st1
def dIf (t : DenB) (g h : Den) : Den := fun env st => (t env st).bind fun k st1 => if k = true then g env st1 else h env st1
theorem rB_id (σ : L2.St) (H : Hp) (Q : Bool → Hp → Prop) (K : PySem.W.Frag) (t : DenB) (q : rB K G wx t σ H Q) : rB K G wx t σ H Q := q
theorem dbw_and1 (ha : DB X G wx a ta) : DBW X G wx (.BoolOp .And [a] pos) ta := ⟨pw_and1 ha.pt⟩
theorem dbw_or1 (ha : DB X G wx a ta) : DBW X G wx (.BoolOp .Or [a] pos) ta := ⟨pw_or1 ha.pt⟩
theorem dbw_and (ha : DB X G wx a ta) (hb : DBW X G wx (.BoolOp .And (b :: rest) pos) tb) : DBW X G wx (.BoolOp .And (a :: b :: rest) pos) (bAnd ta tb) := ⟨(pw_and ha.pt hb.pw).imp fun σ H Q q => by
  obtain ⟨W, env, st, rfl, A, re, p⟩ := q
  refine ⟨W, env, st, rfl, A, re, PostB.bindB p fun k st1 W1 _ l1 A1 p1 => ?_⟩
  cases k with
  | true => exact ⟨W1, env, st1, rfl, A1, re.up l1, p1⟩
  | false => exact p1 W1 .rfl' A1⟩
theorem dbw_or (ha : DB X G wx a ta) (hb : DBW X G wx (.BoolOp .Or (b :: rest) pos) tb) : DBW X G wx (.BoolOp .Or (a :: b :: rest) pos) (bOr ta tb) := ⟨(pw_or ha.pt hb.pw).imp fun σ H Q q => by
  obtain ⟨W, env, st, rfl, A, re, p⟩ := q
  refine ⟨W, env, st, rfl, A, re, PostB.bindB p fun k st1 W1 _ l1 A1 p1 => ?_⟩
  cases k with
  | false => exact ⟨W1, env, st1, rfl, A1, re.up l1, p1⟩
  | true => exact p1 W1 .rfl' A1⟩
theorem db_of (h : DBW X G wx a ta) : DB X G wx a ta := ⟨h.pw.pt⟩
theorem db_not (ha : DB X G wx a ta) : DB X G wx (.UnaryOp .Not a pos) (bNot ta) := ⟨(pt_not ha.pt).imp fun σ H Q q => by
  obtain ⟨W, env, st, rfl, A, re, p⟩ := q
  exact ⟨W, env, st, rfl, A, re, PostB.bindB p fun k st1 W1 _ l1 A1 p1 => p1 W1 .rfl' A1⟩⟩
theorem de_if (hc : DB X G wx c ta) (ha : DE X G wx a ga) (hb : DE X G wx b gb) : DE X G wx (.IfExp c a b pos) (dIf ta ga gb) := ⟨(pe_ifExp hc.pt ha.pe hb.pe).imp fun σ H Q q => by
  obtain ⟨W, env, st, rfl, A, re, p⟩ := q
  refine ⟨W, env, st, rfl, A, re, PostB.bind p fun k st1 W1 _ l1 A1 p1 => ?_⟩
  cases k with
  | true => exact ⟨W1, env, st1, rfl, A1, re.up l1, p1⟩
  | false => exact ⟨W1, env, st1, rfl, A1, re.up l1, p1⟩⟩
/-- as values: all but the last are truths -/
def dAnd (g h : Den) : Den := fun env st => (toB (g env st)).bind fun k st1 => if k = true then h env st1 else .ok (.bl false) st1
def dOr (g h : Den) : Den := fun env st => (toB (g env st)).bind fun k st1 => if k = true then .ok (.bl true) st1 else h env st1
def dNot (g : Den) : Den := fun env st => (toB (g env st)).bind fun k st1 => .ok (.bl (!k)) st1
theorem Post.toB {K : PySem.W.Frag} {W : Wd} {xw : XK} {o : Out D} {k : Bool → Sto → Out D} {Q Q' : VK} (p : Post K G W xw ((DL.toB o).bind k) Q)
    (h : ∀ b st W', o = .ok (.bl b) st → W.le W' → Abs K G W' st → Post K G W' xw (k b st) Q → Q' (.bl b) W'.H) : Post K G W xw o Q' := by
  cases o with
  | bad => exact p
  | ok d st =>
    cases d with
    | bl b =>
      intro W' v l a r
      cases r
      exact h b st W' rfl l a (Post.up p l)
    | _ => exact False.elim p
  | exc c fs st => exact p
theorem de_and1 {op : BoolOp} (ha : DE X G wx a ga) : DE X G wx (.BoolOp op [a] pos) ga := ⟨pe_one ha.pe⟩
theorem de_and (ha : DE X G wx a ga) (hb : DE X G wx (.BoolOp .And (b :: rest) pos) gb) : DE X G wx (.BoolOp .And (a :: b :: rest) pos) (dAnd ga gb) := ⟨(pe_and ha.pe hb.pe).imp fun σ H Q q => by
  obtain ⟨W, env, st, rfl, A, re, p⟩ := q
  refine ⟨W, env, st, rfl, A, re, Post.toB p fun k st1 W1 _ l1 A1 p1 => ⟨k, rfl, ?_⟩⟩
  cases k with
  | true => exact ⟨W1, env, st1, rfl, A1, re.up l1, p1⟩
  | false => exact p1 W1 _ .rfl' A1 (.bl _)⟩
theorem de_or (ha : DE X G wx a ga) (hb : DE X G wx (.BoolOp .Or (b :: rest) pos) gb) : DE X G wx (.BoolOp .Or (a :: b :: rest) pos) (dOr ga gb) := ⟨(pe_or ha.pe hb.pe).imp fun σ H Q q => by
  obtain ⟨W, env, st, rfl, A, re, p⟩ := q
  refine ⟨W, env, st, rfl, A, re, Post.toB p fun k st1 W1 _ l1 A1 p1 => ⟨k, rfl, ?_⟩⟩
  cases k with
  | false => exact ⟨W1, env, st1, rfl, A1, re.up l1, p1⟩
  | true => exact p1 W1 _ .rfl' A1 (.bl _)⟩
theorem de_not (ha : DE X G wx a ga) : DE X G wx (.UnaryOp .Not a pos) (dNot ga) := ⟨(pe_not ha.pe).imp fun σ H Q q => by
  obtain ⟨W, env, st, rfl, A, re, p⟩ := q
  exact ⟨W, env, st, rfl, A, re, Post.toB p fun k st1 W1 _ l1 A1 p1 => ⟨k, rfl, p1 W1 _ .rfl' A1 (.bl _)⟩⟩⟩

/-! ### statements -/
variable {s : Stmt} {ss : List Stmt} {gs gr : DenS}
def sNil : DenS := fun env st => .nx env st
def SOut.seq (o : SOut) (k : DenS) : SOut := match o with
  | .nx env st => k env st
  | o => o
def sSeq (g r : DenS) : DenS := fun env st => (g env st).seq r
def sDrop (g : Den) : DenS := fun env st => (g env st).go env fun _ st1 => .nx env st1
def sRet (g : Den) : DenS := fun env st => (g env st).go env fun d st1 => .rt d st1
def sRetN : DenS := fun _ st => .rt .non st
def sIf (t : DenB) (g h : DenS) : DenS := fun env st => (t env st).go env fun k st1 => if k = true then g env st1 else h env st1
def sBrk : DenS := fun env st => .bk env st
def sCnt : DenS := fun env st => .ct env st
theorem ds_nil : DSs X G wx [] sNil := ⟨pss_nil.imp fun D σ H q => by
  obtain ⟨W, env, st, rfl, A, re, p⟩ := q
  exact p W σ .rfl' A re⟩
theorem PostS.seq {K : PySem.W.Frag} {W : Wd} {o : SOut} {k : DenS} {D : Ends} {N : L2.St → Hp → Prop} (p : PostS K G W wx (o.seq k) D)
    (h : ∀ env st W' σ', W.le W' → Abs K G W' st → REnv K G W' env σ' → PostS K G W' wx (k env st) D → N σ' W'.H) : PostS K G W wx o { D with nx := N } := by
  cases o with
  | bad => exact p
  | nx env st => exact fun W' σ' l a re => h env st W' σ' l a re (PostS.up p l)
  | rt d st => exact p
  | bk env st => exact p
  | ct env st => exact p
  | exc c fs env st => exact p
theorem ds_cons (h : DS X G wx s gs) (hr : DSs X G wx ss gr) : DSs X G wx (s :: ss) (sSeq gs gr) := ⟨(pss_cons h.ps hr.pss).imp fun D σ H q => by
  obtain ⟨W, env, st, rfl, A, re, p⟩ := q
  exact ⟨W, env, st, rfl, A, re, PostS.seq p fun env1 st1 W1 σ1 l1 A1 re1 p1 => ⟨W1, env1, st1, rfl, A1, re1, p1⟩⟩⟩
theorem ds_drop (h : DE X G wx a ga) (hs : swapsWith a none pos.line X.env = pure false := by rfl) : DS X G wx (.Expr a pos) (sDrop ga) := ⟨(ps_expr h.pe hs).imp fun D σ H q => by
  obtain ⟨W, env, st, rfl, A, re, p⟩ := q
  exact ⟨W, env, st, rfl, A, re, Post.go re p fun d st1 W1 v _ l1 A1 r1 p1 => p1 W1 σ .rfl' A1 (re.up l1)⟩⟩
theorem ds_ret (h : DE X G wx a ga) : DS X G wx (.Return (some a) pos) (sRet ga) := ⟨(ps_ret h.pe).imp fun D σ H q => by
  obtain ⟨W, env, st, rfl, A, re, p⟩ := q
  exact ⟨W, env, st, rfl, A, re, Post.go re p fun d st1 W1 v _ l1 A1 r1 p1 => p1 W1 v .rfl' A1 r1⟩⟩
theorem ds_retN : DS X G wx (.Return none pos) sRetN := ⟨ps_retN.imp fun D σ H q => by
  obtain ⟨W, env, st, rfl, A, re, p⟩ := q
  exact p W .non .rfl' A .non⟩
theorem ds_pass : DS X G wx (.Pass pos) sNil := ⟨ps_pass.imp fun D σ H q => by
  obtain ⟨W, env, st, rfl, A, re, p⟩ := q
  exact p W σ .rfl' A re⟩
theorem ds_brk : DS X G wx (.Break pos) sBrk := ⟨ps_break.imp fun D σ H q => by
  obtain ⟨W, env, st, rfl, A, re, p⟩ := q
  exact p W σ .rfl' A re⟩
theorem ds_cnt : DS X G wx (.Continue pos) sCnt := ⟨ps_continue.imp fun D σ H q => by
  obtain ⟨W, env, st, rfl, A, re, p⟩ := q
  exact p W σ .rfl' A re⟩
theorem ds_if {p q : List Stmt} {gp gq : DenS} (hc : DB X G wx c ta) (hp : DSs X G wx p gp) (hq : DSs X G wx q gq) : DS X G wx (.If c p q pos) (sIf ta gp gq) := ⟨(ps_if hc.pt hp.pss hq.pss).imp fun D σ H q => by
  obtain ⟨W, env, st, rfl, A, re, p⟩ := q
  refine ⟨W, env, st, rfl, A, re, PostB.go re p fun k st1 W1 _ l1 A1 p1 => ?_⟩
  cases k with
  | true => exact ⟨W1, env, st1, rfl, A1, re.up l1, p1⟩
  | false => exact ⟨W1, env, st1, rfl, A1, re.up l1, p1⟩⟩

/-! ### targets -/
abbrev DenG := D → DEnv → Sto → Out DEnv
def PostG (K : PySem.W.Frag) (G : CG) (W : Wd) (o : Out DEnv) (Q : L2.St → Hp → Prop) : Prop := match o with
  | .ok env st => ∀ W' σ', W.le W' → Abs K G W' st → REnv K G W' env σ' → Q σ' W'.H
  | _ => False
def rG (K : PySem.W.Frag) (G : CG) (g : DenG) : TG := fun v σ H Q => ∃ W env d st, W.H = H ∧ Abs K G W st ∧ REnv K G W env σ ∧ RelD K G W d v ∧ PostG K G W (g d env st) Q
structure DG (X : Cx) (G : CG) (t : Expr) (g : DenG) : Prop where
  pg : PG X t (rG X.K G g)
theorem _root_.L2.PG.imp {X : Cx} {e : Expr} {t t' : TG} (h : PG X e t) (i : ∀ v σ H Q, t' v σ H Q → t v σ H Q) : PG X e t' := ⟨fun pins s σ H v u Q I r q => h.run pins s σ H v u Q I r (i v σ H Q q)⟩
theorem PostG.up {K : PySem.W.Frag} {W W' : Wd} {o : Out DEnv} {Q : L2.St → Hp → Prop} (p : PostG K G W o Q) (l : W.le W') : PostG K G W' o Q := by
  cases o with
  | bad => exact p
  | ok env st => exact fun W2 σ' l2 => p W2 σ' (l.trans l2)
  | exc c fs st => exact p
def gN (i : Nat) : DenG := fun d env st => .ok (env.set i (some d)) st
theorem dg_name {x : Str} {i : Nat} (h : PG X (.Name x pos) (gName i)) : DG X G (.Name x pos) (gN i) := ⟨h.imp fun v σ H Q q => by
  obtain ⟨W, env, d, st, rfl, A, re, rd, p⟩ := q
  exact p W _ .rfl' A (re.set rd)⟩
/-- several targets -/
abbrev DenGs := List D → DEnv → Sto → Out DEnv
def rGs (K : PySem.W.Frag) (G : CG) (g : DenGs) : TGs := fun vs σ H Q => ∃ W env ds st, W.H = H ∧ Abs K G W st ∧ REnv K G W env σ ∧ RelDs K G W ds vs ∧ PostG K G W (g ds env st) Q
structure DGs (X : Cx) (G : CG) (ts : List Expr) (g : DenGs) : Prop where
  pgs : PGs X ts (rGs X.K G g)
theorem _root_.L2.PGs.imp {X : Cx} {e : List Expr} {t t' : TGs} (h : PGs X e t) (i : ∀ v σ H Q, t' v σ H Q → t v σ H Q) : PGs X e t' := ⟨fun pins s σ H v u Q I r q => h.run pins s σ H v u Q I r (i v σ H Q q)⟩
def gsNil : DenGs := fun ds env st => match ds with | [] => .ok env st | _ => .bad
def gsCons (g : DenG) (r : DenGs) : DenGs := fun ds env st => match ds with | [] => .bad | d :: ds => (g d env st).bind fun env1 st1 => r ds env1 st1
theorem dgs_nil : DGs X G [] gsNil := ⟨pgs_nil.imp fun vs σ H Q q => by
  obtain ⟨W, env, ds, st, rfl, A, re, rd, p⟩ := q
  cases rd with
  | nil => exact ⟨rfl, p W σ .rfl' A re⟩
  | cons _ _ => exact False.elim p⟩
theorem dgs_cons {t : Expr} {ts : List Expr} {g : DenG} {r : DenGs} (h : DG X G t g) (hr : DGs X G ts r) (hs : (assignEach (t :: ts) X.env).map (·.2) = assign t X.env :: (assignEach ts X.env).map (·.2) := by rfl) : DGs X G (t :: ts) (gsCons g r) := ⟨(pgs_cons h.pg hr.pgs hs).imp fun vs σ H Q q => by
  obtain ⟨W, env, ds, st, rfl, A, re, rd, p⟩ := q
  cases rd with
  | nil => exact False.elim p
  | @cons d ds v vs rd rds =>
    refine ⟨v, vs, rfl, W, env, d, st, rfl, A, re, rd, ?_⟩
    have p' : PostG X.K G W ((g d env st).bind fun env1 st1 => r ds env1 st1) Q := p
    cases hg : g d env st with
    | bad => rw [hg] at p'; exact p'
    | exc c fs st1 => rw [hg] at p'; exact p'
    | ok env1 st1 =>
      rw [hg] at p'
      exact fun W1 σ1 l1 A1 re1 => ⟨W1, env1, ds, st1, rfl, A1, re1, rds.up l1, PostG.up p' l1⟩⟩
/-- x, y = a tuple -/
def gTupD (n : Nat) (g : DenGs) : DenG := fun d env st => match d with
  | .tup ds => if ds.length = n then g ds env st else .bad
  | _ => .bad
theorem dg_tup {ts : List Expr} {g : DenGs} {n : Nat} {t : TGs → TG} {k : Nat} (h : ∀ t, PGs X ts t → PG X (.Tuple ts k pos) (gTup X.K n t)) (hs : DGs X G ts g) : DG X G (.Tuple ts k pos) (gTupD n g) := ⟨(h _ hs.pgs).imp fun v σ H Q q => by
  obtain ⟨W, env, d, st, rfl, A, re, rd, p⟩ := q
  cases d with
  | tup ds =>
    unfold PostG gTupD at p
    by_cases hn : ds.length = n
    · dsimp only at p
      rw [if_pos hn] at p
      cases rd with
      | tup hf hr hrs => exact ⟨_, _, rfl, .inl (.inl hr), hrs.length ▸ hn, W, env, ds, st, rfl, A, re, hrs, p⟩
      | tupK hr hrs => exact ⟨_, _, rfl, hr _, hrs.length ▸ hn, W, env, ds, st, rfl, A, re, hrs, p⟩
    · dsimp only at p
      rw [if_neg hn] at p
      exact False.elim p
  | _ => exact False.elim p⟩
def sAsg (g : Den) (t : DenG) : DenS := fun env st => (g env st).go env fun d st1 => match t d env st1 with
  | .ok env1 st2 => .nx env1 st2
  | _ => .bad
theorem ds_asg {t : Expr} {gt : DenG} (h : DE X G wx a ga) (ht : DG X G t gt) (hs : swapsWithSole [t] a pos.line X.env = pure false := by rfl) (hw : swappedStores [t] a X.env = pure none := by rfl)
    (h1 : (assignEach [t] X.env).map (·.2) = [assign t X.env] := by rfl) : DS X G wx (.Assign [t] a pos) (sAsg ga gt) := ⟨(ps_asg h.pe ht.pg hs hw h1).imp fun D σ H q => by
  obtain ⟨W, env, st, rfl, A, re, p⟩ := q
  refine ⟨W, env, st, rfl, A, re, Post.go re p fun d st1 W1 v _ l1 A1 r1 p1 => ?_⟩
  refine ⟨W1, env, d, st1, rfl, A1, re.up l1, r1, ?_⟩
  cases hg : gt d env st1 with
  | bad => rw [hg] at p1; exact p1
  | exc c fs st2 => rw [hg] at p1; exact p1
  | ok env1 st2 => rw [hg] at p1; exact p1⟩

/-! ### what a loop walks -/
structure IterOk (K : PySem.W.Frag) (G : CG) (W : Wd) (J : It) (ds : List D) : Prop where
  goes : ∀ i W2, i < ds.length → W.lf W2 → J.go i W2.H
  stops : ∀ W2, W.lf W2 → J.stop ds.length W2.H
  yields : ∀ i W2 st x H', i < ds.length → W.lf W2 → Abs K G W2 st → J.yld i W2.H x H' → ∃ W3 d, W2.le W3 ∧ W3.H = H' ∧ Abs K G W3 st ∧ ds[i]? = some d ∧ RelD K G W3 d x
theorem IterOk.up {K : PySem.W.Frag} {W W' : Wd} {J : It} {ds : List D} (h : IterOk K G W J ds) (l : W.lf W') : IterOk K G W' J ds :=
  ⟨fun i W2 hi l2 => h.goes i W2 hi (l.trans l2), fun W2 l2 => h.stops W2 (l.trans l2), fun i W2 st x H' hi l2 => h.yields i W2 st x H' hi (l.trans l2)⟩
def PostI (K : PySem.W.Frag) (G : CG) (W : Wd) (xw : XK) (o : Out (List D)) (R : It → Hp → Prop) : Prop := match o with
  | .bad => False
  | .ok ds st => ∀ W' J, W.le W' → Abs K G W' st → IterOk K G W' J ds → R J W'.H
  | .exc c fs st => XcOk K G W xw c fs st
def rI (K : PySem.W.Frag) (G : CG) (wx : WX) (g : DenA) : TI := fun σ H R => ∃ W env st, W.H = H ∧ Abs K G W st ∧ REnv K G W env σ ∧ PostI K G W (fun cls d H => wx cls d σ H) (g env st) R
structure DI (X : Cx) (G : CG) (wx : WX) (tg e : Expr) (g : DenA) : Prop where
  pi : PI X tg e (rI X.K G wx g)
theorem _root_.L2.PI.imp {X : Cx} {tg e : Expr} {t t' : TI} (h : PI X tg e t) (i : ∀ σ H Q, t' σ H Q → t σ H Q) : PI X tg e t' := ⟨fun pins s σ H R I q => h.run pins s σ H R I (i σ H R q)⟩
theorem iter_lst {K : PySem.W.Frag} {W : Wd} {p : Addr} {vs : List V} {ds : List D} (q : ∀ W2, W.lf W2 → SqL K W2.H p vs) (rs : RelDs K G W ds vs) : IterOk K G W (Itl K p) ds := by
  have w := walk_list (K := K) (a := p) (xs := vs)
  refine ⟨fun i W2 hi l => w.goes i W2.H (by rw [← rs.length]; exact hi) (q W2 l), fun W2 l => by rw [rs.length]; exact w.stops W2.H (q W2 l), fun i W2 st x H' hi l a y => ?_⟩
  obtain ⟨e1, e2⟩ := w.yields i W2.H x H' (by rw [← rs.length]; exact hi) (q W2 l) y
  obtain ⟨d, h1, h2⟩ := rs.getV e2
  exact ⟨W2, d, .rfl', e1.symm, a, h1, h2.uf l⟩
theorem iter_tup {K : PySem.W.Frag} {W : Wd} {p : Addr} {vs : List V} {ds : List D} (q : ∀ W2, W.lf W2 → SqT K W2.H p vs) (rs : RelDs K G W ds vs) : IterOk K G W (Itt K p) ds := by
  have w := walk_tup (K := K) (a := p) (xs := vs)
  refine ⟨fun i W2 hi l => w.goes i W2.H (by rw [← rs.length]; exact hi) (q W2 l), fun W2 l => by rw [rs.length]; exact w.stops W2.H (q W2 l), fun i W2 st x H' hi l a y => ?_⟩
  obtain ⟨e1, e2⟩ := w.yields i W2.H x H' (by rw [← rs.length]; exact hi) (q W2 l) y
  obtain ⟨d, h1, h2⟩ := rs.getV e2
  exact ⟨W2, d, .rfl', e1.symm, a, h1, h2.uf l⟩
theorem RelD.sq_tup {K : PySem.W.Frag} {W : Wd} {ds : List D} {v : V} (r : RelD K G W (.tup ds) v) : ∃ a vs, v = .ref a ∧ (∀ W2, W.lf W2 → SqT K W2.H a vs) ∧ RelDs K G W ds vs := by
  cases r with
  | tup hf hr hs => exact ⟨_, _, rfl, fun W2 l => .inl (.inl ((l.h _ hf).trans hr)), hs⟩
  | tupK hr hs => exact ⟨_, _, rfl, fun W2 l => hr _, hs⟩
theorem RelD.sq_lst {K : PySem.W.Frag} {W : Wd} {ds : List D} {v : V} (r : RelD K G W (.lst ds) v) : ∃ a vs, v = .ref a ∧ W.F a ∧ W.H a = some (.lst vs) ∧ RelDs K G W ds vs := by
  cases r with
  | lst hf hr hs => exact ⟨_, _, rfl, hf, hr, hs⟩
theorem RelD.sq_rdl {K : PySem.W.Frag} {W : Wd} {ds : List D} {v : V} (r : RelD K G W (.rdl ds) v) : ∃ a vs, v = .ref a ∧ (∀ W2, W.lf W2 → SqL K W2.H a vs) ∧ RelDs K G W ds vs := by
  cases r with
  | rdl hf hr hs => exact ⟨_, _, rfl, fun W2 l => .inl (by unfold Rd at *; rw [l.h _ hf]; exact hr), hs⟩
  | rdlK hr hs => exact ⟨_, _, rfl, fun W2 l => hr _, hs⟩
/-- a list or a tuple, walked -/
def iSeq (g : Den) : DenA := fun env st => (g env st).bind fun d st1 => match d with
  | .tup ds => .ok ds st1
  | .lst ds => .ok ds st1
  | .rdl ds => .ok ds st1
  | _ => .bad
/-- a value at hand, walked -/
def iAny (K : PySem.W.Frag) (tl : TE) : TI := fun σ H R => tl σ H fun x H1 => ∃ a, x = .ref a ∧ (((∃ xs, SqL K H1 a xs) ∧ R (Itl K a) H1) ∨ ((∃ xs, SqT K H1 a xs) ∧ R (Itt K a) H1))
theorem pi_any {tg l : Expr} {tl : TE} (hl : PE X l tl) : PI X tg l (iAny X.K tl) := by
  refine ⟨fun pins s σ H R I h => ?_⟩
  refine thn (hl.run pins s σ H _ I h) fun v s1 ⟨x, H1, I1, r1, a, e, q1⟩ => ?_
  subst e
  cases r1
  have fr : ∀ b ∈ [s1.heap.objs.size], FpOk X pins H1 b := fun b hb => by
    have e : b = s1.heap.objs.size := by simpa using hb
    rw [e]
    exact I1.fpOk (Nat.le_refl _) (I1.hok.fresh (Nat.le_refl _))
  rcases q1 with ⟨⟨xs, hq⟩, q⟩ | ⟨⟨xs, hq⟩, q⟩
  · obtain ⟨its, rv, p, hz⟩ := I1.list hq
    exact wpAny_pyIter_list p.isList ⟨_, [s1.heap.objs.size], _, _, H1, rfl, I1.kept (t' := s1.toks) fun b o e => Heap.get?_push_of_some _ e, turn_list a _, ⟨_, Heap.get?_push_size _ rfl, rfl, rfl⟩, fr, q⟩
  · obtain ⟨its, rv, p, hz⟩ := I1.tuple hq
    exact wpAny_pyIter_tuple (show s1.heap.IsTuple a its.toArray from p) ⟨_, [s1.heap.objs.size], _, _, H1, rfl, I1.kept (t' := s1.toks) fun b o e => Heap.get?_push_of_some _ e, turn_tuple a _, ⟨_, Heap.get?_push_size _ rfl, rfl, rfl⟩, fr, q⟩
theorem Post.bindI {K : PySem.W.Frag} {W : Wd} {xw : XK} {o : Out D} {k : D → Sto → Out (List D)} {R : It → Hp → Prop} {Q' : VK} (p : PostI K G W xw (o.bind k) R)
    (h : ∀ d st W' v, o = .ok d st → W.le W' → Abs K G W' st → RelD K G W' d v → PostI K G W xw (k d st) R → Q' v W'.H) : Post K G W xw o Q' := by
  cases o with
  | bad => exact p
  | ok d st => exact fun W' v l a r => h d st W' v rfl l a r p
  | exc c fs st => exact p
theorem di_seq {tg : Expr} (h : DE X G wx a ga) : DI X G wx tg a (iSeq ga) := ⟨(pi_any h.pe).imp fun σ H R q => by
  obtain ⟨W, env, st, rfl, A, re, p⟩ := q
  refine ⟨W, env, st, rfl, A, re, Post.bindI p fun d st1 W1 v _ l1 A1 r1 p1 => ?_⟩
  cases d with
  | tup ds =>
    obtain ⟨p, vs, rfl, hq, rs⟩ := r1.sq_tup
    exact ⟨p, rfl, .inr ⟨⟨vs, hq W1 (Wd.le.lf .rfl')⟩, p1 W1 _ l1 A1 (iter_tup hq rs)⟩⟩
  | lst ds =>
    obtain ⟨p, vs, rfl, hf, hr, rs⟩ := r1.sq_lst
    exact ⟨p, rfl, .inl ⟨⟨vs, .inl (.inl hr)⟩, p1 W1 _ l1 A1 (iter_lst (fun W2 l => .inl (.inl ((l.h _ hf).trans hr))) rs)⟩⟩
  | rdl ds =>
    obtain ⟨p, vs, rfl, hq, rs⟩ := r1.sq_rdl
    exact ⟨p, rfl, .inl ⟨⟨vs, hq W1 (Wd.le.lf .rfl')⟩, p1 W1 _ l1 A1 (iter_lst hq rs)⟩⟩
  | _ => exact False.elim p1⟩
def rangeD (n : Nat) : List D := (List.range n).map fun (i : Nat) => .int (i : Int)
/-- range(n) -/
def iRange (g : Den) : DenA := fun env st => (g env st).bind fun d st1 => match d with
  | .int j => if -10000000 ≤ j ∧ j ≤ 10000000 then .ok (rangeD j.toNat) st1 else .bad
  | _ => .bad
theorem iter_range {K : PySem.W.Frag} {W : Wd} {n : Nat} : IterOk K G W (Itr 0 n) (rangeD n) := by
  have hl : (rangeD n).length = n := by simp [rangeD]
  have w := walk_range (lo := 0) (n := n)
  refine ⟨fun i W2 hi l => w.goes i W2.H (by rw [hl] at hi; exact hi) trivial, fun W2 l => by rw [hl]; exact w.stops W2.H trivial, fun i W2 st x H' hi l a y => ?_⟩
  rw [hl] at hi
  obtain ⟨e1, e2⟩ := w.yields i W2.H x H' hi trivial y
  refine ⟨W2, .int (i : Int), .rfl', e1.symm, a, by simp [rangeD, hi], ?_⟩
  have e3 : x = V.int (0 + (i : Int)) := e2
  rw [e3, Int.zero_add]
  exact .int _
theorem di_range {tg : Expr} {p : Pos} (hg : Gl X "range") (hm : X.mg "range" = none) (h : DE X G wx a ga) (hs : starEach [a] X.env = [(false, eval a X.env)] := by rfl) (hs2 : starEach (a :: []) X.env = (false, eval a X.env) :: starEach [] X.env := by rfl) :
    DI X G wx tg (.Call (.Name "range" p) [a] [] pos) (iRange ga) := ⟨(pi_range1 hg hm (pa_cons h.pe pa_nil hs2) hs).imp fun σ H R q => by
  obtain ⟨W, env, st, rfl, A, re, p⟩ := q
  refine ⟨W, env, st, rfl, A, re, Post.bindI p fun d st1 W1 v _ l1 A1 r1 p1 => ?_⟩
  cases d with
  | int j =>
    cases r1
    have p1' : PostI X.K G W (fun cls d H => wx cls d σ H) (if -10000000 ≤ j ∧ j ≤ 10000000 then .ok (rangeD j.toNat) st1 else .bad) R := p1
    by_cases hj : -10000000 ≤ j ∧ j ≤ 10000000
    · rw [if_pos hj] at p1'
      exact ⟨j, rfl, by omega, by omega, p1' W1 _ l1 A1 iter_range⟩
    · rw [if_neg hj] at p1'
      exact False.elim p1'
  | _ => exact False.elim p1⟩

/-! ### for -/
def forRun (gt : DenG) (gb : DenS) : List D → DEnv → Sto → SOut
  | [], env, st => .nx env st
  | d :: ds, env, st => match gt d env st with
    | .ok env1 st1 => match gb env1 st1 with
      | .nx env2 st2 => forRun gt gb ds env2 st2
      | .ct env2 st2 => forRun gt gb ds env2 st2
      | .bk env2 st2 => .nx env2 st2
      | .bad => .bad
      | .rt d st2 => .rt d st2
      | .exc c fs env2 st2 => .exc c fs env2 st2
    | _ => .bad
def sFor (gi : DenA) (gt : DenG) (gb : DenS) : DenS := fun env st => match gi env st with
  | .bad => .bad
  | .ok ds st1 => forRun gt gb ds env st1
  | .exc c fs st1 => .exc c fs env st1
theorem ds_for {tg iter : Expr} {body : List Stmt} {gi : DenA} {gt : DenG} {gb : DenS} (hp : PassesOwn (model X.prog X.w) X.A X.env X.xe) (hc : X.calm = true) (hi : DI X G wx tg iter gi) (ht : DG X G tg gt) (hb : DSs X G wx body gb) (h : ∀ {wi : TI} {g : TG} {tb : TS}, PI X tg iter wi → PG X tg g → PSs X body tb → PS X (.For tg iter body [] pos) (tFor wi g tb)) :
    DS X G wx (.For tg iter body [] pos) (sFor gi gt gb) := ⟨(h hi.pi ht.pg hb.pss).imp fun D σ H q => by
  obtain ⟨W, env, st, rfl, A, re, p⟩ := q
  unfold sFor at p
  refine ⟨W, env, st, rfl, A, re, ?_⟩
  cases hg : gi env st with
  | bad => rw [hg] at p; exact False.elim p
  | exc c fs st1 => rw [hg] at p; exact p σ W .rfl' re
  | ok ds st1 =>
    rw [hg] at p
    intro W1 J l1 A1 it
    have p1 : PostS X.K G W1 wx (forRun gt gb ds env st1) D := PostS.up p l1
    let Pv : Nat → L2.St → Hp → Prop := fun i σ' H' => ∃ W2 env2 st2, W1.le W2 ∧ W2.H = H' ∧ Abs X.K G W2 st2 ∧ REnv X.K G W2 env2 σ' ∧ PostS X.K G W2 wx (forRun gt gb (ds.drop i) env2 st2) D
    refine ⟨fun i m σ' H' => m = ds.length - i ∧ i ≤ ds.length ∧ Pv i σ' H', ⟨ds.length, by simp, Nat.zero_le _, W1, env, st1, .rfl', rfl, A1, re.up l1, p1⟩, ?_⟩
    rintro i m σ' H' ⟨rfl, hi, W2, env2, st2, l2, rfl, A2, re2, p2⟩
    by_cases hlt : i < ds.length
    · refine .inr ⟨it.goes i W2 hlt l2.lf, Pv (i + 1), fun σ3 H3 p3 => ⟨ds.length - (i + 1), by omega, rfl, hlt, p3⟩, fun x H3 y => ?_⟩
      obtain ⟨W3, d, l3, rfl, A3, ed, rd⟩ := it.yields i W2 st2 x H3 hlt l2.lf A2 y
      obtain ⟨hlt', ed'⟩ := List.getElem?_eq_some_iff.mp ed
      rw [List.drop_eq_getElem_cons hlt, ed'] at p2
      refine ⟨W3, env2, d, st2, rfl, A3, re2.up l3, rd, ?_⟩
      have p3 := PostS.up p2 l3
      unfold forRun at p3
      cases hg : gt d env2 st2 with
      | bad => rw [hg] at p3; exact False.elim p3
      | exc c fs st4 => rw [hg] at p3; exact False.elim p3
      | ok env4 st4 =>
        rw [hg] at p3
        intro W4 σ4 l4 A4 re4
        refine ⟨W4, env4, st4, rfl, A4, re4, ?_⟩
        have p4 := PostS.up p3 l4
        dsimp only at p4
        have l14 : W1.le W4 := l2.trans (l3.trans l4)
        cases hgb : gb env4 st4 with
        | bad => rw [hgb] at p4; exact False.elim p4
        | nx env5 st5 => rw [hgb] at p4; exact fun W5 σ5 l5 A5 re5 => ⟨W5, env5, st5, l14.trans l5, rfl, A5, re5, PostS.up p4 l5⟩
        | ct env5 st5 => rw [hgb] at p4; exact fun W5 σ5 l5 A5 re5 => ⟨W5, env5, st5, l14.trans l5, rfl, A5, re5, PostS.up p4 l5⟩
        | bk env5 st5 => rw [hgb] at p4; exact p4
        | rt d5 st5 => rw [hgb] at p4; exact p4
        | exc c fs env5 st5 => rw [hgb] at p4; exact p4
    · have e : i = ds.length := by omega
      subst e
      rw [List.drop_length] at p2
      exact .inl ⟨it.stops W2 l2.lf, p2 W2 σ' .rfl' A2 re2⟩⟩
end
end DL

set_option Elab.async false
set_option linter.all false
set_option maxRecDepth 100000
/-! # DComp: list comprehensions of one clause -/
namespace DL
open PySem PySem.Spec PyProof.Rows L2

/-- no exception is let out -/
def Out.nox {α : Type} (o : Out α) : Out α := match o with
  | .exc _ _ _ => .bad
  | o => o
abbrev W0 : WX := fun _ _ _ _ => False
/-- slots forgotten -/
def wipeD (env : DEnv) : List Nat → DEnv
  | [] => env
  | v :: vs => (wipeD env vs).set v none
def lcRun (gt : D → DEnv → Option DEnv) (gf : DenB) (ge : Den) (env : DEnv) : List D → Sto → Out (List D)
  | [], st => .ok [] st
  | d :: ds, st => match gt d env with
    | none => .bad
    | some env1 => (gf env1 st).nox.bind fun k st1 =>
      if k = true then (ge env1 st1).nox.bind fun y st2 => (lcRun gt gf ge env ds st2).bind fun ys st3 => .ok (y :: ys) st3
      else lcRun gt gf ge env ds st1
def dLc (gi : DenA) (own : List Nat) (gt : D → DEnv → Option DEnv) (gf : DenB) (ge : Den) : Den := fun env st =>
  (gi env st).bind fun ds st1 => if ds.length ≤ 10000000 then (lcRun gt gf ge (wipeD env own) ds st1).bind fun ys st2 => .ok (.lst ys) st2 else .bad
theorem lcRun_len {gt : D → DEnv → Option DEnv} {gf : DenB} {ge : Den} {env : DEnv} : ∀ {ds : List D} {st st' : Sto} {ys : List D}, lcRun gt gf ge env ds st = .ok ys st' → ys.length ≤ ds.length
  | [], st, st', ys, h => by cases h; exact Nat.le_refl _
  | d :: ds, st, st', ys, h => by
    unfold lcRun at h
    cases hg : gt d env with
    | none => rw [hg] at h; cases h
    | some env1 =>
      rw [hg] at h
      dsimp only at h
      cases hf : (gf env1 st).nox with
      | bad => rw [hf] at h; cases h
      | exc c fs st1 => rw [hf] at h; cases h
      | ok k st1 =>
        rw [hf] at h
        cases k with
        | false => exact Nat.le_succ_of_le (lcRun_len h)
        | true =>
          have h' : ((ge env1 st1).nox.bind fun y st2 => (lcRun gt gf ge env ds st2).bind fun ys st3 => .ok (y :: ys) st3) = .ok ys st' := h
          cases he : (ge env1 st1).nox with
          | bad => rw [he] at h'; cases h'
          | exc c fs st2 => rw [he] at h'; cases h'
          | ok y st2 =>
            rw [he] at h'
            have h2 : ((lcRun gt gf ge env ds st2).bind fun ys st3 => .ok (y :: ys) st3) = .ok ys st' := h'
            cases hr : lcRun gt gf ge env ds st2 with
            | bad => rw [hr] at h2; cases h2
            | exc c fs st3 => rw [hr] at h2; cases h2
            | ok zs st3 =>
              rw [hr] at h2
              cases h2
              exact Nat.succ_le_succ (lcRun_len hr)

section
variable {X : Cx} {G : CG} {wx : WX}
/-- a target that sets slots of its own -/
def TGok (K : PySem.W.Frag) (G : CG) (t : TG) (gt : D → DEnv → Option DEnv) (vs : List Nat) : Prop :=
  ∀ (W : Wd) (env : DEnv) (d : D) (st : Sto) (v : V) (σ : L2.St) (Q : L2.St → Hp → Prop), Abs K G W st → REnv K G W env σ → RelD K G W d v →
    (match gt d env with | some env1 => ∀ σ', REnv K G W env1 σ' → wipe σ' vs = wipe σ vs → Q σ' W.H | none => False) → t v σ W.H Q
theorem wipe_set {v : V} {i : Nat} : ∀ {vs : List Nat} {σ : L2.St}, i ∈ vs → wipe (σ.set i (some v)) vs = wipe σ vs
  | [], _, h => by simp at h
  | j :: vs, σ, h => by
    unfold wipe
    by_cases hj : i = j
    · subst hj
      by_cases hm : i ∈ vs
      · rw [wipe_set hm]
      · have e : ∀ (vs : List Nat) (σ : L2.St), i ∉ vs → wipe (σ.set i (some v)) vs = (wipe σ vs).set i (some v) := by
          intro vs
          induction vs with
          | nil => intro σ _; rfl
          | cons k ks ih =>
            intro σ hk
            simp only [List.mem_cons, not_or] at hk
            unfold wipe
            rw [ih σ hk.2, List.set_comm _ _ hk.1]
        rw [e vs σ hm, List.set_set]
    · have hm : i ∈ vs := by
        rcases List.mem_cons.mp h with h | h
        · exact absurd h hj
        · exact h
      rw [wipe_set hm]
def gtN (i : Nat) : D → DEnv → Option DEnv := fun d env => some (env.set i (some d))
theorem tg_name {K : PySem.W.Frag} {i : Nat} {vs : List Nat} (h : i ∈ vs) : TGok K G (gName i) (gtN i) vs := fun W env d st v σ Q A re rd q => q _ (re.set rd) (wipe_set h)
def gtSet : List Nat → List D → DEnv → Option DEnv
  | [], [], env => some env
  | i :: is, d :: ds, env => gtSet is ds (env.set i (some d))
  | _, _, _ => none
def gNames : List Nat → TGs
  | [] => gNil
  | i :: is => gCons (gName i) (gNames is)
def gtT (is : List Nat) : D → DEnv → Option DEnv := fun d env => match d with
  | .tup ds => gtSet is ds env
  | _ => none
theorem tg_tup {K : PySem.W.Frag} {is vs : List Nat} (h : ∀ i ∈ is, i ∈ vs) : TGok K G (gTup K is.length (gNames is)) (gtT is) vs := fun W env d st v σ Q A re rd q => by
  cases d with
  | tup ds =>
    obtain ⟨p, ws, rfl, hq, rs⟩ := rd.sq_tup
    have key : ∀ (is : List Nat) (ds : List D) (ws : List V) (env : DEnv) (σ₁ : L2.St), (∀ i ∈ is, i ∈ vs) → RelDs K G W ds ws → REnv K G W env σ₁ → wipe σ₁ vs = wipe σ vs →
        (match gtSet is ds env with | some env1 => ∀ σ', REnv K G W env1 σ' → wipe σ' vs = wipe σ vs → Q σ' W.H | none => False) → is.length = ws.length ∧ gNames is ws σ₁ W.H Q := by
      intro is
      induction is with
      | nil =>
        intro ds ws env σ₁ _ rs re hw q
        cases rs with
        | nil => exact ⟨rfl, rfl, q σ₁ re hw⟩
        | cons _ _ => exact False.elim q
      | cons i is ih =>
        intro ds ws env σ₁ hm rs re hw q
        cases rs with
        | nil => exact False.elim q
        | @cons d ds w ws r rs =>
          have hi : i ∈ vs := hm i List.mem_cons_self
          obtain ⟨h1, h2⟩ := ih ds ws (env.set i (some d)) (σ₁.set i (some w)) (fun j hj => hm j (List.mem_cons_of_mem _ hj)) rs (re.set r) ((wipe_set hi).trans hw) q
          exact ⟨by simp [h1], w, ws, rfl, h2⟩
    obtain ⟨h1, h2⟩ := key is ds ws env σ h rs re rfl q
    exact ⟨p, ws, rfl, hq W (Wd.le.lf .rfl'), h1.symm, h2⟩
  | _ => exact False.elim q
theorem REnv.wiped {K : PySem.W.Frag} {W : Wd} {env : DEnv} {σ : L2.St} (re : REnv K G W env σ) : ∀ vs : List Nat, REnv K G W (wipeD env vs) (L2.wipe σ vs)
  | [] => re
  | v :: vs => by
    have ih := REnv.wiped re vs
    unfold wipeD L2.wipe
    refine ⟨by rw [List.length_set, List.length_set]; exact ih.1, fun j e h => ?_⟩
    by_cases hj : v = j
    · subst hj
      by_cases hl : v < (wipeD env vs).length
      · rw [List.getElem?_set_self hl] at h; cases h
      · rw [List.getElem?_eq_none (by rw [List.length_set]; omega)] at h; cases h
    · rw [List.getElem?_set_ne hj] at h ⊢
      exact ih.2 j e h
theorem wipe_wipe (σ : L2.St) (vs : List Nat) : L2.wipe (L2.wipe σ vs) vs = L2.wipe σ vs := by
  apply List.ext_getElem?
  intro i
  have len : ∀ (l : List Nat) (τ : L2.St), (L2.wipe τ l).length = τ.length := fun l τ => wipe_length τ l
  have at' : ∀ (l : List Nat) (τ : L2.St) (i : Nat), (L2.wipe τ l)[i]? = if i ∈ l ∧ i < τ.length then some none else τ[i]? := by
    intro l
    induction l with
    | nil => intro τ i; simp [L2.wipe]
    | cons v l ih =>
      intro τ i
      unfold L2.wipe
      by_cases hv : v = i
      · subst hv
        by_cases hl : v < τ.length
        · rw [List.getElem?_set_self (by rw [len]; exact hl), if_pos ⟨List.mem_cons_self, hl⟩]
        · rw [List.getElem?_eq_none (by rw [List.length_set, len]; omega), if_neg (fun z => hl z.2), List.getElem?_eq_none (by omega)]
      · rw [List.getElem?_set_ne hv, ih]
        have : (i ∈ l ∧ i < τ.length) ↔ (i ∈ v :: l ∧ i < τ.length) := by
          rw [List.mem_cons]
          exact ⟨fun z => ⟨.inr z.1, z.2⟩, fun z => ⟨z.1.resolve_left fun e => hv e.symm, z.2⟩⟩
        by_cases hh : i ∈ l ∧ i < τ.length
        · rw [if_pos hh, if_pos (this.mp hh)]
        · rw [if_neg hh, if_neg fun z => hh (this.mpr z)]
  rw [at', at', len]
  split <;> rfl

/-- the reading of a comprehension -/
theorem tLc_of {K : PySem.W.Frag} {gi : DenA} {own : List Nat} {gt : D → DEnv → Option DEnv} {gf : DenB} {ge : Den} {t : TG} (ht : TGok K G t gt own) (σ : L2.St) (H : Hp) (Q : VK)
    (q : rE K G wx (dLc gi own gt gf ge) σ H Q) : tLc (rI K G wx gi) t (rB K G W0 gf) (rE K G W0 ge) own σ H Q := by
  obtain ⟨W, env, st, rfl, A, re, p⟩ := q
  refine ⟨W, env, st, rfl, A, re, ?_⟩
  unfold dLc at p
  cases hg : gi env st with
  | bad => rw [hg] at p; exact False.elim p
  | exc c fs st1 => rw [hg] at p; exact p
  | ok ds st1 =>
    rw [hg] at p
    intro W1 J l1 A1 it L hL
    have p1 : Post K G W1 (fun cls d H => wx cls d σ H) (if ds.length ≤ 10000000 then (lcRun gt gf ge (wipeD env own) ds st1).bind fun ys st2 => .ok (.lst ys) st2 else .bad) Q := Post.up p l1
    by_cases hz : ds.length ≤ 10000000
    · rw [if_pos hz] at p1
      have re1 : REnv K G W1 env σ := re.up l1
      -- the new list is held aside
      have nT1 : ¬ W1.T L := fun z => by
        obtain ⟨u, e⟩ := A1.fz L (.inr z)
        rw [hL] at e; cases e
      have nF1 : ¬ W1.F L := fun z => by
        obtain ⟨u, e⟩ := A1.fz L (.inl z)
        rw [hL] at e; cases e
      let T2 : Addr → Prop := fun a => W1.T a ∨ a = L
      let Pv : Nat → Hp → Prop := fun i H' => ∃ W2 st2 acc accV, W1.le (W2.hold W1.T) ∧ W2.T = T2 ∧ W2.H = H' ∧ W2.H L = some (.lst accV) ∧ RelDs K G W2 acc accV ∧ Abs K G W2 st2 ∧ acc.length ≤ i ∧ ¬ W2.F L ∧
        Post K G W1 (fun cls d H => wx cls d σ H) ((lcRun gt gf ge (wipeD env own) (ds.drop i) st2).bind fun ys st3 => .ok (.lst (acc ++ ys)) st3) Q
      refine ⟨fun i m H' => m = ds.length - i ∧ i ≤ ds.length ∧ Pv i H', ⟨ds.length, by simp, Nat.zero_le _, ?_⟩, ?_⟩
      · obtain ⟨A2, l2⟩ := A1.aside (o := .lst []) hL
        refine ⟨Wd.hold ⟨W1.ρ, W1.F, W1.T, upd W1.H L (.lst [])⟩ T2, st1, [], [], l2, rfl, rfl, upd_same, .nil, A2.keepT (fun a h => ?_) (fun a h z => ?_) (fun i o a hm hr h => ?_), Nat.le_refl _, nF1, ?_⟩
        · rcases h with h | rfl
          · exact A2.fz a (.inr h)
          · exact ⟨_, upd_same⟩
        · rcases h with h | rfl
          · exact A1.ft a z h
          · exact nF1 z
        · obtain ⟨b, eb, nb, rb⟩ := A1.obj i o hm
          have eb' : W1.ρ i = some a := hr
          rw [eb'] at eb
          cases eb
          rcases h with h | rfl
          · exact nb (.inr h)
          · obtain ⟨u, eu⟩ := rb.some
            rw [hL] at eu; cases eu
        · exact p1
      · rintro i m H' ⟨rfl, hi, W2, st2, acc, accV, l12, eT, rfl, eL, ra, A2, hacc, nF2, p2⟩
        have lf12 : W1.lf W2 := ⟨l12.r, l12.f, l12.h⟩
        have TL2 : W2.T L := by rw [eT]; exact .inr rfl
        by_cases hlt : i < ds.length
        · refine .inr ⟨it.goes i W2 hlt lf12, Pv (i + 1), fun H3 p3 => ⟨ds.length - (i + 1), by omega, rfl, hlt, p3⟩, fun x H3 y => ?_⟩
          obtain ⟨W3, d, l3, rfl, A3, ed, rd⟩ := it.yields i W2 st2 x H3 hlt lf12 A2 y
          obtain ⟨hlt', ed'⟩ := List.getElem?_eq_some_iff.mp ed
          rw [List.drop_eq_getElem_cons hlt, ed'] at p2
          have re3 : REnv K G W3 (wipeD env own) (L2.wipe σ own) := REnv.wiped (⟨re1.1, fun i d e => let ⟨v, h1, h2⟩ := re1.2 i d e; ⟨v, h1, (h2.uf lf12).up l3⟩⟩ : REnv K G W3 env σ) own
          unfold lcRun at p2
          refine ht W3 (wipeD env own) d st2 x (L2.wipe σ own) _ A3 re3 rd ?_
          cases hgt : gt d (wipeD env own) with
          | none => rw [hgt] at p2; exact p2
          | some env4 =>
            rw [hgt] at p2
            intro σ4 re4 hw4
            refine ⟨hw4.trans (wipe_wipe σ own), W3, env4, st2, rfl, A3, re4, ?_⟩
            dsimp only at p2
            cases hf : gf env4 st2 with
            | bad => rw [hf] at p2; exact False.elim p2
            | exc c fs st5 => rw [hf] at p2; exact False.elim p2
            | ok k st5 =>
              rw [hf] at p2
              intro W5 l5 A5
              have l25 : W2.le W5 := l3.trans l5
              have up1 : ∀ {W' : Wd}, W2.le W' → W1.le (W'.hold W1.T) := fun {W'} l => l12.trans (Wd.le.unhold (W := W2.hold W1.T) (T := W2.T) (show ((W2.hold W1.T).hold W2.T).le W' from l) fun a h => by rw [eT]; exact .inl h)
              have nF : ∀ {W' : Wd} {st : Sto}, W2.le W' → Abs K G W' st → ¬ W'.F L := fun {W' st} l a z => a.ft L z (by rw [l.t]; exact TL2)
              cases k with
              | false =>
                rw [if_neg Bool.false_ne_true]
                exact ⟨W5, st5, acc, accV, up1 l25, l25.t.trans eT, rfl, (l25.k L TL2).trans eL, ra.up l25, A5, Nat.le_succ_of_le hacc, nF l25 A5, p2⟩
              | true =>
                rw [if_pos rfl]
                refine ⟨W5, env4, st5, rfl, A5, re4.up l5, ?_⟩
                have p5 : Post K G W1 (fun cls d H => wx cls d σ H) (((ge env4 st5).nox.bind fun y st2 => (lcRun gt gf ge (wipeD env own) (ds.drop (i + 1)) st2).bind fun ys st3 => Out.ok (y :: ys) st3).bind fun ys st3 => .ok (.lst (acc ++ ys)) st3) Q := p2
                cases he : ge env4 st5 with
                | bad => rw [he] at p5; exact False.elim p5
                | exc c fs st6 => rw [he] at p5; exact False.elim p5
                | ok y st6 =>
                  rw [he] at p5
                  intro W6 yv l6 A6 ry
                  have l26 : W2.le W6 := l25.trans l6
                  have l16 := up1 l26
                  have eL6 : W6.H L = some (.lst accV) := (l26.k L TL2).trans eL
                  have TL6 : W6.T L := by rw [l26.t]; exact TL2
                  have lf67 : W6.lf ⟨W6.ρ, W6.F, W6.T, upd W6.H L (.lst (accV ++ [yv]))⟩ := ⟨fun _ _ h => h, fun _ h => h, fun a h => upd_ne fun (z : a = L) => A6.ft a h (by rw [z]; exact TL6)⟩
                  refine ⟨accV, eL6, by rw [← ra.length, sizeLine_eq]; omega, ⟨W6.ρ, W6.F, W6.T, upd W6.H L (.lst (accV ++ [yv]))⟩, st6, acc ++ [y], accV ++ [yv], ⟨l16.r, l16.f, fun a h => ?_, rfl, fun a h => ?_⟩, l26.t.trans eT, rfl, upd_same,
                    ((ra.up l26).append (.cons ry .nil)).uf lf67, A6.wrT TL6, by rw [List.length_append]; simpa using hacc, (fun (z : W6.F L) => nF l26 A6 z), ?_⟩
                  · exact (upd_ne fun (z : a = L) => nF1 (by rw [← z]; exact h)).trans (l16.h a h)
                  · exact (upd_ne fun (z : a = L) => nT1 (by rw [← z]; exact h)).trans (l16.k a h)
                  · have p6 : Post K G W1 (fun cls d H => wx cls d σ H) (((lcRun gt gf ge (wipeD env own) (ds.drop (i + 1)) st6).bind fun ys st3 => Out.ok (y :: ys) st3).bind fun ys st3 => .ok (.lst (acc ++ ys)) st3) Q := p5
                    cases hr : lcRun gt gf ge (wipeD env own) (ds.drop (i + 1)) st6 with
                    | bad => rw [hr] at p6; exact False.elim p6
                    | exc c fs st7 => rw [hr] at p6; exact p6
                    | ok zs st7 =>
                      rw [hr] at p6
                      have e7 : acc ++ [y] ++ zs = acc ++ y :: zs := by simp
                      show Post K G W1 _ (.ok (.lst (acc ++ [y] ++ zs)) st7) Q
                      rw [e7]
                      exact p6
        · have e : i = ds.length := by omega
          subst e
          rw [List.drop_length] at p2
          refine .inl ⟨it.stops W2 lf12, ?_⟩
          have p3 : ∀ W' v, W1.le W' → Abs K G W' st2 → RelD K G W' (.lst (acc ++ [])) v → Q v W'.H := p2
          have lz : W2.lf ((W2.hold W1.T).frz L) := ⟨fun _ _ h => h, fun _ h => .inl h, fun _ _ => rfl⟩
          refine p3 ((W2.hold W1.T).frz L) (.ref L) (l12.trans Wd.le_frz) (A2.frzT TL2 (fun a h => by rw [eT]; exact .inl h) nT1) ?_
          rw [List.append_nil]
          exact .lst (.inr rfl) eL (ra.uf lz)
    · rw [if_neg hz] at p1
      exact False.elim p1
end
end DL

set_option Elab.async false
set_option linter.all false
set_option maxRecDepth 100000
/-! # DCall: comprehensions as expressions, calls of defs, attributes, methods, new instances -/
namespace DL
open PySem PySem.Spec PyProof.Rows L2

/-! ### a comprehension's tests, the comprehension -/
structure DTs (X : Cx) (G : CG) (ifs : List Expr) (g : DenB) : Prop where
  pts : PTs X ifs (rB X.K G W0 g)
theorem _root_.L2.PTs.imp {X : Cx} {e : List Expr} {t t' : TT} (h : PTs X e t) (i : ∀ σ H Q, t' σ H Q → t σ H Q) : PTs X e t' := ⟨fun pins s σ H Q I q => h.run pins s σ H Q I (i σ H Q q)⟩
def bYes : DenB := fun _ st => .ok true st
section
variable {X : Cx} {G : CG} {wx : WX}
theorem dts_nil : DTs X G [] bYes := ⟨pts_nil.imp fun σ H Q q => by
  obtain ⟨W, env, st, rfl, A, re, p⟩ := q
  exact p W .rfl' A⟩
theorem dts_one {c : Expr} {g : DenB} (h : DB X G W0 c g) : DTs X G [c] g := ⟨pts_one h.pt⟩
section
variable {elt tg iter : Expr} {ifs : List Expr} {scope : Scope} {own : List (Str × Nat)} {pos : Pos} {gi : DenA} {t : TG} {gt : D → DEnv → Option DEnv} {gf : DenB} {ge : Den}
theorem de_lc (hc : X.calm = true) (hN : X.N.Nodup) (hi : DI X G wx tg iter gi) (ok : BlkOk X.N X.env.scope scope own)
    (hg : ∀ (s : Shared) (H : Hp) (C : Addr) (cl : List (Str × Addr)) (fp : List Addr), PG (X.blk s H scope (compEnvC scope cl C X.env) fp) tg t) (ht : TGok X.K G t gt (own.map (·.2)))
    (hf : ∀ (s : Shared) (H : Hp) (C : Addr) (cl : List (Str × Addr)) (fp : List Addr), DTs (X.blk s H scope (compEnvC scope cl C X.env) fp) G ifs gf)
    (he : ∀ (s : Shared) (H : Hp) (C : Addr) (cl : List (Str × Addr)) (fp : List Addr), DE (X.blk s H scope (compEnvC scope cl C X.env) fp) G W0 elt ge) (hs : ∀ x, foldedSetIterable iter X.env x = pure x := by intro _; rfl) :
    DE X G wx (.ListComp elt [⟨tg, iter, ifs, 0⟩] scope pos) (dLc gi (own.map (·.2)) gt gf ge) :=
  ⟨(pe_lc hc hN hi.pi ok hg (fun s H C cl fp => (hf s H C cl fp).pts) (fun s H C cl fp => (he s H C cl fp).pe) hs).imp fun σ H Q q => tLc_of ht σ H Q q⟩
/-- name = [..] on one line -/
theorem ds_setLc {i : Nat} {y : Str} {py spos : Pos} (hc : X.calm = true) (hN : X.N.Nodup) (hy : X.N[i]? = some y) (hyl : X.env.scope.names.lookup y = some .local)
    (hsw : swapsWith (.ListComp elt [⟨tg, iter, ifs, 0⟩] scope pos) (some (.Name y py)) spos.line X.env = pure true) (hi : DI X G wx tg iter gi) (ok : BlkOk X.N X.env.scope scope own)
    (hg : ∀ (s : Shared) (H : Hp) (C : Addr) (cl : List (Str × Addr)) (fp : List Addr), PG (X.blk s H scope (compEnvC scope cl C X.env) fp) tg t) (ht : TGok X.K G t gt (own.map (·.2)))
    (hf : ∀ (s : Shared) (H : Hp) (C : Addr) (cl : List (Str × Addr)) (fp : List Addr), DTs (X.blk s H scope (compEnvC scope cl C X.env) fp) G ifs gf)
    (he : ∀ (s : Shared) (H : Hp) (C : Addr) (cl : List (Str × Addr)) (fp : List Addr), DE (X.blk s H scope (compEnvC scope cl C X.env) fp) G W0 elt ge) (hs : ∀ x, foldedSetIterable iter X.env x = pure x := by intro _; rfl) :
    DS X G wx (.Assign [.Name y py] (.ListComp elt [⟨tg, iter, ifs, 0⟩] scope pos) spos) (sAsg (dLc gi (own.map (·.2)) gt gf ge) (gN i)) :=
  ⟨(ps_setLc hc hN hy hyl hsw hi.pi ok hg (fun s H C cl fp => (hf s H C cl fp).pts) (fun s H C cl fp => (he s H C cl fp).pe) hs).imp fun D σ H q => by
    refine tLc_of (wx := wx) (gi := gi) (gf := gf) (ge := ge) ht σ H _ ?_
    obtain ⟨W, env, st, rfl, A, re, p⟩ := q
    refine ⟨W, env, st, rfl, A, re, Post.go re p fun d st1 W1 v _ l1 A1 r1 p1 => ?_⟩
    exact p1 W1 _ .rfl' A1 ((re.up l1).set r1)⟩
end

/-! ### calls of defs -/
section
variable {k : Nat} {f : Addr} {fd : FuncData} {ps : List Str} {fn : List D → Sto → Out D} {x : Str} {p pos : Pos} {e : Expr} {es : List Expr} {g : DenA}
def dCall (fn : List D → Sto → Out D) (g : DenA) : Den := fun env st => (g env st).bind fun ds st1 => fn ds st1
theorem de_call (F : FnOk X.prog X.w X.K X.mg X.base (L2.CX X.prog X.w) k f fd ps (spD X.K G fn)) (hr : Room k X.A) (hg : Gl X x) (hm : X.mg x = some (.ref f)) (hk : PySem.W.keepIn X.K (.ref f) = true) (hb : Binds X.K fd ps []) (tk : Takes X wx)
    (ha : DA X G wx (e :: es) g) (hdb : (x == ("__debug__" : Str)) = false := by decide) (he : starEach (e :: es) X.env = (false, eval e X.env) :: starEach es X.env := by rfl) (hpl : (backTo pos (starEach es X.env)).any (·.1) = false := by rfl) :
    DE X G wx (.Call (.Name x p) (e :: es) [] pos) (dCall fn g) := ⟨(pe_callS (E := WE wx) F hr hg hm hk hb (passAt tk) ha.pa hdb he hpl).imp fun σ H Q q => by
  obtain ⟨W, env, st, rfl, A, re, p⟩ := q
  exact ⟨W, env, st, rfl, A, re, PostA.bind p fun ds st1 W1 vs _ l1 A1 r1 p1 => ⟨W1, ds, st1, rfl, A1, r1, p1⟩⟩⟩
def dCall0 (fn : List D → Sto → Out D) : Den := fun env st => (fn [] st).nox
theorem Post.nox {K : PySem.W.Frag} {W : Wd} {xw xw' : XK} {o : Out D} {Q : VK} (p : Post K G W xw o.nox Q) : Post K G W xw' o Q := by
  cases o with
  | bad => exact p
  | ok d st => exact p
  | exc c fs st => exact False.elim p
theorem de_call0 (F : FnOk X.prog X.w X.K X.mg X.base (L2.CX X.prog X.w) k f fd ps (spD X.K G fn)) (hr : Room k X.A) (hg : Gl X x) (hm : X.mg x = some (.ref f)) (hk : PySem.W.keepIn X.K (.ref f) = true) (hb : Binds X.K fd ps [])
    (hdb : (x == ("__debug__" : Str)) = false := by decide) : DE X G wx (.Call (.Name x p) [] [] pos) (dCall0 fn) := ⟨(pe_call0 F hr hg hm hk hb .nil passL hdb).imp fun σ H Q q => by
  obtain ⟨W, env, st, rfl, A, re, p⟩ := q
  exact ⟨W, [], st, rfl, A, .nil, Post.nox p⟩⟩

/-- a def's body keeps its mirror's promise: g the body's denotation over the slots -/
def runBody (n : Nat) (g : DenS) (ds : List D) (st : Sto) : Out D := match g (ds.map some ++ List.replicate (n - ds.length) none) st with
  | .nx _ st1 => .ok .non st1
  | .rt d st1 => .ok d st1
  | .exc c fs _ st1 => .exc c fs st1
  | _ => .bad
theorem REnv.start {K : PySem.W.Frag} {W : Wd} {ds : List D} {vs : List V} {N : List Str} (r : RelDs K G W ds vs) (hl : vs.length ≤ N.length) : REnv K G W (ds.map some ++ List.replicate (N.length - ds.length) none) (L2.start N vs) := by
  have e := r.length
  refine ⟨by simp [L2.start, e], fun i d h => ?_⟩
  by_cases hi : i < ds.length
  · rw [List.getElem?_append_left (by simpa using hi), List.getElem?_map] at h
    cases hd : ds[i]? with
    | none => rw [hd] at h; cases h
    | some d' =>
      rw [hd] at h
      cases h
      obtain ⟨v, h1, h2⟩ := r.get hd
      refine ⟨v, ?_, h2⟩
      unfold L2.start
      rw [List.getElem?_append_left (by rw [List.length_map]; omega), List.getElem?_map, h1]
      rfl
  · rw [List.getElem?_append_right (by simpa using hi), List.getElem?_replicate] at h
    split at h <;> cases h
/-- from the body to the promise -/
theorem body_ok {K : PySem.W.Frag} {g : DenS} {N : List Str} {vs : List V} {H : Hp} {Q : VK} {E : XK} (hl : vs.length ≤ N.length) (q : spD K G (runBody N.length g) vs H Q E) :
    rS K G (fun cls d _ H => E cls d H) g { nx := fun _ H' => Q .non H', rt := Q } (L2.start N vs) H := by
  obtain ⟨W, ds, st, rfl, A, r, p⟩ := q
  refine ⟨W, _, st, rfl, A, REnv.start r hl, ?_⟩
  unfold runBody at p
  cases hg : g (ds.map some ++ List.replicate (N.length - ds.length) none) st with
  | bad => rw [hg] at p; exact p
  | nx env st1 => rw [hg] at p; exact fun W' σ' l a re => p W' .non l a .non
  | rt d st1 => rw [hg] at p; exact p
  | bk env st1 => rw [hg] at p; exact False.elim p
  | ct env st1 => rw [hg] at p; exact False.elim p
  | exc c fs env st1 => rw [hg] at p; exact fun σ' W1 l1 re1 => XcOk.up p l1
/-- a def of the text by its body -/
theorem fn_d {P : Program} {w : World} {K : PySem.W.Frag} {mg : Str → Option Value} {base : Heap} {x qual : Str} {st : Stmt} {f : Addr} {fd : FuncData} {N ps : List Str} {k : Nat} {g : DenS} {fn : List D → Sto → Out D} (F : Fun K x qual st f fd) (S : FnScope N ps (defScope st)) (hN : ps.length ≤ N.length)
    (hlen : ∀ ds s, ds.length ≠ ps.length → fn ds s = .bad)
    (hfn : ∀ ds s, fn ds s ≠ .bad → runBody N.length g ds s = fn ds s)
    (hbody : ∀ (cdv : Value) (A : Around) (outer : List Env) (s : Shared) (H : Hp) (E : XK), Room k (A.deeper (envOfC qual (defScope st) s.heap.objs.size f cdv)) →
      DSs (cxOf (L2.CX P w) P w K mg base N qual (defScope st) f cdv A outer s H E) G (fun cls d _ H => E cls d H) (defBody st) g) : FnOk P w K mg base (L2.CX P w) (k + 1) f fd ps (spD K G fn) := by
  have len : ∀ vs H Q E, spD K G fn vs H Q E → vs.length = ps.length := fun vs H Q E q => by
    obtain ⟨W, ds, st, rfl, A, r, p⟩ := q
    by_cases h : ds.length = ps.length
    · exact r.length ▸ h
    · rw [hlen ds st h] at p; exact False.elim p
  refine F.okX S len fun cdv A outer s H vs Q E hr q => ?_
  refine ⟨_, (hbody cdv A outer s H E hr).pss, body_ok (by rw [len vs H Q E q]; exact hN) ?_⟩
  obtain ⟨W, ds, st, rfl, A', r, p⟩ := q
  refine ⟨W, ds, st, rfl, A', r, ?_⟩
  cases hf : fn ds st with
  | bad => rw [hf] at p; exact False.elim p
  | ok d st1 => rw [hfn ds st (by rw [hf]; exact fun z => by cases z)]; exact p
  | exc c fs st1 => rw [hfn ds st (by rw [hf]; exact fun z => by cases z)]; exact p
end
/-- the context of a def takes what it raises -/
theorem takes_cx {P : Program} {w : World} {K : PySem.W.Frag} {mg : Str → Option Value} {base : Heap} {N : List Str} {qual : Str} {sc : Scope} {f : Addr} {cdv : Value} {A : Around} {outer : List Env} {s : Shared} {H : Hp} {E : XK} :
    Takes (cxOf (L2.CX P w) P w K mg base N qual sc f cdv A outer s H E) (fun cls d _ H => E cls d H) := takes_of rfl rfl rfl rfl
theorem passes_cx {P : Program} {w : World} {K : PySem.W.Frag} {mg : Str → Option Value} {base : Heap} {N : List Str} {qual : Str} {sc : Scope} {f : Addr} {cdv : Value} {A : Around} {outer : List Env} {s : Shared} {H : Hp} {E : XK} :
    PassesOwn (model P w) (cxOf (L2.CX P w) P w K mg base N qual sc f cdv A outer s H E).A (cxOf (L2.CX P w) P w K mg base N qual sc f cdv A outer s H E).env (cxOf (L2.CX P w) P w K mg base N qual sc f cdv A outer s H E).xe := passes_of rfl

/-! ### attributes -/
section
variable {o e : Expr} {f : Str} {go ga : Den} {pos pos' : Pos}
/-- the attributes of an instance, frozen or the store's -/
def insOf (d : D) (st : Sto) : Option (String × List (Str × D)) := match d with
  | .ins c fs => some (c, fs)
  | .ref i => match st.m i with | some (.ins c fs) => some (c, fs) | _ => none
  | _ => none
theorem ins_of {K : PySem.W.Frag} {W : Wd} {d : D} {st : Sto} {v : V} {c : String} {fs : List (Str × D)} (A : Abs K G W st) (r : RelD K G W d v) (h : insOf d st = some (c, fs)) :
    ∃ a C dx gs, v = .ref a ∧ G c = some C ∧ W.H a = some (.ins C dx gs) ∧ RelFs K G W fs gs := by
  cases d with
  | ins c' fs' =>
    cases h
    cases r with
    | ins hf hc hr hs => exact ⟨_, _, _, _, rfl, hc, hr, hs⟩
  | ref i =>
    cases r with
    | @ref _ a hr =>
      unfold insOf at h
      dsimp only at h
      split at h
      · rename_i c' fs' hm
        cases h
        obtain ⟨b, eb, _, rm⟩ := A.obj i _ hm
        rw [hr] at eb
        cases eb
        cases rm with
        | ins hc h1 h2 => exact ⟨_, _, _, _, rfl, hc, h1, h2⟩
      · cases h
  | _ => cases h
def dFld (cs : List String) (g : Den) (f : Str) : Den := fun env st => (g env st).bind fun d st1 => match insOf d st1 with
  | some (c, fs) => if c ∈ cs then (match fs.lookup f with | some x => .ok x st1 | none => .bad) else .bad
  | none => .bad
/-- o.f, o of one of the classes cs -/
theorem de_fld {cs : List String} (h : DE X G wx o go) (hC : ∀ c ∈ cs, ∀ C, G c = some C → Cls X.K C ∧ NoAttr X.K C f) (hb : attributeBase o f X.env (eval o X.env) = eval o X.env) : DE X G wx (.Attribute o f pos) (dFld cs go f) :=
  ⟨(pe_fld h.pe hb).imp fun σ H Q q => by
    obtain ⟨W, env, st, rfl, A, re, p⟩ := q
    refine ⟨W, env, st, rfl, A, re, Post.bind p fun d st1 W1 v _ l1 A1 r1 p1 => ?_⟩
    cases hi : insOf d st1 with
    | none => rw [hi] at p1; exact False.elim p1
    | some cf =>
      obtain ⟨c, fs⟩ := cf
      rw [hi] at p1
      dsimp only at p1
      by_cases hc : c ∈ cs
      · rw [if_pos hc] at p1
        obtain ⟨a, C, dx, gs, rfl, gc, ha, rf⟩ := ins_of A1 r1 hi
        cases hl : fs.lookup f with
        | none => rw [hl] at p1; exact False.elim p1
        | some x =>
          rw [hl] at p1
          obtain ⟨y, h1, h2⟩ := rf.look hl
          obtain ⟨k1, k2⟩ := hC c hc C gc
          exact ⟨a, C, dx, gs, y, rfl, ha, k1, k2, h1, p1 W1 y .rfl' A1 h2⟩
      · rw [if_neg hc] at p1
        exact False.elim p1⟩
theorem RelFs.putF {K : PySem.W.Frag} {W : Wd} {d : D} {v : V} (r : RelD K G W d v) (f : Str) : ∀ {fs : List (Str × D)} {gs : List (Str × V)}, RelFs K G W fs gs → RelFs K G W (putD f d fs) (L2.putF f v gs)
  | _, _, .nil => .cons r .nil
  | _, _, .cons (f := g) (fs := fs) (gs := gs) (v := u) (d := e) ru t => by
    unfold putD L2.putF
    by_cases h : g = f
    · subst h
      simp only [if_true, beq_self_eq_true]
      exact .cons r t
    · have hb : (g == f) = false := by simpa using h
      simp only [if_neg h, hb, Bool.false_eq_true, if_false]
      exact .cons ru (RelFs.putF r f t)
/-- o.f = e, o the store's -/
def sFldD (cs : List String) (go ga : Den) (f : Str) : DenS := fun env st => (ga env st).go env fun d st1 => (go env st1).go env fun o st2 => match o with
  | .ref i => match st2.m i with
    | some (.ins c fs) => if c ∈ cs ∧ fs.length < 1000 then .nx env (st2.set i (.ins c (putD f d fs))) else .bad
    | _ => .bad
  | _ => .bad
theorem ds_fld {cs : List String} (ho : DE X G wx o go) (h : DE X G wx e ga) (hC : ∀ c ∈ cs, ∀ C, G c = some C → Cls X.K C ∧ NoAttr X.K C f) (hs : swapsWith e (some (.Attribute o f pos')) pos.line X.env = pure false := by rfl) :
    DS X G wx (.Assign [.Attribute o f pos'] e pos) (sFldD cs go ga f) := ⟨(ps_fld ho.pe h.pe hs).imp fun D σ H q => by
  obtain ⟨W, env, st, rfl, A, re, p⟩ := q
  refine ⟨W, env, st, rfl, A, re, Post.go re p fun d st1 W1 v _ l1 A1 r1 p1 => ?_⟩
  refine ⟨W1, env, st1, rfl, A1, re.up l1, Post.go (re.up l1) p1 fun o st2 W2 u _ l2 A2 r2 p2 => ?_⟩
  cases o with
  | ref i =>
    dsimp only at p2
    cases hm : st2.m i with
    | none => rw [hm] at p2; exact False.elim p2
    | some m =>
      rw [hm] at p2
      cases m with
      | lst l => exact False.elim p2
      | dic l => exact False.elim p2
      | ins c fs =>
        dsimp only at p2
        by_cases hc : c ∈ cs ∧ fs.length < 1000
        · rw [if_pos hc] at p2
          cases r2 with
          | @ref _ a hr =>
            obtain ⟨b, eb, nf, rm⟩ := A2.obj i _ hm
            rw [hr] at eb
            cases eb
            cases rm with
            | @ins _ _ gs _ C dx gc h1 h2 =>
              obtain ⟨k1, k2⟩ := hC c hc.1 C gc
              refine ⟨a, C, dx, gs, rfl, h1, k1, k2, by rw [← h2.length]; exact hc.2, ?_⟩
              have lw : W2.le (W2.wr a (.ins C dx (L2.putF f v gs))) := Wd.le_wr nf
              exact p2 (W2.wr a (.ins C dx (L2.putF f v gs))) σ lw (A2.wr hm hr (.ins gc upd_same ((h2.up lw).putF ((r1.up l2).up lw) f))) ((re.up l1).up (l2.trans lw))
        · rw [if_neg hc] at p2
          exact False.elim p2
  | _ => exact False.elim p2⟩
end
end
end DL

set_option Elab.async false
set_option linter.all false
set_option maxRecDepth 100000
/-! # DSup: methods that close over __class__, super().__init__(..) as their first row -/
namespace DL
open PySem PySem.Spec PyProof.Rows L2 ClX NdefX StX

structure PSAt (X : Cx) (b : List Stmt) (st : Stmt) (t : TS) : Prop where
  run : ∀ (pins : List (Addr × Obj)) (s : Shared) (σ : L2.St) (H : Hp) (D : Ends), Inv X pins σ H s → t D σ H →
    PySem.wpAt (model X.prog X.w) X.A (.func b X.env) (exec st X.env) (SP X pins D) X.xe s
structure PSsAt (X : Cx) (b st : List Stmt) (t : TS) : Prop where
  run : ∀ (pins : List (Addr × Obj)) (s : Shared) (σ : L2.St) (H : Hp) (D : Ends), Inv X pins σ H s → t D σ H →
    PySem.wpAt (model X.prog X.w) X.A (.func b X.env) (execs st X.env) (SP X pins D) X.xe s
theorem PSAt.seq {X : Cx} {b : List Stmt} {st : Stmt} {rest : List Stmt} {t u : TS} (h1 : PSAt X b st t) (h2 : PSs X rest u) : PSsAt X b (st :: rest) (tSeq t u) := by
  refine ⟨fun pins s σ H D I h => ?_⟩
  refine ks_wpAt_execs_cons (ks_wpAt_mono (h1.run pins s σ H { D with nx := u D } I h) (fun f s1 q => ?_) fun _ _ x => x)
  cases f with
  | next =>
    obtain ⟨σ', H', I', q⟩ := q
    exact wpAt_of_wpAny (h2.run pins s1 σ' H' D I' q)
  | ret v => exact q
  | brk => exact q
  | cont => exact q

/-- what super() needs in a method that has captured __class__ (the class D) -/
structure Sup (X : Cx) (f c cc D : Addr) (sf : Str) : Prop where
  func : X.env.func = some f
  code : X.env.code = .ref c
  hks : X.env.kindOf "super" = some .globalImplicit
  hkc : X.env.kindOf "__class__" = some .free
  cell : X.env.cells.lookup ("__class__" : Str) = some cc
  cellK : ∃ a b d, X.K.lookup cc = some ⟨a, b, .cell (some (.ref D)), d⟩
  fk : ∃ a b d fd ar, X.K.lookup f = some ⟨a, b, .func fd, d⟩ ∧ (fd.params.posonlyargs ++ fd.params.args).head? = some ar ∧ ar.arg = sf
  ck : ∃ a b d vs file tf, X.K.lookup c = some ⟨a, b, .fields vs, d⟩ ∧ vs[2]? = some (.str file tf) ∧ ((X.prog.main.file : Str) == file) = true
  top : (X.prog.main.scope.names.lookup ("super" : Str)).isSome = false
  mg : X.mg "super" = none
  cls : ∃ cd, PySem.W.clsIn X.K D = some cd
  self0 : X.N[0]? = some sf
  loc : X.env.kindOf sf = some .local
  opq : PySem.W.nsIn X.K cStatics "thirdparty.any" = some none
abbrev supO (D x C : Addr) : Obj := { cls := .type "super", dict := none, data := .fields #[.ref D, .ref x, .ref C], slots := #[] }
section
variable {X : Cx} {pins : List (Addr × Obj)} {σ : L2.St} {H : Hp} {s : Shared} {f c cc D x C : Addr} {sf attr : Str} {b : List Stmt} {p0 p1 : Pos} {ox : Obj}
theorem sup_obj {E : Value → Shared → Prop} {Q : Value → Shared → Prop} {whole : Sem Value} (S : Sup X f c cc D sf) (I : Inv X pins σ H s) (h0 : σ[0]? = some (some (.ref x))) (hx : s.heap.get? x = some ox) (hxc : ox.cls = .ref C)
    (hno : ∀ cd, ox.data ≠ .cls cd) (hsub : PySem.W.mroIn X.K C (.ref D) = some true) (hat : (attr == ("__class__" : Str)) = false)
    (h : ∀ h', h'.get? s.heap.objs.size = some (supO D x C) → (∀ y o, s.heap.get? y = some o → h'.get? y = some o) → Q (.ref s.heap.objs.size) { s with heap := h' }) :
    PySem.wpAt (model X.prog X.w) X.A (.func b X.env) (attributeBase (.Call (.Name "super" p0) [] [] p1) attr X.env whole) Q E s := by
  have KX := I.kIn
  obtain ⟨_, _, _, hcell⟩ := S.cellK
  obtain ⟨_, _, _, fd, ar, hf, hp, har⟩ := S.fk
  obtain ⟨_, _, _, vs, file, tf, hc, hvs, hfile⟩ := S.ck
  obtain ⟨cd, hD⟩ := S.cls
  obtain ⟨oD, hD1, hD2⟩ : ∃ oD, s.heap.get? D = some oD ∧ oD.data = .cls cd := by
    unfold PySem.W.clsIn at hD
    split at hD
    · rename_i c d cd' sl ho
      cases hD
      exact ⟨_, KX _ _ ho, rfl⟩
    · cases hD
  refine ks_wpAt_super_base S.hks S.hkc hat S.func (KX _ _ hf) rfl hp S.code (KX _ _ hc) rfl hvs hfile S.top ?_
  obtain ⟨mb, h1, h2⟩ := I.mod.blt
  refine PySem.W.ks_loadName_global I.ok.kind S.hks (Calls.loadGlobal_builtin (by rw [I.ok.glob]; exact I.mod.glob.keeps I.bk) S.mg (by rw [I.ok.blt]; exact h1.keeps I.bk) ((h2 "super" (by decide)).trans (by decide +kernel : bootBuiltins "super" = some (.type "super"))) ⟨rfl, ?_⟩)
  refine wpAny_loadName_free I.ok.kind S.hkc S.cell ⟨_, KX _ _ hcell, rfl⟩ ?_
  obtain ⟨m, hn, hl⟩ := I.loc
  obtain ⟨u, ru, lk⟩ := hl 0 sf (.ref x) S.self0 h0 (.inl S.loc)
  obtain rfl : u = .ref x := ru
  have hm : m ar.arg = some (.ref x) := by
    rcases lk with ⟨_, q⟩ | ⟨q, _⟩
    · rw [har]; exact q
    · rw [S.loc] at q; rcases q with q | q <;> cases q
  refine wpAny_loadName_local I.ok.kind (by rw [har]; exact S.loc) hn hm ?_
  refine ks_wpAny_isType_cls hD1 hD2 ⟨rfl, ?_⟩
  obtain ⟨hh, g, d, t, os⟩ := s
  exact ks_wpAny_call_super hD1 hD2 hx hxc hno (PySem.W.looks_mroIn KX hsub) fun h' e k => h h' e k
end

/-- what the written part says of super().__init__ of a C, said in D's method: it is the def at g -/
structure SupM (K : PySem.W.Frag) (C D g : Addr) : Prop where
  sub : PySem.W.mroIn K C (.ref D) = some true
  find : PySem.W.ks_superIn K C D "__init__" = some (some (.ref g))
  ty : PySem.W.typeIn K (.ref g) = some (.type "function")
  fn : PySem.W.fnIn K g = true
def tSup (K : PySem.W.Frag) (D g : Addr) (sp : Sp) (E : XK) (ta : TA) : TS := fun Z σ H => ∃ x C dx gs, σ[0]? = some (some (.ref x)) ∧ H x = some (.ins C dx gs) ∧ SupM K C D g ∧
  ta σ H fun vs H1 => sp (.ref x :: vs) H1 (fun _ H2 => Z.nx σ H2) E
section
variable {X : Cx} {f c cc D g : Addr} {sf : Str} {b : List Stmt} {p0 p1 ap pos pos' : Pos} {e : Expr} {es : List Expr} {ta : TA} {CX : CXT} {k : Nat} {sp : Sp} {E : XK}
theorem at_sup {pl : Sem Bool} (S : Sup X f c cc D sf) (F : FnR X.prog X.w X.K X.mg X.base CX k g sp) (hr : Room k X.A) (hx : Passes CX X E) (ha : PA X (e :: es) ta)
    (he : starEach (e :: es) X.env = (false, eval e X.env) :: starEach es X.env := by rfl) (hpl : (backTo pos (starEach es X.env)).any (·.1) = false := by rfl)
    (ht : eval (.Call (.Attribute (.Call (.Name "super" p0) [] [] p1) "__init__" ap) (e :: es) [] pos) X.env = (do
      let ov ← attributeBase (.Call (.Name "super" p0) [] [] p1) "__init__" X.env (eval (.Call (.Name "super" p0) [] [] p1) X.env)
      standAt ap.atName
      let (f, first) ← holding [ov] (getMethod ov "__init__" pl)
      callWith pos f first (backTo pos (starEach (e :: es) X.env)) []) := by rfl)
    (hs : swapsWith (.Call (.Attribute (.Call (.Name "super" p0) [] [] p1) "__init__" ap) (e :: es) [] pos) none pos'.line X.env = pure false := by rfl) :
    PSAt X b (.Expr (.Call (.Attribute (.Call (.Name "super" p0) [] [] p1) "__init__" ap) (e :: es) [] pos) pos') (tSup X.K D g sp E ta) := by
  refine ⟨fun pins s σ H Z I h => ?_⟩
  obtain ⟨x, C, dx, gs, h0, ex, M, q⟩ := h
  obtain ⟨mA, ob, _, _, _, _⟩ := ins_get I.hok ex
  have ho : s.heap.get? x = some (PySem.W.instObj C dx) := ob.1
  have hnc : ∀ cd, (PySem.W.instObj C dx).data ≠ .cls cd := fun cd z => nomatch z
  refine ks_wpAt_Expr_any ?_ I.quiet hs
  refine ks_wpAt_MethodCall (pl := pl) ?_ ht
  refine sup_obj S I h0 ho rfl hnc M.sub (by decide) fun h' hso kp => ?_
  have I1 : Inv X pins σ H { s with heap := h' } := I.kept (t' := s.toks) kp
  have KX := I1.kIn
  have hfind := M.find
  unfold PySem.W.ks_superIn at hfind
  cases hcd : PySem.W.clsIn X.K C with
  | none => rw [hcd] at hfind; cases hfind
  | some cd =>
    rw [hcd] at hfind
    obtain ⟨og, hog, hogc⟩ : ∃ og, h'.get? g = some og ∧ og.cls = .type "function" := by
      have ht' : (X.K.lookup g).map (·.cls) = some (.type "function") := M.ty
      cases z : X.K.lookup g with
      | none => rw [z] at ht'; cases ht'
      | some og => rw [z] at ht'; exact ⟨og, KX _ _ z, Option.some.inj ht'⟩
    have hxC : x ≠ C := fun exC => by
      unfold PySem.W.clsIn at hcd
      split at hcd
      · rename_i c1 d1 cd1 sl1 ho1
        have z : h'.get? x = some (PySem.W.instObj C dx) := kp _ _ ho
        rw [exC, KX _ _ ho1] at z
        cases z
      · cases hcd
    obtain ⟨hh, gg, d, t, os⟩ := s
    refine ks_wpAny_getMethod_super (l₀ := cd.mro) hso (PySem.W.looks_opaque KX S.opq) (fun A Q E s k q => wpAny_bind ((PySem.W.looks_clsIn KX hcd) A _ E s k (wpAny_pure q))) rfl KX hfind hog hogc hxC (by decide) ?_
    have I2 : Inv X ((h'.objs.size, PySem.W.methodObj (.ref g) (.ref x)) :: pins) σ H ⟨h'.push (PySem.W.methodObj (.ref g) (.ref x)), gg, d, t + 1, os⟩ :=
      pin_new I1 (fun _ _ z => Heap.get?_push_of_some _ z) (Nat.le_refl _) (Heap.get?_push_size h' rfl) (fun v z => nomatch z)
    refine callwith_cm I2 (base_none I1 (Nat.le_refl _)) M.fn (thn (ha.run pos _ _ σ H _ I2 q) fun us s1 ⟨vs, H1, I3, r1, q1⟩ => ⟨⟨pin_at I3, I3.kIn⟩, ?_⟩) he hpl
    exact thn (run_cm F hr hx I3 r1 q1) fun u s2 ⟨v, H2, I4, _, q2⟩ => ⟨σ, H2, I4, q2⟩
end

/-- a method of the text that has captured the class D in the cell at cc -/
abbrev supF (x qual : Str) (st : Stmt) (cc c : Addr) : NF := ⟨x, qual, defArgs st, defBody st, defScope st, [("__class__", cc)], c⟩
structure FunC (K : PySem.W.Frag) (x qual : Str) (st : Stmt) (f : Addr) (fd : FuncData) (c cc D : Addr) : Prop where
  ex : ∃ (oc : Value) (od : Option Addr) (kV doc pm : Value) (an : Option Addr) (ct : Value) (osl : Array (Option Value)),
    fd = PySem.W.fnX x qual (defArgs st) (defBody st) (defScope st) [("__class__", cc)] .none kV doc pm an (.ref c) ct ∧ K.lookup f = some ⟨oc, od, .func fd, osl⟩ ∧ PySem.W.codeIn K (.ref c) qual = true
  cell : ∃ a b d, K.lookup cc = some ⟨a, b, .cell (some (.ref D)), d⟩
section
variable {P : Program} {w : World} {K : PySem.W.Frag} {mg : Str → Option Value} {base : Heap} {CX : CXT} {k : Nat} {f c cc D : Addr} {x qual : Str} {st : Stmt} {fd : FuncData} {N ps : List Str} {sp : Sp}
theorem fn_sup (F : FunC K x qual st f fd c cc D) (S : NScope N ps ["__class__"] (defScope st)) (len : ∀ vs H Q E, sp vs H Q E → vs.length = ps.length)
    (hbody : ∀ (A : Around) (outer : List Env) (s : Shared) (H : Hp) (vs : List V) (Q : VK) (E : XK), Room k (A.deeper (envF (supF x qual st cc c) f s.heap.objs.size)) → sp vs H Q E →
      ∃ t, PSsAt (ncx CX P w K mg base N (supF x qual st cc c) f A outer s H E) (defBody st) (defBody st) t ∧ t { nx := fun _ H' => Q .non H', rt := Q } (startF N vs [some (.ref D)]) H) :
    FnOk P w K mg base CX (k + 1) f fd ps sp := by
  obtain ⟨oc, od, kV, doc, pm, an, ct, osl, rfl, lk, hcd⟩ := F.ex
  obtain ⟨c1, c2, c3, hcell⟩ := F.cell
  refine ⟨len, fun A outer s H args us vs Q E hr e0 hb r hsp => ?_⟩
  have hl := len _ _ _ _ hsp
  have KX : K.In s.heap := e0.mod.kin.keeps fun b o e => (e0.bs b o e).1
  have lim : s.heap.NoLimit := e0.mod.nolimit.keeps fun b o e => (e0.bs b o e).1
  have C : CellsAt [("__class__", cc)] ["__class__"] [some (.ref D)] s.heap H := by
    have one : ∀ {y : Str} {a : Addr}, List.lookup y [(("__class__" : Str), cc)] = some a → y = "__class__" ∧ a = cc := fun {y a} z => by
      have m := PySem.mem_of_lookup z
      rw [List.mem_singleton] at m
      cases m
      exact ⟨rfl, rfl⟩
    refine ⟨rfl, fun y a z => ?_, fun y z a h1 h2 => (one h1).1.trans (one h2).1.symm, fun i y z => ?_⟩
    · obtain ⟨_, rfl⟩ := one z
      exact ⟨(e0.bs _ _ (e0.mod.kin _ _ hcell)).2, _, _, KX _ _ hcell, rfl⟩
    · have hi : i = 0 := by
        cases i with
        | zero => rfl
        | succ n => simp at z
      subst hi
      simp at z
      subst z
      refine ⟨cc, by simp [List.lookup], fun v hv => ?_⟩
      simp at hv
      subst hv
      exact ⟨.ref D, rfl, _, KX _ _ hcell, rfl⟩
  refine codeAny_call_function hr.depth (KX _ _ lk) rfl S.co S.gen rfl (PySem.W.codeRec_of KX hcd) (hb _ _ _ _ ?_)
  refine wpAny_newFunctionEnv S.nocell (fun ⟨n, _⟩ hy => S.par n (List.of_mem_zip hy).1) (fun h₁ hns hsb => ⟨lim.fresh _ hsb, ?_⟩) S.kind
  show codeAny _ _ (.func (defBody st) (envF (supF x qual st cc c) f s.heap.objs.size)) _ _
  refine ks_codeAny_funcAt ?_
  have kp : ∀ b o, s.heap.get? b = some o → h₁.get? b = some o := fun b o e => hsb.extBut b o (Nat.ne_of_lt (Heap.lt_size e)) (Heap.get?_push_of_some _ e)
  obtain ⟨t, ht, hq⟩ := hbody A outer s H vs Q E (hr.deeper _) hsp
  have I : Inv (ncx CX P w K mg base N (supF x qual st cc c) f A outer s H E) [] (startF N vs [some (.ref D)]) H { s with heap := h₁, toks := s.toks + (ps.zip us).length } := inv_startN S hr.hd e0 hl r C hns kp
  refine ks_wpAt_mono (ht.run [] _ _ H _ I hq) (fun fl s' hs => ?_) fun e s' hs => hs
  have fin : ∀ {σ' : L2.St} {H' : Hp} {v : V} {u : Value}, Inv (ncx CX P w K mg base N (supF x qual st cc c) f A outer s H E) [] σ' H' s' → L2.RelV v u → Q v H' → CE outer P w H s Q u s' :=
    fun {σ' H' v u} J rv q => ⟨v, H', J.os, J.bare, J.base, J.hok, rv, q⟩
  cases fl with
  | ret u =>
    obtain ⟨v, σ', H', J, rv, q⟩ := hs
    exact fin J rv q
  | next =>
    obtain ⟨σ', H', J, q⟩ := hs
    exact fin (v := V.non) (u := Value.none) J rfl q
  | brk =>
    obtain ⟨_, _, _, q⟩ := hs
    exact False.elim q
  | cont =>
    obtain ⟨_, _, _, q⟩ := hs
    exact False.elim q
end

/-! ### the same in an own exception: the built-in __init__ lays the args anew -/
structure SupE (K : PySem.W.Frag) (C D : Addr) : Prop where
  sub : PySem.W.mroIn K C (.ref D) = some true
  find : PySem.W.ks_superIn K C D "__init__" = some (some (.builtin "ValueError.__init__"))
  isVE : PySem.W.subIn K (.ref C) (.type "ValueError") = some true
  ox : OexC K C
def tSupE (K : PySem.W.Frag) (D : Addr) (ta : TA) : TS := fun Z σ H => ∃ a C, σ[0]? = some (some (.ref a)) ∧ H a = some (exo a C none) ∧ SupE K C D ∧
  ta σ H fun vs H1 => vs.length ≤ 1000 ∧ H1 a = some (exo a C none) ∧ Z.nx σ H1
section
variable {X : Cx} {pins : List (Addr × Obj)} {σ : L2.St} {H : Hp} {s : Shared} {a C u : Addr} {A : Around} {E : Value → Shared → Prop}
theorem bound_init {us : List Value} {Q : Value → Shared → Prop} (T : OexC X.K C) (I : Inv X ((u, PySem.W.kxs_mw "ValueError.__init__" a) :: pins) σ H s) (e : H a = some (exo a C none)) (hl : us.length ≤ sizeLine) (h : ∀ s', Inv X pins σ H s' → Q .none s') :
    wpAny (model X.prog X.w) A (call (.ref u) us) Q E s := by
  obtain ⟨nm, q, N, bs, bm, sn, sub, ab, col, dd, k0, k1, k2, k3, k5, hC, hbm⟩ := T.cls
  obtain ⟨t1, ho⟩ := exo_at I.hok e
  have hu := pin_at I
  have hun := pin_un I
  have hua : u ≠ a := fun z => by rw [z, e] at hun; cases hun
  have J0 := unpin I
  obtain ⟨hp, g, d, t, os⟩ := s
  refine wpAny_call (codeAny_of_tree ?_)
  show wpAny _ A.in1 (callAny (.ref u) ⟨us, []⟩) _ _ _
  simp only [callAny]
  refine wpAny_bind (wpAny_load hu ?_)
  simp only [show (Value.type "method-wrapper" == Value.type "method" || Value.type "method-wrapper" == Value.type "builtin_function_or_method" || Value.type "method-wrapper" == Value.type "method-wrapper") = true by decide, if_true]
  refine PySem.W.KFB.if_so (by decide) ?_
  refine wpAny_bind (PySem.W.check_bound_init F.excBase_ValueError.toExcCallFacts (I.kIn _ _ hC) ho rfl ?_)
  refine wpAny_bind (wpAny_pure (wpAny_pure ?_))
  refine ⟨plainId_quiet F.excBase_ValueError.init.plain _, codeAny_builtin F.excBase_ValueError.initEntry ?_⟩
  refine PySem.W.exc_init_tree (cls := .ref C) (t0 := t1) (dv := none) (c2 := .none) (c3 := .none) (b4 := .bool false) ho hl fun h' k hx _ => ?_
  have J := J0.write (t' := t) (x := a) (e := a) (o := exo a C none) (by rw [e]; exact True.intro) (.inl rfl) k ⟨_, hx⟩ (exo_ok hx)
  have eu : upd H a (exo a C none) = H := by
    funext b
    by_cases hb : b = a
    · rw [hb, upd_same, e]
    · rw [upd_ne hb]
  rw [eu] at J
  exact h _ J
end
section
variable {X : Cx} {f c cc D : Addr} {sf : Str} {b : List Stmt} {p0 p1 ap pos pos' : Pos} {e : Expr} {es : List Expr} {ta : TA}
theorem at_supE {pl : Sem Bool} (S : Sup X f c cc D sf) (ha : PA X (e :: es) ta)
    (he : starEach (e :: es) X.env = (false, eval e X.env) :: starEach es X.env := by rfl) (hpl : (backTo pos (starEach es X.env)).any (·.1) = false := by rfl)
    (ht : eval (.Call (.Attribute (.Call (.Name "super" p0) [] [] p1) "__init__" ap) (e :: es) [] pos) X.env = (do
      let ov ← attributeBase (.Call (.Name "super" p0) [] [] p1) "__init__" X.env (eval (.Call (.Name "super" p0) [] [] p1) X.env)
      standAt ap.atName
      let (f, first) ← holding [ov] (getMethod ov "__init__" pl)
      callWith pos f first (backTo pos (starEach (e :: es) X.env)) []) := by rfl)
    (hs : swapsWith (.Call (.Attribute (.Call (.Name "super" p0) [] [] p1) "__init__" ap) (e :: es) [] pos) none pos'.line X.env = pure false := by rfl) :
    PSAt X b (.Expr (.Call (.Attribute (.Call (.Name "super" p0) [] [] p1) "__init__" ap) (e :: es) [] pos) pos') (tSupE X.K D ta) := by
  refine ⟨fun pins s σ H Z I h => ?_⟩
  obtain ⟨x, C, h0, ex, M, q⟩ := h
  obtain ⟨t1, ho⟩ := exo_at I.hok ex
  refine ks_wpAt_Expr_any ?_ I.quiet hs
  refine ks_wpAt_MethodCall (pl := pl) ?_ ht
  refine sup_obj S I h0 ho rfl (fun cd z => nomatch z) M.sub (by decide) fun h' hso kp => ?_
  have I1 : Inv X pins σ H { s with heap := h' } := I.kept (t' := s.toks) kp
  have KX := I1.kIn
  have hfind := M.find
  unfold PySem.W.ks_superIn at hfind
  cases hcd : PySem.W.clsIn X.K C with
  | none => rw [hcd] at hfind; cases hfind
  | some cd =>
    rw [hcd] at hfind
    have hx1 := kp _ _ ho
    have hxC : x ≠ C := fun exC => by
      unfold PySem.W.clsIn at hcd
      split at hcd
      · rename_i c1 d1 cd1 sl1 ho1
        rw [exC, KX _ _ ho1] at hx1
        cases hx1
      · cases hcd
    have IA : PySem.W.InstAt h' x { cls := .ref C, dict := none, data := .fields #[.ref t1, .none, .none, .none, .bool false, .none] } C none := ⟨hx1, rfl, rfl, trivial⟩
    have hI : PySem.W.Looks (model X.prog X.w) h' (isInstance (.ref x) (.type "ValueError")) true := IA.type.andThen (PySem.W.looks_subIn KX M.isVE)
    obtain ⟨hh, gg, d, t, os⟩ := s
    refine PySem.W.kxs_getMethod PySem.W.kxs_ValueError (l₀ := cd.mro) hso (PySem.W.looks_opaque KX S.opq) (fun A Q E s k q => wpAny_bind ((PySem.W.looks_clsIn KX hcd) A _ E s k (wpAny_pure q))) rfl KX hfind hI hxC (by decide) ?_
    have I2 : Inv X ((h'.objs.size, PySem.W.kxs_mw "ValueError.__init__" x) :: pins) σ H ⟨h'.push (PySem.W.kxs_mw "ValueError.__init__" x), gg, d, t + 1, os⟩ :=
      pin_new I1 (fun _ _ z => Heap.get?_push_of_some _ z) (Nat.le_refl _) (Heap.get?_push_size h' rfl) (fun v z => nomatch z)
    have hargs := ha.run pos _ _ σ H _ I2 q
    rw [he] at hargs ⊢
    refine PySem.W.kxs_callWith (i := "ValueError.__init__") (x := x) (by show (false || (backTo pos (starEach es X.env)).any (·.1)) = false; rw [hpl]; rfl) (Calls.evalArgs_plain (thn hargs fun us s1 ⟨vs, H1, I3, r1, hz, e1, q1⟩ => ⟨pin_at I3, ?_⟩))
    exact bound_init M.ox I3 e1 (by show us.length ≤ sizeLine; rw [← Paired.length r1, sizeLine_eq]; omega) fun s' J => ⟨σ, H1, J, q1⟩
end
end DL

set_option Elab.async false
set_option linter.all false
set_option maxRecDepth 100000
/-! # DExc: own exceptions made as values, by place and by name -/
namespace PySem
namespace DLX
open HandSPX
section
variable {M : Model} {A : Around} {E : Value → Shared → Prop} {h : Heap} {g : Array GenState} {d : Drawn} {t : Nat} {os : OsState}
variable {nm q : Str} {C N : Addr} {bs bm bmB : List Value} {hdct : Bool} {sn : List Str} {sub : List Value} {ab : Bool} {col : Option Bool} {dd : Option Addr} {k0 k1 k2 k3 k5 : Option Value} {B newId initId : String}
theorem mk_check (FB : ExcBaseFacts B newId initId bmB) (hT : ∀ Y : String, bm.contains (.type Y) = bmB.contains (.type Y)) {vs : List Value} {kw : List (Str × Value)} {Q : Unit → Shared → Prop}
    (hC : h.get? C = some (excClassObj nm q C N bs bm hdct sn sub ab col dd k0 k1 k2 k3 k5 newId)) (hq : Q () ⟨h, g, d, t, os⟩) :
    wpAny M A (checkBuiltinCall newId ⟨.ref C :: vs, kw⟩) Q E ⟨h, g, d, t, os⟩ := by
  have c1 : (Value.ref C :: bm).contains (.type B) = true := by
    rw [List.contains_cons, hT, FB.hasB, Bool.or_true]
  have c2 := FB.noStar
  simp only [checkBuiltinCall, FB.newKind, FB.newSplit, FB.newRow]
  repeat (first
    | refine wpAny_loadPart_at hC ?_
    | (refine wpAny_isSubtype_exc hC ?_; rw [c1])
    | refine wpAny_staticBase_exc hC ?_
    | refine wpAny_madeBy_exc hC ?_
    | simp only [bne_self_eq_false, Bool.false_eq_true, if_false]
    | wp_step)
  exact hq
end
section
variable {prog : Program} {w : World} {A : Around} {E : Value → Shared → Prop} {R : Result → Shared → Prop} {h : Heap} {g : Array GenState} {d : Drawn} {t : Nat} {os : OsState}
variable {nm q : Str} {C N : Addr} {bs bm bmB : List Value} {hdct : Bool} {sn : List Str} {sub : List Value} {ab : Bool} {col : Option Bool} {dd : Option Addr} {k0 k1 k2 k3 k5 : Option Value} {B newId initId : String}
theorem mk_new (FB : ExcBaseFacts B newId initId bmB) (hT : ∀ Y : String, bm.contains (.type Y) = bmB.contains (.type Y)) {vs : List Value} {kw : List (Str × Value)}
    (hC : h.get? C = some (excClassObj nm q C N bs bm hdct sn sub ab col dd k0 k1 k2 k3 k5 newId)) (hz : vs.length ≤ sizeLine)
    (hq : R (.ok (.ret (.ref (h.objs.size + 1)))) ⟨(h.push (W.kdv_tup vs)).push (excO C h.objs.size), g, d, t, os⟩) :
    codeAny (model prog w) A (.builtin newId ⟨.ref C :: vs, kw⟩) R ⟨h, g, d, t, os⟩ := by
  have c0 := FB.ends
  have c1 : (Value.ref C :: bm).contains (.type B) = true := by
    rw [List.contains_cons, hT, FB.hasB, Bool.or_true]
  have c2 : (Value.ref C :: bm).contains (.type "AttributeError") = false := by
    rw [List.contains_cons, hT, FB.noAttr]
    rfl
  have c3 : (Value.ref C :: bm).contains (.type "NameError") = false := by
    rw [List.contains_cons, hT, FB.noName]
    rfl
  refine codeAny_builtinAt FB.entry ?_
  unfold Builtin.«BaseException.__new__»
  refine wpAt_bind ?_
  show wpAt _ _ _ (stack >>= _) _ _ _
  refine wpAt_bind (wpAt_stack fun p' lower => wpAt_of_wpAny ?_)
  wp_walk
  refine wpAt_of_wpAny ?_
  rw [FB.owner]
  repeat (first
    | with_reducible refine wpAny_madeHere_exc FB.canon hC ?_
    | with_reducible refine wpAny_loadPart_at hC ?_
    | (with_reducible refine wpAny_isSubtype_exc hC ?_; first | rw [c1] | rw [c2] | rw [c3])
    | wp_step)
  show R _ _
  rw [Heap.size_push]
  exact hq
theorem mk_type (FB : ExcBaseFacts B newId initId bmB) (hT : ∀ Y : String, bm.contains (.type Y) = bmB.contains (.type Y)) {vs : List Value} {kw : List (Str × Value)} {fI : Addr} {Q : Fin → Shared → Prop}
    (hC : h.get? C = some (excClassObj nm q C N bs bm hdct sn sub ab col dd k0 k1 k2 k3 k5 newId)) (hz : vs.length ≤ sizeLine)
    (hi : W.Looks (model prog w) h (typeLookup (.ref C) "__init__") (some (.ref fI))) (hb : ∀ o, W.Looks (model prog w) h (bindSpecial (.ref fI) o) (.ref fI, [o]))
    (hq : codeAny (model prog w) A (.call (.ref fI) ⟨.ref (h.objs.size + 1) :: vs, kw⟩)
      (fun r s' => match r with | .ok (.ret v) => v = .none ∧ Q (.done (.ret (.ref (h.objs.size + 1)))) s' | .ok _ => False | .error e => E e s')
      ⟨(h.push (W.kdv_tup vs)).push (excO C h.objs.size), g, d, t, os⟩) :
    wpAny (model prog w) A (Builtin.«type.__call__» ⟨.ref C :: vs, kw⟩) Q E ⟨h, g, d, t, os⟩ := by
  repeat (first | with_reducible refine wpAny_loadPart_at hC ?_ | with_reducible refine wpAny_madeBy_exc hC ?_ | wp_step)
  refine codeAny_call_builtin_code (Code.quiet_builtin _ FB.quiet) (mk_check FB hT hC ?_)
  refine mk_new FB hT hC hz ?_
  show wpAny _ _ _ _ _ _
  have up : ∀ b o, h.get? b = some o → ((h.push (W.kdv_tup vs)).push (excO C h.objs.size)).get? b = some o := fun b o e => Heap.get?_push_of_some _ (Heap.get?_push_of_some _ e)
  have hC2 := up _ _ hC
  have hx2 : ((h.push (W.kdv_tup vs)).push (excO C h.objs.size)).get? (h.objs.size + 1) = some (excO C h.objs.size) := by
    heap_get
  have c4 : (Value.ref C :: bm).contains (.ref C) = true := by
    simp
  have i2 := hi.keeps up
  have b2 := (hb (.ref (h.objs.size + 1))).keeps up
  unfold isInstance
  repeat (first
    | with_reducible refine wpAny_loadPart_at hx2 ?_
    | (with_reducible refine wpAny_isSubtype_exc hC2 ?_; rw [c4])
    | wp_step)
  show wpAny _ _ (typeLookup (.ref C) _) _ _ _
  refine i2.at ?_
  refine wpAny_holding (wpAny_bind (b2.at ?_))
  refine wpAny_bind (wpAny_call (codeAny_mono hq fun r s' z => ?_))
  rcases r with e | (v | _ | _ | _)
  all_goals first | exact z | exact z.elim | skip
  obtain ⟨rfl, z⟩ := z
  first
    | exact wpAny_pure (wpAny_pure z)
    | (wp_walk; exact z)
theorem mk_call (FB : ExcBaseFacts B newId initId bmB) (hT : ∀ Y : String, bm.contains (.type Y) = bmB.contains (.type Y)) {vs : List Value} {kw : List (Str × Value)} {fI : Addr}
    (hC : h.get? C = some (excClassObj nm q C N bs bm hdct sn sub ab col dd k0 k1 k2 k3 k5 newId)) (hz : vs.length ≤ sizeLine)
    (hi : W.Looks (model prog w) h (typeLookup (.ref C) "__init__") (some (.ref fI))) (hb : ∀ o, W.Looks (model prog w) h (bindSpecial (.ref fI) o) (.ref fI, [o]))
    (hq : codeAny (model prog w) (A.under (.builtin "type.__call__" ⟨.ref C :: vs, kw⟩)) (.call (.ref fI) ⟨.ref (h.objs.size + 1) :: vs, kw⟩) (W.InitBack (h.objs.size + 1) R)
      ⟨(h.push (W.kdv_tup vs)).push (excO C h.objs.size), g, d, t, os⟩) :
    codeAny (model prog w) A (.call (.ref C) ⟨vs, kw⟩) R ⟨h, g, d, t, os⟩ := by
  have g1 := tc_lookup
  have g2 := tc_bind (.ref C)
  have hTy : (⟨h, g, d, t, os⟩ : Shared).TypeIs (.ref C) "type" := ⟨_, hC, rfl⟩
  refine codeAny_of_tree ?_
  show wpAny _ _ (callAny (.ref C) _) _ _ _
  repeat (any_goals (first
    | assumption
    | with_reducible refine wpAny_loadPart_at hC ?_
    | wp_step))
  refine ⟨rfl, ?_⟩
  refine codeAny_call_builtin_at (Code.quiet_builtin _ (by decide +kernel)) entry_typeCall (wpAny_check_type_call_sub hC (mk_type FB hT hC hz hi hb ?_))
  refine codeAny_mono hq fun r s' z => ?_
  rcases r with e | (v | _ | _ | _)
  all_goals exact z
end
end DLX
end PySem

set_option Elab.async false
set_option linter.all false
set_option maxRecDepth 100000
/-! # DArgs: calls by place and by name, of defs, classes, exception classes -/
namespace DL
open PySem PySem.Spec PyProof.Rows L2 StX

/-- the arguments of a call: n by place, the names ks -/
structure PCA (X : Cx) (es : List Expr) (kws : List Keyword) (n : Nat) (ks : List Str) (t : TA) : Prop where
  run : ∀ (pos : Pos) (f : Value) (pins : List (Addr × Obj)) (s : Shared) (σ : L2.St) (H : Hp) (Q : Value → Shared → Prop) (Z : List V → Hp → Prop), PySem.W.keepIn X.K f = true → Inv X pins σ H s → t σ H Z →
    (∀ us ws vs s1 H1, Inv X pins σ H1 s1 → Vals vs (us ++ ws) → us.length = n → ws.length = ks.length → Z vs H1 → wpAny (model X.prog X.w) X.A (call f us (ks.zip ws)) Q X.xe s1) →
    wpAny (model X.prog X.w) X.A (callWith pos f [] (backTo pos (starEach es X.env)) (backToKw pos (keywordEach kws X.env))) Q X.xe s
section
variable {X : Cx} {e : Expr} {es : List Expr} {kws : List Keyword} {ta tk : TA} {n : Nat} {ks : List Str}
def tLen (n : Nat) (t : TA) : TA := fun σ H Q => t σ H fun vs H1 => vs.length = n ∧ Q vs H1
theorem pca_nil : PCA X [] [] 0 [] tNil := ⟨fun pos f pins s σ H Q Z hk I h k => PySem.W.callWith_K0 I.kIn hk (k [] [] [] s H I .nil rfl rfl h)⟩
theorem pca_pos (ha : PA X (e :: es) ta) (he : starEach (e :: es) X.env = (false, eval e X.env) :: starEach es X.env := by rfl) (hpl : ∀ pos, (backTo pos (starEach es X.env)).any (·.1) = false := by intro _; rfl) : PCA X (e :: es) [] n [] (tLen n ta) :=
  ⟨fun pos f pins s σ H Q Z hk I h k => PySem.W.callWith_K (h₀ := X.base) (first := []) I.ok.mod.kin hk (thn (ha.run pos pins s σ H _ I h) fun us s1 ⟨vs, H1, I1, r, hl, q⟩ =>
    ⟨I1.kIn, k us [] vs s1 H1 I1 (by rw [List.append_nil]; exact r) (r.length.symm.trans hl) rfl q⟩) he (hpl pos)⟩
theorem pca_kw0 (hkw : PK X kws tk) (hall : ∀ pos, (backToKw pos (keywordEach kws X.env)).all (·.1.isSome) = true := by intro _; rfl) (hks : ∀ pos, (backToKw pos (keywordEach kws X.env)).filterMap (·.1) = ks := by intro _; rfl)
    (hpl : ∀ pos, ((backTo pos (starEach [] X.env)).any (·.1) || (backToKw pos (keywordEach kws X.env)).any (·.1.isNone)) = false := by intro _; rfl) : PCA X [] kws 0 ks (tLen ks.length tk) :=
  ⟨fun pos f pins s σ H Q Z hk I h k => by
    refine PySem.W.callWith_KW0 (h₀ := X.base) I.ok.mod.kin hk (hall pos) ?_ (hpl pos)
    refine thn (hkw.run pos pins s σ H _ I h) fun ws s2 ⟨zs, H2, I2, rz, l2, q2⟩ => ⟨I2.kIn, ?_⟩
    rw [hks]
    exact k [] ws zs s2 H2 I2 rz rfl (rz.length.symm.trans l2) q2⟩
theorem pca_kw (ha : PA X (e :: es) ta) (hkw : PK X kws tk) (hall : ∀ pos, (backToKw pos (keywordEach kws X.env)).all (·.1.isSome) = true := by intro _; rfl) (hks : ∀ pos, (backToKw pos (keywordEach kws X.env)).filterMap (·.1) = ks := by intro _; rfl)
    (he : starEach (e :: es) X.env = (false, eval e X.env) :: starEach es X.env := by rfl) (hpl : ∀ pos, ((backTo pos (starEach (e :: es) X.env)).any (·.1) || (backToKw pos (keywordEach kws X.env)).any (·.1.isNone)) = false := by intro _; rfl) :
    PCA X (e :: es) kws n ks (fun σ H Q => ta σ H fun vs H1 => tk σ H1 fun zs H2 => vs.length = n ∧ zs.length = ks.length ∧ Q (vs ++ zs) H2) :=
  ⟨fun pos f pins s σ H Q Z hk I h k => by
    refine PySem.W.callWith_KW (h₀ := X.base) I.ok.mod.kin hk (hall pos) (thn (ha.run pos pins s σ H _ I h) fun us s1 ⟨vs, H1, I1, r, q⟩ => ?_) (hpl pos) he
    refine thn (hkw.run pos pins s1 σ H1 _ I1 q) fun ws s2 ⟨zs, H2, I2, rz, l1, l2, q2⟩ => ⟨I2.kIn, ?_⟩
    rw [hks]
    exact k us ws (vs ++ zs) s2 H2 I2 (r.append rz) (r.length.symm.trans l1) (rz.length.symm.trans l2) q2⟩
end

/-- a promise for calls of one form: n values by place, the names ks; told of them in the order as they are written -/
def FnB (P : Program) (w : World) (K : PySem.W.Frag) (mg : Str → Option Value) (base : Heap) (CX : CXT) (k : Nat) (f : Addr) (n : Nat) (ks : List Str) (sp : Sp) : Prop :=
  ∀ (A : Around) (outer : List Env) (s : Shared) (H : Hp) (us ws : List Value) (vs : List V) (Q : VK) (E : XK), Room k A → Env0 P w K mg base A outer s H → us.length = n → ws.length = ks.length → Vals vs (us ++ ws) → sp vs H Q E →
    codeAny (model P w) A (.call (.ref f) ⟨us, ks.zip ws⟩) (CR CX outer P w H s Q E) s
/-- the order of the parameters -/
def permO {α : Type} (π : Option (List Nat)) (l : List α) : List α := match π with
  | none => l
  | some p => p.filterMap (l[·]?)
theorem filterMap_vals {vs : List V} {us : List Value} (r : Vals vs us) : ∀ p : List Nat, Vals (p.filterMap (vs[·]?)) (p.filterMap (us[·]?))
  | [] => .nil
  | i :: p => by
    rw [List.filterMap_cons, List.filterMap_cons]
    cases h : vs[i]? with
    | none => rw [r.none_of h]; exact filterMap_vals r p
    | some v =>
      obtain ⟨u, h1, h2⟩ := r.get h
      rw [h1]
      exact .cons h2 (filterMap_vals r p)
theorem permO_vals {π : Option (List Nat)} {vs : List V} {us : List Value} (r : Vals vs us) : Vals (permO π vs) (permO π us) := by
  cases π with
  | none => exact r
  | some p => exact filterMap_vals r p
structure KBp (K : PySem.W.Frag) (fd : FuncData) (ps : List Str) (n : Nat) (ks : List Str) (π : Option (List Nat)) : Prop where
  to : ∀ (s : Shared) (us ws : List Value), K.In s.heap → us.length = n → ws.length = ks.length → BindsTo s fd ⟨us, ks.zip ws⟩ (ps.zip (permO π (us ++ ws)))
section
variable {P : Program} {w : World} {K : PySem.W.Frag} {mg : Str → Option Value} {base : Heap} {CX : CXT} {j k : Nat} {f : Addr} {fd : FuncData} {n : Nat} {ps ks : List Str} {π : Option (List Nat)} {sp sp' : Sp}
theorem KBp.pure (h : ∀ us ws : List Value, us.length = n → ws.length = ks.length → bindArgs fd ⟨us, ks.zip ws⟩ = pure (ps.zip (permO π (us ++ ws)))) : KBp K fd ps n ks π := ⟨fun s us ws _ l1 l2 => .of_eq (h us ws l1 l2)⟩
theorem FnOk.toB (F : FnOk P w K mg base CX k f fd ps sp) (hb : KBp K fd ps n ks π) : FnB P w K mg base CX k f n ks (fun vs H Q E => sp (permO π vs) H Q E) :=
  fun A outer s H us ws vs Q E hr e0 l1 l2 r h => F.run A outer s H ⟨us, ks.zip ws⟩ _ _ Q E hr e0 (hb.to s us ws (e0.mod.kin.keeps fun b o e => (e0.bs b o e).1) l1 l2) (permO_vals r) h
theorem FnB.mono (F : FnB P w K mg base CX j f n ks sp) (h : j ≤ k) : FnB P w K mg base CX k f n ks sp := fun A outer s H us ws vs Q E hr => F A outer s H us ws vs Q E (hr.mono h)
theorem FnB.imp (F : FnB P w K mg base CX k f n ks sp) (h : ∀ vs H Q E, sp' vs H Q E → sp vs H Q E) : FnB P w K mg base CX k f n ks sp' := fun A outer s H us ws vs Q E hr e0 l1 l2 r q => F A outer s H us ws vs Q E hr e0 l1 l2 r (h _ _ _ _ q)
/-- def f(a, .., *v) -/
theorem fnb_star {name qual : Str} {params : Arguments} {body : List Stmt} {scope : Scope} {dV kV doc pm cdv ct oc : Value} {an od : Option Addr} {osl : Array (Option Value)} {N : List Str} {pv : Str}
    (lk : K.lookup f = some ⟨oc, od, .func (PySem.W.fnOf name qual params body scope dV kV doc pm an cdv ct), osl⟩) (hcd : PySem.W.codeIn K cdv qual = true) (S : FnScope N (ps ++ [pv]) scope) (hCX : CXUp CX) (hm : ps.length ≤ n + ks.length)
    (hb : ∀ us ws : List Value, us.length = n → ws.length = ks.length → bindArgs (PySem.W.fnOf name qual params body scope dV kV doc pm an cdv ct) ⟨us, ks.zip ws⟩ = (newTuple ((us ++ ws).drop ps.length) >>= fun t => pure (ps.zip ((us ++ ws).take ps.length) ++ [(pv, t)])))
    (hbody : ∀ (A : Around) (outer : List Env) (s : Shared) (H : Hp) (vs : List V) (Q : VK) (E : XK), Room k (A.deeper (envOfC qual scope s.heap.objs.size f cdv)) → sp vs H Q E →
      ∃ t, PSs (cxOf CX P w K mg base N qual scope f cdv A outer s H E) body t ∧ t { nx := fun _ H' => Q .non H', rt := Q } (start N vs) H) :
    FnB P w K mg base CX (k + 1) f n ks (fun vs H Q E => (vs.drop ps.length).length ≤ sizeLine ∧ ∀ p, H p = Option.none → sp (vs.take ps.length ++ [V.ref p]) (upd H p (.tup (vs.drop ps.length))) Q E) := by
  intro A outer s H us ws vs Q E hr e0 l1 l2 r hsp
  obtain ⟨hz, hq⟩ := hsp
  have hn : H s.heap.objs.size = Option.none := e0.hok.fresh (Nat.le_refl _)
  have r1 : Vals (vs.take ps.length) ((us ++ ws).take ps.length) := r.take _
  have r2 : Vals (vs.drop ps.length) ((us ++ ws).drop ps.length) := r.drop _
  have hl : (vs.take ps.length).length = ps.length := by
    have e := r.length
    rw [List.length_append, l1, l2] at e
    rw [List.length_take]
    omega
  have hl1 : ((us ++ ws).take ps.length).length = ps.length := r1.length.symm.trans hl
  have hl2 : ((us ++ ws).drop ps.length).length ≤ sizeLine := by rw [← r2.length]; exact hz
  refine run_bnd lk hcd S hr e0 (G := fun xs H2 => ∃ p, H p = Option.none ∧ xs = vs.take ps.length ++ [V.ref p] ∧ H2 = upd H p (.tup (vs.drop ps.length))) (fun A' Ex Q' h => ?_) fun s2 H2 xs ⟨p, hp, ex, eH⟩ hr' => ?_
  · rw [hb us ws l1 l2]
    refine wpAny_bind (wpAny_newTuple (wpAny_pure ?_) hl2)
    have new : ObjOk P w (upd H s.heap.objs.size (.tup (vs.drop ps.length))) (s.heap.push ({ cls := .type "tuple", data := .seq ((us ++ ws).drop ps.length).toArray } : Obj)) s.heap.objs.size (.tup (vs.drop ps.length)) := ⟨hz, _, r2, ⟨_, Heap.get?_push_size _ rfl, rfl, _, rfl⟩⟩
    have un := un_laid (fs := frs outer) (s := s) (o := ({ cls := .type "tuple", data := .seq ((us ++ ws).drop ps.length).toArray } : Obj)) (u := .tup (vs.drop ps.length)) hn
    have z := h _ _ (vs.take ps.length ++ [V.ref s.heap.objs.size]) ((us ++ ws).take ps.length ++ [Value.ref s.heap.objs.size]) (env0_laid e0 new) un rfl (fun e s' => hCX outer s H _ _ E e s' un (fun b o q => Heap.get?_push_of_some _ q) rfl) (r1.append (.cons rfl .nil))
      (by rw [List.length_append, List.length_append, hl] <;> rfl) ⟨_, hn, rfl, rfl⟩
    rw [List.zip_append hl1.symm] at z
    exact z
  · subst ex eH
    exact hbody A outer s2 _ _ Q E hr' (hq p hp)
end

section
variable {X : Cx} {CX : CXT} {k : Nat} {f C : Addr} {sp : Sp} {E : L2.St → XK} {x : Str} {p pos : Pos} {es : List Expr} {kws : List Keyword} {n : Nat} {ks : List Str} {t : TA}
def tCallA (sp : Sp) (E : L2.St → XK) (t : TA) : TE := fun σ H Q => t σ H fun vs H1 => sp vs H1 Q (E σ)
theorem run_B {E : XK} {pins : List (Addr × Obj)} {σ : L2.St} {H : Hp} {s : Shared} {Q : VK} {us ws : List Value} {vs : List V} (F : FnB X.prog X.w X.K X.mg X.base CX k f n ks sp) (hr : Room k X.A) (hx : PassesAt CX X σ E) (I : Inv X pins σ H s) (l1 : us.length = n) (l2 : ws.length = ks.length)
    (r : Vals vs (us ++ ws)) (h : sp vs H Q E) : codeAny (model X.prog X.w) X.A (.call (.ref f) ⟨us, ks.zip ws⟩) (fun r s' => match r with | .ok (.ret v) => EP X pins σ Q v s' | .ok _ => False | .error e => X.xe e s') s := by
  refine codeAny_mono (F X.A X.stack s H us ws vs Q E hr I.env0 l1 l2 r h) fun r s' hq => ?_
  cases r with
  | error e => exact hx pins H s e s' I hq
  | ok fl =>
    cases fl with
    | ret u => exact I.after hq
    | _ => exact False.elim hq
theorem pe_callA (F : FnB X.prog X.w X.K X.mg X.base CX k f n ks sp) (hr : Room k X.A) (hg : Gl X x) (hm : X.mg x = some (.ref f)) (hk : PySem.W.keepIn X.K (.ref f) = true) (hx : ∀ σ, PassesAt CX X σ (E σ)) (ha : PCA X es kws n ks t) (hdb : (x == ("__debug__" : Str)) = false := by decide) :
    PE X (.Call (.Name x p) es kws pos) (tCallA sp E t) := by
  refine ⟨fun pins s σ H Q I h => ?_⟩
  refine wpAny_Call_Name_kw (ld_glob I hg hm ?_ hdb)
  refine ha.run pos (.ref f) pins s σ H _ _ hk I h fun us ws vs s1 H1 I1 r l1 l2 q => wpAny_call (codeAny_mono (run_B F hr (hx σ) I1 l1 l2 r q) fun r s' z => ?_)
  rcases r with e | (v | _ | _ | _) <;> exact z
/-- a new instance and its dict, then __init__ -/
def tMakeA (C : Addr) (sp : Sp) (E : L2.St → XK) (t : TA) : TE := fun σ H Q => t σ H fun vs H1 => ∀ x dx, H1 x = none → H1 dx = none → dx ≠ x →
  sp (.ref x :: vs) (upd (upd H1 dx (.own x)) x (.ins C dx [])) (fun v H2 => v = .non ∧ Q (.ref x) H2) (E σ)
theorem pe_makeA (M : Mk X.K C f) (F : FnB X.prog X.w X.K X.mg X.base CX k f (n + 1) ks sp) (hr : Room (k + 1) X.A) (hg : Gl X x) (hm : X.mg x = some (.ref C)) (hx : ∀ σ, PassesAt CX X σ (E σ)) (ha : PCA X es kws n ks t) (hdb : (x == ("__debug__" : Str)) = false := by decide) :
    PE X (.Call (.Name x p) es kws pos) (tMakeA C sp E t) := by
  refine ⟨fun pins s σ H Q I h => ?_⟩
  refine wpAny_Call_Name_kw (ld_glob I hg hm ?_ hdb)
  refine ha.run pos (.ref C) pins s σ H _ _ M.kp I h fun us ws vs s1 H1 I1 r l1 l2 q => ?_
  have hq := q (s1.heap.objs.size + 1) s1.heap.objs.size (I1.hok.fresh (Nat.le_succ _)) (I1.hok.fresh (Nat.le_refl _)) (Nat.ne_of_lt (Nat.lt_succ_self _))
  have I2 := Inv.made (C := C) I1
  have r2 : Vals (V.ref (s1.heap.objs.size + 1) :: vs) ((Value.ref (s1.heap.objs.size + 1) :: us) ++ ws) := .cons rfl r
  refine wpAny_call (make_map (f := f) I1.kIn M.makes M.init (beq_iff_eq.mp M.fn) (codeAny_mono (F _ X.stack _ _ (Value.ref (s1.heap.objs.size + 1) :: us) ws _ _ (E σ) (hr.make C us (ks.zip ws)) (I2.env0.make C us (ks.zip ws)) (by simp [l1]) l2 r2 hq) fun r s' hq' => ?_))
  cases r with
  | error e => exact hx σ pins _ _ e s' I2 hq'
  | ok fl =>
    cases fl with
    | ret u =>
      obtain ⟨v, H', I3, rv, ev, q3⟩ := I2.after hq'
      subst ev
      exact ⟨rv, ⟨V.ref (s1.heap.objs.size + 1), H', I3, rfl, q3⟩⟩
    | _ => exact False.elim hq'
/-- a new exception, then its own __init__ -/
def tMkxA (C : Addr) (sp : Sp) (E : L2.St → XK) (t : TA) : TE := fun σ H Q => t σ H fun vs H1 => vs.length ≤ 1000 ∧ ∀ a, H1 a = none → sp (.ref a :: vs) (upd H1 a (exo a C none)) (fun v H2 => v = .non ∧ Q (.ref a) H2) (E σ)
theorem pe_mkxA {fI : Addr} (T : OexC X.K C) (iC : PySem.W.findIn X.K (.ref C) "__init__" = some (some (.ref fI))) (tI : PySem.W.typeIn X.K (.ref fI) = some (.type "function")) (FI : FnB X.prog X.w X.K X.mg X.base CX k fI (n + 1) ks sp) (hr : Room (k + 1) X.A)
    (hg : Gl X x) (hm : X.mg x = some (.ref C)) (hx : ∀ σ, PassesAt CX X σ (E σ)) (ha : PCA X es kws n ks t) (hdb : (x == ("__debug__" : Str)) = false := by decide) : PE X (.Call (.Name x p) es kws pos) (tMkxA C sp E t) := by
  refine ⟨fun pins s σ H Q I h => ?_⟩
  obtain ⟨nm, q, N, bs, bm, sn, sub, ab, col, dd, k0, k1, k2, k3, k5, hC, hbm⟩ := T.cls
  refine wpAny_Call_Name_kw (ld_glob I hg hm ?_ hdb)
  refine ha.run pos (.ref C) pins s σ H _ _ T.kC I h fun us ws vs s1 H1 I1 r l1 l2 q => ?_
  obtain ⟨hz, q⟩ := q
  obtain ⟨hp, g, dr, tk, os⟩ := s1
  have hsz : hp.objs.size ≤ hp.objs.size + 1 := Nat.le_succ _
  have hq := q (hp.objs.size + 1) (I1.hok.fresh hsz)
  have kk : ∀ b o, hp.get? b = some o → ((hp.push (PySem.W.kdv_tup us)).push (PySem.HandSPX.excO C hp.objs.size)).get? b = some o := fun b o e => Heap.get?_push_of_some _ (Heap.get?_push_of_some _ e)
  have hget : ((hp.push (PySem.W.kdv_tup us)).push (PySem.HandSPX.excO C hp.objs.size)).get? (hp.objs.size + 1) = some (PySem.HandSPX.excO C hp.objs.size) := by heap_get
  have I2 : Inv X pins σ (upd H1 (hp.objs.size + 1) (exo (hp.objs.size + 1) C none)) ⟨(hp.push (PySem.W.kdv_tup us)).push (PySem.HandSPX.excO C hp.objs.size), g, dr, tk, os⟩ := I1.laid (t' := tk) kk hsz (exo_ok hget)
  have r2 : Vals (V.ref (hp.objs.size + 1) :: vs) ((Value.ref (hp.objs.size + 1) :: us) ++ ws) := .cons rfl r
  have hus : us.length ≤ sizeLine := by
    have e := r.length
    rw [List.length_append] at e
    rw [sizeLine_eq]
    omega
  refine wpAny_call (DLX.mk_call F.excBase_ValueError (fun Y => PySem.HandSPX.refsVE_contains Y bm hbm) (I1.kIn _ _ hC) hus (PySem.W.looks_findIn I1.kIn iC) (fun o => PySem.W.bind_fn I1.kIn o tI)
    (codeAny_mono (FI _ X.stack _ _ (Value.ref (hp.objs.size + 1) :: us) ws _ _ (E σ) (hr.make C us (ks.zip ws)) (I2.env0.make C us (ks.zip ws)) (by simp [l1]) l2 r2 hq) fun r s' hq' => ?_))
  cases r with
  | error er => exact hx σ pins _ _ er s' I2 hq'
  | ok fl =>
    cases fl with
    | ret u =>
      obtain ⟨v, H', I3, rv, ev, q3⟩ := I2.after hq'
      subst ev
      exact ⟨rv, ⟨V.ref (hp.objs.size + 1), H', I3, rfl, q3⟩⟩
    | _ => exact False.elim hq'
end
end DL

set_option Elab.async false
set_option linter.all false
set_option maxRecDepth 100000
/-! # DUse: calls over data: defs, classes, exception classes, by place and by name -/
namespace DL
open PySem PySem.Spec PyProof.Rows L2 StX

/-! ### keywords and whole argument lists -/
structure DK (X : Cx) (G : CG) (wx : WX) (kws : List Keyword) (g : DenA) : Prop where
  pk : PK X kws (rA X.K G wx g)
structure DC (X : Cx) (G : CG) (wx : WX) (es : List Expr) (kws : List Keyword) (n : Nat) (ks : List Str) (g : DenA) : Prop where
  pca : PCA X es kws n ks (rA X.K G wx g)
theorem _root_.L2.PK.imp {X : Cx} {e : List Keyword} {t t' : TA} (h : PK X e t) (i : ∀ σ H Q, t' σ H Q → t σ H Q) : PK X e t' := ⟨fun pos pins s σ H Q I q => h.run pos pins s σ H Q I (i σ H Q q)⟩
theorem PCA.imp {X : Cx} {es : List Expr} {kws : List Keyword} {n : Nat} {ks : List Str} {t t' : TA} (h : PCA X es kws n ks t) (i : ∀ σ H Q, t' σ H Q → t σ H Q) : PCA X es kws n ks t' :=
  ⟨fun pos f pins s σ H Q Z hk I q k => h.run pos f pins s σ H Q Z hk I (i σ H Z q) k⟩
def aLen (n : Nat) (g : DenA) : DenA := fun env st => (g env st).bind fun ds st1 => if ds.length = n then .ok ds st1 else .bad
def aKw (n m : Nat) (g h : DenA) : DenA := fun env st => (g env st).bind fun ds st1 => (h env st1).bind fun zs st2 => if ds.length = n ∧ zs.length = m then .ok (ds ++ zs) st2 else .bad
section
variable {X : Cx} {G : CG} {wx : WX} {e : Expr} {es : List Expr} {kws : List Keyword} {g gk : DenA} {ge : Den} {n : Nat} {ks : List Str} {nm : Option Str} {kpos : Pos}
theorem dk_nil : DK X G wx [] dNil := ⟨pk_nil.imp fun σ H Q q => by
  obtain ⟨W, env, st, rfl, A, re, p⟩ := q
  exact p W [] .rfl' A .nil⟩
theorem dk_cons (ha : DE X G wx e ge) (hr : DK X G wx kws g) : DK X G wx (⟨nm, e, kpos⟩ :: kws) (dCons ge g) := ⟨(pk_cons ha.pe hr.pk).imp fun σ H Q q => by
  obtain ⟨W, env, st, rfl, A, re, p⟩ := q
  refine ⟨W, env, st, rfl, A, re, Post.bindA p fun d st1 W1 v _ l1 A1 r1 p1 => ?_⟩
  refine ⟨W1, env, st1, rfl, A1, re.up l1, PostA.bindA p1 fun ds st2 W2 vs _ l2 A2 r2 p2 => ?_⟩
  exact p2 W2 (v :: vs) .rfl' A2 (.cons (r1.up l2) r2)⟩
theorem tLen_of {K : PySem.W.Frag} {σ : L2.St} {H : Hp} {Q : List V → Hp → Prop} (q : rA K G wx (aLen n g) σ H Q) : tLen n (rA K G wx g) σ H Q := by
  obtain ⟨W, env, st, rfl, A, re, p⟩ := q
  refine ⟨W, env, st, rfl, A, re, PostA.bindA p fun ds st1 W1 vs _ l1 A1 r1 p1 => ?_⟩
  by_cases h : ds.length = n
  · rw [if_pos h] at p1
    exact ⟨r1.length ▸ h, p1 W1 vs .rfl' A1 r1⟩
  · rw [if_neg h] at p1
    exact False.elim p1
theorem dc_nil : DC X G wx [] [] 0 [] dNil := ⟨pca_nil.imp fun σ H Q q => by
  obtain ⟨W, env, st, rfl, A, re, p⟩ := q
  exact p W [] .rfl' A .nil⟩
theorem dc_pos (ha : DA X G wx (e :: es) g) (he : starEach (e :: es) X.env = (false, eval e X.env) :: starEach es X.env := by rfl) (hpl : ∀ pos, (backTo pos (starEach es X.env)).any (·.1) = false := by intro _; rfl) : DC X G wx (e :: es) [] n [] (aLen n g) :=
  ⟨(pca_pos ha.pa he hpl).imp fun σ H Q q => tLen_of q⟩
theorem dc_kw0 (hkw : DK X G wx kws g) (hall : ∀ pos, (backToKw pos (keywordEach kws X.env)).all (·.1.isSome) = true := by intro _; rfl) (hks : ∀ pos, (backToKw pos (keywordEach kws X.env)).filterMap (·.1) = ks := by intro _; rfl)
    (hpl : ∀ pos, ((backTo pos (starEach [] X.env)).any (·.1) || (backToKw pos (keywordEach kws X.env)).any (·.1.isNone)) = false := by intro _; rfl) : DC X G wx [] kws 0 ks (aLen ks.length g) := ⟨(pca_kw0 hkw.pk hall hks hpl).imp fun σ H Q q => tLen_of q⟩
theorem dc_kw (ha : DA X G wx (e :: es) g) (hkw : DK X G wx kws gk) (hall : ∀ pos, (backToKw pos (keywordEach kws X.env)).all (·.1.isSome) = true := by intro _; rfl) (hks : ∀ pos, (backToKw pos (keywordEach kws X.env)).filterMap (·.1) = ks := by intro _; rfl)
    (he : starEach (e :: es) X.env = (false, eval e X.env) :: starEach es X.env := by rfl) (hpl : ∀ pos, ((backTo pos (starEach (e :: es) X.env)).any (·.1) || (backToKw pos (keywordEach kws X.env)).any (·.1.isNone)) = false := by intro _; rfl) :
    DC X G wx (e :: es) kws n ks (aKw n ks.length g gk) := ⟨(pca_kw (n := n) ha.pa hkw.pk hall hks he hpl).imp fun σ H Q q => by
  obtain ⟨W, env, st, rfl, A, re, p⟩ := q
  refine ⟨W, env, st, rfl, A, re, PostA.bindA p fun ds st1 W1 vs _ l1 A1 r1 p1 => ?_⟩
  refine ⟨W1, env, st1, rfl, A1, re.up l1, PostA.bindA p1 fun zs st2 W2 us _ l2 A2 r2 p2 => ?_⟩
  by_cases h : ds.length = n ∧ zs.length = ks.length
  · rw [if_pos h] at p2
    exact ⟨r1.length ▸ h.1, r2.length ▸ h.2, p2 W2 (vs ++ us) .rfl' A2 ((r1.up l2).append r2)⟩
  · rw [if_neg h] at p2
    exact False.elim p2⟩
end

/-! ### promises by the written order -/
theorem filterMap_rel {K : PySem.W.Frag} {G : CG} {W : Wd} {ds : List D} {vs : List V} (r : RelDs K G W ds vs) : ∀ p : List Nat, RelDs K G W (p.filterMap (ds[·]?)) (p.filterMap (vs[·]?))
  | [] => .nil
  | i :: p => by
    rw [List.filterMap_cons, List.filterMap_cons]
    cases h : ds[i]? with
    | none =>
      have hv : vs[i]? = none := by
        have e := r.length
        rw [List.getElem?_eq_none_iff] at h ⊢
        omega
      rw [hv]
      exact filterMap_rel r p
    | some d =>
      obtain ⟨v, h1, h2⟩ := r.get h
      rw [h1]
      exact .cons h2 (filterMap_rel r p)
theorem permO_rel {K : PySem.W.Frag} {G : CG} {W : Wd} {π : Option (List Nat)} {ds : List D} {vs : List V} (r : RelDs K G W ds vs) : RelDs K G W (permO π ds) (permO π vs) := by
  cases π with
  | none => exact r
  | some p => exact filterMap_rel r p
section
variable {P : Program} {w : World} {K : PySem.W.Frag} {mg : Str → Option Value} {base : Heap} {CX : CXT} {k : Nat} {f : Addr} {fd : FuncData} {n m : Nat} {ps ks : List Str} {π : Option (List Nat)} {fn : List D → Sto → Out D} {G : CG}
theorem FnOk.toD (F : FnOk P w K mg base CX k f fd ps (spD K G fn)) (hb : KBp K fd ps n ks π) : FnB P w K mg base CX k f n ks (spD K G fun ds st => fn (permO π ds) st) :=
  (DL.FnOk.toB F hb).imp fun vs H Q E q => by
    obtain ⟨W, ds, st, rfl, A, r, p⟩ := q
    exact ⟨W, permO π ds, st, rfl, A, permO_rel r, p⟩
def starFn (m : Nat) (fn : List D → Sto → Out D) : List D → Sto → Out D := fun ds st => if ds.length ≤ 10000000 then fn (ds.take m ++ [.tup (ds.drop m)]) st else .bad
theorem FnB.starD (F : FnB P w K mg base CX k f n ks (fun vs H Q E => (vs.drop m).length ≤ sizeLine ∧ ∀ p, H p = Option.none → spD K G fn (vs.take m ++ [V.ref p]) (upd H p (.tup (vs.drop m))) Q E)) :
    FnB P w K mg base CX k f n ks (spD K G (starFn m fn)) := F.imp fun vs H Q E q => by
  obtain ⟨W, ds, st, rfl, A, r, p⟩ := q
  unfold starFn at p
  by_cases h : ds.length ≤ 10000000
  · rw [if_pos h] at p
    refine ⟨?_, fun q hq => ?_⟩
    · rw [List.length_drop, ← r.length, sizeLine_eq]
      omega
    · have l := Wd.le_put (o := .tup (vs.drop m)) A hq
      exact ⟨W.put q (.tup (vs.drop m)), _, st, rfl, A.put hq, ((r.take m).up l).append (.cons (.tup (.inr rfl) upd_same ((r.drop m).up l)) .nil), Post.up p l⟩
  · rw [if_neg h] at p
    exact False.elim p
end

/-! ### calls -/
section
variable {X : Cx} {G : CG} {wx : WX} {k : Nat} {f C : Addr} {fn fi : List D → Sto → Out D} {x : Str} {p pos : Pos} {es : List Expr} {kws : List Keyword} {n : Nat} {ks : List Str} {g : DenA}
theorem de_callA (F : FnB X.prog X.w X.K X.mg X.base (L2.CX X.prog X.w) k f n ks (spD X.K G fn)) (hr : Room k X.A) (hg : Gl X x) (hm : X.mg x = some (.ref f)) (hk : PySem.W.keepIn X.K (.ref f) = true) (tk : Takes X wx) (ha : DC X G wx es kws n ks g) (hdb : (x == ("__debug__" : Str)) = false := by decide) :
    DE X G wx (.Call (.Name x p) es kws pos) (dCall fn g) := ⟨(pe_callA (E := WE wx) F hr hg hm hk (passAt tk) ha.pca hdb).imp fun σ H Q q => by
  obtain ⟨W, env, st, rfl, A, re, p⟩ := q
  exact ⟨W, env, st, rfl, A, re, PostA.bind p fun ds st1 W1 vs _ l1 A1 r1 p1 => ⟨W1, ds, st1, rfl, A1, r1, p1⟩⟩⟩
/-- C(..): a new instance, made by __init__, then never changed -/
def mkIns (c : String) (fi : List D → Sto → Out D) (ds : List D) (st : Sto) : Out D := (fi (.ref st.n :: ds) (st.new (.ins c []))).bind fun d st2 => match d with
  | .non => (match st2.m st.n with
    | some (.ins c' fs) => if c' = c then .ok (.ins c fs) (st2.del st.n) else .bad
    | _ => .bad)
  | _ => .bad
theorem de_makeA {c : String} (hc : G c = some C) (M : Mk X.K C f) (F : FnB X.prog X.w X.K X.mg X.base (L2.CX X.prog X.w) k f (n + 1) ks (spD X.K G fi)) (hr : Room (k + 1) X.A) (hg : Gl X x) (hm : X.mg x = some (.ref C)) (tk : Takes X wx) (ha : DC X G wx es kws n ks g)
    (hdb : (x == ("__debug__" : Str)) = false := by decide) : DE X G wx (.Call (.Name x p) es kws pos) (dCall (mkIns c fi) g) := ⟨(pe_makeA (E := WE wx) M F hr hg hm (passAt tk) ha.pca hdb).imp fun σ H Q q => by
  obtain ⟨W, env, st, rfl, A, re, p⟩ := q
  refine ⟨W, env, st, rfl, A, re, PostA.bind p fun ds st1 W1 vs _ l1 A1 r1 p1 => fun x dx hx hdx hne => ?_⟩
  obtain ⟨A2, l2⟩ := A1.aside (o := .own x) hdx
  have hx2 : (upd W1.H dx (.own x)) x = none := by rw [upd_ne (Ne.symm hne)]; exact hx
  have l3 := Wd.le_add (o := .ins C dx []) A2 hx2
  have l13 := l2.trans l3
  refine ⟨Wd.add ⟨W1.ρ, W1.F, W1.T, upd W1.H dx (.own x)⟩ st1.n x (.ins C dx []), .ref st1.n :: ds, st1.new (.ins c []), rfl, A2.add hx2 (.ins hc upd_same .nil), ?_, ?_⟩
  · exact .cons (.ref (by show (if st1.n = st1.n then some x else _) = some x; rw [if_pos rfl])) (r1.up l13)
  · refine Post.bind (Post.up p1 l13) fun d st4 W4 v _ l4 A4 r4 p4 => ?_
    cases d with
    | non =>
      cases r4
      refine ⟨rfl, ?_⟩
      dsimp only at p4
      cases hm4 : st4.m st1.n with
      | none => rw [hm4] at p4; exact False.elim p4
      | some mo =>
        rw [hm4] at p4
        cases mo with
        | ins c' fs =>
          dsimp only at p4
          by_cases hcc : c' = c
          · rw [if_pos hcc] at p4
            subst hcc
            obtain ⟨a, ea, nf, ra⟩ := A4.obj _ _ hm4
            have ex : W4.ρ st1.n = some x := l4.r _ _ (by show (if st1.n = st1.n then some x else _) = some x; rw [if_pos rfl])
            rw [ex] at ea
            cases ea
            cases ra with
            | ins gc h1 h2 =>
              exact p4 (W4.frz x) (.ref x) Wd.le_frz (A4.frz hm4 ex) (.ins (.inr rfl) gc h1 (h2.up Wd.le_frz))
          · rw [if_neg hcc] at p4
            exact False.elim p4
        | _ => exact False.elim p4
    | _ => exact False.elim p4⟩
end

/-! ### own exceptions: __init__(self, p..) says super().__init__(p..) and stores each -/
def spXI (K : PySem.W.Frag) (D : Addr) (names : List Str) : Sp := fun vs H Q _ => ∃ a C us, vs = .ref a :: us ∧ us.length = names.length ∧ us.length ≤ 100 ∧ H a = some (exo a C none) ∧ SupE K C D ∧ (∀ f ∈ names, PySem.W.findIn K (.ref C) f = some none) ∧
  ∀ dx, H dx = none → dx ≠ a → Q .non (upd (upd H dx (exd dx (names.zip us).reverse)) a (exo a C (some dx)))
theorem upd_swap {H : Hp} {a b : Addr} {o u v : HO} (h : b ≠ a) : upd (upd (upd H b o) a u) b v = upd (upd H b v) a u := by
  funext c
  by_cases h1 : c = b
  · subst h1
    rw [upd_same, upd_ne h, upd_same]
  · by_cases h2 : c = a
    · subst h2
      rw [upd_ne h1, upd_same, upd_same]
    · rw [upd_ne h1, upd_ne h2, upd_ne h1, upd_ne h2, upd_ne h1]
theorem upd_over {H : Hp} {a b : Addr} {o u v : HO} (h : b ≠ a) : upd (upd (upd H a o) b u) a v = upd (upd H b u) a v := by
  funext c
  by_cases h2 : c = a
  · subst h2
    rw [upd_same, upd_same]
  · rw [upd_ne h2, upd_ne h2]
    by_cases h1 : c = b
    · subst h1
      rw [upd_same, upd_same]
    · rw [upd_ne h1, upd_ne h1, upd_ne h2]
section
variable {X : Cx} {G : CG} {wx : WX} {k : Nat} {f C D : Addr} {x : Str} {p pos : Pos} {es : List Expr} {kws : List Keyword} {n : Nat} {ks names : List Str} {g : DenA}
def mkExn (c : String) (names : List Str) (ds : List DL.D) (st : Sto) : Out DL.D := if ds.length = names.length ∧ names.length ≤ 100 then .ok (.exn c (names.zip ds).reverse) st else .bad
theorem RelFs.zip {K : PySem.W.Frag} {W : Wd} : ∀ {names : List Str} {ds : List DL.D} {vs : List V}, RelDs K G W ds vs → RelFs K G W (names.zip ds) (names.zip vs)
  | [], _, _, _ => by simpa using RelFs.nil
  | _ :: _, _, _, .nil => by simpa using RelFs.nil
  | f :: names, _, _, .cons r t => .cons r (RelFs.zip t)
theorem RelFs.append {K : PySem.W.Frag} {W : Wd} : ∀ {as : List (Str × DL.D)} {bs : List (Str × DL.D)} {xs ys : List (Str × V)}, RelFs K G W as xs → RelFs K G W bs ys → RelFs K G W (as ++ bs) (xs ++ ys)
  | _, _, _, _, .nil, s => s
  | _, _, _, _, .cons r t, s => .cons r (RelFs.append t s)
theorem RelFs.reverse {K : PySem.W.Frag} {W : Wd} : ∀ {as : List (Str × DL.D)} {xs : List (Str × V)}, RelFs K G W as xs → RelFs K G W as.reverse xs.reverse
  | _, _, .nil => .nil
  | _, _, .cons r t => by
    rw [List.reverse_cons, List.reverse_cons]
    exact RelFs.append (RelFs.reverse t) (.cons r .nil)
theorem de_mkx {c : String} (hc : G c = some C) (SE : SupE X.K C D) (hn : ∀ f ∈ names, PySem.W.findIn X.K (.ref C) f = some none) (iC : PySem.W.findIn X.K (.ref C) "__init__" = some (some (.ref f))) (tI : PySem.W.typeIn X.K (.ref f) = some (.type "function"))
    (FI : FnB X.prog X.w X.K X.mg X.base (L2.CX X.prog X.w) k f (n + 1) ks (spXI X.K D names)) (hr : Room (k + 1) X.A) (hg : Gl X x) (hm : X.mg x = some (.ref C)) (tk : Takes X wx) (ha : DC X G wx es kws n ks g) (hdb : (x == ("__debug__" : Str)) = false := by decide) :
    DE X G wx (.Call (.Name x p) es kws pos) (dCall (mkExn c names) g) := ⟨(pe_mkxA (E := WE wx) SE.ox iC tI FI hr hg hm (passAt tk) ha.pca hdb).imp fun σ H Q q => by
  obtain ⟨W, env, st, rfl, A, re, p⟩ := q
  refine ⟨W, env, st, rfl, A, re, PostA.bind p fun ds st1 W1 vs _ l1 A1 r1 p1 => ?_⟩
  unfold mkExn at p1
  by_cases hl : ds.length = names.length ∧ names.length ≤ 100
  · rw [if_pos hl] at p1
    have e := r1.length
    refine ⟨by omega, fun a ha => ⟨a, C, vs, rfl, by omega, by omega, upd_same, SE, hn, fun dx hd ne => ⟨rfl, ?_⟩⟩⟩
    rw [upd_ne ne] at hd
    rw [upd_over ne]
    have lA := Wd.le_put (o := exd dx (names.zip vs).reverse) A1 hd
    have A2 := A1.put (o := exd dx (names.zip vs).reverse) hd
    have ha2 : (W1.put dx (exd dx (names.zip vs).reverse)).H a = none := by
      show upd W1.H dx (exd dx (names.zip vs).reverse) a = none
      rw [upd_ne (Ne.symm ne)]
      exact ha
    have lB := Wd.le_put (o := exo a C (some dx)) A2 ha2
    refine p1 ((W1.put dx (exd dx (names.zip vs).reverse)).put a (exo a C (some dx))) (.ref a) (lA.trans lB) (A2.put ha2) (.exn (gs := (names.zip vs).reverse) (.inr rfl) (.inl (.inr rfl)) hc upd_same ?_ ?_)
    · show upd (upd W1.H dx (exd dx (names.zip vs).reverse)) a (exo a C (some dx)) dx = some (exd dx (names.zip vs).reverse)
      rw [upd_ne ne, upd_same]
    · exact (RelFs.reverse (RelFs.zip r1)).up (lA.trans lB)
  · rw [if_neg hl] at p1
    exact False.elim p1⟩
end
end DL

set_option Elab.async false
set_option linter.all false
set_option maxRecDepth 100000
/-! # DXInit: the __init__ of own exceptions -/
namespace DL
open PySem PySem.Spec PyProof.Rows L2 StX NdefX

/-- super().__init__(..) stands on one line -/
def SupCall (es : List Expr) (p0 p1 ap pos : Pos) : Prop := ∀ env : Env, ∃ pl, eval (.Call (.Attribute (.Call (.Name "super" p0) [] [] p1) "__init__" ap) es [] pos) env = (do
      let ov ← attributeBase (.Call (.Name "super" p0) [] [] p1) "__init__" env (eval (.Call (.Name "super" p0) [] [] p1) env)
      standAt ap.atName
      let (f, first) ← holding [ov] (getMethod ov "__init__" pl)
      callWith pos f first (backTo pos (starEach es env)) [])
/-- what super() asks of the written part -/
structure SupK (P : Program) (K : PySem.W.Frag) (mg : Str → Option Value) (c D : Addr) : Prop where
  ck : ∃ a b d vs file tf, K.lookup c = some ⟨a, b, .fields vs, d⟩ ∧ vs[2]? = some (.str file tf) ∧ ((P.main.file : Str) == file) = true
  top : (P.main.scope.names.lookup ("super" : Str)).isSome = false
  mg : mg "super" = none
  cls : ∃ cd, PySem.W.clsIn K D = some cd
  opq : PySem.W.nsIn K cStatics "thirdparty.any" = some none
structure SupS (st : Stmt) (sf : Str) (N : List Str) : Prop where
  sup : (defScope st).names.lookup ("super" : Str) = some .globalImplicit
  cls : (defScope st).names.lookup ("__class__" : Str) = some .free
  loc : (defScope st).names.lookup sf = some .local
  par : ∃ ar, ((defArgs st).posonlyargs ++ (defArgs st).args).head? = some ar ∧ ar.arg = sf
  n0 : N[0]? = some sf
section
variable {P : Program} {w : World} {K : PySem.W.Frag} {mg : Str → Option Value} {base : Heap} {CX : CXT} {k : Nat} {f c cc D : Addr} {x qual : Str} {st : Stmt} {fd : FuncData} {N ps : List Str} {sf : Str}
theorem sup_ncx (F : FunC K x qual st f fd c cc D) (SK : SupK P K mg c D) (SS : SupS st sf N) (A : Around) (outer : List Env) (s : Shared) (H : Hp) (E : XK) : Sup (ncx CX P w K mg base N (supF x qual st cc c) f A outer s H E) f c cc D sf := by
  obtain ⟨oc, od, kV, doc, pm, an, ct, osl, rfl, lk, hcd⟩ := F.ex
  obtain ⟨ar, hp, ha⟩ := SS.par
  exact ⟨rfl, rfl, SS.sup, SS.cls, rfl, F.cell, ⟨_, _, _, _, ar, lk, hp, ha⟩, SK.ck, SK.top, SK.mg, SK.cls, SS.n0, SS.loc, SK.opq⟩
theorem spXI_len {names : List Str} {m : Nat} (h : m = names.length + 1) : ∀ vs H Q E, spXI K D names vs H Q E → vs.length = m := fun vs H Q E q => by
  obtain ⟨a, C, us, rfl, hl, _⟩ := q
  rw [h, ← hl]
  rfl
/-- one field -/
theorem exc_init1 {pn fld : Str} {p0 p1 ap pos pos' q1 q2 q3 q4 q5 : Pos} (F : FunC K x qual st f fd c cc D) (SK : SupK P K mg c D) (S : NScope [sf, pn, "__class__"] [sf, pn] ["__class__"] (defScope st)) (SS : SupS st sf [sf, pn, "__class__"])
    (hd : (sf == ("__debug__" : Str)) = false ∧ (sf == ("__classdict__" : Str)) = false ∧ (pn == ("__debug__" : Str)) = false ∧ (pn == ("__classdict__" : Str)) = false)
    (hsc : SupCall [.Name pn q1] p0 p1 ap pos)
    (hst : defBody st = [.Expr (.Call (.Attribute (.Call (.Name "super" p0) [] [] p1) "__init__" ap) [.Name pn q1] [] pos) pos', .Assign [.Attribute (.Name sf q2) fld q3] (.Name pn q4) q5]) :
    FnOk P w K mg base (L2.CX P w) (k + 1) f fd [sf, pn] (spXI K D [fld]) := by
  refine fn_sup (N := [sf, pn, "__class__"]) F S (spXI_len rfl) fun A outer s H vs Q E hr q => ?_
  have v0 : Vis (defScope st) sf := .inl (S.par sf (by simp))
  have v1 : Vis (defScope st) pn := .inl (S.par pn (by simp))
  obtain ⟨d1, d2, d3, d4⟩ := hd
  rw [hst]
  obtain ⟨pl, ht⟩ := hsc (ncx (L2.CX P w) P w K mg base _ (supF x qual st cc c) f A outer s H E).env
  refine ⟨_, PSAt.seq (at_supE (sup_ncx F SK SS A outer s H E) (pa_cons (pe_var (i := 1) rfl v1 d3 d4) pa_nil) (ht := ht)) (pss_one (ps_ost (pe_var (i := 0) rfl v0 d1 d2) (pe_var (i := 1) rfl v1 d3 d4))), ?_⟩
  obtain ⟨a, C, us, rfl, hl, _, ha, M, hn, hq⟩ := q
  match us, hl with
  | [u], _ =>
    refine ⟨a, C, rfl, ha, M, ?_⟩
    refine ⟨u, rfl, Nat.le_of_ble_eq_true rfl, ha, ?_⟩
    refine ⟨u, rfl, .ref a, rfl, a, C, rfl, M.ox, hn fld (by simp), .inl ⟨ha, fun dx h1 h2 => ?_⟩⟩
    exact hq dx h1 h2
/-- two fields -/
theorem exc_init2 {pn pm fld fle : Str} {p0 p1 ap pos pos' q1 q2 q3 q4 q5 q6 q7 q8 q9 q0 : Pos} (F : FunC K x qual st f fd c cc D) (SK : SupK P K mg c D) (S : NScope [sf, pn, pm, "__class__"] [sf, pn, pm] ["__class__"] (defScope st)) (SS : SupS st sf [sf, pn, pm, "__class__"])
    (hd : (sf == ("__debug__" : Str)) = false ∧ (sf == ("__classdict__" : Str)) = false ∧ (pn == ("__debug__" : Str)) = false ∧ (pn == ("__classdict__" : Str)) = false ∧ (pm == ("__debug__" : Str)) = false ∧ (pm == ("__classdict__" : Str)) = false)
    (hsc : SupCall [.Name pn q1, .Name pm q0] p0 p1 ap pos)
    (hst : defBody st = [.Expr (.Call (.Attribute (.Call (.Name "super" p0) [] [] p1) "__init__" ap) [.Name pn q1, .Name pm q0] [] pos) pos', .Assign [.Attribute (.Name sf q2) fld q3] (.Name pn q4) q5, .Assign [.Attribute (.Name sf q6) fle q7] (.Name pm q8) q9]) :
    FnOk P w K mg base (L2.CX P w) (k + 1) f fd [sf, pn, pm] (spXI K D [fld, fle]) := by
  refine fn_sup (N := [sf, pn, pm, "__class__"]) F S (spXI_len rfl) fun A outer s H vs Q E hr q => ?_
  have v0 : Vis (defScope st) sf := .inl (S.par sf (by simp))
  have v1 : Vis (defScope st) pn := .inl (S.par pn (by simp))
  have v2 : Vis (defScope st) pm := .inl (S.par pm (by simp))
  obtain ⟨d1, d2, d3, d4, d5, d6⟩ := hd
  rw [hst]
  obtain ⟨pl, ht⟩ := hsc (ncx (L2.CX P w) P w K mg base _ (supF x qual st cc c) f A outer s H E).env
  refine ⟨_, PSAt.seq (at_supE (sup_ncx F SK SS A outer s H E) (pa_cons (pe_var (i := 1) rfl v1 d3 d4) (pa_cons (pe_var (i := 2) rfl v2 d5 d6) pa_nil)) (ht := ht))
    (pss_cons (ps_ost (pe_var (i := 0) rfl v0 d1 d2) (pe_var (i := 1) rfl v1 d3 d4)) (pss_one (ps_ost (pe_var (i := 0) rfl v0 d1 d2) (pe_var (i := 2) rfl v2 d5 d6)))), ?_⟩
  obtain ⟨a, C, us, rfl, hl, _, ha, M, hn, hq⟩ := q
  match us, hl with
  | [u, v], _ =>
    refine ⟨a, C, rfl, ha, M, ?_⟩
    refine ⟨u, rfl, v, rfl, Nat.le_of_ble_eq_true rfl, ha, ?_⟩
    refine ⟨u, rfl, .ref a, rfl, a, C, rfl, M.ox, hn fld (by simp), .inl ⟨ha, fun dx h1 h2 => ?_⟩⟩
    refine ⟨v, rfl, .ref a, rfl, a, C, rfl, M.ox, hn fle (by simp), .inr ⟨dx, [(fld, u)], upd_same, ?_, Nat.le_of_ble_eq_true rfl, ?_⟩⟩
    · show upd (upd H dx _) a _ dx = _
      rw [upd_ne h2, upd_same]
    · rw [upd_swap h2]
      exact hq dx h1 h2
end
end DL

set_option Elab.async false
set_option linter.all false
set_option maxRecDepth 100000
/-! # DPap: methods over data: with a star, and with super().__init__(..) ahead -/
namespace DL
open PySem PySem.Spec PyProof.Rows L2 StX NdefX ClX

def tSupB (K : PySem.W.Frag) (D g : Addr) (n : Nat) (sp : Sp) (E : L2.St → XK) (ta : TA) : TS := fun Z σ H => ∃ x C dx gs, σ[0]? = some (some (.ref x)) ∧ H x = some (.ins C dx gs) ∧ SupM K C D g ∧
  ta σ H fun vs H1 => vs.length = n ∧ sp (.ref x :: vs) H1 (fun _ H2 => Z.nx σ H2) (E σ)
section
variable {X : Cx} {f c cc D g : Addr} {sf : Str} {b : List Stmt} {p0 p1 ap pos pos' : Pos} {e : Expr} {es : List Expr} {ta : TA} {CX : CXT} {k n : Nat} {sp : Sp} {E : L2.St → XK}
theorem at_supB (hsc : SupCall (e :: es) p0 p1 ap pos) (S : Sup X f c cc D sf) (F : FnB X.prog X.w X.K X.mg X.base CX k g (n + 1) [] sp) (hr : Room k X.A) (hx : ∀ σ, PassesAt CX X σ (E σ)) (ha : PA X (e :: es) ta)
    (he : starEach (e :: es) X.env = (false, eval e X.env) :: starEach es X.env := by rfl) (hpl : (backTo pos (starEach es X.env)).any (·.1) = false := by rfl)
    (hs : swapsWith (.Call (.Attribute (.Call (.Name "super" p0) [] [] p1) "__init__" ap) (e :: es) [] pos) none pos'.line X.env = pure false := by rfl) :
    PSAt X b (.Expr (.Call (.Attribute (.Call (.Name "super" p0) [] [] p1) "__init__" ap) (e :: es) [] pos) pos') (tSupB X.K D g n sp E ta) := by
  refine ⟨fun pins s σ H Z I h => ?_⟩
  obtain ⟨pl, ht⟩ := hsc X.env
  obtain ⟨x, C, dx, gs, h0, ex, M, q⟩ := h
  obtain ⟨mA, ob, _, _, _, _⟩ := ins_get I.hok ex
  have ho : s.heap.get? x = some (PySem.W.instObj C dx) := ob.1
  have hnc : ∀ cd, (PySem.W.instObj C dx).data ≠ .cls cd := fun cd z => nomatch z
  refine ks_wpAt_Expr_any ?_ I.quiet hs
  refine ks_wpAt_MethodCall (pl := pl) ?_ ht
  refine sup_obj S I h0 ho rfl hnc M.sub (by decide) fun h' hso kp => ?_
  have I1 : Inv X pins σ H { s with heap := h' } := I.kept (t' := s.toks) kp
  have KX := I1.kIn
  have hfind := M.find
  unfold PySem.W.ks_superIn at hfind
  cases hcd : PySem.W.clsIn X.K C with
  | none => rw [hcd] at hfind; cases hfind
  | some cd =>
    rw [hcd] at hfind
    obtain ⟨og, hog, hogc⟩ : ∃ og, h'.get? g = some og ∧ og.cls = .type "function" := by
      have ht' : (X.K.lookup g).map (·.cls) = some (.type "function") := M.ty
      cases z : X.K.lookup g with
      | none => rw [z] at ht'; cases ht'
      | some og => rw [z] at ht'; exact ⟨og, KX _ _ z, Option.some.inj ht'⟩
    have hxC : x ≠ C := fun exC => by
      unfold PySem.W.clsIn at hcd
      split at hcd
      · rename_i c1 d1 cd1 sl1 ho1
        have z : h'.get? x = some (PySem.W.instObj C dx) := kp _ _ ho
        rw [exC, KX _ _ ho1] at z
        cases z
      · cases hcd
    obtain ⟨hh, gg, d, t, os⟩ := s
    refine ks_wpAny_getMethod_super (l₀ := cd.mro) hso (PySem.W.looks_opaque KX S.opq) (fun A Q E s k q => wpAny_bind ((PySem.W.looks_clsIn KX hcd) A _ E s k (wpAny_pure q))) rfl KX hfind hog hogc hxC (by decide) ?_
    have I2 : Inv X ((h'.objs.size, PySem.W.methodObj (.ref g) (.ref x)) :: pins) σ H ⟨h'.push (PySem.W.methodObj (.ref g) (.ref x)), gg, d, t + 1, os⟩ :=
      pin_new I1 (fun _ _ z => Heap.get?_push_of_some _ z) (Nat.le_refl _) (Heap.get?_push_size h' rfl) (fun v z => nomatch z)
    refine callwith_cm I2 (base_none I1 (Nat.le_refl _)) M.fn (thn (ha.run pos _ _ σ H _ I2 q) fun us s1 ⟨vs, H1, I3, r1, hl, q1⟩ => ⟨⟨pin_at I3, I3.kIn⟩, ?_⟩) he hpl
    have rr : Vals (V.ref x :: vs) ((Value.ref x :: us) ++ []) := by rw [List.append_nil]; exact .cons rfl r1
    have z : wpAny (model X.prog X.w) X.A (call (.ref h'.objs.size) us) (EP X ((h'.objs.size, PySem.W.methodObj (.ref g) (.ref x)) :: pins) σ (fun _ H2 => Z.nx σ H2)) X.xe s1 :=
      wpAny_call (PySem.W.method_call (pin_at I3) (codeAny_mono (run_B (us := .ref x :: us) (ws := []) F hr (hx σ) I3 (by simp [← r1.length, hl]) rfl rr q1) fun r s' z => by rcases r with e | (v | _ | _ | _) <;> exact z))
    exact thn z fun u s2 y => by
      obtain ⟨v, H2, I4, _, q2⟩ := unpinE y
      exact ⟨σ, H2, I4, q2⟩
end

structure DSAt (X : Cx) (G : CG) (wx : WX) (b : List Stmt) (st : Stmt) (g : DenS) : Prop where
  at_ : PSAt X b st (rS X.K G wx g)
structure DSsAt (X : Cx) (G : CG) (wx : WX) (b st : List Stmt) (g : DenS) : Prop where
  at_ : PSsAt X b st (rS X.K G wx g)
theorem PSAt.imp {X : Cx} {b : List Stmt} {e : Stmt} {t t' : TS} (h : PSAt X b e t) (i : ∀ D σ H, t' D σ H → t D σ H) : PSAt X b e t' := ⟨fun pins s σ H D I q => h.run pins s σ H D I (i D σ H q)⟩
theorem PSsAt.imp {X : Cx} {b : List Stmt} {e : List Stmt} {t t' : TS} (h : PSsAt X b e t) (i : ∀ D σ H, t' D σ H → t D σ H) : PSsAt X b e t' := ⟨fun pins s σ H D I q => h.run pins s σ H D I (i D σ H q)⟩
/-- super().__init__(..) of an instance of one of the classes cs -/
def sSup (cs : List String) (fn : List D → Sto → Out D) (n : Nat) (g : DenA) : DenS := fun env st => match env[0]? with
  | some (some (D.ref i)) => (match st.m i with
    | some (.ins c _) => if c ∈ cs then (g env st).go env fun ds st1 => if ds.length = n then (fn (.ref i :: ds) st1).go env fun _ st2 => .nx env st2 else .bad else .bad
    | _ => .bad)
  | _ => .bad
theorem PostA.go {K : PySem.W.Frag} {G : CG} {W : Wd} {wx : WX} {env : DEnv} {σ : L2.St} {o : Out (List D)} {k : List D → Sto → SOut} {Z : Ends} {Q' : List V → Hp → Prop} (re : REnv K G W env σ) (p : PostS K G W wx (o.go env k) Z)
    (h : ∀ d st W' v, o = .ok d st → W.le W' → Abs K G W' st → RelDs K G W' d v → PostS K G W' wx (k d st) Z → Q' v W'.H) : PostA K G W (fun cls d H => wx cls d σ H) o Q' := by
  cases o with
  | bad => exact p
  | ok d st => exact fun W' v l a r => h d st W' v rfl l a r (PostS.up p l)
  | exc c fs st => exact p σ W .rfl' re
section
variable {X : Cx} {G : CG} {wx : WX} {f c cc D g : Addr} {sf : Str} {b rest : List Stmt} {st : Stmt} {p0 p1 ap pos pos' : Pos} {e : Expr} {es : List Expr} {ga : DenA} {k n : Nat} {fn : List DL.D → Sto → Out DL.D} {gs gr : DenS}
theorem ds_seqAt (h : DSAt X G wx b st gs) (hr : DSs X G wx rest gr) : DSsAt X G wx b (st :: rest) (sSeq gs gr) := ⟨(PSAt.seq h.at_ hr.pss).imp fun Z σ H q => by
  obtain ⟨W, env, st, rfl, A, re, p⟩ := q
  exact ⟨W, env, st, rfl, A, re, PostS.seq p fun env1 st1 W1 σ1 l1 A1 re1 p1 => ⟨W1, env1, st1, rfl, A1, re1, p1⟩⟩⟩
theorem ds_sup {cs : List String} (hsc : SupCall (e :: es) p0 p1 ap pos) (S : Sup X f c cc D sf) (F : FnB X.prog X.w X.K X.mg X.base (L2.CX X.prog X.w) k g (n + 1) [] (spD X.K G fn)) (hr : Room k X.A) (tk : Takes X wx) (ha : DA X G wx (e :: es) ga)
    (hC : ∀ c ∈ cs, ∀ C, G c = some C → SupM X.K C D g)
    (he : starEach (e :: es) X.env = (false, eval e X.env) :: starEach es X.env := by rfl) (hpl : (backTo pos (starEach es X.env)).any (·.1) = false := by rfl)
    (hs : swapsWith (.Call (.Attribute (.Call (.Name "super" p0) [] [] p1) "__init__" ap) (e :: es) [] pos) none pos'.line X.env = pure false := by rfl) :
    DSAt X G wx b (.Expr (.Call (.Attribute (.Call (.Name "super" p0) [] [] p1) "__init__" ap) (e :: es) [] pos) pos') (sSup cs fn n ga) := ⟨(at_supB (E := WE wx) hsc S F hr (passAt tk) ha.pa he hpl hs).imp fun Z σ H q => by
  obtain ⟨W, env, st, rfl, A, re, p⟩ := q
  unfold sSup at p
  cases h0 : env[0]? with
  | none => rw [h0] at p; exact False.elim p
  | some o =>
    rw [h0] at p
    cases o with
    | none => exact False.elim p
    | some d =>
      cases d with
      | ref i =>
        dsimp only at p
        cases hm : st.m i with
        | none => rw [hm] at p; exact False.elim p
        | some mo =>
          rw [hm] at p
          cases mo with
          | ins cn fs =>
            dsimp only at p
            by_cases hc : cn ∈ cs
            · rw [if_pos hc] at p
              obtain ⟨v, hv, rv⟩ := re.2 0 _ h0
              obtain ⟨a, ea, nf, ra⟩ := A.obj i _ hm
              cases rv with
              | @ref _ a' hr' =>
                rw [hr'] at ea
                cases ea
                cases ra with
                | ins gc h1 h2 =>
                  refine ⟨_, _, _, _, hv, h1, hC cn hc _ gc, W, env, st, rfl, A, re, PostA.go re p fun ds st1 W1 vs _ l1 A1 r1 p1 => ?_⟩
                  by_cases hn : ds.length = n
                  · rw [if_pos hn] at p1
                    exact ⟨r1.length ▸ hn, W1, .ref i :: ds, st1, rfl, A1, .cons (.ref (l1.r _ _ hr')) r1, Post.go (re.up l1) p1 fun d st2 W2 u _ l2 A2 r2 p2 => p2 W2 σ .rfl' A2 ((re.up l1).up l2)⟩
                  · rw [if_neg hn] at p1
                    exact False.elim p1
            · rw [if_neg hc] at p
              exact False.elim p
          | _ => exact False.elim p
      | _ => exact False.elim p⟩
end
section
variable {P : Program} {w : World} {K : PySem.W.Frag} {mg : Str → Option Value} {base : Heap} {k : Nat} {f c cc D : Addr} {x qual : Str} {st : Stmt} {fd : FuncData} {N ps : List Str} {G : CG} {g : DenS} {fn : List DL.D → Sto → Out DL.D}
theorem REnv.startF {W : Wd} {ds : List DL.D} {vs : List V} (r : RelDs K G W ds vs) (hl : vs.length + 1 ≤ N.length) {o : Option V} : REnv K G W (ds.map some ++ List.replicate (N.length - ds.length) none) (NdefX.startF N vs [o]) := by
  have e := r.length
  refine ⟨by simp [NdefX.startF, e]; omega, fun i d h => ?_⟩
  by_cases hi : i < ds.length
  · rw [List.getElem?_append_left (by simpa using hi), List.getElem?_map] at h
    cases hd : ds[i]? with
    | none => rw [hd] at h; cases h
    | some d' =>
      rw [hd] at h
      cases h
      obtain ⟨v, h1, h2⟩ := r.get hd
      refine ⟨v, ?_, h2⟩
      unfold NdefX.startF
      rw [List.getElem?_append_left (by rw [List.length_map]; omega), List.getElem?_map, h1]
      rfl
  · rw [List.getElem?_append_right (by simpa using hi), List.getElem?_replicate] at h
    split at h <;> cases h
/-- a method of the text with super() ahead, by its body -/
theorem fn_dS (F : FunC K x qual st f fd c cc D) (S : NScope N ps ["__class__"] (defScope st)) (hlen : ∀ ds s, ds.length ≠ ps.length → fn ds s = .bad) (hfn : ∀ ds s, fn ds s ≠ .bad → runBody N.length g ds s = fn ds s)
    (hbody : ∀ (A : Around) (outer : List Env) (s : Shared) (H : Hp) (E : XK), Room k (A.deeper (envF (supF x qual st cc c) f s.heap.objs.size)) →
      DSsAt (ncx (L2.CX P w) P w K mg base N (supF x qual st cc c) f A outer s H E) G (fun cls d _ H => E cls d H) (defBody st) (defBody st) g) : FnOk P w K mg base (L2.CX P w) (k + 1) f fd ps (spD K G fn) := by
  have len : ∀ vs H Q E, spD K G fn vs H Q E → vs.length = ps.length := fun vs H Q E q => by
    obtain ⟨W, ds, st, rfl, A, r, p⟩ := q
    by_cases h : ds.length = ps.length
    · exact r.length ▸ h
    · rw [hlen ds st h] at p; exact False.elim p
  refine fn_sup F S len fun A outer s H vs Q E hr q => ⟨_, (hbody A outer s H E hr).at_, ?_⟩
  have hl := len _ _ _ _ q
  obtain ⟨W, ds, st, rfl, A', r, p⟩ := q
  have hN : vs.length + 1 ≤ N.length := by
    have q := congrArg List.length S.pre
    rw [List.length_take, List.length_append] at q
    simp only [List.length_cons, List.length_nil] at q
    omega
  refine ⟨W, _, st, rfl, A', REnv.startF r hN, ?_⟩
  have p' : Post K G W E (runBody N.length g ds st) Q := by
    cases hf : fn ds st with
    | bad => rw [hf] at p; exact False.elim p
    | ok d st1 => rw [hfn ds st (by rw [hf]; exact fun z => by cases z)]; exact p
    | exc c fs st1 => rw [hfn ds st (by rw [hf]; exact fun z => by cases z)]; exact p
  clear p
  unfold runBody at p'
  cases hg : g (ds.map some ++ List.replicate (N.length - ds.length) none) st with
  | bad => rw [hg] at p'; exact p'
  | nx env st1 => rw [hg] at p'; exact fun W' σ' l a re => p' W' .non l a .non
  | rt d st1 => rw [hg] at p'; exact p'
  | bk env st1 => rw [hg] at p'; exact False.elim p'
  | ct env st1 => rw [hg] at p'; exact False.elim p'
  | exc c fs env st1 => rw [hg] at p'; exact fun σ' W1 l1 re1 => XcOk.up p' l1
/-- def f(a, .., *v) by its body -/
theorem fn_dStar {n : Nat} {ks : List Str} {pv : Str} (F : Fun K x qual st f fd) (S : FnScope N (ps ++ [pv]) (defScope st)) (hN : ps.length + 1 ≤ N.length) (hm : ps.length ≤ n + ks.length)
    (hb : ∀ (kV doc pm : Value) (an : Option Addr) (cdv ct : Value) (us ws : List Value), us.length = n → ws.length = ks.length → bindArgs (PySem.W.fnOf x qual (defArgs st) (defBody st) (defScope st) .none kV doc pm an cdv ct) ⟨us, ks.zip ws⟩ = (newTuple ((us ++ ws).drop ps.length) >>= fun t => pure (ps.zip ((us ++ ws).take ps.length) ++ [(pv, t)])))
    (hlen : ∀ ds s, ds.length ≠ ps.length + 1 → fn ds s = .bad) (hfn : ∀ ds s, fn ds s ≠ .bad → runBody N.length g ds s = fn ds s)
    (hbody : ∀ (cdv : Value) (A : Around) (outer : List Env) (s : Shared) (H : Hp) (E : XK), Room k (A.deeper (envOfC qual (defScope st) s.heap.objs.size f cdv)) →
      DSs (cxOf (L2.CX P w) P w K mg base N qual (defScope st) f cdv A outer s H E) G (fun cls d _ H => E cls d H) (defBody st) g) : FnB P w K mg base (L2.CX P w) (k + 1) f n ks (spD K G (starFn ps.length fn)) := by
  obtain ⟨oc, od, kV, doc, pm, an, cdv, ct, osl, rfl, lk, hcd⟩ := F.ex
  refine FnB.starD (fnb_star lk hcd S StX.cxUp hm (hb kV doc pm an cdv ct) fun A outer s H vs Q E hr q => ⟨_, (hbody cdv A outer s H E hr).pss, body_ok ?_ ?_⟩)
  · obtain ⟨W, ds, st, rfl, A', r, p⟩ := q
    by_cases h : ds.length = ps.length + 1
    · rw [← r.length, h]; exact hN
    · rw [hlen ds st h] at p; exact False.elim p
  · obtain ⟨W, ds, st, rfl, A', r, p⟩ := q
    refine ⟨W, ds, st, rfl, A', r, ?_⟩
    cases hf : fn ds st with
    | bad => rw [hf] at p; exact False.elim p
    | ok d st1 => rw [hfn ds st (by rw [hf]; exact fun z => by cases z)]; exact p
    | exc c fs st1 => rw [hfn ds st (by rw [hf]; exact fun z => by cases z)]; exact p
end
end DL

set_option Elab.async false
set_option linter.all false
set_option maxRecDepth 100000
/-! # DVal: operators, comparisons, subscripts, slices, built-ins, over data -/
namespace DL
open PySem PySem.Spec PyProof.Rows L2

abbrev F2 := D → D → Sto → Out D
/-! ### operators by kinds -/
def orF (f g : F2) : F2 := fun d e st => match f d e st with | .bad => g d e st | o => o
theorem nox_or {f g : F2} (h : NoX2 f) (h' : NoX2 g) : NoX2 (orF f g) := fun d e st c fs st' q => by
  unfold orF at q
  cases hf : f d e st with
  | bad => rw [hf] at q; exact h' _ _ _ _ _ _ q
  | ok z s => rw [hf] at q; cases q
  | exc c fs s => exact h _ _ _ _ _ _ hf
def fInt (C : Int → Int → Bool) (g : Int → Int → D) : F2 := fun d e st => match d, e with
  | .int i, .int j => if C i j = true then .ok (g i j) st else .bad
  | _, _ => .bad
theorem nox_int {C : Int → Int → Bool} {g : Int → Int → D} : NoX2 (fInt C g) := fun d e st c fs st' q => by
  unfold fInt at q
  split at q
  · split at q <;> cases q
  · cases q
/-- [..] + [..] -/
def fCat : F2 := fun d e st => match d, e with
  | .lst a, .lst b => if a.length + b.length ≤ 10000000 then .ok (.lst (a ++ b)) st else .bad
  | .tup a, .tup b => if a.isEmpty = false ∧ a.length + b.length ≤ 10000000 then .ok (.tup (a ++ b)) st else .bad
  | .str a, .str b => if a.length + b.length ≤ 10000000 then .ok (.str (a ++ b)) st else .bad
  | _, _ => .bad
theorem nox_cat : NoX2 fCat := fun d e st c fs st' q => by
  unfold fCat at q
  split at q
  · split at q <;> cases q
  · split at q <;> cases q
  · split at q <;> cases q
  · cases q
def fRep : F2 := fun d e st => match d, e with
  | .lst a, .int k => if a.length * k.toNat ≤ 10000000 ∧ k ≤ 10000000 ∧ -10000000 ≤ k then .ok (.lst (List.replicate k.toNat a).flatten) st else .bad
  | _, _ => .bad
theorem nox_rep : NoX2 fRep := fun d e st c fs st' q => by
  unfold fRep at q
  split at q
  · split at q <;> cases q
  · cases q
section
variable {X : Cx} {G : CG} {op : Value → Value → Sem Value} {r r' : R2} {f g : F2}
theorem OpR.imp (h : OpR X op r) (i : ∀ x y H Q, r' x y H Q → r x y H Q) : OpR X op r' := fun pins s σ H x y v u Q I rx ry q => h pins s σ H x y v u Q I rx ry (i _ _ _ _ q)
theorem opr_or (h : OpR X op (r2 X.K G f)) (h' : OpR X op (r2 X.K G g)) : OpR X op (r2 X.K G (orF f g)) := fun pins s σ H x y v u Q I rx ry q => by
  obtain ⟨W, d, e, st, rfl, A, r1, r2, p⟩ := q
  unfold orF at p
  cases hf : f d e st with
  | bad => rw [hf] at p; exact h' pins s σ _ x y v u Q I rx ry ⟨W, d, e, st, rfl, A, r1, r2, p⟩
  | ok z s => rw [hf] at p; exact h pins _ σ _ x y v u Q I rx ry ⟨W, d, e, st, rfl, A, r1, r2, by rw [hf]; exact p⟩
  | exc c fs s => rw [hf] at p; exact h pins _ σ _ x y v u Q I rx ry ⟨W, d, e, st, rfl, A, r1, r2, by rw [hf]; exact p⟩
theorem or_int {C : Int → Int → Bool} {g : Int → Int → D} {C' : Int → Int → Prop} {g' : Int → Int → V} (h : OpR X op (L2.rI C' g')) (hC : ∀ i j, C i j = true → C' i j) (hg : ∀ W i j, RelD X.K G W (g i j) (g' i j)) : OpR X op (r2 X.K G (fInt C g)) :=
  OpR.imp h fun x y H Q q => by
    obtain ⟨W, d, e, st, rfl, A, r1, r2, p⟩ := q
    unfold fInt at p
    split at p
    · split at p
      · cases r1
        cases r2
        exact ⟨_, _, rfl, rfl, hC _ _ ‹_›, p W _ .rfl' A (hg W _ _)⟩
      · exact False.elim p
    · exact False.elim p
theorem rI0_rI {g' : Int → Int → V} (h : OpR X op (rI0 g')) : OpR X op (L2.rI (fun _ _ => True) g') := OpR.imp h fun x y H Q q => by
  obtain ⟨i, j, h1, h2, _, q⟩ := q
  exact ⟨i, j, h1, h2, q⟩
theorem ten_line {n : Nat} (h : n ≤ 10000000) : n ≤ sizeLine := by rw [sizeLine_eq]; omega
theorem or_cat : OpR X (binaryOp .Add) (r2 X.K G fCat) := fun pins s σ H x y v u Q I rx ry q => by
  obtain ⟨W, d, e, st, rfl, A, r1, r2, p⟩ := q
  unfold fCat at p
  split at p
  · split at p
    · rename_i hz
      obtain ⟨a, vs, rfl, hf, ha, rs⟩ := r1.sq_lst
      obtain ⟨b, us, rfl, hg, hb, ss⟩ := r2.sq_lst
      refine op_cat pins s σ _ _ _ v u Q I rx ry ⟨a, b, vs, us, rfl, rfl, ha, hb, by rw [← rs.length, ← ss.length]; exact ten_line hz, fun q hq => ?_⟩
      have l := Wd.le_put (o := .lst (vs ++ us)) A hq
      exact p (W.put q _) (.ref q) l (A.put hq) (.lst (.inr rfl) upd_same ((rs.append ss).up l))
    · exact False.elim p
  · split at p
    · rename_i hz
      obtain ⟨a, vs, rfl, ha, rs⟩ := r1.sq_tup
      obtain ⟨b, us, rfl, hb, ss⟩ := r2.sq_tup
      refine op_catT pins s σ _ _ _ v u Q I rx ry ⟨a, b, vs, us, rfl, rfl, ha W (Wd.le.lf .rfl'), hb W (Wd.le.lf .rfl'), ?_, by rw [← rs.length, ← ss.length]; exact ten_line hz.2, fun hy => ?_, fun _ q hq => ?_⟩
      · rintro rfl
        cases rs
        cases hz.1
      · subst hy
        cases ss
        rw [List.append_nil] at p
        exact p W (.ref a) .rfl' A r1
      · have l := Wd.le_put (o := .tup (vs ++ us)) A hq
        exact p (W.put q _) (.ref q) l (A.put hq) (.tup (.inr rfl) upd_same ((rs.append ss).up l))
    · exact False.elim p
  · split at p
    · rename_i hz
      cases r1
      cases r2
      exact op_add_str pins s σ _ _ _ v u Q I rx ry ⟨_, _, rfl, rfl, ten_line hz, p W _ .rfl' A (.str _)⟩
    · exact False.elim p
  · exact False.elim p
theorem or_rep : OpR X (binaryOp .Mult) (r2 X.K G fRep) := fun pins s σ H x y v u Q I rx ry q => by
  obtain ⟨W, d, e, st, rfl, A, r1, r2, p⟩ := q
  unfold fRep at p
  split at p
  · split at p
    · rename_i k hz
      obtain ⟨a, vs, rfl, hf, ha, rs⟩ := r1.sq_lst
      cases r2
      have rr : ∀ n, RelDs X.K G W (List.replicate n _).flatten (List.replicate n vs).flatten := fun n => by
        induction n with
        | zero => exact .nil
        | succ n ih =>
          rw [List.replicate_succ, List.replicate_succ, List.flatten_cons, List.flatten_cons]
          exact rs.append ih
      refine op_rep pins s σ _ _ _ v u Q I rx ry ⟨a, k, vs, rfl, rfl, ha, by omega, by omega, by rw [← rs.length]; exact ten_line hz.1, fun q hq => ?_⟩
      have l := Wd.le_put (o := .lst (List.replicate k.toNat vs).flatten) A hq
      exact p (W.put q _) (.ref q) l (A.put hq) (.lst (.inr rfl) upd_same ((rr _).up l))
    · exact False.elim p
  · exact False.elim p
/-! the operators of the programs -/
def yes2 (_ _ : Int) : Bool := true
def small2 (i j : Int) : Bool := decide (-18446744073709551616 < i ∧ i < 18446744073709551616) || decide (-18446744073709551616 < j ∧ j < 18446744073709551616)
def fAdd : F2 := orF (fInt yes2 fun i j => .int (i + j)) fCat
def fSub : F2 := fInt yes2 fun i j => .int (i - j)
def fMul : F2 := orF (fInt small2 fun i j => .int (i * j)) fRep
def fMod : F2 := fInt (fun _ j => decide (0 < j)) fun i j => .int (i % j)
def fDiv : F2 := fInt (fun _ j => decide (0 < j ∧ j < 1073741824)) fun i j => .int (i / j)
def fPow : F2 := fInt (fun i j => decide (0 ≤ j ∧ j ≤ 1000 ∧ i.natAbs < 18446744073709551616)) fun i j => .int (i ^ j.toNat)
def fLt : F2 := fInt yes2 fun i j => .bl (decide (i < j))
def fLe : F2 := fInt yes2 fun i j => .bl (decide (i ≤ j))
def fGt : F2 := fInt yes2 fun i j => .bl (decide (j < i))
def fGe : F2 := fInt yes2 fun i j => .bl (decide (j ≤ i))
theorem o_add : OpR X (binaryOp .Add) (r2 X.K G fAdd) := opr_or (or_int (rI0_rI op_add) (fun _ _ _ => trivial) fun _ _ _ => .int _) or_cat
theorem o_sub : OpR X (binaryOp .Sub) (r2 X.K G fSub) := or_int (rI0_rI op_sub) (fun _ _ _ => trivial) fun _ _ _ => .int _
theorem o_mul : OpR X (binaryOp .Mult) (r2 X.K G fMul) := opr_or (or_int op_mul (fun i j h => by
  unfold small2 at h
  rw [Bool.or_eq_true, decide_eq_true_eq, decide_eq_true_eq] at h
  exact h) fun _ _ _ => .int _) or_rep
theorem o_mod : OpR X (binaryOp .Mod) (r2 X.K G fMod) := or_int op_mod (fun _ _ h => of_decide_eq_true h) fun _ _ _ => .int _
theorem o_div : OpR X (binaryOp .FloorDiv) (r2 X.K G fDiv) := or_int op_fdiv (fun _ j h => (of_decide_eq_true h : 0 < j ∧ j < 1073741824)) fun _ _ _ => .int _
theorem o_pow : OpR X (binaryOp .Pow) (r2 X.K G fPow) := or_int op_pow (fun i j h => by
  have h := of_decide_eq_true h
  exact ⟨h.1, by omega, h.2.2⟩) fun _ _ _ => .int _
theorem o_lt : OpR X (compareOp .Lt) (r2 X.K G fLt) := or_int (rI0_rI op_lt) (fun _ _ _ => trivial) fun _ _ _ => .bl _
theorem o_le : OpR X (compareOp .LtE) (r2 X.K G fLe) := or_int (rI0_rI op_le) (fun _ _ _ => trivial) fun _ _ _ => .bl _
theorem o_gt : OpR X (compareOp .Gt) (r2 X.K G fGt) := or_int (rI0_rI op_gt) (fun _ _ _ => trivial) fun _ _ _ => .bl _
theorem o_ge : OpR X (compareOp .GtE) (r2 X.K G fGe) := or_int (rI0_rI op_ge) (fun _ _ _ => trivial) fun _ _ _ => .bl _
theorem nx_add : NoX2 fAdd := nox_or nox_int nox_cat
theorem nx_mul : NoX2 fMul := nox_or nox_int nox_rep
end

/-! ### plain data -/
mutual
def toPy : D → Option PyData
  | .non => some .none
  | .bl b => some (.bool b)
  | .int i => some (.int i)
  | .str x => some (.str x)
  | .tup ds => (toPys ds).map .tuple
  | .lst ds => (toPys ds).map .list
  | _ => none
def toPys : List D → Option (List PyData)
  | [] => some []
  | d :: ds => match toPy d, toPys ds with
    | some p, some ps => some (p :: ps)
    | _, _ => none
end
section
variable {K : PySem.W.Frag} {G : CG} {W : Wd}
mutual
theorem RelD.py : ∀ {d : D} {v : V} {p : PyData}, RelD K G W d v → toPy d = some p → Dp K W.H v p
  | _, _, _, .non, h => by simp only [toPy, Option.some.injEq] at h; subst h; exact .non
  | _, _, _, .bl b, h => by simp only [toPy, Option.some.injEq] at h; subst h; exact .bl b
  | _, _, _, .int i, h => by simp only [toPy, Option.some.injEq] at h; subst h; exact .int i
  | _, _, _, .str x, h => by simp only [toPy, Option.some.injEq] at h; subst h; exact .str x
  | .tup ds, _, p, .tup hf hr hs, h => by
    simp only [toPy] at h
    cases e : toPys ds with
    | none => rw [e] at h; cases h
    | some ps => rw [e] at h; cases h; exact .tup (.inl (.inl hr)) (RelDs.py hs e)
  | .tup ds, _, p, .tupK hr hs, h => by
    simp only [toPy] at h
    cases e : toPys ds with
    | none => rw [e] at h; cases h
    | some ps => rw [e] at h; cases h; exact .tup (hr _) (RelDs.py hs e)
  | .lst ds, _, p, .lst hf hr hs, h => by
    simp only [toPy] at h
    cases e : toPys ds with
    | none => rw [e] at h; cases h
    | some ps => rw [e] at h; cases h; exact .lst (.inl (.inl hr)) (RelDs.py hs e)
  | _, _, _, .rdl _ _ _, h => by simp [toPy] at h
  | _, _, _, .rdlK _ _, h => by simp [toPy] at h
  | _, _, _, .dic _ _ _, h => by simp [toPy] at h
  | _, _, _, .ins _ _ _ _, h => by simp [toPy] at h
  | _, _, _, .exn _ _ _ _ _ _, h => by simp [toPy] at h
  | _, _, _, .cls _, h => by simp [toPy] at h
  | _, _, _, .ty _, h => by simp [toPy] at h
  | _, _, _, .ref _, h => by simp [toPy] at h
theorem RelDs.py : ∀ {ds : List D} {vs : List V} {ps : List PyData}, RelDs K G W ds vs → toPys ds = some ps → DpAll K W.H vs ps
  | _, _, _, .nil, h => by simp only [toPys, Option.some.injEq] at h; subst h; exact .nil
  | d :: ds, _, _, .cons r t, h => by
    simp only [toPys] at h
    split at h
    · rename_i p ps e1 e2
      cases h
      exact .cons (RelD.py r e1) (RelDs.py t e2)
    · cases h
end
end
def fEqW (neg : Bool) : F2 := fun d e st => match toPy d, toPy e with
  | some p, some q => if (SeqAt.shaped p && SeqAt.shaped q) = true then .ok (.bl (if neg = true then !PyData.eqv p q else PyData.eqv p q)) st else .bad
  | _, _ => .bad
theorem nox_eqW {neg : Bool} : NoX2 (fEqW neg) := fun d e st c fs st' q => by
  unfold fEqW at q
  split at q
  · split at q <;> cases q
  · cases q
section
variable {X : Cx} {G : CG}
theorem o_eqW (hu : X.A.units + 64 < cLine) : OpR X (compareOp .Eq) (r2 X.K G (fEqW false)) := OpR.imp (op_eqD hu) fun x y H Q q => by
  obtain ⟨W, d, e, st, rfl, A, r1, r2, p⟩ := q
  unfold fEqW at p
  split at p
  · rename_i a b h1 h2
    split at p
    · rename_i hs
      rw [Bool.and_eq_true] at hs
      exact ⟨a, b, r1.py h1, r2.py h2, hs.1, hs.2, p W _ .rfl' A (.bl _)⟩
    · exact False.elim p
  · exact False.elim p
theorem o_neW (hu : X.A.units + 64 < cLine) : OpR X (compareOp .NotEq) (r2 X.K G (fEqW true)) := OpR.imp (op_neD hu) fun x y H Q q => by
  obtain ⟨W, d, e, st, rfl, A, r1, r2, p⟩ := q
  unfold fEqW at p
  split at p
  · rename_i a b h1 h2
    split at p
    · rename_i hs
      rw [Bool.and_eq_true] at hs
      exact ⟨a, b, r1.py h1, r2.py h2, hs.1, hs.2, p W _ .rfl' A (.bl _)⟩
    · exact False.elim p
  · exact False.elim p
end

/-! ### subscripts and slices -/
/-- the place of an index -/
def ixD (ds : List D) (i : Int) : Option D := (ixN ds.length i).bind fun j => ds[j]?
def fIx : F2 := fun d e st => match d, e with
  | .lst ds, .int i => (match ixD ds i with | some x => .ok x st | none => .bad)
  | .tup ds, .int i => (match ixD ds i with | some x => .ok x st | none => .bad)
  | .rdl ds, .int i => (match ixD ds i with | some x => .ok x st | none => .bad)
  | .str z, .int i => if z.length ≤ 10000000 then (match atI z.cps.toList i with | some c => .ok (.str ⟨#[c]⟩) st | none => .bad) else .bad
  | .ref k, .int i => (match st.m k with
    | some (.lst ds) => (match ixD ds i with | some x => .ok x st | none => .bad)
    | _ => .bad)
  | _, _ => .bad
theorem ixD_rel {K : PySem.W.Frag} {G : CG} {W : Wd} {ds : List D} {vs : List V} {i : Int} {d : D} (r : RelDs K G W ds vs) (h : ixD ds i = some d) : ∃ v, atI vs i = some v ∧ RelD K G W d v := by
  unfold ixD at h
  unfold atI
  rw [r.length] at h
  cases e : ixN vs.length i with
  | none => rw [e] at h; cases h
  | some j =>
    rw [e] at h
    exact r.get h
section
variable {X : Cx} {G : CG} {wx : WX} {a b : Expr} {ga gb : Den} {pos p2 : Pos}
theorem IxR.imp {r r' : R2} (h : IxR X r) (i : ∀ x y H Q, r' x y H Q → r x y H Q) : IxR X r' := fun va sl pins s σ H x y v u Q I rx ry q hs => h va sl pins s σ H x y v u Q I rx ry (i _ _ _ _ q) hs
theorem nox_ix : NoX2 fIx := fun d e st c fs st' q => by
  unfold fIx at q
  repeat' (split at q)
  all_goals cases q
theorem ix_D : IxR X (r2 X.K G fIx) := IxR.imp ix_seq fun x y H Q q => by
  obtain ⟨W, d, e, st, rfl, A, r1, r2, p⟩ := q
  unfold fIx at p
  split at p
  · cases r2
    split at p
    · rename_i hx
      obtain ⟨q, vs, rfl, hf, hr, rs⟩ := r1.sq_lst
      obtain ⟨v, h1, h2⟩ := ixD_rel rs hx
      exact .inl ⟨q, vs, _, v, rfl, rfl, .inl (.inl hr), h1, p W v .rfl' A h2⟩
    · exact False.elim p
  · cases r2
    split at p
    · rename_i hx
      obtain ⟨q, vs, rfl, hr, rs⟩ := r1.sq_tup
      obtain ⟨v, h1, h2⟩ := ixD_rel rs hx
      exact .inr (.inl ⟨q, vs, _, v, rfl, rfl, hr W (Wd.le.lf .rfl'), h1, p W v .rfl' A h2⟩)
    · exact False.elim p
  · cases r2
    split at p
    · rename_i hx
      obtain ⟨q, vs, rfl, hr, rs⟩ := r1.sq_rdl
      obtain ⟨v, h1, h2⟩ := ixD_rel rs hx
      exact .inl ⟨q, vs, _, v, rfl, rfl, hr W (Wd.le.lf .rfl'), h1, p W v .rfl' A h2⟩
    · exact False.elim p
  · cases r1
    cases r2
    split at p
    · rename_i hz
      split at p
      · rename_i hx
        exact .inr (.inr ⟨_, _, _, rfl, rfl, ten_line hz, hx, p W _ .rfl' A (.str _)⟩)
      · exact False.elim p
    · exact False.elim p
  · cases r2
    split at p
    · rename_i hm
      split at p
      · rename_i hx
        obtain ⟨q, e, nf, rm⟩ := A.obj _ _ hm
        cases r1 with
        | @ref _ a' hr' =>
          rw [hr'] at e
          cases e
          cases rm with
          | lst hl rs =>
            obtain ⟨v, h1, h2⟩ := ixD_rel rs hx
            exact .inl ⟨_, _, _, v, rfl, rfl, .inl (.inl hl), h1, p W v .rfl' A h2⟩
      · exact False.elim p
    · exact False.elim p
  · exact False.elim p
theorem de_ix (ha : DE X G wx a ga) (hb : DE X G wx b gb) (hs : PlainIx b := by intro _ _; rfl) : DE X G wx (.Subscript a b pos) (dBin fIx ga gb) := ⟨(pe_ix ix_D ha.pe hb.pe hs).imp fun σ H Q q => r2_of σ H Q q nox_ix⟩
end
end DL

set_option Elab.async false
set_option linter.all false
set_option maxRecDepth 100000
/-! # DKind: isinstance, and the fields of exceptions, over data -/
namespace DL
open PySem PySem.Spec PyProof.Rows L2

/-- a class: one of the text, or a built-in -/
inductive TK where
  | own (c : String)
  | bt (n : String)
  deriving DecidableEq
inductive TyN (G : CG) : TK → Value → Prop
  | own {c : String} {C : Addr} : G c = some C → TyN G (.own c) (.ref C)
  | bt (n : String) : TyN G (.bt n) (.type n)
/-- the written part's word on a class without own __getattribute__ .. -/
structure InsK (K : PySem.W.Frag) (C : Addr) : Prop where
  cl : Cls K C
  ha : PySem.W.findIn K (.ref C) "__class__" = some (some (.builtin "object.__class__"))
  hn : PySem.W.specialIn K (.builtin "object.__class__") "__get__" = some (some (.builtin "getset_descriptor.__get__"))
  htk : PySem.W.takesIn K (.builtin "object.__class__") = some true
  hm : PySem.W.mroIn K C (.type "object") = some true
/-- .. and on an exception class -/
structure ExnK (K : PySem.W.Frag) (C : Addr) : Prop where
  isC : (PySem.W.clsIn K C).isSome = true
  ga : PySem.W.findIn K (.ref C) "__getattribute__" = some (some (.builtin "BaseException.__getattribute__"))
  gg : PySem.W.findIn K (.ref C) "__getattr__" = some none
  sub : PySem.W.subIn K (.ref C) (.type "BaseException") = some true
  hd : PySem.W.hasDictIn K C = true
  ha : PySem.W.findIn K (.ref C) "__class__" = some (some (.builtin "object.__class__"))
  hn : PySem.W.specialIn K (.builtin "object.__class__") "__get__" = some (some (.builtin "getset_descriptor.__get__"))
  htk : PySem.W.takesIn K (.builtin "object.__class__") = some true
  hm : PySem.W.mroIn K C (.type "object") = some true
/-- the classes whose instances are known: plain ones, exceptions -/
structure Known where
  ins : List String
  exn : List String
structure KnownK (K : PySem.W.Frag) (G : CG) (N : Known) : Prop where
  ins : ∀ c ∈ N.ins, ∀ C, G c = some C → InsK K C
  exn : ∀ c ∈ N.exn, ∀ C, G c = some C → ExnK K C
def tyD (N : Known) (d : D) (st : Sto) : Option TK := match d with
  | .non => some (.bt "NoneType")
  | .bl _ => some (.bt "bool")
  | .int _ => some (.bt "int")
  | .str _ => some (.bt "str")
  | .tup _ => some (.bt "tuple")
  | .lst _ => some (.bt "list")
  | .dic _ => some (.bt "dict")
  | .ins c _ => if c ∈ N.ins then some (.own c) else none
  | .exn c _ => if c ∈ N.exn then some (.own c) else none
  | .ref i => (match st.m i with
    | some (.lst _) => some (.bt "list")
    | some (.dic _) => some (.bt "dict")
    | some (.ins c _) => if c ∈ N.ins then some (.own c) else none
    | none => none)
  | _ => none
section
variable {X : Cx} {G : CG} {N : Known} {pins : List (Addr × Obj)} {σ : L2.St} {H : Hp} {s : Shared}
theorem kit_ins {C a dx : Addr} {gs : List (Str × V)} (I : Inv X pins σ H s) (T : InsK X.K C) (e : H a = some (.ins C dx gs)) : ∃ P : Heap → Prop, PySem.W.KitX X.K (.ref a) (.ref C) P ∧ P s.heap := by
  obtain ⟨mA, O, _⟩ := ins_get I.hok e
  obtain ⟨od, J, _⟩ := O.look
  exact ⟨_, PySem.W.kitx_own (T.cl.get _) T.cl.hd T.ha T.hn T.htk T.hm, J⟩
theorem kit_D (hN : KnownK X.K G N) {W : Wd} {d : D} {st : Sto} {v : V} {u : Value} {k : TK} (I : Inv X pins σ W.H s) (A : Abs X.K G W st) (r : RelD X.K G W d v) (rv : RelV v u) (h : tyD N d st = some k) :
    ∃ t P, TyN G k t ∧ PySem.W.KitX X.K u t P ∧ P s.heap ∧ u ≠ .builtin "__main__.__loader__#opaque" := by
  have tup : ∀ {a : Addr} {vs : List V}, (SqT X.K W.H a vs) → ∃ P : Heap → Prop, PySem.W.KitX X.K (.ref a) (.type "tuple") P ∧ P s.heap := fun {a vs} hq => by
    obtain ⟨its, _, p, _⟩ := I.tuple hq
    obtain ⟨o, h1, h2, _⟩ := p
    exact ⟨_, PySem.W.kitx_tuple, ⟨o, h1, h2⟩⟩
  have base : ∀ {x : V} {t : Value}, RelV x u → TyX X.K W.H x t → ∃ P, PySem.W.KitX X.K u t P ∧ P s.heap ∧ u ≠ .builtin "__main__.__loader__#opaque" := fun rx ty => kit_of I rx ty
  cases r with
  | non => cases h; obtain ⟨P, z⟩ := base rv (.base .non); exact ⟨_, P, .bt _, z⟩
  | bl b => cases h; obtain ⟨P, z⟩ := base rv (.base (.bl b)); exact ⟨_, P, .bt _, z⟩
  | int i => cases h; obtain ⟨P, z⟩ := base rv (.base (.int i)); exact ⟨_, P, .bt _, z⟩
  | str x => cases h; obtain ⟨P, z⟩ := base rv (.base (.str x)); exact ⟨_, P, .bt _, z⟩
  | tup hf hr hs =>
    cases h
    cases (show u = _ from rv)
    obtain ⟨P, z1, z2⟩ := tup (.inl (.inl hr))
    exact ⟨_, P, .bt _, z1, z2, fun z => nomatch z⟩
  | tupK hr hs =>
    cases h
    cases (show u = _ from rv)
    obtain ⟨P, z1, z2⟩ := tup (hr _)
    exact ⟨_, P, .bt _, z1, z2, fun z => nomatch z⟩
  | lst hf hr hs => cases h; obtain ⟨P, z⟩ := base rv (.base (.lst hr)); exact ⟨_, P, .bt _, z⟩
  | rdl _ _ _ => cases h
  | rdlK _ _ => cases h
  | dic hf hr hs => cases h; obtain ⟨P, z⟩ := base rv (.base (.dK hr)); exact ⟨_, P, .bt _, z⟩
  | @ins c fs gs a C dx hf hc hr hs =>
    unfold tyD at h
    dsimp only at h
    split at h
    · rename_i hm
      cases h
      cases (show u = Value.ref a from rv)
      obtain ⟨P, z1, z2⟩ := kit_ins I (hN.ins c hm C hc) hr
      exact ⟨_, P, .own hc, z1, z2, fun z => nomatch z⟩
    · cases h
  | @exn c fs gs a C dx hf hd hc hr hx hs =>
    unfold tyD at h
    dsimp only at h
    split at h
    · rename_i hm
      cases h
      cases (show u = Value.ref a from rv)
      have T := hN.exn c hm C hc
      obtain ⟨t1, ho⟩ := exo_at I.hok hr
      obtain ⟨mA, ⟨od, es, ep, hod, _⟩, _⟩ := exd_at I.hok hx
      have IA : PySem.W.InstAt s.heap a { cls := .ref C, dict := some dx, data := .fields #[.ref t1, .none, .none, .none, .bool false, .none] } C (some od) := ⟨ho, rfl, rfl, hod⟩
      exact ⟨_, _, .own hc, PySem.W.kitx_exc T.isC T.ga T.gg T.sub T.ha T.hn T.htk T.hm, IA, fun z => nomatch z⟩
    · cases h
  | cls hc => cases h
  | ty n => cases h
  | @ref i a hr =>
    unfold tyD at h
    dsimp only at h
    cases (show u = Value.ref a from rv)
    cases hm : st.m i with
    | none => rw [hm] at h; cases h
    | some mo =>
      rw [hm] at h
      obtain ⟨b, eb, nf, rm⟩ := A.obj i _ hm
      rw [hr] at eb
      cases eb
      cases rm with
      | lst hl _ => cases h; obtain ⟨P, z⟩ := base (x := .ref a) rfl (.base (.lst hl)); exact ⟨_, P, .bt _, z⟩
      | dic hl _ => cases h; obtain ⟨P, z⟩ := base (x := .ref a) rfl (.base (.dK hl)); exact ⟨_, P, .bt _, z⟩
      | @ins c fs gs _ C dx hc hl _ =>
        dsimp only at h
        split at h
        · rename_i hmm
          cases h
          obtain ⟨P, z1, z2⟩ := kit_ins I (hN.ins c hmm C hc) hl
          exact ⟨_, P, .own hc, z1, z2, fun z => nomatch z⟩
        · cases h
end
/-- the answers of isinstance -/
def IsOk (K : PySem.W.Frag) (G : CG) (IS : TK → TK → Option Bool) : Prop := ∀ k t b, IS k t = some b → ∀ u w, TyN G k u → TyN G t w → PySem.W.kitOne K u w = some b
def tgtD : D → Option TK
  | .cls c => some (.own c)
  | .ty n => some (.bt n)
  | _ => none
def anyIs (IS : TK → TK → Option Bool) (k : TK) : List D → Option Bool
  | [] => some false
  | t :: ts => match tgtD t with
    | none => none
    | some t => (match IS k t with
      | some true => (if (ts.all fun t => (tgtD t).isSome) = true then some true else none)
      | some false => anyIs IS k ts
      | none => none)
def fIsi (N : Known) (IS : TK → TK → Option Bool) : List D → Sto → Out D := fun ds st => match ds with
  | [x, t] => (match tyD N x st with
    | none => .bad
    | some k => (match t with
      | .tup ts => (match anyIs IS k ts with | some b => .ok (.bl b) st | none => .bad)
      | t => (match tgtD t with
        | none => .bad
        | some t => (match IS k t with | some b => .ok (.bl b) st | none => .bad))))
  | _ => .bad
theorem nox_isi {N : Known} {IS : TK → TK → Option Bool} : NoXN (fIsi N IS) := fun ds st c fs st' q => by
  unfold fIsi at q
  repeat' (split at q)
  all_goals cases q
section
variable {X : Cx} {G : CG} {N : Known} {IS : TK → TK → Option Bool}
theorem tgt_rel {W : Wd} {d : D} {v : V} {u : Value} {t : TK} (r : RelD X.K G W d v) (rv : RelV v u) (h : tgtD d = some t) : TyN G t u := by
  cases r with
  | cls hc => cases h; cases (show u = _ from rv); exact .own hc
  | ty n => cases h; cases (show u = _ from rv); exact .bt n
  | _ => cases h
theorem any_rel (hI : IsOk X.K G IS) {W : Wd} {k : TK} {t : Value} (hk : TyN G k t) : ∀ {ts : List D} {vs : List V} {us : List Value} {b : Bool}, RelDs X.K G W ts vs → Vals vs us → anyIs IS k ts = some b → PySem.W.kitAny X.K t us = some b
  | _, _, _, _, .nil, .nil, h => by cases h; rfl
  | _, _, _, b, .cons (d := d) r rs, .cons rv rvs, h => by
    unfold anyIs at h
    cases ht : tgtD d with
    | none => rw [ht] at h; cases h
    | some t' =>
      rw [ht] at h
      have w := tgt_rel r rv ht
      dsimp only at h
      unfold PySem.W.kitAny
      cases hi : IS k t' with
      | none => rw [hi] at h; cases h
      | some b' =>
        rw [hi] at h
        rw [hI _ _ _ hi _ _ hk w]
        cases b' with
        | true =>
          dsimp only at h ⊢
          split at h
          · cases h; rfl
          · cases h
        | false => exact any_rel hI hk rs rvs h
theorem call_isiD (hN : KnownK X.K G N) (hI : IsOk X.K G IS) : CallR X (.builtin "isinstance") (rN X.K G (fIsi N IS)) := by
  intro pins s σ H xs us Q I r h
  obtain ⟨W, ds, st, rfl, A, rd, p⟩ := h
  unfold fIsi at p
  split at p
  · rename_i x t
    cases rd with
    | cons r1 rd =>
      cases rd with
      | cons r2 rd =>
        cases rd
        obtain ⟨u1, u2, rfl, v1, v2⟩ := vals2 r
        cases hk : tyD N x st with
        | none => rw [hk] at p; exact False.elim p
        | some k =>
          rw [hk] at p
          obtain ⟨tv, P, hty, Z, hp, hx⟩ := kit_D hN I A r1 v1 hk
          dsimp only at p
          split at p
          · rename_i ts
            cases ha : anyIs IS k ts with
            | none => rw [ha] at p; exact False.elim p
            | some b =>
              rw [ha] at p
              obtain ⟨a, vs, rfl, hq, rs⟩ := r2.sq_tup
              cases (show u2 = Value.ref a from v2)
              obtain ⟨its, rvs, pt, _⟩ := I.tuple (hq W (Wd.le.lf .rfl'))
              obtain ⟨o, h1, h2, n, h3⟩ := pt
              obtain ⟨oc, od, dt, sl⟩ := o
              simp only at h2 h3
              subst h2 h3
              exact PySem.W.kia_tup Z I.kIn hp h1 (any_rel hI hty rs rvs ha) hx fun tk => ⟨.bl b, W.H, I.tok tk, rfl, p W _ .rfl' A (.bl b)⟩
          · cases ht : tgtD t with
            | none => rw [ht] at p; exact False.elim p
            | some t' =>
              rw [ht] at p
              dsimp only at p
              cases hi : IS k t' with
              | none => rw [hi] at p; exact False.elim p
              | some b =>
                rw [hi] at p
                exact PySem.W.kia_one Z I.kIn hp (hI _ _ _ hi _ _ hty (tgt_rel r2 v2 ht)) hx fun tk => ⟨.bl b, W.H, I.tok tk, rfl, p W _ .rfl' A (.bl b)⟩
  · exact False.elim p
end

/-! ### built-ins over data -/
section
variable {X : Cx} {G : CG} {wx : WX} {x : Str} {p pos : Pos} {es : List Expr} {e : Expr} {g : DenA} {f : List D → Sto → Out D} {id T : String}
theorem rN_of (hx : NoXN f) (σ : L2.St) (H : Hp) (Q : VK) (q : rE X.K G wx (dCall f g) σ H Q) : tCB (rN X.K G f) (rA X.K G wx g) σ H Q := by
  obtain ⟨W, env, st, rfl, A, re, p⟩ := q
  refine ⟨W, env, st, rfl, A, re, PostA.bind p fun ds st1 W1 vs _ l1 A1 r1 p1 => ⟨W1, ds, st1, rfl, A1, r1, ?_⟩⟩
  cases h : f ds st1 with
  | bad => rw [h] at p1; exact p1
  | ok z st3 => rw [h] at p1; exact p1
  | exc c fs st3 => exact (hx _ _ _ _ _ h).elim
theorem de_callB (hc : CallR X (.builtin id) (rN X.K G f)) (hx : NoXN f) (hg : Gl X x) (hm : X.mg x = none) (hv : bootBuiltins x = some (.builtin id)) (ha : DA X G wx (e :: es) g) (hn : x ≠ "__name__" := by decide) (hdb : (x == ("__debug__" : Str)) = false := by decide)
    (he : starEach (e :: es) X.env = (false, eval e X.env) :: starEach es X.env := by rfl) (hpl : (backTo pos (starEach es X.env)).any (·.1) = false := by rfl) : DE X G wx (.Call (.Name x p) (e :: es) [] pos) (dCall f g) :=
  ⟨(pe_callB hc hg hm hv ha.pa hn hdb he hpl).imp fun σ H Q q => rN_of hx σ H Q q⟩
theorem de_callTy (hc : CallR X (.type T) (rN X.K G f)) (hx : NoXN f) (hg : Gl X x) (hm : X.mg x = none) (hv : bootBuiltins x = some (.type T)) (ha : DA X G wx (e :: es) g) (hn : x ≠ "__name__" := by decide) (hdb : (x == ("__debug__" : Str)) = false := by decide)
    (he : starEach (e :: es) X.env = (false, eval e X.env) :: starEach es X.env := by rfl) (hpl : (backTo pos (starEach es X.env)).any (·.1) = false := by rfl) : DE X G wx (.Call (.Name x p) (e :: es) [] pos) (dCall f g) :=
  ⟨(pe_callTy hc hg hm hv ha.pa hn hdb he hpl).imp fun σ H Q q => rN_of hx σ H Q q⟩
theorem CallR.imp {fv : Value} {r r' : List V → Hp → VK → Prop} (h : CallR X fv r) (i : ∀ xs H Q, r' xs H Q → r xs H Q) : CallR X fv r' := fun pins s σ H xs us Q I rv q => h pins s σ H xs us Q I rv (i _ _ _ q)
end
def fInt1 : List D → Sto → Out D := fun ds st => match ds with
  | [.int i] => .ok (.int i) st
  | [.bl k] => .ok (.int (if k then 1 else 0)) st
  | _ => .bad
def fLen : List D → Sto → Out D := fun ds st => match ds with
  | [.lst l] => .ok (.int l.length) st
  | [.tup l] => .ok (.int l.length) st
  | [.rdl l] => .ok (.int l.length) st
  | [.str x] => if x.length ≤ 10000000 then .ok (.int x.length) st else .bad
  | [.ref i] => (match st.m i with | some (.lst l) => .ok (.int l.length) st | _ => .bad)
  | _ => .bad
def fTuple : List D → Sto → Out D := fun ds st => match ds with
  | [.lst l] => .ok (.tup l) st
  | [.tup l] => .ok (.tup l) st
  | [.ref i] => (match st.m i with | some (.lst l) => .ok (.tup l) st | _ => .bad)
  | _ => .bad
def blAll : List D → Option (List Bool)
  | [] => some []
  | .bl b :: ds => (blAll ds).map (b :: ·)
  | _ => none
def fAll : List D → Sto → Out D := fun ds st => match ds with
  | [.lst l] => (match blAll l with | some bs => .ok (.bl (bs.all id)) st | none => .bad)
  | _ => .bad
def fAny : List D → Sto → Out D := fun ds st => match ds with
  | [.lst l] => (match blAll l with | some bs => .ok (.bl (bs.any id)) st | none => .bad)
  | _ => .bad
theorem nox_int1 : NoXN fInt1 := fun ds st c fs st' q => by
  unfold fInt1 at q
  repeat' (split at q)
  all_goals cases q
theorem nox_len : NoXN fLen := fun ds st c fs st' q => by
  unfold fLen at q
  repeat' (split at q)
  all_goals cases q
theorem nox_tuple : NoXN fTuple := fun ds st c fs st' q => by
  unfold fTuple at q
  repeat' (split at q)
  all_goals cases q
theorem nox_all : NoXN fAll := fun ds st c fs st' q => by
  unfold fAll at q
  repeat' (split at q)
  all_goals cases q
theorem nox_any : NoXN fAny := fun ds st c fs st' q => by
  unfold fAny at q
  repeat' (split at q)
  all_goals cases q
section
variable {X : Cx} {G : CG}
theorem RelDs.one {K : PySem.W.Frag} {W : Wd} {d : D} {vs : List V} (r : RelDs K G W [d] vs) : ∃ v, vs = [v] ∧ RelD K G W d v := by
  cases r with
  | cons r t => cases t; exact ⟨_, rfl, r⟩
theorem RelDs.bls {K : PySem.W.Frag} {W : Wd} : ∀ {ds : List D} {vs : List V} {bs : List Bool}, RelDs K G W ds vs → blAll ds = some bs → vs = bs.map V.bl
  | _, _, _, .nil, h => by cases h; rfl
  | d :: ds, _, bs, .cons r t, h => by
    cases d with
    | bl b =>
      simp only [blAll] at h
      cases e : blAll ds with
      | none => rw [e] at h; cases h
      | some bs' =>
        rw [e] at h
        cases h
        cases r
        rw [RelDs.bls t e]
        rfl
    | _ => simp [blAll] at h
theorem c_int : CallR X (.type "int") (rN X.K G fInt1) := CallR.imp call_int1 fun xs H Q q => by
  obtain ⟨W, ds, st, rfl, A, r, p⟩ := q
  unfold fInt1 at p
  split at p
  · obtain ⟨v, rfl, ro⟩ := r.one; cases ro; exact .inl ⟨_, rfl, p W _ .rfl' A (.int _)⟩
  · obtain ⟨v, rfl, ro⟩ := r.one; cases ro; exact .inr ⟨_, rfl, p W _ .rfl' A (.int _)⟩
  · exact False.elim p
theorem c_len : CallR X (.builtin "len") (rN X.K G fLen) := CallR.imp call_len fun xs H Q q => by
  obtain ⟨W, ds, st, rfl, A, r, p⟩ := q
  unfold fLen at p
  split at p
  · obtain ⟨v, rfl, ro⟩ := r.one
    obtain ⟨a, vs, rfl, hf, hr, rs⟩ := ro.sq_lst
    exact ⟨_, _, rfl, .inl ⟨vs, .inl (.inl hr), rfl⟩, p W _ .rfl' A (by rw [← rs.length]; exact .int _)⟩
  · obtain ⟨v, rfl, ro⟩ := r.one
    obtain ⟨a, vs, rfl, hr, rs⟩ := ro.sq_tup
    exact ⟨_, _, rfl, .inr ⟨vs, hr W (Wd.le.lf .rfl'), rfl⟩, p W _ .rfl' A (by rw [← rs.length]; exact .int _)⟩
  · obtain ⟨v, rfl, ro⟩ := r.one
    obtain ⟨a, vs, rfl, hr, rs⟩ := ro.sq_rdl
    exact ⟨_, _, rfl, .inl ⟨vs, hr W (Wd.le.lf .rfl'), rfl⟩, p W _ .rfl' A (by rw [← rs.length]; exact .int _)⟩
  · obtain ⟨v, rfl, ro⟩ := r.one
    cases ro
    split at p
    · rename_i hz
      exact ⟨_, _, rfl, ⟨ten_line hz, rfl⟩, p W _ .rfl' A (.int _)⟩
    · exact False.elim p
  · obtain ⟨v, rfl, ro⟩ := r.one
    split at p
    · rename_i hm
      obtain ⟨b, eb, nf, rm⟩ := A.obj _ _ hm
      cases ro with
      | @ref _ a hr =>
        rw [hr] at eb
        cases eb
        cases rm with
        | lst hl rs => exact ⟨_, _, rfl, .inl ⟨_, .inl (.inl hl), rfl⟩, p W _ .rfl' A (by rw [← rs.length]; exact .int _)⟩
    · exact False.elim p
  · exact False.elim p
theorem c_tuple : CallR X (.type "tuple") (rN X.K G fTuple) := CallR.imp call_tuple_of fun xs H Q q => by
  obtain ⟨W, ds, st, rfl, A, r, p⟩ := q
  unfold fTuple at p
  split at p
  · obtain ⟨v, rfl, ro⟩ := r.one
    obtain ⟨a, vs, rfl, hf, hr, rs⟩ := ro.sq_lst
    refine ⟨_, vs, rfl, .inl ⟨.inl (.inl hr), fun l hl => ?_⟩⟩
    have le := Wd.le_put (o := .tup vs) A hl
    exact p (W.put l (.tup vs)) _ le (A.put hl) (.tup (.inr rfl) upd_same (rs.up le))
  · obtain ⟨v, rfl, ro⟩ := r.one
    obtain ⟨a, vs, rfl, hr, rs⟩ := ro.sq_tup
    exact ⟨_, vs, rfl, .inr ⟨hr W (Wd.le.lf .rfl'), p W _ .rfl' A ro⟩⟩
  · obtain ⟨v, rfl, ro⟩ := r.one
    split at p
    · rename_i hm
      obtain ⟨b, eb, nf, rm⟩ := A.obj _ _ hm
      cases ro with
      | @ref _ a hr =>
        rw [hr] at eb
        cases eb
        cases rm with
        | @lst _ vs _ hl' rs =>
          refine ⟨_, vs, rfl, .inl ⟨.inl (.inl hl'), fun l hl => ?_⟩⟩
          have le := Wd.le_put (o := .tup vs) A hl
          exact p (W.put l (.tup vs)) _ le (A.put hl) (.tup (.inr rfl) upd_same (rs.up le))
    · exact False.elim p
  · exact False.elim p
theorem c_all (hc : X.calm = true) : CallR X (.builtin "all") (rN X.K G fAll) := CallR.imp (cr_all hc) fun xs H Q q => by
  obtain ⟨W, ds, st, rfl, A, r, p⟩ := q
  unfold fAll at p
  split at p
  · obtain ⟨v, rfl, ro⟩ := r.one
    split at p
    · rename_i hb
      obtain ⟨a, vs, rfl, hf, hr, rs⟩ := ro.sq_lst
      exact ⟨a, _, rfl, .inl (.inl (by rw [← rs.bls hb]; exact hr)), p W _ .rfl' A (.bl _)⟩
    · exact False.elim p
  · exact False.elim p
theorem c_any (hc : X.calm = true) : CallR X (.builtin "any") (rN X.K G fAny) := CallR.imp (cr_any hc) fun xs H Q q => by
  obtain ⟨W, ds, st, rfl, A, r, p⟩ := q
  unfold fAny at p
  split at p
  · obtain ⟨v, rfl, ro⟩ := r.one
    split at p
    · rename_i hb
      obtain ⟨a, vs, rfl, hf, hr, rs⟩ := ro.sq_lst
      exact ⟨a, _, rfl, .inl (.inl (by rw [← rs.bls hb]; exact hr)), p W _ .rfl' A (.bl _)⟩
    · exact False.elim p
  · exact False.elim p
end
end DL

set_option Elab.async false
set_option linter.all false
set_option maxRecDepth 100000
/-! # DMore: fields of exceptions, cells of lists, slices, enumerate, zip -/
namespace DL
open PySem PySem.Spec PyProof.Rows L2 RZ

section
variable {X : Cx} {G : CG} {wx : WX} {o e : Expr} {f : Str} {go ga : Den} {pos pos' : Pos}
/-! ### o.f, o an exception -/
def dFldX (cs : List String) (g : Den) (f : Str) : Den := fun env st => (g env st).bind fun d st1 => match d with
  | .exn c fs => if c ∈ cs then (match fs.lookup f with | some x => .ok x st1 | none => .bad) else .bad
  | _ => .bad
theorem de_fldX {cs : List String} (h : DE X G wx o go) (hC : ∀ c ∈ cs, ∀ C, G c = some C → ExnK X.K C ∧ PySem.W.findIn X.K (.ref C) f = some none) (hb : attributeBase o f X.env (eval o X.env) = eval o X.env) :
    DE X G wx (.Attribute o f pos) (dFldX cs go f) := by
  refine ⟨⟨fun pins s σ H Q I q => ?_⟩⟩
  obtain ⟨W, env, st, rfl, A, re, p⟩ := q
  have key := h.pe.run pins s σ W.H (fun v H1 => ∃ (W1 : Wd) (d : D) (st1 : Sto), W1.H = H1 ∧ W.le W1 ∧ Abs X.K G W1 st1 ∧ RelD X.K G W1 d v ∧ Post X.K G W1 (fun cls dd H => wx cls dd σ H) (match d with
    | .exn c fs => if c ∈ cs then (match fs.lookup f with | some x => .ok x st1 | none => .bad) else .bad
    | _ => .bad) Q) I ⟨W, env, st, rfl, A, re, Post.bind p fun d st1 W1 v _ l1 A1 r1 p1 => ⟨W1, d, st1, rfl, l1, A1, r1, p1⟩⟩
  refine attr_of hb (thn key fun u s1 hh => ?_)
  obtain ⟨v, H1, I1, rv, W1, d, st1, rfl, l1, A1, r1, p1⟩ := hh
  cases d with
  | exn c fs =>
    dsimp only at p1
    by_cases hc : c ∈ cs
    · rw [if_pos hc] at p1
      cases r1 with
      | @exn _ _ gs a C dx hf hd gc hr hx hs =>
        cases (show u = Value.ref a from rv)
        obtain ⟨T, hno⟩ := hC c hc C gc
        cases hl : fs.lookup f with
        | none => rw [hl] at p1; exact False.elim p1
        | some x =>
          rw [hl] at p1
          obtain ⟨y, hy, ry⟩ := hs.look hl
          obtain ⟨t1, ho⟩ := exo_at I1.hok hr
          obtain ⟨mA, hns, rel⟩ := exd_at I1.hok hx
          obtain ⟨od, hod, hlk⟩ := lookIn_ns hns
          have rl := rel f
          rw [hy] at rl
          obtain ⟨w, hw, rw'⟩ := RelO.some_of rl
          have J : PySem.W.InstAt s1.heap a { cls := .ref C, dict := some dx, data := .fields #[.ref t1, .none, .none, .none, .bool false, .none] } C (some od) := ⟨ho, rfl, rfl, hod⟩
          exact HandSPX.exc_get I1.kIn J T.ga T.gg T.sub (PySem.W.findObj_own T.hd hno rfl (by rw [hlk, hw])) (handed_of rw') ⟨y, W1.H, I1.tok _, rw', p1 W1 y .rfl' A1 ry⟩
    · rw [if_neg hc] at p1
      exact False.elim p1
  | _ => exact False.elim p1

/-! ### o[i] = e, o a list of the store -/
def gCell (go gi : Den) : DenG := fun d env st => match go env st with
  | .ok (.ref k) st1 => (match gi env st1 with
    | .ok (.int i) st2 => (match st2.m k with
      | some (.lst l) => (match ixN l.length i with | some j => .ok env (st2.set k (.lst (l.set j d))) | none => .bad)
      | _ => .bad)
    | _ => .bad)
  | _ => .bad
theorem dg_cell {gi : Den} {i : Expr} (ho : DE X G W0 o go) (hi : DE X G W0 i gi)
    (ha : ∀ v, assign (.Subscript o i pos) X.env v = (do
      let ov ← holding [v] (eval o X.env)
      let iv ← holding [v, ov] (eval i X.env)
      standAt pos
      holding [v, ov, iv] (setItem ov iv v)
      release [v, ov, iv] []) := by intro _; rfl) : DG X G (.Subscript o i pos) (gCell go gi) := ⟨(pg_sub ho.pe hi.pe set_list ha).imp fun v σ H Q q => by
  obtain ⟨W, env, d, st, rfl, A, re, rd, p⟩ := q
  unfold gCell at p
  refine ⟨W, env, st, rfl, A, re, ?_⟩
  cases h1 : go env st with
  | bad => rw [h1] at p; exact False.elim p
  | exc c fs st1 => rw [h1] at p; exact False.elim p
  | ok d1 st1 =>
    rw [h1] at p
    cases d1 with
    | ref k =>
      dsimp only at p
      intro W1 ov l1 A1 r1
      refine ⟨W1, env, st1, rfl, A1, re.up l1, ?_⟩
      cases h2 : gi env st1 with
      | bad => rw [h2] at p; exact False.elim p
      | exc c fs st2 => rw [h2] at p; exact False.elim p
      | ok d2 st2 =>
        rw [h2] at p
        cases d2 with
        | int i =>
          dsimp only at p
          intro W2 iv l2 A2 r2
          cases hm : st2.m k with
          | none => rw [hm] at p; exact False.elim p
          | some mo =>
            rw [hm] at p
            cases mo with
            | lst l =>
              dsimp only at p
              cases hj : ixN l.length i with
              | none => rw [hj] at p; exact False.elim p
              | some j =>
                rw [hj] at p
                obtain ⟨b, eb, nf, rm⟩ := A2.obj _ _ hm
                have r1' := r1.up l2
                cases r1' with
                | @ref _ a hr =>
                  rw [hr] at eb
                  cases eb
                  cases r2
                  cases rm with
                  | @lst _ vs _ hl rs =>
                    have lw := Wd.le_wr (o := .lst (vs.set j v)) nf
                    refine ⟨_, vs, i, j, rfl, rfl, hl, by rw [← rs.length]; exact hj, ?_⟩
                    have l02 := (l1.trans l2).trans lw
                    exact p _ σ l02 (A2.wr hm hr (.lst upd_same (RelDs.set (rd.up l02) j (rs.up lw)))) (re.up l02)
            | _ => exact False.elim p
        | _ => exact False.elim p
    | _ => exact False.elim p⟩

/-! ### a[lo:hi] of a list -/
def pInt : D → Sto → Out (Option Int) := fun d st => match d with | .int i => .ok (some i) st | _ => .bad
def dPart : Option Den → DEnv → Sto → Out (Option Int)
  | none, _, st => .ok none st
  | some g, env, st => (g env st).bind pInt
def PostP (K : PySem.W.Frag) (G : CG) (W : Wd) (xw : XK) (o : Out (Option Int)) (Q : Option Int → Hp → Prop) : Prop := match o with
  | .ok o st1 => ∀ W', W.le W' → Abs K G W' st1 → Q o W'.H
  | .exc c fs st1 => XcOk K G W xw c fs st1
  | .bad => False
structure DP (X : Cx) (G : CG) (wx : WX) (e : Option Expr) (g : Option Den) : Prop where
  po : ∃ t, PO X e t ∧ ∀ σ H Q, (∃ W env st, W.H = H ∧ Abs X.K G W st ∧ REnv X.K G W env σ ∧ PostP X.K G W (fun cls d H => wx cls d σ H) (dPart g env st) Q) → t σ H Q
theorem dp_none : DP X G wx none none := ⟨_, po_none, fun σ H Q q => by
  obtain ⟨W, env, st, rfl, A, re, p⟩ := q
  exact p W .rfl' A⟩
theorem dp_some (h : DE X G wx e ga) : DP X G wx (some e) (some ga) := ⟨_, po_some h.pe, fun σ H Q q => by
  obtain ⟨W, env, st, rfl, A, re, p⟩ := q
  refine ⟨W, env, st, rfl, A, re, ?_⟩
  have p' : PostP X.K G W (fun cls d H => wx cls d σ H) ((ga env st).bind pInt) Q := p
  cases hg : ga env st with
  | bad => rw [hg] at p'; exact p'
  | exc c fs st1 => rw [hg] at p'; exact p'
  | ok d st1 =>
    rw [hg] at p'
    cases d with
    | int i =>
      intro W' v l a r
      cases r
      exact ⟨i, rfl, p' W' l a⟩
    | _ => exact False.elim p'⟩
def cutD (ds : List D) (lo hi : Option Int) : List D := (ds.drop (HT.sIx ds.length 0 lo)).take (HT.sIx ds.length ds.length hi - HT.sIx ds.length 0 lo)
def fSl (d : D) (l h : Option Int) (st : Sto) : Out D := match d with
  | .lst ds => .ok (.lst (cutD ds l h)) st
  | _ => .bad
def dSlice (g : Den) (lo hi : Option Den) : Den := fun env st => (g env st).bind fun d st1 => (dPart lo env st1).bind fun l st2 => (dPart hi env st2).bind fun h st3 => fSl d l h st3
theorem RelDs.cut {K : PySem.W.Frag} {W : Wd} {ds : List D} {vs : List V} (r : RelDs K G W ds vs) (lo hi : Option Int) : RelDs K G W (cutD ds lo hi) (cutV vs lo hi) := by
  unfold cutD cutV
  rw [r.length]
  exact (r.drop _).take _
theorem de_slice {lo hi : Option Expr} {gl gh : Option Den} {p2 : Pos} (h : DE X G wx e ga) (hl : DP X G wx lo gl) (hh : DP X G wx hi gh) : DE X G wx (.Subscript e (.Slice lo hi none p2) pos) (dSlice ga gl gh) := by
  obtain ⟨tl, pl, il⟩ := hl.po
  obtain ⟨th, ph, ih⟩ := hh.po
  refine ⟨(pe_slice sl_list h.pe pl ph).imp fun σ H Q q => ?_⟩
  obtain ⟨W, env, st, rfl, A, re, p⟩ := q
  refine ⟨W, env, st, rfl, A, re, Post.bind p fun d st1 W1 v _ l1 A1 r1 p1 => ?_⟩
  refine il σ _ _ ⟨W1, env, st1, rfl, A1, re.up l1, ?_⟩
  cases h1 : dPart gl env st1 with
  | bad => rw [h1] at p1; exact p1
  | exc c fs st2 => rw [h1] at p1; exact p1
  | ok lv st2 =>
    rw [h1] at p1
    intro W2 l2 A2
    refine ih σ _ _ ⟨W2, env, st2, rfl, A2, (re.up l1).up l2, ?_⟩
    have p2 : Post X.K G W2 (fun cls d H => wx cls d σ H) ((dPart gh env st2).bind fun h st3 => fSl d lv h st3) Q := Post.up p1 l2
    cases h2 : dPart gh env st2 with
    | bad => rw [h2] at p2; exact p2
    | exc c fs st3 => rw [h2] at p2; exact p2
    | ok hv st3 =>
      rw [h2] at p2
      intro W3 l3 A3
      have p3 : Post X.K G W3 (fun cls d H => wx cls d σ H) (fSl d lv hv st3) Q := Post.up p2 l3
      cases d with
      | lst ds =>
        obtain ⟨a, vs, rfl, hf, hr, rs⟩ := ((r1.up l2).up l3).sq_lst
        refine ⟨a, vs, rfl, .inl (.inl hr), fun q hq => ?_⟩
        have le := Wd.le_put (o := .lst (cutV vs lv hv)) A3 hq
        exact p3 (W3.put q (.lst (cutV vs lv hv))) (.ref q) le (A3.put hq) (.lst (.inr rfl) upd_same ((rs.cut lv hv).up le))
      | _ => exact False.elim p3

/-! ### enumerate, zip -/
def enumD : Nat → List D → List D
  | _, [] => []
  | i, d :: ds => .tup [.int (i : Nat), d] :: enumD (i + 1) ds
theorem enumD_get : ∀ {ds : List D} {k i : Nat} {d : D}, ds[i]? = some d → (enumD k ds)[i]? = some (.tup [.int ((k + i : Nat) : Int), d])
  | [], _, _, _, h => by simp at h
  | x :: ds, k, 0, d, h => by simp at h; subst h; simp [enumD]
  | x :: ds, k, i + 1, d, h => by
    have h' : ds[i]? = some d := by simpa using h
    have e := enumD_get (k := k + 1) h'
    simp only [enumD, List.getElem?_cons_succ]
    rw [e]
    have : k + 1 + i = k + (i + 1) := by omega
    rw [this]
theorem enumD_len : ∀ (ds : List D) (k : Nat), (enumD k ds).length = ds.length
  | [], _ => rfl
  | _ :: ds, k => by simp [enumD, enumD_len ds (k + 1)]
def zipD : List D → List D → List D
  | a :: as, b :: bs => .tup [a, b] :: zipD as bs
  | _, _ => []
theorem zipD_len : ∀ (as bs : List D), (zipD as bs).length = min as.length bs.length
  | [], _ => by simp [zipD]
  | _ :: _, [] => by simp [zipD]
  | _ :: as, _ :: bs => by simp [zipD, zipD_len as bs]
theorem zipD_get : ∀ {as bs : List D} {i : Nat} {a b : D}, as[i]? = some a → bs[i]? = some b → (zipD as bs)[i]? = some (.tup [a, b])
  | [], _, _, _, _, h, _ => by simp at h
  | _ :: _, [], _, _, _, _, h => by simp at h
  | x :: as, y :: bs, 0, a, b, h, h' => by simp at h h'; subst h; subst h'; simp [zipD]
  | x :: as, y :: bs, i + 1, a, b, h, h' => by
    simp only [zipD, List.getElem?_cons_succ]
    exact zipD_get (by simpa using h) (by simpa using h')
/-- a new pair -/
theorem pair_yield {K : PySem.W.Frag} {W2 : Wd} {st : Sto} {T : Addr} {d e : D} {x y : V} (A : Abs K G W2 st) (hT : W2.H T = none) (rx : RelD K G W2 d x) (ry : RelD K G W2 e y) :
    W2.le (W2.put T (.tup [x, y])) ∧ Abs K G (W2.put T (.tup [x, y])) st ∧ RelD K G (W2.put T (.tup [x, y])) (.tup [d, e]) (.ref T) := by
  have l := Wd.le_put (o := .tup [x, y]) A hT
  exact ⟨l, A.put hT, .tup (.inr rfl) upd_same (.cons (rx.up l) (.cons (ry.up l) .nil))⟩
theorem iter_enum {K : PySem.W.Frag} {W : Wd} {p : Addr} {vs : List V} {ds : List D} (q : ∀ W2, W.lf W2 → SqL K W2.H p vs) (rs : RelDs K G W ds vs) : IterOk K G W (Ite K p) (enumD 0 ds) := by
  have w := walk_enum (K := K) (a := p) (xs := vs)
  refine ⟨fun i W2 hi l => w.goes i W2.H (by rw [← rs.length, ← enumD_len ds 0]; exact hi) (q W2 l), fun W2 l => by rw [enumD_len, rs.length]; exact w.stops W2.H (q W2 l), fun i W2 st x H' hi l a y => ?_⟩
  obtain ⟨T, x1, x2, rfl, hT, rfl, e1, e2⟩ := w.yields i W2.H x H' (by rw [← rs.length, ← enumD_len ds 0]; exact hi) (q W2 l) y
  obtain ⟨d, h1, h2⟩ := rs.getV e2
  cases e1
  obtain ⟨k1, k2, k3⟩ := pair_yield a hT (.int ((i : Nat) : Int)) (h2.uf l)
  exact ⟨_, _, k1, rfl, k2, by have e := enumD_get (k := 0) h1; rw [Nat.zero_add] at e; exact e, k3⟩
def iEnumD (g : DenA) : DenA := fun env st => (g env st).bind fun ds st1 => match ds with
  | [.lst l] => .ok (enumD 0 l) st1
  | [.rdl l] => .ok (enumD 0 l) st1
  | _ => .bad
theorem PostA.bindI {K : PySem.W.Frag} {W : Wd} {xw : XK} {o : Out (List D)} {k : List D → Sto → Out (List D)} {R : It → Hp → Prop} {Q' : List V → Hp → Prop} (p : PostI K G W xw (o.bind k) R)
    (h : ∀ d st W' v, o = .ok d st → W.le W' → Abs K G W' st → RelDs K G W' d v → PostI K G W xw (k d st) R → Q' v W'.H) : PostA K G W xw o Q' := by
  cases o with
  | bad => exact p
  | ok d st => exact fun W' v l a r => h d st W' v rfl l a r p
  | exc c fs st => exact p
theorem di_enum {g : DenA} {p tpos : Pos} {elts : List Expr} {kk : Nat} (hg : Gl X "enumerate") (hm : X.mg "enumerate" = none) (ha : DA X G wx [e] g) (hs : starEach [e] X.env = [(false, eval e X.env)] := by rfl) :
    DI X G wx (.Tuple elts kk tpos) (.Call (.Name "enumerate" p) [e] [] pos) (iEnumD g) := ⟨(pi_enum hg hm ha.pa hs).imp fun σ H R q => by
  obtain ⟨W, env, st, rfl, A, re, p⟩ := q
  refine ⟨W, env, st, rfl, A, re, PostA.bindI p fun ds st1 W1 vs _ l1 A1 r1 p1 => ?_⟩
  split at p1
  · obtain ⟨v, rfl, ro⟩ := r1.one
    obtain ⟨a, us, rfl, hf, hr, rs⟩ := ro.sq_lst
    exact ⟨a, us, rfl, .inl (.inl hr), p1 W1 _ l1 A1 (iter_enum (fun W2 l => .inl (.inl ((l.h _ hf).trans hr))) rs)⟩
  · obtain ⟨v, rfl, ro⟩ := r1.one
    obtain ⟨a, us, rfl, hr, rs⟩ := ro.sq_rdl
    exact ⟨a, us, rfl, hr W1 (Wd.le.lf .rfl'), p1 W1 _ l1 A1 (iter_enum hr rs)⟩
  · exact False.elim p1⟩
theorem iter_zip {K : PySem.W.Frag} {W : Wd} {a b : Addr} {vs us : List V} {ds es : List D} (q : ∀ W2, W.lf W2 → SqL K W2.H a vs ∧ SqL K W2.H b us) (rs : RelDs K G W ds vs) (ss : RelDs K G W es us) : IterOk K G W (Itz K a b) (zipD ds es) := by
  have hn : (zipD ds es).length = min vs.length us.length := by rw [zipD_len, rs.length, ss.length]
  have w := walk_zip (K := K) (a := a) (b := b) (xs := vs) (ys := us) (n := (zipD ds es).length) hn
  refine ⟨fun i W2 hi l => w.goes i W2.H hi (q W2 l), fun W2 l => w.stops W2.H (q W2 l), fun i W2 st x H' hi l a y => ?_⟩
  obtain ⟨T, x1, x2, rfl, hT, rfl, e1, e2⟩ := w.yields i W2.H x H' hi (q W2 l) y
  obtain ⟨d, h1, h2⟩ := rs.getV e1
  obtain ⟨e, h3, h4⟩ := ss.getV e2
  obtain ⟨k1, k2, k3⟩ := pair_yield a hT (h2.uf l) (h4.uf l)
  exact ⟨_, _, k1, rfl, k2, zipD_get h1 h3, k3⟩
theorem iter_zipT {K : PySem.W.Frag} {W : Wd} {a b : Addr} {vs us : List V} {ds es : List D} (q : ∀ W2, W.lf W2 → SqT K W2.H a vs ∧ SqT K W2.H b us) (rs : RelDs K G W ds vs) (ss : RelDs K G W es us) : IterOk K G W (ItzT K a b) (zipD ds es) := by
  have hn : (zipD ds es).length = min vs.length us.length := by rw [zipD_len, rs.length, ss.length]
  refine ⟨fun i W2 hi l => ?_, fun W2 l => ?_, fun i W2 st x H' hi l a y => ?_⟩
  · rw [hn] at hi
    exact ⟨vs, us, vs[i]'(by omega), us[i]'(by omega), (q W2 l).1, (q W2 l).2, List.getElem?_eq_getElem (by omega), List.getElem?_eq_getElem (by omega)⟩
  · exact ⟨vs, us, (q W2 l).1, (q W2 l).2, by omega⟩
  · obtain ⟨T, x1, x2, rfl, hT, rfl, e1, e2⟩ := y
    obtain ⟨d, h1, h2⟩ := rs.getV (e1 _ (q W2 l).1)
    obtain ⟨e, h3, h4⟩ := ss.getV (e2 _ (q W2 l).2)
    obtain ⟨k1, k2, k3⟩ := pair_yield a hT (h2.uf l) (h4.uf l)
    exact ⟨_, _, k1, rfl, k2, zipD_get h1 h3, k3⟩
def iZipD (g : DenA) : DenA := fun env st => (g env st).bind fun ds st1 => match ds with
  | [.lst l, .lst m] => .ok (zipD l m) st1
  | [.tup l, .tup m] => .ok (zipD l m) st1
  | _ => .bad
theorem RelDs.two {K : PySem.W.Frag} {W : Wd} {d d' : D} {vs : List V} (r : RelDs K G W [d, d'] vs) : ∃ v v', vs = [v, v'] ∧ RelD K G W d v ∧ RelD K G W d' v' := by
  cases r with
  | cons r t =>
    obtain ⟨v', rfl, r'⟩ := t.one
    exact ⟨_, _, rfl, r, r'⟩
theorem di_zip {e2 : Expr} {g : DenA} {p tpos : Pos} {elts : List Expr} {kk : Nat} (hg : Gl X "zip") (hm : X.mg "zip" = none) (ha : DA X G wx [e, e2] g)
    (hs : starEach [e, e2] X.env = (false, eval e X.env) :: starEach [e2] X.env := by rfl) (hpl : (backTo pos (starEach [e2] X.env)).any (·.1) = false := by rfl) :
    DI X G wx (.Tuple elts kk tpos) (.Call (.Name "zip" p) [e, e2] [] pos) (iZipD g) := ⟨(pi_zipA hg hm ha.pa hs hpl).imp fun σ H R q => by
  obtain ⟨W, env, st, rfl, A, re, p⟩ := q
  refine ⟨W, env, st, rfl, A, re, PostA.bindI p fun ds st1 W1 vs _ l1 A1 r1 p1 => ?_⟩
  split at p1
  · obtain ⟨v, v', rfl, r2, r3⟩ := r1.two
    obtain ⟨a, us, rfl, hf, hr, rs⟩ := r2.sq_lst
    obtain ⟨b, ws, rfl, hg, hr', ss⟩ := r3.sq_lst
    exact ⟨a, b, us, ws, rfl, .inl ⟨.inl (.inl hr), .inl (.inl hr'), p1 W1 _ l1 A1 (iter_zip (fun W2 l => ⟨.inl (.inl ((l.h _ hf).trans hr)), .inl (.inl ((l.h _ hg).trans hr'))⟩) rs ss)⟩⟩
  · obtain ⟨v, v', rfl, r2, r3⟩ := r1.two
    obtain ⟨a, us, rfl, hr, rs⟩ := r2.sq_tup
    obtain ⟨b, ws, rfl, hr', ss⟩ := r3.sq_tup
    exact ⟨a, b, us, ws, rfl, .inr ⟨hr W1 (Wd.le.lf .rfl'), hr' W1 (Wd.le.lf .rfl'), p1 W1 _ l1 A1 (iter_zipT (fun W2 l => ⟨hr W2 l, hr' W2 l⟩) rs ss)⟩⟩
  · exact False.elim p1⟩
end
end DL

set_option Elab.async false
set_option linter.all false
set_option maxRecDepth 100000
/-! # DCmp: own __eq__ under == and !=, own __bool__ -/
namespace PySem
namespace DLX
open PySem.W PySem.Calls PyProof.Rows
section
variable {prog : Program} {w : World} {A : Around} {E : Value → Shared → Prop} {s : Shared} {K : Frag} {x y C Cy L f : Addr} {h₀ : Heap} {m : Str → Option Value} {ox oy : Obj} {od oe : Option Obj} {b tb : Value}
/-- the right one's class lies below the left one's: it is asked first -/
theorem cmp_right {Q : Value → Shared → Prop} (hu : A.units < cLine) (FR : Fr h₀ L s.heap m) (X₀ : K.In h₀) (I : W.InstAt s.heap x ox C od) (J : W.InstAt s.heap y oy Cy oe) (hne : Cy ≠ C) (hsub : subIn K (.ref Cy) (.ref C) = some true)
    (hs : findIn K (.ref Cy) "__eq__" = some (some (.ref f))) (hf : isFn K (.ref f) = true)
    (h : wpAny (model prog w) A (call (.ref f) [.ref y, .ref x]) (W.CmpBack Q) E s) : wpAny (model prog w) A (richCompare .Eq (.ref x) (.ref y)) Q E s := by
  have X := X₀.keeps FR.keep
  have one : wpAny (model prog w) A (tryCompare (.ref y) "__eq__" (.ref x)) (fun r s' => ∃ v, r = some v ∧ Q v s') E s := by
    unfold tryCompare
    refine wpAny_bind (ifBound_K X J hs hf (wpAny_mono h (fun v s' hv => ?_) fun _ _ e => e))
    cases v <;> first | exact hv.elim | exact wpAny_pure ⟨_, rfl, hv⟩
  unfold richCompare
  simp only [oneThing_ref]
  refine wpAny_holding (wpAny_bind (wpAny_cRoomFor hu ?_))
  refine wpAny_bind (I.type.here (wpAny_bind (J.type.here ?_)))
  rw [if_pos (show (Value.ref C != Value.ref Cy) = true by simp [Ne.symm hne])]
  refine wpAny_bind ((looks_subIn X hsub).here ?_)
  simp only [if_true]
  refine wpAny_bind (wpAny_mono one (fun r s' z => ?_) fun _ _ e => e)
  obtain ⟨v, rfl, hq⟩ := z
  exact wpAny_bind (wpAny_rule (wpAny_pure hq))
/-- x != b, the class has an own __eq__ and object's __ne__ -/
theorem cmp_ne {Q : Value → Shared → Prop} (hu : A.units + 2 < cLine) (FR : Fr h₀ L s.heap m) (X₀ : K.In h₀) (I : W.InstAt s.heap x ox C od) (hb : Looks (model prog w) s.heap (typeOf b) tb) (hn : notFirst K C tb = true)
    (hne : findIn K (.ref C) "__ne__" = some (some (.builtin "object.__ne__"))) (ho : mroIn K C (.type "object") = some true)
    (hs : findIn K (.ref C) "__eq__" = some (some (.ref f))) (hf : isFn K (.ref f) = true)
    (h : wpAny (model prog w) A.in1 (call (.ref f) [.ref x, b]) (fun v s' => ∃ k, v = .bool k ∧ Q (.bool (!k)) s') E s) : wpAny (model prog w) A (richCompare .NotEq (.ref x) b) Q E s := by
  have X := X₀.keeps FR.keep
  have sub : Looks (model prog w) s.heap (isInstance (.ref x) (.type "object")) true := I.type.andThen (looks_mroIn X ho)
  have one : wpAny (model prog w) A (tryCompare (.ref x) "__ne__" b) (fun r s' => ∃ v, r = some v ∧ Q v s') E s := by
    unfold tryCompare callSpecialIfBound? bindSpecialIfBound?
    refine wpAny_bind (wpAny_holding (wpAny_bind (wpAny_bind (wpAny_bind (I.type.here ((looks_findIn X hne).here ?_))))))
    have fin : wpAny (model prog w) A (call (.builtin "object.__ne__") ([.ref x] ++ [b])) (fun v s' => ∃ k, v = .bool k ∧ Q v s') E s := by
      refine wpAny_call (codeAny_call_builtin F.cmp_object.ne.plain F.cmpEntry_ne (check_slot F.cmpKind_ne F.cmpSplit_ne sub (F.cmpArgs_ne (.ref x) b) ?_))
      unfold Builtin.«object.__ne__»
      refine wpAny_bind (wpAny_of_eq (a := ((Value.ref x : Value), [b])) (by first | rfl | (simp only [slotArgs]; rfl)) ?_)
      refine wpAny_bind (wpAny_cRoomFor (by show A.units + 1 < cLine; omega) ?_)
      refine wpAny_bind (ifBound_K X I hs hf (wpAny_mono h (fun v s' hv => ?_) fun _ _ e => e))
      obtain ⟨k, rfl, hq⟩ := hv
      refine wpAny_bind (wpAny_truthy_bool ?_)
      exact wpAny_pure ⟨_, rfl, hq⟩
    simp only [F.cmp_object.ne.bind]
    refine wpAny_bind (wpAny_askSetting (wpAny_ite ?_))
    split
    · refine wpAny_bind (wpAny_pure (wpAny_pure ?_))
      refine wpAny_bind (wpAny_mono fin (fun v s' hv => wpAny_pure ?_) fun _ _ e => e)
      obtain ⟨k, rfl, hq⟩ := hv
      exact wpAny_pure ⟨_, rfl, hq⟩
    · refine wpAny_tryCatch (wpAny_bind (wpAny_pure (wpAny_pure ?_)))
      refine wpAny_bind (wpAny_mono fin (fun v s' hv => wpAny_pure ?_) fun _ _ e => e)
      obtain ⟨k, rfl, hq⟩ := hv
      exact wpAny_pure ⟨_, rfl, hq⟩
  unfold richCompare
  simp only [oneThing_ref]
  refine wpAny_holding (wpAny_bind (wpAny_cRoomFor (by omega) ?_))
  refine wpAny_bind (I.type.here (wpAny_bind (hb.here ?_)))
  split
  · rename_i q
    have e : subIn K tb (.ref C) = some false := by
      rcases Bool.or_eq_true_iff.mp hn with e | e
      · rw [beq_iff_eq.mp e] at q; simp at q
      · exact beq_iff_eq.mp e
    refine wpAny_bind ((looks_subIn X e).here ?_)
    simp only [Bool.false_eq_true, if_false]
    refine wpAny_bind (wpAny_mono one (fun r s' z => ?_) fun _ _ e => e)
    obtain ⟨v, rfl, hq⟩ := z
    exact wpAny_pure hq
  · refine wpAny_bind (wpAny_pure ?_)
    simp only [Bool.false_eq_true, if_false]
    refine wpAny_bind (wpAny_mono one (fun r s' z => ?_) fun _ _ e => e)
    obtain ⟨v, rfl, hq⟩ := z
    exact wpAny_pure hq
end
end DLX
end PySem

set_option Elab.async false
set_option linter.all false
set_option maxRecDepth 100000
/-! # DCmp2: bool(o) by an own __bool__; C.__name__ of an own class -/
namespace PySem
namespace DLX
open PySem.W PySem.Calls PyProof.Rows Builtin Builtin.Getset_descriptor
section
variable {prog : Program} {w : World} {A : Around} {E : Value → Shared → Prop} {s : Shared}
theorem bool_new_meets (x : Addr) : MeetsIn prog w (Builtin.«bool.__new__» ⟨[.type "bool", .ref x], []⟩)
    (fun A R s => wpAny (model prog w) A.in1 (truthy (.ref x)) (fun b s' => R (.ok (.ret (.bool b))) s') (fun e s' => R (.error e) s') s) :=
  .of_wp fun A R s h => by
    have f1 := F.conv_sub_bool
    obtain ⟨hp, g, d, tk, os⟩ := s
    repeat (any_goals (first | assumption | (with_reducible refine wpAny_bind (m := truthy (.ref x)) (wpAny_mono h (fun b s' z => ?_) fun _ _ z => z)) | wp_step))
    all_goals first | exact ⟨_, rfl, z⟩ | skip
theorem call_bool_own {x : Addr} {Q : Value → Shared → Prop} (h : wpAny (model prog w) A.in1.in1 (truthy (.ref x)) (fun b s' => Q (.bool b) s') E s) : wpAny (model prog w) A (call (.type "bool") [.ref x]) Q E s :=
  callType_newIn F.called_bool F.newNe_bool (F.typeCall_bool_1 _) (F.newCall_bool_1 _) (fun obj => F.args_object_init_2 obj _) F.entry_bool_new (bool_new_meets x) (wpAny_mono h (fun b s' z => ⟨rfl, z⟩) fun _ _ z => z)
end
theorem nm_dga (d tp : Value) (C : Addr) : descrGetArgs ⟨[d, .ref C, tp], []⟩ = pure (d, some (.ref C), given tp) := by kernel_rfl
section
variable {prog : Program} {w : World} {A : Around} {E : Value → Shared → Prop} {s : Shared} {K : Frag} {R : Result → Shared → Prop} {C : Addr} {oC : Obj} {nv mc : Value}
theorem name_get {tp : Value} (hC : s.heap.get? C = some oC) (hcls : oC.cls = .type "type") (hnm : oC.slots[2]? = some (some nv)) (h : R (.ok (.ret nv)) s) :
    codeAny (model prog w) A (.call (.builtin "getset_descriptor.__get__") ⟨[.builtin "type.__name__", .ref C, tp], []⟩) R s := by
  obtain ⟨hh, g, dr, t, os⟩ := s
  have L0 : Looks (model prog w) hh (typeOf (.ref C)) (.type "type") := by
    have z : Looks (model prog w) hh (typeOf (.ref C)) oC.cls := (Looks.ld hC).andThen .now
    rw [hcls] at z
    exact z
  have L1 : Looks (model prog w) hh (isSubtype (.type "type") (.type "type")) true := Looks.of_pure (by rw [isSubtype_type]; kernel_rfl)
  refine codeAny_call_builtin KF.slot_gs.plain KF.entry_gs (KF.slot_gs.check _ _ _ _ _ _ _ _ ktyn_type (KF.args_gs _ _ _) ?_)
  unfold Builtin.«getset_descriptor.__get__» descrGet
  rw [nm_dga]
  refine wpAny_bind (wpAny_pure ?_)
  unfold descrGetter descrCheckInstance descrNameAndClass isInstance
  simp only [ktyn_owner]
  repeat lk
  refine ⟨Code.quiet_builtin _ (by decide +kernel), codeAny_builtin ktyn_entry ?_⟩
  unfold Builtin.«type.__name__» keptObject slotAt
  dsimp only
  repeat (first | (with_reducible refine wpAny_loadPart_at hC ?_) | wp_step)
  rw [hnm]
  repeat wp_step
  exact h
end
end DLX
end PySem

set_option Elab.async false
set_option linter.all false
set_option maxRecDepth 100000
/-! # DOwn: ==, !=, bool of own instances, over data -/
namespace DL
open PySem PySem.Spec PyProof.Rows L2

/-- whether a class lies below an own one -/
def SubOk (K : PySem.W.Frag) (G : CG) (SB : TK → String → Option Bool) : Prop := ∀ k c b, SB k c = some b → ∀ u C, TyN G k u → G c = some C → PySem.W.subIn K u (.ref C) = some b
structure EqK (K : PySem.W.Frag) (C f : Addr) : Prop where
  ins : InsK K C
  eq : PySem.W.findIn K (.ref C) "__eq__" = some (some (.ref f))
  fn : PySem.W.isFn K (.ref f) = true
  ne : PySem.W.findIn K (.ref C) "__ne__" = some (some (.builtin "object.__ne__"))
def sameTK (k : TK) (c : String) : Bool := decide (k = .own c)
/-- o == x (neg: o != x), o an instance of one of the classes cs, whose __eq__ is fn -/
def fOwn (N : Known) (SB : TK → String → Option Bool) (cs : List String) (fn : List D → Sto → Out D) (neg : Bool) : F2 := fun d e st => match d with
  | .ins c _ => if c ∈ cs then (match tyD N e st with
    | none => .bad
    | some k => if (sameTK k c || SB k c == some false) = true then ((fn [d, e] st).nox.bind fun r st1 => match r with | .bl b => .ok (.bl (if neg = true then !b else b)) st1 | _ => .bad)
      else if neg = false ∧ SB k c = some true then (match e with
        | .ins c2 _ => if c2 ∈ cs ∧ c2 ≠ c then ((fn [e, d] st).nox.bind fun r st1 => match r with | .bl b => .ok (.bl b) st1 | _ => .bad) else .bad
        | _ => .bad)
      else .bad) else .bad
  | _ => .bad
theorem nox_nox {α β : Type} {o : Out α} {k : α → Sto → Out β} (h : ∀ a st c fs st', k a st ≠ .exc c fs st') : ∀ c fs st', (o.nox.bind k) ≠ .exc c fs st' := fun c fs st' q => by
  cases o with
  | bad => cases q
  | ok a st => exact h _ _ _ _ _ q
  | exc c fs st => cases q
theorem nox_own {N : Known} {SB : TK → String → Option Bool} {cs : List String} {fn : List D → Sto → Out D} {neg : Bool} : NoX2 (fOwn N SB cs fn neg) := fun d e st c fs st' q => by
  unfold fOwn at q
  split at q
  · split at q
    · split at q
      · cases q
      · split at q
        · exact nox_nox (fun r st1 c fs st' z => by split at z <;> cases z) _ _ _ q
        · split at q
          · split at q
            · split at q
              · exact nox_nox (fun r st1 c fs st' z => by split at z <;> cases z) _ _ _ q
              · cases q
            · cases q
          · cases q
    · cases q
  · cases q
section
variable {X : Cx} {G : CG} {N : Known} {SB : TK → String → Option Bool} {cs : List String} {fn : List D → Sto → Out D} {k : Nat} {f : Addr}
/-- the own __eq__ runs, at any place of the same frames -/
theorem run_two {pins : List (Addr × Obj)} {σ : L2.St} {s : Shared} {W : Wd} {st : Sto} {ds : List D} {vs : List V} {us : List Value} {A : Around} {E : Value → Shared → Prop} {Q : VK} {n : Nat} (F : FnB X.prog X.w X.K X.mg X.base (L2.CX X.prog X.w) k f n [] (spD X.K G fn)) (hr : Room k A) (hfr : A.frames = X.A.frames)
    (I : Inv X pins σ W.H s) (AA : Abs X.K G W st) (rd : RelDs X.K G W ds vs) (rv : Vals vs us) (hn : us.length = n) (p : Post X.K G W E0 (fn ds st) Q) : wpAny (model X.prog X.w) A (call (.ref f) us) (EP X pins σ Q) E s := by
  have e0 : Env0 X.prog X.w X.K X.mg X.base A X.stack s W.H := by
    have e := I.env0
    exact ⟨by rw [hfr]; exact e.frames, e.mod, e.bs, e.bsz, e.funs, e.frf, e.hok, e.bare⟩
  refine wpAny_call (codeAny_mono (F A X.stack s W.H us [] vs Q E0 hr e0 hn rfl (by rw [List.append_nil]; exact rv) ⟨W, ds, st, rfl, AA, rd, p⟩) fun r s' hq => ?_)
  cases r with
  | error e =>
    obtain ⟨_, _, _, _, _, _, _, _, _, _, _, _, z⟩ := hq
    exact z.elim
  | ok fl =>
    cases fl with
    | ret u => exact I.after hq
    | _ => exact False.elim hq
theorem Post.nox0 {K : PySem.W.Frag} {W : Wd} {xw : XK} {o : Out D} {g : D → Sto → Out D} {Q Q' : VK} (p : Post K G W xw (o.nox.bind g) Q)
    (h : ∀ d st W' v, o = .ok d st → W.le W' → Abs K G W' st → RelD K G W' d v → Post K G W' xw (g d st) Q → Q' v W'.H) : Post K G W E0 o Q' := by
  cases o with
  | bad => exact False.elim p
  | ok d st => exact fun W' v l a r => h d st W' v rfl l a r (Post.up p l)
  | exc c fs st => exact False.elim p
theorem o_own {neg : Bool} {op : CmpOp} (hop : op = if neg = true then .NotEq else .Eq) (hN : KnownK X.K G N) (hS : SubOk X.K G SB) (hC : ∀ c ∈ cs, ∀ C, G c = some C → EqK X.K C f) (hinj : ∀ c c2 C, G c = some C → G c2 = some C → c = c2)
    (F : FnB X.prog X.w X.K X.mg X.base (L2.CX X.prog X.w) k f 2 [] (spD X.K G fn)) (hr : Room (k + 1) X.A) : OpR X (compareOp op) (r2 X.K G (fOwn N SB cs fn neg)) := by
  intro pins s σ H x y v u Q I rx ry q
  obtain ⟨W, d, e, st, rfl, A, r1, r2, p⟩ := q
  have hu : X.A.units + 2 < cLine := by have := hr.un; omega
  unfold fOwn at p
  split at p
  · rename_i c fs
    split at p
    · rename_i hc
      split at p
      · exact False.elim p
      · rename_i tk htk
        cases r1 with
        | @ins _ _ gs a C dx hf gc ha hs =>
          cases (show v = Value.ref a from rx)
          have T := hC c hc C gc
          have r1 : RelD X.K G W (.ins c fs) (.ref a) := .ins hf gc ha hs
          obtain ⟨t, P, hty, Z, hp, hx⟩ := kit_D hN I A r2 ry htk
          obtain ⟨mA, J, _⟩ := ins_get I.hok ha
          obtain ⟨od, J, _⟩ := J.look
          obtain ⟨m, FR⟩ := I.fr
          have LT := Z.ty (model X.prog X.w) s.heap I.kIn hp
          split at p
          · rename_i hfirst
            have nf : PySem.W.notFirst X.K C t = true := by
              unfold PySem.W.notFirst
              rcases Bool.or_eq_true_iff.mp hfirst with z | z
              · have e1 := of_decide_eq_true z
                subst e1
                cases hty with
                | own g =>
                  rw [gc] at g
                  cases g
                  rw [beq_self_eq_true, Bool.true_or]
              · rw [hS _ _ _ (beq_iff_eq.mp z) _ _ hty gc, beq_self_eq_true, Bool.or_true]
            cases neg with
            | false =>
              subst hop
              refine PySem.W.cmp_ofEq (PySem.W.cmp_K (op := .Eq) (tb := t) (by omega) FR I.ok.mod.kin J LT nf T.eq T.fn ?_)
              have post : Post X.K G W E0 (fn [.ins c fs, e] st) (fun z H1 => ∃ b, z = .bl b ∧ Q z H1) := Post.nox0 p fun r st1 W1 z _ l1 A1 rr p1 => by
                cases r with
                | bl b => cases rr; exact ⟨b, rfl, p1 W1 _ .rfl' A1 (.bl b)⟩
                | _ => exact False.elim p1
              refine thn (run_two (vs := [.ref a, y]) (us := [.ref a, u]) F (hr.mono (Nat.le_succ k)) rfl I A (.cons r1 (.cons r2 .nil)) (.cons rfl (.cons ry .nil)) rfl post) fun w s1 hw => ?_
              obtain ⟨z, H1, I1, rz, b, rfl, q1⟩ := hw
              cases (show w = Value.bool b from rz)
              exact ⟨.bl b, H1, I1, rfl, q1⟩
            | true =>
              subst hop
              refine PySem.W.cmp_ofNotEq (DLX.cmp_ne (tb := t) hu FR I.ok.mod.kin J LT nf T.ne T.ins.hm T.eq T.fn ?_)
              have post : Post X.K G W E0 (fn [.ins c fs, e] st) (fun z H1 => ∃ b, z = .bl b ∧ Q (.bl (!b)) H1) := Post.nox0 p fun r st1 W1 z _ l1 A1 rr p1 => by
                cases r with
                | bl b => cases rr; exact ⟨b, rfl, p1 W1 _ .rfl' A1 (.bl _)⟩
                | _ => exact False.elim p1
              refine thn (run_two (vs := [.ref a, y]) (us := [.ref a, u]) F hr.in1 rfl I A (.cons r1 (.cons r2 .nil)) (.cons rfl (.cons ry .nil)) rfl post) fun w s1 hw => ?_
              obtain ⟨z, H1, I1, rz, b, rfl, q1⟩ := hw
              cases (show w = Value.bool b from rz)
              exact ⟨b, rfl, .bl (!b), H1, I1, rfl, q1⟩
          · split at p
            · rename_i hb
              obtain ⟨hneg, hsb⟩ := hb
              subst hneg
              subst hop
              split at p
              · rename_i c2 fs2
                split at p
                · rename_i hc2
                  cases r2 with
                  | @ins _ _ gs2 a2 C2 dx2 hf2 gc2 ha2 hs2 =>
                    cases (show u = Value.ref a2 from ry)
                    have T2 := hC c2 hc2.1 C2 gc2
                    have r2 : RelD X.K G W (.ins c2 fs2) (.ref a2) := .ins hf2 gc2 ha2 hs2
                    have hCC : C2 ≠ C := fun z => hc2.2 (hinj c2 c C (by rw [← z]; exact gc2) gc)
                    have htk2 : tk = .own c2 := by
                      unfold tyD at htk
                      dsimp only at htk
                      split at htk
                      · cases htk; rfl
                      · cases htk
                    subst htk2
                    obtain ⟨mB, J2, _⟩ := ins_get I.hok ha2
                    obtain ⟨od2, J2, _⟩ := J2.look
                    refine PySem.W.cmp_ofEq (DLX.cmp_right (by omega) FR I.ok.mod.kin J J2 hCC (hS _ _ _ hsb _ _ (.own gc2) gc) T2.eq T2.fn ?_)
                    have post : Post X.K G W E0 (fn [.ins c2 fs2, .ins c fs] st) (fun z H1 => ∃ b, z = .bl b ∧ Q z H1) := Post.nox0 p fun r st1 W1 z _ l1 A1 rr p1 => by
                      cases r with
                      | bl b => cases rr; exact ⟨b, rfl, p1 W1 _ .rfl' A1 (.bl b)⟩
                      | _ => exact False.elim p1
                    refine thn (run_two (vs := [.ref a2, .ref a]) (us := [.ref a2, .ref a]) F (hr.mono (Nat.le_succ k)) rfl I A (.cons r2 (.cons r1 .nil)) (.cons rfl (.cons rfl .nil)) rfl post) fun w s1 hw => ?_
                    obtain ⟨z, H1, I1, rz, b, rfl, q1⟩ := hw
                    cases (show w = Value.bool b from rz)
                    exact ⟨.bl b, H1, I1, rfl, q1⟩
                · exact False.elim p
              · exact False.elim p
            · exact False.elim p
    · exact False.elim p
  · exact False.elim p

/-! ### truth, bool -/
/-- the own __bool__ of each class -/
def BoOk (X : Cx) (G : CG) (k : Nat) (BO : String → Option (List D → Sto → Out D)) : Prop := ∀ c fb, BO c = some fb → ∀ C, G c = some C → ∃ f, PySem.W.findIn X.K (.ref C) "__bool__" = some (some (.ref f)) ∧ PySem.W.isFn X.K (.ref f) = true ∧
  FnB X.prog X.w X.K X.mg X.base (L2.CX X.prog X.w) k f 1 [] (spD X.K G fb)
def truB (BO : String → Option (List D → Sto → Out D)) (d : D) (st : Sto) : Out Bool := match d with
  | .bl b => .ok b st
  | .ins c _ => (match BO c with
    | some fb => (fb [d] st).nox.bind fun r st1 => match r with | .bl b => .ok b st1 | _ => .bad
    | none => .bad)
  | _ => .bad
theorem truthy_own {BO : String → Option (List D → Sto → Out D)} (hB : BoOk X G k BO) {pins : List (Addr × Obj)} {σ : L2.St} {s : Shared} {W : Wd} {st : Sto} {c : String} {fs : List (Str × D)} {v : V} {u : Value} {A : Around} {E : Value → Shared → Prop} {Q : Bool → Hp → Prop} {fb : List D → Sto → Out D} (hb : BO c = some fb) (hr : Room k A) (hfr : A.frames = X.A.frames)
    (I : Inv X pins σ W.H s) (AA : Abs X.K G W st) (r : RelD X.K G W (.ins c fs) v) (rv : RelV v u) (p : PostB X.K G W E0 ((fb [.ins c fs] st).nox.bind fun r st1 => match r with | .bl b => .ok b st1 | _ => .bad) Q) :
    wpAny (model X.prog X.w) A (truthy u) (TP X pins σ Q) E s := by
  cases r with
  | @ins _ _ gs a C dx hf gc ha hs =>
    cases (show u = Value.ref a from rv)
    obtain ⟨f, h1, h2, F⟩ := hB c fb hb C gc
    obtain ⟨mA, J, _⟩ := ins_get I.hok ha
    obtain ⟨od, J, _⟩ := J.look
    obtain ⟨m, FR⟩ := I.fr
    have r1 : RelD X.K G W (.ins c fs) (.ref a) := .ins hf gc ha hs
    have post : Post X.K G W E0 (fb [.ins c fs] st) (fun z H1 => ∃ b, z = .bl b ∧ Q b H1) := by
      cases ho : fb [.ins c fs] st with
      | bad => rw [ho] at p; exact False.elim p
      | exc c' fs' st' => rw [ho] at p; exact False.elim p
      | ok r st1 =>
        rw [ho] at p
        cases r with
        | bl b =>
          intro W' v l a' rr
          cases rr
          exact ⟨b, rfl, p W' l a'⟩
        | _ => exact False.elim p
    refine PySem.W.truthy_K FR I.ok.mod.kin J h1 h2 (thn (run_two (vs := [.ref a]) (us := [.ref a]) F hr hfr I AA (.cons r1 .nil) (.cons rfl .nil) rfl post) fun w s1 hw => ?_)
    obtain ⟨z, H1, I1, rz, b, rfl, q1⟩ := hw
    cases (show w = Value.bool b from rz)
    exact ⟨H1, I1, q1⟩
def fBool (BO : String → Option (List D → Sto → Out D)) : List D → Sto → Out D := fun ds st => match ds with
  | [d] => (truB BO d st).bind fun b st1 => .ok (.bl b) st1
  | _ => .bad
theorem truB_nox {BO : String → Option (List D → Sto → Out D)} {d : D} {st : Sto} : ∀ c fs st', truB BO d st ≠ .exc c fs st' := fun c fs st' q => by
  unfold truB at q
  split at q
  · cases q
  · split at q
    · exact nox_nox (fun r st1 c fs st' z => by split at z <;> cases z) _ _ _ q
    · cases q
  · cases q
theorem nox_bool {BO : String → Option (List D → Sto → Out D)} : NoXN (fBool BO) := fun ds st c fs st' q => by
  unfold fBool at q
  split at q
  · rename_i d
    cases h : truB BO d st with
    | bad => rw [h] at q; cases q
    | ok b st1 => rw [h] at q; cases q
    | exc c2 fs2 st2 => exact truB_nox _ _ _ h
  · cases q
theorem c_bool {BO : String → Option (List D → Sto → Out D)} (hB : BoOk X G k BO) (hr : Room (k + 2) X.A) : CallR X (.type "bool") (rN X.K G (fBool BO)) := by
  intro pins s σ H xs us Q I rv q
  obtain ⟨W, ds, st, rfl, A, r, p⟩ := q
  unfold fBool at p
  split at p
  · rename_i d
    obtain ⟨v, rfl, ro⟩ := r.one
    obtain ⟨u, rfl, rv1⟩ := vals1 rv
    cases d with
    | bl b =>
      cases ro
      cases (show u = Value.bool b from rv1)
      exact call_bool_bool ⟨.bl b, W.H, I, rfl, p W _ .rfl' A (.bl b)⟩
    | ins c fs =>
      have p' : Post X.K G W (fun _ _ _ => False) ((truB BO (.ins c fs) st).bind fun b st1 => .ok (.bl b) st1) Q := p
      unfold truB at p'
      dsimp only at p'
      cases hb : BO c with
      | none => rw [hb] at p'; exact False.elim p'
      | some fb =>
        rw [hb] at p'
        dsimp only at p'
        obtain ⟨a, rfl⟩ : ∃ a, u = Value.ref a := by
          cases ro with
          | ins => exact ⟨_, rv1⟩
        refine DLX.call_bool_own (thn (truthy_own hB (Q := fun b H1 => Q (.bl b) H1) hb hr.in1.in1 rfl I A ro rv1 ?_) fun b s1 ⟨H1, I1, q1⟩ => ⟨.bl b, H1, I1, rfl, q1⟩)
        cases ho : fb [.ins c fs] st with
        | bad => rw [ho] at p'; exact False.elim p'
        | exc c' fs' st' => rw [ho] at p'; exact False.elim p'
        | ok rr st1 =>
          rw [ho] at p'
          cases rr with
          | bl b => exact fun W' l a' => p' W' _ l a' (.bl b)
          | _ => exact False.elim p'
    | _ => exact False.elim p
  · exact False.elim p
theorem db_tru {BO : String → Option (List D → Sto → Out D)} {wx : WX} {e : Expr} {g : Den} (hB : BoOk X G k BO) (hr : Room k X.A) (h : DE X G wx e g) (he : ∀ whole, isTrue e X.env whole = (do let v ← whole; standAt e.pos; holding [v] (truthy v)) := by intro _; rfl) :
    DB X G wx e (fun env st => (g env st).bind (truB BO)) := by
  refine ⟨⟨fun pins s σ H Q I q => ?_⟩⟩
  obtain ⟨W, env, st, rfl, A, re, p⟩ := q
  have key := h.pe.run pins s σ W.H (fun v H1 => ∃ (W1 : Wd) (d : D) (st1 : Sto), W1.H = H1 ∧ W.le W1 ∧ Abs X.K G W1 st1 ∧ RelD X.K G W1 d v ∧ PostB X.K G W1 (fun cls dd H => wx cls dd σ H) (truB BO d st1) Q) I ⟨W, env, st, rfl, A, re, Post.bindB p fun d st1 W1 v _ l1 A1 r1 p1 => ⟨W1, d, st1, rfl, l1, A1, r1, p1⟩⟩
  rw [he]
  refine wpAny_bind (thn key fun u s1 hh => wpAny_bind (wpAny_standAt (wpAny_holding ?_)))
  obtain ⟨v, H1, I1, rv, W1, d, st1, rfl, l1, A1, r1, p1⟩ := hh
  cases d with
  | bl b =>
    cases r1
    cases (show u = Value.bool b from rv)
    exact wpAny_truthy_bool ⟨W1.H, I1, p1 W1 .rfl' A1⟩
  | ins c fs =>
    unfold truB at p1
    dsimp only at p1
    cases hb : BO c with
    | none => rw [hb] at p1; exact False.elim p1
    | some fb =>
      rw [hb] at p1
      refine truthy_own hB hb hr rfl I1 A1 r1 rv ?_
      dsimp only at p1
      cases ho : fb [.ins c fs] st1 with
      | bad => rw [ho] at p1; exact False.elim p1
      | exc c' fs' st' => rw [ho] at p1; exact False.elim p1
      | ok rr st2 =>
        rw [ho] at p1
        cases rr with
        | bl b => exact p1
        | _ => exact False.elim p1
  | _ => exact False.elim p1
end
end DL

set_option Elab.async false
set_option linter.all false
set_option maxRecDepth 100000
/-! # DRepr: repr over data (where no guard stands beneath) -/
namespace DL
open PySem PySem.Spec PyProof.Rows L2

def keyPy : Key → PyData
  | .inl i => .int i
  | .inr x => .str x
def flatPy : D → Option PyData
  | .non => some .none
  | .bl b => some (.bool b)
  | .int i => some (.int i)
  | .str x => some (.str x)
  | _ => none
def kvPy : List (Key × D) → Option (List (PyData × PyData))
  | [] => some []
  | (k, d) :: r => match flatPy d, kvPy r with
    | some p, some ps => some ((keyPy k, p) :: ps)
    | _, _ => none
/-- an item: data without a dict, or a dict of flat things -/
def itemPy (d : D) : Option PyData := match d with
  | .dic ks => (kvPy ks).map .dict
  | d => toPy d
def itemsPy : List D → Option (List PyData)
  | [] => some []
  | d :: ds => match itemPy d, itemsPy ds with
    | some p, some ps => some (p :: ps)
    | _, _ => none
mutual
theorem toPy_noDict : ∀ {d : D} {p : PyData}, toPy d = some p → p.hasDict = false
  | .non, _, h => by simp only [toPy, Option.some.injEq] at h; subst h; simp only [PyData.hasDict]
  | .bl b, _, h => by simp only [toPy, Option.some.injEq] at h; subst h; simp only [PyData.hasDict]
  | .int i, _, h => by simp only [toPy, Option.some.injEq] at h; subst h; simp only [PyData.hasDict]
  | .str x, _, h => by simp only [toPy, Option.some.injEq] at h; subst h; simp only [PyData.hasDict]
  | .tup ds, _, h => by
    simp only [toPy] at h
    cases e : toPys ds with
    | none => rw [e] at h; cases h
    | some ps => rw [e] at h; cases h; simp only [PyData.hasDict]; exact toPys_noDict e
  | .lst ds, _, h => by
    simp only [toPy] at h
    cases e : toPys ds with
    | none => rw [e] at h; cases h
    | some ps => rw [e] at h; cases h; simp only [PyData.hasDict]; exact toPys_noDict e
  | .rdl _, _, h => by simp [toPy] at h
  | .dic _, _, h => by simp [toPy] at h
  | .ins _ _, _, h => by simp [toPy] at h
  | .exn _ _, _, h => by simp [toPy] at h
  | .cls _, _, h => by simp [toPy] at h
  | .ty _, _, h => by simp [toPy] at h
  | .ref _, _, h => by simp [toPy] at h
theorem toPys_noDict : ∀ {ds : List D} {ps : List PyData}, toPys ds = some ps → PyData.hasDictAll ps = false
  | [], _, h => by simp only [toPys, Option.some.injEq] at h; subst h; simp only [PyData.hasDictAll]
  | d :: ds, _, h => by
    simp only [toPys] at h
    split at h
    · rename_i p ps e1 e2
      cases h
      simp only [PyData.hasDictAll, toPy_noDict e1, toPys_noDict e2, Bool.or_self]
    · cases h
end
section
variable {X : Cx} {G : CG} {pins : List (Addr × Obj)} {σ : L2.St} {s : Shared} {W : Wd}
theorem flat_reads {d : D} {v : V} {u : Value} {p : PyData} (r : RelD X.K G W d v) (rv : RelV v u) (h : flatPy d = some p) : Reads s.heap u p [] := by
  cases r with
  | non => cases h; cases (show u = Value.none from rv); exact .none
  | bl b => cases h; cases (show u = Value.bool b from rv); exact .bool b
  | int i => cases h; obtain ⟨t, e⟩ := (show ∃ t, u = Value.int i t from rv); subst e; exact .int i t
  | str x => cases h; obtain ⟨t, e⟩ := (show ∃ t, u = Value.str x t from rv); subst e; exact .str x t
  | _ => cases h
theorem kv_reads : ∀ {ks : List (Key × D)} {gs : List (Key × V)} {vs : List (Key × Value)} {es : List DictEntry} {ps : List (PyData × PyData)}, RelKs X.K G W ks gs → KV gs vs → Pairs (mixKind X.prog X.w) es vs → kvPy ks = some ps →
    ReadsAll s.heap (es.map (·.key)) (ps.map (·.1)) [] ∧ ReadsAll s.heap (es.map (·.val)) (ps.map (·.2)) []
  | _, _, _, _, _, .nil, .nil, .nil, h => by cases h; exact ⟨.nil, .nil⟩
  | (k, d) :: ks, _, _, _, ps, .cons r t, .cons kv kvt, .cons (e := e) pe1 pe2 pt, h => by
    simp only [kvPy] at h
    split at h
    · rename_i p ps' e1 e2
      cases h
      obtain ⟨h1, h2⟩ := kv_reads t kvt pt e2
      obtain ⟨q1, q2⟩ := kv
      dsimp only at q1 q2
      have rk : Reads s.heap e.key (keyPy k) [] := by
        have z : keyIs _ e.key = true := pe1
        rw [← q1] at z
        rcases keyIs_shape z with ⟨i, t, e1, e2⟩ | ⟨x, t, e1, e2⟩
        · rw [e1, e2]; exact .int i t
        · rw [e1, e2]; exact .str x t
      have rvv : Reads s.heap e.val p [] := by rw [pe2]; exact flat_reads r q2 e1
      exact ⟨.cons (as := []) (bs := []) rk h1, .cons (as := []) (bs := []) rvv h2⟩
    · cases h
theorem item_reads (I : Inv X pins σ W.H s) {d : D} {v : V} {u : Value} {p : PyData} (r : RelD X.K G W d v) (rv : RelV v u) (h : itemPy d = some p) : ∃ as, Reads s.heap u p as ∧ (p.hasDict = true → sysModules ∉ as) := by
  by_cases hd : ∃ ks, d = .dic ks
  · obtain ⟨ks, rfl⟩ := hd
    cases r with
    | @dic _ gs a hf hr hk =>
      cases (show u = Value.ref a from rv)
      cases e : kvPy ks with
      | none => simp [itemPy, e] at h
      | some ps =>
        simp only [itemPy, e, Option.map_some, Option.some.injEq] at h
        subst h
        obtain ⟨_, hno, vs, hkv, o, es, ep, ho, hx, hdt, _, hp, _⟩ := dk_of I.hok hr
        obtain ⟨h1, h2⟩ := kv_reads (s := s) hk hkv hp e
        refine ⟨_, Reads.dict ho hx.1 hdt h1 h2, fun _ hm => ?_⟩
        have : sysModules = a := by simpa using hm
        rw [this, beq_self_eq_true] at hno
        cases hno
  · have h' : toPy d = some p := by
      cases d with
      | dic ks => exact absurd ⟨ks, rfl⟩ hd
      | _ => exact h
    obtain ⟨as, q⟩ := Dp.reads I p v u (r.py h') rv
    exact ⟨as, q, fun z => by rw [toPy_noDict h'] at z; cases z⟩
theorem items_repr (I : Inv X pins σ W.H s) : ∀ {ds : List D} {vs : List V} {us : List Value} {ps : List PyData}, RelDs X.K G W ds vs → Vals vs us → itemsPy ds = some ps → PyData.showableAll ps = true → (∀ t ∈ PyData.shownAll ps, t.length ≤ sizeLine) →
    ∃ as bs, ReadsAll s.heap us ps as ∧ ReadAtMost s.heap (PyData.depthAll ps) bs ∧ ReprAllK X.prog X.w bs s.heap (PyData.depthAll ps) us (PyData.shownAll ps)
  | _, _, _, _, .nil, .nil, h, _, _ => by
    cases h
    exact ⟨[], [], .nil, (fun _ h => nomatch h), by simp only [PyData.shownAll]; exact .nil⟩
  | d :: ds, _, _, ps, .cons r t, .cons rv rvt, h, hs, hz => by
    simp only [itemsPy] at h
    split at h
    · rename_i p ps' e1 e2
      cases h
      have hs' : p.showable = true ∧ PyData.showableAll ps' = true := by simpa [PyData.showableAll] using hs
      obtain ⟨a1, q1, n1⟩ := item_reads I r rv e1
      obtain ⟨b1, hb1, k1⟩ := ReprK.of_reads (prog := X.prog) (w := X.w) q1 hs'.1 n1 (hz _ (by simp only [PyData.shownAll]; exact List.mem_cons_self ..))
      obtain ⟨a2, b2, q2, hb2, k2⟩ := items_repr I t rvt e2 hs'.2 (fun t ht => hz t (by simp only [PyData.shownAll]; exact List.mem_cons_of_mem _ ht))
      refine ⟨a1 ++ a2, b1 ++ b2, .cons q1 q2, ?_, ?_⟩
      · simp only [PyData.depthAll]
        exact (hb1.mono (Nat.le_max_left _ _)).append (hb2.mono (Nat.le_max_right _ _))
      · simp only [PyData.depthAll, PyData.shownAll]
        exact .cons ((k1.more fun b hb => List.mem_append_left _ hb).level_le (Nat.le_max_left _ _)) (k2.more_le (fun b hb => List.mem_append_right _ hb) (Nat.le_max_right _ _))
    · cases h
end
/-- so a text can be shown -/
def shOk (p : PyData) : Bool := p.showable && decide (p.depth ≤ 60) && decide (p.shown.length ≤ 10000000)
def fRepr : List D → Sto → Out D := fun ds st => match ds with
  | [.lst l] => (match itemsPy l with | some ps => if shOk (.list ps) = true then .ok (.str (PyData.shown (.list ps))) st else .bad | none => .bad)
  | [.tup l] => (match toPys l with | some ps => if shOk (.tuple ps) = true then .ok (.str (PyData.shown (.tuple ps))) st else .bad | none => .bad)
  | [.non] => .ok (.str "None") st
  | [.bl b] => .ok (.str (if b then "True" else "False")) st
  | [.int i] => if i.natAbs.log2 < 1920 then .ok (.str (toString i)) st else .bad
  | [.str x] => if (reprText x).length ≤ 10000000 then .ok (.str (reprText x)) st else .bad
  | _ => .bad
theorem nox_repr : NoXN fRepr := fun ds st c fs st' q => by
  unfold fRepr at q
  repeat' (split at q)
  all_goals cases q
section
variable {X : Cx} {G : CG}
theorem c_repr (hg : X.A.guards = some []) (hu : X.A.units + 64 < cLine) : CallR X (.builtin "repr") (rN X.K G fRepr) := by
  intro pins s σ H xs us Q I rv q
  obtain ⟨W, ds, st, rfl, A, r, p⟩ := q
  unfold fRepr at p
  split at p
  · rename_i l
    obtain ⟨v, rfl, ro⟩ := r.one
    obtain ⟨u, rfl, rv1⟩ := vals1 rv
    obtain ⟨a, vs, rfl, hf, hr, rs⟩ := ro.sq_lst
    cases (show u = Value.ref a from rv1)
    split at p
    · rename_i ps hps
      split at p
      · rename_i hok
        unfold shOk at hok
        simp only [Bool.and_eq_true, decide_eq_true_eq] at hok
        obtain ⟨⟨h1, h2⟩, h3⟩ := hok
        obtain ⟨its, rvs, ⟨o, n, ho, hc, hn, hd⟩, _⟩ := I.list (xs := vs) (a := a) (.inl (.inl hr))
        have hz' : (listText (PyData.shownAll ps)).length ≤ sizeLine := by
          have e : PyData.shown (.list ps) = listText (PyData.shownAll ps) := by simp only [PyData.shown]
          rw [e] at h3
          exact ten_line h3
        have hdep : PyData.depthAll ps + 1 ≤ 60 := by simpa only [PyData.depth] using h2
        obtain ⟨as, bs, qa, hb, hk⟩ := items_repr I rs rvs hps (by simpa [PyData.showable] using h1) (fun t ht => Nat.le_trans (listText_mem_le ht) hz')
        have hna : a ∉ bs := not_mem_of_deeper (.list ho hc hd qa) (by simp only [PyData.depth]; omega) hb
        have fin : ∀ h' u tk, (∀ b o, s.heap.get? b = some o → h'.get? b = some o) → EP X pins σ Q (.str (PyData.shown (.list ps)) u) { s with heap := h', toks := tk } := fun h' u tk k => ⟨.str _, W.H, I.kept k, ⟨u, rfl⟩, p W _ .rfl' A (.str _)⟩
        refine call_repr_slot (by omega) (T := "list") ⟨o, ho, hc⟩ F.slot_list_repr.toG ?_
        have hd' : o.data = .seq its.toArray n := hd
        cases its with
        | nil =>
          cases qa
          refine call_list_repr_empty (A := X.A.in1) ⟨o, ho, hc⟩ ho hd' ?_
          have e : PyData.shown (.list []) = ("[]" : Str) := by simp only [PyData.shown, PyData.shownAll, listText_nil]
          have f0 := fun h' u tk k => fin h' u tk k
          rw [e] at f0
          exact ⟨_, _, rfl, f0 s.heap _ _ fun _ _ e => e⟩
        | cons x l' =>
          refine call_list_reprK (A := X.A.in1) ho hc hd' hna (by simpa using hk.length_eq) (fun i y e => hk.item i y (by simpa using e)) hg (fun b _ => Clear.nil b) (by show X.A.units + 1 + _ < cLine; omega) (fun _ _ e => e) (fun h' u tk k => ⟨_, _, rfl, ?_⟩) hz'
          have e : PyData.shown (.list ps) = listText (PyData.shownAll ps) := by simp only [PyData.shown]
          rw [← e]
          exact fin h' u tk k
      · exact False.elim p
    · exact False.elim p
  · rename_i l
    obtain ⟨v, rfl, ro⟩ := r.one
    obtain ⟨u, rfl, rv1⟩ := vals1 rv
    split at p
    · rename_i ps hps
      split at p
      · rename_i hok
        unfold shOk at hok
        simp only [Bool.and_eq_true, decide_eq_true_eq] at hok
        obtain ⟨⟨h1, h2⟩, h3⟩ := hok
        have ht : toPy (.tup l) = some (.tuple ps) := by simp only [toPy, hps, Option.map_some]
        obtain ⟨a, vs, rfl, hr, rs⟩ := ro.sq_tup
        cases (show u = Value.ref a from rv1)
        obtain ⟨as, qa⟩ := Dp.reads I _ _ _ (ro.py ht) rfl
        exact repr_of_reads' qa h1 (PyData.noDict_hsm (toPy_noDict ht)) hg (by omega) (fun _ _ e => e) (fun h' u tk k => ⟨.str _, W.H, I.kept k, ⟨u, rfl⟩, p W _ .rfl' A (.str _)⟩) (ten_line h3)
      · exact False.elim p
    · exact False.elim p
  · obtain ⟨v, rfl, ro⟩ := r.one
    obtain ⟨u, rfl, rv1⟩ := vals1 rv
    cases ro
    cases (show u = Value.none from rv1)
    exact P.repr_of_none ⟨.str _, W.H, I.tok _, ⟨_, rfl⟩, p W _ .rfl' A (.str _)⟩
  · rename_i b
    obtain ⟨v, rfl, ro⟩ := r.one
    obtain ⟨u, rfl, rv1⟩ := vals1 rv
    cases ro
    cases (show u = Value.bool b from rv1)
    exact P.repr_of_bool ⟨.str _, W.H, I.tok _, ⟨_, rfl⟩, p W _ .rfl' A (.str _)⟩
  · rename_i i
    obtain ⟨v, rfl, ro⟩ := r.one
    obtain ⟨u, rfl, rv1⟩ := vals1 rv
    cases ro
    obtain ⟨t, rfl⟩ := (show ∃ t, u = Value.int i t from rv1)
    split at p
    · rename_i hl
      exact P.repr_of_int hl ⟨.str _, W.H, I.tok _, ⟨_, rfl⟩, p W _ .rfl' A (.str _)⟩
    · exact False.elim p
  · rename_i x
    obtain ⟨v, rfl, ro⟩ := r.one
    obtain ⟨u, rfl, rv1⟩ := vals1 rv
    cases ro
    obtain ⟨t, rfl⟩ := (show ∃ t, u = Value.str x t from rv1)
    split at p
    · rename_i hl
      exact P.repr_of_str ⟨.str _, W.H, I.tok _, ⟨_, rfl⟩, p W _ .rfl' A (.str _)⟩ (ten_line hl)
    · exact False.elim p
  · exact False.elim p
end
end DL

set_option Elab.async false
set_option linter.all false
set_option maxRecDepth 100000
/-! # DCls: o.__class__, C.__name__, fields as targets, small dicts -/
namespace DL
open PySem PySem.Spec PyProof.Rows L2

/-- the name that the class object bears -/
structure NmK (K : PySem.W.Frag) (C : Addr) (c : String) : Prop where
  rd : PySem.W.readsIn K C (.type "type") = true
  at_ : PySem.W.findCls K (.ref C) (.type "type") "__name__" = some (.get (.builtin "getset_descriptor.__get__") (.builtin "type.__name__") (.ref C) (.type "type"))
  obj : ∃ oC t, K.lookup C = some oC ∧ oC.cls = .type "type" ∧ oC.slots[2]? = some (some (.str (Str.ofString c) t))
section
variable {X : Cx} {G : CG} {wx : WX} {o e : Expr} {f : Str} {go ga : Den} {pos pos' : Pos} {cs : List String}
/-- a one-place reading of an attribute, by data -/
theorem attrD {k : D → Sto → Out D} (h : DE X G wx o go) (hb : attributeBase o f X.env (eval o X.env) = eval o X.env)
    (hk : ∀ (pins : List (Addr × Obj)) (s : Shared) (σ : L2.St) (W : Wd) (d : D) (v : V) (u : Value) (st : Sto) (Q : VK), Inv X pins σ W.H s → Abs X.K G W st → RelD X.K G W d v → RelV v u → Post X.K G W (fun cls dd H => wx cls dd σ H) (k d st) Q →
      wpAny (model X.prog X.w) X.A (getAttr u f true) (EP X pins σ Q) X.xe s) : DE X G wx (.Attribute o f pos) (fun env st => (go env st).bind k) := by
  refine ⟨⟨fun pins s σ H Q I q => ?_⟩⟩
  obtain ⟨W, env, st, rfl, A, re, p⟩ := q
  have key := h.pe.run pins s σ W.H (fun v H1 => ∃ (W1 : Wd) (d : D) (st1 : Sto), W1.H = H1 ∧ W.le W1 ∧ Abs X.K G W1 st1 ∧ RelD X.K G W1 d v ∧ Post X.K G W1 (fun cls dd H => wx cls dd σ H) (k d st1) Q) I ⟨W, env, st, rfl, A, re, Post.bind p fun d st1 W1 v _ l1 A1 r1 p1 => ⟨W1, d, st1, rfl, l1, A1, r1, p1⟩⟩
  refine attr_of hb (thn key fun u s1 hh => ?_)
  obtain ⟨v, H1, I1, rv, W1, d, st1, rfl, l1, A1, r1, p1⟩ := hh
  exact hk pins s1 σ W1 d v u st1 Q I1 A1 r1 rv p1
def kCls (cs : List String) : D → Sto → Out D := fun d st => match d with
  | .ins c _ => if c ∈ cs then .ok (.cls c) st else .bad
  | _ => .bad
theorem de_class (h : DE X G wx o go) (hC : ∀ c ∈ cs, ∀ C, G c = some C → InsK X.K C) (hb : attributeBase o "__class__" X.env (eval o X.env) = eval o X.env) : DE X G wx (.Attribute o "__class__" pos) (fun env st => (go env st).bind (kCls cs)) :=
  attrD h hb fun pins s σ W d v u st Q I A r rv p => by
    unfold kCls at p
    split at p
    · rename_i c fs
      split at p
      · rename_i hc
        cases r with
        | @ins _ _ gs a C dx hf gc ha hs =>
          cases (show u = Value.ref a from rv)
          have T := hC c hc C gc
          obtain ⟨mA, J, _⟩ := ins_get I.hok ha
          obtain ⟨od, J, _⟩ := J.look
          obtain ⟨m, FR⟩ := I.fr
          exact PySem.W.get_class FR I.ok.mod.kin J (T.cl.get _) T.cl.hd T.ha T.hn T.htk T.hm ⟨.ref C, W.H, I.tok _, rfl, p W _ .rfl' A (.cls gc)⟩
      · exact False.elim p
    · exact False.elim p
def kName (cs : List String) : D → Sto → Out D := fun d st => match d with
  | .cls c => if c ∈ cs then .ok (.str (Str.ofString c)) st else .bad
  | _ => .bad
theorem de_cname (h : DE X G wx o go) (hC : ∀ c ∈ cs, ∀ C, G c = some C → NmK X.K C c) (hb : attributeBase o "__name__" X.env (eval o X.env) = eval o X.env) : DE X G wx (.Attribute o "__name__" pos) (fun env st => (go env st).bind (kName cs)) :=
  attrD h hb fun pins s σ W d v u st Q I A r rv p => by
    unfold kName at p
    split at p
    · rename_i c
      split at p
      · rename_i hc
        cases r with
        | cls gc =>
          rename_i C
          cases (show u = Value.ref C from rv)
          have T := hC c hc C gc
          obtain ⟨oC, t, lk, hcl, hsl⟩ := T.obj
          refine PySem.W.cls_bind I.kIn T.rd T.at_ (wpAny_call (DLX.name_get (s := { s with toks := s.toks + 1 }) (I.kIn _ _ lk) hcl hsl ?_))
          exact PySem.W.handed_on rfl ⟨.str _, W.H, I.tok _, ⟨_, rfl⟩, p W _ .rfl' A (.str _)⟩
      · exact False.elim p
    · exact False.elim p

/-! ### fields as targets -/
def gFldD (cs : List String) (go : Den) (f : Str) : DenG := fun d env st => match go env st with
  | .ok (.ref i) st1 => (match st1.m i with
    | some (.ins c fs) => if c ∈ cs ∧ fs.length < 1000 then .ok env (st1.set i (.ins c (putD f d fs))) else .bad
    | _ => .bad)
  | _ => .bad
theorem dg_fld (ho : DE X G W0 o go) (hC : ∀ c ∈ cs, ∀ C, G c = some C → Cls X.K C ∧ NoAttr X.K C f) : DG X G (.Attribute o f pos) (gFldD cs go f) := by
  refine ⟨⟨fun pins s σ H v u Q I rv q => ?_⟩⟩
  obtain ⟨W, env, d, st, rfl, A, re, rd, p⟩ := q
  unfold gFldD at p
  rw [assign_Attribute]
  cases h1 : go env st with
  | bad => rw [h1] at p; exact False.elim p
  | exc c fs st1 => rw [h1] at p; exact False.elim p
  | ok d1 st1 =>
    rw [h1] at p
    cases d1 with
    | ref i =>
      dsimp only at p
      have key := ho.pe.run pins s σ W.H (fun x H1 => ∃ (W1 : Wd), W1.H = H1 ∧ W.le W1 ∧ Abs X.K G W1 st1 ∧ RelD X.K G W1 (.ref i) x) I ⟨W, env, st, rfl, A, re, by rw [h1]; exact fun W1 x l a r => ⟨W1, rfl, l, a, r⟩⟩
      refine wpAny_bind (wpAny_holding (thn key fun ov s1 hh => ?_))
      obtain ⟨x, H1, I1, rx, W1, rfl, l1, A1, r1⟩ := hh
      refine wpAny_bind (wpAny_standAt (wpAny_bind (wpAny_holding ?_)))
      cases hm : st1.m i with
      | none => rw [hm] at p; exact False.elim p
      | some mo =>
        rw [hm] at p
        cases mo with
        | ins c fs =>
          dsimp only at p
          by_cases hc : c ∈ cs ∧ fs.length < 1000
          · rw [if_pos hc] at p
            obtain ⟨b, eb, nf, rm⟩ := A1.obj i _ hm
            cases r1 with
            | @ref _ a hr =>
              rw [hr] at eb
              cases eb
              cases (show ov = Value.ref _ from rx)
              cases rm with
              | @ins _ _ gs _ C dx gc h2 h3 =>
                obtain ⟨k1, k2⟩ := hC c hc.1 C gc
                have lw := Wd.le_wr (o := .ins C dx (L2.putF f v gs)) nf
                refine setattr_ok I1 h2 k1 k2 (by rw [← h3.length]; exact hc.2) rv fun s3 I3 => ?_
                exact wpAny_release ⟨σ, _, I3, p _ σ (l1.trans lw) (A1.wr hm hr (.ins gc upd_same ((h3.up lw).putF ((rd.up l1).up lw) f))) (re.up (l1.trans lw))⟩
          · rw [if_neg hc] at p
            exact False.elim p
        | _ => exact False.elim p
    | _ => exact False.elim p
/-- {'k': n}, written -/
theorem de_dict1 {x : Str} {i : Int} {j1 j2 : Nat} {p1 p2 : Pos} : DE X G wx (.Dict [some (.Constant (.str x) j1 p1)] [.Constant (.int i) j2 p2] pos) (dC (.dic [(.inr x, .int i)])) :=
  ⟨(pe_disp (pps_cons pe_str pe_int pps_nil) (by rfl) (by rfl) (fun z => by cases z) (by show 1 ≤ 15; decide)).imp fun σ H Q q => by
    obtain ⟨W, env, st, rfl, A, re, p⟩ := q
    intro q hq
    refine ⟨upd_same, [(.inr x, .int i)], rfl, by show 1 ≤ 15; decide, ?_⟩
    have e : upd (upd W.H q (.dK [])) q (.dK (mergeK [] [(.inr x, .int i)])) = upd W.H q (.dK [(.inr x, .int i)]) := by
      funext b
      by_cases hb : b = q
      · subst hb; rw [upd_same, upd_same]; rfl
      · rw [upd_ne hb, upd_ne hb, upd_ne hb]
    show Q (.ref q) (upd (upd W.H q (.dK [])) q (.dK (mergeK [] [(.inr x, .int i)])))
    rw [e]
    have l := Wd.le_put (o := .dK [(.inr x, .int i)]) A hq
    exact p (W.put q _) (.ref q) l (A.put hq) (.dic (.inr rfl) upd_same (.cons (.int i) .nil))⟩
end
end DL

set_option Elab.async false
set_option linter.all false
set_option maxRecDepth 100000
/-! # DEnd: the law's own def, run where the row calls it (no guard beneath), and the row's walk -/
namespace DL
open PySem PySem.Spec PyProof.Rows L2

/-- a promise kept where A runs around -/
def FnAt (A : Around) (P : Program) (w : World) (K : PySem.W.Frag) (mg : Str → Option Value) (base : Heap) (CX : CXT) (f : Addr) (fd : FuncData) (ps : List Str) (sp : Sp) : Prop :=
  ∀ (outer : List Env) (s : Shared) (H : Hp) (args : Args) (us : List Value) (vs : List V) (Q : VK) (E : XK), Env0 P w K mg base A outer s H → BindsTo s fd args (ps.zip us) → Vals vs us → sp vs H Q E →
    codeAny (model P w) A (.call (.ref f) args) (CR CX outer P w H s Q E) s
section
variable {A : Around} {P : Program} {w : World} {K : PySem.W.Frag} {mg : Str → Option Value} {base : Heap} {k : Nat} {f : Addr} {x qual : Str} {st : Stmt} {fd : FuncData} {N ps : List Str} {G : CG} {g : DenS} {fn : List D → Sto → Out D}
theorem fn_at (F : Fun K x qual st f fd) (S : FnScope N ps (defScope st)) (hr : Room (k + 1) A) (hN : ps.length ≤ N.length) (hlen : ∀ ds s, ds.length ≠ ps.length → fn ds s = .bad) (hfn : ∀ ds s, fn ds s ≠ .bad → runBody N.length g ds s = fn ds s)
    (hbody : ∀ (cdv : Value) (outer : List Env) (s : Shared) (H : Hp) (E : XK), Room k (A.deeper (envOfC qual (defScope st) s.heap.objs.size f cdv)) →
      DSs (cxOf (L2.CX P w) P w K mg base N qual (defScope st) f cdv A outer s H E) G (fun cls d _ H => E cls d H) (defBody st) g) : FnAt A P w K mg base (L2.CX P w) f fd ps (spD K G fn) := by
  obtain ⟨oc, od, kV, doc, pm, an, cdv, ct, osl, rfl, lk, hcd⟩ := F.ex
  intro outer s H args us vs Q E e0 hb r hsp
  have hl : vs.length = ps.length := by
    obtain ⟨W, ds, st, rfl, _, rr, p⟩ := hsp
    by_cases h : ds.length = ps.length
    · exact rr.length ▸ h
    · rw [hlen ds st h] at p; exact False.elim p
  have KX : K.In s.heap := e0.mod.kin.keeps fun b o e => (e0.bs b o e).1
  have lim : s.heap.NoLimit := e0.mod.nolimit.keeps fun b o e => (e0.bs b o e).1
  have kinds : ∀ y ∈ ps.zip us, (defScope st).names.lookup y.1 = some .local ∨ ((defScope st).names.lookup y.1 = some .cell ∧ ((cellsFrom (s.heap.objs.size + 1) (defScope st).names []).lookup y.1).isSome = true) := fun ⟨n, v⟩ hy => by
    rcases S.par n (List.of_mem_zip hy).1 with z | z
    · exact .inl z
    · exact .inr ⟨z, PySem.W.cellsFrom_some _ _ _ (.inl z)⟩
  refine codeAny_call_function hr.depth (KX _ _ lk) rfl S.co S.gen rfl (PySem.W.codeRec_of KX hcd) (hb _ _ _ _ ?_)
  refine wpAny_newFunctionEnv_cells S.kind kinds fun env henv s1 ic => ?_
  subst henv
  refine ⟨lim.keeps ic.toInCall.keep, codeAny_func ?_⟩
  have I := inv_start (E := E) (CX := L2.CX P w) (f := f) (qual := qual) (cd := cdv) S hr.hd e0 hl r ic
  have q : spD K G (runBody N.length g) vs H Q E := by
    obtain ⟨W, ds, st, e, A', rr, p⟩ := hsp
    refine ⟨W, ds, st, e, A', rr, ?_⟩
    cases hf : fn ds st with
    | bad => rw [hf] at p; exact False.elim p
    | ok d st1 => rw [hfn ds st (by rw [hf]; exact fun z => by cases z)]; exact p
    | exc c fs st1 => rw [hfn ds st (by rw [hf]; exact fun z => by cases z)]; exact p
  refine wpAny_mono ((hbody cdv outer s H E (hr.deeper _)).pss.run [] s1 _ H _ I (body_ok (by rw [hl]; exact hN) q)) (fun fl s' hs => ?_) fun e s' hs => hs
  have done : ∀ {σ' : L2.St} {H' : Hp} {v : V} {u : Value}, Inv (cxOf (L2.CX P w) P w K mg base N qual (defScope st) f cdv A outer s H E) [] σ' H' s' → L2.RelV v u → Q v H' → CE outer P w H s Q u s' := fun {σ' H' v u} J rv z => ⟨v, H', J.os, J.bare, J.base, J.hok, rv, z⟩
  cases fl with
  | ret u =>
    obtain ⟨v, σ', H', J, rv, z⟩ := hs
    exact done J rv z
  | next =>
    obtain ⟨σ', H', J, z⟩ := hs
    exact done (v := V.non) (u := Value.none) J rfl z
  | brk =>
    obtain ⟨_, _, _, z⟩ := hs
    exact False.elim z
  | cont =>
    obtain ⟨_, _, _, z⟩ := hs
    exact False.elim z
end

/-- the call of the law, over an abstract heap in which nothing but the script may stand -/
theorem law_at {P : Program} {w : World} {K : PySem.W.Frag} {mg mb : Str → Option Value} {CX : CXT} {fa a : Addr} {fd : FuncData} {x : Str} {sp : Sp} {s₁ : Shared} {vs : List Value} {ns : List Int}
    (KX : K.In s₁.heap) (h1 : s₁.heap.Ns mainGlobals mg) (h2 : s₁.heap.Ns builtinsNs mb) (h3 : ∀ x : Str, x ≠ "__name__" → mb x = bootBuiltins x) (h4 : s₁.heap.NoLimit) (h5 : s₁.gens = #[])
    (ha : s₁.heap.get? a = some { cls := .type "list", data := .seq vs.toArray }) (hi : IntsAre vs ns) (hl : ns.length ≤ sizeLine)
    (F : ∀ base : Heap, K.In base → base.Ns mainGlobals mg → FnAt callerA P w K mg base CX fa fd [x] sp) (hb : ∀ (s : Shared) (u : Value), BindsTo s fd ⟨[u], []⟩ [(x, u)])
    (hsp : ∀ H : Hp, Only H → SqL K H a (ns.map V.int) → sp [.ref a] H (fun v _ => v = .bl true) fun _ _ _ => False)
    (hX : ∀ H e s', CX [] H s₁ (fun _ _ _ => False) e s' → False) :
    codeAny (model P w) callerA (.call (.ref fa) ⟨[.ref a], []⟩) (fun r s' => r = .ok (.ret (.bool true)) ∧ OldK s₁.heap s'.heap ∧ s'.os = s₁.os ∧ AllBare s'.gens) s₁ := by
  have rv := vals_ints hi
  have lenV := hi.length
  have core : ∀ H : Hp, Only H → SqL K H a (ns.map V.int) → HOk P w H s₁.heap → (∀ b, H b ≠ none → b = a) → (H a ≠ none → K.lookup a = none) →
      codeAny (model P w) callerA (.call (.ref fa) ⟨[.ref a], []⟩) (fun r s' => r = .ok (.ret (.bool true)) ∧ OldK s₁.heap s'.heap ∧ s'.os = s₁.os ∧ AllBare s'.gens) s₁ := by
    intro H hO hS hok hA hK
    have there : ∀ {b : Addr} {o : Obj}, s₁.heap.get? b = some o → H b = none → (hidT s₁.heap H).get? b = some o := fun e n => hidT_get e n
    have plain : ∀ {b : Addr} {o : Obj} {es : Array DictEntry} {ep : Nat}, s₁.heap.get? b = some o → o.data = .dict es ep → H b = none := fun {b o es ep} e d => by
      cases q : H b with
      | none => rfl
      | some u =>
        have eb : b = a := hA b (by rw [q]; simp)
        subst eb
        rw [ha] at e
        cases e
        have d' : Data.seq vs.toArray _ = Data.dict es ep := d
        cases d'
    have nsK : ∀ {b : Addr} {m : Str → Option Value}, s₁.heap.Ns b m → (hidT s₁.heap H).Ns b m := fun {b m} ⟨o, es, ep, e, d, r⟩ => ⟨o, es, ep, there e (plain e d), d, r⟩
    have KB : K.In (hidT s₁.heap H) := fun b o e => there (KX b o e) (by
      cases q : H b with
      | none => rfl
      | some u =>
        have eb : b = a := hA b (by rw [q]; simp)
        subst eb
        rw [hK (by rw [q]; simp)] at e
        cases e)
    have M : Mod K mg (hidT s₁.heap H) := ⟨KB, nsK h1, ⟨mb, nsK h2, h3⟩, let ⟨mc, c1, c2⟩ := h4; ⟨mc, nsK c1, c2⟩⟩
    have e0 : Env0 P w K mg (hidT s₁.heap H) callerA [] s₁ H := ⟨rfl, M, fun b o e => of_hidT e, Nat.le_of_eq (hidT_size _ _), trivial, fun b hb => absurd (show b ∈ ([] : List Addr) from hb) (by simp), hok, .of_eq h5⟩
    refine codeAny_mono (F _ KB (nsK h1) [] s₁ H ⟨[.ref a], []⟩ [.ref a] [.ref a] _ _ e0 (hb s₁ (.ref a)) (.cons rfl .nil) (hsp H hO hS)) fun r s' h => ?_
    cases r with
    | error e => exact (hX H e s' h).elim
    | ok fl =>
      cases fl with
      | ret u =>
        obtain ⟨v, H', os, bare, un, hok', r', q⟩ := h
        have q' : v = .bl true := q
        subst q'
        obtain rfl : u = Value.bool true := r'
        refine ⟨rfl, OldK.of_keep fun b o e => ?_, os, bare⟩
        cases q : H b with
        | none => exact un.keep b o e q (by intro z; exact absurd (show b ∈ ([] : List Addr) from z) (by simp)) (by simp)
        | some u =>
          rcases hO b with z | ⟨ob, xs, z⟩
          · rw [q] at z
            cases z
          · have z2 := un.frzs b ob _ z
            obtain ⟨e1, _⟩ := hok b _ z
            obtain ⟨e2, _⟩ := hok' b _ z2
            rw [e] at e1
            cases e1
            exact e2
      | _ => exact False.elim h
  cases hk : K.lookup a with
  | some o =>
    have e := KX a o hk
    rw [ha] at e
    cases e
    have hs : SqL K (fun _ => none) a (ns.map V.int) := .inr ⟨_, vs.toArray, _, hk, rfl, rfl, rfl, by rw [List.size_toArray, lenV]; exact hl, by simpa using rv⟩
    refine core (fun _ => none) (fun _ => .inl rfl) hs (fun b u z => ?_) (fun b z => absurd rfl z) fun z => absurd rfl z
    have z' : (none : Option HO) = some u := z
    cases z'
  | none =>
    let H0 : Hp := fun b => if b = a then some (.frz { cls := .type "list", data := .seq vs.toArray } (.lst (ns.map V.int))) else none
    have at0 : H0 a = some (.frz { cls := .type "list", data := .seq vs.toArray } (.lst (ns.map V.int))) := if_pos rfl
    have off0 : ∀ {b : Addr}, b ≠ a → H0 b = none := fun hb => if_neg hb
    refine core H0 (fun b => ?_) (.inl (.inr ⟨_, at0⟩)) (fun b u z => ?_) (fun b z => ?_) fun _ => hk
    · by_cases hb : b = a
      · subst hb
        exact .inr ⟨_, _, at0⟩
      · exact .inl (off0 hb)
    · by_cases hb : b = a
      · subst hb
        rw [at0] at z
        cases z
        exact ⟨ha, by rw [List.length_map]; exact hl, vs, _, rv, ha⟩
      · rw [off0 hb] at z
        cases z
    · by_cases hb : b = a
      · exact hb
      · exact absurd (off0 hb) z
/-- the row's walk from the mirror's answer -/
theorem walk_at {l : PySem.W.OpenLaw} {n : Nat} {q : Program} {loose : List Str} {XP : (Str → Option Value) → Heap → Prop} {YP : World → Heap → Prop} {d : DefRec} {K : Params → PySem.W.Frag} {x : Str} {fn : List D → Sto → Out D}
    (hn : l.most = some n) (hn2 : n ≤ sizeLine) (hdf : d.params.defaults = []) (hY : ∀ (w : World) (h : Heap), YP w h → (K w.params).In h)
    (F : ∀ (w : World) (mg : Str → Option Value) (fa : Addr) (h : Heap), (K w.params).In h → h.Ns mainGlobals mg → mg d.name = some (.ref fa) →
      ∃ (fd : FuncData) (G : CG), (∀ (s : Shared) (u : Value), BindsTo s fd ⟨[u], []⟩ [(x, u)]) ∧
        ∀ base : Heap, (K w.params).In base → base.Ns mainGlobals mg → FnAt callerA l.prog w (K w.params) mg base (L2.CX l.prog w) fa fd [x] (spD (K w.params) G fn))
    (law : ∀ ns : List Int, ns.length ≤ n → ∃ st, fn [.rdl (ns.map D.int)] ⟨0, fun _ => none⟩ = .ok (.bl true) st) :
    PySem.W.WalkO q loose XP YP l.row.toRowW d [] (fun f vs => PySem.call f vs) := by
  refine Att.attach_call hn hdf fun w s₀ s₁ mg mb fa o pm cd doc a vs ns GG Y ho hd hcd hmg hobj hints hlen hg => ?_
  have KX := hY w _ Y
  obtain ⟨fd, G, hb, hF⟩ := F w mg fa _ KX GG.T.g hmg
  refine law_at KX GG.T.g GG.T.b GG.T.builtins GG.T.nolimit hg hobj hints (Nat.le_trans hlen hn2) hF hb (fun H hO hS => ?_) fun H e s' z => ?_
  · obtain ⟨st, hst⟩ := law ns hlen
    have rel : ∀ (W : Wd), RelDs (K w.params) G W (ns.map D.int) (ns.map V.int) := fun W => by
      induction ns with
      | nil => exact .nil
      | cons i ns ih => exact .cons (.int i) (by
          clear ih
          generalize ns = ms
          induction ms with
          | nil => exact .nil
          | cons j ms ih => exact .cons (.int j) ih)
    rcases hS with hS | hS
    · have hx : ∃ o, H a = some o := by
        rcases hS with z | ⟨o, z⟩
        · exact ⟨_, z⟩
        · exact ⟨_, z⟩
      refine ⟨⟨fun _ => none, fun b => b = a, fun _ => False, H⟩, [.rdl (ns.map D.int)], ⟨0, fun _ => none⟩, rfl, ⟨fun b hb => ?_, fun _ _ z => z, (fun i o z => nomatch z), (fun i j o u b z => nomatch z), fun _ _ => rfl⟩, .cons (.rdl rfl hS (rel _)) .nil, ?_⟩
      · rcases hb with hb | hb
        · rw [hb]; exact hx
        · exact hb.elim
      · rw [hst]
        intro W' v l A r
        cases r
        rfl
    · refine ⟨⟨fun _ => none, fun _ => False, fun _ => False, H⟩, [.rdl (ns.map D.int)], ⟨0, fun _ => none⟩, rfl, ⟨fun b hb => ?_, fun _ _ z => z, (fun i o z => nomatch z), (fun i j o u b z => nomatch z), fun _ _ => rfl⟩, .cons (.rdlK (fun H => .inr hS) (rel _)) .nil, ?_⟩
      · rcases hb with hb | hb <;> exact hb.elim
      · rw [hst]
        intro W' v l A r
        cases r
        rfl
  · obtain ⟨_, _, _, _, _, _, _, _, _, _, _, _, y⟩ := z
    exact y
end DL

set_option Elab.async false
set_option linter.all false
set_option maxRecDepth 100000
/-! # DLaw: defs by their bodies alone; fields of any kind; what a law's text is made of -/
namespace DL
open PySem PySem.Spec PyProof.Rows L2 StX NdefX

/-- the mirror of a def of n parameters, m slots, by its body -/
def mk (n m : Nat) (g : DenS) : List D → Sto → Out D := fun ds st => if ds.length = n then runBody m g ds st else .bad
theorem mk_len {n m : Nat} {g : DenS} : ∀ ds s, ds.length ≠ n → mk n m g ds s = .bad := fun ds s h => if_neg h
theorem mk_run {n m : Nat} {g : DenS} : ∀ ds s, mk n m g ds s ≠ .bad → runBody m g ds s = mk n m g ds s := fun ds s h => by
  unfold mk at h ⊢
  split at h
  · rename_i e
    rw [if_pos e]
  · exact absurd rfl h
section
variable {P : Program} {w : World} {K : PySem.W.Frag} {mg : Str → Option Value} {base : Heap} {k : Nat} {f c cc D : Addr} {x qual : Str} {st : Stmt} {fd : FuncData} {N ps : List Str} {G : CG} {g : DenS} {A : Around}
theorem fn_bad {CX : CXT} {fd : FuncData} : FnOk P w K mg base CX k f fd ps (spD K G fun _ _ => .bad) :=
  ⟨fun vs H Q E q => by obtain ⟨_, _, _, _, _, _, z⟩ := q; exact False.elim z, fun A outer s H args us vs Q E _ _ _ _ q => by obtain ⟨_, _, _, _, _, _, z⟩ := q; exact False.elim z⟩
theorem fn_m (F : Fun K x qual st f fd) (S : FnScope N ps (defScope st)) (hN : ps.length ≤ N.length)
    (hbody : ∀ (cdv : Value) (A : Around) (outer : List Env) (s : Shared) (H : Hp) (E : XK), Room k (A.deeper (envOfC qual (defScope st) s.heap.objs.size f cdv)) →
      DSs (cxOf (L2.CX P w) P w K mg base N qual (defScope st) f cdv A outer s H E) G (fun cls d _ H => E cls d H) (defBody st) g) : FnOk P w K mg base (L2.CX P w) (k + 1) f fd ps (spD K G (mk ps.length N.length g)) := fn_d F S hN mk_len mk_run hbody
theorem fn_mA (F : Fun K x qual st f fd) (S : FnScope N ps (defScope st)) (hr : Room (k + 1) A) (hN : ps.length ≤ N.length)
    (hbody : ∀ (cdv : Value) (outer : List Env) (s : Shared) (H : Hp) (E : XK), Room k (A.deeper (envOfC qual (defScope st) s.heap.objs.size f cdv)) →
      DSs (cxOf (L2.CX P w) P w K mg base N qual (defScope st) f cdv A outer s H E) G (fun cls d _ H => E cls d H) (defBody st) g) : FnAt A P w K mg base (L2.CX P w) f fd ps (spD K G (mk ps.length N.length g)) := fn_at F S hr hN mk_len mk_run hbody
theorem fn_mS (F : FunC K x qual st f fd c cc D) (S : NScope N ps ["__class__"] (defScope st))
    (hbody : ∀ (A : Around) (outer : List Env) (s : Shared) (H : Hp) (E : XK), Room k (A.deeper (envF (supF x qual st cc c) f s.heap.objs.size)) →
      DSsAt (ncx (L2.CX P w) P w K mg base N (supF x qual st cc c) f A outer s H E) G (fun cls d _ H => E cls d H) (defBody st) (defBody st) g) : FnOk P w K mg base (L2.CX P w) (k + 1) f fd ps (spD K G (mk ps.length N.length g)) := fn_dS F S mk_len mk_run hbody
theorem fn_mStar {n : Nat} {ks : List Str} {pv : Str} (F : Fun K x qual st f fd) (S : FnScope N (ps ++ [pv]) (defScope st)) (hN : ps.length + 1 ≤ N.length) (hm : ps.length ≤ n + ks.length)
    (hb : ∀ (kV doc pm : Value) (an : Option Addr) (cdv ct : Value) (us ws : List Value), us.length = n → ws.length = ks.length → bindArgs (PySem.W.fnOf x qual (defArgs st) (defBody st) (defScope st) .none kV doc pm an cdv ct) ⟨us, ks.zip ws⟩ = (newTuple ((us ++ ws).drop ps.length) >>= fun t => pure (ps.zip ((us ++ ws).take ps.length) ++ [(pv, t)])))
    (hbody : ∀ (cdv : Value) (A : Around) (outer : List Env) (s : Shared) (H : Hp) (E : XK), Room k (A.deeper (envOfC qual (defScope st) s.heap.objs.size f cdv)) →
      DSs (cxOf (L2.CX P w) P w K mg base N qual (defScope st) f cdv A outer s H E) G (fun cls d _ H => E cls d H) (defBody st) g) : FnB P w K mg base (L2.CX P w) (k + 1) f n ks (spD K G (starFn ps.length (mk (ps.length + 1) N.length g))) := fn_dStar F S hN hm hb mk_len mk_run hbody
theorem takes_nc {E : XK} {F : NF} {outer : List Env} {s : Shared} {H : Hp} : Takes (ncx (L2.CX P w) P w K mg base N F f A outer s H E) (fun cls d _ H => E cls d H) := takes_of rfl rfl rfl rfl
/-- arguments by place alone -/
theorem Fun.kb (F : Fun K x qual st f fd) (n : Nat) (ks : List Str) (π : Option (List Nat)) (h : ∀ (kV doc pm : Value) (an : Option Addr) (cdv ct : Value) (us ws : List Value), us.length = n → ws.length = ks.length →
    bindArgs (PySem.W.fnOf x qual (defArgs st) (defBody st) (defScope st) .none kV doc pm an cdv ct) ⟨us, ks.zip ws⟩ = pure (ps.zip (permO π (us ++ ws)))) : KBp K fd ps n ks π := by
  obtain ⟨oc, od, kV, doc, pm, an, cdv, ct, osl, rfl, lk, hcd⟩ := F.ex
  exact KBp.pure (h kV doc pm an cdv ct)
theorem FunC.kb (F : FunC K x qual st f fd c cc D) (n : Nat) (ks : List Str) (π : Option (List Nat)) (h : ∀ (kV doc pm : Value) (an : Option Addr) (ct : Value) (us ws : List Value), us.length = n → ws.length = ks.length →
    bindArgs (PySem.W.fnX x qual (defArgs st) (defBody st) (defScope st) [("__class__", cc)] .none kV doc pm an (.ref c) ct) ⟨us, ks.zip ws⟩ = pure (ps.zip (permO π (us ++ ws)))) : KBp K fd ps n ks π := by
  obtain ⟨oc, od, kV, doc, pm, an, ct, osl, rfl, lk, hcd⟩ := F.ex
  exact KBp.pure (h kV doc pm an ct)
end

/-! ### a field of an instance or of an exception -/
/-- which classes have the field -/
structure FldK (K : PySem.W.Frag) (G : CG) (cs es : List String) (f : Str) : Prop where
  ins : ∀ c ∈ cs, ∀ C, G c = some C → Cls K C ∧ NoAttr K C f
  exn : ∀ c ∈ es, ∀ C, G c = some C → ExnK K C ∧ PySem.W.findIn K (.ref C) f = some none
def kFld (cs es : List String) (f : Str) : D → Sto → Out D := fun d st => match d with
  | .exn c fs => if c ∈ es then (match fs.lookup f with | some x => .ok x st | none => .bad) else .bad
  | d => (match insOf d st with
    | some (c, fs) => if c ∈ cs then (match fs.lookup f with | some x => .ok x st | none => .bad) else .bad
    | none => .bad)
section
variable {X : Cx} {G : CG} {wx : WX} {o : Expr} {f : Str} {go : Den} {pos : Pos} {cs es : List String}
theorem de_get (h : DE X G wx o go) (T : FldK X.K G cs es f) (hb : attributeBase o f X.env (eval o X.env) = eval o X.env) : DE X G wx (.Attribute o f pos) (fun env st => (go env st).bind (kFld cs es f)) :=
  attrD h hb fun pins s σ W d v u st Q I A r rv p => by
    have insCase : (∀ c fs, d ≠ .exn c fs) → wpAny (model X.prog X.w) X.A (getAttr u f true) (EP X pins σ Q) X.xe s := fun hd => by
      have p' : Post X.K G W (fun cls dd H => wx cls dd σ H) (match insOf d st with
        | some (c, fs) => if c ∈ cs then (match fs.lookup f with | some x => .ok x st | none => .bad) else .bad
        | none => .bad) Q := by
        cases d with
        | exn c fs => exact absurd rfl (hd c fs)
        | _ => exact p
      cases hi : insOf d st with
      | none => rw [hi] at p'; exact False.elim p'
      | some cf =>
        obtain ⟨c, fs⟩ := cf
        rw [hi] at p'
        dsimp only at p'
        by_cases hc : c ∈ cs
        · rw [if_pos hc] at p'
          obtain ⟨a, C, dx, gs, rfl, gc, ha, rf⟩ := ins_of A r hi
          cases (show u = Value.ref a from rv)
          cases hl : fs.lookup f with
          | none => rw [hl] at p'; exact False.elim p'
          | some x =>
            rw [hl] at p'
            obtain ⟨y, h1, h2⟩ := rf.look hl
            obtain ⟨k1, k2⟩ := T.ins c hc C gc
            exact getattr_ok I ha k1 k2 h1 fun w s' I' rw' => ⟨y, W.H, I', rw', p' W y .rfl' A h2⟩
        · rw [if_neg hc] at p'
          exact False.elim p'
    cases d with
    | exn c fs =>
      clear insCase
      have p1 : Post X.K G W (fun cls dd H => wx cls dd σ H) (if c ∈ es then (match fs.lookup f with | some x => .ok x st | none => .bad) else .bad) Q := p
      by_cases hc : c ∈ es
      · rw [if_pos hc] at p1
        cases r with
        | @exn _ _ gs a C dx hf hd gc hr hx hs =>
          cases (show u = Value.ref a from rv)
          obtain ⟨TE, hno⟩ := T.exn c hc C gc
          cases hl : fs.lookup f with
          | none => rw [hl] at p1; exact False.elim p1
          | some x =>
            rw [hl] at p1
            obtain ⟨y, hy, ry⟩ := hs.look hl
            obtain ⟨t1, ho⟩ := exo_at I.hok hr
            obtain ⟨mA, hns, rel⟩ := exd_at I.hok hx
            obtain ⟨od, hod, hlk⟩ := lookIn_ns hns
            have rl := rel f
            rw [hy] at rl
            obtain ⟨w, hw, rw'⟩ := RelO.some_of rl
            have J : PySem.W.InstAt s.heap a { cls := .ref C, dict := some dx, data := .fields #[.ref t1, .none, .none, .none, .bool false, .none] } C (some od) := ⟨ho, rfl, rfl, hod⟩
            exact HandSPX.exc_get I.kIn J TE.ga TE.gg TE.sub (PySem.W.findObj_own TE.hd hno rfl (by rw [hlk, hw])) (handed_of rw') ⟨y, W.H, I.tok _, rw', p1 W y .rfl' A ry⟩
      · rw [if_neg hc] at p1
        exact False.elim p1
    | _ => exact insCase fun c fs z => nomatch z
theorem de_cls {x : Str} {c : String} {C : Addr} (hg : Gl X x) (hm : X.mg x = some (.ref C)) (hc : G c = some C) (hd : (x == ("__debug__" : Str)) = false := by decide) : DE X G wx (.Name x pos) (dC (.cls c)) := de_const (pe_glob hg hm (v := .ref C) rfl hd) fun _ => .cls hc
theorem de_ty {x : Str} {n : String} (hg : Gl X x) (hm : X.mg x = none) (hv : bootBuiltins x = some (.type n)) (hn : x ≠ "__name__" := by decide) (hd : (x == ("__debug__" : Str)) = false := by decide) : DE X G wx (.Name x pos) (dC (.ty n)) := de_const (pe_bltn hg hm hv (v := .ty n) rfl hn hd) fun _ => .ty n
end
end DL

set_option Elab.async false
set_option linter.all false
set_option maxRecDepth 100000
/-! # DPen: what the drawing pen's mirrors answer -/
namespace DL
open PySem PySem.Spec PyProof.Rows L2 StX NdefX
section
variable {env : DEnv} {st st1 st2 st3 : Sto} {a b : Den} {x y z : D} {f : F2} {i j : Int}
theorem bs_bin (ha : a env st = .ok x st1) (hb : b env st1 = .ok y st2) (hf : f x y st2 = .ok z st3) : dBin f a b env st = .ok z st3 := by
  unfold dBin
  rw [ha]
  show (b env st1).bind _ = _
  rw [hb]
  exact hf
theorem bs_int1 (ha : a env st = .ok (.int i) st1) : dCall fInt1 (dCons a dNil) env st = .ok (.int i) st1 := by
  unfold dCall dCons
  rw [ha]
  rfl
theorem bs_c {d : D} : dC d env st = .ok d st := rfl
theorem add_i : fAdd (.int i) (.int j) st = .ok (.int (i + j)) st := rfl
theorem sub_i : fSub (.int i) (.int j) st = .ok (.int (i - j)) st := rfl
theorem mul_i (h : small2 i j = true) : fMul (.int i) (.int j) st = .ok (.int (i * j)) st := by
  unfold fMul orF fInt
  dsimp only
  rw [if_pos h]
theorem mod_i (h : 0 < j) : fMod (.int i) (.int j) st = .ok (.int (i % j)) st := by
  unfold fMod fInt
  dsimp only
  rw [if_pos (decide_eq_true h)]
theorem div_i (h : 0 < j ∧ j < 1073741824) : fDiv (.int i) (.int j) st = .ok (.int (i / j)) st := by
  unfold fDiv fInt
  dsimp only
  rw [if_pos (decide_eq_true h)]
theorem pow_i (h : 0 ≤ j ∧ j ≤ 1000 ∧ i.natAbs < 18446744073709551616) : fPow (.int i) (.int j) st = .ok (.int (i ^ j.toNat)) st := by
  unfold fPow fInt
  dsimp only
  rw [if_pos (decide_eq_true h)]
theorem small_r (h : -18446744073709551616 < j ∧ j < 18446744073709551616) : small2 i j = true := by
  unfold small2
  rw [decide_eq_true h, Bool.or_true]
theorem ix0 {k : Nat} {s : Int} (h : st.m k = some (.lst [.int s])) : fIx (.ref k) (.int 0) st = .ok (.int s) st := by
  unfold fIx
  dsimp only
  rw [h]
  rfl
end
/-- the draw's body -/
def bDraw : DenS :=
  (sSeq (sIf (fun env st => toB (dBin fLt (dVar 1) (dC (.int 1)) env st)) (sSeq (sRet (dC (.int 0)))
    sNil) sNil)
    (sSeq (sAsg (dBin fMod (dCall fInt1 (dCons (dBin fAdd (dBin fMul (dBin fIx (dVar 0) (dC (.int 0))) (dC (.int 6364136223846793005))) (dC (.int 1442695040888963407))) dNil)) (dBin fPow (dC (.int 2)) (dC (.int 64)))) (gCell (dVar 0) (dC (.int 0))))
    (sSeq (sRet (dBin fMod (dCall fInt1 (dCons (dBin fDiv (dBin fIx (dVar 0) (dC (.int 0))) (dC (.int 65537))) dNil)) (dVar 1)))
    sNil)))
/-- the pen lies at 0 -/
def PenAt (st : Sto) : Prop := 1 ≤ st.n ∧ ∃ s : Int, st.m 0 = some (.lst [.int s])
theorem draw_law {st : Sto} {j : Int} (hj : 1 ≤ j) (h : PenAt st) : ∃ (i : Int) (st' : Sto), mk 2 2 bDraw [.ref 0, .int j] st = .ok (.int i) st' ∧ 0 ≤ i ∧ i < j ∧ PenAt st' := by
  obtain ⟨hn, s, hs⟩ := h
  have e1 : toB (dBin fLt (dVar 1) (dC (.int 1)) [some (.ref 0), some (.int j)] st) = .ok false st := by
    show Out.ok (decide (j < 1)) st = _
    rw [decide_eq_false (by omega)]
  have e2 : dBin fMod (dCall fInt1 (dCons (dBin fAdd (dBin fMul (dBin fIx (dVar 0) (dC (.int 0))) (dC (.int 6364136223846793005))) (dC (.int 1442695040888963407))) dNil)) (dBin fPow (dC (.int 2)) (dC (.int 64))) [some (.ref 0), some (.int j)] st = .ok (.int ((s * 6364136223846793005 + 1442695040888963407) % 2 ^ 64)) st :=
    bs_bin (bs_int1 (bs_bin (bs_bin (bs_bin rfl rfl (ix0 hs)) bs_c (mul_i (small_r (by decide)))) bs_c add_i)) (bs_bin bs_c bs_c (pow_i (by decide))) (mod_i (by decide))
  generalize (s * 6364136223846793005 + 1442695040888963407) % 2 ^ 64 = t at e2
  have e3 : gCell (dVar 0) (dC (.int 0)) (.int t) [some (.ref 0), some (.int j)] st = .ok [some (.ref 0), some (.int j)] (st.set 0 (.lst [.int t])) := by
    show (match st.m 0 with
      | some (.lst l) => (match ixN l.length 0 with | some j => Out.ok _ (st.set 0 (.lst (l.set j (.int t)))) | none => .bad)
      | _ => .bad) = _
    rw [hs]
    rfl
  have hm : (st.set 0 (.lst [.int t])).m 0 = some (.lst [.int t]) := rfl
  have e4 : dBin fMod (dCall fInt1 (dCons (dBin fDiv (dBin fIx (dVar 0) (dC (.int 0))) (dC (.int 65537))) dNil)) (dVar 1) [some (.ref 0), some (.int j)] (st.set 0 (.lst [.int t])) = .ok (.int (t / 65537 % j)) (st.set 0 (.lst [.int t])) :=
    bs_bin (bs_int1 (bs_bin (bs_bin rfl rfl (ix0 hm)) bs_c (div_i (by decide)))) rfl (mod_i (by omega))
  refine ⟨t / 65537 % j, st.set 0 (.lst [.int t]), ?_, Int.emod_nonneg _ (by omega), Int.emod_lt_of_pos _ (by omega), hn, t, hm⟩
  show runBody 2 bDraw [.ref 0, .int j] st = _
  unfold runBody bDraw
  show (match (((toB (dBin fLt (dVar 1) (dC (.int 1)) [some (.ref 0), some (.int j)] st)).go _ _).seq _ : SOut) with | .nx _ st1 => Out.ok D.non st1 | .rt d st1 => .ok d st1 | .exc c fs _ st1 => .exc c fs st1 | _ => .bad) = _
  rw [e1]
  show (match ((((dBin fMod _ _ [some (.ref 0), some (.int j)] st).go _ _ : SOut)).seq _ : SOut) with | .nx _ st1 => Out.ok D.non st1 | .rt d st1 => .ok d st1 | .exc c fs _ st1 => .exc c fs st1 | _ => .bad) = _
  rw [e2]
  show (match (((match gCell (dVar 0) (dC (.int 0)) (.int t) [some (.ref 0), some (.int j)] st with | .ok env1 st2 => .nx env1 st2 | _ => .bad : SOut)).seq _ : SOut) with | .nx _ st1 => Out.ok D.non st1 | .rt d st1 => .ok d st1 | .exc c fs _ st1 => .exc c fs st1 | _ => .bad) = _
  rw [e3]
  show (match ((((dBin fMod _ _ [some (.ref 0), some (.int j)] (st.set 0 (.lst [.int t]))).go _ _ : SOut)).seq _ : SOut) with | .nx _ st1 => Out.ok D.non st1 | .rt d st1 => .ok d st1 | .exc c fs _ st1 => .exc c fs st1 | _ => .bad) = _
  rw [e4]
  rfl
/-- the pen's body -/
def bPen (c : Int) : DenS :=
  (sSeq (sAsg (dC (.int c)) (gN 1))
    (sSeq (sFor (iSeq (dVar 0)) (gN 2) (sSeq (sAsg (dBin fMod (dCall fInt1 (dCons (dBin fAdd (dBin fAdd (dBin fMul (dVar 1) (dC (.int 1000003))) (dBin fMod (dCall fInt1 (dCons (dVar 2) dNil)) (dBin fPow (dC (.int 10)) (dC (.int 18))))) (dC (.int 9247))) dNil)) (dBin fSub (dBin fPow (dC (.int 2)) (dC (.int 61))) (dC (.int 1)))) (gN 1))
    sNil))
    (sSeq (sRet (dNew (dCons (dVar 1) dNil)))
    sNil)))
theorem pen_run {gb : DenS} (hb : ∀ (r : D) (s i : Int) (st : Sto), ∃ t : Int, gb [some r, some (.int s), some (.int i)] st = .nx [some r, some (.int t), some (.int i)] st) (r : D) (st : Sto) :
    ∀ (ns : List Int) (s : Int) (e : Option D), ∃ (t : Int) (e' : Option D), forRun (gN 2) gb (ns.map D.int) [some r, some (.int s), e] st = .nx [some r, some (.int t), e'] st
  | [], s, e => ⟨s, e, rfl⟩
  | i :: ns, s, e => by
    obtain ⟨t, ht⟩ := hb r s i st
    obtain ⟨u, e', hu⟩ := pen_run hb r st ns t (some (.int i))
    refine ⟨u, e', ?_⟩
    show (match gb [some r, some (.int s), some (.int i)] st with
      | .nx env2 st2 => forRun (gN 2) gb (ns.map D.int) env2 st2
      | .ct env2 st2 => forRun (gN 2) gb (ns.map D.int) env2 st2
      | .bk env2 st2 => .nx env2 st2
      | .bad => .bad
      | .rt d st2 => .rt d st2
      | .exc c fs env2 st2 => .exc c fs env2 st2 : SOut) = _
    rw [ht]
    exact hu
theorem pen_law {c : Int} (ns : List Int) : ∃ st', mk 1 3 (bPen c) [.rdl (ns.map D.int)] ⟨0, fun _ => none⟩ = .ok (.ref 0) st' ∧ PenAt st' := by
  obtain ⟨t, e', h⟩ := pen_run (gb := (sSeq (sAsg (dBin fMod (dCall fInt1 (dCons (dBin fAdd (dBin fAdd (dBin fMul (dVar 1) (dC (.int 1000003))) (dBin fMod (dCall fInt1 (dCons (dVar 2) dNil)) (dBin fPow (dC (.int 10)) (dC (.int 18))))) (dC (.int 9247))) dNil)) (dBin fSub (dBin fPow (dC (.int 2)) (dC (.int 61))) (dC (.int 1)))) (gN 1)) sNil)) (fun r s i st => by
    have e2 : dBin fMod (dCall fInt1 (dCons (dBin fAdd (dBin fAdd (dBin fMul (dVar 1) (dC (.int 1000003))) (dBin fMod (dCall fInt1 (dCons (dVar 2) dNil)) (dBin fPow (dC (.int 10)) (dC (.int 18))))) (dC (.int 9247))) dNil)) (dBin fSub (dBin fPow (dC (.int 2)) (dC (.int 61))) (dC (.int 1))) [some r, some (.int s), some (.int i)] st = .ok (.int ((s * 1000003 + i % 10 ^ 18 + 9247) % (2 ^ 61 - 1))) st :=
      bs_bin (bs_int1 (bs_bin (bs_bin (bs_bin rfl bs_c (mul_i (small_r (by decide)))) (bs_bin (bs_int1 rfl) (bs_bin bs_c bs_c (pow_i (by decide))) (mod_i (by decide))) add_i) bs_c add_i)) (bs_bin (bs_bin bs_c bs_c (pow_i (by decide))) bs_c sub_i) (mod_i (by decide))
    refine ⟨(s * 1000003 + i % 10 ^ 18 + 9247) % (2 ^ 61 - 1), ?_⟩
    unfold sSeq sAsg
    rw [e2]
    rfl) (.rdl (ns.map D.int)) ⟨0, fun _ => none⟩ ns c none
  refine ⟨(⟨0, fun _ => none⟩ : Sto).new (.lst [.int t]), ?_, Nat.le_refl _, t, rfl⟩
  show runBody 3 (bPen c) [.rdl (ns.map D.int)] ⟨0, fun _ => none⟩ = _
  unfold runBody bPen
  show (match ((forRun (gN 2) _ (ns.map D.int) [some (.rdl (ns.map D.int)), some (.int c), none] ⟨0, fun _ => none⟩).seq _ : SOut) with | .nx _ st1 => Out.ok D.non st1 | .rt d st1 => .ok d st1 | .exc c fs _ st1 => .exc c fs st1 | _ => .bad) = _
  rw [h]
  rfl
end DL

set_option Elab.async false
set_option linter.all false
set_option maxRecDepth 100000
set_option maxHeartbeats 1000000
/-! # DTxt: what the top has written, as tests that the kernel runs over the written part -/
namespace DL
open PySem PySem.Spec PyProof.Rows L2
abbrev yes (x : Option (Option Value)) (b : String) : Bool := decide (x = some (some (.builtin b)))
abbrev yesR (x : Option (Option Value)) (f : Addr) : Bool := decide (x = some (some (.ref f)))
abbrev nay (x : Option (Option Value)) : Bool := decide (x = some none)
abbrev tru (x : Option Bool) : Bool := decide (x = some true)
def insB (K : PySem.W.Frag) (C : Addr) : Bool := PySem.W.plainGet K C Str.empty && PySem.W.hasDictIn K C && PySem.W.plainOver K C && yes (PySem.W.findIn K (.ref C) "__setattr__") "object.__setattr__"
  && yes (PySem.W.findIn K (.ref C) "__class__") "object.__class__" && yes (PySem.W.specialIn K (.builtin "object.__class__") "__get__") "getset_descriptor.__get__" && tru (PySem.W.takesIn K (.builtin "object.__class__")) && tru (PySem.W.mroIn K C (.type "object"))
theorem insB_ok {K : PySem.W.Frag} {C : Addr} (h : insB K C = true) : InsK K C := by
  simp only [insB, Bool.and_eq_true, decide_eq_true_eq] at h
  obtain ⟨⟨⟨⟨⟨⟨⟨a, b⟩, c⟩, d⟩, e⟩, f⟩, g⟩, i⟩ := h
  exact ⟨⟨a, b, c, d⟩, e, f, g, i⟩
def exnB (K : PySem.W.Frag) (C : Addr) : Bool := (PySem.W.clsIn K C).isSome && yes (PySem.W.findIn K (.ref C) "__getattribute__") "BaseException.__getattribute__" && nay (PySem.W.findIn K (.ref C) "__getattr__")
  && tru (PySem.W.subIn K (.ref C) (.type "BaseException")) && PySem.W.hasDictIn K C && yes (PySem.W.findIn K (.ref C) "__class__") "object.__class__" && yes (PySem.W.specialIn K (.builtin "object.__class__") "__get__") "getset_descriptor.__get__"
  && tru (PySem.W.takesIn K (.builtin "object.__class__")) && tru (PySem.W.mroIn K C (.type "object"))
theorem exnB_ok {K : PySem.W.Frag} {C : Addr} (h : exnB K C = true) : ExnK K C := by
  simp only [exnB, Bool.and_eq_true, decide_eq_true_eq] at h
  obtain ⟨⟨⟨⟨⟨⟨⟨⟨a, b⟩, c⟩, d⟩, e⟩, f⟩, g⟩, i⟩, j⟩ := h
  exact ⟨a, b, c, d, e, f, g, i, j⟩
def nameB (x : Option Obj) (c : String) : Bool := match x with
  | some o => decide (o.cls = .type "type") && (match o.slots[2]? with | some (some (Value.str s _)) => decide (s = Str.ofString c) | _ => false)
  | none => false
def getB (x : Option PySem.W.CFound) (C : Addr) : Bool := match x with
  | some (.get a b c d) => decide (a = .builtin "getset_descriptor.__get__") && decide (b = .builtin "type.__name__") && decide (c = .ref C) && decide (d = .type "type")
  | _ => false
theorem getB_ok {x : Option PySem.W.CFound} {C : Addr} (h : getB x C = true) : x = some (.get (.builtin "getset_descriptor.__get__") (.builtin "type.__name__") (.ref C) (.type "type")) := by
  unfold getB at h
  split at h
  · simp only [Bool.and_eq_true, decide_eq_true_eq] at h
    obtain ⟨⟨⟨rfl, rfl⟩, rfl⟩, rfl⟩ := h
    rfl
  · cases h
def nmB (K : PySem.W.Frag) (C : Addr) (c : String) : Bool := PySem.W.readsIn K C (.type "type")
  && getB (PySem.W.findCls K (.ref C) (.type "type") "__name__") C && nameB (K.lookup C) c
theorem nmB_ok {K : PySem.W.Frag} {C : Addr} {c : String} (h : nmB K C c = true) : NmK K C c := by
  simp only [nmB, Bool.and_eq_true, decide_eq_true_eq] at h
  obtain ⟨⟨a, b⟩, d⟩ := h
  refine ⟨a, getB_ok b, ?_⟩
  unfold nameB at d
  split at d
  · rename_i o e
    rw [Bool.and_eq_true, decide_eq_true_eq] at d
    obtain ⟨d1, d2⟩ := d
    split at d2
    · rename_i s t e2
      have := of_decide_eq_true d2
      subst this
      exact ⟨o, t, e, d1, e2⟩
    · cases d2
  · cases d
def eqB (K : PySem.W.Frag) (C f : Addr) : Bool := insB K C && yesR (PySem.W.findIn K (.ref C) "__eq__") f && PySem.W.isFn K (.ref f) && yes (PySem.W.findIn K (.ref C) "__ne__") "object.__ne__"
theorem eqB_ok {K : PySem.W.Frag} {C f : Addr} (h : eqB K C f = true) : EqK K C f := by
  simp only [eqB, Bool.and_eq_true, decide_eq_true_eq] at h
  obtain ⟨⟨⟨a, b⟩, c⟩, d⟩ := h
  exact ⟨insB_ok a, b, c, d⟩
def mkB (K : PySem.W.Frag) (C f : Addr) : Bool := PySem.W.makesIn K C && yesR (PySem.W.findIn K (.ref C) "__init__") f && PySem.W.isFn K (.ref f) && PySem.W.keepIn K (.ref C)
theorem mkB_ok {K : PySem.W.Frag} {C f : Addr} (h : mkB K C f = true) : Mk K C f := by
  simp only [mkB, Bool.and_eq_true, decide_eq_true_eq] at h
  obtain ⟨⟨⟨a, b⟩, c⟩, d⟩ := h
  exact ⟨a, b, c, d⟩
def supMB (K : PySem.W.Frag) (C D g : Addr) : Bool := tru (PySem.W.mroIn K C (.ref D)) && yesR (PySem.W.ks_superIn K C D "__init__") g && decide (PySem.W.typeIn K (.ref g) = some (.type "function")) && PySem.W.fnIn K g
theorem supMB_ok {K : PySem.W.Frag} {C D g : Addr} (h : supMB K C D g = true) : SupM K C D g := by
  simp only [supMB, Bool.and_eq_true, decide_eq_true_eq] at h
  obtain ⟨⟨⟨a, b⟩, c⟩, d⟩ := h
  exact ⟨a, b, c, d⟩
def supEB (K : PySem.W.Frag) (C D : Addr) : Bool := tru (PySem.W.mroIn K C (.ref D)) && yes (PySem.W.ks_superIn K C D "__init__") "ValueError.__init__" && tru (PySem.W.subIn K (.ref C) (.type "ValueError"))
  && yes (PySem.W.findIn K (.ref C) "__setattr__") "object.__setattr__" && tru (PySem.W.subIn K (.ref C) (.type "BaseException")) && decide (PySem.W.typeIn K (.ref C) = some (.type "type")) && PySem.W.keepIn K (.ref C)
/-- the class object of an own exception -/
def ExcObj (K : PySem.W.Frag) (C : Addr) : Prop := ∃ nm q N bs bm sn sub ab col dd k0 k1 k2 k3 k5, K.lookup C = some (excClassObj nm q C N bs bm true sn sub ab col dd k0 k1 k2 k3 k5 "ValueError.__new__") ∧ PySem.HandSPX.refsVE bm = true
theorem exc_obj {K : PySem.W.Frag} {C : Addr} {nm q N bs bm sn sub ab col dd k0 k1 k2 k3 k5} (l : K.lookup C = some (excClassObj nm q C N bs bm true sn sub ab col dd k0 k1 k2 k3 k5 "ValueError.__new__")) (r : PySem.HandSPX.refsVE bm = true) : ExcObj K C := ⟨nm, q, N, bs, bm, sn, sub, ab, col, dd, k0, k1, k2, k3, k5, l, r⟩
theorem supEB_ok {K : PySem.W.Frag} {C D : Addr} (o : ExcObj K C) (h : supEB K C D = true) : SupE K C D := by
  simp only [supEB, Bool.and_eq_true, decide_eq_true_eq] at h
  obtain ⟨⟨⟨⟨⟨⟨a, b⟩, c⟩, d⟩, e⟩, f⟩, g⟩ := h
  exact ⟨a, b, c, ⟨o, d, e, f, g⟩⟩
def fileB (P : Program) (x : Option Obj) : Bool := match x with
  | some ⟨_, _, .fields vs, _⟩ => (match vs[2]? with | some (Value.str file _) => (P.main.file : Str) == file | _ => false)
  | _ => false
def skB (P : Program) (K : PySem.W.Frag) (c D : Addr) : Bool := fileB P (K.lookup c) && !(P.main.scope.names.lookup ("super" : Str)).isSome && (PySem.W.clsIn K D).isSome && nay (PySem.W.nsIn K cStatics "thirdparty.any")
theorem skB_ok {P : Program} {K : PySem.W.Frag} {mg : Str → Option Value} {c D : Addr} (m : mg "super" = none) (h : skB P K c D = true) : SupK P K mg c D := by
  simp only [skB, Bool.and_eq_true, decide_eq_true_eq, Bool.not_eq_true'] at h
  obtain ⟨⟨⟨a, b⟩, d⟩, e⟩ := h
  refine ⟨?_, b, m, ?_, e⟩
  · unfold fileB at a
    split at a
    · rename_i a0 b0 vs d0 e0
      split at a
      · rename_i fl tf e1
        exact ⟨a0, b0, d0, vs, fl, tf, e0, e1, a⟩
      · cases a
    · cases a
  · cases q : PySem.W.clsIn K D with
    | some cd => exact ⟨cd, rfl⟩
    | none => rw [q] at d; cases d
/-- a test of each class of a list -/
def eachB (G : CG) (cs : List String) (t : String → Addr → Bool) : Bool := cs.all fun c => match G c with | some C => t c C | none => true
theorem eachB_ok {G : CG} {cs : List String} {t : String → Addr → Bool} (h : eachB G cs t = true) : ∀ c ∈ cs, ∀ C, G c = some C → t c C = true := fun c hc C e => by
  have := List.all_eq_true.mp h c hc
  simp only [e] at this
  exact this
def knownB (K : PySem.W.Frag) (G : CG) (N : Known) : Bool := eachB G N.ins (fun _ C => insB K C) && eachB G N.exn fun _ C => exnB K C
theorem knownB_ok {K : PySem.W.Frag} {G : CG} {N : Known} (h : knownB K G N = true) : KnownK K G N := by
  rw [knownB, Bool.and_eq_true] at h
  exact ⟨fun c hc C e => insB_ok (eachB_ok h.1 c hc C e), fun c hc C e => exnB_ok (eachB_ok h.2 c hc C e)⟩
def fldB (K : PySem.W.Frag) (G : CG) (cs es : List String) (f : Str) : Bool := eachB G cs (fun _ C => nay (PySem.W.findIn K (.ref C) f)) && eachB G es fun _ C => nay (PySem.W.findIn K (.ref C) f)
theorem fldB_ok {K : PySem.W.Frag} {G : CG} {N : Known} {cs es : List String} {f : Str} (k : KnownK K G N) (h1 : ∀ c ∈ cs, c ∈ N.ins) (h2 : ∀ c ∈ es, c ∈ N.exn) (h : fldB K G cs es f = true) : FldK K G cs es f := by
  rw [fldB, Bool.and_eq_true] at h
  exact ⟨fun c hc C e => ⟨(k.ins c (h1 c hc) C e).cl, (show PySem.W.findIn K (.ref C) f = some none from of_decide_eq_true (eachB_ok h.1 c hc C e))⟩, fun c hc C e => ⟨k.exn c (h2 c hc) C e, of_decide_eq_true (eachB_ok h.2 c hc C e)⟩⟩
theorem fld_st {K : PySem.W.Frag} {G : CG} {N : Known} {cs : List String} {f : Str} (k : KnownK K G N) (h1 : ∀ c ∈ cs, c ∈ N.ins) (h : fldB K G cs [] f = true) : ∀ c ∈ cs, ∀ C, G c = some C → Cls K C ∧ NoAttr K C f := (fldB_ok (es := []) k h1 (fun _ z => nomatch z) h).ins
/-- the class that a kind names -/
def tvOf (G : CG) : TK → Option Value
  | .own c => (G c).map .ref
  | .bt n => some (.type n)
theorem tvOf_ok {G : CG} {k : TK} {u : Value} (h : TyN G k u) : tvOf G k = some u := by
  cases h with
  | own e => simp [tvOf, e]
  | bt n => rfl
def pairB (G : CG) (f : TK → TK → Option Bool) (g : Value → Value → Option Bool) (ks ts : List TK) : Bool := ks.all fun k => ts.all fun t => match f k t, tvOf G k, tvOf G t with
  | some b, some u, some w => decide (g u w = some b)
  | _, _, _ => true
theorem pairB_ok {G : CG} {f : TK → TK → Option Bool} {g : Value → Value → Option Bool} {ks ts : List TK} (h : pairB G f g ks ts = true) {k t : TK} (hk : k ∈ ks) (ht : t ∈ ts) {b : Bool} (e : f k t = some b) {u w : Value} (hu : TyN G k u) (hw : TyN G t w) : g u w = some b := by
  have := List.all_eq_true.mp (List.all_eq_true.mp h k hk) t ht
  simp only [e, tvOf_ok hu, tvOf_ok hw] at this
  exact of_decide_eq_true this
theorem isB_ok {K : PySem.W.Frag} {G : CG} {IS : TK → TK → Option Bool} (ks ts : List TK) (hi : ∀ k t b, IS k t = some b → k ∈ ks ∧ t ∈ ts) (h : pairB G IS (PySem.W.kitOne K) ks ts = true) : IsOk K G IS := fun k t b e u w hu hw =>
  pairB_ok h (hi k t b e).1 (hi k t b e).2 e hu hw
theorem sbB_ok {K : PySem.W.Frag} {G : CG} {SB : TK → String → Option Bool} (ks : List TK) (cs : List String) (hi : ∀ k c b, SB k c = some b → k ∈ ks ∧ c ∈ cs)
    (h : pairB G (fun k t => match t with | .own c => SB k c | _ => none) (PySem.W.subIn K) ks (cs.map .own) = true) : SubOk K G SB := fun k c b e u C hu hC =>
  pairB_ok (t := .own c) h (hi k c b e).1 (List.mem_map.mpr ⟨c, (hi k c b e).2, rfl⟩) e hu (.own hC)
theorem inj_of {l : List (String × Addr)} (h : (l.map (·.2)).Nodup) {c c2 : String} {C : Addr} (e : l.lookup c = some C) (e2 : l.lookup c2 = some C) : c = c2 := by
  induction l with
  | nil => cases e
  | cons p l ih =>
    obtain ⟨n, x⟩ := p
    have mem : ∀ {d : String} {l : List (String × Addr)}, l.lookup d = some C → C ∈ l.map (·.2) := fun {d l} e => by
      induction l with
      | nil => cases e
      | cons q l ih =>
        obtain ⟨m, y⟩ := q
        rw [List.lookup_cons] at e
        split at e
        · cases e; exact .head _
        · exact .tail _ (ih e)
    rw [List.map_cons, List.nodup_cons] at h
    rw [List.lookup_cons] at e e2
    split at e
    · rename_i b1
      split at e2
      · rename_i b2
        exact (beq_iff_eq.mp b1).trans (beq_iff_eq.mp b2).symm
      · cases e
        exact absurd (mem e2) h.1
    · split at e2
      · cases e2
        exact absurd (mem e) h.1
      · exact ih h.2 e e2
def noneB (K : PySem.W.Frag) (ns : List String) : Bool := ns.all fun n => nay (PySem.W.nsIn K mainGlobals (Str.ofString n))
theorem noneB_ok {K : PySem.W.Frag} {h : Heap} {mg : Str → Option Value} {ns : List String} (X : K.In h) (G : h.Ns mainGlobals mg) (b : noneB K ns = true) (n : String) (hn : n ∈ ns) : mg (Str.ofString n) = none :=
  PySem.W.mg_none_of X G (of_decide_eq_true (List.all_eq_true.mp b n hn))
theorem func_mk {K : PySem.W.Frag} {x qual : Str} {st : Stmt} {f c cc D : Addr} {oc : Value} {od an : Option Addr} {osl : Array (Option Value)} {kV doc pm ct : Value} {a b d}
    (l : K.lookup f = some ⟨oc, od, .func (PySem.W.fnX x qual (defArgs st) (defBody st) (defScope st) [("__class__", cc)] .none kV doc pm an (.ref c) ct), osl⟩) (h : PySem.W.codeIn K (.ref c) qual = true)
    (xx : K.lookup cc = some ⟨a, b, .cell (some (.ref D)), d⟩) : ∃ fd, FunC K x qual st f fd c cc D := ⟨_, ⟨_, _, _, _, _, _, _, _, rfl, l, h⟩, ⟨_, _, _, xx⟩⟩
end DL

set_option Elab.async false
set_option linter.all false
set_option maxRecDepth 100000
set_option maxHeartbeats 8000000
namespace K02
open PySem PySem.Spec PyProof.Rows L2 StX NdefX DL
def top (i : Nat) : Stmt := PySem.Challenge.pw_freedbyhand_k02_errors_and_papers.main.body.getD i (.Pass ⟨0, 0, 0, 0⟩)
/-- where the text's defs and classes stand -/
structure Ad where
  (fixed are_alike pen draw pick kinds law : Addr)
  (FreedError BadValue BadNumber BadCode BadFrees BadText BadBytes Misfit Nothing TooMany Paper Denial Clean Fault : Addr)
  (iBadValue iBadNumber iBadCode iBadFrees iBadText iBadBytes iMisfit iNothing iTooMany iPaper bPaper ePaper bDenial iClean iFault : Addr)
  (cBadValue cBadNumber cBadCode cBadFrees cBadText cBadBytes cMisfit cNothing cTooMany cClean cFault : Addr)
  (xBadValue xBadNumber xBadCode xBadFrees xBadText xBadBytes xMisfit xNothing xTooMany xClean xFault : Addr)
def GL (a : Ad) : List (String × Addr) := [("FreedError", a.FreedError), ("BadValue", a.BadValue), ("BadNumber", a.BadNumber), ("BadCode", a.BadCode), ("BadFrees", a.BadFrees), ("BadText", a.BadText), ("BadBytes", a.BadBytes), ("Misfit", a.Misfit),
  ("Nothing", a.Nothing), ("TooMany", a.TooMany), ("Paper", a.Paper), ("Denial", a.Denial), ("Clean", a.Clean), ("Fault", a.Fault)]
def GG (a : Ad) : CG := fun n => (GL a).lookup n
def EC : List String := ["Paper", "Denial", "Clean", "Fault"]
def XC : List String := ["BadValue", "BadNumber", "BadCode", "BadFrees", "BadText", "BadBytes", "Misfit", "Nothing", "TooMany"]
def KN : Known := ⟨EC, XC⟩
/-- what lies above a class -/
def anc : TK → Option (List TK)
  | .own c => if c ∈ XC then some [.own c, .own "FreedError", .bt "ValueError", .bt "Exception", .bt "BaseException", .bt "object"] else
    if c = "Paper" then some [.own "Paper", .bt "object"] else if c = "Denial" then some [.own "Denial", .own "Paper", .bt "object"] else
    if c = "Clean" then some [.own "Clean", .own "Paper", .bt "object"] else if c = "Fault" then some [.own "Fault", .own "Denial", .own "Paper", .bt "object"] else none
  | .bt n => if n = "NoneType" ∨ n = "int" ∨ n = "str" ∨ n = "tuple" ∨ n = "list" ∨ n = "dict" then some [.bt n, .bt "object"] else if n = "bool" then some [.bt "bool", .bt "int", .bt "object"] else none
def tgts : List TK := [.own "FreedError", .own "BadValue", .own "BadNumber", .own "BadCode", .own "BadFrees", .own "BadText", .own "BadBytes", .own "Misfit", .own "Nothing", .own "TooMany", .own "Paper", .bt "ValueError", .bt "list", .bt "tuple", .bt "bool"]
def IS (k t : TK) : Option Bool := if t ∈ tgts then (anc k).map (·.contains t) else none
def SB (k : TK) (c : String) : Option Bool := if c ∈ EC then (anc k).map (·.contains (.own c)) else none
abbrev s_fixed : Stmt := top 12
abbrev s_are_alike : Stmt := top 13
abbrev s_pen : Stmt := top 20
abbrev s_draw : Stmt := top 21
abbrev s_pick : Stmt := top 22
abbrev s_kinds : Stmt := top 23
abbrev s_law : Stmt := top 24
abbrev s_Paper_i : Stmt := inClass (top 14) 0
abbrev s_Paper_b : Stmt := inClass (top 14) 1
abbrev s_Paper_e : Stmt := inClass (top 14) 2
abbrev s_Denial_b : Stmt := inClass (top 15) 0
abbrev s_Clean_i : Stmt := inClass (top 17) 0
abbrev s_Fault_i : Stmt := inClass (top 18) 0
abbrev s_BadValue_i : Stmt := inClass (top 2) 0
abbrev s_BadNumber_i : Stmt := inClass (top 3) 0
abbrev s_BadCode_i : Stmt := inClass (top 4) 0
abbrev s_BadFrees_i : Stmt := inClass (top 5) 0
abbrev s_BadText_i : Stmt := inClass (top 6) 0
abbrev s_BadBytes_i : Stmt := inClass (top 7) 0
abbrev s_Misfit_i : Stmt := inClass (top 8) 0
abbrev s_Nothing_i : Stmt := inClass (top 9) 0
abbrev s_TooMany_i : Stmt := inClass (top 10) 0
def CI_word : List String := ["Paper", "Denial", "Clean", "Fault"]
def CE_word : List String := ["BadText", "Nothing"]
def CI_parts : List String := ["Paper", "Denial", "Clean", "Fault"]
def CE_parts : List String := []
def CI_rows : List String := ["Clean"]
def CE_rows : List String := []
def CI_what : List String := ["Fault"]
def CE_what : List String := ["TooMany"]
def CI_inputs : List String := ["Fault"]
def CE_inputs : List String := []
def CI_full : List String := ["Fault"]
def CE_full : List String := []
def CI_part : List String := []
def CE_part : List String := ["BadValue", "BadNumber", "Misfit"]
def CI_at : List String := []
def CE_at : List String := ["BadCode", "BadFrees", "BadBytes"]
def CI_line : List String := []
def CE_line : List String := ["BadText"]
def CI_most : List String := []
def CE_most : List String := ["TooMany"]
structure Txt (P : Program) (w : World) (K : PySem.W.Frag) (mg : Str → Option Value) (a : Ad) : Prop where
  n_isinstance : mg "isinstance" = none
  n_list : mg "list" = none
  n_tuple : mg "tuple" = none
  n_bool : mg "bool" = none
  n_len : mg "len" = none
  n_int : mg "int" = none
  n_all : mg "all" = none
  n_zip : mg "zip" = none
  n_range : mg "range" = none
  n_enumerate : mg "enumerate" = none
  n_repr : mg "repr" = none
  n_ValueError : mg "ValueError" = none
  g_fixed : mg "fixed" = some (.ref a.fixed)
  k_fixed : PySem.W.keepIn K (.ref a.fixed) = true
  F_fixed : ∃ fd, Fun K "fixed" "fixed" s_fixed a.fixed fd
  g_are_alike : mg "are_alike" = some (.ref a.are_alike)
  k_are_alike : PySem.W.keepIn K (.ref a.are_alike) = true
  F_are_alike : ∃ fd, Fun K "are_alike" "are_alike" s_are_alike a.are_alike fd
  g__law_pen : mg "_law_pen" = some (.ref a.pen)
  k__law_pen : PySem.W.keepIn K (.ref a.pen) = true
  F_pen : ∃ fd, Fun K "_law_pen" "_law_pen" s_pen a.pen fd
  g__law_draw : mg "_law_draw" = some (.ref a.draw)
  k__law_draw : PySem.W.keepIn K (.ref a.draw) = true
  F_draw : ∃ fd, Fun K "_law_draw" "_law_draw" s_draw a.draw fd
  g__law_pick : mg "_law_pick" = some (.ref a.pick)
  k__law_pick : PySem.W.keepIn K (.ref a.pick) = true
  F_pick : ∃ fd, Fun K "_law_pick" "_law_pick" s_pick a.pick fd
  g__law_kinds_of : mg "_law_kinds_of" = some (.ref a.kinds)
  k__law_kinds_of : PySem.W.keepIn K (.ref a.kinds) = true
  F_kinds : ∃ fd, Fun K "_law_kinds_of" "_law_kinds_of" s_kinds a.kinds fd
  hN : KnownK K (GG a) KN
  hI : IsOk K (GG a) IS
  g_FreedError : mg "FreedError" = some (.ref a.FreedError)
  n_bool1 : True
  g_BadValue : mg "BadValue" = some (.ref a.BadValue)
  g_BadNumber : mg "BadNumber" = some (.ref a.BadNumber)
  g_BadCode : mg "BadCode" = some (.ref a.BadCode)
  g_BadFrees : mg "BadFrees" = some (.ref a.BadFrees)
  g_BadText : mg "BadText" = some (.ref a.BadText)
  g_BadBytes : mg "BadBytes" = some (.ref a.BadBytes)
  g_Misfit : mg "Misfit" = some (.ref a.Misfit)
  g_Nothing : mg "Nothing" = some (.ref a.Nothing)
  g_TooMany : mg "TooMany" = some (.ref a.TooMany)
  g_Paper : mg "Paper" = some (.ref a.Paper)
  g_Denial : mg "Denial" = some (.ref a.Denial)
  g_Clean : mg "Clean" = some (.ref a.Clean)
  g_Fault : mg "Fault" = some (.ref a.Fault)
  se_BadValue : SupE K a.BadValue a.BadValue
  nf_BadValue : ∀ f ∈ (["part"] : List Str), PySem.W.findIn K (.ref a.BadValue) f = some none
  i_BadValue : PySem.W.findIn K (.ref a.BadValue) "__init__" = some (some (.ref a.iBadValue))
  ti_BadValue : PySem.W.typeIn K (.ref a.iBadValue) = some (.type "function")
  F_BadValue : ∃ fd, FunC K "__init__" "BadValue.__init__" s_BadValue_i a.iBadValue fd a.cBadValue a.xBadValue a.BadValue
  sk_BadValue : SupK P K mg a.cBadValue a.BadValue
  se_BadNumber : SupE K a.BadNumber a.BadNumber
  nf_BadNumber : ∀ f ∈ (["part"] : List Str), PySem.W.findIn K (.ref a.BadNumber) f = some none
  i_BadNumber : PySem.W.findIn K (.ref a.BadNumber) "__init__" = some (some (.ref a.iBadNumber))
  ti_BadNumber : PySem.W.typeIn K (.ref a.iBadNumber) = some (.type "function")
  F_BadNumber : ∃ fd, FunC K "__init__" "BadNumber.__init__" s_BadNumber_i a.iBadNumber fd a.cBadNumber a.xBadNumber a.BadNumber
  sk_BadNumber : SupK P K mg a.cBadNumber a.BadNumber
  se_BadCode : SupE K a.BadCode a.BadCode
  nf_BadCode : ∀ f ∈ (["at"] : List Str), PySem.W.findIn K (.ref a.BadCode) f = some none
  i_BadCode : PySem.W.findIn K (.ref a.BadCode) "__init__" = some (some (.ref a.iBadCode))
  ti_BadCode : PySem.W.typeIn K (.ref a.iBadCode) = some (.type "function")
  F_BadCode : ∃ fd, FunC K "__init__" "BadCode.__init__" s_BadCode_i a.iBadCode fd a.cBadCode a.xBadCode a.BadCode
  sk_BadCode : SupK P K mg a.cBadCode a.BadCode
  se_BadFrees : SupE K a.BadFrees a.BadFrees
  nf_BadFrees : ∀ f ∈ (["at"] : List Str), PySem.W.findIn K (.ref a.BadFrees) f = some none
  i_BadFrees : PySem.W.findIn K (.ref a.BadFrees) "__init__" = some (some (.ref a.iBadFrees))
  ti_BadFrees : PySem.W.typeIn K (.ref a.iBadFrees) = some (.type "function")
  F_BadFrees : ∃ fd, FunC K "__init__" "BadFrees.__init__" s_BadFrees_i a.iBadFrees fd a.cBadFrees a.xBadFrees a.BadFrees
  sk_BadFrees : SupK P K mg a.cBadFrees a.BadFrees
  se_BadText : SupE K a.BadText a.BadText
  nf_BadText : ∀ f ∈ (["line", "word"] : List Str), PySem.W.findIn K (.ref a.BadText) f = some none
  i_BadText : PySem.W.findIn K (.ref a.BadText) "__init__" = some (some (.ref a.iBadText))
  ti_BadText : PySem.W.typeIn K (.ref a.iBadText) = some (.type "function")
  F_BadText : ∃ fd, FunC K "__init__" "BadText.__init__" s_BadText_i a.iBadText fd a.cBadText a.xBadText a.BadText
  sk_BadText : SupK P K mg a.cBadText a.BadText
  se_BadBytes : SupE K a.BadBytes a.BadBytes
  nf_BadBytes : ∀ f ∈ (["at"] : List Str), PySem.W.findIn K (.ref a.BadBytes) f = some none
  i_BadBytes : PySem.W.findIn K (.ref a.BadBytes) "__init__" = some (some (.ref a.iBadBytes))
  ti_BadBytes : PySem.W.typeIn K (.ref a.iBadBytes) = some (.type "function")
  F_BadBytes : ∃ fd, FunC K "__init__" "BadBytes.__init__" s_BadBytes_i a.iBadBytes fd a.cBadBytes a.xBadBytes a.BadBytes
  sk_BadBytes : SupK P K mg a.cBadBytes a.BadBytes
  se_Misfit : SupE K a.Misfit a.Misfit
  nf_Misfit : ∀ f ∈ (["part"] : List Str), PySem.W.findIn K (.ref a.Misfit) f = some none
  i_Misfit : PySem.W.findIn K (.ref a.Misfit) "__init__" = some (some (.ref a.iMisfit))
  ti_Misfit : PySem.W.typeIn K (.ref a.iMisfit) = some (.type "function")
  F_Misfit : ∃ fd, FunC K "__init__" "Misfit.__init__" s_Misfit_i a.iMisfit fd a.cMisfit a.xMisfit a.Misfit
  sk_Misfit : SupK P K mg a.cMisfit a.Misfit
  se_Nothing : SupE K a.Nothing a.Nothing
  nf_Nothing : ∀ f ∈ (["word"] : List Str), PySem.W.findIn K (.ref a.Nothing) f = some none
  i_Nothing : PySem.W.findIn K (.ref a.Nothing) "__init__" = some (some (.ref a.iNothing))
  ti_Nothing : PySem.W.typeIn K (.ref a.iNothing) = some (.type "function")
  F_Nothing : ∃ fd, FunC K "__init__" "Nothing.__init__" s_Nothing_i a.iNothing fd a.cNothing a.xNothing a.Nothing
  sk_Nothing : SupK P K mg a.cNothing a.Nothing
  se_TooMany : SupE K a.TooMany a.TooMany
  nf_TooMany : ∀ f ∈ (["what", "most"] : List Str), PySem.W.findIn K (.ref a.TooMany) f = some none
  i_TooMany : PySem.W.findIn K (.ref a.TooMany) "__init__" = some (some (.ref a.iTooMany))
  ti_TooMany : PySem.W.typeIn K (.ref a.iTooMany) = some (.type "function")
  F_TooMany : ∃ fd, FunC K "__init__" "TooMany.__init__" s_TooMany_i a.iTooMany fd a.cTooMany a.xTooMany a.TooMany
  sk_TooMany : SupK P K mg a.cTooMany a.TooMany
  mk_Paper : Mk K a.Paper a.iPaper
  mk_Denial : Mk K a.Denial a.iPaper
  mk_Clean : Mk K a.Clean a.iClean
  mk_Fault : Mk K a.Fault a.iFault
  F_Paper_i : ∃ fd, Fun K "__init__" "Paper.__init__" s_Paper_i a.iPaper fd
  F_Paper_b : ∃ fd, Fun K "__bool__" "Paper.__bool__" s_Paper_b a.bPaper fd
  F_Paper_e : ∃ fd, Fun K "__eq__" "Paper.__eq__" s_Paper_e a.ePaper fd
  F_Denial_b : ∃ fd, Fun K "__bool__" "Denial.__bool__" s_Denial_b a.bDenial fd
  F_Clean : ∃ fd, FunC K "__init__" "Clean.__init__" s_Clean_i a.iClean fd a.cClean a.xClean a.Clean
  sk_Clean : SupK P K mg a.cClean a.Clean
  sm_Clean : SupM K a.Clean a.Clean a.iPaper
  F_Fault : ∃ fd, FunC K "__init__" "Fault.__init__" s_Fault_i a.iFault fd a.cFault a.xFault a.Fault
  sk_Fault : SupK P K mg a.cFault a.Fault
  sm_Fault : SupM K a.Fault a.Fault a.iPaper
  insE : ∀ c ∈ EC, ∀ C, GG a c = some C → InsK K C
  nmE : ∀ c ∈ EC, ∀ C, GG a c = some C → NmK K C c
  eqE : ∀ c ∈ EC, ∀ C, GG a c = some C → EqK K C a.ePaper
  inj : ∀ c c2 C, GG a c = some C → GG a c2 = some C → c = c2
  hS : SubOk K (GG a) SB
  bP : ∀ c, c = "Paper" ∨ c = "Clean" → ∀ C, GG a c = some C → PySem.W.findIn K (.ref C) "__bool__" = some (some (.ref a.bPaper)) ∧ PySem.W.isFn K (.ref a.bPaper) = true
  bD : ∀ c, c = "Denial" ∨ c = "Fault" → ∀ C, GG a c = some C → PySem.W.findIn K (.ref C) "__bool__" = some (some (.ref a.bDenial)) ∧ PySem.W.isFn K (.ref a.bDenial) = true
  st_word : ∀ c ∈ EC, ∀ C, GG a c = some C → Cls K C ∧ NoAttr K C "word"
  st_parts : ∀ c ∈ EC, ∀ C, GG a c = some C → Cls K C ∧ NoAttr K C "parts"
  st_rows : ∀ c ∈ EC, ∀ C, GG a c = some C → Cls K C ∧ NoAttr K C "rows"
  st_what : ∀ c ∈ EC, ∀ C, GG a c = some C → Cls K C ∧ NoAttr K C "what"
  st_inputs : ∀ c ∈ EC, ∀ C, GG a c = some C → Cls K C ∧ NoAttr K C "inputs"
  st_full : ∀ c ∈ EC, ∀ C, GG a c = some C → Cls K C ∧ NoAttr K C "full"
  fld_word : FldK K (GG a) CI_word CE_word "word"
  fld_parts : FldK K (GG a) CI_parts CE_parts "parts"
  fld_rows : FldK K (GG a) CI_rows CE_rows "rows"
  fld_what : FldK K (GG a) CI_what CE_what "what"
  fld_inputs : FldK K (GG a) CI_inputs CE_inputs "inputs"
  fld_full : FldK K (GG a) CI_full CE_full "full"
  fld_part : FldK K (GG a) CI_part CE_part "part"
  fld_at : FldK K (GG a) CI_at CE_at "at"
  fld_line : FldK K (GG a) CI_line CE_line "line"
  fld_most : FldK K (GG a) CI_most CE_most "most"
def bo0 : String → Option (List D → Sto → Out D) := fun _ => none
theorem bo0_ok {X : Cx} {G : CG} : BoOk X G 0 bo0 := fun c fb h => by cases h
theorem u64 {k : Nat} {A : Around} (r : Room k A) : A.units + 64 < cLine := by have := r.un; omega

abbrev N_pen : List Str := ["script", "seed", "cell"]
theorem sc_pen : FnScope ["script", "seed", "cell"] ["script"] (defScope s_pen) := ⟨rfl, rfl, rfl, by decide +kernel, rfl, by decide +kernel, by decide +kernel⟩
def g_pen : DenS :=
  (sSeq (sAsg (dC (.int 71655)) (gN 1))
    (sSeq (sFor (iSeq (dVar 0)) (gN 2) (sSeq (sAsg (dBin fMod (dCall fInt1 (dCons (dBin fAdd (dBin fAdd (dBin fMul (dVar 1) (dC (.int 1000003))) (dBin fMod (dCall fInt1 (dCons (dVar 2) dNil)) (dBin fPow (dC (.int 10)) (dC (.int 18))))) (dC (.int 9247))) dNil)) (dBin fSub (dBin fPow (dC (.int 2)) (dC (.int 61))) (dC (.int 1)))) (gN 1))
    sNil))
    (sSeq (sRet (dNew (dCons (dVar 1) dNil)))
    sNil)))
def m_pen : List D → Sto → Out D := mk 1 3 g_pen
theorem ok_pen {P : Program} {w : World} {K : PySem.W.Frag} {mg : Str → Option Value} {base : Heap} {a : Ad} (T : Txt P w K mg a) : FnB P w K mg base (L2.CX P w) 1 a.pen 1 [] (spD K (GG a) m_pen) := by
  obtain ⟨fd, F⟩ := T.F_pen
  refine FnOk.toD (π := none) (fn_m (k := 0) (g := g_pen) F sc_pen (by decide) fun cdv A outer s H E hr => ?_) (Fun.kb F 1 [] none fun _ _ _ _ _ _ us ws l1 l2 => match us, ws, l1, l2 with | [_], [], _, _ => rfl)
  exact     (ds_cons (ds_asg de_int (dg_name (pg_name (i := 1) sc_pen.nd rfl (.inl rfl))))
    (ds_cons (ds_for passes_cx rfl (di_seq (de_var (pv 0))) (dg_name (pg_name (i := 2) sc_pen.nd rfl (.inl rfl))) (ds_cons (ds_asg (de_op o_mod nox_int (de_callTy c_int nox_int1 (by rfl) T.n_int (by decide +kernel) (da_cons (de_op o_add nx_add (de_op o_add nx_add (de_op o_mul nx_mul (de_var (pv 1)) de_int) (de_op o_mod nox_int (de_callTy c_int nox_int1 (by rfl) T.n_int (by decide +kernel) (da_cons (de_var (pv 2)) da_nil)) (de_op o_pow nox_int de_int de_int))) de_int) da_nil)) (de_op o_sub nox_int (de_op o_pow nox_int de_int de_int) de_int)) (dg_name (pg_name (i := 1) sc_pen.nd rfl (.inl rfl))))
    ds_nil) (fun a b c => ps_for passes_cx rfl a b c))
    (ds_cons (ds_ret (de_new (da_cons (de_var (pv 1)) da_nil)))
    ds_nil)))

abbrev N_draw : List Str := ["pen", "many"]
theorem sc_draw : FnScope ["pen", "many"] ["pen", "many"] (defScope s_draw) := ⟨rfl, rfl, rfl, by decide +kernel, rfl, by decide +kernel, by decide +kernel⟩
def g_draw : DenS :=
  (sSeq (sIf (fun env st => toB (dBin fLt (dVar 1) (dC (.int 1)) env st)) (sSeq (sRet (dC (.int 0)))
    sNil) sNil)
    (sSeq (sAsg (dBin fMod (dCall fInt1 (dCons (dBin fAdd (dBin fMul (dBin fIx (dVar 0) (dC (.int 0))) (dC (.int 6364136223846793005))) (dC (.int 1442695040888963407))) dNil)) (dBin fPow (dC (.int 2)) (dC (.int 64)))) (gCell (dVar 0) (dC (.int 0))))
    (sSeq (sRet (dBin fMod (dCall fInt1 (dCons (dBin fDiv (dBin fIx (dVar 0) (dC (.int 0))) (dC (.int 65537))) dNil)) (dVar 1)))
    sNil)))
def m_draw : List D → Sto → Out D := mk 2 2 g_draw
theorem ok_draw {P : Program} {w : World} {K : PySem.W.Frag} {mg : Str → Option Value} {base : Heap} {a : Ad} (T : Txt P w K mg a) : FnB P w K mg base (L2.CX P w) 1 a.draw 2 [] (spD K (GG a) m_draw) := by
  obtain ⟨fd, F⟩ := T.F_draw
  refine FnOk.toD (π := none) (fn_m (k := 0) (g := g_draw) F sc_draw (by decide) fun cdv A outer s H E hr => ?_) (Fun.kb F 2 [] none fun _ _ _ _ _ _ us ws l1 l2 => match us, ws, l1, l2 with | [_, _], [], _, _ => rfl)
  exact     (ds_cons (ds_if (db_cmp o_lt nox_int (de_var (pv 1)) de_int) (ds_cons (ds_ret de_int)
    ds_nil) ds_nil)
    (ds_cons (ds_asg (de_op o_mod nox_int (de_callTy c_int nox_int1 (by rfl) T.n_int (by decide +kernel) (da_cons (de_op o_add nx_add (de_op o_mul nx_mul (de_ix (de_var (pv 0)) de_int) de_int) de_int) da_nil)) (de_op o_pow nox_int de_int de_int)) (dg_cell (de_var (pv 0)) de_int))
    (ds_cons (ds_ret (de_op o_mod nox_int (de_callTy c_int nox_int1 (by rfl) T.n_int (by decide +kernel) (da_cons (de_op o_div nox_int (de_ix (de_var (pv 0)) de_int) de_int) da_nil)) (de_var (pv 1))))
    ds_nil)))

abbrev N_pick : List Str := ["pen", "some"]
theorem sc_pick : FnScope ["pen", "some"] ["pen", "some"] (defScope s_pick) := ⟨rfl, rfl, rfl, by decide +kernel, rfl, by decide +kernel, by decide +kernel⟩
def g_pick : DenS :=
  (sSeq (sRet (dBin fIx (dVar 1) (dCall m_draw (aLen 2 (dCons (dVar 0) (dCons (dCall fLen (dCons (dVar 1) dNil)) dNil))))))
    sNil)
def m_pick : List D → Sto → Out D := mk 2 2 g_pick
theorem ok_pick {P : Program} {w : World} {K : PySem.W.Frag} {mg : Str → Option Value} {base : Heap} {a : Ad} (T : Txt P w K mg a) : FnB P w K mg base (L2.CX P w) 2 a.pick 2 [] (spD K (GG a) m_pick) := by
  obtain ⟨fd, F⟩ := T.F_pick
  refine FnOk.toD (π := none) (fn_m (k := 1) (g := g_pick) F sc_pick (by decide) fun cdv A outer s H E hr => ?_) (Fun.kb F 2 [] none fun _ _ _ _ _ _ us ws l1 l2 => match us, ws, l1, l2 with | [_, _], [], _, _ => rfl)
  exact     (ds_cons (ds_ret (de_ix (de_var (pv 1)) (de_callA (fn := m_draw) (ok_draw T) (hr.mono (by decide)) (by rfl) T.g__law_draw T.k__law_draw takes_cx (dc_pos (n := 2) (da_cons (de_var (pv 0)) (da_cons (de_callB c_len nox_len (by rfl) T.n_len (by decide +kernel) (da_cons (de_var (pv 1)) da_nil)) da_nil))))))
    ds_nil)

abbrev N_fixed : List Str := ["value", "part"]
theorem sc_fixed : FnScope ["value", "part"] ["value"] (defScope s_fixed) := ⟨rfl, rfl, rfl, by decide +kernel, rfl, by decide +kernel, by decide +kernel⟩
def g_fixed (f : List D → Sto → Out D) : DenS :=
  (sSeq (sIf (fun env st => toB ((dCall (fIsi KN IS) (dCons (dVar 0) (dCons (dTup (dCons (dC (.ty "list")) (dCons (dC (.ty "tuple")) dNil))) dNil))) env st)) (sSeq (sRet (dCall fTuple (dCons (dLc (iSeq (dVar 0)) [1] (gtN 1) bYes (dCall f (aLen 1 (dCons (dVar 1) dNil)))) dNil)))
    sNil) sNil)
    (sSeq (sRet (dVar 0))
    sNil))
def m_fixed : Nat → List D → Sto → Out D
  | 0 => fun _ _ => .bad
  | n + 1 => mk 1 2 (g_fixed (m_fixed n))
theorem okn_fixed {P : Program} {w : World} {K : PySem.W.Frag} {mg : Str → Option Value} {base : Heap} {a : Ad} (T : Txt P w K mg a) : ∀ n, FnB P w K mg base (L2.CX P w) (n + 2) a.fixed 1 [] (spD K (GG a) (m_fixed n))
  | 0 => by
    obtain ⟨fd, F⟩ := T.F_fixed
    exact FnOk.toD (π := none) (fn_bad (ps := ["value"])) (Fun.kb (ps := ["value"]) F 1 [] none fun _ _ _ _ _ _ us ws l1 l2 => match us, ws, l1, l2 with | [_], [], _, _ => rfl)
  | n + 1 => by
    obtain ⟨fd, F⟩ := T.F_fixed
    have ih := okn_fixed (base := base) T n
    show FnB P w K mg base (L2.CX P w) (n + 3) a.fixed 1 [] (spD K (GG a) (mk 1 2 (g_fixed (m_fixed n))))
    generalize m_fixed n = f at ih ⊢
    refine FnOk.toD (π := none) (fn_m (k := n + 2) (g := g_fixed f) F sc_fixed (by decide) fun cdv A outer s H E hr => ?_) (Fun.kb (ps := ["value"]) F 1 [] none fun _ _ _ _ _ _ us ws l1 l2 => match us, ws, l1, l2 with | [_], [], _, _ => rfl)
    exact     (ds_cons (ds_if (db_val (de_callB (call_isiD T.hN T.hI) nox_isi (by rfl) T.n_isinstance (by decide +kernel) (da_cons (de_var (pv 0)) (da_cons (de_tup (da_cons (de_ty (by rfl) T.n_list (by decide +kernel)) (da_cons (de_ty (by rfl) T.n_tuple (by decide +kernel)) da_nil))) da_nil)))) (ds_cons (ds_ret (de_callTy c_tuple nox_tuple (by rfl) T.n_tuple (by decide +kernel) (da_cons (de_lc (own := [("part", 1)]) (gi := (iSeq (dVar 0))) (gt := (gtN 1)) (gf := bYes) (ge := (dCall f (aLen 1 (dCons (dVar 1) dNil)))) rfl sc_fixed.nd (di_seq (de_var (pv 0))) (blkOk_by (own := [("part", 1)]) (N := N_fixed) (sc := defScope s_fixed) (by decide +kernel)) (fun _ _ _ _ _ => pg_name (i := 1) sc_fixed.nd rfl (Or.inl rfl)) (tg_name (by decide)) (fun _ _ _ _ _ => dts_nil) (fun _ _ _ _ _ => (de_callA (fn := f) ih hr (by rfl) T.g_fixed T.k_fixed takes0 (dc_pos (n := 1) (da_cons (de_var (pv 1)) da_nil))))) da_nil)))
    ds_nil) ds_nil)
    (ds_cons (ds_ret (de_var (pv 0)))
    ds_nil))

abbrev N_are_alike : List Str := ["one", "other", "part", "its"]
theorem sc_are_alike : FnScope ["one", "other", "part", "its"] ["one", "other"] (defScope s_are_alike) := ⟨rfl, rfl, rfl, by decide +kernel, rfl, by decide +kernel, by decide +kernel⟩
def g_are_alike (f : List D → Sto → Out D) : DenS :=
  (sSeq (sIf (bAnd (fun env st => toB ((dCall (fIsi KN IS) (dCons (dVar 0) (dCons (dC (.ty "tuple")) dNil))) env st)) (fun env st => toB ((dCall (fIsi KN IS) (dCons (dVar 1) (dCons (dC (.ty "tuple")) dNil))) env st))) (sSeq (sRet (dAnd (dBin (fEqW false) (dCall fLen (dCons (dVar 0) dNil)) (dCall fLen (dCons (dVar 1) dNil))) (dCall fAll (dCons (dLc (iZipD (dCons (dVar 0) (dCons (dVar 1) dNil))) [2, 3] (gtT [2, 3]) bYes (dCall f (aLen 2 (dCons (dVar 2) (dCons (dVar 3) dNil))))) dNil))))
    sNil) sNil)
    (sSeq (sIf (fun env st => toB (dBin (fEqW true) (dCall (fIsi KN IS) (dCons (dVar 0) (dCons (dC (.ty "bool")) dNil))) (dCall (fIsi KN IS) (dCons (dVar 1) (dCons (dC (.ty "bool")) dNil))) env st)) (sSeq (sRet (dC (.bl false)))
    sNil) sNil)
    (sSeq (sRet (dCall (fBool bo0) (dCons (dBin (fEqW false) (dVar 0) (dVar 1)) dNil)))
    sNil)))
def m_are_alike : Nat → List D → Sto → Out D
  | 0 => fun _ _ => .bad
  | n + 1 => mk 2 4 (g_are_alike (m_are_alike n))
theorem okn_are_alike {P : Program} {w : World} {K : PySem.W.Frag} {mg : Str → Option Value} {base : Heap} {a : Ad} (T : Txt P w K mg a) : ∀ n, FnB P w K mg base (L2.CX P w) (n + 2) a.are_alike 2 [] (spD K (GG a) (m_are_alike n))
  | 0 => by
    obtain ⟨fd, F⟩ := T.F_are_alike
    exact FnOk.toD (π := none) (fn_bad (ps := ["one", "other"])) (Fun.kb (ps := ["one", "other"]) F 2 [] none fun _ _ _ _ _ _ us ws l1 l2 => match us, ws, l1, l2 with | [_, _], [], _, _ => rfl)
  | n + 1 => by
    obtain ⟨fd, F⟩ := T.F_are_alike
    have ih := okn_are_alike (base := base) T n
    show FnB P w K mg base (L2.CX P w) (n + 3) a.are_alike 2 [] (spD K (GG a) (mk 2 4 (g_are_alike (m_are_alike n))))
    generalize m_are_alike n = f at ih ⊢
    refine FnOk.toD (π := none) (fn_m (k := n + 2) (g := g_are_alike f) F sc_are_alike (by decide) fun cdv A outer s H E hr => ?_) (Fun.kb (ps := ["one", "other"]) F 2 [] none fun _ _ _ _ _ _ us ws l1 l2 => match us, ws, l1, l2 with | [_, _], [], _, _ => rfl)
    exact     (ds_cons (ds_if (db_of (dbw_and (db_val (de_callB (call_isiD T.hN T.hI) nox_isi (by rfl) T.n_isinstance (by decide +kernel) (da_cons (de_var (pv 0)) (da_cons (de_ty (by rfl) T.n_tuple (by decide +kernel)) da_nil)))) (dbw_and1 (db_val (de_callB (call_isiD T.hN T.hI) nox_isi (by rfl) T.n_isinstance (by decide +kernel) (da_cons (de_var (pv 1)) (da_cons (de_ty (by rfl) T.n_tuple (by decide +kernel)) da_nil))))))) (ds_cons (ds_ret (de_and (de_cmp (o_eqW (u64 hr)) nox_eqW (de_callB c_len nox_len (by rfl) T.n_len (by decide +kernel) (da_cons (de_var (pv 0)) da_nil)) (de_callB c_len nox_len (by rfl) T.n_len (by decide +kernel) (da_cons (de_var (pv 1)) da_nil))) (de_and1 (de_callB (c_all rfl) nox_all (by rfl) T.n_all (by decide +kernel) (da_cons (de_lc (own := [("part", 2), ("its", 3)]) (gi := (iZipD (dCons (dVar 0) (dCons (dVar 1) dNil)))) (gt := (gtT [2, 3])) (gf := bYes) (ge := (dCall f (aLen 2 (dCons (dVar 2) (dCons (dVar 3) dNil))))) rfl sc_are_alike.nd (di_zip (by rfl) T.n_zip (da_cons (de_var (pv 0)) (da_cons (de_var (pv 1)) da_nil))) (blkOk_by (own := [("part", 2), ("its", 3)]) (N := N_are_alike) (sc := defScope s_are_alike) (by decide +kernel)) (fun _ _ _ _ _ => pg_tup rfl (pgs_cons (pg_name (i := 2) sc_are_alike.nd rfl (Or.inl rfl)) (pgs_cons (pg_name (i := 3) sc_are_alike.nd rfl (Or.inl rfl)) pgs_nil))) (tg_tup (is := [2, 3]) (by decide)) (fun _ _ _ _ _ => dts_nil) (fun _ _ _ _ _ => (de_callA (fn := f) ih hr (by rfl) T.g_are_alike T.k_are_alike takes0 (dc_pos (n := 2) (da_cons (de_var (pv 2)) (da_cons (de_var (pv 3)) da_nil)))))) da_nil)))))
    ds_nil) ds_nil)
    (ds_cons (ds_if (db_cmp (o_neW (u64 hr)) nox_eqW (de_callB (call_isiD T.hN T.hI) nox_isi (by rfl) T.n_isinstance (by decide +kernel) (da_cons (de_var (pv 0)) (da_cons (de_ty (by rfl) T.n_bool (by decide +kernel)) da_nil))) (de_callB (call_isiD T.hN T.hI) nox_isi (by rfl) T.n_isinstance (by decide +kernel) (da_cons (de_var (pv 1)) (da_cons (de_ty (by rfl) T.n_bool (by decide +kernel)) da_nil)))) (ds_cons (ds_ret de_bl)
    ds_nil) ds_nil)
    (ds_cons (ds_ret (de_callTy (c_bool (k := 0) bo0_ok (hr.mono (by omega))) nox_bool (by rfl) T.n_bool (by decide +kernel) (da_cons (de_cmp (o_eqW (u64 hr)) nox_eqW (de_var (pv 0)) (de_var (pv 1))) da_nil)))
    ds_nil)))

theorem ok_fixed {P : Program} {w : World} {K : PySem.W.Frag} {mg : Str → Option Value} {base : Heap} {a : Ad} (T : Txt P w K mg a) : FnB P w K mg base (L2.CX P w) 14 a.fixed 1 [] (spD K (GG a) (m_fixed 12)) := okn_fixed T 12
theorem ok_are_alike {P : Program} {w : World} {K : PySem.W.Frag} {mg : Str → Option Value} {base : Heap} {a : Ad} (T : Txt P w K mg a) : FnB P w K mg base (L2.CX P w) 14 a.are_alike 2 [] (spD K (GG a) (m_are_alike 12)) := okn_are_alike T 12

abbrev N_kinds : List Str := ["one", "found"]
theorem sc_kinds : FnScope ["one", "found"] ["one"] (defScope s_kinds) := ⟨rfl, rfl, rfl, by decide +kernel, rfl, by decide +kernel, by decide +kernel⟩
def g_kinds : DenS :=
  (sSeq (sAsg (dLst (dCons (dCall (fIsi KN IS) (dCons (dVar 0) (dCons (dC (.cls "BadValue")) dNil))) (dCons (dCall (fIsi KN IS) (dCons (dVar 0) (dCons (dC (.cls "BadNumber")) dNil))) (dCons (dCall (fIsi KN IS) (dCons (dVar 0) (dCons (dC (.cls "Misfit")) dNil))) (dCons (dCall (fIsi KN IS) (dCons (dVar 0) (dCons (dC (.cls "Nothing")) dNil))) (dCons (dCall (fIsi KN IS) (dCons (dVar 0) (dCons (dC (.cls "BadCode")) dNil))) (dCons (dCall (fIsi KN IS) (dCons (dVar 0) (dCons (dC (.cls "BadFrees")) dNil))) dNil))))))) (gN 1))
    (sSeq (sRet (dBin fAdd (dVar 1) (dLst (dCons (dCall (fIsi KN IS) (dCons (dVar 0) (dCons (dC (.cls "BadBytes")) dNil))) (dCons (dCall (fIsi KN IS) (dCons (dVar 0) (dCons (dC (.cls "BadText")) dNil))) (dCons (dCall (fIsi KN IS) (dCons (dVar 0) (dCons (dC (.cls "TooMany")) dNil))) dNil))))))
    sNil))
def m_kinds : List D → Sto → Out D := mk 1 2 g_kinds
theorem ok_kinds {P : Program} {w : World} {K : PySem.W.Frag} {mg : Str → Option Value} {base : Heap} {a : Ad} (T : Txt P w K mg a) : FnB P w K mg base (L2.CX P w) 1 a.kinds 1 [] (spD K (GG a) m_kinds) := by
  obtain ⟨fd, F⟩ := T.F_kinds
  refine FnOk.toD (π := none) (fn_m (k := 0) (g := g_kinds) F sc_kinds (by decide) fun cdv A outer s H E hr => ?_) (Fun.kb F 1 [] none fun _ _ _ _ _ _ us ws l1 l2 => match us, ws, l1, l2 with | [_], [], _, _ => rfl)
  exact     (ds_cons (ds_asg (de_lst (da_cons (de_callB (call_isiD T.hN T.hI) nox_isi (by rfl) T.n_isinstance (by decide +kernel) (da_cons (de_var (pv 0)) (da_cons (de_cls (by rfl) T.g_BadValue rfl) da_nil))) (da_cons (de_callB (call_isiD T.hN T.hI) nox_isi (by rfl) T.n_isinstance (by decide +kernel) (da_cons (de_var (pv 0)) (da_cons (de_cls (by rfl) T.g_BadNumber rfl) da_nil))) (da_cons (de_callB (call_isiD T.hN T.hI) nox_isi (by rfl) T.n_isinstance (by decide +kernel) (da_cons (de_var (pv 0)) (da_cons (de_cls (by rfl) T.g_Misfit rfl) da_nil))) (da_cons (de_callB (call_isiD T.hN T.hI) nox_isi (by rfl) T.n_isinstance (by decide +kernel) (da_cons (de_var (pv 0)) (da_cons (de_cls (by rfl) T.g_Nothing rfl) da_nil))) (da_cons (de_callB (call_isiD T.hN T.hI) nox_isi (by rfl) T.n_isinstance (by decide +kernel) (da_cons (de_var (pv 0)) (da_cons (de_cls (by rfl) T.g_BadCode rfl) da_nil))) (da_cons (de_callB (call_isiD T.hN T.hI) nox_isi (by rfl) T.n_isinstance (by decide +kernel) (da_cons (de_var (pv 0)) (da_cons (de_cls (by rfl) T.g_BadFrees rfl) da_nil))) da_nil))))))) (dg_name (pg_name (i := 1) sc_kinds.nd rfl (.inl rfl))))
    (ds_cons (ds_ret (de_op o_add nx_add (de_var (pv 1)) (de_lst (da_cons (de_callB (call_isiD T.hN T.hI) nox_isi (by rfl) T.n_isinstance (by decide +kernel) (da_cons (de_var (pv 0)) (da_cons (de_cls (by rfl) T.g_BadBytes rfl) da_nil))) (da_cons (de_callB (call_isiD T.hN T.hI) nox_isi (by rfl) T.n_isinstance (by decide +kernel) (da_cons (de_var (pv 0)) (da_cons (de_cls (by rfl) T.g_BadText rfl) da_nil))) (da_cons (de_callB (call_isiD T.hN T.hI) nox_isi (by rfl) T.n_isinstance (by decide +kernel) (da_cons (de_var (pv 0)) (da_cons (de_cls (by rfl) T.g_TooMany rfl) da_nil))) da_nil))))))
    ds_nil))

theorem nsc_BadValue : NScope ["self", "part", "__class__"] ["self", "part"] ["__class__"] (defScope s_BadValue_i) := nscope_by (by decide +kernel)
theorem sss_BadValue : SupS s_BadValue_i "self" ["self", "part", "__class__"] := ⟨by decide +kernel, by decide +kernel, by decide +kernel, ⟨_, rfl, rfl⟩, rfl⟩
theorem FX_BadValue {P : Program} {w : World} {K : PySem.W.Frag} {mg : Str → Option Value} {base : Heap} {a : Ad} (T : Txt P w K mg a) : FnB P w K mg base (L2.CX P w) 1 a.iBadValue (0 + 1) ["part"] (spXI K a.BadValue ["part"]) := by
  obtain ⟨fd, F⟩ := T.F_BadValue
  refine DL.FnOk.toB (ps := ["self", "part"]) (π := none) ?x (FunC.kb F 1 ["part"] none fun _ _ _ _ _ us ws l1 l2 => match us, ws, l1, l2 with | [_], [_], _, _ => rfl)
  case x =>
    refine' exc_init1 (k := 0) F T.sk_BadValue nsc_BadValue sss_BadValue ?hd ?hsc ?hst
    case hst => exact rfl
    case hsc => exact fun env => ⟨_, rfl⟩
    case hd => decide

theorem nsc_BadNumber : NScope ["self", "part", "__class__"] ["self", "part"] ["__class__"] (defScope s_BadNumber_i) := nscope_by (by decide +kernel)
theorem sss_BadNumber : SupS s_BadNumber_i "self" ["self", "part", "__class__"] := ⟨by decide +kernel, by decide +kernel, by decide +kernel, ⟨_, rfl, rfl⟩, rfl⟩
theorem FX_BadNumber {P : Program} {w : World} {K : PySem.W.Frag} {mg : Str → Option Value} {base : Heap} {a : Ad} (T : Txt P w K mg a) : FnB P w K mg base (L2.CX P w) 1 a.iBadNumber (0 + 1) ["part"] (spXI K a.BadNumber ["part"]) := by
  obtain ⟨fd, F⟩ := T.F_BadNumber
  refine DL.FnOk.toB (ps := ["self", "part"]) (π := none) ?x (FunC.kb F 1 ["part"] none fun _ _ _ _ _ us ws l1 l2 => match us, ws, l1, l2 with | [_], [_], _, _ => rfl)
  case x =>
    refine' exc_init1 (k := 0) F T.sk_BadNumber nsc_BadNumber sss_BadNumber ?hd ?hsc ?hst
    case hst => exact rfl
    case hsc => exact fun env => ⟨_, rfl⟩
    case hd => decide

theorem nsc_BadCode : NScope ["self", "at", "__class__"] ["self", "at"] ["__class__"] (defScope s_BadCode_i) := nscope_by (by decide +kernel)
theorem sss_BadCode : SupS s_BadCode_i "self" ["self", "at", "__class__"] := ⟨by decide +kernel, by decide +kernel, by decide +kernel, ⟨_, rfl, rfl⟩, rfl⟩
theorem FX_BadCode {P : Program} {w : World} {K : PySem.W.Frag} {mg : Str → Option Value} {base : Heap} {a : Ad} (T : Txt P w K mg a) : FnB P w K mg base (L2.CX P w) 1 a.iBadCode (0 + 1) ["at"] (spXI K a.BadCode ["at"]) := by
  obtain ⟨fd, F⟩ := T.F_BadCode
  refine DL.FnOk.toB (ps := ["self", "at"]) (π := none) ?x (FunC.kb F 1 ["at"] none fun _ _ _ _ _ us ws l1 l2 => match us, ws, l1, l2 with | [_], [_], _, _ => rfl)
  case x =>
    refine' exc_init1 (k := 0) F T.sk_BadCode nsc_BadCode sss_BadCode ?hd ?hsc ?hst
    case hst => exact rfl
    case hsc => exact fun env => ⟨_, rfl⟩
    case hd => decide

theorem nsc_BadFrees : NScope ["self", "at", "__class__"] ["self", "at"] ["__class__"] (defScope s_BadFrees_i) := nscope_by (by decide +kernel)
theorem sss_BadFrees : SupS s_BadFrees_i "self" ["self", "at", "__class__"] := ⟨by decide +kernel, by decide +kernel, by decide +kernel, ⟨_, rfl, rfl⟩, rfl⟩
theorem FX_BadFrees {P : Program} {w : World} {K : PySem.W.Frag} {mg : Str → Option Value} {base : Heap} {a : Ad} (T : Txt P w K mg a) : FnB P w K mg base (L2.CX P w) 1 a.iBadFrees (0 + 1) ["at"] (spXI K a.BadFrees ["at"]) := by
  obtain ⟨fd, F⟩ := T.F_BadFrees
  refine DL.FnOk.toB (ps := ["self", "at"]) (π := none) ?x (FunC.kb F 1 ["at"] none fun _ _ _ _ _ us ws l1 l2 => match us, ws, l1, l2 with | [_], [_], _, _ => rfl)
  case x =>
    refine' exc_init1 (k := 0) F T.sk_BadFrees nsc_BadFrees sss_BadFrees ?hd ?hsc ?hst
    case hst => exact rfl
    case hsc => exact fun env => ⟨_, rfl⟩
    case hd => decide

theorem nsc_BadText : NScope ["self", "line", "word", "__class__"] ["self", "line", "word"] ["__class__"] (defScope s_BadText_i) := nscope_by (by decide +kernel)
theorem sss_BadText : SupS s_BadText_i "self" ["self", "line", "word", "__class__"] := ⟨by decide +kernel, by decide +kernel, by decide +kernel, ⟨_, rfl, rfl⟩, rfl⟩
theorem FX_BadText {P : Program} {w : World} {K : PySem.W.Frag} {mg : Str → Option Value} {base : Heap} {a : Ad} (T : Txt P w K mg a) : FnB P w K mg base (L2.CX P w) 1 a.iBadText (0 + 1) ["line", "word"] (spXI K a.BadText ["line", "word"]) := by
  obtain ⟨fd, F⟩ := T.F_BadText
  refine DL.FnOk.toB (ps := ["self", "line", "word"]) (π := none) ?x (FunC.kb F 1 ["line", "word"] none fun _ _ _ _ _ us ws l1 l2 => match us, ws, l1, l2 with | [_], [_, _], _, _ => rfl)
  case x =>
    refine' exc_init2 (k := 0) F T.sk_BadText nsc_BadText sss_BadText ?hd ?hsc ?hst
    case hst => exact rfl
    case hsc => exact fun env => ⟨_, rfl⟩
    case hd => decide

theorem nsc_BadBytes : NScope ["self", "at", "__class__"] ["self", "at"] ["__class__"] (defScope s_BadBytes_i) := nscope_by (by decide +kernel)
theorem sss_BadBytes : SupS s_BadBytes_i "self" ["self", "at", "__class__"] := ⟨by decide +kernel, by decide +kernel, by decide +kernel, ⟨_, rfl, rfl⟩, rfl⟩
theorem FX_BadBytes {P : Program} {w : World} {K : PySem.W.Frag} {mg : Str → Option Value} {base : Heap} {a : Ad} (T : Txt P w K mg a) : FnB P w K mg base (L2.CX P w) 1 a.iBadBytes (0 + 1) ["at"] (spXI K a.BadBytes ["at"]) := by
  obtain ⟨fd, F⟩ := T.F_BadBytes
  refine DL.FnOk.toB (ps := ["self", "at"]) (π := none) ?x (FunC.kb F 1 ["at"] none fun _ _ _ _ _ us ws l1 l2 => match us, ws, l1, l2 with | [_], [_], _, _ => rfl)
  case x =>
    refine' exc_init1 (k := 0) F T.sk_BadBytes nsc_BadBytes sss_BadBytes ?hd ?hsc ?hst
    case hst => exact rfl
    case hsc => exact fun env => ⟨_, rfl⟩
    case hd => decide

theorem nsc_Misfit : NScope ["self", "part", "__class__"] ["self", "part"] ["__class__"] (defScope s_Misfit_i) := nscope_by (by decide +kernel)
theorem sss_Misfit : SupS s_Misfit_i "self" ["self", "part", "__class__"] := ⟨by decide +kernel, by decide +kernel, by decide +kernel, ⟨_, rfl, rfl⟩, rfl⟩
theorem FX_Misfit {P : Program} {w : World} {K : PySem.W.Frag} {mg : Str → Option Value} {base : Heap} {a : Ad} (T : Txt P w K mg a) : FnB P w K mg base (L2.CX P w) 1 a.iMisfit (0 + 1) ["part"] (spXI K a.Misfit ["part"]) := by
  obtain ⟨fd, F⟩ := T.F_Misfit
  refine DL.FnOk.toB (ps := ["self", "part"]) (π := none) ?x (FunC.kb F 1 ["part"] none fun _ _ _ _ _ us ws l1 l2 => match us, ws, l1, l2 with | [_], [_], _, _ => rfl)
  case x =>
    refine' exc_init1 (k := 0) F T.sk_Misfit nsc_Misfit sss_Misfit ?hd ?hsc ?hst
    case hst => exact rfl
    case hsc => exact fun env => ⟨_, rfl⟩
    case hd => decide

theorem nsc_Nothing : NScope ["self", "word", "__class__"] ["self", "word"] ["__class__"] (defScope s_Nothing_i) := nscope_by (by decide +kernel)
theorem sss_Nothing : SupS s_Nothing_i "self" ["self", "word", "__class__"] := ⟨by decide +kernel, by decide +kernel, by decide +kernel, ⟨_, rfl, rfl⟩, rfl⟩
theorem FX_Nothing {P : Program} {w : World} {K : PySem.W.Frag} {mg : Str → Option Value} {base : Heap} {a : Ad} (T : Txt P w K mg a) : FnB P w K mg base (L2.CX P w) 1 a.iNothing (0 + 1) ["word"] (spXI K a.Nothing ["word"]) := by
  obtain ⟨fd, F⟩ := T.F_Nothing
  refine DL.FnOk.toB (ps := ["self", "word"]) (π := none) ?x (FunC.kb F 1 ["word"] none fun _ _ _ _ _ us ws l1 l2 => match us, ws, l1, l2 with | [_], [_], _, _ => rfl)
  case x =>
    refine' exc_init1 (k := 0) F T.sk_Nothing nsc_Nothing sss_Nothing ?hd ?hsc ?hst
    case hst => exact rfl
    case hsc => exact fun env => ⟨_, rfl⟩
    case hd => decide

theorem nsc_TooMany : NScope ["self", "what", "most", "__class__"] ["self", "what", "most"] ["__class__"] (defScope s_TooMany_i) := nscope_by (by decide +kernel)
theorem sss_TooMany : SupS s_TooMany_i "self" ["self", "what", "most", "__class__"] := ⟨by decide +kernel, by decide +kernel, by decide +kernel, ⟨_, rfl, rfl⟩, rfl⟩
theorem FX_TooMany {P : Program} {w : World} {K : PySem.W.Frag} {mg : Str → Option Value} {base : Heap} {a : Ad} (T : Txt P w K mg a) : FnB P w K mg base (L2.CX P w) 1 a.iTooMany (0 + 1) ["what", "most"] (spXI K a.TooMany ["what", "most"]) := by
  obtain ⟨fd, F⟩ := T.F_TooMany
  refine DL.FnOk.toB (ps := ["self", "what", "most"]) (π := none) ?x (FunC.kb F 1 ["what", "most"] none fun _ _ _ _ _ us ws l1 l2 => match us, ws, l1, l2 with | [_], [_, _], _, _ => rfl)
  case x =>
    refine' exc_init2 (k := 0) F T.sk_TooMany nsc_TooMany sss_TooMany ?hd ?hsc ?hst
    case hst => exact rfl
    case hsc => exact fun env => ⟨_, rfl⟩
    case hd => decide
end K02

set_option Elab.async false
set_option linter.all false
set_option maxRecDepth 100000
set_option maxHeartbeats 8000000
namespace K02
open PySem PySem.Spec PyProof.Rows L2 StX NdefX DL

abbrev N_Paper_i : List Str := ["self", "word", "parts"]
theorem sc_Paper_i : FnScope ["self", "word", "parts"] ["self", "word", "parts"] (defScope s_Paper_i) := ⟨rfl, rfl, rfl, by decide +kernel, rfl, by decide +kernel, by decide +kernel⟩
def g_Paper_i : DenS :=
  (sSeq (sFldD EC (dVar 0) (dCall (m_fixed 12) (aLen 1 (dCons (dVar 1) dNil))) "word")
    (sSeq (sFldD EC (dVar 0) (dCall (m_fixed 12) (aLen 1 (dCons (dVar 2) dNil))) "parts")
    sNil))
def m_Paper_i : List D → Sto → Out D := starFn 2 (mk 3 3 g_Paper_i)
theorem pap_body {P : Program} {w : World} {K : PySem.W.Frag} {mg : Str → Option Value} {base : Heap} {a : Ad} (T : Txt P w K mg a) (hr0 : True := trivial) : ∀ (fd : FuncData) (cdv : Value) (A : Around) (outer : List Env) (s : Shared) (H : Hp) (E : XK), Room 14 (A.deeper (envOfC "Paper.__init__" (defScope s_Paper_i) s.heap.objs.size a.iPaper cdv)) →
    DSs (cxOf (L2.CX P w) P w K mg base ["self", "word", "parts"] "Paper.__init__" (defScope s_Paper_i) a.iPaper cdv A outer s H E) (GG a) (fun cls d _ H => E cls d H) (defBody s_Paper_i) g_Paper_i := fun fd cdv A outer s H E hr =>
      (ds_cons (ds_fld (de_var (pv 0)) (de_callA (fn := (m_fixed 12)) (ok_fixed T) (hr.mono (by decide)) (by rfl) T.g_fixed T.k_fixed takes_cx (dc_pos (n := 1) (da_cons (de_var (pv 1)) da_nil))) T.st_word)
    (ds_cons (ds_fld (de_var (pv 0)) (de_callA (fn := (m_fixed 12)) (ok_fixed T) (hr.mono (by decide)) (by rfl) T.g_fixed T.k_fixed takes_cx (dc_pos (n := 1) (da_cons (de_var (pv 2)) da_nil))) T.st_parts)
    ds_nil))
theorem FP1 {P : Program} {w : World} {K : PySem.W.Frag} {mg : Str → Option Value} {base : Heap} {a : Ad} (T : Txt P w K mg a) : FnB P w K mg base (L2.CX P w) 15 a.iPaper (1 + 1) [] (spD K (GG a) m_Paper_i) := by
  obtain ⟨fd, F⟩ := T.F_Paper_i
  exact fn_mStar (k := 14) (ps := ["self", "word"]) (pv := "parts") (n := 1 + 1) (ks := []) F sc_Paper_i (by decide) (by decide) (fun _ _ _ _ _ _ us ws l1 l2 => match us, ws, l1, l2 with | [_, _], [], _, _ => rfl) (fun cdv A outer s H E hr => pap_body T trivial fd cdv A outer s H E hr)
theorem FP2 {P : Program} {w : World} {K : PySem.W.Frag} {mg : Str → Option Value} {base : Heap} {a : Ad} (T : Txt P w K mg a) : FnB P w K mg base (L2.CX P w) 15 a.iPaper (2 + 1) [] (spD K (GG a) m_Paper_i) := by
  obtain ⟨fd, F⟩ := T.F_Paper_i
  exact fn_mStar (k := 14) (ps := ["self", "word"]) (pv := "parts") (n := 2 + 1) (ks := []) F sc_Paper_i (by decide) (by decide) (fun _ _ _ _ _ _ us ws l1 l2 => match us, ws, l1, l2 with | [_, _, _], [], _, _ => rfl) (fun cdv A outer s H E hr => pap_body T trivial fd cdv A outer s H E hr)
theorem FP3 {P : Program} {w : World} {K : PySem.W.Frag} {mg : Str → Option Value} {base : Heap} {a : Ad} (T : Txt P w K mg a) : FnB P w K mg base (L2.CX P w) 15 a.iPaper (3 + 1) [] (spD K (GG a) m_Paper_i) := by
  obtain ⟨fd, F⟩ := T.F_Paper_i
  exact fn_mStar (k := 14) (ps := ["self", "word"]) (pv := "parts") (n := 3 + 1) (ks := []) F sc_Paper_i (by decide) (by decide) (fun _ _ _ _ _ _ us ws l1 l2 => match us, ws, l1, l2 with | [_, _, _, _], [], _, _ => rfl) (fun cdv A outer s H E hr => pap_body T trivial fd cdv A outer s H E hr)
theorem FP4 {P : Program} {w : World} {K : PySem.W.Frag} {mg : Str → Option Value} {base : Heap} {a : Ad} (T : Txt P w K mg a) : FnB P w K mg base (L2.CX P w) 15 a.iPaper (4 + 1) [] (spD K (GG a) m_Paper_i) := by
  obtain ⟨fd, F⟩ := T.F_Paper_i
  exact fn_mStar (k := 14) (ps := ["self", "word"]) (pv := "parts") (n := 4 + 1) (ks := []) F sc_Paper_i (by decide) (by decide) (fun _ _ _ _ _ _ us ws l1 l2 => match us, ws, l1, l2 with | [_, _, _, _, _], [], _, _ => rfl) (fun cdv A outer s H E hr => pap_body T trivial fd cdv A outer s H E hr)
theorem FPk {P : Program} {w : World} {K : PySem.W.Frag} {mg : Str → Option Value} {base : Heap} {a : Ad} (T : Txt P w K mg a) : FnB P w K mg base (L2.CX P w) 15 a.iPaper (0 + 1) ["word"] (spD K (GG a) m_Paper_i) := by
  obtain ⟨fd, F⟩ := T.F_Paper_i
  exact fn_mStar (k := 14) (ps := ["self", "word"]) (pv := "parts") (n := 0 + 1) (ks := ["word"]) F sc_Paper_i (by decide) (by decide) (fun _ _ _ _ _ _ us ws l1 l2 => match us, ws, l1, l2 with | [_], [_], _, _ => rfl) (fun cdv A outer s H E hr => pap_body T trivial fd cdv A outer s H E hr)

abbrev N_Paper_b : List Str := ["self"]
theorem sc_Paper_b : FnScope ["self"] ["self"] (defScope s_Paper_b) := ⟨rfl, rfl, rfl, by decide +kernel, rfl, by decide +kernel, by decide +kernel⟩
def g_Paper_b : DenS :=
  (sSeq (sRet (dC (.bl true)))
    sNil)
def m_Paper_b : List D → Sto → Out D := mk 1 1 g_Paper_b
theorem ok_Paper_b {P : Program} {w : World} {K : PySem.W.Frag} {mg : Str → Option Value} {base : Heap} {a : Ad} (T : Txt P w K mg a) : FnB P w K mg base (L2.CX P w) 1 a.bPaper 1 [] (spD K (GG a) m_Paper_b) := by
  obtain ⟨fd, F⟩ := T.F_Paper_b
  refine FnOk.toD (π := none) (fn_m (k := 0) (g := g_Paper_b) F sc_Paper_b (by decide) fun cdv A outer s H E hr => ?_) (Fun.kb F 1 [] none fun _ _ _ _ _ _ us ws l1 l2 => match us, ws, l1, l2 with | [_], [], _, _ => rfl)
  exact     (ds_cons (ds_ret de_bl)
    ds_nil)

abbrev N_Denial_b : List Str := ["self"]
theorem sc_Denial_b : FnScope ["self"] ["self"] (defScope s_Denial_b) := ⟨rfl, rfl, rfl, by decide +kernel, rfl, by decide +kernel, by decide +kernel⟩
def g_Denial_b : DenS :=
  (sSeq (sRet (dC (.bl false)))
    sNil)
def m_Denial_b : List D → Sto → Out D := mk 1 1 g_Denial_b
theorem ok_Denial_b {P : Program} {w : World} {K : PySem.W.Frag} {mg : Str → Option Value} {base : Heap} {a : Ad} (T : Txt P w K mg a) : FnB P w K mg base (L2.CX P w) 1 a.bDenial 1 [] (spD K (GG a) m_Denial_b) := by
  obtain ⟨fd, F⟩ := T.F_Denial_b
  refine FnOk.toD (π := none) (fn_m (k := 0) (g := g_Denial_b) F sc_Denial_b (by decide) fun cdv A outer s H E hr => ?_) (Fun.kb F 1 [] none fun _ _ _ _ _ _ us ws l1 l2 => match us, ws, l1, l2 with | [_], [], _, _ => rfl)
  exact     (ds_cons (ds_ret de_bl)
    ds_nil)

abbrev N_Paper_e : List Str := ["self", "other"]
theorem sc_Paper_e : FnScope ["self", "other"] ["self", "other"] (defScope s_Paper_e) := ⟨rfl, rfl, rfl, by decide +kernel, rfl, by decide +kernel, by decide +kernel⟩
def g_Paper_e : DenS :=
  (sSeq (sIf (bOr (bNot (fun env st => toB ((dCall (fIsi KN IS) (dCons (dVar 1) (dCons (dC (.cls "Paper")) dNil))) env st))) (fun env st => toB (dBin (fEqW true) (fun env st => ((fun env st => ((dVar 0) env st).bind (kCls EC)) env st).bind (kName EC)) (fun env st => ((fun env st => ((dVar 1) env st).bind (kCls EC)) env st).bind (kName EC)) env st))) (sSeq (sRet (dC (.bl false)))
    sNil) sNil)
    (sSeq (sRet (dCall (m_are_alike 12) (aLen 2 (dCons (dTup (dCons (fun env st => ((dVar 0) env st).bind (kFld CI_word CE_word "word")) (dCons (fun env st => ((dVar 0) env st).bind (kFld CI_parts CE_parts "parts")) dNil))) (dCons (dTup (dCons (fun env st => ((dVar 1) env st).bind (kFld CI_word CE_word "word")) (dCons (fun env st => ((dVar 1) env st).bind (kFld CI_parts CE_parts "parts")) dNil))) dNil)))))
    sNil))
def m_Paper_e : List D → Sto → Out D := mk 2 2 g_Paper_e
theorem ok_Paper_e {P : Program} {w : World} {K : PySem.W.Frag} {mg : Str → Option Value} {base : Heap} {a : Ad} (T : Txt P w K mg a) : FnB P w K mg base (L2.CX P w) 15 a.ePaper 2 [] (spD K (GG a) m_Paper_e) := by
  obtain ⟨fd, F⟩ := T.F_Paper_e
  refine FnOk.toD (π := none) (fn_m (k := 14) (g := g_Paper_e) F sc_Paper_e (by decide) fun cdv A outer s H E hr => ?_) (Fun.kb F 2 [] none fun _ _ _ _ _ _ us ws l1 l2 => match us, ws, l1, l2 with | [_, _], [], _, _ => rfl)
  exact     (ds_cons (ds_if (db_of (dbw_or (db_not (db_val (de_callB (call_isiD T.hN T.hI) nox_isi (by rfl) T.n_isinstance (by decide +kernel) (da_cons (de_var (pv 1)) (da_cons (de_cls (by rfl) T.g_Paper rfl) da_nil))))) (dbw_or1 (db_cmp (o_neW (u64 hr)) nox_eqW (de_cname (de_class (de_var (pv 0)) T.insE (by rfl)) T.nmE (by rfl)) (de_cname (de_class (de_var (pv 1)) T.insE (by rfl)) T.nmE (by rfl)))))) (ds_cons (ds_ret de_bl)
    ds_nil) ds_nil)
    (ds_cons (ds_ret (de_callA (fn := (m_are_alike 12)) (ok_are_alike T) (hr.mono (by decide)) (by rfl) T.g_are_alike T.k_are_alike takes_cx (dc_pos (n := 2) (da_cons (de_tup (da_cons (de_get (de_var (pv 0)) T.fld_word (by rfl)) (da_cons (de_get (de_var (pv 0)) T.fld_parts (by rfl)) da_nil))) (da_cons (de_tup (da_cons (de_get (de_var (pv 1)) T.fld_word (by rfl)) (da_cons (de_get (de_var (pv 1)) T.fld_parts (by rfl)) da_nil))) da_nil)))))
    ds_nil))

abbrev N_Clean_i : List Str := ["self", "rows", "__class__"]
theorem nsc_Clean_i : NScope ["self", "rows", "__class__"] ["self", "rows"] ["__class__"] (defScope s_Clean_i) := nscope_by (by decide +kernel)
theorem sss_Clean_i : SupS s_Clean_i "self" ["self", "rows", "__class__"] := ⟨by decide +kernel, by decide +kernel, by decide +kernel, ⟨_, rfl, rfl⟩, rfl⟩
def g_Clean_i : DenS :=
  (sSeq (sSup ["Clean"] m_Paper_i 2 (dCons (dC (.str "clean")) (dCons (dVar 1) dNil)))
    (sSeq (sFldD EC (dVar 0) (dBin fIx (fun env st => ((dVar 0) env st).bind (kFld CI_parts CE_parts "parts")) (dC (.int 0))) "rows")
    sNil))
def m_Clean_i : List D → Sto → Out D := mk 2 3 g_Clean_i
theorem sup_Clean {P : Program} {w : World} {K : PySem.W.Frag} {mg : Str → Option Value} {a : Ad} (T : Txt P w K mg a) : ∀ c ∈ ["Clean"], ∀ C, GG a c = some C → SupM K C a.Clean a.iPaper := fun c hc C h => by
  rw [List.mem_singleton] at hc
  subst hc
  have e : GG a "Clean" = some a.Clean := rfl
  rw [e] at h
  cases h
  exact T.sm_Clean
theorem okf_Clean {P : Program} {w : World} {K : PySem.W.Frag} {mg : Str → Option Value} {base : Heap} {a : Ad} (T : Txt P w K mg a) : ∃ fd, FunC K "__init__" "Clean.__init__" s_Clean_i a.iClean fd a.cClean a.xClean a.Clean ∧ FnOk P w K mg base (L2.CX P w) 16 a.iClean fd ["self", "rows"] (spD K (GG a) m_Clean_i) := by
  obtain ⟨fd, F⟩ := T.F_Clean
  refine ⟨fd, F, fn_mS (k := 15) (g := g_Clean_i) F nsc_Clean_i fun A outer s H E hr => ?_⟩
  exact ds_seqAt (ds_sup (cs := ["Clean"]) (n := 2) (fn := m_Paper_i) (fun env => ⟨_, rfl⟩) (sup_ncx F T.sk_Clean sss_Clean_i A outer s H E) (FP2 T) (hr.mono (by decide)) takes_nc (da_cons de_str (da_cons (de_var (pv 1)) da_nil)) (sup_Clean T))
        (ds_cons (ds_fld (de_var (pv 0)) (de_ix (de_get (de_var (pv 0)) T.fld_parts (by rfl)) de_int) T.st_rows)
    ds_nil)
theorem FC {P : Program} {w : World} {K : PySem.W.Frag} {mg : Str → Option Value} {base : Heap} {a : Ad} (T : Txt P w K mg a) : FnB P w K mg base (L2.CX P w) 16 a.iClean (1 + 1) [] (spD K (GG a) m_Clean_i) := by
  obtain ⟨fd, F, h⟩ := okf_Clean (base := base) T
  exact FnOk.toD (π := none) h (FunC.kb F 2 [] none fun _ _ _ _ _ us ws l1 l2 => match us, ws, l1, l2 with | [_, _], [], _, _ => rfl)
theorem FCk {P : Program} {w : World} {K : PySem.W.Frag} {mg : Str → Option Value} {base : Heap} {a : Ad} (T : Txt P w K mg a) : FnB P w K mg base (L2.CX P w) 16 a.iClean (0 + 1) ["rows"] (spD K (GG a) m_Clean_i) := by
  obtain ⟨fd, F, h⟩ := okf_Clean (base := base) T
  exact FnOk.toD (π := none) h (FunC.kb F 1 ["rows"] none fun _ _ _ _ _ us ws l1 l2 => match us, ws, l1, l2 with | [_], [_], _, _ => rfl)

abbrev N_Fault_i : List Str := ["self", "what", "inputs", "full", "__class__"]
theorem nsc_Fault_i : NScope ["self", "what", "inputs", "full", "__class__"] ["self", "what", "inputs", "full"] ["__class__"] (defScope s_Fault_i) := nscope_by (by decide +kernel)
theorem sss_Fault_i : SupS s_Fault_i "self" ["self", "what", "inputs", "full", "__class__"] := ⟨by decide +kernel, by decide +kernel, by decide +kernel, ⟨_, rfl, rfl⟩, rfl⟩
def g_Fault_i : DenS :=
  (sSeq (sSup ["Fault"] m_Paper_i 4 (dCons (dC (.str "fault")) (dCons (dVar 1) (dCons (dVar 2) (dCons (dVar 3) dNil)))))
    (sSeq (sAsg (fun env st => ((dVar 0) env st).bind (kFld CI_parts CE_parts "parts")) (gTupD 3 (gsCons (gFldD EC (dVar 0) "what") (gsCons (gFldD EC (dVar 0) "inputs") (gsCons (gFldD EC (dVar 0) "full") gsNil)))))
    sNil))
def m_Fault_i : List D → Sto → Out D := mk 4 5 g_Fault_i
theorem sup_Fault {P : Program} {w : World} {K : PySem.W.Frag} {mg : Str → Option Value} {a : Ad} (T : Txt P w K mg a) : ∀ c ∈ ["Fault"], ∀ C, GG a c = some C → SupM K C a.Fault a.iPaper := fun c hc C h => by
  rw [List.mem_singleton] at hc
  subst hc
  have e : GG a "Fault" = some a.Fault := rfl
  rw [e] at h
  cases h
  exact T.sm_Fault
theorem okf_Fault {P : Program} {w : World} {K : PySem.W.Frag} {mg : Str → Option Value} {base : Heap} {a : Ad} (T : Txt P w K mg a) : ∃ fd, FunC K "__init__" "Fault.__init__" s_Fault_i a.iFault fd a.cFault a.xFault a.Fault ∧ FnOk P w K mg base (L2.CX P w) 16 a.iFault fd ["self", "what", "inputs", "full"] (spD K (GG a) m_Fault_i) := by
  obtain ⟨fd, F⟩ := T.F_Fault
  refine ⟨fd, F, fn_mS (k := 15) (g := g_Fault_i) F nsc_Fault_i fun A outer s H E hr => ?_⟩
  exact ds_seqAt (ds_sup (cs := ["Fault"]) (n := 4) (fn := m_Paper_i) (fun env => ⟨_, rfl⟩) (sup_ncx F T.sk_Fault sss_Fault_i A outer s H E) (FP4 T) (hr.mono (by decide)) takes_nc (da_cons de_str (da_cons (de_var (pv 1)) (da_cons (de_var (pv 2)) (da_cons (de_var (pv 3)) da_nil)))) (sup_Fault T))
        (ds_cons (ds_asg (de_get (de_var (pv 0)) T.fld_parts (by rfl)) (dg_tup (t := gTup K 0) (n := 3) (fun _ h => pg_tup rfl h) (dgs_cons (dg_fld (de_var (pv 0)) T.st_what) (dgs_cons (dg_fld (de_var (pv 0)) T.st_inputs) (dgs_cons (dg_fld (de_var (pv 0)) T.st_full) dgs_nil)))))
    ds_nil)

theorem FF {P : Program} {w : World} {K : PySem.W.Frag} {mg : Str → Option Value} {base : Heap} {a : Ad} (T : Txt P w K mg a) : FnB P w K mg base (L2.CX P w) 16 a.iFault (3 + 1) [] (spD K (GG a) m_Fault_i) := by
  obtain ⟨fd, F, h⟩ := okf_Fault (base := base) T
  exact FnOk.toD (π := none) h (FunC.kb F 4 [] none fun _ _ _ _ _ us ws l1 l2 => match us, ws, l1, l2 with | [_, _, _, _], [], _, _ => rfl)
theorem FFk {P : Program} {w : World} {K : PySem.W.Frag} {mg : Str → Option Value} {base : Heap} {a : Ad} (T : Txt P w K mg a) : FnB P w K mg base (L2.CX P w) 16 a.iFault (0 + 1) ["full", "inputs", "what"] (spD K (GG a) fun ds st => m_Fault_i (permO (some [0, 3, 2, 1]) ds) st) := by
  obtain ⟨fd, F, h⟩ := okf_Fault (base := base) T
  exact FnOk.toD (π := some [0, 3, 2, 1]) h (FunC.kb F 1 ["full", "inputs", "what"] (some [0, 3, 2, 1]) fun _ _ _ _ _ us ws l1 l2 => match us, ws, l1, l2 with | [_], [_, _, _], _, _ => rfl)
end K02

set_option Elab.async false
set_option linter.all false
set_option maxRecDepth 100000
set_option maxHeartbeats 8000000
namespace K02
open PySem PySem.Spec PyProof.Rows L2 StX NdefX DL

def BO : String → Option (List D → Sto → Out D) := fun c => if c = "Paper" ∨ c = "Clean" then some m_Paper_b else if c = "Denial" ∨ c = "Fault" then some m_Denial_b else none
theorem bo_ok {X : Cx} {a : Ad} (T : Txt X.prog X.w X.K X.mg a) : BoOk X (GG a) 1 BO := fun c fb h C gc => by
  unfold BO at h
  by_cases h1 : c = "Paper" ∨ c = "Clean"
  · rw [if_pos h1] at h
    cases h
    obtain ⟨q1, q2⟩ := T.bP c h1 C gc
    exact ⟨_, q1, q2, ok_Paper_b T⟩
  · rw [if_neg h1] at h
    by_cases h2 : c = "Denial" ∨ c = "Fault"
    · rw [if_pos h2] at h
      cases h
      obtain ⟨q1, q2⟩ := T.bD c h2 C gc
      exact ⟨_, q1, q2, ok_Denial_b T⟩
    · rw [if_neg h2] at h
      cases h
def fEqA : F2 := orF (fEqW false) (fOwn KN SB EC m_Paper_e false)
def fNeA : F2 := orF (fEqW true) (fOwn KN SB EC m_Paper_e true)
theorem nx_eqA : NoX2 fEqA := nox_or nox_eqW nox_own
theorem nx_neA : NoX2 fNeA := nox_or nox_eqW nox_own
theorem o_eqA {X : Cx} {a : Ad} (T : Txt X.prog X.w X.K X.mg a) (hr : Room 17 X.A) : OpR X (compareOp .Eq) (r2 X.K (GG a) fEqA) := opr_or (o_eqW (u64 hr)) (o_own rfl T.hN T.hS T.eqE T.inj (ok_Paper_e T) (hr.mono (by decide)))
theorem o_neA {X : Cx} {a : Ad} (T : Txt X.prog X.w X.K X.mg a) (hr : Room 17 X.A) : OpR X (compareOp .NotEq) (r2 X.K (GG a) fNeA) := opr_or (o_neW (u64 hr)) (o_own rfl T.hN T.hS T.eqE T.inj (ok_Paper_e T) (hr.mono (by decide)))

abbrev N_law : List Str := ["script", "pen", "turn", "value", "made", "told", "at", "one", "some", "papers", "spot", "is_one"]
theorem sc_law : FnScope ["script", "pen", "turn", "value", "made", "told", "at", "one", "some", "papers", "spot", "is_one"] ["script"] (defScope s_law) := ⟨rfl, rfl, rfl, by decide +kernel, rfl, by decide +kernel, by decide +kernel⟩
def g_law : DenS :=
  (sSeq (sAsg (dCall m_pen (aLen 1 (dCons (dVar 0) dNil))) (gN 1))
    (sSeq (sFor (iRange (dC (.int 6))) (gN 2) (sSeq (sAsg (dCall m_pick (aLen 2 (dCons (dVar 1) (dCons (dLst (dCons (dC .non) (dCons (dC (.int 5)) (dCons (dC (.str "part")) (dCons (dTup (dCons (dC (.int 1)) (dCons (dC (.int 2)) dNil))) (dCons (dC (.dic [(.inr "a", .int 1)])) dNil)))))) dNil)))) (gN 3))
    (sSeq (sAsg (dLst (dCons (dCall (mkExn "BadValue" ["part"]) (aLen 1 (dCons (dVar 3) dNil))) (dCons (dCall (mkExn "BadNumber" ["part"]) (aLen 1 (dCons (dVar 3) dNil))) (dCons (dCall (mkExn "Misfit" ["part"]) (aLen 1 (dCons (dVar 3) dNil))) (dCons (dCall (mkExn "Nothing" ["word"]) (aLen 1 (dCons (dVar 3) dNil))) (dCons (dCall (mkExn "BadCode" ["at"]) (aLen 1 (dCons (dVar 3) dNil))) (dCons (dCall (mkExn "BadFrees" ["at"]) (aLen 1 (dCons (dVar 3) dNil))) (dCons (dCall (mkExn "BadBytes" ["at"]) (aLen 1 (dCons (dVar 3) dNil))) (dCons (dCall (mkExn "BadText" ["line", "word"]) (aLen 2 (dCons (dVar 3) (dCons (dC (.int 3)) dNil)))) (dCons (dCall (mkExn "TooMany" ["what", "most"]) (aLen 2 (dCons (dVar 3) (dCons (dC (.int 7)) dNil)))) dNil)))))))))) (gN 4))
    (sSeq (sAsg (dLst (dCons (fun env st => ((dBin fIx (dVar 4) (dC (.int 0))) env st).bind (kFld CI_part CE_part "part")) (dCons (fun env st => ((dBin fIx (dVar 4) (dC (.int 1))) env st).bind (kFld CI_part CE_part "part")) (dCons (fun env st => ((dBin fIx (dVar 4) (dC (.int 2))) env st).bind (kFld CI_part CE_part "part")) (dCons (fun env st => ((dBin fIx (dVar 4) (dC (.int 3))) env st).bind (kFld CI_word CE_word "word")) (dCons (fun env st => ((dBin fIx (dVar 4) (dC (.int 4))) env st).bind (kFld CI_at CE_at "at")) (dCons (fun env st => ((dBin fIx (dVar 4) (dC (.int 5))) env st).bind (kFld CI_at CE_at "at")) (dCons (fun env st => ((dBin fIx (dVar 4) (dC (.int 6))) env st).bind (kFld CI_at CE_at "at")) (dCons (fun env st => ((dBin fIx (dVar 4) (dC (.int 7))) env st).bind (kFld CI_line CE_line "line")) (dCons (fun env st => ((dBin fIx (dVar 4) (dC (.int 8))) env st).bind (kFld CI_what CE_what "what")) dNil)))))))))) (gN 5))
    (sSeq (sIf (bOr (fun env st => toB (dBin fNeA (dCall fRepr (dCons (dVar 5) dNil)) (dCall fRepr (dCons (dBin fMul (dLst (dCons (dVar 3) dNil)) (dC (.int 9))) dNil)) env st)) (fun env st => toB (dBin fNeA (dTup (dCons (fun env st => ((dBin fIx (dVar 4) (dC (.int 7))) env st).bind (kFld CI_word CE_word "word")) (dCons (fun env st => ((dBin fIx (dVar 4) (dC (.int 8))) env st).bind (kFld CI_most CE_most "most")) dNil))) (dTup (dCons (dC (.int 3)) (dCons (dC (.int 7)) dNil))) env st))) (sSeq (sRet (dC (.bl false)))
    sNil) sNil)
    (sSeq (sFor (iEnumD (dCons (dVar 4) dNil)) (gTupD 2 (gsCons (gN 6) (gsCons (gN 7) gsNil))) (sSeq (sIf (bOr (fun env st => toB (dBin fNeA (dLc (iEnumD (dCons (dCall m_kinds (aLen 1 (dCons (dVar 7) dNil))) dNil)) [10, 11] (gtT [10, 11]) (fun env st => toB ((dVar 11) env st)) (dVar 10)) (dLst (dCons (dVar 6) dNil)) env st)) (bOr (bNot (fun env st => toB ((dCall (fIsi KN IS) (dCons (dVar 7) (dCons (dC (.cls "FreedError")) dNil))) env st))) (bNot (fun env st => toB ((dCall (fIsi KN IS) (dCons (dVar 7) (dCons (dC (.ty "ValueError")) dNil))) env st))))) (sSeq (sRet (dC (.bl false)))
    sNil) sNil)
    sNil))
    (sSeq (sAsg (dLst (dCons (dLst (dCons (dC (.int 1)) (dCons (dLst (dCons (dC (.int 2)) (dCons (dTup (dCons (dC (.int 3)) dNil)) dNil))) dNil))) (dCons (dCall m_draw (aLen 2 (dCons (dVar 1) (dCons (dC (.int 5)) dNil)))) (dCons (dLst (dCons (dC (.bl true)) (dCons (dC (.int 1)) dNil))) (dCons (dC .non) dNil))))) (gN 8))
    (sSeq (sAsg (dLst (dCons (dCall (mkIns "Clean" m_Clean_i) (aLen 1 (dCons (dBin fIx (dVar 8) (dC (.int 0))) dNil))) (dCons (dCall (mkIns "Fault" m_Fault_i) (aLen 3 (dCons (dBin fIx (dVar 8) (dC (.int 1))) (dCons (dBin fIx (dVar 8) (dC (.int 0))) (dCons (dBin fIx (dVar 8) (dC (.int 2))) dNil))))) dNil))) (gN 9))
    (sSeq (sIf (bOr (fun env st => toB (dBin fNeA (dLc (iSeq (dVar 9)) [7] (gtN 7) bYes (fun env st => ((dVar 7) env st).bind (kFld CI_word CE_word "word"))) (dLst (dCons (dC (.str "clean")) (dCons (dC (.str "fault")) dNil))) env st)) (bOr (fun env st => toB (dBin fNeA (dLc (iSeq (dVar 9)) [7] (gtN 7) bYes (dCall fLen (dCons (fun env st => ((dVar 7) env st).bind (kFld CI_parts CE_parts "parts")) dNil))) (dLst (dCons (dC (.int 1)) (dCons (dC (.int 3)) dNil))) env st)) (fun env st => toB (dBin fNeA (dLc (iSeq (dVar 9)) [7] (gtN 7) bYes (dCall (fBool BO) (dCons (dVar 7) dNil))) (dLst (dCons (dC (.bl true)) (dCons (dC (.bl false)) dNil))) env st)))) (sSeq (sRet (dC (.bl false)))
    sNil) sNil)
    (sSeq (sIf (fun env st => toB (dBin fNeA (dCall fRepr (dCons (dTup (dCons (fun env st => ((dBin fIx (dVar 9) (dC (.int 0))) env st).bind (kFld CI_rows CE_rows "rows")) (dCons (fun env st => ((dBin fIx (dVar 9) (dC (.int 1))) env st).bind (kFld CI_what CE_what "what")) (dCons (fun env st => ((dBin fIx (dVar 9) (dC (.int 1))) env st).bind (kFld CI_inputs CE_inputs "inputs")) (dCons (fun env st => ((dBin fIx (dVar 9) (dC (.int 1))) env st).bind (kFld CI_full CE_full "full")) dNil))))) dNil)) (dCall fRepr (dCons (dTup (dCons (dTup (dCons (dC (.int 1)) (dCons (dTup (dCons (dC (.int 2)) (dCons (dTup (dCons (dC (.int 3)) dNil)) dNil))) dNil))) (dCons (dBin fIx (dVar 8) (dC (.int 1))) (dCons (dTup (dCons (dC (.int 1)) (dCons (dTup (dCons (dC (.int 2)) (dCons (dTup (dCons (dC (.int 3)) dNil)) dNil))) dNil))) (dCons (dTup (dCons (dC (.bl true)) (dCons (dC (.int 1)) dNil))) dNil))))) dNil)) env st)) (sSeq (sRet (dC (.bl false)))
    sNil) sNil)
    (sSeq (sIf (bOr (fun env st => toB (dBin fNeA (dCall (mkIns "Fault" (fun ds st => m_Fault_i (permO (some [0, 3, 2, 1]) ds) st)) (aLen 3 (dCons (dLst (dCons (dC (.int 1)) dNil)) (dCons (dC (.int 2)) (dCons (dC (.int 3)) dNil))))) (dCall (mkIns "Fault" m_Fault_i) (aLen 3 (dCons (dC (.int 3)) (dCons (dC (.int 2)) (dCons (dTup (dCons (dC (.int 1)) dNil)) dNil))))) env st)) (bOr (fun env st => toB (dBin fEqA (dCall (mkIns "Fault" m_Fault_i) (aLen 3 (dCons (dC (.int 1)) (dCons (dC (.int 2)) (dCons (dC (.int 3)) dNil))))) (dCall (mkIns "Fault" m_Fault_i) (aLen 3 (dCons (dC (.bl true)) (dCons (dC (.int 2)) (dCons (dC (.int 3)) dNil))))) env st)) (bOr (fun env st => toB (dBin fNeA (dCall (mkIns "Clean" m_Clean_i) (aLen 1 (dCons (dC (.int 5)) dNil))) (dCall (mkIns "Clean" m_Clean_i) (aLen 1 (dCons (dC (.int 5)) dNil))) env st)) (bOr (fun env st => toB (dBin fEqA (dCall (mkIns "Clean" m_Clean_i) (aLen 1 (dCons (dC (.int 5)) dNil))) (dCall (mkIns "Paper" m_Paper_i) (aLen 2 (dCons (dC (.str "clean")) (dCons (dC (.int 5)) dNil)))) env st)) (fun env st => toB (dBin fEqA (dCall (mkIns "Fault" m_Fault_i) (aLen 3 (dCons (dC (.int 1)) (dCons (dC (.int 2)) (dCons (dC (.int 3)) dNil))))) (dCall (mkIns "Denial" m_Paper_i) (aLen 4 (dCons (dC (.str "fault")) (dCons (dC (.int 1)) (dCons (dC (.int 2)) (dCons (dC (.int 3)) dNil)))))) env st)))))) (sSeq (sRet (dC (.bl false)))
    sNil) sNil)
    (sSeq (sIf (bOr (fun env st => toB (dBin fNeA (dCall (mkIns "Paper" m_Paper_i) (aLen 2 (dCons (dC (.str "x")) (dCons (dLst (dCons (dC (.int 1)) dNil)) dNil)))) (dCall (mkIns "Paper" m_Paper_i) (aLen 2 (dCons (dC (.str "x")) (dCons (dTup (dCons (dC (.int 1)) dNil)) dNil)))) env st)) (bOr (fun env st => toB (dBin fEqA (dCall (mkIns "Paper" m_Paper_i) (aLen 1 (dCons (dC (.str "x")) dNil))) (dCall (mkIns "Denial" m_Paper_i) (aLen 1 (dCons (dC (.str "x")) dNil))) env st)) (bOr (bNot (fun env st => ((dCall (mkIns "Paper" m_Paper_i) (aLen 1 (dCons (dC (.str "x")) dNil))) env st).bind (truB BO))) (bOr (fun env st => ((dCall (mkIns "Denial" m_Paper_i) (aLen 2 (dCons (dC (.str "x")) (dCons (dC (.int 1)) dNil)))) env st).bind (truB BO)) (bOr (fun env st => toB (dBin fEqA (dCall (mkIns "Clean" m_Clean_i) (aLen 1 (dCons (dBin fIx (dVar 8) (dC (.int 0))) dNil))) (dTup (dCons (dC (.int 1)) (dCons (dTup (dCons (dC (.int 2)) (dCons (dTup (dCons (dC (.int 3)) dNil)) dNil))) dNil))) env st)) (fun env st => toB (dBin fEqA (dCall (mkIns "Paper" m_Paper_i) (aLen 2 (dCons (dC (.str "x")) (dCons (dC (.int 1)) dNil)))) (dCall (mkIns "Paper" m_Paper_i) (aLen 2 (dCons (dC (.str "y")) (dCons (dC (.int 1)) dNil)))) env st))))))) (sSeq (sRet (dC (.bl false)))
    sNil) sNil)
    sNil))))))))))))
    (sSeq (sRet (dC (.bl true)))
    sNil)))
def m_law : List D → Sto → Out D := mk 1 12 g_law
theorem ok_law {P : Program} {w : World} {K : PySem.W.Frag} {mg : Str → Option Value} {base : Heap} {a : Ad} (T : Txt P w K mg a) {fd : FuncData} (F : Fun K "law" "law" s_law a.law fd) (hroom : Room 18 callerA) : FnAt callerA P w K mg base (L2.CX P w) a.law fd ["script"] (spD K (GG a) m_law) := by
  have hgd : callerA.guards = some [] := rfl
  refine fn_mA (k := 17) (g := g_law) F sc_law hroom (by decide) fun cdv outer s H E hr => ?_
  exact     (ds_cons (ds_asg (de_callA (fn := m_pen) (ok_pen T) (hr.mono (by decide)) (by rfl) T.g__law_pen T.k__law_pen takes_cx (dc_pos (n := 1) (da_cons (de_var (pv 0)) da_nil))) (dg_name (pg_name (i := 1) sc_law.nd rfl (.inl rfl))))
    (ds_cons (ds_for passes_cx rfl (di_range (by rfl) T.n_range de_int) (dg_name (pg_name (i := 2) sc_law.nd rfl (.inl rfl))) (ds_cons (ds_asg (de_callA (fn := m_pick) (ok_pick T) (hr.mono (by decide)) (by rfl) T.g__law_pick T.k__law_pick takes_cx (dc_pos (n := 2) (da_cons (de_var (pv 1)) (da_cons (de_lst (da_cons de_non (da_cons de_int (da_cons de_str (da_cons (de_tup (da_cons de_int (da_cons de_int da_nil))) (da_cons de_dict1 da_nil)))))) da_nil)))) (dg_name (pg_name (i := 3) sc_law.nd rfl (.inl rfl))))
    (ds_cons (ds_asg (de_lst (da_cons (de_mkx (c := "BadValue") rfl T.se_BadValue T.nf_BadValue T.i_BadValue T.ti_BadValue (FX_BadValue T) (hr.mono (by decide)) (by rfl) T.g_BadValue takes_cx (dc_kw0 (ks := ["part"]) (dk_cons (de_var (pv 3)) dk_nil))) (da_cons (de_mkx (c := "BadNumber") rfl T.se_BadNumber T.nf_BadNumber T.i_BadNumber T.ti_BadNumber (FX_BadNumber T) (hr.mono (by decide)) (by rfl) T.g_BadNumber takes_cx (dc_kw0 (ks := ["part"]) (dk_cons (de_var (pv 3)) dk_nil))) (da_cons (de_mkx (c := "Misfit") rfl T.se_Misfit T.nf_Misfit T.i_Misfit T.ti_Misfit (FX_Misfit T) (hr.mono (by decide)) (by rfl) T.g_Misfit takes_cx (dc_kw0 (ks := ["part"]) (dk_cons (de_var (pv 3)) dk_nil))) (da_cons (de_mkx (c := "Nothing") rfl T.se_Nothing T.nf_Nothing T.i_Nothing T.ti_Nothing (FX_Nothing T) (hr.mono (by decide)) (by rfl) T.g_Nothing takes_cx (dc_kw0 (ks := ["word"]) (dk_cons (de_var (pv 3)) dk_nil))) (da_cons (de_mkx (c := "BadCode") rfl T.se_BadCode T.nf_BadCode T.i_BadCode T.ti_BadCode (FX_BadCode T) (hr.mono (by decide)) (by rfl) T.g_BadCode takes_cx (dc_kw0 (ks := ["at"]) (dk_cons (de_var (pv 3)) dk_nil))) (da_cons (de_mkx (c := "BadFrees") rfl T.se_BadFrees T.nf_BadFrees T.i_BadFrees T.ti_BadFrees (FX_BadFrees T) (hr.mono (by decide)) (by rfl) T.g_BadFrees takes_cx (dc_kw0 (ks := ["at"]) (dk_cons (de_var (pv 3)) dk_nil))) (da_cons (de_mkx (c := "BadBytes") rfl T.se_BadBytes T.nf_BadBytes T.i_BadBytes T.ti_BadBytes (FX_BadBytes T) (hr.mono (by decide)) (by rfl) T.g_BadBytes takes_cx (dc_kw0 (ks := ["at"]) (dk_cons (de_var (pv 3)) dk_nil))) (da_cons (de_mkx (c := "BadText") rfl T.se_BadText T.nf_BadText T.i_BadText T.ti_BadText (FX_BadText T) (hr.mono (by decide)) (by rfl) T.g_BadText takes_cx (dc_kw0 (ks := ["line", "word"]) (dk_cons (de_var (pv 3)) (dk_cons de_int dk_nil)))) (da_cons (de_mkx (c := "TooMany") rfl T.se_TooMany T.nf_TooMany T.i_TooMany T.ti_TooMany (FX_TooMany T) (hr.mono (by decide)) (by rfl) T.g_TooMany takes_cx (dc_kw0 (ks := ["what", "most"]) (dk_cons (de_var (pv 3)) (dk_cons de_int dk_nil)))) da_nil)))))))))) (dg_name (pg_name (i := 4) sc_law.nd rfl (.inl rfl))))
    (ds_cons (ds_asg (de_lst (da_cons (de_get (de_ix (de_var (pv 4)) de_int) T.fld_part (by rfl)) (da_cons (de_get (de_ix (de_var (pv 4)) de_int) T.fld_part (by rfl)) (da_cons (de_get (de_ix (de_var (pv 4)) de_int) T.fld_part (by rfl)) (da_cons (de_get (de_ix (de_var (pv 4)) de_int) T.fld_word (by rfl)) (da_cons (de_get (de_ix (de_var (pv 4)) de_int) T.fld_at (by rfl)) (da_cons (de_get (de_ix (de_var (pv 4)) de_int) T.fld_at (by rfl)) (da_cons (de_get (de_ix (de_var (pv 4)) de_int) T.fld_at (by rfl)) (da_cons (de_get (de_ix (de_var (pv 4)) de_int) T.fld_line (by rfl)) (da_cons (de_get (de_ix (de_var (pv 4)) de_int) T.fld_what (by rfl)) da_nil)))))))))) (dg_name (pg_name (i := 5) sc_law.nd rfl (.inl rfl))))
    (ds_cons (ds_if (db_of (dbw_or (db_cmp (o_neA T hr) nx_neA (de_callB (c_repr hgd (u64 hr)) nox_repr (by rfl) T.n_repr (by decide +kernel) (da_cons (de_var (pv 5)) da_nil)) (de_callB (c_repr hgd (u64 hr)) nox_repr (by rfl) T.n_repr (by decide +kernel) (da_cons (de_op o_mul nx_mul (de_lst (da_cons (de_var (pv 3)) da_nil)) de_int) da_nil))) (dbw_or1 (db_cmp (o_neA T hr) nx_neA (de_tup (da_cons (de_get (de_ix (de_var (pv 4)) de_int) T.fld_word (by rfl)) (da_cons (de_get (de_ix (de_var (pv 4)) de_int) T.fld_most (by rfl)) da_nil))) (de_tup (da_cons de_int (da_cons de_int da_nil))))))) (ds_cons (ds_ret de_bl)
    ds_nil) ds_nil)
    (ds_cons (ds_for passes_cx rfl (di_enum (by rfl) T.n_enumerate (da_cons (de_var (pv 4)) da_nil)) (dg_tup (t := gTup K 0) (n := 2) (fun _ h => pg_tup rfl h) (dgs_cons (dg_name (pg_name (i := 6) sc_law.nd rfl (.inl rfl))) (dgs_cons (dg_name (pg_name (i := 7) sc_law.nd rfl (.inl rfl))) dgs_nil))) (ds_cons (ds_if (db_of (dbw_or (db_cmp (o_neA T hr) nx_neA (de_lc (own := [("spot", 10), ("is_one", 11)]) (gi := (iEnumD (dCons (dCall m_kinds (aLen 1 (dCons (dVar 7) dNil))) dNil))) (gt := (gtT [10, 11])) (gf := (fun env st => toB ((dVar 11) env st))) (ge := (dVar 10)) rfl sc_law.nd (di_enum (by rfl) T.n_enumerate (da_cons (de_callA (fn := m_kinds) (ok_kinds T) (hr.mono (by decide)) (by rfl) T.g__law_kinds_of T.k__law_kinds_of takes_cx (dc_pos (n := 1) (da_cons (de_var (pv 7)) da_nil))) da_nil)) (blkOk_by (own := [("spot", 10), ("is_one", 11)]) (N := N_law) (sc := defScope s_law) (by decide +kernel)) (fun _ _ _ _ _ => pg_tup rfl (pgs_cons (pg_name (i := 10) sc_law.nd rfl (Or.inl rfl)) (pgs_cons (pg_name (i := 11) sc_law.nd rfl (Or.inl rfl)) pgs_nil))) (tg_tup (is := [10, 11]) (by decide)) (fun _ _ _ _ _ => dts_one (db_val (de_var (pv 11)))) (fun _ _ _ _ _ => (de_var (pv 10)))) (de_lst (da_cons (de_var (pv 6)) da_nil))) (dbw_or (db_not (db_val (de_callB (call_isiD T.hN T.hI) nox_isi (by rfl) T.n_isinstance (by decide +kernel) (da_cons (de_var (pv 7)) (da_cons (de_cls (by rfl) T.g_FreedError rfl) da_nil))))) (dbw_or1 (db_not (db_val (de_callB (call_isiD T.hN T.hI) nox_isi (by rfl) T.n_isinstance (by decide +kernel) (da_cons (de_var (pv 7)) (da_cons (de_ty (by rfl) T.n_ValueError (by decide +kernel)) da_nil))))))))) (ds_cons (ds_ret de_bl)
    ds_nil) ds_nil)
    ds_nil) (fun a b c => ps_for passes_cx rfl a b c))
    (ds_cons (ds_asg (de_lst (da_cons (de_lst (da_cons de_int (da_cons (de_lst (da_cons de_int (da_cons (de_tup (da_cons de_int da_nil)) da_nil))) da_nil))) (da_cons (de_callA (fn := m_draw) (ok_draw T) (hr.mono (by decide)) (by rfl) T.g__law_draw T.k__law_draw takes_cx (dc_pos (n := 2) (da_cons (de_var (pv 1)) (da_cons de_int da_nil)))) (da_cons (de_lst (da_cons de_bl (da_cons de_int da_nil))) (da_cons de_non da_nil))))) (dg_name (pg_name (i := 8) sc_law.nd rfl (.inl rfl))))
    (ds_cons (ds_asg (de_lst (da_cons (de_makeA (c := "Clean") (fi := m_Clean_i) rfl T.mk_Clean (FC T) (hr.mono (by decide)) (by rfl) T.g_Clean takes_cx (dc_pos (n := 1) (da_cons (de_ix (de_var (pv 8)) de_int) da_nil))) (da_cons (de_makeA (c := "Fault") (fi := m_Fault_i) rfl T.mk_Fault (FF T) (hr.mono (by decide)) (by rfl) T.g_Fault takes_cx (dc_pos (n := 3) (da_cons (de_ix (de_var (pv 8)) de_int) (da_cons (de_ix (de_var (pv 8)) de_int) (da_cons (de_ix (de_var (pv 8)) de_int) da_nil))))) da_nil))) (dg_name (pg_name (i := 9) sc_law.nd rfl (.inl rfl))))
    (ds_cons (ds_if (db_of (dbw_or (db_cmp (o_neA T hr) nx_neA (de_lc (own := [("one", 7)]) (gi := (iSeq (dVar 9))) (gt := (gtN 7)) (gf := bYes) (ge := (fun env st => ((dVar 7) env st).bind (kFld CI_word CE_word "word"))) rfl sc_law.nd (di_seq (de_var (pv 9))) (blkOk_by (own := [("one", 7)]) (N := N_law) (sc := defScope s_law) (by decide +kernel)) (fun _ _ _ _ _ => pg_name (i := 7) sc_law.nd rfl (Or.inl rfl)) (tg_name (by decide)) (fun _ _ _ _ _ => dts_nil) (fun _ _ _ _ _ => (de_get (de_var (pv 7)) T.fld_word (by rfl)))) (de_lst (da_cons de_str (da_cons de_str da_nil)))) (dbw_or (db_cmp (o_neA T hr) nx_neA (de_lc (own := [("one", 7)]) (gi := (iSeq (dVar 9))) (gt := (gtN 7)) (gf := bYes) (ge := (dCall fLen (dCons (fun env st => ((dVar 7) env st).bind (kFld CI_parts CE_parts "parts")) dNil))) rfl sc_law.nd (di_seq (de_var (pv 9))) (blkOk_by (own := [("one", 7)]) (N := N_law) (sc := defScope s_law) (by decide +kernel)) (fun _ _ _ _ _ => pg_name (i := 7) sc_law.nd rfl (Or.inl rfl)) (tg_name (by decide)) (fun _ _ _ _ _ => dts_nil) (fun _ _ _ _ _ => (de_callB c_len nox_len (by rfl) T.n_len (by decide +kernel) (da_cons (de_get (de_var (pv 7)) T.fld_parts (by rfl)) da_nil)))) (de_lst (da_cons de_int (da_cons de_int da_nil)))) (dbw_or1 (db_cmp (o_neA T hr) nx_neA (de_lc (own := [("one", 7)]) (gi := (iSeq (dVar 9))) (gt := (gtN 7)) (gf := bYes) (ge := (dCall (fBool BO) (dCons (dVar 7) dNil))) rfl sc_law.nd (di_seq (de_var (pv 9))) (blkOk_by (own := [("one", 7)]) (N := N_law) (sc := defScope s_law) (by decide +kernel)) (fun _ _ _ _ _ => pg_name (i := 7) sc_law.nd rfl (Or.inl rfl)) (tg_name (by decide)) (fun _ _ _ _ _ => dts_nil) (fun _ _ _ _ _ => (de_callTy (c_bool (k := 1) (bo_ok T) (hr.mono (by decide))) nox_bool (by rfl) T.n_bool (by decide +kernel) (da_cons (de_var (pv 7)) da_nil)))) (de_lst (da_cons de_bl (da_cons de_bl da_nil)))))))) (ds_cons (ds_ret de_bl)
    ds_nil) ds_nil)
    (ds_cons (ds_if (db_cmp (o_neA T hr) nx_neA (de_callB (c_repr hgd (u64 hr)) nox_repr (by rfl) T.n_repr (by decide +kernel) (da_cons (de_tup (da_cons (de_get (de_ix (de_var (pv 9)) de_int) T.fld_rows (by rfl)) (da_cons (de_get (de_ix (de_var (pv 9)) de_int) T.fld_what (by rfl)) (da_cons (de_get (de_ix (de_var (pv 9)) de_int) T.fld_inputs (by rfl)) (da_cons (de_get (de_ix (de_var (pv 9)) de_int) T.fld_full (by rfl)) da_nil))))) da_nil)) (de_callB (c_repr hgd (u64 hr)) nox_repr (by rfl) T.n_repr (by decide +kernel) (da_cons (de_tup (da_cons (de_tup (da_cons de_int (da_cons (de_tup (da_cons de_int (da_cons (de_tup (da_cons de_int da_nil)) da_nil))) da_nil))) (da_cons (de_ix (de_var (pv 8)) de_int) (da_cons (de_tup (da_cons de_int (da_cons (de_tup (da_cons de_int (da_cons (de_tup (da_cons de_int da_nil)) da_nil))) da_nil))) (da_cons (de_tup (da_cons de_bl (da_cons de_int da_nil))) da_nil))))) da_nil))) (ds_cons (ds_ret de_bl)
    ds_nil) ds_nil)
    (ds_cons (ds_if (db_of (dbw_or (db_cmp (o_neA T hr) nx_neA (de_makeA (c := "Fault") (fi := (fun ds st => m_Fault_i (permO (some [0, 3, 2, 1]) ds) st)) rfl T.mk_Fault (FFk T) (hr.mono (by decide)) (by rfl) T.g_Fault takes_cx (dc_kw0 (ks := ["full", "inputs", "what"]) (dk_cons (de_lst (da_cons de_int da_nil)) (dk_cons de_int (dk_cons de_int dk_nil))))) (de_makeA (c := "Fault") (fi := m_Fault_i) rfl T.mk_Fault (FF T) (hr.mono (by decide)) (by rfl) T.g_Fault takes_cx (dc_pos (n := 3) (da_cons de_int (da_cons de_int (da_cons (de_tup (da_cons de_int da_nil)) da_nil)))))) (dbw_or (db_cmp (o_eqA T hr) nx_eqA (de_makeA (c := "Fault") (fi := m_Fault_i) rfl T.mk_Fault (FF T) (hr.mono (by decide)) (by rfl) T.g_Fault takes_cx (dc_pos (n := 3) (da_cons de_int (da_cons de_int (da_cons de_int da_nil))))) (de_makeA (c := "Fault") (fi := m_Fault_i) rfl T.mk_Fault (FF T) (hr.mono (by decide)) (by rfl) T.g_Fault takes_cx (dc_pos (n := 3) (da_cons de_bl (da_cons de_int (da_cons de_int da_nil)))))) (dbw_or (db_cmp (o_neA T hr) nx_neA (de_makeA (c := "Clean") (fi := m_Clean_i) rfl T.mk_Clean (FCk T) (hr.mono (by decide)) (by rfl) T.g_Clean takes_cx (dc_kw0 (ks := ["rows"]) (dk_cons de_int dk_nil))) (de_makeA (c := "Clean") (fi := m_Clean_i) rfl T.mk_Clean (FC T) (hr.mono (by decide)) (by rfl) T.g_Clean takes_cx (dc_pos (n := 1) (da_cons de_int da_nil)))) (dbw_or (db_cmp (o_eqA T hr) nx_eqA (de_makeA (c := "Clean") (fi := m_Clean_i) rfl T.mk_Clean (FC T) (hr.mono (by decide)) (by rfl) T.g_Clean takes_cx (dc_pos (n := 1) (da_cons de_int da_nil))) (de_makeA (c := "Paper") (fi := m_Paper_i) rfl T.mk_Paper (FP2 T) (hr.mono (by decide)) (by rfl) T.g_Paper takes_cx (dc_pos (n := 2) (da_cons de_str (da_cons de_int da_nil))))) (dbw_or1 (db_cmp (o_eqA T hr) nx_eqA (de_makeA (c := "Fault") (fi := m_Fault_i) rfl T.mk_Fault (FF T) (hr.mono (by decide)) (by rfl) T.g_Fault takes_cx (dc_pos (n := 3) (da_cons de_int (da_cons de_int (da_cons de_int da_nil))))) (de_makeA (c := "Denial") (fi := m_Paper_i) rfl T.mk_Denial (FP4 T) (hr.mono (by decide)) (by rfl) T.g_Denial takes_cx (dc_pos (n := 4) (da_cons de_str (da_cons de_int (da_cons de_int (da_cons de_int da_nil))))))))))))) (ds_cons (ds_ret de_bl)
    ds_nil) ds_nil)
    (ds_cons (ds_if (db_of (dbw_or (db_cmp (o_neA T hr) nx_neA (de_makeA (c := "Paper") (fi := m_Paper_i) rfl T.mk_Paper (FP2 T) (hr.mono (by decide)) (by rfl) T.g_Paper takes_cx (dc_pos (n := 2) (da_cons de_str (da_cons (de_lst (da_cons de_int da_nil)) da_nil)))) (de_makeA (c := "Paper") (fi := m_Paper_i) rfl T.mk_Paper (FP2 T) (hr.mono (by decide)) (by rfl) T.g_Paper takes_cx (dc_pos (n := 2) (da_cons de_str (da_cons (de_tup (da_cons de_int da_nil)) da_nil))))) (dbw_or (db_cmp (o_eqA T hr) nx_eqA (de_makeA (c := "Paper") (fi := m_Paper_i) rfl T.mk_Paper (FPk T) (hr.mono (by decide)) (by rfl) T.g_Paper takes_cx (dc_kw0 (ks := ["word"]) (dk_cons de_str dk_nil))) (de_makeA (c := "Denial") (fi := m_Paper_i) rfl T.mk_Denial (FP1 T) (hr.mono (by decide)) (by rfl) T.g_Denial takes_cx (dc_pos (n := 1) (da_cons de_str da_nil)))) (dbw_or (db_not (db_tru (bo_ok T) (hr.mono (by decide)) (de_makeA (c := "Paper") (fi := m_Paper_i) rfl T.mk_Paper (FP1 T) (hr.mono (by decide)) (by rfl) T.g_Paper takes_cx (dc_pos (n := 1) (da_cons de_str da_nil))))) (dbw_or (db_tru (bo_ok T) (hr.mono (by decide)) (de_makeA (c := "Denial") (fi := m_Paper_i) rfl T.mk_Denial (FP2 T) (hr.mono (by decide)) (by rfl) T.g_Denial takes_cx (dc_pos (n := 2) (da_cons de_str (da_cons de_int da_nil))))) (dbw_or (db_cmp (o_eqA T hr) nx_eqA (de_makeA (c := "Clean") (fi := m_Clean_i) rfl T.mk_Clean (FC T) (hr.mono (by decide)) (by rfl) T.g_Clean takes_cx (dc_pos (n := 1) (da_cons (de_ix (de_var (pv 8)) de_int) da_nil))) (de_tup (da_cons de_int (da_cons (de_tup (da_cons de_int (da_cons (de_tup (da_cons de_int da_nil)) da_nil))) da_nil)))) (dbw_or1 (db_cmp (o_eqA T hr) nx_eqA (de_makeA (c := "Paper") (fi := m_Paper_i) rfl T.mk_Paper (FP2 T) (hr.mono (by decide)) (by rfl) T.g_Paper takes_cx (dc_pos (n := 2) (da_cons de_str (da_cons de_int da_nil)))) (de_makeA (c := "Paper") (fi := m_Paper_i) rfl T.mk_Paper (FP2 T) (hr.mono (by decide)) (by rfl) T.g_Paper takes_cx (dc_pos (n := 2) (da_cons de_str (da_cons de_int da_nil)))))))))))) (ds_cons (ds_ret de_bl)
    ds_nil) ds_nil)
    ds_nil))))))))))) (fun a b c => ps_for passes_cx rfl a b c))
    (ds_cons (ds_ret de_bl)
    ds_nil)))
end K02

set_option Elab.async false
set_option linter.all false
set_option maxRecDepth 100000
set_option maxHeartbeats 8000000
namespace K02
open PySem PySem.Spec PyProof.Rows L2 StX NdefX DL
def b_pick : DenS := (sAsg (dCall m_pick (aLen 2 (dCons (dVar 1) (dCons (dLst (dCons (dC .non) (dCons (dC (.int 5)) (dCons (dC (.str "part")) (dCons (dTup (dCons (dC (.int 1)) (dCons (dC (.int 2)) dNil))) (dCons (dC (.dic [(.inr "a", .int 1)])) dNil)))))) dNil)))) (gN 3))
def b_made : DenS := (sAsg (dLst (dCons (dCall (mkExn "BadValue" ["part"]) (aLen 1 (dCons (dVar 3) dNil))) (dCons (dCall (mkExn "BadNumber" ["part"]) (aLen 1 (dCons (dVar 3) dNil))) (dCons (dCall (mkExn "Misfit" ["part"]) (aLen 1 (dCons (dVar 3) dNil))) (dCons (dCall (mkExn "Nothing" ["word"]) (aLen 1 (dCons (dVar 3) dNil))) (dCons (dCall (mkExn "BadCode" ["at"]) (aLen 1 (dCons (dVar 3) dNil))) (dCons (dCall (mkExn "BadFrees" ["at"]) (aLen 1 (dCons (dVar 3) dNil))) (dCons (dCall (mkExn "BadBytes" ["at"]) (aLen 1 (dCons (dVar 3) dNil))) (dCons (dCall (mkExn "BadText" ["line", "word"]) (aLen 2 (dCons (dVar 3) (dCons (dC (.int 3)) dNil)))) (dCons (dCall (mkExn "TooMany" ["what", "most"]) (aLen 2 (dCons (dVar 3) (dCons (dC (.int 7)) dNil)))) dNil)))))))))) (gN 4))
def b_told : DenS := (sAsg (dLst (dCons (fun env st => ((dBin fIx (dVar 4) (dC (.int 0))) env st).bind (kFld CI_part CE_part "part")) (dCons (fun env st => ((dBin fIx (dVar 4) (dC (.int 1))) env st).bind (kFld CI_part CE_part "part")) (dCons (fun env st => ((dBin fIx (dVar 4) (dC (.int 2))) env st).bind (kFld CI_part CE_part "part")) (dCons (fun env st => ((dBin fIx (dVar 4) (dC (.int 3))) env st).bind (kFld CI_word CE_word "word")) (dCons (fun env st => ((dBin fIx (dVar 4) (dC (.int 4))) env st).bind (kFld CI_at CE_at "at")) (dCons (fun env st => ((dBin fIx (dVar 4) (dC (.int 5))) env st).bind (kFld CI_at CE_at "at")) (dCons (fun env st => ((dBin fIx (dVar 4) (dC (.int 6))) env st).bind (kFld CI_at CE_at "at")) (dCons (fun env st => ((dBin fIx (dVar 4) (dC (.int 7))) env st).bind (kFld CI_line CE_line "line")) (dCons (fun env st => ((dBin fIx (dVar 4) (dC (.int 8))) env st).bind (kFld CI_what CE_what "what")) dNil)))))))))) (gN 5))
def b_if1 : DenS := (sIf (bOr (fun env st => toB (dBin fNeA (dCall fRepr (dCons (dVar 5) dNil)) (dCall fRepr (dCons (dBin fMul (dLst (dCons (dVar 3) dNil)) (dC (.int 9))) dNil)) env st)) (fun env st => toB (dBin fNeA (dTup (dCons (fun env st => ((dBin fIx (dVar 4) (dC (.int 7))) env st).bind (kFld CI_word CE_word "word")) (dCons (fun env st => ((dBin fIx (dVar 4) (dC (.int 8))) env st).bind (kFld CI_most CE_most "most")) dNil))) (dTup (dCons (dC (.int 3)) (dCons (dC (.int 7)) dNil))) env st))) (sSeq (sRet (dC (.bl false)))
    sNil) sNil)
def b_for1 : DenS := (sFor (iEnumD (dCons (dVar 4) dNil)) (gTupD 2 (gsCons (gN 6) (gsCons (gN 7) gsNil))) (sSeq (sIf (bOr (fun env st => toB (dBin fNeA (dLc (iEnumD (dCons (dCall m_kinds (aLen 1 (dCons (dVar 7) dNil))) dNil)) [10, 11] (gtT [10, 11]) (fun env st => toB ((dVar 11) env st)) (dVar 10)) (dLst (dCons (dVar 6) dNil)) env st)) (bOr (bNot (fun env st => toB ((dCall (fIsi KN IS) (dCons (dVar 7) (dCons (dC (.cls "FreedError")) dNil))) env st))) (bNot (fun env st => toB ((dCall (fIsi KN IS) (dCons (dVar 7) (dCons (dC (.ty "ValueError")) dNil))) env st))))) (sSeq (sRet (dC (.bl false)))
    sNil) sNil)
    sNil))
def b_some : DenS := (sAsg (dLst (dCons (dLst (dCons (dC (.int 1)) (dCons (dLst (dCons (dC (.int 2)) (dCons (dTup (dCons (dC (.int 3)) dNil)) dNil))) dNil))) (dCons (dCall m_draw (aLen 2 (dCons (dVar 1) (dCons (dC (.int 5)) dNil)))) (dCons (dLst (dCons (dC (.bl true)) (dCons (dC (.int 1)) dNil))) (dCons (dC .non) dNil))))) (gN 8))
def b_papers : DenS := (sAsg (dLst (dCons (dCall (mkIns "Clean" m_Clean_i) (aLen 1 (dCons (dBin fIx (dVar 8) (dC (.int 0))) dNil))) (dCons (dCall (mkIns "Fault" m_Fault_i) (aLen 3 (dCons (dBin fIx (dVar 8) (dC (.int 1))) (dCons (dBin fIx (dVar 8) (dC (.int 0))) (dCons (dBin fIx (dVar 8) (dC (.int 2))) dNil))))) dNil))) (gN 9))
def b_if2 : DenS := (sIf (bOr (fun env st => toB (dBin fNeA (dLc (iSeq (dVar 9)) [7] (gtN 7) bYes (fun env st => ((dVar 7) env st).bind (kFld CI_word CE_word "word"))) (dLst (dCons (dC (.str "clean")) (dCons (dC (.str "fault")) dNil))) env st)) (bOr (fun env st => toB (dBin fNeA (dLc (iSeq (dVar 9)) [7] (gtN 7) bYes (dCall fLen (dCons (fun env st => ((dVar 7) env st).bind (kFld CI_parts CE_parts "parts")) dNil))) (dLst (dCons (dC (.int 1)) (dCons (dC (.int 3)) dNil))) env st)) (fun env st => toB (dBin fNeA (dLc (iSeq (dVar 9)) [7] (gtN 7) bYes (dCall (fBool BO) (dCons (dVar 7) dNil))) (dLst (dCons (dC (.bl true)) (dCons (dC (.bl false)) dNil))) env st)))) (sSeq (sRet (dC (.bl false)))
    sNil) sNil)
def b_if3 : DenS := (sIf (fun env st => toB (dBin fNeA (dCall fRepr (dCons (dTup (dCons (fun env st => ((dBin fIx (dVar 9) (dC (.int 0))) env st).bind (kFld CI_rows CE_rows "rows")) (dCons (fun env st => ((dBin fIx (dVar 9) (dC (.int 1))) env st).bind (kFld CI_what CE_what "what")) (dCons (fun env st => ((dBin fIx (dVar 9) (dC (.int 1))) env st).bind (kFld CI_inputs CE_inputs "inputs")) (dCons (fun env st => ((dBin fIx (dVar 9) (dC (.int 1))) env st).bind (kFld CI_full CE_full "full")) dNil))))) dNil)) (dCall fRepr (dCons (dTup (dCons (dTup (dCons (dC (.int 1)) (dCons (dTup (dCons (dC (.int 2)) (dCons (dTup (dCons (dC (.int 3)) dNil)) dNil))) dNil))) (dCons (dBin fIx (dVar 8) (dC (.int 1))) (dCons (dTup (dCons (dC (.int 1)) (dCons (dTup (dCons (dC (.int 2)) (dCons (dTup (dCons (dC (.int 3)) dNil)) dNil))) dNil))) (dCons (dTup (dCons (dC (.bl true)) (dCons (dC (.int 1)) dNil))) dNil))))) dNil)) env st)) (sSeq (sRet (dC (.bl false)))
    sNil) sNil)
def b_if4 : DenS := (sIf (bOr (fun env st => toB (dBin fNeA (dCall (mkIns "Fault" (fun ds st => m_Fault_i (permO (some [0, 3, 2, 1]) ds) st)) (aLen 3 (dCons (dLst (dCons (dC (.int 1)) dNil)) (dCons (dC (.int 2)) (dCons (dC (.int 3)) dNil))))) (dCall (mkIns "Fault" m_Fault_i) (aLen 3 (dCons (dC (.int 3)) (dCons (dC (.int 2)) (dCons (dTup (dCons (dC (.int 1)) dNil)) dNil))))) env st)) (bOr (fun env st => toB (dBin fEqA (dCall (mkIns "Fault" m_Fault_i) (aLen 3 (dCons (dC (.int 1)) (dCons (dC (.int 2)) (dCons (dC (.int 3)) dNil))))) (dCall (mkIns "Fault" m_Fault_i) (aLen 3 (dCons (dC (.bl true)) (dCons (dC (.int 2)) (dCons (dC (.int 3)) dNil))))) env st)) (bOr (fun env st => toB (dBin fNeA (dCall (mkIns "Clean" m_Clean_i) (aLen 1 (dCons (dC (.int 5)) dNil))) (dCall (mkIns "Clean" m_Clean_i) (aLen 1 (dCons (dC (.int 5)) dNil))) env st)) (bOr (fun env st => toB (dBin fEqA (dCall (mkIns "Clean" m_Clean_i) (aLen 1 (dCons (dC (.int 5)) dNil))) (dCall (mkIns "Paper" m_Paper_i) (aLen 2 (dCons (dC (.str "clean")) (dCons (dC (.int 5)) dNil)))) env st)) (fun env st => toB (dBin fEqA (dCall (mkIns "Fault" m_Fault_i) (aLen 3 (dCons (dC (.int 1)) (dCons (dC (.int 2)) (dCons (dC (.int 3)) dNil))))) (dCall (mkIns "Denial" m_Paper_i) (aLen 4 (dCons (dC (.str "fault")) (dCons (dC (.int 1)) (dCons (dC (.int 2)) (dCons (dC (.int 3)) dNil)))))) env st)))))) (sSeq (sRet (dC (.bl false)))
    sNil) sNil)
def b_if5 : DenS := (sIf (bOr (fun env st => toB (dBin fNeA (dCall (mkIns "Paper" m_Paper_i) (aLen 2 (dCons (dC (.str "x")) (dCons (dLst (dCons (dC (.int 1)) dNil)) dNil)))) (dCall (mkIns "Paper" m_Paper_i) (aLen 2 (dCons (dC (.str "x")) (dCons (dTup (dCons (dC (.int 1)) dNil)) dNil)))) env st)) (bOr (fun env st => toB (dBin fEqA (dCall (mkIns "Paper" m_Paper_i) (aLen 1 (dCons (dC (.str "x")) dNil))) (dCall (mkIns "Denial" m_Paper_i) (aLen 1 (dCons (dC (.str "x")) dNil))) env st)) (bOr (bNot (fun env st => ((dCall (mkIns "Paper" m_Paper_i) (aLen 1 (dCons (dC (.str "x")) dNil))) env st).bind (truB BO))) (bOr (fun env st => ((dCall (mkIns "Denial" m_Paper_i) (aLen 2 (dCons (dC (.str "x")) (dCons (dC (.int 1)) dNil)))) env st).bind (truB BO)) (bOr (fun env st => toB (dBin fEqA (dCall (mkIns "Clean" m_Clean_i) (aLen 1 (dCons (dBin fIx (dVar 8) (dC (.int 0))) dNil))) (dTup (dCons (dC (.int 1)) (dCons (dTup (dCons (dC (.int 2)) (dCons (dTup (dCons (dC (.int 3)) dNil)) dNil))) dNil))) env st)) (fun env st => toB (dBin fEqA (dCall (mkIns "Paper" m_Paper_i) (aLen 2 (dCons (dC (.str "x")) (dCons (dC (.int 1)) dNil)))) (dCall (mkIns "Paper" m_Paper_i) (aLen 2 (dCons (dC (.str "y")) (dCons (dC (.int 1)) dNil)))) env st))))))) (sSeq (sRet (dC (.bl false)))
    sNil) sNil)
def b_turn : DenS := (sSeq b_pick (sSeq b_made (sSeq b_told (sSeq b_if1 (sSeq b_for1 (sSeq b_some (sSeq b_papers (sSeq b_if2 (sSeq b_if3 (sSeq b_if4 (sSeq b_if5 sNil)))))))))))
theorem law_eq : g_law = sSeq (sAsg (dCall m_pen (aLen 1 (dCons (dVar 0) dNil))) (gN 1)) (sSeq (sFor (iRange (dC (.int 6))) (gN 2) b_turn) (sSeq (sRet (dC (.bl true))) sNil)) := rfl
def madeV (v : D) : List D := [.exn "BadValue" [("part", v)], .exn "BadNumber" [("part", v)], .exn "Misfit" [("part", v)], .exn "Nothing" [("word", v)], .exn "BadCode" [("at", v)], .exn "BadFrees" [("at", v)], .exn "BadBytes" [("at", v)], .exn "BadText" [("word", .int 3), ("line", v)], .exn "TooMany" [("most", .int 7), ("what", v)]]
def vals : List D := [.non, .int 5, .str "part", .tup [.int 1, .int 2], .dic [(.inr "a", .int 1)]]
def someV (i : Int) : List D := [.lst [.int 1, .lst [.int 2, .tup [.int 3]]], .int i, .lst [.bl true, .int 1], .non]
def one3 : D := .tup [.int 1, .tup [.int 2, .tup [.int 3]]]
def papV (i : Int) : List D := [.ins "Clean" [("word", .str "clean"), ("parts", .tup [one3]), ("rows", one3)], .ins "Fault" [("word", .str "fault"), ("parts", .tup [.int i, one3, .tup [.bl true, .int 1]]), ("what", .int i), ("inputs", one3), ("full", .tup [.bl true, .int 1])]]
def Le (st st' : Sto) : Prop := st.n ≤ st'.n ∧ ∀ j, j < st.n → st'.m j = st.m j
theorem Le.pen {st st' : Sto} (h : Le st st') (p : PenAt st) : PenAt st' := by
  obtain ⟨hn, s, hs⟩ := p
  exact ⟨Nat.le_trans hn h.1, s, (h.2 0 hn).trans hs⟩
theorem Le.trans {a b c : Sto} (h : Le a b) (h' : Le b c) : Le a c := ⟨Nat.le_trans h.1 h'.1, fun j hj => (h'.2 j (Nat.lt_of_lt_of_le hj h.1)).trans (h.2 j hj)⟩
/-- a test that fails -/
def FB (g : DenB) (env : DEnv) : Prop := ∀ st, ∃ st', g env st = .ok false st' ∧ Le st st'
theorem or_f {g h : DenB} {env : DEnv} (a : FB g env) (b : FB h env) : FB (bOr g h) env := fun st => by
  obtain ⟨s1, h1, l1⟩ := a st
  obtain ⟨s2, h2, l2⟩ := b s1
  refine ⟨s2, ?_, l1.trans l2⟩
  unfold bOr
  rw [h1]
  exact h2
theorem if_f {t : DenB} {g : DenS} {env : DEnv} (a : FB t env) (st : Sto) : ∃ st', sIf t g sNil env st = .nx env st' ∧ Le st st' := by
  obtain ⟨s1, h1, l1⟩ := a st
  refine ⟨s1, ?_, l1⟩
  unfold sIf
  rw [h1]
  rfl
theorem sq {g r : DenS} {e e1 : DEnv} {st st1 : Sto} {o : SOut} (h : g e st = .nx e1 st1) (h' : r e1 st1 = o) : sSeq g r e st = o := by
  unfold sSeq
  rw [h]
  exact h'

theorem made_eq {e4 e0 e1 e2 e5 e6 e7 e8 e9 e10 e11 : Option D} {v : D} (st : Sto) : b_made [e0, e1, e2, some v, e4, e5, e6, e7, e8, e9, e10, e11] st = .nx [e0, e1, e2, some v, some (.lst (madeV v)), e5, e6, e7, e8, e9, e10, e11] st := by cbv
theorem told_eq {e0 e1 e2 e5 e6 e7 e8 e9 e10 e11 : Option D} {v : D} (st : Sto) : b_told [e0, e1, e2, some v, some (.lst (madeV v)), e5, e6, e7, e8, e9, e10, e11] st = .nx [e0, e1, e2, some v, some (.lst (madeV v)), some (.lst [v, v, v, v, v, v, v, v, v]), e6, e7, e8, e9, e10, e11] st := by cbv
theorem if1_eq {e0 e1 e2 e6 e7 e8 e9 e10 e11 : Option D} {v : D} (hv : v ∈ vals) (st : Sto) : b_if1 [e0, e1, e2, some v, some (.lst (madeV v)), some (.lst [v, v, v, v, v, v, v, v, v]), e6, e7, e8, e9, e10, e11] st = .nx [e0, e1, e2, some v, some (.lst (madeV v)), some (.lst [v, v, v, v, v, v, v, v, v]), e6, e7, e8, e9, e10, e11] st := by
  simp only [vals, List.mem_cons, List.not_mem_nil, or_false] at hv
  rcases hv with h | h | h | h | h <;> subst h <;> cbv
theorem for1_eq {e0 e1 e2 e3 e5 e6 e7 e8 e9 e10 e11 : Option D} {v : D} (st : Sto) : b_for1 [e0, e1, e2, e3, some (.lst (madeV v)), e5, e6, e7, e8, e9, e10, e11] st = .nx [e0, e1, e2, e3, some (.lst (madeV v)), e5, some (.int 8), some (.exn "TooMany" [("most", .int 7), ("what", v)]), e8, e9, e10, e11] st := by cbv
theorem papers_eq {e0 e1 e2 e3 e4 e5 e6 e7 e9 e10 e11 : Option D} {i : Int} (st : Sto) : ∃ st', b_papers [e0, e1, e2, e3, e4, e5, e6, e7, some (.lst (someV i)), e9, e10, e11] st = .nx [e0, e1, e2, e3, e4, e5, e6, e7, some (.lst (someV i)), some (.lst (papV i)), e10, e11] st' ∧ Le st st' := by
  obtain ⟨n, m⟩ := st
  generalize hh : b_papers [e0, e1, e2, e3, e4, e5, e6, e7, some (.lst (someV i)), e9, e10, e11] ⟨n, m⟩ = o
  cbv at hh
  subst hh
  refine ⟨_, rfl, ?_, fun j hj => ?_⟩
  · first | exact Nat.le_refl _ | (simp <;> omega) | omega
  · dsimp only at hj ⊢
    try simp (disch := omega) [if_neg]
theorem if2_eq {e0 e1 e2 e3 e4 e5 e6 e7 e10 e11 : Option D} {i : Int} (st : Sto) : b_if2 [e0, e1, e2, e3, e4, e5, e6, e7, some (.lst (someV i)), some (.lst (papV i)), e10, e11] st = .nx [e0, e1, e2, e3, e4, e5, e6, e7, some (.lst (someV i)), some (.lst (papV i)), e10, e11] st := by cbv
theorem if3_eq {e0 e1 e2 e3 e4 e5 e6 e7 e10 e11 : Option D} {i : Int} (h0 : 0 ≤ i) (h5 : i < 5) (st : Sto) : b_if3 [e0, e1, e2, e3, e4, e5, e6, e7, some (.lst (someV i)), some (.lst (papV i)), e10, e11] st = .nx [e0, e1, e2, e3, e4, e5, e6, e7, some (.lst (someV i)), some (.lst (papV i)), e10, e11] st := by
  have : i = 0 ∨ i = 1 ∨ i = 2 ∨ i = 3 ∨ i = 4 := by omega
  rcases this with h | h | h | h | h <;> subst h <;> cbv
def c_if4_0 : DenB := (fun env st => toB (dBin fNeA (dCall (mkIns "Fault" (fun ds st => m_Fault_i (permO (some [0, 3, 2, 1]) ds) st)) (aLen 3 (dCons (dLst (dCons (dC (.int 1)) dNil)) (dCons (dC (.int 2)) (dCons (dC (.int 3)) dNil))))) (dCall (mkIns "Fault" m_Fault_i) (aLen 3 (dCons (dC (.int 3)) (dCons (dC (.int 2)) (dCons (dTup (dCons (dC (.int 1)) dNil)) dNil))))) env st))
theorem f_if4_0 {e0 e1 e2 e3 e4 e5 e6 e7 e8 e9 e10 e11 : Option D} : FB c_if4_0 [e0, e1, e2, e3, e4, e5, e6, e7, e8, e9, e10, e11] := fun st => by
  obtain ⟨n, m⟩ := st
  generalize hh : c_if4_0 [e0, e1, e2, e3, e4, e5, e6, e7, e8, e9, e10, e11] ⟨n, m⟩ = o
  cbv at hh
  subst hh
  refine ⟨_, rfl, ?_, fun j hj => ?_⟩
  · first | exact Nat.le_refl _ | (simp <;> omega) | omega
  · dsimp only at hj ⊢
    try simp (disch := omega) [if_neg]
def c_if4_1 : DenB := (fun env st => toB (dBin fEqA (dCall (mkIns "Fault" m_Fault_i) (aLen 3 (dCons (dC (.int 1)) (dCons (dC (.int 2)) (dCons (dC (.int 3)) dNil))))) (dCall (mkIns "Fault" m_Fault_i) (aLen 3 (dCons (dC (.bl true)) (dCons (dC (.int 2)) (dCons (dC (.int 3)) dNil))))) env st))
theorem f_if4_1 {e0 e1 e2 e3 e4 e5 e6 e7 e8 e9 e10 e11 : Option D} : FB c_if4_1 [e0, e1, e2, e3, e4, e5, e6, e7, e8, e9, e10, e11] := fun st => by
  obtain ⟨n, m⟩ := st
  generalize hh : c_if4_1 [e0, e1, e2, e3, e4, e5, e6, e7, e8, e9, e10, e11] ⟨n, m⟩ = o
  cbv at hh
  subst hh
  refine ⟨_, rfl, ?_, fun j hj => ?_⟩
  · first | exact Nat.le_refl _ | (simp <;> omega) | omega
  · dsimp only at hj ⊢
    try simp (disch := omega) [if_neg]
def c_if4_2 : DenB := (fun env st => toB (dBin fNeA (dCall (mkIns "Clean" m_Clean_i) (aLen 1 (dCons (dC (.int 5)) dNil))) (dCall (mkIns "Clean" m_Clean_i) (aLen 1 (dCons (dC (.int 5)) dNil))) env st))
theorem f_if4_2 {e0 e1 e2 e3 e4 e5 e6 e7 e8 e9 e10 e11 : Option D} : FB c_if4_2 [e0, e1, e2, e3, e4, e5, e6, e7, e8, e9, e10, e11] := fun st => by
  obtain ⟨n, m⟩ := st
  generalize hh : c_if4_2 [e0, e1, e2, e3, e4, e5, e6, e7, e8, e9, e10, e11] ⟨n, m⟩ = o
  cbv at hh
  subst hh
  refine ⟨_, rfl, ?_, fun j hj => ?_⟩
  · first | exact Nat.le_refl _ | (simp <;> omega) | omega
  · dsimp only at hj ⊢
    try simp (disch := omega) [if_neg]
def c_if4_3 : DenB := (fun env st => toB (dBin fEqA (dCall (mkIns "Clean" m_Clean_i) (aLen 1 (dCons (dC (.int 5)) dNil))) (dCall (mkIns "Paper" m_Paper_i) (aLen 2 (dCons (dC (.str "clean")) (dCons (dC (.int 5)) dNil)))) env st))
theorem f_if4_3 {e0 e1 e2 e3 e4 e5 e6 e7 e8 e9 e10 e11 : Option D} : FB c_if4_3 [e0, e1, e2, e3, e4, e5, e6, e7, e8, e9, e10, e11] := fun st => by
  obtain ⟨n, m⟩ := st
  generalize hh : c_if4_3 [e0, e1, e2, e3, e4, e5, e6, e7, e8, e9, e10, e11] ⟨n, m⟩ = o
  cbv at hh
  subst hh
  refine ⟨_, rfl, ?_, fun j hj => ?_⟩
  · first | exact Nat.le_refl _ | (simp <;> omega) | omega
  · dsimp only at hj ⊢
    try simp (disch := omega) [if_neg]
def c_if4_4 : DenB := (fun env st => toB (dBin fEqA (dCall (mkIns "Fault" m_Fault_i) (aLen 3 (dCons (dC (.int 1)) (dCons (dC (.int 2)) (dCons (dC (.int 3)) dNil))))) (dCall (mkIns "Denial" m_Paper_i) (aLen 4 (dCons (dC (.str "fault")) (dCons (dC (.int 1)) (dCons (dC (.int 2)) (dCons (dC (.int 3)) dNil)))))) env st))
theorem f_if4_4 {e0 e1 e2 e3 e4 e5 e6 e7 e8 e9 e10 e11 : Option D} : FB c_if4_4 [e0, e1, e2, e3, e4, e5, e6, e7, e8, e9, e10, e11] := fun st => by
  obtain ⟨n, m⟩ := st
  generalize hh : c_if4_4 [e0, e1, e2, e3, e4, e5, e6, e7, e8, e9, e10, e11] ⟨n, m⟩ = o
  cbv at hh
  subst hh
  refine ⟨_, rfl, ?_, fun j hj => ?_⟩
  · first | exact Nat.le_refl _ | (simp <;> omega) | omega
  · dsimp only at hj ⊢
    try simp (disch := omega) [if_neg]
theorem if4_eq {e0 e1 e2 e3 e4 e5 e6 e7 e8 e9 e10 e11 : Option D} (st : Sto) : ∃ st', b_if4 [e0, e1, e2, e3, e4, e5, e6, e7, e8, e9, e10, e11] st = .nx [e0, e1, e2, e3, e4, e5, e6, e7, e8, e9, e10, e11] st' ∧ Le st st' := if_f (or_f f_if4_0 (or_f f_if4_1 (or_f f_if4_2 (or_f f_if4_3 f_if4_4)))) st
def c_if5_0 : DenB := (fun env st => toB (dBin fNeA (dCall (mkIns "Paper" m_Paper_i) (aLen 2 (dCons (dC (.str "x")) (dCons (dLst (dCons (dC (.int 1)) dNil)) dNil)))) (dCall (mkIns "Paper" m_Paper_i) (aLen 2 (dCons (dC (.str "x")) (dCons (dTup (dCons (dC (.int 1)) dNil)) dNil)))) env st))
theorem f_if5_0 {e0 e1 e2 e3 e4 e5 e6 e7 e9 e10 e11 : Option D} {i : Int} : FB c_if5_0 [e0, e1, e2, e3, e4, e5, e6, e7, some (.lst (someV i)), e9, e10, e11] := fun st => by
  obtain ⟨n, m⟩ := st
  generalize hh : c_if5_0 [e0, e1, e2, e3, e4, e5, e6, e7, some (.lst (someV i)), e9, e10, e11] ⟨n, m⟩ = o
  cbv at hh
  subst hh
  refine ⟨_, rfl, ?_, fun j hj => ?_⟩
  · first | exact Nat.le_refl _ | (simp <;> omega) | omega
  · dsimp only at hj ⊢
    try simp (disch := omega) [if_neg]
def c_if5_1 : DenB := (fun env st => toB (dBin fEqA (dCall (mkIns "Paper" m_Paper_i) (aLen 1 (dCons (dC (.str "x")) dNil))) (dCall (mkIns "Denial" m_Paper_i) (aLen 1 (dCons (dC (.str "x")) dNil))) env st))
theorem f_if5_1 {e0 e1 e2 e3 e4 e5 e6 e7 e9 e10 e11 : Option D} {i : Int} : FB c_if5_1 [e0, e1, e2, e3, e4, e5, e6, e7, some (.lst (someV i)), e9, e10, e11] := fun st => by
  obtain ⟨n, m⟩ := st
  generalize hh : c_if5_1 [e0, e1, e2, e3, e4, e5, e6, e7, some (.lst (someV i)), e9, e10, e11] ⟨n, m⟩ = o
  cbv at hh
  subst hh
  refine ⟨_, rfl, ?_, fun j hj => ?_⟩
  · first | exact Nat.le_refl _ | (simp <;> omega) | omega
  · dsimp only at hj ⊢
    try simp (disch := omega) [if_neg]
def c_if5_2 : DenB := (bNot (fun env st => ((dCall (mkIns "Paper" m_Paper_i) (aLen 1 (dCons (dC (.str "x")) dNil))) env st).bind (truB BO)))
theorem f_if5_2 {e0 e1 e2 e3 e4 e5 e6 e7 e9 e10 e11 : Option D} {i : Int} : FB c_if5_2 [e0, e1, e2, e3, e4, e5, e6, e7, some (.lst (someV i)), e9, e10, e11] := fun st => by
  obtain ⟨n, m⟩ := st
  generalize hh : c_if5_2 [e0, e1, e2, e3, e4, e5, e6, e7, some (.lst (someV i)), e9, e10, e11] ⟨n, m⟩ = o
  cbv at hh
  subst hh
  refine ⟨_, rfl, ?_, fun j hj => ?_⟩
  · first | exact Nat.le_refl _ | (simp <;> omega) | omega
  · dsimp only at hj ⊢
    try simp (disch := omega) [if_neg]
def c_if5_3 : DenB := (fun env st => ((dCall (mkIns "Denial" m_Paper_i) (aLen 2 (dCons (dC (.str "x")) (dCons (dC (.int 1)) dNil)))) env st).bind (truB BO))
theorem f_if5_3 {e0 e1 e2 e3 e4 e5 e6 e7 e9 e10 e11 : Option D} {i : Int} : FB c_if5_3 [e0, e1, e2, e3, e4, e5, e6, e7, some (.lst (someV i)), e9, e10, e11] := fun st => by
  obtain ⟨n, m⟩ := st
  generalize hh : c_if5_3 [e0, e1, e2, e3, e4, e5, e6, e7, some (.lst (someV i)), e9, e10, e11] ⟨n, m⟩ = o
  cbv at hh
  subst hh
  refine ⟨_, rfl, ?_, fun j hj => ?_⟩
  · first | exact Nat.le_refl _ | (simp <;> omega) | omega
  · dsimp only at hj ⊢
    try simp (disch := omega) [if_neg]
def c_if5_4 : DenB := (fun env st => toB (dBin fEqA (dCall (mkIns "Clean" m_Clean_i) (aLen 1 (dCons (dBin fIx (dVar 8) (dC (.int 0))) dNil))) (dTup (dCons (dC (.int 1)) (dCons (dTup (dCons (dC (.int 2)) (dCons (dTup (dCons (dC (.int 3)) dNil)) dNil))) dNil))) env st))
theorem f_if5_4 {e0 e1 e2 e3 e4 e5 e6 e7 e9 e10 e11 : Option D} {i : Int} : FB c_if5_4 [e0, e1, e2, e3, e4, e5, e6, e7, some (.lst (someV i)), e9, e10, e11] := fun st => by
  obtain ⟨n, m⟩ := st
  generalize hh : c_if5_4 [e0, e1, e2, e3, e4, e5, e6, e7, some (.lst (someV i)), e9, e10, e11] ⟨n, m⟩ = o
  cbv at hh
  subst hh
  refine ⟨_, rfl, ?_, fun j hj => ?_⟩
  · first | exact Nat.le_refl _ | (simp <;> omega) | omega
  · dsimp only at hj ⊢
    try simp (disch := omega) [if_neg]
def c_if5_5 : DenB := (fun env st => toB (dBin fEqA (dCall (mkIns "Paper" m_Paper_i) (aLen 2 (dCons (dC (.str "x")) (dCons (dC (.int 1)) dNil)))) (dCall (mkIns "Paper" m_Paper_i) (aLen 2 (dCons (dC (.str "y")) (dCons (dC (.int 1)) dNil)))) env st))
theorem f_if5_5 {e0 e1 e2 e3 e4 e5 e6 e7 e9 e10 e11 : Option D} {i : Int} : FB c_if5_5 [e0, e1, e2, e3, e4, e5, e6, e7, some (.lst (someV i)), e9, e10, e11] := fun st => by
  obtain ⟨n, m⟩ := st
  generalize hh : c_if5_5 [e0, e1, e2, e3, e4, e5, e6, e7, some (.lst (someV i)), e9, e10, e11] ⟨n, m⟩ = o
  cbv at hh
  subst hh
  refine ⟨_, rfl, ?_, fun j hj => ?_⟩
  · first | exact Nat.le_refl _ | (simp <;> omega) | omega
  · dsimp only at hj ⊢
    try simp (disch := omega) [if_neg]
theorem if5_eq {e0 e1 e2 e3 e4 e5 e6 e7 e9 e10 e11 : Option D} {i : Int} (st : Sto) : ∃ st', b_if5 [e0, e1, e2, e3, e4, e5, e6, e7, some (.lst (someV i)), e9, e10, e11] st = .nx [e0, e1, e2, e3, e4, e5, e6, e7, some (.lst (someV i)), e9, e10, e11] st' ∧ Le st st' := if_f (or_f f_if5_0 (or_f f_if5_1 (or_f f_if5_2 (or_f f_if5_3 (or_f f_if5_4 f_if5_5))))) st
end K02

set_option Elab.async false
set_option linter.all false
set_option maxRecDepth 100000
set_option maxHeartbeats 8000000
namespace K02
open PySem PySem.Spec PyProof.Rows L2 StX NdefX DL
theorem bs_cons {a : Den} {r : DenA} {env : DEnv} {st st1 st2 : Sto} {x : D} {xs : List D} (h : a env st = .ok x st1) (h' : r env st1 = .ok xs st2) : dCons a r env st = .ok (x :: xs) st2 := by
  unfold dCons
  rw [h]
  show (r env st1).bind _ = _
  rw [h']
  rfl
theorem bs_call {fn : List D → Sto → Out D} {g : DenA} {env : DEnv} {st st1 : Sto} {xs : List D} {o : Out D} (h : g env st = .ok xs st1) (h' : fn xs st1 = o) : dCall fn g env st = o := by
  unfold dCall
  rw [h]
  exact h'
theorem bs_lst {g : DenA} {env : DEnv} {st st1 : Sto} {xs : List D} (h : g env st = .ok xs st1) (hl : xs.length ≤ 10000000) : dLst g env st = .ok (.lst xs) st1 := by
  unfold dLst
  rw [h]
  exact if_pos hl
theorem bs_asgN {g : Den} {i : Nat} {env : DEnv} {st st1 : Sto} {x : D} (h : g env st = .ok x st1) : sAsg g (gN i) env st = .nx (env.set i (some x)) st1 := by
  unfold sAsg
  rw [h]
  rfl
theorem pick_law {st : Sto} (h : PenAt st) : ∃ (v : D) (st' : Sto), m_pick [.ref 0, .lst vals] st = .ok v st' ∧ v ∈ vals ∧ PenAt st' := by
  obtain ⟨i, st1, h1, h2, h3, h4⟩ := draw_law (j := 5) (by decide) h
  have h1' : m_draw [.ref 0, .int 5] st = .ok (.int i) st1 := h1
  have key : ∀ v, fIx (.lst vals) (.int i) st1 = .ok v st1 → m_pick [.ref 0, .lst vals] st = .ok v st1 := fun v hv => by
    show runBody 2 g_pick [.ref 0, .lst vals] st = _
    have e : dBin fIx (dVar 1) (dCall m_draw (aLen 2 (dCons (dVar 0) (dCons (dCall fLen (dCons (dVar 1) dNil)) dNil)))) [some (.ref 0), some (.lst vals)] st = .ok v st1 := bs_bin rfl (bs_call (xs := [.ref 0, .int 5]) rfl h1') hv
    unfold runBody g_pick
    show (match (((dBin fIx (dVar 1) (dCall m_draw (aLen 2 (dCons (dVar 0) (dCons (dCall fLen (dCons (dVar 1) dNil)) dNil)))) [some (.ref 0), some (.lst vals)] st).go _ _).seq _ : SOut) with | .nx _ st1 => Out.ok D.non st1 | .rt d st1 => .ok d st1 | .exc c fs _ st1 => .exc c fs st1 | _ => .bad) = _
    rw [e]
    rfl
  have : i = 0 ∨ i = 1 ∨ i = 2 ∨ i = 3 ∨ i = 4 := by omega
  rcases this with h | h | h | h | h <;> subst h
  · exact ⟨_, st1, key _ rfl, by simp [vals], h4⟩
  · exact ⟨_, st1, key _ rfl, by simp [vals], h4⟩
  · exact ⟨_, st1, key _ rfl, by simp [vals], h4⟩
  · exact ⟨_, st1, key _ rfl, by simp [vals], h4⟩
  · exact ⟨_, st1, key _ rfl, by simp [vals], h4⟩
/-- the law's slots between turns -/
def Sh (env : DEnv) : Prop := ∃ e0 e2 e3 e4 e5 e6 e7 e8 e9 e10 e11, env = [e0, some (.ref 0), e2, e3, e4, e5, e6, e7, e8, e9, e10, e11]
theorem turn_law {env : DEnv} {st : Sto} (he : Sh env) (h : PenAt st) : ∃ env' st', b_turn env st = .nx env' st' ∧ Sh env' ∧ PenAt st' := by
  obtain ⟨e0, e2, e3, e4, e5, e6, e7, e8, e9, e10, e11, rfl⟩ := he
  obtain ⟨v, s1, p1, hv, q1⟩ := pick_law h
  obtain ⟨i, s2, p2, i0, i5, q2⟩ := draw_law (j := 5) (by decide) q1
  have p2' : m_draw [.ref 0, .int 5] s1 = .ok (.int i) s2 := p2
  have hpick : b_pick [e0, some (.ref 0), e2, e3, e4, e5, e6, e7, e8, e9, e10, e11] st = .nx [e0, some (.ref 0), e2, some v, e4, e5, e6, e7, e8, e9, e10, e11] s1 := bs_asgN (bs_call (xs := [.ref 0, .lst vals]) rfl p1)
  have hsome : ∀ (x0 x2 x3 x4 x5 x6 x7 x8 x9 x10 x11 : Option D), b_some [x0, some (.ref 0), x2, x3, x4, x5, x6, x7, x8, x9, x10, x11] s1 = .nx [x0, some (.ref 0), x2, x3, x4, x5, x6, x7, some (.lst (someV i)), x9, x10, x11] s2 := fun _ _ _ _ _ _ _ _ _ _ _ =>
    bs_asgN (bs_lst (xs := someV i) (bs_cons rfl (bs_cons (bs_call (xs := [.ref 0, .int 5]) rfl p2') (bs_cons rfl (bs_cons rfl rfl)))) (by show 4 ≤ 10000000; decide))
  obtain ⟨s3, p3, l3⟩ := papers_eq (e0 := e0) (e1 := some (.ref 0)) (e2 := e2) (e3 := some v) (e4 := some (.lst (madeV v))) (e5 := some (.lst [v, v, v, v, v, v, v, v, v])) (e6 := some (.int 8)) (e7 := some (.exn "TooMany" [("most", .int 7), ("what", v)])) (e9 := e9) (e10 := e10) (e11 := e11) (i := i) s2
  obtain ⟨s4, p4, l4⟩ := if4_eq (e0 := e0) (e1 := some (.ref 0)) (e2 := e2) (e3 := some v) (e4 := some (.lst (madeV v))) (e5 := some (.lst [v, v, v, v, v, v, v, v, v])) (e6 := some (.int 8)) (e7 := some (.exn "TooMany" [("most", .int 7), ("what", v)])) (e8 := some (.lst (someV i))) (e9 := some (.lst (papV i))) (e10 := e10) (e11 := e11) s3
  obtain ⟨s5, p5, l5⟩ := if5_eq (e0 := e0) (e1 := some (.ref 0)) (e2 := e2) (e3 := some v) (e4 := some (.lst (madeV v))) (e5 := some (.lst [v, v, v, v, v, v, v, v, v])) (e6 := some (.int 8)) (e7 := some (.exn "TooMany" [("most", .int 7), ("what", v)])) (e9 := some (.lst (papV i))) (e10 := e10) (e11 := e11) (i := i) s4
  exact ⟨_, s5, sq hpick (sq (made_eq s1) (sq (told_eq s1) (sq (if1_eq hv s1) (sq (for1_eq s1) (sq (hsome _ _ _ _ _ _ _ _ _ _ _) (sq p3 (sq (if2_eq s3) (sq (if3_eq i0 i5 s3) (sq p4 (sq p5 rfl)))))))))), ⟨_, _, _, _, _, _, _, _, _, _, _, rfl⟩, l5.pen (l4.pen (l3.pen q2))⟩
theorem turns_law : ∀ (ds : List D) (env : DEnv) (st : Sto), Sh env → PenAt st → ∃ env' st', forRun (gN 2) b_turn ds env st = .nx env' st' ∧ Sh env' ∧ PenAt st'
  | [], env, st, he, h => ⟨env, st, rfl, he, h⟩
  | d :: ds, env, st, he, h => by
    have he1 : Sh (env.set 2 (some d)) := by
      obtain ⟨e0, e2, e3, e4, e5, e6, e7, e8, e9, e10, e11, rfl⟩ := he
      exact ⟨_, _, _, _, _, _, _, _, _, _, _, rfl⟩
    obtain ⟨env1, st1, p1, he2, h2⟩ := turn_law he1 h
    obtain ⟨env2, st2, p2, he3, h3⟩ := turns_law ds env1 st1 he2 h2
    refine ⟨env2, st2, ?_, he3, h3⟩
    show (match b_turn (env.set 2 (some d)) st with
      | .nx env2 st2 => forRun (gN 2) b_turn ds env2 st2
      | .ct env2 st2 => forRun (gN 2) b_turn ds env2 st2
      | .bk env2 st2 => .nx env2 st2
      | .bad => .bad
      | .rt d st2 => .rt d st2
      | .exc c fs env2 st2 => .exc c fs env2 st2 : SOut) = _
    rw [p1]
    exact p2
theorem law_true (ns : List Int) : ∃ st, m_law [.rdl (ns.map D.int)] ⟨0, fun _ => none⟩ = .ok (.bl true) st := by
  obtain ⟨s1, p1, q1⟩ := pen_law (c := 71655) ns
  have p1' : m_pen [.rdl (ns.map D.int)] ⟨0, fun _ => none⟩ = .ok (.ref 0) s1 := p1
  obtain ⟨env', s2, p2, _, q2⟩ := turns_law (rangeD 6) [some (.rdl (ns.map D.int)), some (.ref 0), none, none, none, none, none, none, none, none, none, none] s1 ⟨_, _, _, _, _, _, _, _, _, _, _, rfl⟩ q1
  have e : g_law [some (.rdl (ns.map D.int)), none, none, none, none, none, none, none, none, none, none, none] ⟨0, fun _ => none⟩ = .rt (.bl true) s2 := by
    rw [law_eq]
    refine sq (bs_asgN (bs_call (xs := [.rdl (ns.map D.int)]) rfl p1')) (sq (e1 := env') (st1 := s2) ?_ rfl)
    show forRun (gN 2) b_turn (rangeD 6) [some (.rdl (ns.map D.int)), some (.ref 0), none, none, none, none, none, none, none, none, none, none] s1 = _
    exact p2
  refine ⟨s2, ?_⟩
  show (match g_law [some (.rdl (ns.map D.int)), none, none, none, none, none, none, none, none, none, none, none] ⟨0, fun _ => none⟩ with | .nx _ st1 => Out.ok D.non st1 | .rt d st1 => .ok d st1 | .exc c fs _ st1 => .exc c fs st1 | _ => .bad) = _
  rw [e]
end K02

set_option Elab.async false
set_option linter.all false
set_option maxRecDepth 100000
set_option maxHeartbeats 8000000
namespace K02
open PySem PySem.Spec PyProof.Rows L2 StX NdefX DL
def ckNone (K : PySem.W.Frag) : Bool := noneB K ["isinstance", "list", "tuple", "bool", "len", "int", "all", "zip", "range", "enumerate", "repr", "ValueError", "super"]
def ckKeep (K : PySem.W.Frag) (a : Ad) : Bool := [a.fixed, a.are_alike, a.pen, a.draw, a.pick, a.kinds].all fun f => PySem.W.keepIn K (.ref f)
def ckKN (K : PySem.W.Frag) (a : Ad) : Bool := knownB K (GG a) KN
def kinds0 : List TK := (XC ++ EC).map .own ++ ["NoneType", "int", "str", "tuple", "list", "dict", "bool"].map .bt
def ckIS (K : PySem.W.Frag) (a : Ad) : Bool := pairB (GG a) IS (PySem.W.kitOne K) kinds0 tgts
def ckSB (K : PySem.W.Frag) (a : Ad) : Bool := pairB (GG a) (fun k t => match t with | .own c => SB k c | _ => none) (PySem.W.subIn K) kinds0 (EC.map .own)
def xB (P : Program) (K : PySem.W.Frag) (C i c : Addr) (fs : List Str) : Bool := supEB K C C && fs.all (fun f => nay (PySem.W.findIn K (.ref C) f)) && yesR (PySem.W.findIn K (.ref C) "__init__") i && decide (PySem.W.typeIn K (.ref i) = some (.type "function")) && skB P K c C
def ckX_BadValue (P : Program) (K : PySem.W.Frag) (a : Ad) : Bool := xB P K a.BadValue a.iBadValue a.cBadValue ["part"]
def ckX_BadNumber (P : Program) (K : PySem.W.Frag) (a : Ad) : Bool := xB P K a.BadNumber a.iBadNumber a.cBadNumber ["part"]
def ckX_BadCode (P : Program) (K : PySem.W.Frag) (a : Ad) : Bool := xB P K a.BadCode a.iBadCode a.cBadCode ["at"]
def ckX_BadFrees (P : Program) (K : PySem.W.Frag) (a : Ad) : Bool := xB P K a.BadFrees a.iBadFrees a.cBadFrees ["at"]
def ckX_BadText (P : Program) (K : PySem.W.Frag) (a : Ad) : Bool := xB P K a.BadText a.iBadText a.cBadText ["line", "word"]
def ckX_BadBytes (P : Program) (K : PySem.W.Frag) (a : Ad) : Bool := xB P K a.BadBytes a.iBadBytes a.cBadBytes ["at"]
def ckX_Misfit (P : Program) (K : PySem.W.Frag) (a : Ad) : Bool := xB P K a.Misfit a.iMisfit a.cMisfit ["part"]
def ckX_Nothing (P : Program) (K : PySem.W.Frag) (a : Ad) : Bool := xB P K a.Nothing a.iNothing a.cNothing ["word"]
def ckX_TooMany (P : Program) (K : PySem.W.Frag) (a : Ad) : Bool := xB P K a.TooMany a.iTooMany a.cTooMany ["what", "most"]
def ckMk (K : PySem.W.Frag) (a : Ad) : Bool := mkB K a.Paper a.iPaper && mkB K a.Denial a.iPaper && mkB K a.Clean a.iClean && mkB K a.Fault a.iFault
def ckSup (P : Program) (K : PySem.W.Frag) (a : Ad) : Bool := skB P K a.cClean a.Clean && skB P K a.cFault a.Fault && supMB K a.Clean a.Clean a.iPaper && supMB K a.Fault a.Fault a.iPaper
def ckE (K : PySem.W.Frag) (a : Ad) : Bool := eachB (GG a) EC (fun c C => nmB K C c) && eachB (GG a) EC (fun _ C => eqB K C a.ePaper)
def ckB (K : PySem.W.Frag) (a : Ad) : Bool := eachB (GG a) ["Paper", "Clean"] (fun _ C => yesR (PySem.W.findIn K (.ref C) "__bool__") a.bPaper && PySem.W.isFn K (.ref a.bPaper)) && eachB (GG a) ["Denial", "Fault"] (fun _ C => yesR (PySem.W.findIn K (.ref C) "__bool__") a.bDenial && PySem.W.isFn K (.ref a.bDenial))
def ckSt (K : PySem.W.Frag) (a : Ad) : Bool := fldB K (GG a) EC [] "word" && fldB K (GG a) EC [] "parts" && fldB K (GG a) EC [] "rows" && fldB K (GG a) EC [] "what" && fldB K (GG a) EC [] "inputs" && fldB K (GG a) EC [] "full"
def ckFld (K : PySem.W.Frag) (a : Ad) : Bool := fldB K (GG a) CI_word CE_word "word" && fldB K (GG a) CI_parts CE_parts "parts" && fldB K (GG a) CI_rows CE_rows "rows" && fldB K (GG a) CI_what CE_what "what" && fldB K (GG a) CI_inputs CE_inputs "inputs" && fldB K (GG a) CI_full CE_full "full" && fldB K (GG a) CI_part CE_part "part" && fldB K (GG a) CI_at CE_at "at" && fldB K (GG a) CI_line CE_line "line" && fldB K (GG a) CI_most CE_most "most"
def ckInj (a : Ad) : Bool := decide (((GL a).map (·.2)).Nodup)
theorem kinds0_anc {k : TK} {l : List TK} (h : anc k = some l) : k ∈ kinds0 := by
  cases k with
  | own c =>
    unfold anc at h
    dsimp only at h
    by_cases h1 : c ∈ XC
    · exact List.mem_append_left _ (List.mem_map.mpr ⟨c, List.mem_append_left _ h1, rfl⟩)
    · rw [if_neg h1] at h
      have : c ∈ EC := by
        repeat' split at h
        all_goals first | (cases h; done) | (subst_vars; decide)
      exact List.mem_append_left _ (List.mem_map.mpr ⟨c, List.mem_append_right _ this, rfl⟩)
  | bt n =>
    unfold anc at h
    dsimp only at h
    refine List.mem_append_right _ (List.mem_map.mpr ⟨n, ?_, rfl⟩)
    split at h
    · rename_i h1
      rcases h1 with h1 | h1 | h1 | h1 | h1 | h1 <;> subst h1 <;> decide
    · split at h
      · rename_i h1; subst h1; decide
      · cases h
theorem is_in : ∀ k t b, IS k t = some b → k ∈ kinds0 ∧ t ∈ tgts := fun k t b e => by
  unfold IS at e
  split at e
  · rename_i h
    obtain ⟨l, h1, -⟩ := Option.map_eq_some_iff.mp e
    exact ⟨kinds0_anc h1, h⟩
  · cases e
theorem sb_in : ∀ k c b, SB k c = some b → k ∈ kinds0 ∧ c ∈ EC := fun k t b e => by
  unfold SB at e
  split at e
  · rename_i h
    obtain ⟨l, h1, -⟩ := Option.map_eq_some_iff.mp e
    exact ⟨kinds0_anc h1, h⟩
  · cases e
theorem txt_mk {P : Program} {w : World} {K : PySem.W.Frag} {h : Heap} {mg : Str → Option Value} {a : Ad} (X : K.In h) (G : h.Ns mainGlobals mg)
    (g_fixed : PySem.W.nsIn K mainGlobals "fixed" = some (some (.ref a.fixed)))
    (g_are_alike : PySem.W.nsIn K mainGlobals "are_alike" = some (some (.ref a.are_alike)))
    (g_pen : PySem.W.nsIn K mainGlobals "_law_pen" = some (some (.ref a.pen)))
    (g_draw : PySem.W.nsIn K mainGlobals "_law_draw" = some (some (.ref a.draw)))
    (g_pick : PySem.W.nsIn K mainGlobals "_law_pick" = some (some (.ref a.pick)))
    (g_kinds : PySem.W.nsIn K mainGlobals "_law_kinds_of" = some (some (.ref a.kinds)))
    (g_law : PySem.W.nsIn K mainGlobals "law" = some (some (.ref a.law)))
    (g_FreedError : PySem.W.nsIn K mainGlobals "FreedError" = some (some (.ref a.FreedError)))
    (g_BadValue : PySem.W.nsIn K mainGlobals "BadValue" = some (some (.ref a.BadValue)))
    (g_BadNumber : PySem.W.nsIn K mainGlobals "BadNumber" = some (some (.ref a.BadNumber)))
    (g_BadCode : PySem.W.nsIn K mainGlobals "BadCode" = some (some (.ref a.BadCode)))
    (g_BadFrees : PySem.W.nsIn K mainGlobals "BadFrees" = some (some (.ref a.BadFrees)))
    (g_BadText : PySem.W.nsIn K mainGlobals "BadText" = some (some (.ref a.BadText)))
    (g_BadBytes : PySem.W.nsIn K mainGlobals "BadBytes" = some (some (.ref a.BadBytes)))
    (g_Misfit : PySem.W.nsIn K mainGlobals "Misfit" = some (some (.ref a.Misfit)))
    (g_Nothing : PySem.W.nsIn K mainGlobals "Nothing" = some (some (.ref a.Nothing)))
    (g_TooMany : PySem.W.nsIn K mainGlobals "TooMany" = some (some (.ref a.TooMany)))
    (g_Paper : PySem.W.nsIn K mainGlobals "Paper" = some (some (.ref a.Paper)))
    (g_Denial : PySem.W.nsIn K mainGlobals "Denial" = some (some (.ref a.Denial)))
    (g_Clean : PySem.W.nsIn K mainGlobals "Clean" = some (some (.ref a.Clean)))
    (g_Fault : PySem.W.nsIn K mainGlobals "Fault" = some (some (.ref a.Fault)))
    (f_BadValue : PySem.W.findIn K (.ref a.BadValue) "__init__" = some (some (.ref a.iBadValue)))
    (f_BadNumber : PySem.W.findIn K (.ref a.BadNumber) "__init__" = some (some (.ref a.iBadNumber)))
    (f_BadCode : PySem.W.findIn K (.ref a.BadCode) "__init__" = some (some (.ref a.iBadCode)))
    (f_BadFrees : PySem.W.findIn K (.ref a.BadFrees) "__init__" = some (some (.ref a.iBadFrees)))
    (f_BadText : PySem.W.findIn K (.ref a.BadText) "__init__" = some (some (.ref a.iBadText)))
    (f_BadBytes : PySem.W.findIn K (.ref a.BadBytes) "__init__" = some (some (.ref a.iBadBytes)))
    (f_Misfit : PySem.W.findIn K (.ref a.Misfit) "__init__" = some (some (.ref a.iMisfit)))
    (f_Nothing : PySem.W.findIn K (.ref a.Nothing) "__init__" = some (some (.ref a.iNothing)))
    (f_TooMany : PySem.W.findIn K (.ref a.TooMany) "__init__" = some (some (.ref a.iTooMany)))
    (f_Paper_i : PySem.W.findIn K (.ref a.Paper) "__init__" = some (some (.ref a.iPaper)))
    (f_Paper_b : PySem.W.findIn K (.ref a.Paper) "__bool__" = some (some (.ref a.bPaper)))
    (f_Paper_e : PySem.W.findIn K (.ref a.Paper) "__eq__" = some (some (.ref a.ePaper)))
    (f_Denial_b : PySem.W.findIn K (.ref a.Denial) "__bool__" = some (some (.ref a.bDenial)))
    (f_Clean : PySem.W.findIn K (.ref a.Clean) "__init__" = some (some (.ref a.iClean)))
    (f_Fault : PySem.W.findIn K (.ref a.Fault) "__init__" = some (some (.ref a.iFault)))
    (F_fixed : ∃ fd, Fun K "fixed" "fixed" s_fixed a.fixed fd)
    (F_are_alike : ∃ fd, Fun K "are_alike" "are_alike" s_are_alike a.are_alike fd)
    (F_pen : ∃ fd, Fun K "_law_pen" "_law_pen" s_pen a.pen fd)
    (F_draw : ∃ fd, Fun K "_law_draw" "_law_draw" s_draw a.draw fd)
    (F_pick : ∃ fd, Fun K "_law_pick" "_law_pick" s_pick a.pick fd)
    (F_kinds : ∃ fd, Fun K "_law_kinds_of" "_law_kinds_of" s_kinds a.kinds fd)
    (F_law : ∃ fd, Fun K "law" "law" s_law a.law fd)
    (F_Paper_i : ∃ fd, Fun K "__init__" "Paper.__init__" s_Paper_i a.iPaper fd)
    (F_Paper_b : ∃ fd, Fun K "__bool__" "Paper.__bool__" s_Paper_b a.bPaper fd)
    (F_Paper_e : ∃ fd, Fun K "__eq__" "Paper.__eq__" s_Paper_e a.ePaper fd)
    (F_Denial_b : ∃ fd, Fun K "__bool__" "Denial.__bool__" s_Denial_b a.bDenial fd)
    (C_BadValue : ∃ fd, FunC K "__init__" "BadValue.__init__" s_BadValue_i a.iBadValue fd a.cBadValue a.xBadValue a.BadValue)
    (C_BadNumber : ∃ fd, FunC K "__init__" "BadNumber.__init__" s_BadNumber_i a.iBadNumber fd a.cBadNumber a.xBadNumber a.BadNumber)
    (C_BadCode : ∃ fd, FunC K "__init__" "BadCode.__init__" s_BadCode_i a.iBadCode fd a.cBadCode a.xBadCode a.BadCode)
    (C_BadFrees : ∃ fd, FunC K "__init__" "BadFrees.__init__" s_BadFrees_i a.iBadFrees fd a.cBadFrees a.xBadFrees a.BadFrees)
    (C_BadText : ∃ fd, FunC K "__init__" "BadText.__init__" s_BadText_i a.iBadText fd a.cBadText a.xBadText a.BadText)
    (C_BadBytes : ∃ fd, FunC K "__init__" "BadBytes.__init__" s_BadBytes_i a.iBadBytes fd a.cBadBytes a.xBadBytes a.BadBytes)
    (C_Misfit : ∃ fd, FunC K "__init__" "Misfit.__init__" s_Misfit_i a.iMisfit fd a.cMisfit a.xMisfit a.Misfit)
    (C_Nothing : ∃ fd, FunC K "__init__" "Nothing.__init__" s_Nothing_i a.iNothing fd a.cNothing a.xNothing a.Nothing)
    (C_TooMany : ∃ fd, FunC K "__init__" "TooMany.__init__" s_TooMany_i a.iTooMany fd a.cTooMany a.xTooMany a.TooMany)
    (C_Clean : ∃ fd, FunC K "__init__" "Clean.__init__" s_Clean_i a.iClean fd a.cClean a.xClean a.Clean)
    (C_Fault : ∃ fd, FunC K "__init__" "Fault.__init__" s_Fault_i a.iFault fd a.cFault a.xFault a.Fault)
    (o_BadValue : ExcObj K a.BadValue)
    (o_BadNumber : ExcObj K a.BadNumber)
    (o_BadCode : ExcObj K a.BadCode)
    (o_BadFrees : ExcObj K a.BadFrees)
    (o_BadText : ExcObj K a.BadText)
    (o_BadBytes : ExcObj K a.BadBytes)
    (o_Misfit : ExcObj K a.Misfit)
    (o_Nothing : ExcObj K a.Nothing)
    (o_TooMany : ExcObj K a.TooMany)
    (k_None : ckNone K = true)
    (k_Keep : ckKeep K a = true)
    (k_KN : ckKN K a = true)
    (k_IS : ckIS K a = true)
    (k_SB : ckSB K a = true)
    (k_X_BadValue : ckX_BadValue P K a = true)
    (k_X_BadNumber : ckX_BadNumber P K a = true)
    (k_X_BadCode : ckX_BadCode P K a = true)
    (k_X_BadFrees : ckX_BadFrees P K a = true)
    (k_X_BadText : ckX_BadText P K a = true)
    (k_X_BadBytes : ckX_BadBytes P K a = true)
    (k_X_Misfit : ckX_Misfit P K a = true)
    (k_X_Nothing : ckX_Nothing P K a = true)
    (k_X_TooMany : ckX_TooMany P K a = true)
    (k_Mk : ckMk K a = true)
    (k_Sup : ckSup P K a = true)
    (k_E : ckE K a = true)
    (k_B : ckB K a = true)
    (k_St : ckSt K a = true)
    (k_Fld : ckFld K a = true)
    (k_Inj : ckInj a = true) : Txt P w K mg a := by
  have nn := noneB_ok X G k_None
  have kp := List.all_eq_true.mp k_Keep
  have KNK := knownB_ok k_KN
  have zSB := k_SB
  simp only [ckMk, Bool.and_eq_true] at k_Mk
  simp only [ckSup, Bool.and_eq_true] at k_Sup
  simp only [ckE, Bool.and_eq_true] at k_E
  simp only [ckB, Bool.and_eq_true] at k_B
  simp only [ckSt, Bool.and_eq_true] at k_St
  simp only [ckFld, Bool.and_eq_true] at k_Fld
  simp only [ckX_BadValue, xB, Bool.and_eq_true, decide_eq_true_eq] at k_X_BadValue
  simp only [ckX_BadNumber, xB, Bool.and_eq_true, decide_eq_true_eq] at k_X_BadNumber
  simp only [ckX_BadCode, xB, Bool.and_eq_true, decide_eq_true_eq] at k_X_BadCode
  simp only [ckX_BadFrees, xB, Bool.and_eq_true, decide_eq_true_eq] at k_X_BadFrees
  simp only [ckX_BadText, xB, Bool.and_eq_true, decide_eq_true_eq] at k_X_BadText
  simp only [ckX_BadBytes, xB, Bool.and_eq_true, decide_eq_true_eq] at k_X_BadBytes
  simp only [ckX_Misfit, xB, Bool.and_eq_true, decide_eq_true_eq] at k_X_Misfit
  simp only [ckX_Nothing, xB, Bool.and_eq_true, decide_eq_true_eq] at k_X_Nothing
  simp only [ckX_TooMany, xB, Bool.and_eq_true, decide_eq_true_eq] at k_X_TooMany
  exact {
    n_isinstance := nn "isinstance" (by decide)
    n_list := nn "list" (by decide)
    n_tuple := nn "tuple" (by decide)
    n_bool := nn "bool" (by decide)
    n_len := nn "len" (by decide)
    n_int := nn "int" (by decide)
    n_all := nn "all" (by decide)
    n_zip := nn "zip" (by decide)
    n_range := nn "range" (by decide)
    n_enumerate := nn "enumerate" (by decide)
    n_repr := nn "repr" (by decide)
    n_ValueError := nn "ValueError" (by decide)
    g_fixed := PySem.W.mg_of X G g_fixed
    k_fixed := kp _ (by simp)
    F_fixed := F_fixed
    g_are_alike := PySem.W.mg_of X G g_are_alike
    k_are_alike := kp _ (by simp)
    F_are_alike := F_are_alike
    g__law_pen := PySem.W.mg_of X G g_pen
    k__law_pen := kp _ (by simp)
    F_pen := F_pen
    g__law_draw := PySem.W.mg_of X G g_draw
    k__law_draw := kp _ (by simp)
    F_draw := F_draw
    g__law_pick := PySem.W.mg_of X G g_pick
    k__law_pick := kp _ (by simp)
    F_pick := F_pick
    g__law_kinds_of := PySem.W.mg_of X G g_kinds
    k__law_kinds_of := kp _ (by simp)
    F_kinds := F_kinds
    hN := KNK
    hI := isB_ok kinds0 tgts is_in k_IS
    n_bool1 := trivial
    g_FreedError := PySem.W.mg_of X G g_FreedError
    g_BadValue := PySem.W.mg_of X G g_BadValue
    g_BadNumber := PySem.W.mg_of X G g_BadNumber
    g_BadCode := PySem.W.mg_of X G g_BadCode
    g_BadFrees := PySem.W.mg_of X G g_BadFrees
    g_BadText := PySem.W.mg_of X G g_BadText
    g_BadBytes := PySem.W.mg_of X G g_BadBytes
    g_Misfit := PySem.W.mg_of X G g_Misfit
    g_Nothing := PySem.W.mg_of X G g_Nothing
    g_TooMany := PySem.W.mg_of X G g_TooMany
    g_Paper := PySem.W.mg_of X G g_Paper
    g_Denial := PySem.W.mg_of X G g_Denial
    g_Clean := PySem.W.mg_of X G g_Clean
    g_Fault := PySem.W.mg_of X G g_Fault
    se_BadValue := supEB_ok o_BadValue k_X_BadValue.1.1.1.1
    nf_BadValue := fun f hf => of_decide_eq_true (List.all_eq_true.mp k_X_BadValue.1.1.1.2 f hf)
    i_BadValue := f_BadValue
    ti_BadValue := k_X_BadValue.1.2
    F_BadValue := C_BadValue
    sk_BadValue := skB_ok (nn "super" (by decide)) k_X_BadValue.2
    se_BadNumber := supEB_ok o_BadNumber k_X_BadNumber.1.1.1.1
    nf_BadNumber := fun f hf => of_decide_eq_true (List.all_eq_true.mp k_X_BadNumber.1.1.1.2 f hf)
    i_BadNumber := f_BadNumber
    ti_BadNumber := k_X_BadNumber.1.2
    F_BadNumber := C_BadNumber
    sk_BadNumber := skB_ok (nn "super" (by decide)) k_X_BadNumber.2
    se_BadCode := supEB_ok o_BadCode k_X_BadCode.1.1.1.1
    nf_BadCode := fun f hf => of_decide_eq_true (List.all_eq_true.mp k_X_BadCode.1.1.1.2 f hf)
    i_BadCode := f_BadCode
    ti_BadCode := k_X_BadCode.1.2
    F_BadCode := C_BadCode
    sk_BadCode := skB_ok (nn "super" (by decide)) k_X_BadCode.2
    se_BadFrees := supEB_ok o_BadFrees k_X_BadFrees.1.1.1.1
    nf_BadFrees := fun f hf => of_decide_eq_true (List.all_eq_true.mp k_X_BadFrees.1.1.1.2 f hf)
    i_BadFrees := f_BadFrees
    ti_BadFrees := k_X_BadFrees.1.2
    F_BadFrees := C_BadFrees
    sk_BadFrees := skB_ok (nn "super" (by decide)) k_X_BadFrees.2
    se_BadText := supEB_ok o_BadText k_X_BadText.1.1.1.1
    nf_BadText := fun f hf => of_decide_eq_true (List.all_eq_true.mp k_X_BadText.1.1.1.2 f hf)
    i_BadText := f_BadText
    ti_BadText := k_X_BadText.1.2
    F_BadText := C_BadText
    sk_BadText := skB_ok (nn "super" (by decide)) k_X_BadText.2
    se_BadBytes := supEB_ok o_BadBytes k_X_BadBytes.1.1.1.1
    nf_BadBytes := fun f hf => of_decide_eq_true (List.all_eq_true.mp k_X_BadBytes.1.1.1.2 f hf)
    i_BadBytes := f_BadBytes
    ti_BadBytes := k_X_BadBytes.1.2
    F_BadBytes := C_BadBytes
    sk_BadBytes := skB_ok (nn "super" (by decide)) k_X_BadBytes.2
    se_Misfit := supEB_ok o_Misfit k_X_Misfit.1.1.1.1
    nf_Misfit := fun f hf => of_decide_eq_true (List.all_eq_true.mp k_X_Misfit.1.1.1.2 f hf)
    i_Misfit := f_Misfit
    ti_Misfit := k_X_Misfit.1.2
    F_Misfit := C_Misfit
    sk_Misfit := skB_ok (nn "super" (by decide)) k_X_Misfit.2
    se_Nothing := supEB_ok o_Nothing k_X_Nothing.1.1.1.1
    nf_Nothing := fun f hf => of_decide_eq_true (List.all_eq_true.mp k_X_Nothing.1.1.1.2 f hf)
    i_Nothing := f_Nothing
    ti_Nothing := k_X_Nothing.1.2
    F_Nothing := C_Nothing
    sk_Nothing := skB_ok (nn "super" (by decide)) k_X_Nothing.2
    se_TooMany := supEB_ok o_TooMany k_X_TooMany.1.1.1.1
    nf_TooMany := fun f hf => of_decide_eq_true (List.all_eq_true.mp k_X_TooMany.1.1.1.2 f hf)
    i_TooMany := f_TooMany
    ti_TooMany := k_X_TooMany.1.2
    F_TooMany := C_TooMany
    sk_TooMany := skB_ok (nn "super" (by decide)) k_X_TooMany.2
    mk_Paper := mkB_ok k_Mk.1.1.1
    mk_Denial := mkB_ok k_Mk.1.1.2
    mk_Clean := mkB_ok k_Mk.1.2
    mk_Fault := mkB_ok k_Mk.2
    F_Paper_i := F_Paper_i
    F_Paper_b := F_Paper_b
    F_Paper_e := F_Paper_e
    F_Denial_b := F_Denial_b
    F_Clean := C_Clean
    sk_Clean := skB_ok (nn "super" (by decide)) k_Sup.1.1.1
    sm_Clean := supMB_ok k_Sup.1.2
    F_Fault := C_Fault
    sk_Fault := skB_ok (nn "super" (by decide)) k_Sup.1.1.2
    sm_Fault := supMB_ok k_Sup.2
    insE := fun c hc C e => KNK.ins c hc C e
    nmE := fun c hc C e => nmB_ok (eachB_ok k_E.1 c hc C e)
    eqE := fun c hc C e => eqB_ok (eachB_ok k_E.2 c hc C e)
    inj := fun c c2 C e e2 => inj_of (l := GL a) (of_decide_eq_true k_Inj) e e2
    hS := sbB_ok kinds0 EC sb_in k_SB
    bP := fun c hc C e => by
      have z := eachB_ok k_B.1 c (by rcases hc with h | h <;> subst h <;> decide) C e
      rw [Bool.and_eq_true, decide_eq_true_eq] at z
      exact z
    bD := fun c hc C e => by
      have z := eachB_ok k_B.2 c (by rcases hc with h | h <;> subst h <;> decide) C e
      rw [Bool.and_eq_true, decide_eq_true_eq] at z
      exact z
    st_word := fld_st KNK (fun c h => h) k_St.1.1.1.1.1
    st_parts := fld_st KNK (fun c h => h) k_St.1.1.1.1.2
    st_rows := fld_st KNK (fun c h => h) k_St.1.1.1.2
    st_what := fld_st KNK (fun c h => h) k_St.1.1.2
    st_inputs := fld_st KNK (fun c h => h) k_St.1.2
    st_full := fld_st KNK (fun c h => h) k_St.2
    fld_word := fldB_ok KNK (by decide) (by decide) k_Fld.1.1.1.1.1.1.1.1.1
    fld_parts := fldB_ok KNK (by decide) (by decide) k_Fld.1.1.1.1.1.1.1.1.2
    fld_rows := fldB_ok KNK (by decide) (by decide) k_Fld.1.1.1.1.1.1.1.2
    fld_what := fldB_ok KNK (by decide) (by decide) k_Fld.1.1.1.1.1.1.2
    fld_inputs := fldB_ok KNK (by decide) (by decide) k_Fld.1.1.1.1.1.2
    fld_full := fldB_ok KNK (by decide) (by decide) k_Fld.1.1.1.1.2
    fld_part := fldB_ok KNK (by decide) (by decide) k_Fld.1.1.1.2
    fld_at := fldB_ok KNK (by decide) (by decide) k_Fld.1.1.2
    fld_line := fldB_ok KNK (by decide) (by decide) k_Fld.1.2
    fld_most := fldB_ok KNK (by decide) (by decide) k_Fld.2 }
end K02

set_option Elab.async false
set_option linter.all false
set_option maxRecDepth 100000
set_option maxHeartbeats 8000000
namespace K02
open PySem PySem.Spec PyProof.Rows L2 StX NdefX DL
theorem fin {P : Program} {w : World} {K : PySem.W.Frag} {h : Heap} {mg : Str → Option Value} {fa : Addr} {fixed are_alike pen draw pick kinds law FreedError BadValue BadNumber BadCode BadFrees BadText BadBytes Misfit Nothing TooMany Paper Denial Clean Fault iBadValue iBadNumber iBadCode iBadFrees iBadText iBadBytes iMisfit iNothing iTooMany iPaper bPaper ePaper bDenial iClean iFault cBadValue cBadNumber cBadCode cBadFrees cBadText cBadBytes cMisfit cNothing cTooMany cClean cFault xBadValue xBadNumber xBadCode xBadFrees xBadText xBadBytes xMisfit xNothing xTooMany xClean xFault : Addr} (X : K.In h) (G : h.Ns mainGlobals mg) (hfa : mg "law" = some (.ref fa))
    (g_fixed : PySem.W.nsIn K mainGlobals "fixed" = some (some (.ref fixed)))
    (g_are_alike : PySem.W.nsIn K mainGlobals "are_alike" = some (some (.ref are_alike)))
    (g_pen : PySem.W.nsIn K mainGlobals "_law_pen" = some (some (.ref pen)))
    (g_draw : PySem.W.nsIn K mainGlobals "_law_draw" = some (some (.ref draw)))
    (g_pick : PySem.W.nsIn K mainGlobals "_law_pick" = some (some (.ref pick)))
    (g_kinds : PySem.W.nsIn K mainGlobals "_law_kinds_of" = some (some (.ref kinds)))
    (g_law : PySem.W.nsIn K mainGlobals "law" = some (some (.ref law)))
    (g_FreedError : PySem.W.nsIn K mainGlobals "FreedError" = some (some (.ref FreedError)))
    (g_BadValue : PySem.W.nsIn K mainGlobals "BadValue" = some (some (.ref BadValue)))
    (g_BadNumber : PySem.W.nsIn K mainGlobals "BadNumber" = some (some (.ref BadNumber)))
    (g_BadCode : PySem.W.nsIn K mainGlobals "BadCode" = some (some (.ref BadCode)))
    (g_BadFrees : PySem.W.nsIn K mainGlobals "BadFrees" = some (some (.ref BadFrees)))
    (g_BadText : PySem.W.nsIn K mainGlobals "BadText" = some (some (.ref BadText)))
    (g_BadBytes : PySem.W.nsIn K mainGlobals "BadBytes" = some (some (.ref BadBytes)))
    (g_Misfit : PySem.W.nsIn K mainGlobals "Misfit" = some (some (.ref Misfit)))
    (g_Nothing : PySem.W.nsIn K mainGlobals "Nothing" = some (some (.ref Nothing)))
    (g_TooMany : PySem.W.nsIn K mainGlobals "TooMany" = some (some (.ref TooMany)))
    (g_Paper : PySem.W.nsIn K mainGlobals "Paper" = some (some (.ref Paper)))
    (g_Denial : PySem.W.nsIn K mainGlobals "Denial" = some (some (.ref Denial)))
    (g_Clean : PySem.W.nsIn K mainGlobals "Clean" = some (some (.ref Clean)))
    (g_Fault : PySem.W.nsIn K mainGlobals "Fault" = some (some (.ref Fault)))
    (f_BadValue : PySem.W.findIn K (.ref BadValue) "__init__" = some (some (.ref iBadValue)))
    (f_BadNumber : PySem.W.findIn K (.ref BadNumber) "__init__" = some (some (.ref iBadNumber)))
    (f_BadCode : PySem.W.findIn K (.ref BadCode) "__init__" = some (some (.ref iBadCode)))
    (f_BadFrees : PySem.W.findIn K (.ref BadFrees) "__init__" = some (some (.ref iBadFrees)))
    (f_BadText : PySem.W.findIn K (.ref BadText) "__init__" = some (some (.ref iBadText)))
    (f_BadBytes : PySem.W.findIn K (.ref BadBytes) "__init__" = some (some (.ref iBadBytes)))
    (f_Misfit : PySem.W.findIn K (.ref Misfit) "__init__" = some (some (.ref iMisfit)))
    (f_Nothing : PySem.W.findIn K (.ref Nothing) "__init__" = some (some (.ref iNothing)))
    (f_TooMany : PySem.W.findIn K (.ref TooMany) "__init__" = some (some (.ref iTooMany)))
    (f_Paper_i : PySem.W.findIn K (.ref Paper) "__init__" = some (some (.ref iPaper)))
    (f_Paper_b : PySem.W.findIn K (.ref Paper) "__bool__" = some (some (.ref bPaper)))
    (f_Paper_e : PySem.W.findIn K (.ref Paper) "__eq__" = some (some (.ref ePaper)))
    (f_Denial_b : PySem.W.findIn K (.ref Denial) "__bool__" = some (some (.ref bDenial)))
    (f_Clean : PySem.W.findIn K (.ref Clean) "__init__" = some (some (.ref iClean)))
    (f_Fault : PySem.W.findIn K (.ref Fault) "__init__" = some (some (.ref iFault)))
    (F_fixed : ∃ fd, Fun K "fixed" "fixed" s_fixed fixed fd)
    (F_are_alike : ∃ fd, Fun K "are_alike" "are_alike" s_are_alike are_alike fd)
    (F_pen : ∃ fd, Fun K "_law_pen" "_law_pen" s_pen pen fd)
    (F_draw : ∃ fd, Fun K "_law_draw" "_law_draw" s_draw draw fd)
    (F_pick : ∃ fd, Fun K "_law_pick" "_law_pick" s_pick pick fd)
    (F_kinds : ∃ fd, Fun K "_law_kinds_of" "_law_kinds_of" s_kinds kinds fd)
    (F_law : ∃ fd, Fun K "law" "law" s_law law fd)
    (F_Paper_i : ∃ fd, Fun K "__init__" "Paper.__init__" s_Paper_i iPaper fd)
    (F_Paper_b : ∃ fd, Fun K "__bool__" "Paper.__bool__" s_Paper_b bPaper fd)
    (F_Paper_e : ∃ fd, Fun K "__eq__" "Paper.__eq__" s_Paper_e ePaper fd)
    (F_Denial_b : ∃ fd, Fun K "__bool__" "Denial.__bool__" s_Denial_b bDenial fd)
    (C_BadValue : ∃ fd, FunC K "__init__" "BadValue.__init__" s_BadValue_i iBadValue fd cBadValue xBadValue BadValue)
    (C_BadNumber : ∃ fd, FunC K "__init__" "BadNumber.__init__" s_BadNumber_i iBadNumber fd cBadNumber xBadNumber BadNumber)
    (C_BadCode : ∃ fd, FunC K "__init__" "BadCode.__init__" s_BadCode_i iBadCode fd cBadCode xBadCode BadCode)
    (C_BadFrees : ∃ fd, FunC K "__init__" "BadFrees.__init__" s_BadFrees_i iBadFrees fd cBadFrees xBadFrees BadFrees)
    (C_BadText : ∃ fd, FunC K "__init__" "BadText.__init__" s_BadText_i iBadText fd cBadText xBadText BadText)
    (C_BadBytes : ∃ fd, FunC K "__init__" "BadBytes.__init__" s_BadBytes_i iBadBytes fd cBadBytes xBadBytes BadBytes)
    (C_Misfit : ∃ fd, FunC K "__init__" "Misfit.__init__" s_Misfit_i iMisfit fd cMisfit xMisfit Misfit)
    (C_Nothing : ∃ fd, FunC K "__init__" "Nothing.__init__" s_Nothing_i iNothing fd cNothing xNothing Nothing)
    (C_TooMany : ∃ fd, FunC K "__init__" "TooMany.__init__" s_TooMany_i iTooMany fd cTooMany xTooMany TooMany)
    (C_Clean : ∃ fd, FunC K "__init__" "Clean.__init__" s_Clean_i iClean fd cClean xClean Clean)
    (C_Fault : ∃ fd, FunC K "__init__" "Fault.__init__" s_Fault_i iFault fd cFault xFault Fault)
    (o_BadValue : ExcObj K BadValue)
    (o_BadNumber : ExcObj K BadNumber)
    (o_BadCode : ExcObj K BadCode)
    (o_BadFrees : ExcObj K BadFrees)
    (o_BadText : ExcObj K BadText)
    (o_BadBytes : ExcObj K BadBytes)
    (o_Misfit : ExcObj K Misfit)
    (o_Nothing : ExcObj K Nothing)
    (o_TooMany : ExcObj K TooMany)
    (k_None : ckNone K = true)
    (k_Keep : ckKeep K ⟨fixed, are_alike, pen, draw, pick, kinds, law, FreedError, BadValue, BadNumber, BadCode, BadFrees, BadText, BadBytes, Misfit, Nothing, TooMany, Paper, Denial, Clean, Fault, iBadValue, iBadNumber, iBadCode, iBadFrees, iBadText, iBadBytes, iMisfit, iNothing, iTooMany, iPaper, bPaper, ePaper, bDenial, iClean, iFault, cBadValue, cBadNumber, cBadCode, cBadFrees, cBadText, cBadBytes, cMisfit, cNothing, cTooMany, cClean, cFault, xBadValue, xBadNumber, xBadCode, xBadFrees, xBadText, xBadBytes, xMisfit, xNothing, xTooMany, xClean, xFault⟩ = true)
    (k_KN : ckKN K ⟨fixed, are_alike, pen, draw, pick, kinds, law, FreedError, BadValue, BadNumber, BadCode, BadFrees, BadText, BadBytes, Misfit, Nothing, TooMany, Paper, Denial, Clean, Fault, iBadValue, iBadNumber, iBadCode, iBadFrees, iBadText, iBadBytes, iMisfit, iNothing, iTooMany, iPaper, bPaper, ePaper, bDenial, iClean, iFault, cBadValue, cBadNumber, cBadCode, cBadFrees, cBadText, cBadBytes, cMisfit, cNothing, cTooMany, cClean, cFault, xBadValue, xBadNumber, xBadCode, xBadFrees, xBadText, xBadBytes, xMisfit, xNothing, xTooMany, xClean, xFault⟩ = true)
    (k_IS : ckIS K ⟨fixed, are_alike, pen, draw, pick, kinds, law, FreedError, BadValue, BadNumber, BadCode, BadFrees, BadText, BadBytes, Misfit, Nothing, TooMany, Paper, Denial, Clean, Fault, iBadValue, iBadNumber, iBadCode, iBadFrees, iBadText, iBadBytes, iMisfit, iNothing, iTooMany, iPaper, bPaper, ePaper, bDenial, iClean, iFault, cBadValue, cBadNumber, cBadCode, cBadFrees, cBadText, cBadBytes, cMisfit, cNothing, cTooMany, cClean, cFault, xBadValue, xBadNumber, xBadCode, xBadFrees, xBadText, xBadBytes, xMisfit, xNothing, xTooMany, xClean, xFault⟩ = true)
    (k_SB : ckSB K ⟨fixed, are_alike, pen, draw, pick, kinds, law, FreedError, BadValue, BadNumber, BadCode, BadFrees, BadText, BadBytes, Misfit, Nothing, TooMany, Paper, Denial, Clean, Fault, iBadValue, iBadNumber, iBadCode, iBadFrees, iBadText, iBadBytes, iMisfit, iNothing, iTooMany, iPaper, bPaper, ePaper, bDenial, iClean, iFault, cBadValue, cBadNumber, cBadCode, cBadFrees, cBadText, cBadBytes, cMisfit, cNothing, cTooMany, cClean, cFault, xBadValue, xBadNumber, xBadCode, xBadFrees, xBadText, xBadBytes, xMisfit, xNothing, xTooMany, xClean, xFault⟩ = true)
    (k_X_BadValue : ckX_BadValue P K ⟨fixed, are_alike, pen, draw, pick, kinds, law, FreedError, BadValue, BadNumber, BadCode, BadFrees, BadText, BadBytes, Misfit, Nothing, TooMany, Paper, Denial, Clean, Fault, iBadValue, iBadNumber, iBadCode, iBadFrees, iBadText, iBadBytes, iMisfit, iNothing, iTooMany, iPaper, bPaper, ePaper, bDenial, iClean, iFault, cBadValue, cBadNumber, cBadCode, cBadFrees, cBadText, cBadBytes, cMisfit, cNothing, cTooMany, cClean, cFault, xBadValue, xBadNumber, xBadCode, xBadFrees, xBadText, xBadBytes, xMisfit, xNothing, xTooMany, xClean, xFault⟩ = true)
    (k_X_BadNumber : ckX_BadNumber P K ⟨fixed, are_alike, pen, draw, pick, kinds, law, FreedError, BadValue, BadNumber, BadCode, BadFrees, BadText, BadBytes, Misfit, Nothing, TooMany, Paper, Denial, Clean, Fault, iBadValue, iBadNumber, iBadCode, iBadFrees, iBadText, iBadBytes, iMisfit, iNothing, iTooMany, iPaper, bPaper, ePaper, bDenial, iClean, iFault, cBadValue, cBadNumber, cBadCode, cBadFrees, cBadText, cBadBytes, cMisfit, cNothing, cTooMany, cClean, cFault, xBadValue, xBadNumber, xBadCode, xBadFrees, xBadText, xBadBytes, xMisfit, xNothing, xTooMany, xClean, xFault⟩ = true)
    (k_X_BadCode : ckX_BadCode P K ⟨fixed, are_alike, pen, draw, pick, kinds, law, FreedError, BadValue, BadNumber, BadCode, BadFrees, BadText, BadBytes, Misfit, Nothing, TooMany, Paper, Denial, Clean, Fault, iBadValue, iBadNumber, iBadCode, iBadFrees, iBadText, iBadBytes, iMisfit, iNothing, iTooMany, iPaper, bPaper, ePaper, bDenial, iClean, iFault, cBadValue, cBadNumber, cBadCode, cBadFrees, cBadText, cBadBytes, cMisfit, cNothing, cTooMany, cClean, cFault, xBadValue, xBadNumber, xBadCode, xBadFrees, xBadText, xBadBytes, xMisfit, xNothing, xTooMany, xClean, xFault⟩ = true)
    (k_X_BadFrees : ckX_BadFrees P K ⟨fixed, are_alike, pen, draw, pick, kinds, law, FreedError, BadValue, BadNumber, BadCode, BadFrees, BadText, BadBytes, Misfit, Nothing, TooMany, Paper, Denial, Clean, Fault, iBadValue, iBadNumber, iBadCode, iBadFrees, iBadText, iBadBytes, iMisfit, iNothing, iTooMany, iPaper, bPaper, ePaper, bDenial, iClean, iFault, cBadValue, cBadNumber, cBadCode, cBadFrees, cBadText, cBadBytes, cMisfit, cNothing, cTooMany, cClean, cFault, xBadValue, xBadNumber, xBadCode, xBadFrees, xBadText, xBadBytes, xMisfit, xNothing, xTooMany, xClean, xFault⟩ = true)
    (k_X_BadText : ckX_BadText P K ⟨fixed, are_alike, pen, draw, pick, kinds, law, FreedError, BadValue, BadNumber, BadCode, BadFrees, BadText, BadBytes, Misfit, Nothing, TooMany, Paper, Denial, Clean, Fault, iBadValue, iBadNumber, iBadCode, iBadFrees, iBadText, iBadBytes, iMisfit, iNothing, iTooMany, iPaper, bPaper, ePaper, bDenial, iClean, iFault, cBadValue, cBadNumber, cBadCode, cBadFrees, cBadText, cBadBytes, cMisfit, cNothing, cTooMany, cClean, cFault, xBadValue, xBadNumber, xBadCode, xBadFrees, xBadText, xBadBytes, xMisfit, xNothing, xTooMany, xClean, xFault⟩ = true)
    (k_X_BadBytes : ckX_BadBytes P K ⟨fixed, are_alike, pen, draw, pick, kinds, law, FreedError, BadValue, BadNumber, BadCode, BadFrees, BadText, BadBytes, Misfit, Nothing, TooMany, Paper, Denial, Clean, Fault, iBadValue, iBadNumber, iBadCode, iBadFrees, iBadText, iBadBytes, iMisfit, iNothing, iTooMany, iPaper, bPaper, ePaper, bDenial, iClean, iFault, cBadValue, cBadNumber, cBadCode, cBadFrees, cBadText, cBadBytes, cMisfit, cNothing, cTooMany, cClean, cFault, xBadValue, xBadNumber, xBadCode, xBadFrees, xBadText, xBadBytes, xMisfit, xNothing, xTooMany, xClean, xFault⟩ = true)
    (k_X_Misfit : ckX_Misfit P K ⟨fixed, are_alike, pen, draw, pick, kinds, law, FreedError, BadValue, BadNumber, BadCode, BadFrees, BadText, BadBytes, Misfit, Nothing, TooMany, Paper, Denial, Clean, Fault, iBadValue, iBadNumber, iBadCode, iBadFrees, iBadText, iBadBytes, iMisfit, iNothing, iTooMany, iPaper, bPaper, ePaper, bDenial, iClean, iFault, cBadValue, cBadNumber, cBadCode, cBadFrees, cBadText, cBadBytes, cMisfit, cNothing, cTooMany, cClean, cFault, xBadValue, xBadNumber, xBadCode, xBadFrees, xBadText, xBadBytes, xMisfit, xNothing, xTooMany, xClean, xFault⟩ = true)
    (k_X_Nothing : ckX_Nothing P K ⟨fixed, are_alike, pen, draw, pick, kinds, law, FreedError, BadValue, BadNumber, BadCode, BadFrees, BadText, BadBytes, Misfit, Nothing, TooMany, Paper, Denial, Clean, Fault, iBadValue, iBadNumber, iBadCode, iBadFrees, iBadText, iBadBytes, iMisfit, iNothing, iTooMany, iPaper, bPaper, ePaper, bDenial, iClean, iFault, cBadValue, cBadNumber, cBadCode, cBadFrees, cBadText, cBadBytes, cMisfit, cNothing, cTooMany, cClean, cFault, xBadValue, xBadNumber, xBadCode, xBadFrees, xBadText, xBadBytes, xMisfit, xNothing, xTooMany, xClean, xFault⟩ = true)
    (k_X_TooMany : ckX_TooMany P K ⟨fixed, are_alike, pen, draw, pick, kinds, law, FreedError, BadValue, BadNumber, BadCode, BadFrees, BadText, BadBytes, Misfit, Nothing, TooMany, Paper, Denial, Clean, Fault, iBadValue, iBadNumber, iBadCode, iBadFrees, iBadText, iBadBytes, iMisfit, iNothing, iTooMany, iPaper, bPaper, ePaper, bDenial, iClean, iFault, cBadValue, cBadNumber, cBadCode, cBadFrees, cBadText, cBadBytes, cMisfit, cNothing, cTooMany, cClean, cFault, xBadValue, xBadNumber, xBadCode, xBadFrees, xBadText, xBadBytes, xMisfit, xNothing, xTooMany, xClean, xFault⟩ = true)
    (k_Mk : ckMk K ⟨fixed, are_alike, pen, draw, pick, kinds, law, FreedError, BadValue, BadNumber, BadCode, BadFrees, BadText, BadBytes, Misfit, Nothing, TooMany, Paper, Denial, Clean, Fault, iBadValue, iBadNumber, iBadCode, iBadFrees, iBadText, iBadBytes, iMisfit, iNothing, iTooMany, iPaper, bPaper, ePaper, bDenial, iClean, iFault, cBadValue, cBadNumber, cBadCode, cBadFrees, cBadText, cBadBytes, cMisfit, cNothing, cTooMany, cClean, cFault, xBadValue, xBadNumber, xBadCode, xBadFrees, xBadText, xBadBytes, xMisfit, xNothing, xTooMany, xClean, xFault⟩ = true)
    (k_Sup : ckSup P K ⟨fixed, are_alike, pen, draw, pick, kinds, law, FreedError, BadValue, BadNumber, BadCode, BadFrees, BadText, BadBytes, Misfit, Nothing, TooMany, Paper, Denial, Clean, Fault, iBadValue, iBadNumber, iBadCode, iBadFrees, iBadText, iBadBytes, iMisfit, iNothing, iTooMany, iPaper, bPaper, ePaper, bDenial, iClean, iFault, cBadValue, cBadNumber, cBadCode, cBadFrees, cBadText, cBadBytes, cMisfit, cNothing, cTooMany, cClean, cFault, xBadValue, xBadNumber, xBadCode, xBadFrees, xBadText, xBadBytes, xMisfit, xNothing, xTooMany, xClean, xFault⟩ = true)
    (k_E : ckE K ⟨fixed, are_alike, pen, draw, pick, kinds, law, FreedError, BadValue, BadNumber, BadCode, BadFrees, BadText, BadBytes, Misfit, Nothing, TooMany, Paper, Denial, Clean, Fault, iBadValue, iBadNumber, iBadCode, iBadFrees, iBadText, iBadBytes, iMisfit, iNothing, iTooMany, iPaper, bPaper, ePaper, bDenial, iClean, iFault, cBadValue, cBadNumber, cBadCode, cBadFrees, cBadText, cBadBytes, cMisfit, cNothing, cTooMany, cClean, cFault, xBadValue, xBadNumber, xBadCode, xBadFrees, xBadText, xBadBytes, xMisfit, xNothing, xTooMany, xClean, xFault⟩ = true)
    (k_B : ckB K ⟨fixed, are_alike, pen, draw, pick, kinds, law, FreedError, BadValue, BadNumber, BadCode, BadFrees, BadText, BadBytes, Misfit, Nothing, TooMany, Paper, Denial, Clean, Fault, iBadValue, iBadNumber, iBadCode, iBadFrees, iBadText, iBadBytes, iMisfit, iNothing, iTooMany, iPaper, bPaper, ePaper, bDenial, iClean, iFault, cBadValue, cBadNumber, cBadCode, cBadFrees, cBadText, cBadBytes, cMisfit, cNothing, cTooMany, cClean, cFault, xBadValue, xBadNumber, xBadCode, xBadFrees, xBadText, xBadBytes, xMisfit, xNothing, xTooMany, xClean, xFault⟩ = true)
    (k_St : ckSt K ⟨fixed, are_alike, pen, draw, pick, kinds, law, FreedError, BadValue, BadNumber, BadCode, BadFrees, BadText, BadBytes, Misfit, Nothing, TooMany, Paper, Denial, Clean, Fault, iBadValue, iBadNumber, iBadCode, iBadFrees, iBadText, iBadBytes, iMisfit, iNothing, iTooMany, iPaper, bPaper, ePaper, bDenial, iClean, iFault, cBadValue, cBadNumber, cBadCode, cBadFrees, cBadText, cBadBytes, cMisfit, cNothing, cTooMany, cClean, cFault, xBadValue, xBadNumber, xBadCode, xBadFrees, xBadText, xBadBytes, xMisfit, xNothing, xTooMany, xClean, xFault⟩ = true)
    (k_Fld : ckFld K ⟨fixed, are_alike, pen, draw, pick, kinds, law, FreedError, BadValue, BadNumber, BadCode, BadFrees, BadText, BadBytes, Misfit, Nothing, TooMany, Paper, Denial, Clean, Fault, iBadValue, iBadNumber, iBadCode, iBadFrees, iBadText, iBadBytes, iMisfit, iNothing, iTooMany, iPaper, bPaper, ePaper, bDenial, iClean, iFault, cBadValue, cBadNumber, cBadCode, cBadFrees, cBadText, cBadBytes, cMisfit, cNothing, cTooMany, cClean, cFault, xBadValue, xBadNumber, xBadCode, xBadFrees, xBadText, xBadBytes, xMisfit, xNothing, xTooMany, xClean, xFault⟩ = true)
    (k_Inj : ckInj ⟨fixed, are_alike, pen, draw, pick, kinds, law, FreedError, BadValue, BadNumber, BadCode, BadFrees, BadText, BadBytes, Misfit, Nothing, TooMany, Paper, Denial, Clean, Fault, iBadValue, iBadNumber, iBadCode, iBadFrees, iBadText, iBadBytes, iMisfit, iNothing, iTooMany, iPaper, bPaper, ePaper, bDenial, iClean, iFault, cBadValue, cBadNumber, cBadCode, cBadFrees, cBadText, cBadBytes, cMisfit, cNothing, cTooMany, cClean, cFault, xBadValue, xBadNumber, xBadCode, xBadFrees, xBadText, xBadBytes, xMisfit, xNothing, xTooMany, xClean, xFault⟩ = true) :
    ∃ (fd : FuncData) (G : CG), (∀ (s : Shared) (u : Value), BindsTo s fd ⟨[u], []⟩ [("script", u)]) ∧ ∀ base : Heap, K.In base → base.Ns mainGlobals mg → FnAt callerA P w K mg base (L2.CX P w) fa fd ["script"] (spD K G m_law) := by
  have e := hfa.symm.trans (PySem.W.mg_of X G g_law)
  cases e
  have T : Txt P w K mg ⟨fixed, are_alike, pen, draw, pick, kinds, fa, FreedError, BadValue, BadNumber, BadCode, BadFrees, BadText, BadBytes, Misfit, Nothing, TooMany, Paper, Denial, Clean, Fault, iBadValue, iBadNumber, iBadCode, iBadFrees, iBadText, iBadBytes, iMisfit, iNothing, iTooMany, iPaper, bPaper, ePaper, bDenial, iClean, iFault, cBadValue, cBadNumber, cBadCode, cBadFrees, cBadText, cBadBytes, cMisfit, cNothing, cTooMany, cClean, cFault, xBadValue, xBadNumber, xBadCode, xBadFrees, xBadText, xBadBytes, xMisfit, xNothing, xTooMany, xClean, xFault⟩ := txt_mk X G g_fixed g_are_alike g_pen g_draw g_pick g_kinds g_law g_FreedError g_BadValue g_BadNumber g_BadCode g_BadFrees g_BadText g_BadBytes g_Misfit g_Nothing g_TooMany g_Paper g_Denial g_Clean g_Fault f_BadValue f_BadNumber f_BadCode f_BadFrees f_BadText f_BadBytes f_Misfit f_Nothing f_TooMany f_Paper_i f_Paper_b f_Paper_e f_Denial_b f_Clean f_Fault F_fixed F_are_alike F_pen F_draw F_pick F_kinds F_law F_Paper_i F_Paper_b F_Paper_e F_Denial_b C_BadValue C_BadNumber C_BadCode C_BadFrees C_BadText C_BadBytes C_Misfit C_Nothing C_TooMany C_Clean C_Fault o_BadValue o_BadNumber o_BadCode o_BadFrees o_BadText o_BadBytes o_Misfit o_Nothing o_TooMany k_None k_Keep k_KN k_IS k_SB k_X_BadValue k_X_BadNumber k_X_BadCode k_X_BadFrees k_X_BadText k_X_BadBytes k_X_Misfit k_X_Nothing k_X_TooMany k_Mk k_Sup k_E k_B k_St k_Fld k_Inj
  obtain ⟨fd, F⟩ := F_law
  have F0 := F
  obtain ⟨⟨oc, od, kV, doc, pm, an, cdv, ct, osl, rfl, lk, hcd⟩, -⟩ := F0
  exact ⟨_, GG ⟨fixed, are_alike, pen, draw, pick, kinds, fa, FreedError, BadValue, BadNumber, BadCode, BadFrees, BadText, BadBytes, Misfit, Nothing, TooMany, Paper, Denial, Clean, Fault, iBadValue, iBadNumber, iBadCode, iBadFrees, iBadText, iBadBytes, iMisfit, iNothing, iTooMany, iPaper, bPaper, ePaper, bDenial, iClean, iFault, cBadValue, cBadNumber, cBadCode, cBadFrees, cBadText, cBadBytes, cMisfit, cNothing, cTooMany, cClean, cFault, xBadValue, xBadNumber, xBadCode, xBadFrees, xBadText, xBadBytes, xMisfit, xNothing, xTooMany, xClean, xFault⟩, fun s u => .of_eq rfl, fun base _ _ => ok_law T F (by constructor <;> decide)⟩
end K02

set_option Elab.async false
set_option linter.all false
open PySem PySem.W PyProof.Rows
set_option maxRecDepth 100000 in
set_option maxHeartbeats 0 in
theorem PySem.Challenge.cw_freedbyhand_k02_errors_and_papers_holds : PySem.Challenge.rw_freedbyhand_k02_errors_and_papers.Holds := by
  w_on; o_law; k_head; (case hw => w_witness2)
  k_fill
  refine DL.walk_at (l := PySem.Challenge.rw_freedbyhand_k02_errors_and_papers) (n := 63) (x := "script") (fn := K02.m_law) rfl (by decide) rfl (fun w h Y => PySem.W.kIn_of Y) ?F (fun ns _ => K02.law_true ns)
  case F =>
    intro w mg fa h KX G hmg
    refine' K02.fin KX G hmg ?g_fixed ?g_are_alike ?g_pen ?g_draw ?g_pick ?g_kinds ?g_law ?g_FreedError ?g_BadValue ?g_BadNumber ?g_BadCode ?g_BadFrees ?g_BadText ?g_BadBytes ?g_Misfit ?g_Nothing ?g_TooMany ?g_Paper ?g_Denial ?g_Clean ?g_Fault ?f_BadValue ?f_BadNumber ?f_BadCode ?f_BadFrees ?f_BadText ?f_BadBytes ?f_Misfit ?f_Nothing ?f_TooMany ?f_Paper_i ?f_Paper_b ?f_Paper_e ?f_Denial_b ?f_Clean ?f_Fault ?F_fixed ?F_are_alike ?F_pen ?F_draw ?F_pick ?F_kinds ?F_law ?F_Paper_i ?F_Paper_b ?F_Paper_e ?F_Denial_b ?C_BadValue ?C_BadNumber ?C_BadCode ?C_BadFrees ?C_BadText ?C_BadBytes ?C_Misfit ?C_Nothing ?C_TooMany ?C_Clean ?C_Fault ?o_BadValue ?o_BadNumber ?o_BadCode ?o_BadFrees ?o_BadText ?o_BadBytes ?o_Misfit ?o_Nothing ?o_TooMany ?k_None ?k_Keep ?k_KN ?k_IS ?k_SB ?k_X_BadValue ?k_X_BadNumber ?k_X_BadCode ?k_X_BadFrees ?k_X_BadText ?k_X_BadBytes ?k_X_Misfit ?k_X_Nothing ?k_X_TooMany ?k_Mk ?k_Sup ?k_E ?k_B ?k_St ?k_Fld ?k_Inj
    (case g_fixed => k_is)
    (case g_are_alike => k_is)
    (case g_pen => k_is)
    (case g_draw => k_is)
    (case g_pick => k_is)
    (case g_kinds => k_is)
    (case g_law => k_is)
    (case g_FreedError => k_is)
    (case g_BadValue => k_is)
    (case g_BadNumber => k_is)
    (case g_BadCode => k_is)
    (case g_BadFrees => k_is)
    (case g_BadText => k_is)
    (case g_BadBytes => k_is)
    (case g_Misfit => k_is)
    (case g_Nothing => k_is)
    (case g_TooMany => k_is)
    (case g_Paper => k_is)
    (case g_Denial => k_is)
    (case g_Clean => k_is)
    (case g_Fault => k_is)
    (case f_BadValue => k_is)
    (case f_BadNumber => k_is)
    (case f_BadCode => k_is)
    (case f_BadFrees => k_is)
    (case f_BadText => k_is)
    (case f_BadBytes => k_is)
    (case f_Misfit => k_is)
    (case f_Nothing => k_is)
    (case f_TooMany => k_is)
    (case f_Paper_i => k_is)
    (case f_Paper_b => k_is)
    (case f_Paper_e => k_is)
    (case f_Denial_b => k_is)
    (case f_Clean => k_is)
    (case f_Fault => k_is)
    (case F_fixed => refine' ⟨_, L2.fun_mk ?l ?c ?k⟩; (case l => k_is); (case c => k_is); (case k => k_is))
    (case F_are_alike => refine' ⟨_, L2.fun_mk ?l ?c ?k⟩; (case l => k_is); (case c => k_is); (case k => k_is))
    (case F_pen => refine' ⟨_, L2.fun_mk ?l ?c ?k⟩; (case l => k_is); (case c => k_is); (case k => k_is))
    (case F_draw => refine' ⟨_, L2.fun_mk ?l ?c ?k⟩; (case l => k_is); (case c => k_is); (case k => k_is))
    (case F_pick => refine' ⟨_, L2.fun_mk ?l ?c ?k⟩; (case l => k_is); (case c => k_is); (case k => k_is))
    (case F_kinds => refine' ⟨_, L2.fun_mk ?l ?c ?k⟩; (case l => k_is); (case c => k_is); (case k => k_is))
    (case F_law => refine' ⟨_, L2.fun_mk ?l ?c ?k⟩; (case l => k_is); (case c => k_is); (case k => k_is))
    (case F_Paper_i => refine' ⟨_, L2.fun_mk ?l ?c ?k⟩; (case l => k_is); (case c => k_is); (case k => k_is))
    (case F_Paper_b => refine' ⟨_, L2.fun_mk ?l ?c ?k⟩; (case l => k_is); (case c => k_is); (case k => k_is))
    (case F_Paper_e => refine' ⟨_, L2.fun_mk ?l ?c ?k⟩; (case l => k_is); (case c => k_is); (case k => k_is))
    (case F_Denial_b => refine' ⟨_, L2.fun_mk ?l ?c ?k⟩; (case l => k_is); (case c => k_is); (case k => k_is))
    (case C_BadValue => refine' DL.func_mk ?l ?c ?k; (case l => k_is); (case c => k_is); (case k => k_is))
    (case C_BadNumber => refine' DL.func_mk ?l ?c ?k; (case l => k_is); (case c => k_is); (case k => k_is))
    (case C_BadCode => refine' DL.func_mk ?l ?c ?k; (case l => k_is); (case c => k_is); (case k => k_is))
    (case C_BadFrees => refine' DL.func_mk ?l ?c ?k; (case l => k_is); (case c => k_is); (case k => k_is))
    (case C_BadText => refine' DL.func_mk ?l ?c ?k; (case l => k_is); (case c => k_is); (case k => k_is))
    (case C_BadBytes => refine' DL.func_mk ?l ?c ?k; (case l => k_is); (case c => k_is); (case k => k_is))
    (case C_Misfit => refine' DL.func_mk ?l ?c ?k; (case l => k_is); (case c => k_is); (case k => k_is))
    (case C_Nothing => refine' DL.func_mk ?l ?c ?k; (case l => k_is); (case c => k_is); (case k => k_is))
    (case C_TooMany => refine' DL.func_mk ?l ?c ?k; (case l => k_is); (case c => k_is); (case k => k_is))
    (case C_Clean => refine' DL.func_mk ?l ?c ?k; (case l => k_is); (case c => k_is); (case k => k_is))
    (case C_Fault => refine' DL.func_mk ?l ?c ?k; (case l => k_is); (case c => k_is); (case k => k_is))
    (case o_BadValue => refine' DL.exc_obj ?l ?c; (case l => k_is); (case c => kernel_rfl))
    (case o_BadNumber => refine' DL.exc_obj ?l ?c; (case l => k_is); (case c => kernel_rfl))
    (case o_BadCode => refine' DL.exc_obj ?l ?c; (case l => k_is); (case c => kernel_rfl))
    (case o_BadFrees => refine' DL.exc_obj ?l ?c; (case l => k_is); (case c => kernel_rfl))
    (case o_BadText => refine' DL.exc_obj ?l ?c; (case l => k_is); (case c => kernel_rfl))
    (case o_BadBytes => refine' DL.exc_obj ?l ?c; (case l => k_is); (case c => kernel_rfl))
    (case o_Misfit => refine' DL.exc_obj ?l ?c; (case l => k_is); (case c => kernel_rfl))
    (case o_Nothing => refine' DL.exc_obj ?l ?c; (case l => k_is); (case c => kernel_rfl))
    (case o_TooMany => refine' DL.exc_obj ?l ?c; (case l => k_is); (case c => kernel_rfl))
    (case k_None => kernel_rfl)
    (case k_Keep => kernel_rfl)
    (case k_KN => kernel_rfl)
    (case k_IS => kernel_rfl)
    (case k_SB => kernel_rfl)
    (case k_X_BadValue => kernel_rfl)
    (case k_X_BadNumber => kernel_rfl)
    (case k_X_BadCode => kernel_rfl)
    (case k_X_BadFrees => kernel_rfl)
    (case k_X_BadText => kernel_rfl)
    (case k_X_BadBytes => kernel_rfl)
    (case k_X_Misfit => kernel_rfl)
    (case k_X_Nothing => kernel_rfl)
    (case k_X_TooMany => kernel_rfl)
    (case k_Mk => kernel_rfl)
    (case k_Sup => kernel_rfl)
    (case k_E => kernel_rfl)
    (case k_B => kernel_rfl)
    (case k_St => kernel_rfl)
    (case k_Fld => kernel_rfl)
    (case k_Inj => kernel_rfl)
#print axioms PySem.Challenge.cw_freedbyhand_k02_errors_and_papers_holds
