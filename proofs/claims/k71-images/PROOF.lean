import PyProof.Rows.All
import Wide.All
import OpenK.AllK
import Wide.FinOn
import HandS.ForMost
import HandS.Exc
import HandS.TryMany
import HandS.TryOnly
import HandS.ExcOwn
import HandS.ExcInit
import HandS.ExcField
import HandS.Lambda
import HandS.HeadHook4
import HandS.Text
import HandS.TupAny
import HandS.Style
import HandS.IsInst
import HandS.More
import HandS.Steps
import HandS.Deep
import HandS.Strs
import HandS.Replace
import KE.KIndexOf
import HandS.NoneIn
import HandS.Iter
import HandS.Zip
import HandS.Comp
import HandS.SetFor
import HandS.List
import HandS.Defaults
import HandS.HeadWalk
import HandS.EndTab
import HandS.Head0
import HandS.Head1
import HandS.Head2
import HandS.HeadEnd
import PySem.Challenge.RW_kepthours_k71_whole_images
set_option Elab.async false
set_option maxRecDepth 100000
set_option maxHeartbeats 4000000
/-! Pv1: plain values, how they stand in the heap, results, what a reading of a plain function is. -/
namespace Pv
open PySem PySem.Spec PyProof.Rows L2

abbrev Frag := PySem.W.Frag

/-- a plain value: tuples, frozen lists and dicts by value; ref: an object of the small heap; glo: an object of the text -/
inductive D where
  | non | bl (b : Bool) | int (i : Int) | str (x : Str)
  | tup (xs : List D) | tpx (xs : List D) | lv (xs : List D) | rl (xs : List D)
  | dv (ks : List Key) (xs : List D)
  | ref (n : Nat) | ty (n : String) | glo (x : Str)

/-- an object of the small heap -/
inductive O where
  | lst (xs : List D) | dk (ks : List Key) (xs : List D) | ins (C : Str) (fs : List (Str × D))
abbrev Hs := List O
abbrev Ev := List (Option D)

inductive R (α : Type) where
  | ok (a : α) (S : Hs) | exc (x : Str) (fs : List (Str × D)) (S : Hs) | stuck
def R.bind {α β : Type} (r : R α) (f : α → Hs → R β) : R β := match r with
  | .ok a S => f a S
  | .exc x fs S => .exc x fs S
  | .stuck => .stuck

/-- the addresses of the small heap; hidden ones, that may be written -/
structure Mm where
  v : List Addr
  h : List Addr
instance : Membership Addr Mm := ⟨fun m a => a ∈ m.v ∨ a ∈ m.h⟩
theorem Mm.mem_iff {m : Mm} {a : Addr} : a ∈ m ↔ a ∈ m.v ∨ a ∈ m.h := Iff.rfl
abbrev Mm.add (m : Mm) (ext : List Addr) : Mm := ⟨m.v ++ ext, m.h⟩
/-! ### how values stand -/
def KT (K : Frag) (a : Addr) (vs : List V) : Prop := ∃ (o : Obj) (its : Array Value) (n : Nat), K.lookup a = some o ∧ o.cls = .type "tuple" ∧ o.data = .seq its n ∧ its.size ≤ sizeLine ∧ Vals vs its.toList
def plT (its : List Value) (n : Nat) : Obj := { cls := .type "tuple", data := .seq its.toArray n }
def KTn (K : Frag) (a : Addr) (vs : List V) : Prop := ∃ (its : List Value) (n : Nat), K.lookup a = some (plT its n) ∧ its.length ≤ sizeLine ∧ Vals vs its
def TupAt (K : Frag) (m : Mm) (H : Hp) (a : Addr) (vs : List V) : Prop := (H a = some (.tup vs) ∧ a ∉ m) ∨ (∃ o, H a = some (.frz o (.tup vs)) ∧ a ∉ m) ∨ KT K a vs
/-- .. of which it is known that it is a plain object -/
def TpxAt (K : Frag) (m : Mm) (H : Hp) (a : Addr) (vs : List V) : Prop := (∃ its n, H a = some (.frz (plT its n) (.tup vs)) ∧ a ∉ m) ∨ KTn K a vs
theorem TpxAt.tup {K : Frag} {m : Mm} {H : Hp} {a : Addr} {vs : List V} (t : TpxAt K m H a vs) : TupAt K m H a vs := by
  rcases t with ⟨its, k, t, n⟩ | ⟨its, n, h1, h2, h3⟩
  · exact .inr (.inl ⟨_, t, n⟩)
  · exact .inr (.inr ⟨_, its.toArray, n, h1, rfl, rfl, by simpa using h2, by simpa using h3⟩)
def KL (K : Frag) (a : Addr) (vs : List V) : Prop := ∃ (o : Obj) (its : Array Value) (n : Nat), K.lookup a = some o ∧ o.cls = .type "list" ∧ o.dict = none ∧ o.data = .seq its n ∧ its.size ≤ sizeLine ∧ Vals vs its.toList
def LstAt (K : Frag) (m : Mm) (H : Hp) (a : Addr) (vs : List V) : Prop := (H a = some (.lst vs) ∧ a ∉ m) ∨ (∃ o, H a = some (.frz o (.lst vs)) ∧ a ∉ m) ∨ KL K a vs
mutual
def RD (K : Frag) (m : Mm) (H : Hp) : D → V → Prop
  | .non, v => v = .non
  | .bl b, v => v = .bl b
  | .int i, v => v = .int i
  | .str x, v => v = .str x
  | .tup ds, v => ∃ a vs, v = .ref a ∧ TupAt K m H a vs ∧ RDs K m H ds vs
  | .tpx ds, v => ∃ a vs, v = .ref a ∧ TpxAt K m H a vs ∧ RDs K m H ds vs
  | .lv ds, v => ∃ a vs, v = .ref a ∧ H a = some (.lst vs) ∧ a ∉ m ∧ RDs K m H ds vs
  | .rl ds, v => ∃ a vs, v = .ref a ∧ LstAt K m H a vs ∧ RDs K m H ds vs
  | .dv ks ds, v => ∃ a vs, v = .ref a ∧ H a = some (.dK (ks.zip vs)) ∧ a ∉ m ∧ ks.length = ds.length ∧ RDs K m H ds vs
  | .ref n, v => ∃ a, v = .ref a ∧ m.v[n]? = some a
  | .ty n, v => v = .ty n
  | .glo x, v => v = .ref (He.ga K x)
def RDs (K : Frag) (m : Mm) (H : Hp) : List D → List V → Prop
  | [], vs => vs = []
  | d :: ds, vs => ∃ v r, vs = v :: r ∧ RD K m H d v ∧ RDs K m H ds r
end
def RO (K : Frag) (m : Mm) (H : Hp) : O → HO → Prop
  | .lst ds, o => ∃ vs, o = .lst vs ∧ RDs K m H ds vs
  | .dk ks ds, o => ∃ vs, o = .dK (ks.zip vs) ∧ ks.length = ds.length ∧ RDs K m H ds vs
  | .ins C fs, o => ∃ dx vs, o = .ins (He.ga K C) dx ((fs.map (·.1)).zip vs) ∧ RDs K m H (fs.map (·.2)) vs

/-- no table -/
abbrev NT (o : HO) : Prop := ∀ ps, o ≠ .tbl ps
/-- all that is tracked stays, but the objects at m (and the tables of code) -/
structure Keep (m : Mm) (H H' : Hp) : Prop where
  keep : ∀ a o, H a = some o → a ∉ m.v → (∀ ps, o ≠ .tbl ps) → H' a = some o
  dom : ∀ a o, H a = some o → NT o → ∃ o', H' a = some o' ∧ NT o'
def Grow (m : Mm) (H : Hp) (m' : Mm) (H' : Hp) : Prop := ∃ ext, m' = m.add ext ∧ (∀ a ∈ ext, ∀ o, H a = some o → ¬ NT o) ∧ Keep m H H'
structure Rep (K : Frag) (T : List (Addr × Str)) (m : Mm) (S : Hs) (H : Hp) : Prop where
  len : m.v.length = S.length
  nd : m.v.Nodup
  at_ : ∀ (n : Nat) o, S[n]? = some o → ∃ a ho, m.v[n]? = some a ∧ H a = some ho ∧ RO K m H o ho
  hid : ∀ a ∈ m.h, a ∉ m.v ∧ ∃ o, H a = some o ∧ ∀ ps, o ≠ .tbl ps
  tb : LamX.Tabs T H
structure RV (K : Frag) (m : Mm) (H : Hp) (ρ : Ev) (σ : L2.St) : Prop where
  len : σ.length = ρ.length
  at_ : ∀ (i : Nat) d, ρ[i]? = some (some d) → ∃ v, σ[i]? = some (some v) ∧ RD K m H d v
def RX (K : Frag) (m : Mm) (H : Hp) (x : Str) (fs : List (Str × D)) (cls : Value) (d : Option Addr) : Prop :=
  cls = .ref (He.ga K x) ∧ ∃ dd ws, d = some dd ∧ H dd = some (.xd ws) ∧ ∀ f v, fs.lookup f = some v → ∃ u, ws.lookup f = some u ∧ RD K m H v u

section
variable {K : Frag} {T : List (Addr × Str)} {m m1 m2 : Mm} {H H1 H2 : Hp} {S : Hs}

theorem Keep.refl : Keep m H H := ⟨fun _ _ e _ _ => e, fun _ o e n => ⟨o, e, n⟩⟩
theorem Keep.trans {ext : List Addr} (a : Keep m H H1) (b : Keep (m.add ext) H1 H2) (he : ∀ a ∈ ext, ∀ o, H a = some o → ¬ NT o) : Keep m H H2 := by
  refine ⟨fun c o e n t => b.keep c o (a.keep c o e n t) (fun z => ?_) t, fun c o e n => ?_⟩
  · rcases List.mem_append.mp z with z | z
    · exact n z
    · exact he c z o e t
  · obtain ⟨o1, e1, n1⟩ := a.dom c o e n
    exact b.dom c o1 e1 n1
theorem Grow.refl : Grow m H m H := ⟨[], by simp [Mm.add], (fun _ z => nomatch z), Keep.refl⟩
theorem Grow.trans (a : Grow m H m1 H1) (b : Grow m1 H1 m2 H2) : Grow m H m2 H2 := by
  obtain ⟨e1, rfl, n1, k1⟩ := a
  obtain ⟨e2, rfl, n2, k2⟩ := b
  refine ⟨e1 ++ e2, by simp [Mm.add], fun c hc o q n => ?_, k1.trans k2 n1⟩
  rcases List.mem_append.mp hc with hc | hc
  · exact n1 c hc o q n
  · obtain ⟨o', e', n'⟩ := k1.dom c o q n
    exact n2 c hc o' e' n'
theorem Grow.keep (a : Grow m H m1 H1) : Keep m H H1 := let ⟨_, _, _, k⟩ := a; k
theorem Grow.notin (g : Grow m H m1 H1) {a : Addr} {o : HO} (e : H a = some o) (n : a ∉ m) (t : NT o) : a ∉ m1 := by
  obtain ⟨e1, rfl, n1, k1⟩ := g
  intro z
  rcases z with z | z
  · rcases List.mem_append.mp z with z | z
    · exact n (.inl z)
    · exact n1 a z o e t
  · exact n (.inr z)
theorem Grow.at_ (g : Grow m H m1 H1) {n : Nat} {a : Addr} (e : m.v[n]? = some a) : m1.v[n]? = some a := by
  obtain ⟨e1, rfl, _, _⟩ := g
  rw [List.getElem?_append_left (List.getElem?_eq_some_iff.mp e).1]
  exact e
theorem Grow.of_keep (k : Keep m H H1) : Grow m H m H1 := ⟨[], by simp [Mm.add], (fun _ z => nomatch z), k⟩
mutual
theorem RD.grow (g : Grow m H m1 H1) : ∀ {d : D} {v : V}, RD K m H d v → RD K m1 H1 d v
  | .non, _, h => h
  | .bl _, _, h => h
  | .int _, _, h => h
  | .str _, _, h => h
  | .tup ds, v, h => by
    simp only [RD] at h ⊢
    obtain ⟨a, vs, e, t, r⟩ := h
    refine ⟨a, vs, e, ?_, RDs.grow g r⟩
    rcases t with ⟨t, n⟩ | ⟨o, t, n⟩ | t
    · exact .inl ⟨g.keep.keep a _ t (fun z => n (.inl z)) (fun _ z => nomatch z), g.notin t n (fun _ z => nomatch z)⟩
    · exact .inr (.inl ⟨o, g.keep.keep a _ t (fun z => n (.inl z)) (fun _ z => nomatch z), g.notin t n (fun _ z => nomatch z)⟩)
    · exact .inr (.inr t)
  | .tpx ds, v, h => by
    simp only [RD] at h ⊢
    obtain ⟨a, vs, e, t, r⟩ := h
    refine ⟨a, vs, e, ?_, RDs.grow g r⟩
    rcases t with ⟨its, k, t, n⟩ | t
    · exact .inl ⟨its, k, g.keep.keep a _ t (fun z => n (.inl z)) (fun _ z => nomatch z), g.notin t n (fun _ z => nomatch z)⟩
    · exact .inr t
  | .lv ds, v, h => by
    simp only [RD] at h ⊢
    obtain ⟨a, vs, e, t, n, r⟩ := h
    exact ⟨a, vs, e, g.keep.keep a _ t (fun z => n (.inl z)) (fun _ z => nomatch z), g.notin t n (fun _ z => nomatch z), RDs.grow g r⟩
  | .rl ds, v, h => by
    simp only [RD] at h ⊢
    obtain ⟨a, vs, e, t, r⟩ := h
    refine ⟨a, vs, e, ?_, RDs.grow g r⟩
    rcases t with ⟨t, n⟩ | ⟨o, t, n⟩ | t
    · exact .inl ⟨g.keep.keep a _ t (fun z => n (.inl z)) (fun _ z => nomatch z), g.notin t n (fun _ z => nomatch z)⟩
    · exact .inr (.inl ⟨o, g.keep.keep a _ t (fun z => n (.inl z)) (fun _ z => nomatch z), g.notin t n (fun _ z => nomatch z)⟩)
    · exact .inr (.inr t)
  | .dv ks ds, v, h => by
    simp only [RD] at h ⊢
    obtain ⟨a, vs, e, t, n, l, r⟩ := h
    exact ⟨a, vs, e, g.keep.keep a _ t (fun z => n (.inl z)) (fun _ z => nomatch z), g.notin t n (fun _ z => nomatch z), l, RDs.grow g r⟩
  | .ref n, v, h => by
    simp only [RD] at h ⊢
    obtain ⟨a, e, t⟩ := h
    exact ⟨a, e, g.at_ t⟩
  | .ty _, _, h => h
  | .glo _, _, h => h
theorem RDs.grow (g : Grow m H m1 H1) : ∀ {ds : List D} {vs : List V}, RDs K m H ds vs → RDs K m1 H1 ds vs
  | [], _, h => h
  | d :: ds, vs, h => by
    simp only [RDs] at h ⊢
    obtain ⟨v, r, e, h1, h2⟩ := h
    exact ⟨v, r, e, RD.grow g h1, RDs.grow g h2⟩
end
theorem RDs.len : ∀ {ds : List D} {vs : List V}, RDs K m H ds vs → vs.length = ds.length
  | [], _, h => by simp only [RDs] at h; subst h; rfl
  | d :: ds, vs, h => by
    simp only [RDs] at h
    obtain ⟨v, r, e, _, h2⟩ := h
    subst e
    rw [List.length_cons, List.length_cons, RDs.len h2]
theorem RDs.get : ∀ {ds : List D} {vs : List V} {i : Nat} {d : D}, RDs K m H ds vs → ds[i]? = some d → ∃ v, vs[i]? = some v ∧ RD K m H d v
  | [], _, _, _, _, e => by simp at e
  | d :: ds, vs, 0, _, h, e => by
    simp only [RDs] at h
    obtain ⟨v, r, e', h1, h2⟩ := h
    subst e'
    simp at e
    subst e
    exact ⟨v, rfl, h1⟩
  | d :: ds, vs, i + 1, x, h, e => by
    simp only [RDs] at h
    obtain ⟨v, r, e', h1, h2⟩ := h
    subst e'
    obtain ⟨u, q, z⟩ := RDs.get (i := i) h2 (by simpa using e)
    exact ⟨u, by simpa using q, z⟩
theorem RDs.nil : RDs K m H [] [] := by simp only [RDs]
theorem RDs.cons {d : D} {ds : List D} {v : V} {vs : List V} (h : RD K m H d v) (r : RDs K m H ds vs) : RDs K m H (d :: ds) (v :: vs) := by
  simp only [RDs]
  exact ⟨v, vs, rfl, h, r⟩
theorem RDs.append : ∀ {ds es : List D} {vs us : List V}, RDs K m H ds vs → RDs K m H es us → RDs K m H (ds ++ es) (vs ++ us)
  | [], _, _, _, h, k => by simp only [RDs] at h; subst h; simpa using k
  | d :: ds, es, vs, us, h, k => by
    simp only [RDs] at h
    obtain ⟨v, r, e, h1, h2⟩ := h
    subst e
    exact RDs.cons h1 (RDs.append h2 k)
theorem RDs.take : ∀ {ds : List D} {vs : List V} (n : Nat), RDs K m H ds vs → RDs K m H (ds.take n) (vs.take n)
  | _, _, 0, _ => by simp only [List.take_zero]; exact RDs.nil
  | [], _, n + 1, h => by simp only [RDs] at h; subst h; simp only [List.take_nil]; exact RDs.nil
  | d :: ds, vs, n + 1, h => by
    simp only [RDs] at h
    obtain ⟨v, r, e, h1, h2⟩ := h
    subst e
    exact RDs.cons h1 (RDs.take n h2)
theorem RDs.drop : ∀ {ds : List D} {vs : List V} (n : Nat), RDs K m H ds vs → RDs K m H (ds.drop n) (vs.drop n)
  | _, _, 0, h => h
  | [], _, n + 1, h => by simp only [RDs] at h; subst h; simp only [List.drop_nil]; exact RDs.nil
  | d :: ds, vs, n + 1, h => by
    simp only [RDs] at h
    obtain ⟨v, r, e, h1, h2⟩ := h
    subst e
    exact RDs.drop n h2
theorem RDs.set : ∀ {ds : List D} {vs : List V} (i : Nat) {d : D} {v : V}, RDs K m H ds vs → RD K m H d v → RDs K m H (ds.set i d) (vs.set i v)
  | [], _, _, _, _, h, _ => by simp only [RDs] at h; subst h; simp only [List.set_nil]; exact RDs.nil
  | d :: ds, vs, 0, _, _, h, k => by
    simp only [RDs] at h
    obtain ⟨v, r, e, h1, h2⟩ := h
    subst e
    exact RDs.cons k h2
  | d :: ds, vs, i + 1, _, _, h, k => by
    simp only [RDs] at h
    obtain ⟨v, r, e, h1, h2⟩ := h
    subst e
    exact RDs.cons h1 (RDs.set i h2 k)
theorem RDs.reverse : ∀ {ds : List D} {vs : List V}, RDs K m H ds vs → RDs K m H ds.reverse vs.reverse
  | [], _, h => by simp only [RDs] at h; subst h; exact RDs.nil
  | d :: ds, vs, h => by
    simp only [RDs] at h
    obtain ⟨v, r, e, h1, h2⟩ := h
    subst e
    simp only [List.reverse_cons]
    exact RDs.append (RDs.reverse h2) (RDs.cons h1 RDs.nil)
theorem TupAt.sq {a : Addr} {vs : List V} (t : TupAt K m H a vs) : SqT K H a vs := by
  rcases t with ⟨t, _⟩ | ⟨o, t, _⟩ | ⟨o, its, n, h1, h2, h3, h4, h5⟩
  · exact SqT.of t
  · exact .inl (.inr ⟨o, t⟩)
  · exact .inr ⟨o, its, n, h1, h2, h3, h4, h5⟩
theorem LstAt.sq {a : Addr} {vs : List V} (t : LstAt K m H a vs) : SqL K H a vs := by
  rcases t with ⟨t, _⟩ | ⟨o, t, _⟩ | ⟨o, its, n, h⟩
  · exact SqL.of t
  · exact .inl (.inr ⟨o, t⟩)
  · exact .inr ⟨o, its, n, h⟩
theorem RV.grow {ρ : Ev} {σ : L2.St} (r : RV K m H ρ σ) (g : Grow m H m1 H1) : RV K m1 H1 ρ σ :=
  ⟨r.len, fun i d e => let ⟨v, e1, h⟩ := r.at_ i d e; ⟨v, e1, RD.grow g h⟩⟩
theorem RV.set {ρ : Ev} {σ : L2.St} (r : RV K m H ρ σ) (i : Nat) {d : D} {v : V} (h : RD K m H d v) : RV K m H (ρ.set i (some d)) (σ.set i (some v)) := by
  refine ⟨by simpa using r.len, fun j x e => ?_⟩
  by_cases hj : i = j
  · subst hj
    by_cases hi : i < ρ.length
    · rw [List.getElem?_set_self hi] at e
      cases e
      exact ⟨v, by rw [List.getElem?_set_self (by rw [r.len]; exact hi)], h⟩
    · rw [List.getElem?_eq_none (by simpa using hi)] at e
      cases e
  · rw [List.getElem?_set_ne hj] at e ⊢
    exact r.at_ j x e
theorem RV.set0 {ρ : Ev} {σ : L2.St} (r : RV K m H ρ σ) (i : Nat) (x : Option V) : RV K m H (ρ.set i none) (σ.set i x) := by
  refine ⟨by simpa using r.len, fun j y e => ?_⟩
  by_cases hj : i = j
  · subst hj
    by_cases hi : i < ρ.length
    · rw [List.getElem?_set_self hi] at e
      cases e
    · rw [List.getElem?_eq_none (by simpa using hi)] at e
      cases e
  · rw [List.getElem?_set_ne hj] at e ⊢
    exact r.at_ j y e
end

/-! ### results, wished of -/
/-- r's end is wished of: rel: how a plain result stands -/
def Po (K : Frag) (T : List (Addr × Str)) {α β : Type} (rel : Mm → Hp → α → β → Prop) (m : Mm) (H : Hp) (r : R α) (Q : β → Hp → Prop) (W : Value → Option Addr → Hp → Prop) : Prop := match r with
  | .ok d S' => ∀ v m' H', Grow m H m' H' → Rep K T m' S' H' → rel m' H' d v → Q v H'
  | .exc x fs S' => ∀ cls dd m' H', Grow m H m' H' → Rep K T m' S' H' → RX K m' H' x fs cls dd → W cls dd H'
  | .stuck => False
section
variable {K : Frag} {T : List (Addr × Str)} {m m1 : Mm} {H H1 : Hp} {α β γ δ : Type} {rel : Mm → Hp → α → β → Prop} {rel2 : Mm → Hp → γ → δ → Prop} {r : R α} {Q : β → Hp → Prop} {Q2 : δ → Hp → Prop} {W : Value → Option Addr → Hp → Prop} {k : α → Hs → R γ}
theorem Po.grow (g : Grow m H m1 H1) (p : Po K T rel m H r Q W) : Po K T rel m1 H1 r Q W := by
  cases r with
  | ok d S => exact fun v m' H' g' rp h => p v m' H' (g.trans g') rp h
  | exc x fs S => exact fun c d m' H' g' rp h => p c d m' H' (g.trans g') rp h
  | stuck => exact p
/-- first r, then what goes on from it -/
theorem Po.bind (p : Po K T rel2 m H (r.bind k) Q2 W) : Po K T rel m H r (fun v H1 => ∃ x S1 m1, r = .ok x S1 ∧ Grow m H m1 H1 ∧ Rep K T m1 S1 H1 ∧ rel m1 H1 x v ∧ Po K T rel2 m1 H1 (k x S1) Q2 W) W := by
  cases r with
  | ok d S => exact fun v m' H' g rp h => ⟨d, S, m', rfl, g, rp, h, Po.grow g p⟩
  | exc x fs S => exact p
  | stuck => exact p
theorem Po.mono {Q' : β → Hp → Prop} (p : Po K T rel m H r Q W) (h : ∀ v H', Q v H' → Q' v H') : Po K T rel m H r Q' W := by
  cases r with
  | ok d S => exact fun v m' H' g' rp z => h _ _ (p v m' H' g' rp z)
  | exc x fs S => exact p
  | stuck => exact p
end

/-- the reading of a plain function of the slots and the small heap -/
def tE (K : Frag) (T : List (Addr × Str)) (W : WX) (f : Ev → Hs → R D) : TE := fun σ H Q =>
  ∃ m ρ S, Rep K T m S H ∧ RV K m H ρ σ ∧ Po K T (RD K) m H (f ρ S) Q (fun c d H' => W c d σ H')
def tT (K : Frag) (T : List (Addr × Str)) (W : WX) (f : Ev → Hs → R Bool) : TT := fun σ H Q =>
  ∃ m ρ S, Rep K T m S H ∧ RV K m H ρ σ ∧ Po K T (fun _ _ (b : Bool) c => c = b) m H (f ρ S) Q (fun c d H' => W c d σ H')
def tA (K : Frag) (T : List (Addr × Str)) (W : WX) (f : Ev → Hs → R (List D)) : TA := fun σ H Q =>
  ∃ m ρ S, Rep K T m S H ∧ RV K m H ρ σ ∧ Po K T (RDs K) m H (f ρ S) Q (fun c d H' => W c d σ H')
def RE (X : Cx) (T : List (Addr × Str)) (W : WX) (e : Expr) (f : Ev → Hs → R D) : Prop := PE X e (tE X.K T W f)
def RT (X : Cx) (T : List (Addr × Str)) (W : WX) (e : Expr) (f : Ev → Hs → R Bool) : Prop := PT X e (tT X.K T W f)
def RA (X : Cx) (T : List (Addr × Str)) (W : WX) (es : List Expr) (f : Ev → Hs → R (List D)) : Prop := PA X es (tA X.K T W f)
end Pv

set_option maxHeartbeats 4000000
/-! Pv2: new objects, operators by values. -/
namespace Pv
open PySem PySem.Spec PyProof.Rows L2

section
variable {K : Frag} {T : List (Addr × Str)} {m m1 : Mm} {H H1 : Hp} {S : Hs}

/-- what may be written at an address of the small heap -/
def isM : HO → Prop
  | .lst _ => True
  | .dK _ => True
  | .ins _ _ _ => True
  | _ => False
theorem RO.isM {o : O} {ho : HO} (h : RO K m H o ho) : isM ho := by
  cases o with
  | lst ds => obtain ⟨vs, rfl, _⟩ := h; trivial
  | dk ks ds => obtain ⟨vs, rfl, _⟩ := h; trivial
  | ins C fs => obtain ⟨dx, vs, rfl, _⟩ := h; trivial
theorem isM.mut {ho : HO} (h : isM ho) : Mut (some ho) := by
  cases ho <;> first | exact h.elim | trivial
theorem tabs_upd {a : Addr} {o : HO} (t : LamX.Tabs T H) (h : ∀ u, H a = some u → isM u) : LamX.Tabs T (upd H a o) := fun p hp => by
  obtain ⟨ps, h1, h2, h3⟩ := t p hp
  have ne : ∀ b u, H b = some u → ¬ isM u → b ≠ a := fun b u e n z => n (h u (z ▸ e))
  refine ⟨ps, by rw [upd_ne (ne _ _ h1 (fun z => z))]; exact h1, h2, fun pos cv hc => ?_⟩
  obtain ⟨c, e1, e2⟩ := h3 pos cv hc
  exact ⟨c, e1, by rw [upd_ne (ne _ _ e2 (fun z => z))]; exact e2⟩
theorem Rep.notin (r : Rep K T m S H) {a : Addr} (h : H a = none) : a ∉ m := fun z => by
  rcases z with z | z
  case inr =>
    obtain ⟨_, o, e, _⟩ := r.hid a z
    rw [h] at e
    cases e
  obtain ⟨n, hn, e⟩ := List.mem_iff_getElem.mp z
  have hs : n < S.length := by rw [← r.len]; exact hn
  obtain ⟨b, ho, e1, e2, _⟩ := r.at_ n S[n] (List.getElem?_eq_getElem hs)
  rw [List.getElem?_eq_getElem hn, e] at e1
  cases e1
  rw [h] at e2
  cases e2
theorem Keep.new {a : Addr} {o : HO} (h : H a = none) : Keep m H (upd H a o) :=
  ⟨fun b u e _ _ => by rw [upd_ne (ne_of_none e h)]; exact e, fun b u e n => ⟨u, by rw [upd_ne (ne_of_none e h)]; exact e, n⟩⟩
theorem Grow.new {a : Addr} {o : HO} (h : H a = none) : Grow m H m (upd H a o) := Grow.of_keep (Keep.new h)
theorem Grow.newM {a : Addr} {o : HO} (h : H a = none) : Grow m H (m.add [a]) (upd H a o) :=
  ⟨[a], rfl, (fun b hb o e => by rw [List.mem_singleton.mp hb, h] at e; cases e), Keep.new h⟩
theorem RO.grow {o : O} {ho : HO} (g : Grow m H m1 H1) (h : RO K m H o ho) : RO K m1 H1 o ho := by
  cases o with
  | lst ds => obtain ⟨vs, e, r⟩ := h; exact ⟨vs, e, RDs.grow g r⟩
  | dk ks ds => obtain ⟨vs, e, l, r⟩ := h; exact ⟨vs, e, l, RDs.grow g r⟩
  | ins C fs => obtain ⟨dx, vs, e, r⟩ := h; exact ⟨dx, vs, e, RDs.grow g r⟩
theorem Rep.new {a : Addr} {o : HO} (r : Rep K T m S H) (h : H a = none) : Rep K T m S (upd H a o) := by
  refine ⟨r.len, r.nd, fun n u e => ?_, fun b hb => ?_, tabs_upd r.tb fun u e => by rw [h] at e; cases e⟩
  case refine_2 =>
    obtain ⟨h1, u, h2, h3⟩ := r.hid b hb
    exact ⟨h1, u, by rw [upd_ne (ne_of_none h2 h)]; exact h2, h3⟩
  obtain ⟨b, ho, e1, e2, e3⟩ := r.at_ n u e
  exact ⟨b, ho, e1, by rw [upd_ne (ne_of_none e2 h)]; exact e2, RO.grow (Grow.new h) e3⟩
theorem Rep.newM {a : Addr} {o : O} {ho : HO} (r : Rep K T m S H) (h : H a = none) (ro : RO K m H o ho) : Rep K T (m.add [a]) (S ++ [o]) (upd H a ho) := by
  refine ⟨by simp [r.len], ?_, fun n u e => ?_, fun b hb => ?_, tabs_upd r.tb fun u e => by rw [h] at e; cases e⟩
  case refine_3 =>
    obtain ⟨h1, u, h2, h3⟩ := r.hid b hb
    refine ⟨fun z => ?_, u, by rw [upd_ne (ne_of_none h2 h)]; exact h2, h3⟩
    rcases List.mem_append.mp z with z | z
    · exact h1 z
    · rw [List.mem_singleton.mp z, h] at h2
      cases h2
  · refine List.nodup_append.mpr ⟨r.nd, by simp, fun x hx y hy => ?_⟩
    rw [List.mem_singleton.mp hy]
    intro z
    exact r.notin h (.inl (z ▸ hx))
  · by_cases hn : n < S.length
    · rw [List.getElem?_append_left hn] at e
      obtain ⟨b, hb, e1, e2, e3⟩ := r.at_ n u e
      exact ⟨b, hb, by rw [List.getElem?_append_left (by rw [r.len]; exact hn)]; exact e1, by rw [upd_ne (ne_of_none e2 h)]; exact e2, RO.grow (Grow.newM h) e3⟩
    · have hle : S.length ≤ n := Nat.le_of_not_lt hn
      rw [List.getElem?_append_right hle] at e
      have hz : n - S.length = 0 := by
        have := (List.getElem?_eq_some_iff.mp e).1
        simp at this
        omega
      rw [hz] at e
      simp at e
      subst e
      refine ⟨a, ho, ?_, upd_same, RO.grow (Grow.newM h) ro⟩
      rw [List.getElem?_append_right (by rw [r.len]; exact hle), r.len, hz]
      rfl
theorem isM.nt {o : HO} (h : isM o) : NT o := fun ps z => by subst z; exact h
theorem RO.nt {o : O} {ho : HO} (h : RO K m H o ho) : NT ho := h.isM.nt
theorem Keep.upd {a : Addr} {o u : HO} (h : H a = some u) (hm : a ∈ m.v) (n : NT o) : Keep m H (upd H a o) :=
  ⟨fun b w e nn _ => by
    have hb : b ≠ a := fun z => nn (by rw [z]; exact hm)
    rw [upd_ne hb]; exact e, fun b w e t => by
    by_cases hb : b = a
    · subst hb; exact ⟨o, upd_same, n⟩
    · exact ⟨w, by rw [upd_ne hb]; exact e, t⟩⟩
theorem Grow.upd {a : Addr} {o u : HO} (h : H a = some u) (hm : a ∈ m.v) (n : NT o) : Grow m H m (upd H a o) := Grow.of_keep (Keep.upd h hm n)
theorem Rep.upd {n : Nat} {a : Addr} {o : O} {ho u : HO} (r : Rep K T m S H) (hn : m.v[n]? = some a) (h : H a = some u) (hu : isM u) (ro : RO K m H o ho) : Rep K T m (S.set n o) (upd H a ho) := by
  have hm : a ∈ m.v := List.mem_of_getElem? hn
  refine ⟨by simpa using r.len, r.nd, fun k w e => ?_, fun b hb => ?_, tabs_upd r.tb fun w e => by rw [h] at e; cases e; exact hu⟩
  case refine_2 =>
    obtain ⟨h1, w, h2, h3⟩ := r.hid b hb
    refine ⟨h1, w, ?_, h3⟩
    rw [upd_ne]
    · exact h2
    · intro z
      exact h1 (z ▸ List.mem_of_getElem? hn)
  by_cases hk : n = k
  · subst hk
    have hl : n < S.length := by
      rw [← r.len]
      exact (List.getElem?_eq_some_iff.mp hn).1
    rw [List.getElem?_set_self hl] at e
    cases e
    exact ⟨a, ho, hn, upd_same, RO.grow (Grow.upd h hm ro.nt) ro⟩
  · rw [List.getElem?_set_ne hk] at e
    obtain ⟨b, hb, e1, e2, e3⟩ := r.at_ k w e
    refine ⟨b, hb, e1, ?_, RO.grow (Grow.upd h hm ro.nt) e3⟩
    rw [upd_ne]
    · exact e2
    · intro z
      subst z
      obtain ⟨i1, j1⟩ := List.getElem?_eq_some_iff.mp hn
      obtain ⟨i2, j2⟩ := List.getElem?_eq_some_iff.mp e1
      exact hk ((List.getElem_inj r.nd).mp (j1.trans j2.symm))
end

/-! ### the context -/
/-- what a reading asks of its context -/
structure Gd (X : Cx) (T : List (Addr × Str)) (W : WX) : Prop where
  nd : X.N.Nodup
  calm : X.calm = true
  tk : Takes X W

section
variable {X : Cx} {T : List (Addr × Str)} {W : WX} {a b c e : Expr} {fa fb fc : Ev → Hs → R D} {pos : Pos}


/-- an expression, then what goes on -/
theorem seqE {β δ : Type} {rel : Mm → Hp → β → δ → Prop} {Q : δ → Hp → Prop} {k : D → Hs → R β} (ha : RE X T W a fa) {pins : List (Addr × Obj)} {s : Shared} {σ : L2.St} {H : Hp} {m : Mm} {ρ : Ev} {S : Hs}
    (I : Inv X pins σ H s) (rp : Rep X.K T m S H) (rv : RV X.K m H ρ σ) (po : Po X.K T rel m H ((fa ρ S).bind k) Q (fun c d H' => W c d σ H')) :
    wpAny (model X.prog X.w) X.A (eval a X.env) (fun u s1 => ∃ d v S1 m1 H1, Inv X pins σ H1 s1 ∧ RelV v u ∧ Rep X.K T m1 S1 H1 ∧ RV X.K m1 H1 ρ σ ∧ Grow m H m1 H1 ∧ RD X.K m1 H1 d v ∧ Po X.K T rel m1 H1 (k d S1) Q (fun c d H' => W c d σ H')) X.xe s := by
  refine thn (ha.run pins s σ H _ I ⟨m, ρ, S, rp, rv, Po.bind po⟩) fun u s1 ⟨v, H1, I1, r1, x, S1, m1, _, g, rp1, rd, po1⟩ => ?_
  exact ⟨x, v, S1, m1, H1, I1, r1, rp1, rv.grow g, g, rd, po1⟩

theorem re_var {i : Nat} {x : Str} (hN : X.N[i]? = some x) (hv : Vis X.env.scope x) (hd : (x == ("__debug__" : Str)) = false) (hcd : (x == ("__classdict__" : Str)) = false) :
    RE X T W (.Name x pos) (fun ρ S => match ρ[i]? with | some (some d) => .ok d S | _ => .stuck) := by
  refine ⟨fun pins s σ H Q I h => ?_⟩
  obtain ⟨m, ρ, S, rp, rv, po⟩ := h
  dsimp only at po
  cases e : ρ[i]? with
  | none => rw [e] at po; exact po.elim
  | some o =>
    cases o with
    | none => rw [e] at po; exact po.elim
    | some d =>
      rw [e] at po
      obtain ⟨v, e1, h1⟩ := rv.at_ i d e
      exact (pe_var hN hv hd hcd).run pins s σ H Q I ⟨v, e1, po v m H Grow.refl rp h1⟩
/-- what has one value, whatever the heap -/
theorem re_const {v : V} {d : D} (he : PE X e (tC v)) (hd : ∀ m H, RD X.K m H d v) : RE X T W e (fun _ S => .ok d S) := by
  refine ⟨fun pins s σ H Q I h => ?_⟩
  obtain ⟨m, ρ, S, rp, rv, po⟩ := h
  exact he.run pins s σ H Q I (po v m H Grow.refl rp (hd m H))

/-- a two-place operation by plain values -/
def OpD (X : Cx) (T : List (Addr × Str)) (W : WX) (f : Value → Value → Sem Value) (g : D → D → Hs → R D) : Prop :=
  ∀ (pins : List (Addr × Obj)) (s : Shared) (σ : L2.St) (H : Hp) (m : Mm) (S : Hs) (dx dy : D) (x y : V) (v u : Value) (Q : VK), Inv X pins σ H s → Rep X.K T m S H → RD X.K m H dx x → RD X.K m H dy y → RelV x v → RelV y u →
    Po X.K T (RD X.K) m H (g dx dy S) Q (fun c d H' => W c d σ H') → wpAny (model X.prog X.w) X.A (f v u) (EP X pins σ Q) X.xe s
def UnD (X : Cx) (T : List (Addr × Str)) (W : WX) (f : Value → Sem Value) (g : D → Hs → R D) : Prop :=
  ∀ (pins : List (Addr × Obj)) (s : Shared) (σ : L2.St) (H : Hp) (m : Mm) (S : Hs) (dx : D) (x : V) (v : Value) (Q : VK), Inv X pins σ H s → Rep X.K T m S H → RD X.K m H dx x → RelV x v →
    Po X.K T (RD X.K) m H (g dx S) Q (fun c d H' => W c d σ H') → wpAny (model X.prog X.w) X.A (f v) (EP X pins σ Q) X.xe s
def mOp (g : D → D → Hs → R D) (fa fb : Ev → Hs → R D) : Ev → Hs → R D := fun ρ S => (fa ρ S).bind fun x S1 => (fb ρ S1).bind fun y S2 => g x y S2

theorem binE {g : D → D → Hs → R D} {f : Value → Value → Sem Value} (ho : OpD X T W f g) (ha : RE X T W a fa) (hb : RE X T W b fb) {pins : List (Addr × Obj)} {s : Shared} {σ : L2.St} {H : Hp} {Q : VK} (I : Inv X pins σ H s) (h : tE X.K T W (mOp g fa fb) σ H Q) :
    wpAny (model X.prog X.w) X.A (eval a X.env) (fun v s₁ => wpAny (model X.prog X.w) X.A (eval b X.env) (fun u s₂ => wpAny (model X.prog X.w) X.A (f v u) (EP X pins σ Q) X.xe s₂) X.xe s₁) X.xe s := by
  obtain ⟨m, ρ, S, rp, rv, po⟩ := h
  refine thn (seqE ha I rp rv po) fun v s1 ⟨x, vx, S1, m1, H1, I1, r1, rp1, rv1, g1, d1, po1⟩ => ?_
  refine thn (seqE hb I1 rp1 rv1 po1) fun u s2 ⟨y, vy, S2, m2, H2, I2, r2, rp2, rv2, g2, d2, po2⟩ => ?_
  exact ho pins s2 σ H2 m2 S2 x y vx vy v u Q I2 rp2 (RD.grow g2 d1) d2 r1 r2 po2
theorem re_bin {op : Operator} {g : D → D → Hs → R D} (ho : OpD X T W (binaryOp op) g) (ha : RE X T W a fa) (hb : RE X T W b fb) : RE X T W (.BinOp a op b pos) (mOp g fa fb) :=
  ⟨fun _ _ _ _ _ I h => wpAny_BinOp (binE ho ha hb I h)⟩
theorem re_cmp {op : CmpOp} {g : D → D → Hs → R D} (ho : OpD X T W (compareOp op) g) (ha : RE X T W a fa) (hb : RE X T W b fb) (hm : behindInMarks op b = false) : RE X T W (.Compare a [op] [b] pos) (mOp g fa fb) :=
  ⟨fun _ _ _ _ _ I h => wpAny_Compare1 (binE ho ha hb I h) hm⟩
theorem re_un {op : UnaryOp} {g : D → Hs → R D} (ho : UnD X T W (unaryOp op) g) (ha : RE X T W a fa) : RE X T W (.UnaryOp op a pos) (fun ρ S => (fa ρ S).bind g) := by
  refine ⟨fun pins s σ H Q I h => ?_⟩
  obtain ⟨m, ρ, S, rp, rv, po⟩ := h
  exact UnaryOp_ (thn (seqE ha I rp rv po) fun v s1 ⟨x, vx, S1, m1, H1, I1, r1, rp1, rv1, g1, d1, po1⟩ => ho pins s1 σ H1 m1 S1 x vx v Q I1 rp1 d1 r1 po1)
end
end Pv

set_option maxHeartbeats 4000000
/-! Pv3: two-place operators on plain values. -/
namespace Pv
open PySem PySem.Spec PyProof.Rows L2

/-! ### what is read as a row -/
def lOf (S : Hs) : D → Option (List D)
  | .lv xs => some xs
  | .ref n => match S[n]? with
    | some (.lst xs) => some xs
    | _ => none
  | _ => none
inductive Sq where
  | t (xs : List D) | l (xs : List D) | no
def sOf (S : Hs) : D → Sq
  | .tup xs => .t xs
  | .tpx xs => .t xs
  | .rl xs => .l xs
  | .lv xs => .l xs
  | .ref n => match S[n]? with
    | some (.lst xs) => .l xs
    | _ => .no
  | _ => .no
section
variable {K : Frag} {T : List (Addr × Str)} {m m1 : Mm} {H H1 : Hp} {S : Hs} {d : D} {v : V} {ds : List D} {Q : VK} {W' : Value → Option Addr → Hp → Prop}
theorem lOf_at (rp : Rep K T m S H) (rd : RD K m H d v) (e : lOf S d = some ds) : ∃ a vs, v = .ref a ∧ H a = some (.lst vs) ∧ RDs K m H ds vs := by
  cases d <;> simp only [lOf] at e <;> try cases e
  · simp only [RD] at rd
    obtain ⟨a, vs, e1, e2, _, e4⟩ := rd
    exact ⟨a, vs, e1, e2, e4⟩
  · rename_i n
    simp only [RD] at rd
    obtain ⟨a, rfl, e1⟩ := rd
    cases q : S[n]? with
    | none => rw [q] at e; cases e
    | some o =>
      rw [q] at e
      cases o with
      | lst xs =>
        cases e
        obtain ⟨b, ho, f1, f2, f3⟩ := rp.at_ n _ q
        rw [f1] at e1
        cases e1
        obtain ⟨vs, rfl, r⟩ := f3
        exact ⟨_, vs, rfl, f2, r⟩
      | dk ks xs => cases e
      | ins C fs => cases e
theorem sOf_l (rp : Rep K T m S H) (rd : RD K m H d v) (e : sOf S d = .l ds) : ∃ a vs, v = .ref a ∧ SqL K H a vs ∧ RDs K m H ds vs := by
  cases d <;> simp only [sOf] at e <;> try cases e
  · simp only [RD] at rd
    obtain ⟨a, vs, e1, e2, _, e4⟩ := rd
    exact ⟨a, vs, e1, SqL.of e2, e4⟩
  · simp only [RD] at rd
    obtain ⟨a, vs, e1, e2, e4⟩ := rd
    exact ⟨a, vs, e1, e2.sq, e4⟩
  · rename_i n
    have e' : lOf S (.ref n) = some ds := by
      simp only [lOf]
      cases q : S[n]? with
      | none => rw [q] at e; cases e
      | some o =>
        rw [q] at e
        cases o with
        | lst xs => cases e; rfl
        | dk ks xs => cases e
        | ins C fs => cases e
    obtain ⟨a, vs, e1, e2, e3⟩ := lOf_at rp rd e'
    exact ⟨a, vs, e1, SqL.of e2, e3⟩
theorem sOf_t (rd : RD K m H d v) (e : sOf S d = .t ds) : ∃ a vs, v = .ref a ∧ SqT K H a vs ∧ RDs K m H ds vs := by
  cases d <;> simp only [sOf] at e <;> try cases e
  · simp only [RD] at rd
    obtain ⟨a, vs, e1, e2, e4⟩ := rd
    exact ⟨a, vs, e1, e2.sq, e4⟩
  · simp only [RD] at rd
    obtain ⟨a, vs, e1, e2, e4⟩ := rd
    exact ⟨a, vs, e1, e2.tup.sq, e4⟩
  · rename_i n
    cases q : S[n]? with
    | none => rw [q] at e; cases e
    | some o => rw [q] at e; cases o <;> cases e
/-- a tuple as a plain tuple -/
theorem sOf_tup (rd : RD K m H d v) (e : sOf S d = .t ds) : RD K m H (.tup ds) v := by
  cases d <;> simp only [sOf] at e <;> try cases e
  · exact rd
  · simp only [RD] at rd ⊢
    obtain ⟨a, vs, e1, e2, e4⟩ := rd
    exact ⟨a, vs, e1, e2.tup, e4⟩
  · rename_i n
    cases q : S[n]? with
    | none => rw [q] at e; cases e
    | some o => rw [q] at e; cases o <;> cases e
/-! ### new rows -/
theorem po_lv {vs : List V} (rp : Rep K T m S H) (r : RDs K m H ds vs) (po : Po K T (RD K) m H (.ok (.lv ds) S) Q W') : ∀ p, H p = none → Q (.ref p) (upd H p (.lst vs)) := fun p hp => by
  refine po _ m _ (Grow.new hp) (rp.new hp) ?_
  simp only [RD]
  exact ⟨p, vs, rfl, upd_same, rp.notin hp, RDs.grow (Grow.new hp) r⟩
theorem po_tup {vs : List V} (rp : Rep K T m S H) (r : RDs K m H ds vs) (po : Po K T (RD K) m H (.ok (.tup ds) S) Q W') : ∀ p, H p = none → Q (.ref p) (upd H p (.tup vs)) := fun p hp => by
  refine po _ m _ (Grow.new hp) (rp.new hp) ?_
  simp only [RD]
  exact ⟨p, vs, rfl, .inl ⟨upd_same, rp.notin hp⟩, RDs.grow (Grow.new hp) r⟩
theorem po_ml {vs : List V} (rp : Rep K T m S H) (r : RDs K m H ds vs) (po : Po K T (RD K) m H (.ok (.ref S.length) (S ++ [.lst ds])) Q W') : ∀ p, H p = none → Q (.ref p) (upd H p (.lst vs)) := fun p hp => by
  have ro : RO K m H (.lst ds) (.lst vs) := ⟨vs, rfl, r⟩
  refine po _ (m.add [p]) _ (Grow.newM hp) (rp.newM hp ro) ?_
  simp only [RD]
  exact ⟨p, rfl, by rw [← rp.len]; simp⟩
/-- a new list, frozen or not -/
def nwl (mt : Bool) (ds : List D) (S : Hs) : R D := if mt = true then .ok (.ref S.length) (S ++ [.lst ds]) else .ok (.lv ds) S
theorem po_nwl {mt : Bool} {vs : List V} (rp : Rep K T m S H) (r : RDs K m H ds vs) (po : Po K T (RD K) m H (nwl mt ds S) Q W') : ∀ p, H p = none → Q (.ref p) (upd H p (.lst vs)) := by
  cases mt
  · exact po_lv rp r po
  · exact po_ml rp r po
theorem po_val {x : D} (rp : Rep K T m S H) (rd : RD K m H x v) (po : Po K T (RD K) m H (.ok x S) Q W') : Q v H := po v m H Grow.refl rp rd
end

/-! ### plus and the others -/
def gAdd (x y : D) (S : Hs) : R D := match x, y with
  | .int i, .int j => .ok (.int (i + j)) S
  | .str a, .str b => if a.length + b.length ≤ sizeLine then .ok (.str (a ++ b)) S else .stuck
  | x, y => match sOf S x, sOf S y with
    | .t a, .t b => if a.length + b.length ≤ sizeLine then .ok (.tup (a ++ b)) S else .stuck
    | _, _ => match lOf S x, lOf S y with
      | some a, some b => if a.length + b.length ≤ sizeLine then .ok (.lv (a ++ b)) S else .stuck
      | _, _ => .stuck
def gInt2 (C : Int → Int → Bool) (f : Int → Int → Int) (x y : D) (S : Hs) : R D := match x, y with
  | .int i, .int j => if C i j = true then .ok (.int (f i j)) S else .stuck
  | _, _ => .stuck
def yes2 : Int → Int → Bool := fun _ _ => true
def gSub := gInt2 yes2 fun i j => i - j
def gMul := gInt2 (fun i j => decide ((-(2 ^ 64) < i ∧ i < 2 ^ 64) ∨ (-(2 ^ 64) < j ∧ j < 2 ^ 64))) fun i j => i * j
def gFdiv := gInt2 (fun _ j => decide (j ≠ 0 ∧ j.natAbs < 1073741824)) fun i j => i.fdiv j
def gMod := gInt2 (fun _ j => decide (j ≠ 0)) fun i j => i.fmod j
def gPow := gInt2 (fun i j => decide (0 ≤ j ∧ j ≤ 1000000 ∧ i.natAbs < 2 ^ 64)) fun i j => i ^ j.toNat
section
variable {X : Cx} {T : List (Addr × Str)} {W : WX} {f : Value → Value → Sem Value}
theorem od_int {C : Int → Int → Bool} {g : Int → Int → Int} (h : OpR X f (rI (fun i j => C i j = true) fun i j => .int (g i j))) : OpD X T W f (gInt2 C g) := by
  intro pins s σ H m S dx dy x y v u Q I rp rx ry ex ey po
  unfold gInt2 at po
  split at po
  · rename_i i j
    split at po
    · rename_i hC
      cases (show x = .int i from rx)
      cases (show y = .int j from ry)
      exact h pins s σ H _ _ v u Q I ex ey ⟨i, j, rfl, rfl, hC, po_val rp (by simp only [RD]) po⟩
    · exact po.elim
  · exact po.elim
theorem rI_imp {C C' : Int → Int → Prop} {g : Int → Int → V} (h : OpR X f (rI C g)) (hc : ∀ i j, C' i j → C i j) : OpR X f (rI C' g) :=
  fun pins s σ H x y v u Q I ex ey ⟨i, j, e1, e2, c, q⟩ => h pins s σ H x y v u Q I ex ey ⟨i, j, e1, e2, hc i j c, q⟩
theorem rI_of0 {C' : Int → Int → Prop} {g : Int → Int → V} (h : OpR X f (rI0 g)) : OpR X f (rI C' g) :=
  fun pins s σ H x y v u Q I ex ey ⟨i, j, e1, e2, _, q⟩ => h pins s σ H x y v u Q I ex ey ⟨i, j, e1, e2, q⟩
theorem od_sub : OpD X T W (binaryOp .Sub) gSub := od_int (rI_of0 op_sub)
theorem od_mul : OpD X T W (binaryOp .Mult) gMul := od_int (rI_imp op_mul fun i j h => (of_decide_eq_true h : (-(2 ^ 64) < i ∧ i < 2 ^ 64) ∨ (-(2 ^ 64) < j ∧ j < 2 ^ 64)))
theorem od_fdiv : OpD X T W (binaryOp .FloorDiv) gFdiv := od_int (rI_imp op_fdivN fun _ j h => (of_decide_eq_true h : j ≠ 0 ∧ j.natAbs < 1073741824))
theorem od_mod : OpD X T W (binaryOp .Mod) gMod := od_int (rI_imp op_modN fun _ _ h => of_decide_eq_true h)
theorem od_pow : OpD X T W (binaryOp .Pow) gPow := od_int (rI_imp op_pow fun i j h => (of_decide_eq_true h : 0 ≤ j ∧ j ≤ 1000000 ∧ i.natAbs < 2 ^ 64))
theorem RDs.inj_nil {K : Frag} {m : Mm} {H : Hp} {ds : List D} {vs : List V} (r : RDs K m H ds vs) : vs = [] ↔ ds = [] := by
  constructor
  · rintro rfl
    have := r.len
    exact List.eq_nil_of_length_eq_zero this.symm
  · rintro rfl
    have := r.len
    exact List.eq_nil_of_length_eq_zero this
theorem od_add (hi : OpR X f (rI0 fun i j => .int (i + j))) (hs : OpR X f (fun x y H Q => ∃ i j, x = .str i ∧ y = .str j ∧ i.length + j.length ≤ sizeLine ∧ Q (.str (i ++ j)) H)) (ht : OpR X f (rCatA X.K)) (hl : OpR X f rCat) : OpD X T W f gAdd := by
  intro pins s σ H m S dx dy x y v u Q I rp rx ry ex ey po
  unfold gAdd at po
  split at po
  · rename_i i j
    cases (show x = .int i from rx)
    cases (show y = .int j from ry)
    exact hi pins s σ H _ _ v u Q I ex ey ⟨i, j, rfl, rfl, po_val rp (by simp only [RD]) po⟩
  · rename_i i j
    cases (show x = .str i from rx)
    cases (show y = .str j from ry)
    split at po
    · rename_i hz
      exact hs pins s σ H _ _ v u Q I ex ey ⟨i, j, rfl, rfl, hz, po_val rp (by simp only [RD]) po⟩
    · exact po.elim
  · split at po
    · rename_i i j hi hj
      split at po
      · rename_i hz
        have rx' := sOf_tup rx hi
        have ry' := sOf_tup ry hj
        have rx2 := rx'
        have ry2 := ry'
        simp only [RD] at rx' ry'
        obtain ⟨a, xs, rfl, ta, ra⟩ := rx'
        obtain ⟨b, ys, rfl, tb, rb⟩ := ry'
        refine ht pins s σ H _ _ v u Q I ex ey ⟨a, b, xs, ys, rfl, rfl, ta.sq, tb.sq, by rw [ra.len, rb.len]; exact hz, fun z => ?_, fun _ z => ?_, fun _ _ => po_tup rp (RDs.append ra rb) po⟩
        · have hi : i = [] := (RDs.inj_nil ra).mp z
          subst hi
          exact po_val rp (x := .tup ([] ++ j)) (by rw [List.nil_append]; exact ry2) po
        · have hj : j = [] := (RDs.inj_nil rb).mp z
          subst hj
          exact po_val rp (x := .tup (i ++ [])) (by rw [List.append_nil]; exact rx2) po
      · exact po.elim
    · split at po
      · rename_i a b ha hb
        split at po
        · rename_i hz
          obtain ⟨p, xs, rfl, e1, r1⟩ := lOf_at rp rx ha
          obtain ⟨q, ys, rfl, e2, r2⟩ := lOf_at rp ry hb
          exact hl pins s σ H _ _ v u Q I ex ey ⟨p, q, xs, ys, rfl, rfl, e1, e2, by rw [r1.len, r2.len]; exact hz, po_lv rp (RDs.append r1 r2) po⟩
        · exact po.elim
      · exact po.elim
theorem od_plus : OpD X T W (binaryOp .Add) gAdd := od_add op_add op_add_str op_catA op_cat

/-! ### order -/
def gOrd (f : Int → Int → Bool) (g : Str → Str → Bool) (x y : D) (S : Hs) : R D := match x, y with
  | .int i, .int j => .ok (.bl (f i j)) S
  | .str i, .str j => .ok (.bl (g i j)) S
  | _, _ => .stuck
theorem od_ord {g : Int → Int → Bool} {k : Str → Str → Bool} (hi : OpR X f (rI0 fun i j => .bl (g i j))) (hs : OpR X f (fun x y H Q => ∃ i j, x = .str i ∧ y = .str j ∧ Q (.bl (k i j)) H)) : OpD X T W f (gOrd g k) := by
  intro pins s σ H m S dx dy x y v u Q I rp rx ry ex ey po
  unfold gOrd at po
  split at po
  · rename_i i j
    cases (show x = .int i from rx)
    cases (show y = .int j from ry)
    exact hi pins s σ H _ _ v u Q I ex ey ⟨i, j, rfl, rfl, po_val rp (by simp only [RD]) po⟩
  · rename_i i j
    cases (show x = .str i from rx)
    cases (show y = .str j from ry)
    exact hs pins s σ H _ _ v u Q I ex ey ⟨i, j, rfl, rfl, po_val rp (by simp only [RD]) po⟩
  · exact po.elim
def strLt (i j : Str) : Bool := decide (i.cps.toList < j.cps.toList)
def gLt := gOrd (fun i j => decide (i < j)) strLt
def gLe := gOrd (fun i j => decide (i ≤ j)) fun i j => !strLt j i
def gGt := gOrd (fun i j => decide (j < i)) fun i j => strLt j i
def gGe := gOrd (fun i j => decide (j ≤ i)) fun i j => !strLt i j
theorem od_lt : OpD X T W (compareOp .Lt) gLt := od_ord op_lt op_lt_str
theorem od_le : OpD X T W (compareOp .LtE) gLe := od_ord op_le op_le_str
theorem od_gt : OpD X T W (compareOp .Gt) gGt := od_ord op_gt op_gt_str
theorem od_ge : OpD X T W (compareOp .GtE) gGe := od_ord op_ge op_ge_str

/-! ### the same object -/
def isNo : D → Bool
  | .non => true
  | _ => false
def isBo (b : Bool) : D → Bool
  | .bl c => c == b
  | _ => false
def isC (x : D) : D → Option Bool
  | .non => some (isNo x)
  | .bl b => some (isBo b x)
  | _ => none
def gIs (ng : Bool) (x y : D) (S : Hs) : R D := match isC x y with
  | some b => .ok (.bl (if ng = true then !b else b)) S
  | none => .stuck
theorem is_bool_gen {M : Model} {A : Around} {Q E : Value → Shared → Prop} {s : Shared} {x : V} {v : Value} {b : Bool} (r : RelV x v) (h : Q (.bool (v == .bool b)) s) : wpAny M A (compareOp .Is v (.bool b)) Q E s := by
  cases v <;> first | exact wpAny_pure h | exact is_bool h | (cases x <;> first | exact nomatch r | (obtain ⟨_, z⟩ := r; cases z) | cases r)
theorem isnot_bool_gen {M : Model} {A : Around} {Q E : Value → Shared → Prop} {s : Shared} {x : V} {v : Value} {b : Bool} (r : RelV x v) (h : Q (.bool (!(v == .bool b))) s) : wpAny M A (compareOp .IsNot v (.bool b)) Q E s := by
  cases v <;> first | exact wpAny_pure h | exact isnot_bool h | (cases x <;> first | exact nomatch r | (obtain ⟨_, z⟩ := r; cases z) | cases r)
theorem rel_kind {K : Frag} {m : Mm} {H : Hp} {d : D} {v : V} {u : Value} (rd : RD K m H d v) (r : RelV v u) : (u == .none) = isNo d ∧ ∀ b, (u == .bool b) = isBo b d := by
  cases d <;> simp only [RD] at rd
  · subst rd; cases r; exact ⟨rfl, fun _ => rfl⟩
  · rename_i c; subst rd; cases r; exact ⟨rfl, fun b => by cases b <;> cases c <;> rfl⟩
  · subst rd; obtain ⟨t, rfl⟩ := r; exact ⟨rfl, fun _ => rfl⟩
  · subst rd; obtain ⟨t, rfl⟩ := r; exact ⟨rfl, fun _ => rfl⟩
  · obtain ⟨a, vs, rfl, _⟩ := rd; cases r; exact ⟨rfl, fun _ => rfl⟩
  · obtain ⟨a, vs, rfl, _⟩ := rd; cases r; exact ⟨rfl, fun _ => rfl⟩
  · obtain ⟨a, vs, rfl, _⟩ := rd; cases r; exact ⟨rfl, fun _ => rfl⟩
  · obtain ⟨a, vs, rfl, _⟩ := rd; cases r; exact ⟨rfl, fun _ => rfl⟩
  · obtain ⟨a, vs, rfl, _⟩ := rd; cases r; exact ⟨rfl, fun _ => rfl⟩
  · obtain ⟨a, rfl, _⟩ := rd; cases r; exact ⟨rfl, fun _ => rfl⟩
  · subst rd; cases r; exact ⟨rfl, fun _ => rfl⟩
  · subst rd; cases r; exact ⟨rfl, fun _ => rfl⟩
theorem od_is : OpD X T W (compareOp .Is) (gIs false) := by
  intro pins s σ H m S dx dy x y v u Q I rp rx ry ex ey po
  obtain ⟨k1, k2⟩ := rel_kind rx ex
  unfold gIs at po
  split at po
  · rename_i b hb
    unfold isC at hb
    split at hb
    · cases (show y = .non from ry)
      cases ey
      cases hb
      exact is_none_gen ⟨.bl _, H, I, rfl, by rw [k1]; exact po_val rp (by simp only [RD, if_true, Bool.false_eq_true, if_false]) po⟩
    · rename_i c
      cases (show y = .bl c from ry)
      cases ey
      cases hb
      exact is_bool_gen ex ⟨.bl _, H, I, rfl, by rw [k2]; exact po_val rp (by simp only [RD, if_true, Bool.false_eq_true, if_false]) po⟩
    · cases hb
  · exact po.elim
theorem od_isnot : OpD X T W (compareOp .IsNot) (gIs true) := by
  intro pins s σ H m S dx dy x y v u Q I rp rx ry ex ey po
  obtain ⟨k1, k2⟩ := rel_kind rx ex
  unfold gIs at po
  split at po
  · rename_i b hb
    unfold isC at hb
    split at hb
    · cases (show y = .non from ry)
      cases ey
      cases hb
      exact isnot_none_gen ⟨.bl _, H, I, rfl, by rw [k1]; exact po_val rp (by simp only [RD, if_true, Bool.false_eq_true, if_false]) po⟩
    · rename_i c
      cases (show y = .bl c from ry)
      cases ey
      cases hb
      exact isnot_bool_gen ex ⟨.bl _, H, I, rfl, by rw [k2]; exact po_val rp (by simp only [RD, if_true, Bool.false_eq_true, if_false]) po⟩
    · cases hb
  · exact po.elim
end
end Pv

set_option maxHeartbeats 4000000
/-! Pv4: equal, in, subscripts, slices. -/
namespace Pv
open PySem PySem.Spec PyProof.Rows L2

/-! ### equal -/
mutual
def pyD : D → Option PyData
  | .non => some .none
  | .bl b => some (.bool b)
  | .int i => some (.int i)
  | .str x => some (.str x)
  | .tup ds => match pyDs ds with
    | some ps => some (.tuple ps)
    | none => none
  | .tpx ds => match pyDs ds with
    | some ps => some (.tuple ps)
    | none => none
  | .lv ds => match pyDs ds with
    | some ps => some (.list ps)
    | none => none
  | .rl ds => match pyDs ds with
    | some ps => some (.list ps)
    | none => none
  | _ => none
def pyDs : List D → Option (List PyData)
  | [] => some []
  | d :: ds => match pyD d with
    | some p => match pyDs ds with
      | some ps => some (p :: ps)
      | none => none
    | none => none
end
def pyT (S : Hs) (d : D) : Option PyData := match d with
  | .ref n => match lOf S (.ref n) with
    | some ds => match pyDs ds with
      | some ps => some (.list ps)
      | none => none
    | none => none
  | d => pyD d
/-- scalars -/
def eqS : D → D → Option Bool
  | .non, .non => some true
  | .non, .int _ => some false
  | .int _, .non => some false
  | .non, .bl _ => some false
  | .bl _, .non => some false
  | .non, .str _ => some false
  | .str _, .non => some false
  | .int i, .int j => some (i == j)
  | .bl i, .bl j => some (i == j)
  | .str i, .str j => some (i == j)
  | .int _, .str _ => some false
  | .str _, .int _ => some false
  | .bl _, .str _ => some false
  | .str _, .bl _ => some false
  | _, _ => none
def gEq (ng : Bool) (x y : D) (S : Hs) : R D := match eqS x y with
  | some b => .ok (.bl (if ng = true then !b else b)) S
  | none => match pyT S x with
    | some p => match pyT S y with
      | some q => if SeqAt.shaped p = true ∧ SeqAt.shaped q = true then .ok (.bl (if ng = true then !(PyData.eqv p q) else PyData.eqv p q)) S else .stuck
      | none => .stuck
    | none => .stuck
section
variable {K : Frag} {T : List (Addr × Str)} {m m1 : Mm} {H H1 : Hp} {S : Hs}
mutual
theorem pyD_dp : ∀ {d : D} {v : V} {p : PyData}, RD K m H d v → pyD d = some p → Dp K H v p
  | .non, v, p, h, e => by simp only [RD] at h; simp only [pyD] at e; cases e; subst h; exact .non
  | .bl b, v, p, h, e => by simp only [RD] at h; simp only [pyD] at e; cases e; subst h; exact .bl b
  | .int i, v, p, h, e => by simp only [RD] at h; simp only [pyD] at e; cases e; subst h; exact .int i
  | .str x, v, p, h, e => by simp only [RD] at h; simp only [pyD] at e; cases e; subst h; exact .str x
  | .tup ds, v, p, h, e => by
    simp only [RD] at h
    simp only [pyD] at e
    obtain ⟨a, vs, rfl, t, r⟩ := h
    split at e
    · rename_i ps hp
      cases e
      exact .tup t.sq (pyDs_dp r hp)
    · cases e
  | .tpx ds, v, p, h, e => by
    simp only [RD] at h
    simp only [pyD] at e
    obtain ⟨a, vs, rfl, t, r⟩ := h
    split at e
    · rename_i ps hp
      cases e
      exact .tup t.tup.sq (pyDs_dp r hp)
    · cases e
  | .lv ds, v, p, h, e => by
    simp only [RD] at h
    simp only [pyD] at e
    obtain ⟨a, vs, rfl, t, _, r⟩ := h
    split at e
    · rename_i ps hp
      cases e
      exact .lst (SqL.of t) (pyDs_dp r hp)
    · cases e
  | .rl ds, v, p, h, e => by
    simp only [RD] at h
    simp only [pyD] at e
    obtain ⟨a, vs, rfl, t, r⟩ := h
    split at e
    · rename_i ps hp
      cases e
      exact .lst t.sq (pyDs_dp r hp)
    · cases e
  | .dv _ _, _, _, _, e => by simp only [pyD] at e; cases e
  | .ref _, _, _, _, e => by simp only [pyD] at e; cases e
  | .ty _, _, _, _, e => by simp only [pyD] at e; cases e
  | .glo _, _, _, _, e => by simp only [pyD] at e; cases e
theorem pyDs_dp : ∀ {ds : List D} {vs : List V} {ps : List PyData}, RDs K m H ds vs → pyDs ds = some ps → DpAll K H vs ps
  | [], vs, ps, h, e => by simp only [RDs] at h; simp only [pyDs] at e; cases e; subst h; exact .nil
  | d :: ds, vs, ps, h, e => by
    simp only [RDs] at h
    simp only [pyDs] at e
    obtain ⟨v, r, rfl, h1, h2⟩ := h
    split at e
    · rename_i p hp
      split at e
      · rename_i qs hq
        cases e
        exact .cons (pyD_dp h1 hp) (pyDs_dp h2 hq)
      · cases e
    · cases e
end
theorem pyT_dp {d : D} {v : V} {p : PyData} (rp : Rep K T m S H) (h : RD K m H d v) (e : pyT S d = some p) : Dp K H v p := by
  unfold pyT at e
  split at e
  · split at e
    · rename_i ds hd
      split at e
      · rename_i ps hp
        cases e
        obtain ⟨a, vs, rfl, e1, r⟩ := lOf_at rp h hd
        exact .lst (SqL.of e1) (pyDs_dp r hp)
      · cases e
    · cases e
  · exact pyD_dp h e
theorem eqS_scal {x y : D} {v u : V} {b : Bool} (hx : RD K m H x v) (hy : RD K m H y u) (e : eqS x y = some b) : scal v u = true ∧ decide (v = u) = b := by
  unfold eqS at e
  split at e <;> first
    | (cases e; done)
    | (simp only [RD] at hx hy; subst hx; subst hy; cases e; refine ⟨rfl, ?_⟩; first | rfl | exact dec_int | exact dec_bl | exact dec_str)
end
section
variable {X : Cx} {T : List (Addr × Str)} {W : WX}
theorem od_eq (hu : X.A.units + 64 < cLine) : OpD X T W (compareOp .Eq) (gEq false) := by
  intro pins s σ H m S dx dy x y v u Q I rp rx ry ex ey po
  unfold gEq at po
  split at po
  · rename_i b hb
    obtain ⟨h1, h2⟩ := eqS_scal rx ry hb
    exact op_eq pins s σ H _ _ v u Q I ex ey ⟨h1, by rw [h2]; exact po_val rp (by simp only [RD, Bool.false_eq_true, if_false]) po⟩
  · split at po
    · rename_i p hp
      split at po
      · rename_i q hq
        split at po
        · rename_i hs
          exact op_eqD hu pins s σ H _ _ v u Q I ex ey ⟨p, q, pyT_dp rp rx hp, pyT_dp rp ry hq, hs.1, hs.2, po_val rp (by simp only [RD, Bool.false_eq_true, if_false]) po⟩
        · exact po.elim
      · exact po.elim
    · exact po.elim
theorem od_ne (hu : X.A.units + 64 < cLine) : OpD X T W (compareOp .NotEq) (gEq true) := by
  intro pins s σ H m S dx dy x y v u Q I rp rx ry ex ey po
  unfold gEq at po
  split at po
  · rename_i b hb
    obtain ⟨h1, h2⟩ := eqS_scal rx ry hb
    exact op_ne pins s σ H _ _ v u Q I ex ey ⟨h1, by rw [h2]; exact po_val rp (by simp only [RD, if_true]) po⟩
  · split at po
    · rename_i p hp
      split at po
      · rename_i q hq
        split at po
        · rename_i hs
          exact op_neD hu pins s σ H _ _ v u Q I ex ey ⟨p, q, pyT_dp rp rx hp, pyT_dp rp ry hq, hs.1, hs.2, po_val rp (by simp only [RD, if_true]) po⟩
        · exact po.elim
      · exact po.elim
    · exact po.elim
end

/-! ### in -/
def fv : D → Option V
  | .non => some .non
  | .bl b => some (.bl b)
  | .int i => some (.int i)
  | .str x => some (.str x)
  | _ => none
def fvs : List D → Option (List V)
  | [] => some []
  | d :: ds => match fv d with
    | some v => match fvs ds with
      | some vs => some (v :: vs)
      | none => none
    | none => none
def inRow (ng : Bool) (x : D) (ds : List D) (S : Hs) : R D := match fv x with
  | some w => match fvs ds with
    | some ws => .ok (.bl (if ng = true then !inV w ws else inV w ws)) S
    | none => .stuck
  | none => .stuck
def gIn (ng : Bool) (x y : D) (S : Hs) : R D := match x, y with
  | .str a, .str z => match a.cps.toList with
    | [c] => .ok (.bl (if ng = true then !decide (c ∈ z.cps.toList) else decide (c ∈ z.cps.toList))) S
    | _ => .stuck
  | x, y => match sOf S y with
    | .t ds => inRow ng x ds S
    | .l ds => inRow ng x ds S
    | .no => .stuck
section
variable {K : Frag} {T : List (Addr × Str)} {m m1 : Mm} {H H1 : Hp} {S : Hs}
theorem fv_rd {d : D} {v w : V} (h : RD K m H d v) (e : fv d = some w) : v = w ∧ flatV w = true := by
  cases d <;> simp only [fv] at e <;> cases e <;> simp only [RD] at h <;> exact ⟨h, rfl⟩
theorem fvs_rd : ∀ {ds : List D} {vs ws : List V}, RDs K m H ds vs → fvs ds = some ws → vs = ws ∧ ws.all flatV = true
  | [], vs, ws, h, e => by simp only [RDs] at h; simp only [fvs] at e; cases e; exact ⟨h, rfl⟩
  | d :: ds, vs, ws, h, e => by
    simp only [RDs] at h
    simp only [fvs] at e
    obtain ⟨v, r, rfl, h1, h2⟩ := h
    split at e
    · rename_i w hw
      split at e
      · rename_i us hu
        cases e
        obtain ⟨rfl, f1⟩ := fv_rd h1 hw
        obtain ⟨rfl, f2⟩ := fvs_rd h2 hu
        exact ⟨rfl, by rw [List.all_cons, f1, f2]; rfl⟩
      · cases e
    · cases e
end
section
variable {X : Cx} {T : List (Addr × Str)} {W : WX} {f : Value → Value → Sem Value}
theorem od_inR {ng : Bool} (hs : OpR X f (rIn X.K ng)) (ht : OpR X f (fun x y H Q => ∃ (c : Nat) (z : Str), x = .str ⟨#[c]⟩ ∧ y = .str z ∧ Q (.bl (if ng = true then !decide (c ∈ z.cps.toList) else decide (c ∈ z.cps.toList))) H)) : OpD X T W f (gIn ng) := by
  have row : ∀ (pins : List (Addr × Obj)) (s : Shared) (σ : L2.St) (H : Hp) (m : Mm) (S : Hs) (dx : D) (ds : List D) (x : V) (p : Addr) (vs : List V) (v u : Value) (Q : VK), Inv X pins σ H s → Rep X.K T m S H → RD X.K m H dx x → RDs X.K m H ds vs → (SqL X.K H p vs ∨ SqT X.K H p vs) → RelV x v → RelV (.ref p) u →
      Po X.K T (RD X.K) m H (inRow ng dx ds S) Q (fun c d H' => W c d σ H') → wpAny (model X.prog X.w) X.A (f v u) (EP X pins σ Q) X.xe s := by
    intro pins s σ H m S dx ds x p vs v u Q I rp rx rs hq ex ey po
    unfold inRow at po
    split at po
    · rename_i w hw
      split at po
      · rename_i ws hws
        obtain ⟨rfl, f1⟩ := fv_rd rx hw
        obtain ⟨rfl, f2⟩ := fvs_rd rs hws
        exact hs pins s σ H _ _ v u Q I ex ey ⟨p, _, rfl, hq, f1, f2, po_val rp (by simp only [RD]) po⟩
      · exact po.elim
    · exact po.elim
  intro pins s σ H m S dx dy x y v u Q I rp rx ry ex ey po
  unfold gIn at po
  split at po
  · rename_i a z
    cases (show x = .str a from rx)
    cases (show y = .str z from ry)
    split at po
    · rename_i c hc
      have ha : a = ⟨#[c]⟩ := by
        obtain ⟨cps⟩ := a
        obtain ⟨l⟩ := cps
        cases (show l = [c] from hc)
        rfl
      subst ha
      exact ht pins s σ H _ _ v u Q I ex ey ⟨c, z, rfl, rfl, po_val rp (by simp only [RD]) po⟩
    · exact po.elim
  · split at po
    · rename_i ds hd
      obtain ⟨p, vs, rfl, e1, r1⟩ := sOf_t ry hd
      exact row pins s σ H m S dx ds x p vs v u Q I rp rx r1 (.inr e1) ex ey po
    · rename_i ds hd
      obtain ⟨p, vs, rfl, e1, r1⟩ := sOf_l rp ry hd
      exact row pins s σ H m S dx ds x p vs v u Q I rp rx r1 (.inl e1) ex ey po
    · exact po.elim
theorem od_in : OpD X T W (compareOp .In) (gIn false) := od_inR op_in_seq fun pins s σ H x y v u Q I ex ey ⟨c, z, e1, e2, q⟩ => op_inS pins s σ H x y v u Q I ex ey ⟨c, z, e1, e2, q⟩
theorem od_notin : OpD X T W (compareOp .NotIn) (gIn true) := od_inR op_notIn_seq fun pins s σ H x y v u Q I ex ey ⟨c, z, e1, e2, q⟩ => op_notInS pins s σ H x y v u Q I ex ey ⟨c, z, e1, e2, q⟩
end

/-! ### a place -/
def keyD : D → Option Key
  | .int i => some (.inl i)
  | .str x => some (.inr x)
  | _ => none
def kval : List Key → List D → Key → Option D
  | k :: ks, d :: ds, j => if k = j then some d else kval ks ds j
  | _, _, _ => none
def dOf (S : Hs) : D → Option (List Key × List D)
  | .dv ks ds => some (ks, ds)
  | .ref n => match S[n]? with
    | some (.dk ks ds) => some (ks, ds)
    | _ => none
  | _ => none
def oR (o : Option D) (S : Hs) : R D := match o with
  | some d => .ok d S
  | none => .stuck
def gIdx (x y : D) (S : Hs) : R D := match dOf S x with
  | some (ks, ds) => match keyD y with
    | some k => oR (kval ks ds k) S
    | none => .stuck
  | none => match y with
    | .int i => match x with
      | .str z => if z.length ≤ sizeLine then match atI z.cps.toList i with
          | some c => .ok (.str ⟨#[c]⟩) S
          | none => .stuck
        else .stuck
      | x => match sOf S x with
        | .t ds => oR (atI ds i) S
        | .l ds => oR (atI ds i) S
        | .no => .stuck
    | _ => .stuck
/-- a[b] by plain values -/
def IxD (X : Cx) (T : List (Addr × Str)) (W : WX) (g : D → D → Hs → R D) : Prop :=
  ∀ (value slice : Expr) (pins : List (Addr × Obj)) (s : Shared) (σ : L2.St) (H : Hp) (m : Mm) (S : Hs) (dx dy : D) (x y : V) (v u : Value) (Q : VK), Inv X pins σ H s → Rep X.K T m S H → RD X.K m H dx x → RD X.K m H dy y → RelV x v → RelV y u → subscripted slice false v u = operate [v, u] (getItem v u) →
    Po X.K T (RD X.K) m H (g dx dy S) Q (fun c d H' => W c d σ H') → wpAny (model X.prog X.w) X.A (subscriptTail value slice v u) (EP X pins σ Q) X.xe s
section
variable {K : Frag} {T : List (Addr × Str)} {m m1 : Mm} {H H1 : Hp} {S : Hs}
theorem RDs.atI {ds : List D} {vs : List V} {i : Int} {d : D} (r : RDs K m H ds vs) (e : L2.atI ds i = some d) : ∃ v, L2.atI vs i = some v ∧ RD K m H d v := by
  unfold L2.atI at e ⊢
  rw [r.len]
  cases q : ixN ds.length i with
  | none => rw [q] at e; cases e
  | some j => rw [q] at e; exact r.get e
theorem kval_rd {k : Key} {d : D} : ∀ {ks : List Key} {ds : List D} {vs : List V}, RDs K m H ds vs → kval ks ds k = some d → ∃ v, valV (ks.zip vs) k = some v ∧ RD K m H d v
  | [], _, _, _, e => by simp only [kval] at e; cases e
  | _ :: _, [], _, _, e => by simp only [kval] at e; cases e
  | j :: ks, d :: ds, vs, h, e => by
    simp only [RDs] at h
    simp only [kval] at e
    obtain ⟨v, r, rfl, h1, h2⟩ := h
    rw [List.zip_cons_cons]
    split at e
    · rename_i hj
      cases e
      exact ⟨v, valV_pos hj, h1⟩
    · rename_i hj
      obtain ⟨w, e1, e2⟩ := kval_rd h2 e
      exact ⟨w, by rw [valV_neg (p := (j, v)) hj]; exact e1, e2⟩
theorem kval_none {k : Key} : ∀ {ks : List Key} {ds : List D} {vs : List V}, RDs K m H ds vs → kval ks ds k = none → valV (ks.zip vs) k = none
  | [], _, _, _, _ => rfl
  | _ :: _, [], _, h, _ => by simp only [RDs] at h; subst h; rfl
  | j :: ks, d :: ds, vs, h, e => by
    simp only [RDs] at h
    simp only [kval] at e
    obtain ⟨v, r, rfl, h1, h2⟩ := h
    rw [List.zip_cons_cons]
    split at e
    · cases e
    · rename_i hj
      rw [valV_neg (p := (j, v)) hj]
      exact kval_none h2 e
theorem keyD_rd {d : D} {v : V} {k : Key} (h : RD K m H d v) (e : keyD d = some k) : v = kV k := by
  cases d <;> simp only [keyD] at e <;> cases e <;> simp only [RD] at h <;> exact h
theorem dOf_at {d : D} {v : V} {ks : List Key} {ds : List D} (rp : Rep K T m S H) (rd : RD K m H d v) (e : dOf S d = some (ks, ds)) : ∃ a vs, v = .ref a ∧ H a = some (.dK (ks.zip vs)) ∧ ks.length = ds.length ∧ RDs K m H ds vs := by
  cases d <;> simp only [dOf] at e <;> try cases e
  · simp only [RD] at rd
    obtain ⟨a, vs, e1, e2, _, l, e4⟩ := rd
    exact ⟨a, vs, e1, e2, l, e4⟩
  · rename_i n
    simp only [RD] at rd
    obtain ⟨a, rfl, e1⟩ := rd
    cases q : S[n]? with
    | none => rw [q] at e; cases e
    | some o =>
      rw [q] at e
      cases o with
      | lst xs => cases e
      | dk ks xs =>
        cases e
        obtain ⟨b, ho, f1, f2, f3⟩ := rp.at_ n _ q
        rw [f1] at e1
        cases e1
        obtain ⟨vs, rfl, l, r⟩ := f3
        exact ⟨_, vs, rfl, f2, l, r⟩
      | ins C fs => cases e
end
section
variable {X : Cx} {T : List (Addr × Str)} {W : WX} {a b : Expr} {fa fb : Ev → Hs → R D} {pos : Pos}
theorem po_oR {K : Frag} {m : Mm} {H : Hp} {S : Hs} {o : Option D} {Q : VK} {W' : Value → Option Addr → Hp → Prop} (po : Po K T (RD K) m H (oR o S) Q W') : ∃ d, o = some d ∧ Po K T (RD K) m H (.ok d S) Q W' := by
  cases o with
  | none => exact po.elim
  | some d => exact ⟨d, rfl, po⟩
theorem ixD (hu : X.A.units + 64 < cLine) : IxD X T W gIdx := by
  intro value slice pins s σ H m S dx dy x y v u Q I rp rx ry ex ey hs po
  unfold gIdx at po
  split at po
  · rename_i ks ds hd
    split at po
    · rename_i k hk
      obtain ⟨d, hd2, po⟩ := po_oR po
      obtain ⟨p, vs, rfl, e1, l, r⟩ := dOf_at rp rx hd
      cases ex
      have hy := keyD_rd ry hk
      subst hy
      obtain ⟨w, e2, e3⟩ := kval_rd r hd2
      have g : DGet H p (kV k) (some w) := by
        have := DGet.k (k := k) e1
        rw [e2] at this
        exact this
      exact tail_any (dict_typeIs I g) PySem.F.slot_dict_getitem.lookup (d_getItem (by omega) I g ey fun w' s3 I3 rw' => ⟨w, H, I3, rw', po_val rp e3 po⟩) hs
    · exact po.elim
  · split at po
    · rename_i i
      cases (show y = .int i from ry)
      split at po
      · rename_i z _
        cases (show x = .str z from rx)
        split at po
        · rename_i hz
          split at po
          · rename_i c hc
            exact ix_str value slice pins s σ H _ _ v u Q I ex ey ⟨z, i, c, rfl, rfl, hz, hc, po_val rp (by simp only [RD]) po⟩ hs
          · exact po.elim
        · exact po.elim
      · split at po
        · rename_i ds hd
          obtain ⟨d, hd2, po⟩ := po_oR po
          obtain ⟨p, vs, rfl, e1, r1⟩ := sOf_t rx hd
          obtain ⟨w, e2, e3⟩ := r1.atI hd2
          exact ix_tup value slice pins s σ H _ _ v u Q I ex ey ⟨p, vs, i, w, rfl, rfl, e1, e2, po_val rp e3 po⟩ hs
        · rename_i ds hd
          obtain ⟨d, hd2, po⟩ := po_oR po
          obtain ⟨p, vs, rfl, e1, r1⟩ := sOf_l rp rx hd
          obtain ⟨w, e2, e3⟩ := r1.atI hd2
          exact ix_list value slice pins s σ H _ _ v u Q I ex ey ⟨p, vs, i, w, rfl, rfl, e1, e2, po_val rp e3 po⟩ hs
        · exact po.elim
    · exact po.elim
theorem re_ix {g : D → D → Hs → R D} (hr : IxD X T W g) (ha : RE X T W a fa) (hb : RE X T W b fb) (hs : PlainIx b) : RE X T W (.Subscript a b pos) (mOp g fa fb) := by
  refine ⟨fun pins s σ H Q I h => ?_⟩
  obtain ⟨m, ρ, S, rp, rv, po⟩ := h
  refine Subscript_ (thn (seqE ha I rp rv po) fun v s1 ⟨x, vx, S1, m1, H1, I1, r1, rp1, rv1, g1, d1, po1⟩ => ?_)
  refine thn (seqE hb I1 rp1 rv1 po1) fun u s2 ⟨y, vy, S2, m2, H2, I2, r2, rp2, rv2, g2, d2, po2⟩ => ?_
  exact hr a b pins s2 σ H2 m2 S2 x y vx vy v u Q I2 rp2 (RD.grow g2 d1) d2 r1 r2 (hs _ _) po2
end

/-! ### slices -/
def cutD {α : Type} (xs : List α) (lo hi : Option Int) : List α := (xs.drop (HT.sIx xs.length 0 lo)).take (HT.sIx xs.length xs.length hi - HT.sIx xs.length 0 lo)
def gSl (mt : Bool) (x : D) (lo hi : Option Int) (S : Hs) : R D := match sOf S x with
  | .t ds => .ok (.tup (cutD ds lo hi)) S
  | .l ds => nwl mt (cutD ds lo hi) S
  | .no => .stuck
def partE (f : Option (Ev → Hs → R D)) (ρ : Ev) (S : Hs) : R (Option Int) := match f with
  | none => .ok none S
  | some f => (f ρ S).bind fun d S1 => match d with
    | .int i => .ok (some i) S1
    | _ => .stuck
section
variable {K : Frag} {T : List (Addr × Str)} {m m1 : Mm} {H H1 : Hp} {S : Hs}
theorem RDs.cut {ds : List D} {vs : List V} (r : RDs K m H ds vs) (lo hi : Option Int) : RDs K m H (cutD ds lo hi) (cutV vs lo hi) := by
  unfold cutD cutV
  rw [r.len]
  exact RDs.take _ (RDs.drop _ r)
theorem cut_whole {α : Type} {xs : List α} {lo hi : Option Int} (h : HT.sIx xs.length 0 lo = 0 ∧ HT.sIx xs.length xs.length hi = xs.length) : cutD xs lo hi = xs := by
  unfold cutD
  rw [h.1, h.2]
  simp
end
def ROo (X : Cx) (T : List (Addr × Str)) (W : WX) (e : Option Expr) (f : Option (Ev → Hs → R D)) : Prop := match e, f with
  | none, none => True
  | some e, some f => RE X T W e f
  | _, _ => False
section
variable {X : Cx} {T : List (Addr × Str)} {W : WX} {e : Expr} {lo hi : Option Expr} {fe : Ev → Hs → R D} {fl fh : Option (Ev → Hs → R D)} {pos p2 : Pos}
/-- a part's reading -/
def tOo (K : Frag) (T : List (Addr × Str)) (W : WX) (f : Option (Ev → Hs → R D)) : TO := fun σ H Q => ∃ m ρ S, Rep K T m S H ∧ RV K m H ρ σ ∧ Po K T (fun _ _ (a b : Option Int) => b = a) m H (partE f ρ S) Q (fun c d H' => W c d σ H')
theorem po_part (h : ROo X T W lo fl) : PO X lo (tOo X.K T W fl) := by
  cases lo with
  | none =>
    cases fl with
    | some f => exact h.elim
    | none =>
      refine ⟨fun pins s σ H Q I h => ?_⟩
      obtain ⟨m, ρ, S, rp, rv, po⟩ := h
      exact po_none.run pins s σ H Q I (po none m H Grow.refl rp rfl)
  | some e =>
    cases fl with
    | none => exact h.elim
    | some f =>
      refine ⟨fun pins s σ H Q I hh => ?_⟩
      obtain ⟨m, ρ, S, rp, rv, po⟩ := hh
      refine (po_some h).run pins s σ H Q I ⟨m, ρ, S, rp, rv, ?_⟩
      refine (Po.bind (rel2 := fun _ _ (a b : Option Int) => b = a) (Q2 := Q) po).mono fun v H1 hv => ?_
      obtain ⟨x, S1, m1, ee, g, rp1, rd, po1⟩ := hv
      clear ee
      cases x <;> dsimp only at po1 <;> try exact po1.elim
      rename_i i
      cases (show v = .int i from rd)
      exact ⟨i, rfl, po1 (some i) m1 H1 Grow.refl rp1 rfl⟩
def mSl (mt : Bool) (fe : Ev → Hs → R D) (fl fh : Option (Ev → Hs → R D)) : Ev → Hs → R D := fun ρ S => (fe ρ S).bind fun x S1 => (partE fl ρ S1).bind fun l S2 => (partE fh ρ S2).bind fun h S3 => gSl mt x l h S3
def rSlD (X : Cx) (T : List (Addr × Str)) (W' : Value → Option Addr → Hp → Prop) (mt : Bool) : V → Option Int → Option Int → Hp → VK → Prop := fun x lo hi H Q => ∃ m S d, Rep X.K T m S H ∧ RD X.K m H d x ∧ Po X.K T (RD X.K) m H (gSl mt d lo hi S) Q W'
theorem sl_D {mt : Bool} {W' : Value → Option Addr → Hp → Prop} : SlR X (rSlD X T W' mt) := by
  intro pins s σ H x v vl vu lo hi sl Q I rx hs pl pu h
  obtain ⟨m, S, d, rp, rd, po⟩ := h
  unfold gSl at po
  split at po
  · rename_i ds hd
    obtain ⟨a, vs, rfl, e1, r1⟩ := sOf_t rd hd
    refine sl_tupA pins s σ H _ v vl vu lo hi sl Q I rx hs pl pu ⟨a, vs, rfl, e1, fun hw => ?_, fun _ => po_tup rp (r1.cut lo hi) po⟩
    have hw' : HT.sIx ds.length 0 lo = 0 ∧ HT.sIx ds.length ds.length hi = ds.length := by rw [← r1.len]; exact hw
    rw [cut_whole hw'] at po
    exact po_val rp (sOf_tup rd hd) po
  · rename_i ds hd
    obtain ⟨a, vs, rfl, e1, r1⟩ := sOf_l rp rd hd
    exact sl_list pins s σ H _ v vl vu lo hi sl Q I rx hs pl pu ⟨a, vs, rfl, e1, po_nwl rp (r1.cut lo hi) po⟩
  · exact po.elim
theorem re_slice {mt : Bool} (he : RE X T W e fe) (hl : ROo X T W lo fl) (hh : ROo X T W hi fh) : RE X T W (.Subscript e (.Slice lo hi none p2) pos) (mSl mt fe fl fh) := by
  refine ⟨fun pins s σ H Q I h => ?_⟩
  obtain ⟨m, ρ, S, rp, rv, po⟩ := h
  refine (pe_slice (r := rSlD X T (fun c d H' => W c d σ H') mt) sl_D he (po_part hl) (po_part hh)).run pins s σ H Q I ⟨m, ρ, S, rp, rv, ?_⟩
  refine (Po.bind (rel2 := RD X.K) (Q2 := Q) po).mono fun v H1 hv => ?_
  obtain ⟨x, S1, m1, _, g1, rp1, d1, po1⟩ := hv
  refine ⟨m1, ρ, S1, rp1, rv.grow g1, ?_⟩
  refine (Po.bind (rel2 := RD X.K) (Q2 := Q) po1).mono fun l H2 hv => ?_
  obtain ⟨l', S2, m2, _, g2, rp2, rfl, po2⟩ := hv
  refine ⟨m2, ρ, S2, rp2, (rv.grow g1).grow g2, ?_⟩
  refine (Po.bind (rel2 := RD X.K) (Q2 := Q) po2).mono fun h H3 hv => ?_
  obtain ⟨h', S3, m3, _, g3, rp3, rfl, po3⟩ := hv
  exact ⟨m3, S3, x, rp3, RD.grow g3 (RD.grow g2 d1), po3⟩
end
end Pv

set_option maxHeartbeats 4000000
/-! Pv5: tests, chains, displays, argument lists. -/
namespace Pv
open PySem PySem.Spec PyProof.Rows L2

abbrev relB : Mm → Hp → Bool → Bool → Prop := fun _ _ b c => c = b
theorem R.bind_assoc {α β γ : Type} (r : R α) (f : α → Hs → R β) (g : β → Hs → R γ) : (r.bind f).bind g = r.bind fun a S => (f a S).bind g := by
  cases r <;> rfl
theorem R.bind_ok {α β : Type} (a : α) (S : Hs) (f : α → Hs → R β) : (R.ok a S).bind f = f a S := rfl
theorem R.bind_if {α β : Type} (c : Prop) [Decidable c] (r s : R α) (f : α → Hs → R β) : (if c then r else s).bind f = if c then r.bind f else s.bind f := by
  split <;> rfl
def tG (K : Frag) (T : List (Addr × Str)) (W : WX) {α β : Type} (rel : Mm → Hp → α → β → Prop) (f : Ev → Hs → R α) : L2.St → Hp → (β → Hp → Prop) → Prop := fun σ H Q =>
  ∃ m ρ S, Rep K T m S H ∧ RV K m H ρ σ ∧ Po K T rel m H (f ρ S) Q (fun c d H' => W c d σ H')
section
variable {K : Frag} {T : List (Addr × Str)} {W : WX} {m : Mm} {H : Hp} {α β γ δ : Type} {rel : Mm → Hp → α → β → Prop} {rel2 : Mm → Hp → γ → δ → Prop} {σ : L2.St} {Q : δ → Hp → Prop}
theorem tG_bind {f : Ev → Hs → R α} {k : Ev → α → Hs → R γ} (h : tG K T W rel2 (fun ρ S => (f ρ S).bind (k ρ)) σ H Q) :
    tG K T W rel f σ H (fun v H1 => ∃ m ρ S1 x, Rep K T m S1 H1 ∧ RV K m H1 ρ σ ∧ rel m H1 x v ∧ Po K T rel2 m H1 (k ρ x S1) Q (fun c d H' => W c d σ H')) := by
  obtain ⟨m, ρ, S, rp, rv, po⟩ := h
  refine ⟨m, ρ, S, rp, rv, (Po.bind (rel := rel) po).mono fun v H1 hv => ?_⟩
  obtain ⟨x, S1, m1, _, g, rp1, rd, po1⟩ := hv
  exact ⟨m1, ρ, S1, x, rp1, rv.grow g, rd, po1⟩
theorem tG_eq {f g : Ev → Hs → R γ} (h : tG K T W rel2 f σ H Q) (e : ∀ ρ S, f ρ S = g ρ S) : tG K T W rel2 g σ H Q := by
  obtain ⟨m, ρ, S, rp, rv, po⟩ := h
  exact ⟨m, ρ, S, rp, rv, by rw [← e]; exact po⟩
end
/-! ### the truth of a value -/
def toB : D → Hs → R Bool
  | .bl b, S => .ok b S
  | _, _ => .stuck
def mB (f : Ev → Hs → R D) : Ev → Hs → R Bool := fun ρ S => (f ρ S).bind toB
section
variable {X : Cx} {T : List (Addr × Str)} {W : WX} {a b c e : Expr} {es rest : List Expr} {fa fb fc fe : Ev → Hs → R D} {fs : Ev → Hs → R (List D)} {pos : Pos} {K : Frag} {m : Mm} {H : Hp}
theorem po_toB {r : R D} {Q : Bool → Hp → Prop} {W' : Value → Option Addr → Hp → Prop} (po : Po K T relB m H (r.bind toB) Q W') : Po K T (RD K) m H r (fun z H3 => ∃ k, z = .bl k ∧ Q k H3) W' := by
  refine (Po.bind (rel := RD K) po).mono fun v H1 hv => ?_
  obtain ⟨x, S1, m1, ee, g, rp1, rd, po1⟩ := hv
  clear ee
  cases x <;> try exact po1.elim
  rename_i k
  exact ⟨k, rd, po1 k m1 H1 Grow.refl rp1 rfl⟩
theorem rt_val (h : RE X T W e fe) (he : ∀ whole, isTrue e X.env whole = (do let v ← whole; standAt e.pos; holding [v] (truthy v))) : RT X T W e (mB fe) := by
  refine ⟨fun pins s σ H Q I hh => ?_⟩
  obtain ⟨m, ρ, S, rp, rv, po⟩ := hh
  exact (pt_val h he).run pins s σ H Q I ⟨m, ρ, S, rp, rv, po_toB po⟩
theorem rt_cmp {op : CmpOp} {g : D → D → Hs → R D} (ho : OpD X T W (compareOp op) g) (ha : RE X T W a fa) (hb : RE X T W b fb) (hm : behindInMarks op b = false) : RT X T W (.Compare a [op] [b] pos) (mB (mOp g fa fb)) := by
  refine ⟨fun pins s σ H Q I h => ?_⟩
  obtain ⟨m, ρ, S, rp, rv, po⟩ := h
  unfold mB mOp at po
  simp only [R.bind_assoc] at po
  refine wpAny_isTrue_Compare1 (thn (seqE ha I rp rv po) fun v s1 ⟨x, vx, S1, m1, H1, I1, r1, rp1, rv1, g1, d1, po1⟩ => ?_) hm
  refine thn (seqE hb I1 rp1 rv1 po1) fun u s2 ⟨y, vy, S2, m2, H2, I2, r2, rp2, rv2, g2, d2, po2⟩ => ?_
  refine thn (ho pins s2 σ H2 m2 S2 x y vx vy v u _ I2 rp2 (RD.grow g2 d1) d2 r1 r2 (po_toB po2)) fun c s3 ⟨z, H3, I3, r3, k, e, q3⟩ => ?_
  subst e
  cases r3
  exact wpAny_truthy_bool ⟨H3, I3, q3⟩
/-! ### chains -/
def mChain (g g' : D → D → Hs → R D) (fa fb fc : Ev → Hs → R D) : Ev → Hs → R D := fun ρ S => (fa ρ S).bind fun x S1 => (fb ρ S1).bind fun y S2 => (g x y S2).bind fun z S3 => (toB z S3).bind fun b S4 => if b = true then (fc ρ S4).bind fun w S5 => g' y w S5 else .ok (.bl false) S4
theorem re_chain {op op' : CmpOp} {g g' : D → D → Hs → R D} (ho : OpD X T W (compareOp op) g) (ho' : OpD X T W (compareOp op') g') (ha : RE X T W a fa) (hb : RE X T W b fb) (hc : RE X T W c fc) (hm : lastMarks [op, op'] [b, c] = false) :
    RE X T W (.Compare a [op, op'] [b, c] pos) (mChain g g' fa fb fc) := by
  refine ⟨fun pins s σ H Q I h => ?_⟩
  obtain ⟨m, ρ, S, rp, rv, po⟩ := h
  refine Compare_chain (thn (seqE ha I rp rv po) fun v s1 ⟨x, vx, S1, m1, H1, I1, r1, rp1, rv1, g1, d1, po1⟩ => chain_link (thn (seqE hb I1 rp1 rv1 po1) fun u s2 ⟨y, vy, S2, m2, H2, I2, r2, rp2, rv2, g2, d2, po2⟩ => ?_)) hm
  refine thn (ho pins s2 σ H2 m2 S2 x y vx vy v u _ I2 rp2 (RD.grow g2 d1) d2 r1 r2 (Po.bind (rel := RD X.K) po2)) fun d s3 ⟨z, H3, I3, r3, z', S3, m3, ee, g3, rp3, d3, po3⟩ => ?_
  clear ee
  cases z' <;> try exact po3.elim
  rename_i k
  cases (show z = .bl k from d3)
  cases r3
  refine wpAny_truthy_bool ?_
  cases k with
  | false => exact ite_ff ⟨.bl false, H3, I3, rfl, po3 _ m3 H3 Grow.refl rp3 (by simp only [RD])⟩
  | true =>
    refine ite_tt (chain_last (thn (seqE hc I3 rp3 (rv2.grow g3) po3) fun w' s4 ⟨w, vw, S4, m4, H4, I4, r4, rp4, rv4, g4, d4, po4⟩ => ?_))
    exact ho' pins s4 σ H4 m4 S4 y w vy vw u w' Q I4 rp4 (RD.grow g4 (RD.grow g3 d2)) d4 r2 r4 po4
theorem rt_chain {op op' : CmpOp} {g g' : D → D → Hs → R D} (ho : OpD X T W (compareOp op) g) (ho' : OpD X T W (compareOp op') g') (ha : RE X T W a fa) (hb : RE X T W b fb) (hc : RE X T W c fc) (hm : lastMarks [op, op'] [b, c] = false) :
    RT X T W (.Compare a [op, op'] [b, c] pos) (mB (mChain g g' fa fb fc)) := by
  refine ⟨fun pins s σ H Q I h => ?_⟩
  obtain ⟨m, ρ, S, rp, rv, po⟩ := h
  unfold mB mChain at po
  simp only [R.bind_assoc, R.bind_if, R.bind_ok] at po
  refine isTrue_chain (thn (seqE ha I rp rv po) fun v s1 ⟨x, vx, S1, m1, H1, I1, r1, rp1, rv1, g1, d1, po1⟩ => test_link (thn (seqE hb I1 rp1 rv1 po1) fun u s2 ⟨y, vy, S2, m2, H2, I2, r2, rp2, rv2, g2, d2, po2⟩ => ?_)) hm
  refine thn (ho pins s2 σ H2 m2 S2 x y vx vy v u _ I2 rp2 (RD.grow g2 d1) d2 r1 r2 (Po.bind (rel := RD X.K) po2)) fun d s3 ⟨z, H3, I3, r3, z', S3, m3, ee, g3, rp3, d3, po3⟩ => ?_
  clear ee
  cases z' <;> try exact po3.elim
  rename_i k
  cases (show z = .bl k from d3)
  cases r3
  refine wpAny_truthy_bool ?_
  cases k with
  | false => exact ite_ff ⟨H3, I3, po3 false m3 H3 Grow.refl rp3 rfl⟩
  | true =>
    refine ite_tt (test_last (thn (seqE hc I3 rp3 (rv2.grow g3) po3) fun w' s4 ⟨w, vw, S4, m4, H4, I4, r4, rp4, rv4, g4, d4, po4⟩ => ?_))
    refine thn (ho' pins s4 σ H4 m4 S4 y w vy vw u w' _ I4 rp4 (RD.grow g4 (RD.grow g3 d2)) d4 r2 r4 (po_toB po4)) fun d' s5 ⟨z2, H5, I5, r5, k2, e2, q5⟩ => ?_
    subst e2
    cases r5
    exact wpAny_truthy_bool ⟨H5, I5, q5⟩
/-! ### and, or, not, if -/
def RW (X : Cx) (T : List (Addr × Str)) (W : WX) (e : Expr) (f : Ev → Hs → R Bool) : Prop := PW X e (tT X.K T W f)
theorem RW.rt {f : Ev → Hs → R Bool} (h : RW X T W e f) : RT X T W e f := PW.pt h
def mAnd (fa fb : Ev → Hs → R D) : Ev → Hs → R D := fun ρ S => (mB fa ρ S).bind fun b S1 => if b = true then fb ρ S1 else .ok (.bl false) S1
def mOr (fa fb : Ev → Hs → R D) : Ev → Hs → R D := fun ρ S => (mB fa ρ S).bind fun b S1 => if b = true then .ok (.bl true) S1 else fb ρ S1
def mNot (fa : Ev → Hs → R D) : Ev → Hs → R D := fun ρ S => (mB fa ρ S).bind fun b S1 => .ok (.bl (!b)) S1
def mIte (fc fa fb : Ev → Hs → R D) : Ev → Hs → R D := fun ρ S => (mB fc ρ S).bind fun b S1 => if b = true then fa ρ S1 else fb ρ S1
theorem re_one {op} (h : RE X T W a fa) : RE X T W (.BoolOp op [a] pos) fa := pe_one h
theorem tB_bind {k : Ev → Bool → Hs → R D} {σ : L2.St} {Q : VK} (h : tG X.K T W (RD X.K) (fun ρ S => (mB fa ρ S).bind (k ρ)) σ H Q) :
    tE X.K T W fa σ H (fun v H1 => ∃ b, v = .bl b ∧ tG X.K T W (RD X.K) (fun ρ S => k ρ b S) σ H1 Q) := by
  obtain ⟨m, ρ, S, rp, rv, po⟩ := h
  refine ⟨m, ρ, S, rp, rv, (po_toB (Po.bind (rel := relB) po)).mono fun v H1 ⟨b, e, x, S1, m1, _, g, rp1, rd, po1⟩ => ?_⟩
  subst rd
  exact ⟨b, e, m1, ρ, S1, rp1, rv.grow g, po1⟩
theorem tB_bindT {α β : Type} {rel : Mm → Hp → α → β → Prop} {k : Ev → Bool → Hs → R α} {σ : L2.St} {Q : β → Hp → Prop} (h : tG X.K T W rel (fun ρ S => (mB fa ρ S).bind (k ρ)) σ H Q) :
    tT X.K T W (mB fa) σ H (fun b H1 => tG X.K T W rel (fun ρ S => k ρ b S) σ H1 Q) := by
  obtain ⟨m, ρ, S, rp, rv, po⟩ := h
  refine ⟨m, ρ, S, rp, rv, (Po.bind (rel := relB) po).mono fun v H1 ⟨x, S1, m1, _, g, rp1, rd, po1⟩ => ?_⟩
  subst rd
  exact ⟨m1, ρ, S1, rp1, rv.grow g, po1⟩
theorem tG_val {α β : Type} {rel : Mm → Hp → α → β → Prop} {x : α} {v : β} {σ : L2.St} {Q : β → Hp → Prop} (h : tG X.K T W rel (fun _ S => .ok x S) σ H Q) (hr : ∀ m, rel m H x v) : Q v H := by
  obtain ⟨m, ρ, S, rp, rv, po⟩ := h
  exact po v m H Grow.refl rp (hr m)
theorem re_and (ha : RE X T W a fa) (hb : RE X T W (.BoolOp .And (b :: rest) pos) fb) : RE X T W (.BoolOp .And (a :: b :: rest) pos) (mAnd fa fb) := by
  refine ⟨fun pins s σ H Q I h => (pe_and ha hb).run pins s σ H Q I ?_⟩
  obtain ⟨m, ρ, S, rp, rv, po⟩ := tB_bind h
  refine ⟨m, ρ, S, rp, rv, po.mono fun v H1 ⟨b, e, h1⟩ => ⟨b, e, ?_⟩⟩
  cases b
  · exact tG_val h1 (fun _ => by simp only [RD])
  · exact h1
theorem re_or (ha : RE X T W a fa) (hb : RE X T W (.BoolOp .Or (b :: rest) pos) fb) : RE X T W (.BoolOp .Or (a :: b :: rest) pos) (mOr fa fb) := by
  refine ⟨fun pins s σ H Q I h => (pe_or ha hb).run pins s σ H Q I ?_⟩
  obtain ⟨m, ρ, S, rp, rv, po⟩ := tB_bind h
  refine ⟨m, ρ, S, rp, rv, po.mono fun v H1 ⟨b, e, h1⟩ => ⟨b, e, ?_⟩⟩
  cases b
  · exact h1
  · exact tG_val h1 (fun _ => by simp only [RD])
theorem re_not (ha : RE X T W a fa) : RE X T W (.UnaryOp .Not a pos) (mNot fa) := by
  refine ⟨fun pins s σ H Q I h => (pe_not ha).run pins s σ H Q I ?_⟩
  obtain ⟨m, ρ, S, rp, rv, po⟩ := tB_bind h
  exact ⟨m, ρ, S, rp, rv, po.mono fun v H1 ⟨b, e, h1⟩ => ⟨b, e, tG_val h1 (fun _ => by simp only [RD])⟩⟩
theorem re_ite (hc : RT X T W c (mB fc)) (ha : RE X T W a fa) (hb : RE X T W b fb) : RE X T W (.IfExp c a b pos) (mIte fc fa fb) := by
  refine ⟨fun pins s σ H Q I h => (pe_ifExp hc ha hb).run pins s σ H Q I ?_⟩
  obtain ⟨m, ρ, S, rp, rv, po⟩ := tB_bindT h
  refine ⟨m, ρ, S, rp, rv, po.mono fun b H1 h1 => ?_⟩
  cases b <;> exact h1
theorem rw_and1 (ha : RT X T W a (mB fa)) : RW X T W (.BoolOp .And [a] pos) (mB fa) := pw_and1 ha
theorem rw_or1 (ha : RT X T W a (mB fa)) : RW X T W (.BoolOp .Or [a] pos) (mB fa) := pw_or1 ha
theorem rw_and (ha : RT X T W a (mB fa)) (hb : RW X T W (.BoolOp .And (b :: rest) pos) (mB fb)) : RW X T W (.BoolOp .And (a :: b :: rest) pos) (mB (mAnd fa fb)) := by
  refine ⟨fun wh pins s σ H Q I h => (pw_and ha hb).run wh pins s σ H Q I ?_⟩
  have h' : tG X.K T W relB (fun ρ S => (mB fa ρ S).bind fun b S1 => if b = true then mB fb ρ S1 else .ok false S1) σ H Q := by
    refine tG_eq h fun ρ S => ?_
    simp only [mB, mAnd, R.bind_assoc, R.bind_if, R.bind_ok, toB]
  obtain ⟨m, ρ, S, rp, rv, po⟩ := tB_bindT h'
  refine ⟨m, ρ, S, rp, rv, po.mono fun b H1 h1 => ?_⟩
  cases b
  · exact tG_val (rel := relB) h1 (fun _ => rfl)
  · exact h1
theorem rw_or (ha : RT X T W a (mB fa)) (hb : RW X T W (.BoolOp .Or (b :: rest) pos) (mB fb)) : RW X T W (.BoolOp .Or (a :: b :: rest) pos) (mB (mOr fa fb)) := by
  refine ⟨fun wh pins s σ H Q I h => (pw_or ha hb).run wh pins s σ H Q I ?_⟩
  have h' : tG X.K T W relB (fun ρ S => (mB fa ρ S).bind fun b S1 => if b = true then .ok true S1 else mB fb ρ S1) σ H Q := by
    refine tG_eq h fun ρ S => ?_
    simp only [mB, mOr, R.bind_assoc, R.bind_if, R.bind_ok, toB]
  obtain ⟨m, ρ, S, rp, rv, po⟩ := tB_bindT h'
  refine ⟨m, ρ, S, rp, rv, po.mono fun b H1 h1 => ?_⟩
  cases b
  · exact h1
  · exact tG_val (rel := relB) h1 (fun _ => rfl)
theorem rt_not (ha : RT X T W a (mB fa)) : RT X T W (.UnaryOp .Not a pos) (mB (mNot fa)) := by
  refine ⟨fun pins s σ H Q I h => (pt_not ha).run pins s σ H Q I ?_⟩
  have h' : tG X.K T W relB (fun ρ S => (mB fa ρ S).bind fun b S1 => .ok (!b) S1) σ H Q := by
    refine tG_eq h fun ρ S => ?_
    simp only [mB, mNot, R.bind_assoc, R.bind_ok, toB]
  obtain ⟨m, ρ, S, rp, rv, po⟩ := tB_bindT h'
  exact ⟨m, ρ, S, rp, rv, po.mono fun b H1 h1 => tG_val (rel := relB) h1 (fun _ => rfl)⟩
/-! ### argument lists, displays -/
def mNilA : Ev → Hs → R (List D) := fun _ S => .ok [] S
def mConsA (fa : Ev → Hs → R D) (fr : Ev → Hs → R (List D)) : Ev → Hs → R (List D) := fun ρ S => (fa ρ S).bind fun x S1 => (fr ρ S1).bind fun xs S2 => .ok (x :: xs) S2
theorem ra_nil : RA X T W [] mNilA := by
  refine ⟨fun pos pins s σ H Q I h => pa_nil.run pos pins s σ H Q I ?_⟩
  obtain ⟨m, ρ, S, rp, rv, po⟩ := h
  exact po [] m H Grow.refl rp RDs.nil
theorem ra_cons (ha : RE X T W a fa) (hr : RA X T W es fs) (hs : starEach (a :: es) X.env = (false, eval a X.env) :: starEach es X.env) : RA X T W (a :: es) (mConsA fa fs) := by
  refine ⟨fun pos pins s σ H Q I h => (pa_cons ha hr hs).run pos pins s σ H Q I ?_⟩
  obtain ⟨m, ρ, S, rp, rv, po⟩ := tG_bind (rel := RD X.K) h
  refine ⟨m, ρ, S, rp, rv, po.mono fun v H1 ⟨m1, ρ1, S1, x, rp1, rv1, rd, po1⟩ => ?_⟩
  obtain ⟨m, ρ, S, rp, rv, po⟩ := tG_bind (rel := RDs X.K) (f := fs) (k := fun _ xs S2 => .ok (x :: xs) S2) (rel2 := RDs X.K) (W := W) (σ := σ) ⟨m1, ρ1, S1, rp1, rv1, po1⟩
  refine ⟨m1, ρ1, S1, rp1, rv1, (Po.bind (rel := RDs X.K) po1).mono fun vs H2 ⟨xs, S2, m2, _, g2, rp2, rds, po2⟩ => ?_⟩
  exact po2 (v :: vs) m2 H2 Grow.refl rp2 (RDs.cons (RD.grow g2 rd) rds)
def mTup (fs : Ev → Hs → R (List D)) : Ev → Hs → R D := fun ρ S => (fs ρ S).bind fun xs S1 => if xs.length ≤ sizeLine then .ok (.tup xs) S1 else .stuck
def mLst (mt : Bool) (fs : Ev → Hs → R (List D)) : Ev → Hs → R D := fun ρ S => (fs ρ S).bind fun xs S1 => if xs.length ≤ sizeLine then nwl mt xs S1 else .stuck
theorem re_tup {x1} (h : RA X T W es fs) : RE X T W (.Tuple es x1 pos) (mTup fs) := by
  refine ⟨fun pins s σ H Q I hh => (pe_tup h).run pins s σ H Q I ?_⟩
  obtain ⟨m, ρ, S, rp, rv, po⟩ := tG_bind (rel := RDs X.K) hh
  refine ⟨m, ρ, S, rp, rv, po.mono fun vs H1 ⟨m1, ρ1, S1, xs, rp1, rv1, rds, po1⟩ => ?_⟩
  split at po1
  · rename_i hz
    exact ⟨by rw [rds.len]; exact hz, po_tup rp1 rds po1⟩
  · exact po1.elim
theorem re_lst {mt : Bool} (h : RA X T W es fs) : RE X T W (.List es pos) (mLst mt fs) := by
  refine ⟨fun pins s σ H Q I hh => (pe_lst h).run pins s σ H Q I ?_⟩
  obtain ⟨m, ρ, S, rp, rv, po⟩ := tG_bind (rel := RDs X.K) hh
  refine ⟨m, ρ, S, rp, rv, po.mono fun vs H1 ⟨m1, ρ1, S1, xs, rp1, rv1, rds, po1⟩ => ?_⟩
  split at po1
  · rename_i hz
    exact ⟨by rw [rds.len]; exact hz, po_nwl rp1 rds po1⟩
  · exact po1.elim
end
end Pv

set_option maxHeartbeats 4000000
/-! Pv6: plain tuple objects, built-in functions, methods of built-in types. -/
namespace Pv
open PySem PySem.Spec PyProof.Rows L2

section
variable {X : Cx} {T : List (Addr × Str)} {W : WX} {K : Frag} {m : Mm} {H : Hp} {S : Hs} {ds : List D} {Q : VK} {W' : Value → Option Addr → Hp → Prop} {pins : List (Addr × Obj)} {σ : L2.St} {s : Shared}
/-! ### plain tuples -/
theorem po_tpx {vs : List V} {its : List Value} {n : Nat} (rp : Rep K T m S H) (r : RDs K m H ds vs) (po : Po K T (RD K) m H (.ok (.tpx ds) S) Q W') {p : Addr} (hp : H p = none) : Q (.ref p) (upd H p (.frz (plT its n) (.tup vs))) := by
  refine po _ m _ (Grow.new hp) (rp.new hp) ?_
  simp only [RD]
  exact ⟨p, vs, rfl, .inl ⟨its, n, upd_same, rp.notin hp⟩, RDs.grow (Grow.new hp) r⟩
theorem laid_tpx {vs : List V} {us : List Value} (I : Inv X pins σ H s) (r : Vals vs us) (hz : vs.length ≤ sizeLine) (rp : Rep X.K T m S H) (rd : RDs X.K m H ds vs) (po : Po X.K T (RD X.K) m H (.ok (.tpx ds) S) Q W') :
    EP X pins σ Q (.ref s.heap.objs.size) { s with heap := s.heap.push { cls := .type "tuple", data := .seq us.toArray } } := by
  have hf : H s.heap.objs.size = none := I.hok.fresh (Nat.le_refl _)
  refine ⟨.ref s.heap.objs.size, _, I.laid (o := .frz (plT us 0) (.tup vs)) (t' := s.toks) (fun b u e => Heap.get?_push_of_some _ e) (Nat.le_refl _) ?_, rfl, po_tpx rp rd po hf⟩
  exact ⟨Heap.get?_push_size _ rfl, hz, us, r, ⟨_, Heap.get?_push_size _ rfl, rfl, _, rfl⟩⟩
def mTupx (fs : Ev → Hs → R (List D)) : Ev → Hs → R D := fun ρ S => (fs ρ S).bind fun xs S1 => if xs.length ≤ sizeLine then .ok (.tpx xs) S1 else .stuck
theorem re_tupx {es : List Expr} {fs : Ev → Hs → R (List D)} {pos : Pos} {x1} (h : RA X T W es fs) : RE X T W (.Tuple es x1 pos) (mTupx fs) := by
  refine ⟨fun pins s σ H Q I hh => ?_⟩
  obtain ⟨m, ρ, S, rp, rv, po⟩ := tG_bind (rel := RDs X.K) hh
  refine wpAny_Tuple_spliced (thn (h.run pos pins s σ H _ I ⟨m, ρ, S, rp, rv, po⟩) fun us s1 ⟨vs, H1, I1, r, m1, ρ1, S1, xs, rp1, rv1, rds, po1⟩ => ?_)
  split at po1
  · rename_i hz
    have hz' : vs.length ≤ sizeLine := by rw [rds.len]; exact hz
    exact ⟨by rw [← r.length]; exact hz', laid_tpx I1 r hz' rp1 rds po1⟩
  · exact po1.elim
def gAddx (x y : D) (S : Hs) : R D := match x, y with
  | .tpx a, .tpx b => if a.length + b.length ≤ sizeLine then .ok (.tpx (a ++ b)) S else .stuck
  | _, _ => .stuck
theorem od_addx : OpD X T W (binaryOp .Add) gAddx := by
  intro pins s σ H m S dx dy x y v u Q I rp rx ry ex ey po
  unfold gAddx at po
  split at po
  · rename_i i j
    split at po
    · rename_i hz
      have rx2 := rx
      have ry2 := ry
      simp only [RD] at rx ry
      obtain ⟨a, xs, rfl, ta, ra⟩ := rx
      obtain ⟨b, ys, rfl, tb, rb⟩ := ry
      cases ex
      cases ey
      obtain ⟨its, r1, p1, _⟩ := I.tuple ta.tup.sq
      obtain ⟨its2, r2, p2, _⟩ := I.tuple tb.tup.sq
      have hzz : xs.length + ys.length ≤ sizeLine := by rw [ra.len, rb.len]; exact hz
      by_cases hx : xs = []
      · subst hx
        have hi : i = [] := (RDs.inj_nil ra).mp rfl
        subst hi
        cases r1
        exact cat_tup0 p1 p2 ⟨.ref b, H, I, rfl, po_val rp (x := .tpx ([] ++ j)) (by rw [List.nil_append]; exact ry2) po⟩
      · have hv : its ≠ [] := fun z => hx (by subst z; cases r1; rfl)
        refine HT.cat_tup p1 p2 hv (fun hw => ?_) (fun hw => ?_) (by rw [← r1.length, ← r2.length]; exact hzz)
        · have hys : ys = [] := by subst hw; cases r2; rfl
          have hj : j = [] := (RDs.inj_nil rb).mp hys
          subst hj
          exact ⟨.ref a, H, I, rfl, po_val rp (x := .tpx (i ++ [])) (by rw [List.append_nil]; exact rx2) po⟩
        · exact laid_tpx I (r1.append r2) (by rw [List.length_append]; exact hzz) rp (RDs.append ra rb) po
    · exact po.elim
  · exact po.elim
end

/-! ### built-in functions -/
def CallD (X : Cx) (T : List (Addr × Str)) (f : Value) (g : List D → Hs → R D) : Prop := ∀ W', CallR X f (fun xs H Q => ∃ m S ds, Rep X.K T m S H ∧ RDs X.K m H ds xs ∧ Po X.K T (RD X.K) m H (g ds S) Q W')
def mCall (g : List D → Hs → R D) (fs : Ev → Hs → R (List D)) : Ev → Hs → R D := fun ρ S => (fs ρ S).bind g
section
variable {X : Cx} {T : List (Addr × Str)} {W : WX} {x : Str} {p pos : Pos} {e : Expr} {es : List Expr} {fs : Ev → Hs → R (List D)} {g : List D → Hs → R D} {id ty : String}
theorem re_callB (hc : CallD X T (.builtin id) g) (hg : Gl X x) (hm : X.mg x = none) (hv : bootBuiltins x = some (.builtin id)) (ha : RA X T W (e :: es) fs) (hn : x ≠ "__name__") (hdb : (x == ("__debug__" : Str)) = false)
    (he : starEach (e :: es) X.env = (false, eval e X.env) :: starEach es X.env) (hpl : (backTo pos (starEach es X.env)).any (·.1) = false) : RE X T W (.Call (.Name x p) (e :: es) [] pos) (mCall g fs) := by
  refine ⟨fun pins s σ H Q I h => (pe_callB (hc fun c d H' => W c d σ H') hg hm hv ha hn hdb he hpl).run pins s σ H Q I ?_⟩
  obtain ⟨m, ρ, S, rp, rv, po⟩ := tG_bind (rel := RDs X.K) h
  exact ⟨m, ρ, S, rp, rv, po.mono fun vs H1 ⟨m1, ρ1, S1, xs, rp1, rv1, rds, po1⟩ => ⟨m1, S1, xs, rp1, rds, po1⟩⟩
theorem re_callTy (hc : CallD X T (.type ty) g) (hg : Gl X x) (hm : X.mg x = none) (hv : bootBuiltins x = some (.type ty)) (ha : RA X T W (e :: es) fs) (hn : x ≠ "__name__") (hdb : (x == ("__debug__" : Str)) = false)
    (he : starEach (e :: es) X.env = (false, eval e X.env) :: starEach es X.env) (hpl : (backTo pos (starEach es X.env)).any (·.1) = false) : RE X T W (.Call (.Name x p) (e :: es) [] pos) (mCall g fs) := by
  refine ⟨fun pins s σ H Q I h => (pe_callTy (hc fun c d H' => W c d σ H') hg hm hv ha hn hdb he hpl).run pins s σ H Q I ?_⟩
  obtain ⟨m, ρ, S, rp, rv, po⟩ := tG_bind (rel := RDs X.K) h
  exact ⟨m, ρ, S, rp, rv, po.mono fun vs H1 ⟨m1, ρ1, S1, xs, rp1, rv1, rds, po1⟩ => ⟨m1, S1, xs, rp1, rds, po1⟩⟩
theorem rds1 {K : Frag} {m : Mm} {H : Hp} {d : D} {vs : List V} (h : RDs K m H [d] vs) : ∃ v, vs = [v] ∧ RD K m H d v := by
  simp only [RDs] at h
  obtain ⟨v, r, rfl, h1, rfl⟩ := h
  exact ⟨v, rfl, h1⟩
theorem rds2 {K : Frag} {m : Mm} {H : Hp} {d d2 : D} {vs : List V} (h : RDs K m H [d, d2] vs) : ∃ v u, vs = [v, u] ∧ RD K m H d v ∧ RD K m H d2 u := by
  simp only [RDs] at h
  obtain ⟨v, r, rfl, h1, u, r2, rfl, h2, rfl⟩ := h
  exact ⟨v, u, rfl, h1, h2⟩
/-! len -/
def gLen (ds : List D) (S : Hs) : R D := match ds with
  | [.str z] => if z.length ≤ sizeLine then .ok (.int z.length) S else .stuck
  | [d] => match sOf S d with
    | .t xs => .ok (.int xs.length) S
    | .l xs => .ok (.int xs.length) S
    | .no => match dOf S d with
      | some (ks, _) => .ok (.int ks.length) S
      | none => .stuck
  | _ => .stuck
theorem zipLen {α β : Type} : ∀ {xs : List α} {ys : List β}, xs.length = ys.length → (xs.zip ys).length = xs.length := fun h => by rw [List.length_zip, h, Nat.min_self]
theorem cd_len : CallD X T (.builtin "len") gLen := by
  intro W' pins s σ H xs us Q I r h
  obtain ⟨m, S, ds, rp, rds, po⟩ := h
  unfold gLen at po
  split at po
  · rename_i z
    obtain ⟨v, rfl, rd⟩ := rds1 rds
    cases (show v = .str z from rd)
    split at po
    · rename_i hz
      exact call_len_str pins s σ H _ us Q I r ⟨z, rfl, hz, po_val rp (by simp only [RD]) po⟩
    · exact po.elim
  · rename_i d _
    obtain ⟨v, rfl, rd⟩ := rds1 rds
    split at po
    · rename_i ys hd
      obtain ⟨a, vs, rfl, e1, r1⟩ := sOf_t rd hd
      exact call_len_seq pins s σ H _ us Q I r ⟨a, vs, rfl, .inr e1, po_val rp (by simp only [RD]; rw [r1.len]) po⟩
    · rename_i ys hd
      obtain ⟨a, vs, rfl, e1, r1⟩ := sOf_l rp rd hd
      exact call_len_seq pins s σ H _ us Q I r ⟨a, vs, rfl, .inl e1, po_val rp (by simp only [RD]; rw [r1.len]) po⟩
    · split at po
      · rename_i ks ys hd
        obtain ⟨a, vs, rfl, e1, l, r1⟩ := dOf_at rp rd hd
        obtain ⟨u, rfl, rx⟩ := vals1 r
        cases rx
        refine d_len I (Rd.of e1) fun t s' I' => ⟨.int ks.length, H, I', ⟨t, ?_⟩, po_val rp (by simp only [RD]) po⟩
        rw [zipLen (by rw [r1.len]; exact l)]
      · exact po.elim
  · exact po.elim
/-! tuple(x), list(x) -/
def gTuple (px : Bool) (ds : List D) (S : Hs) : R D := match ds with
  | [d] => match sOf S d with
    | .t xs => if px = true then .stuck else .ok (.tup xs) S
    | .l xs => if px = true then .ok (.tpx xs) S else .ok (.tup xs) S
    | .no => .stuck
  | _ => .stuck
theorem cd_tuple {px : Bool} : CallD X T (.type "tuple") (gTuple px) := by
  intro W' pins s σ H xs us Q I r h
  obtain ⟨m, S, ds, rp, rds, po⟩ := h
  unfold gTuple at po
  split at po
  · obtain ⟨v, rfl, rd⟩ := rds1 rds
    split at po
    · rename_i ys hd
      split at po
      · exact po.elim
      · obtain ⟨a, vs, rfl, e1, r1⟩ := sOf_t rd hd
        exact call_tuple_of pins s σ H _ us Q I r ⟨a, vs, rfl, .inr ⟨e1, po_val rp (sOf_tup rd hd) po⟩⟩
    · rename_i ys hd
      obtain ⟨a, vs, rfl, e1, r1⟩ := sOf_l rp rd hd
      split at po
      · obtain ⟨u, rfl, rx⟩ := vals1 r
        cases rx
        obtain ⟨its, r', pl, hz⟩ := I.list e1
        have hlen := r'.length
        refine call_tuple_list pl.isList (fun h' kp => ?_) (by simp only [List.size_toArray] <;> omega)
        have I1 : Inv X pins σ H { s with heap := h' } := I.kept (t' := s.toks) kp
        exact laid_tpx I1 r' hz rp r1 po
      · exact call_tuple_of pins s σ H _ us Q I r ⟨a, vs, rfl, .inl ⟨e1, po_tup rp r1 po⟩⟩
    · exact po.elim
  · exact po.elim
def gList (mt : Bool) (ds : List D) (S : Hs) : R D := match ds with
  | [d] => match sOf S d with
    | .t xs => nwl mt xs S
    | .l xs => nwl mt xs S
    | .no => .stuck
  | _ => .stuck
theorem cd_list {mt : Bool} : CallD X T (.type "list") (gList mt) := by
  intro W' pins s σ H xs us Q I r h
  obtain ⟨m, S, ds, rp, rds, po⟩ := h
  unfold gList at po
  split at po
  · obtain ⟨v, rfl, rd⟩ := rds1 rds
    split at po
    · rename_i ys hd
      obtain ⟨a, vs, rfl, e1, r1⟩ := sOf_t rd hd
      exact call_list_of pins s σ H _ us Q I r ⟨a, vs, rfl, .inr e1, po_nwl rp r1 po⟩
    · rename_i ys hd
      obtain ⟨a, vs, rfl, e1, r1⟩ := sOf_l rp rd hd
      exact call_list_of pins s σ H _ us Q I r ⟨a, vs, rfl, .inl e1, po_nwl rp r1 po⟩
    · exact po.elim
  · exact po.elim
/-! min, max, int -/
def gMin (ds : List D) (S : Hs) : R D := match ds with
  | [.int i, .int j] => .ok (.int (if j < i then j else i)) S
  | _ => .stuck
def gMax (ds : List D) (S : Hs) : R D := match ds with
  | [.int i, .int j] => .ok (.int (if j > i then j else i)) S
  | _ => .stuck
theorem cd_min (hc : X.calm = true) : CallD X T (.builtin "min") gMin := by
  intro W' pins s σ H xs us Q I r h
  obtain ⟨m, S, ds, rp, rds, po⟩ := h
  unfold gMin at po
  split at po
  · rename_i i j
    obtain ⟨v, u, rfl, h1, h2⟩ := rds2 rds
    cases (show v = .int i from h1)
    cases (show u = .int j from h2)
    exact call_min2 hc pins s σ H _ us Q I r ⟨i, j, rfl, po_val rp (by simp only [RD]) po⟩
  · exact po.elim
theorem cd_max (hc : X.calm = true) : CallD X T (.builtin "max") gMax := by
  intro W' pins s σ H xs us Q I r h
  obtain ⟨m, S, ds, rp, rds, po⟩ := h
  unfold gMax at po
  split at po
  · rename_i i j
    obtain ⟨v, u, rfl, h1, h2⟩ := rds2 rds
    cases (show v = .int i from h1)
    cases (show u = .int j from h2)
    exact call_max2 hc pins s σ H _ us Q I r ⟨i, j, rfl, po_val rp (by simp only [RD]) po⟩
  · exact po.elim
def gInt1 (ds : List D) (S : Hs) : R D := match ds with
  | [.int i] => .ok (.int i) S
  | [.bl k] => .ok (.int (if k = true then 1 else 0)) S
  | _ => .stuck
theorem cd_int : CallD X T (.type "int") gInt1 := by
  intro W' pins s σ H xs us Q I r h
  obtain ⟨m, S, ds, rp, rds, po⟩ := h
  unfold gInt1 at po
  split at po
  · rename_i i
    obtain ⟨v, rfl, h1⟩ := rds1 rds
    cases (show v = .int i from h1)
    exact call_int1 pins s σ H _ us Q I r (.inl ⟨i, rfl, po_val rp (by simp only [RD]) po⟩)
  · rename_i k
    obtain ⟨v, rfl, h1⟩ := rds1 rds
    cases (show v = .bl k from h1)
    exact call_int1 pins s σ H _ us Q I r (.inr ⟨k, rfl, po_val rp (by simp only [RD]) po⟩)
  · exact po.elim
/-! all, any -/
def bls : List D → Option (List Bool)
  | [] => some []
  | .bl b :: ds => match bls ds with
    | some bs => some (b :: bs)
    | none => none
  | _ :: _ => none
theorem bls_rd {K : Frag} {m : Mm} {H : Hp} : ∀ {ds : List D} {vs : List V} {bs : List Bool}, RDs K m H ds vs → bls ds = some bs → vs = bs.map V.bl
  | [], vs, bs, h, e => by simp only [RDs] at h; simp only [bls] at e; cases e; exact h
  | d :: ds, vs, bs, h, e => by
    simp only [RDs] at h
    obtain ⟨v, r, rfl, h1, h2⟩ := h
    cases d <;> simp only [bls] at e <;> try cases e
    split at e
    · rename_i cs hc
      cases e
      rw [bls_rd h2 hc, List.map_cons, show v = _ from h1]
    · cases e
def gAll (an : Bool) (ds : List D) (S : Hs) : R D := match ds with
  | [d] => match sOf S d with
    | .l xs => match bls xs with
      | some bs => .ok (.bl (if an = true then bs.any _root_.id else bs.all _root_.id)) S
      | none => .stuck
    | _ => .stuck
  | _ => .stuck
theorem cd_all (hc : X.calm = true) : CallD X T (.builtin "all") (gAll false) := by
  intro W' pins s σ H xs us Q I r h
  obtain ⟨m, S, ds, rp, rds, po⟩ := h
  unfold gAll at po
  split at po
  · obtain ⟨v, rfl, h1⟩ := rds1 rds
    split at po
    · rename_i ys hd
      split at po
      · rename_i bs hb
        obtain ⟨a, vs, rfl, e1, r1⟩ := sOf_l rp h1 hd
        cases bls_rd r1 hb
        exact cr_all hc pins s σ H _ us Q I r ⟨a, bs, rfl, e1, po_val rp (by simp only [RD, Bool.false_eq_true, if_false]) po⟩
      · exact po.elim
    · exact po.elim
  · exact po.elim
theorem cd_any (hc : X.calm = true) : CallD X T (.builtin "any") (gAll true) := by
  intro W' pins s σ H xs us Q I r h
  obtain ⟨m, S, ds, rp, rds, po⟩ := h
  unfold gAll at po
  split at po
  · obtain ⟨v, rfl, h1⟩ := rds1 rds
    split at po
    · rename_i ys hd
      split at po
      · rename_i bs hb
        obtain ⟨a, vs, rfl, e1, r1⟩ := sOf_l rp h1 hd
        cases bls_rd r1 hb
        exact cr_any hc pins s σ H _ us Q I r ⟨a, bs, rfl, e1, po_val rp (by simp only [RD, if_true]) po⟩
      · exact po.elim
    · exact po.elim
  · exact po.elim
/-! isinstance with built-in types -/
def tyD (S : Hs) : D → Option String
  | .non => some "NoneType"
  | .bl _ => some "bool"
  | .int _ => some "int"
  | .str _ => some "str"
  | .tup _ => some "tuple"
  | .tpx _ => some "tuple"
  | .lv _ => some "list"
  | .rl _ => some "list"
  | .dv _ _ => some "dict"
  | .ref n => match S[n]? with
    | some (.lst _) => some "list"
    | some (.dk _ _) => some "dict"
    | _ => none
  | _ => none
def kitT (t u : String) : Option Bool := if ["NoneType", "bool", "int", "str", "tuple", "list", "dict"].contains t = true ∧ ["bool", "int", "str", "tuple", "list", "dict"].contains u = true then some (t == u || (t == "bool" && u == "int")) else none
theorem kitT_ok {K : Frag} {t u : String} {b : Bool} (h : kitT t u = some b) : PySem.W.kitOne K (.type t) (.type u) = some b := by
  unfold kitT at h
  split at h
  · rename_i hc
    obtain ⟨h1, h2⟩ := hc
    refine kit_ty ?_
    simp only [List.contains_cons, List.contains_nil, Bool.or_false, Bool.or_eq_true, beq_iff_eq] at h1 h2
    rcases h1 with rfl | rfl | rfl | rfl | rfl | rfl | rfl <;> rcases h2 with rfl | rfl | rfl | rfl | rfl | rfl <;> cases h <;> decide +kernel
  · cases h
theorem tyD_at {K : Frag} {T : List (Addr × Str)} {m : Mm} {H : Hp} {S : Hs} {d : D} {v : V} {t : String} (rp : Rep K T m S H) (rd : RD K m H d v) (e : tyD S d = some t) : TyX K H v (.type t) := by
  have tu : ∀ {a : Addr} {vs : List V}, TupAt K m H a vs → TyX K H (.ref a) (.type "tuple") := fun {a vs} t => by
    rcases t with ⟨t, _⟩ | ⟨o, t, _⟩ | ⟨o, its, n, h1, h2, _⟩
    · exact .base (.tup t)
    · exact .fTuple t
    · exact .kTuple h1 h2
  cases d <;> simp only [tyD] at e <;> try cases e
  · cases rd; exact .base .non
  · cases rd; exact .base (.bl _)
  · cases rd; exact .base (.int _)
  · cases rd; exact .base (.str _)
  · simp only [RD] at rd; obtain ⟨a, vs, rfl, h, _⟩ := rd; exact tu h
  · simp only [RD] at rd; obtain ⟨a, vs, rfl, h, _⟩ := rd; exact tu h.tup
  · simp only [RD] at rd; obtain ⟨a, vs, rfl, h, _⟩ := rd; exact .base (.lst h)
  · simp only [RD] at rd
    obtain ⟨a, vs, rfl, h, _⟩ := rd
    rcases h with ⟨h, _⟩ | ⟨o, h, _⟩ | ⟨o, its, n, h1, h2, _⟩
    · exact .base (.lst h)
    · exact .base (.frz h)
    · exact .kList h1 h2
  · simp only [RD] at rd; obtain ⟨a, vs, rfl, h, _⟩ := rd; exact .base (.dK h)
  · rename_i n
    simp only [RD] at rd
    obtain ⟨a, rfl, e1⟩ := rd
    cases q : S[n]? with
    | none => rw [q] at e; cases e
    | some o =>
      obtain ⟨b, ho, f1, f2, f3⟩ := rp.at_ n _ q
      rw [f1] at e1
      cases e1
      rw [q] at e
      cases o with
      | lst xs => cases e; obtain ⟨vs, rfl, _⟩ := f3; exact .base (.lst f2)
      | dk ks xs => cases e; obtain ⟨vs, rfl, _⟩ := f3; exact .base (.dK f2)
      | ins C fs => cases e
def tys : List D → Option (List String)
  | [] => some []
  | .ty n :: ds => match tys ds with
    | some ts => some (n :: ts)
    | none => none
  | _ :: _ => none
def kitTs (t : String) : List String → Option Bool
  | [] => some false
  | u :: us => match kitT t u with
    | some true => some true
    | some false => kitTs t us
    | none => none
theorem tys_rd {K : Frag} {m : Mm} {H : Hp} : ∀ {ds : List D} {vs : List V} {ts : List String}, RDs K m H ds vs → tys ds = some ts → vs = ts.map V.ty
  | [], vs, bs, h, e => by simp only [RDs] at h; simp only [tys] at e; cases e; exact h
  | d :: ds, vs, bs, h, e => by
    simp only [RDs] at h
    obtain ⟨v, r, rfl, h1, h2⟩ := h
    cases d <;> simp only [tys] at e <;> try cases e
    split at e
    · rename_i cs hc
      cases e
      rw [tys_rd h2 hc, List.map_cons, show v = _ from h1]
    · cases e
theorem kitTs_ok {K : Frag} {t : String} : ∀ {us : List String} {b : Bool}, kitTs t us = some b → PySem.W.kitAny K (.type t) (us.map Value.type) = some b
  | [], b, h => by simp only [kitTs] at h; cases h; exact kitAny_nil
  | u :: us, b, h => by
    simp only [kitTs] at h
    rw [List.map_cons]
    split at h
    · rename_i hk
      cases h
      exact kitAny_cons (kitT_ok hk) (fun z => by cases z) (fun _ => rfl)
    · rename_i hk
      exact kitAny_cons (kitT_ok hk) (fun _ => kitTs_ok h) (fun z => by cases z)
    · cases h
def gIsi (ds : List D) (S : Hs) : R D := match ds with
  | [d, .ty u] => match tyD S d with
    | some t => match kitT t u with
      | some b => .ok (.bl b) S
      | none => .stuck
    | none => .stuck
  | [d, .tup us] => match tyD S d with
    | some t => match tys us with
      | some ts => match kitTs t ts with
        | some b => .ok (.bl b) S
        | none => .stuck
      | none => .stuck
    | none => .stuck
  | _ => .stuck
theorem clsVs : ∀ ts : List String, Paired ClsV (ts.map V.ty) (ts.map Value.type)
  | [] => .nil
  | t :: ts => .cons (.ty t) (clsVs ts)
theorem valsTy : ∀ {ts : List String} {us : List Value}, Vals (ts.map V.ty) us → us = ts.map Value.type
  | [], us, h => by rw [List.map_nil] at h; cases h; rfl
  | t :: ts, us, h => by
    rw [List.map_cons] at h
    cases h with
    | cons r h => cases r; rw [valsTy h, List.map_cons]
theorem cd_isi : CallD X T (.builtin "isinstance") gIsi := by
  intro W' pins s σ H xs us Q I r h
  obtain ⟨m, S, ds, rp, rds, po⟩ := h
  unfold gIsi at po
  split at po
  · rename_i d u
    obtain ⟨v, w, rfl, h1, h2⟩ := rds2 rds
    cases (show w = .ty u from h2)
    split at po
    · rename_i t ht
      split at po
      · rename_i b hb
        exact call_isi pins s σ H _ us Q I r ⟨v, .ty u, .type t, .type u, b, rfl, .ty u, tyD_at rp h1 ht, kitT_ok hb, po_val rp (by simp only [RD]) po⟩
      · exact po.elim
    · exact po.elim
  · rename_i d ud
    obtain ⟨v, w, rfl, h1, h2⟩ := rds2 rds
    split at po
    · rename_i t ht
      split at po
      · rename_i ts hts
        split at po
        · rename_i b hb
          simp only [RD] at h2
          obtain ⟨a, vs, rfl, ta, ra⟩ := h2
          obtain ⟨u1, u2, rfl, r1, r2⟩ := vals2 r
          cases (show u2 = Value.ref a from r2)
          obtain ⟨P, Z, p, hx⟩ := kit_of I r1 (tyD_at rp h1 ht)
          obtain ⟨its, rv, ⟨o, g1, g2, n, g3⟩, _⟩ := I.tuple ta.sq
          have e3 := tys_rd ra hts
          subst e3
          have e4 := valsTy rv
          subst e4
          obtain ⟨oc, od, dt, sl⟩ := o
          simp only at g2 g3
          subst g2 g3
          exact PySem.W.kia_tup Z I.kIn p g1 (kitTs_ok hb) hx fun tk => ⟨.bl b, H, I.tok tk, rfl, po_val rp (by simp only [RD]) po⟩
        · exact po.elim
      · exact po.elim
    · exact po.elim
  · exact po.elim
end
end Pv

set_option maxHeartbeats 4000000
/-! Pv7: methods of built-in types. -/
namespace Pv
open PySem PySem.Spec PyProof.Rows L2

def tyM (S : Hs) : D → Option String
  | .str _ => some "str"
  | .tpx _ => some "tuple"
  | .lv _ => some "list"
  | .dv _ _ => some "dict"
  | .ref n => match S[n]? with
    | some (.lst _) => some "list"
    | some (.dk _ _) => some "dict"
    | _ => none
  | _ => none
def mL (S : Hs) : D → Option (Nat × List D)
  | .ref n => match S[n]? with
    | some (.lst xs) => some (n, xs)
    | _ => none
  | _ => none
def mD (S : Hs) : D → Option (Nat × List Key × List D)
  | .ref n => match S[n]? with
    | some (.dk ks xs) => some (n, ks, xs)
    | _ => none
  | _ => none
section
variable {K : Frag} {T : List (Addr × Str)} {m m1 : Mm} {H H1 : Hp} {S : Hs} {d : D} {v : V} {ds : List D} {Q : VK} {W' : Value → Option Addr → Hp → Prop}
theorem ref_at {n : Nat} {o : O} (rp : Rep K T m S H) (rd : RD K m H (.ref n) v) (q : S[n]? = some o) : ∃ a ho, v = .ref a ∧ m.v[n]? = some a ∧ H a = some ho ∧ RO K m H o ho := by
  simp only [RD] at rd
  obtain ⟨a, rfl, e1⟩ := rd
  obtain ⟨b, ho, f1, f2, f3⟩ := rp.at_ n _ q
  rw [f1] at e1
  cases e1
  exact ⟨_, ho, rfl, f1, f2, f3⟩
theorem mL_at {n : Nat} (rp : Rep K T m S H) (rd : RD K m H d v) (e : mL S d = some (n, ds)) : ∃ a vs, v = .ref a ∧ m.v[n]? = some a ∧ H a = some (.lst vs) ∧ RDs K m H ds vs := by
  unfold mL at e
  split at e
  · split at e
    · rename_i q
      cases e
      obtain ⟨a, ho, h1, h2, h3, vs, rfl, r⟩ := ref_at rp rd q
      exact ⟨a, vs, h1, h2, h3, r⟩
    · cases e
  · cases e
theorem mD_at {n : Nat} {ks : List Key} (rp : Rep K T m S H) (rd : RD K m H d v) (e : mD S d = some (n, ks, ds)) : ∃ a vs, v = .ref a ∧ m.v[n]? = some a ∧ H a = some (.dK (ks.zip vs)) ∧ ks.length = ds.length ∧ RDs K m H ds vs := by
  unfold mD at e
  split at e
  · split at e
    · rename_i q
      cases e
      obtain ⟨a, ho, h1, h2, h3, vs, rfl, l, r⟩ := ref_at rp rd q
      exact ⟨a, vs, h1, h2, h3, l, r⟩
    · cases e
  · cases e
theorem po_upd {n : Nat} {a : Addr} {u ho : HO} {o : O} {x : D} (rp : Rep K T m S H) (hn : m.v[n]? = some a) (h : H a = some u) (hu : isM u) (ro : RO K m H o ho) (hd : RD K m H x v) (po : Po K T (RD K) m H (.ok x (S.set n o)) Q W') : Q v (upd H a ho) :=
  have g := Grow.upd (o := ho) h (List.mem_of_getElem? hn) ro.nt
  po v m _ g (rp.upd hn h hu ro) (RD.grow g hd)
end

def MtD (X : Cx) (T : List (Addr × Str)) (id : String) (g : D → List D → Hs → R D) : Prop := ∀ W', MtR X id (fun x xs H Q => ∃ m S d ds, Rep X.K T m S H ∧ RD X.K m H d x ∧ RDs X.K m H ds xs ∧ Po X.K T (RD X.K) m H (g d ds S) Q W')
def mBm (ty : String) (g : D → List D → Hs → R D) (fo : Ev → Hs → R D) (fs : Ev → Hs → R (List D)) : Ev → Hs → R D := fun ρ S => (fo ρ S).bind fun x S1 => if tyM S1 x = some ty then (fs ρ S1).bind fun xs S2 => g x xs S2 else .stuck
section
variable {X : Cx} {T : List (Addr × Str)} {W : WX} {o e : Expr} {es : List Expr} {fo : Ev → Hs → R D} {fs : Ev → Hs → R (List D)} {g : D → List D → Hs → R D} {name : Str} {apos cpos : Pos} {ty id : String}
theorem tyM_is {pins : List (Addr × Obj)} {σ : L2.St} {H : Hp} {s : Shared} {m : Mm} {S : Hs} {d : D} {v : V} {u : Value} (I : Inv X pins σ H s) (rp : Rep X.K T m S H) (rd : RD X.K m H d v) (r : RelV v u) (e : tyM S d = some ty) :
    s.TypeIs u ty ∧ ∀ a, u = .ref a → ∃ ob, s.heap.get? a = some ob ∧ ob.dict = none := by
  cases d <;> simp only [tyM] at e <;> try cases e
  · rename_i x
    cases (show v = .str x from rd)
    exact tyV_is I r (show tyV X.K "str" (.str x) H from rfl)
  · simp only [RD] at rd
    obtain ⟨a, vs, rfl, t, _⟩ := rd
    cases r
    rcases t with ⟨its, n, h, _⟩ | ⟨its, n, h, _⟩
    · have h1 := (I.hok a _ h).1
      exact ⟨⟨_, h1, rfl⟩, fun b hb => by cases hb; exact ⟨_, h1, rfl⟩⟩
    · have h1 := I.kIn _ _ h
      exact ⟨⟨_, h1, rfl⟩, fun b hb => by cases hb; exact ⟨_, h1, rfl⟩⟩
  · simp only [RD] at rd
    obtain ⟨a, vs, rfl, t, _⟩ := rd
    exact tyV_is I r (.inl ⟨rfl, vs, SqL.of t⟩)
  · simp only [RD] at rd
    obtain ⟨a, vs, rfl, t, _⟩ := rd
    exact tyV_is I r (.inr (.inr (.inl ⟨rfl, .inl ⟨_, t⟩⟩)))
  · rename_i n
    cases q : S[n]? with
    | none => rw [q] at e; cases e
    | some ob =>
      rw [q] at e
      obtain ⟨a, ho, rfl, h2, h3, ro⟩ := ref_at rp rd q
      cases ob with
      | lst xs => cases e; obtain ⟨vs, rfl, _⟩ := ro; exact tyV_is I r (.inl ⟨rfl, vs, SqL.of h3⟩)
      | dk ks xs => cases e; obtain ⟨vs, rfl, _⟩ := ro; exact tyV_is I r (.inr (.inr (.inl ⟨rfl, .inl ⟨_, h3⟩⟩)))
      | ins C f => cases e
theorem re_bm (pa : PlainAttrs ty) (slot : Slot ty name id) (hty : typeOf (.builtin id) = pure (.type "method_descriptor")) (hm : MtD X T id g) (ho : RE X T W o fo) (ha : RA X T W (e :: es) fs) (hbase : attributeBase o name X.env (eval o X.env) = eval o X.env)
    (hfew : ((backTo cpos (starEach (e :: es) X.env)).all (fun x => !x.1) && (backToKw cpos (keywordEach [] X.env)).all (fun x => x.1.isSome) && decide ((e :: es).length + ([] : List Keyword).length + (if ([] : List Keyword).isEmpty then 0 else 1) < 30)) = true)
    (hline : (apos.endLine == cpos.line) = true) (hs : starEach (e :: es) X.env = (false, eval e X.env) :: starEach es X.env) (hplain : (backTo cpos (starEach es X.env)).any (·.1) = false) : RE X T W (.Call (.Attribute o name apos) (e :: es) [] cpos) (mBm ty g fo fs) := by
  refine ⟨fun pins s σ H Q I h => ?_⟩
  obtain ⟨m, ρ, S, rp, rv, po⟩ := h
  refine wpAny_Call_method_late hbase hfew hline rfl (thn (seqE ho I rp rv po) fun v s1 ⟨x, vx, S1, m1, H1, I1, r1, rp1, rv1, g1, d1, po1⟩ => ?_)
  split at po1
  · rename_i hT
    obtain ⟨h1, h2⟩ := tyM_is I1 rp1 d1 r1 hT
    refine ⟨ty, id, pa, slot, hty, h1, h2, ?_⟩
    have hA := ha.run cpos pins s1 σ H1 _ I1 ⟨m1, ρ, S1, rp1, rv1, Po.bind (rel := RDs X.K) po1⟩
    rw [hs] at hA ⊢
    refine Calls.callWith_builtin (by show (false || (backTo cpos (starEach es X.env)).any (·.1)) = false; rw [hplain] <;> rfl) (Calls.evalArgs_plain ?_)
    refine thn hA fun us s2 ⟨vs, H2, I2, r2, xs, S2, m2, _, g2, rp2, rds, po2⟩ => ?_
    exact hm _ pins s2 σ H2 vx vs v us Q I2 r1 r2 ⟨m2, S2, x, xs, rp2, RD.grow g2 d1, rds, po2⟩
  · exact po1.elim
theorem re_bm0 (pa : PlainAttrs ty) (slot : Slot ty name id) (hty : typeOf (.builtin id) = pure (.type "method_descriptor")) (hm : MtD X T id g) (ho : RE X T W o fo) (hbase : attributeBase o name X.env (eval o X.env) = eval o X.env)
    (hline : (apos.endLine == cpos.line) = true) : RE X T W (.Call (.Attribute o name apos) [] [] cpos) (mBm ty g fo mNilA) := by
  refine ⟨fun pins s σ H Q I h => ?_⟩
  obtain ⟨m, ρ, S, rp, rv, po⟩ := h
  refine wpAny_Call_method0_late hbase hline (thn (seqE ho I rp rv po) fun v s1 ⟨x, vx, S1, m1, H1, I1, r1, rp1, rv1, g1, d1, po1⟩ => ?_)
  split at po1
  · rename_i hT
    obtain ⟨h1, h2⟩ := tyM_is I1 rp1 d1 r1 hT
    refine ⟨ty, id, pa, slot, hty, h1, h2, ?_⟩
    refine Calls.callWith_builtin rfl (PySem.evalArgs_none ?_)
    exact hm _ pins s1 σ H1 vx [] v [] Q I1 r1 .nil ⟨m1, S1, x, [], rp1, d1, RDs.nil, po1⟩
  · exact po1.elim

/-! ### append, extend, pop, insert -/
def gAppend (d : D) (ds : List D) (S : Hs) : R D := match ds with
  | [y] => match mL S d with
    | some (n, xs) => if xs.length < sizeLine then .ok .non (S.set n (.lst (xs ++ [y]))) else .stuck
    | none => .stuck
  | _ => .stuck
theorem md_append : MtD X T "list.append" gAppend := by
  intro W' pins s σ H x xs v us Q I r rs h
  obtain ⟨m, S, d, ds, rp, rd, rds, po⟩ := h
  unfold gAppend at po
  split at po
  · rename_i y
    obtain ⟨w, rfl, hy⟩ := rds1 rds
    split at po
    · rename_i n ys hL
      split at po
      · rename_i hz
        obtain ⟨a, vs, rfl, e1, e2, r1⟩ := mL_at rp rd hL
        exact mt_append pins s σ H _ _ v us Q I r rs ⟨a, vs, w, rfl, rfl, e2, by rw [r1.len]; exact hz, po_upd rp e1 e2 trivial (o := .lst (ys ++ [y])) ⟨_, rfl, RDs.append r1 (RDs.cons hy RDs.nil)⟩ (by simp only [RD]) po⟩
      · exact po.elim
    · exact po.elim
  · exact po.elim
theorem mt_extendT {pins : List (Addr × Obj)} {s : Shared} {σ : L2.St} {H : Hp} {l b : Addr} {xs zs : List V} {its2 : List Value} {n2 : Nat} {Q : VK} (I : Inv X pins σ H s) (hH : H l = some (.lst xs)) (hB : s.heap.get? b = some (plT its2 n2)) (r2 : Vals zs its2) (hz : xs.length + zs.length ≤ sizeLine) (q : Q .non (upd H l (.lst (xs ++ zs)))) :
    wpAny (model X.prog X.w) X.A (call (.builtin "list.extend") [.ref l, .ref b]) (EP X pins σ Q) X.xe s := by
  obtain ⟨z, its, n, r, hl, e⟩ := I.lstM hH
  have hl2 := r2.length
  have hsz : its.toArray.size + its2.toArray.size ≤ sizeLine := by rw [List.size_toArray, List.size_toArray]; omega
  have hlong : ¬ (!its.toArray.isEmpty && Builtin.List.listTooLong (its.toArray.size + its2.toArray.size)) = true := by
    rw [notLongL hsz, Bool.and_false]
    exact Bool.false_ne_true
  refine call_meets F.slot_list_extend ⟨_, e, rfl⟩ F.entry_list_extend (F.args_list_extend_2 _ _)
    (AutoSeq1.list_extend_list_tuple_0 l its.toArray n b its2.toArray n2 hlong (by rw [List.size_toArray]; omega) (by omega)) ⟨e, hB, ?_⟩
  refine ⟨.non, _, I.lset (its' := its ++ its2) hH e (by simp) (r.append r2) ?_, rfl, q⟩
  rw [List.length_append]
  omega
theorem tpx_obj {pins : List (Addr × Obj)} {s : Shared} {σ : L2.St} {H : Hp} {m : Mm} {a : Addr} {vs : List V} (I : Inv X pins σ H s) (t : TpxAt X.K m H a vs) : ∃ its n, s.heap.get? a = some (plT its n) ∧ Vals vs its := by
  rcases t with ⟨its, n, h, _⟩ | ⟨its, n, h, _, r⟩
  · have ok := I.hok a _ h
    obtain ⟨h1, _, its2, r, o, h2, _, n2, h3⟩ := ok
    rw [h1] at h2
    cases h2
    have e : its = its2 := by
      have h4 : (Data.seq its.toArray n) = .seq its2.toArray n2 := h3
      injection h4 with h5 _
      exact List.toArray_inj h5
    subst e
    exact ⟨its, n, h1, r⟩
  · exact ⟨its, n, I.kIn _ _ h, r⟩
def gExtend (d : D) (ds : List D) (S : Hs) : R D := match ds with
  | [y] => match mL S d with
    | some (n, xs) => match y with
      | .tpx zs => if xs.length + zs.length ≤ sizeLine then .ok .non (S.set n (.lst (xs ++ zs))) else .stuck
      | y => match lOf S y with
        | some zs => if xs.length + zs.length ≤ sizeLine then .ok .non (S.set n (.lst (xs ++ zs))) else .stuck
        | none => .stuck
    | none => .stuck
  | _ => .stuck
theorem md_extend : MtD X T "list.extend" gExtend := by
  intro W' pins s σ H x xs v us Q I r rs h
  obtain ⟨m, S, d, ds, rp, rd, rds, po⟩ := h
  unfold gExtend at po
  split at po
  · rename_i y
    obtain ⟨w, rfl, hy⟩ := rds1 rds
    split at po
    · rename_i n ys hL
      obtain ⟨a, vs, rfl, e1, e2, r1⟩ := mL_at rp rd hL
      split at po
      · rename_i zs
        split at po
        · rename_i hz
          simp only [RD] at hy
          obtain ⟨b, ws, rfl, t, r2⟩ := hy
          cases r
          obtain ⟨u, rfl, ru⟩ := rs.one
          cases ru
          obtain ⟨its2, n2, h1, h2⟩ := tpx_obj I t
          exact mt_extendT I e2 h1 h2 (by rw [r1.len, r2.len]; exact hz) (po_upd rp e1 e2 trivial (o := .lst (ys ++ zs)) ⟨_, rfl, RDs.append r1 r2⟩ (by simp only [RD]) po)
        · exact po.elim
      · split at po
        · rename_i zs hzs
          split at po
          · rename_i hz
            obtain ⟨b, ws, rfl, f1, r2⟩ := lOf_at rp hy hzs
            exact mt_extend pins s σ H _ _ v us Q I r rs ⟨a, b, vs, ws, rfl, rfl, e2, f1, by rw [r1.len, r2.len]; exact hz, po_upd rp e1 e2 trivial (o := .lst (ys ++ zs)) ⟨_, rfl, RDs.append r1 r2⟩ (by simp only [RD]) po⟩
          · exact po.elim
        · exact po.elim
    · exact po.elim
  · exact po.elim
theorem RDs.eraseIdx {K : Frag} {m : Mm} {H : Hp} : ∀ {ds : List D} {vs : List V} (i : Nat), RDs K m H ds vs → RDs K m H (ds.eraseIdx i) (vs.eraseIdx i)
  | [], _, _, h => by simp only [RDs] at h; subst h; simp only [List.eraseIdx_nil]; exact RDs.nil
  | d :: ds, vs, 0, h => by
    simp only [RDs] at h
    obtain ⟨v, r, e, h1, h2⟩ := h
    subst e
    exact h2
  | d :: ds, vs, i + 1, h => by
    simp only [RDs] at h
    obtain ⟨v, r, e, h1, h2⟩ := h
    subst e
    exact RDs.cons h1 (RDs.eraseIdx i h2)
theorem RDs.dropLast {K : Frag} {m : Mm} {H : Hp} {ds : List D} {vs : List V} (h : RDs K m H ds vs) : RDs K m H ds.dropLast vs.dropLast := by
  rw [List.dropLast_eq_take, List.dropLast_eq_take, h.len]
  exact RDs.take _ h
def gPop (d : D) (ds : List D) (S : Hs) : R D := match mL S d with
  | some (n, xs) => match ds with
    | [] => match xs[xs.length - 1]? with
      | some y => .ok y (S.set n (.lst xs.dropLast))
      | none => .stuck
    | [.int i] => if -(2 ^ 63) ≤ i ∧ i < 2 ^ 63 then match seqIndex? i xs.length with
        | some k => match xs[k]? with
          | some y => .ok y (S.set n (.lst (xs.eraseIdx k)))
          | none => .stuck
        | none => .stuck
      else .stuck
    | _ => .stuck
  | none => .stuck
theorem md_pop : MtD X T "list.pop" gPop := by
  intro W' pins s σ H x xs v us Q I r rs h
  obtain ⟨m, S, d, ds, rp, rd, rds, po⟩ := h
  unfold gPop at po
  split at po
  · rename_i n ys hL
    obtain ⟨a, vs, rfl, e1, e2, r1⟩ := mL_at rp rd hL
    split at po
    · split at po
      · rename_i y hy
        simp only [RDs] at rds
        subst rds
        obtain ⟨w, hw, rw_⟩ := r1.get hy
        exact mt_pop pins s σ H _ _ v us Q I r rs ⟨a, vs, w, rfl, rfl, e2, by rw [r1.len]; exact hw, po_upd rp e1 e2 trivial (o := .lst ys.dropLast) ⟨_, rfl, r1.dropLast⟩ rw_ po⟩
      · exact po.elim
    · rename_i i
      split at po
      · rename_i hi
        split at po
        · rename_i k hk
          split at po
          · rename_i y hy
            obtain ⟨w0, rfl, hw0⟩ := rds1 rds
            cases (show w0 = .int i from hw0)
            obtain ⟨w, hw, rw_⟩ := r1.get hy
            exact mt_popAt pins s σ H _ _ v us Q I r rs ⟨a, vs, i, k, w, rfl, rfl, e2, hi.1, hi.2, by rw [r1.len]; exact hk, hw, po_upd rp e1 e2 trivial (o := .lst (ys.eraseIdx k)) ⟨_, rfl, RDs.eraseIdx k r1⟩ rw_ po⟩
          · exact po.elim
        · exact po.elim
      · exact po.elim
    · exact po.elim
  · exact po.elim
def gInsert (d : D) (ds : List D) (S : Hs) : R D := match ds with
  | [.int i, y] => match mL S d with
    | some (n, xs) => if xs.length < sizeLine ∧ 0 ≤ i ∧ i < 2 ^ 63 then .ok .non (S.set n (.lst (xs.take i.toNat ++ [y] ++ xs.drop i.toNat))) else .stuck
    | none => .stuck
  | _ => .stuck
theorem md_insert : MtD X T "list.insert" gInsert := by
  intro W' pins s σ H x xs v us Q I r rs h
  obtain ⟨m, S, d, ds, rp, rd, rds, po⟩ := h
  unfold gInsert at po
  split at po
  · rename_i i y
    obtain ⟨w0, w, rfl, hw0, hy⟩ := rds2 rds
    cases (show w0 = .int i from hw0)
    split at po
    · rename_i n ys hL
      split at po
      · rename_i hz
        obtain ⟨a, vs, rfl, e1, e2, r1⟩ := mL_at rp rd hL
        exact mt_insert pins s σ H _ _ v us Q I r rs ⟨a, vs, i, w, rfl, rfl, e2, by rw [r1.len]; exact hz.1, hz.2.1, hz.2.2,
          po_upd rp e1 e2 trivial (o := .lst (ys.take i.toNat ++ [y] ++ ys.drop i.toNat)) ⟨_, rfl, RDs.append (RDs.append (RDs.take _ r1) (RDs.cons hy RDs.nil)) (RDs.drop _ r1)⟩ (by simp only [RD]) po⟩
      · exact po.elim
    · exact po.elim
  · exact po.elim
/-! ### index -/
def idxV (w : V) : List V → Option Nat
  | [] => none
  | z :: zs => if eqV z w = true then some 0 else (idxV w zs).map (· + 1)
theorem idxV_at {w : V} : ∀ {zs : List V} {j : Nat}, idxV w zs = some j → ∃ z, zs[j]? = some z ∧ eqV z w = true ∧ ∀ (m : Nat) (z' : V), m < j → zs[m]? = some z' → eqV z' w = false
  | [], _, h => by simp only [idxV] at h; cases h
  | z :: zs, j, h => by
    simp only [idxV] at h
    split at h
    · rename_i e
      cases h
      exact ⟨z, rfl, e, fun m _ hm => absurd hm (Nat.not_lt_zero m)⟩
    · rename_i e
      cases q : idxV w zs with
      | none => rw [q] at h; cases h
      | some k =>
        rw [q] at h
        cases h
        obtain ⟨u, h1, h2, h3⟩ := idxV_at q
        refine ⟨u, by simpa using h1, h2, fun m z' hm hz => ?_⟩
        cases m with
        | zero => simp at hz; subst hz; simpa using e
        | succ m => exact h3 m z' (Nat.lt_of_succ_lt_succ hm) (by simpa using hz)
def gIndex (d : D) (ds : List D) (S : Hs) : R D := match ds with
  | [y] => match sOf S d with
    | .l xs => match fv y with
      | some w => match fvs xs with
        | some ws => match idxV w ws with
          | some j => .ok (.int (j : Nat)) S
          | none => .stuck
        | none => .stuck
      | none => .stuck
    | _ => .stuck
  | _ => .stuck
theorem md_index : MtD X T "list.index" gIndex := by
  intro W' pins s σ H x xs v us Q I r rs h
  obtain ⟨m, S, d, ds, rp, rd, rds, po⟩ := h
  unfold gIndex at po
  split at po
  · rename_i y
    obtain ⟨w0, rfl, hy⟩ := rds1 rds
    split at po
    · rename_i ys hL
      split at po
      · rename_i w hw
        split at po
        · rename_i ws hws
          split at po
          · rename_i j hj
            obtain ⟨a, vs, rfl, e1, r1⟩ := sOf_l rp rd hL
            obtain ⟨rfl, f1⟩ := fv_rd hy hw
            obtain ⟨rfl, f2⟩ := fvs_rd r1 hws
            obtain ⟨z, h1, h2, h3⟩ := idxV_at hj
            exact mt_index pins s σ H _ _ v us Q I r rs ⟨a, _, _, j, z, rfl, rfl, e1, f1, f2, h1, h2, h3, po_val rp (by simp only [RD]) po⟩
          · exact po.elim
        · exact po.elim
      · exact po.elim
    · exact po.elim
  · exact po.elim
def strsD : List D → Option (List Str)
  | [] => some []
  | .str z :: ds => match strsD ds with
    | some zs => some (z :: zs)
    | none => none
  | _ :: _ => none
def intsD : List D → Option (List Int)
  | [] => some []
  | .int z :: ds => match intsD ds with
    | some zs => some (z :: zs)
    | none => none
  | _ :: _ => none
theorem strsD_rd {K : Frag} {m : Mm} {H : Hp} : ∀ {ds : List D} {vs : List V} {zs : List Str}, RDs K m H ds vs → strsD ds = some zs → vs = zs.map V.str
  | [], vs, bs, h, e => by simp only [RDs] at h; simp only [strsD] at e; cases e; exact h
  | d :: ds, vs, bs, h, e => by
    simp only [RDs] at h
    obtain ⟨v, r, rfl, h1, h2⟩ := h
    cases d <;> simp only [strsD] at e <;> try cases e
    split at e
    · rename_i cs hc
      cases e
      rw [strsD_rd h2 hc, List.map_cons, show v = _ from h1]
    · cases e
theorem intsD_rd {K : Frag} {m : Mm} {H : Hp} : ∀ {ds : List D} {vs : List V} {zs : List Int}, RDs K m H ds vs → intsD ds = some zs → vs = zs.map V.int
  | [], vs, bs, h, e => by simp only [RDs] at h; simp only [intsD] at e; cases e; exact h
  | d :: ds, vs, bs, h, e => by
    simp only [RDs] at h
    obtain ⟨v, r, rfl, h1, h2⟩ := h
    cases d <;> simp only [intsD] at e <;> try cases e
    split at e
    · rename_i cs hc
      cases e
      rw [intsD_rd h2 hc, List.map_cons, show v = _ from h1]
    · cases e
def gTIndex (d : D) (ds : List D) (S : Hs) : R D := match d, ds with
  | .tpx xs, [.str z] => match strsD xs with
    | some zs => if z ∈ zs then .ok (.int (zs.idxOf z : Nat)) S else .stuck
    | none => .stuck
  | .tpx xs, [.int k] => match intsD xs with
    | some zs => if k ∈ zs then .ok (.int (zs.idxOf k : Nat)) S else .stuck
    | none => .stuck
  | _, _ => .stuck
theorem md_tindex : MtD X T "tuple.index" gTIndex := by
  intro W' pins s σ H x xs v us Q I r rs h
  obtain ⟨m, S, d, ds, rp, rd, rds, po⟩ := h
  unfold gTIndex at po
  split at po
  · rename_i ys z
    obtain ⟨w0, rfl, hy⟩ := rds1 rds
    cases (show w0 = .str z from hy)
    split at po
    · rename_i zs hzs
      split at po
      · rename_i hm
        simp only [RD] at rd
        obtain ⟨a, vs, rfl, t, r1⟩ := rd
        cases r
        obtain ⟨u, rfl, k, rfl⟩ := rs.one
        obtain ⟨its, n, h1, h2⟩ := tpx_obj I t
        have e := strsD_rd r1 hzs
        subst e
        exact PySem.SeqAt.tuple_index_strs (vs := its) ⟨_, h1, rfl, n, rfl⟩ h2.strs hm ⟨.int _, H, I.tok _, ⟨_, rfl⟩, po_val rp (by simp only [RD]) po⟩
      · exact po.elim
    · exact po.elim
  · rename_i ys z
    obtain ⟨w0, rfl, hy⟩ := rds1 rds
    cases (show w0 = .int z from hy)
    split at po
    · rename_i zs hzs
      split at po
      · rename_i hm
        simp only [RD] at rd
        obtain ⟨a, vs, rfl, t, r1⟩ := rd
        cases r
        obtain ⟨u, rfl, k, rfl⟩ := rs.one
        obtain ⟨its, n, h1, h2⟩ := tpx_obj I t
        have e := intsD_rd r1 hzs
        subst e
        exact PySem.SeqAt.tuple_index_ints (vs := its) ⟨_, h1, rfl, n, rfl⟩ h2.ints hm ⟨.int _, H, I.tok _, ⟨_, rfl⟩, po_val rp (by simp only [RD]) po⟩
      · exact po.elim
    · exact po.elim
  · exact po.elim
/-! ### texts -/
def gSIndex (d : D) (ds : List D) (S : Hs) : R D := match d, ds with
  | .str a, [.str b] => match Builtin.Str.occurrences a b 0 a.length 1 with
    | i :: _ => .ok (.int (i : Nat)) S
    | [] => .stuck
  | _, _ => .stuck
theorem md_sindex : MtD X T "str.index" gSIndex := by
  intro W' pins s σ H x xs v us Q I r rs h
  obtain ⟨m, S, d, ds, rp, rd, rds, po⟩ := h
  unfold gSIndex at po
  split at po
  · rename_i a b
    obtain ⟨w0, rfl, hy⟩ := rds1 rds
    cases (show w0 = .str b from hy)
    cases (show x = .str a from rd)
    split at po
    · rename_i i rest ho
      exact mt_sindex pins s σ H _ _ v us Q I r rs ⟨a, b, i, rest, rfl, rfl, ho, po_val rp (by simp only [RD]) po⟩
    · exact po.elim
  · exact po.elim
theorem strs_rds {K : Frag} {m : Mm} {H : Hp} : ∀ ys : List Str, RDs K m H (ys.map D.str) (ys.map V.str)
  | [] => RDs.nil
  | y :: ys => RDs.cons (by simp only [RD]) (strs_rds ys)
def gSplit (mt : Bool) (d : D) (ds : List D) (S : Hs) : R D := match d, ds with
  | .str a, [.str b] => if (b.length == 0) = false ∧ a.length + 2 ≤ sizeLine then nwl mt ((Txt.split a b).map D.str) S else .stuck
  | _, _ => .stuck
theorem md_split {mt : Bool} : MtD X T "str.split" (gSplit mt) := by
  intro W' pins s σ H x xs v us Q I r rs h
  obtain ⟨m, S, d, ds, rp, rd, rds, po⟩ := h
  unfold gSplit at po
  split at po
  · rename_i a b
    obtain ⟨w0, rfl, hy⟩ := rds1 rds
    cases (show w0 = .str b from hy)
    cases (show x = .str a from rd)
    split at po
    · rename_i hz
      exact mt_split pins s σ H _ _ v us Q I r rs ⟨a, b, rfl, rfl, hz.1, hz.2, po_nwl rp (strs_rds _) po⟩
    · exact po.elim
  · exact po.elim
end
end Pv

set_option maxHeartbeats 4000000
/-! Pv8: attributes, calls of the text's defs, methods, new instances. -/
namespace Pv
open PySem PySem.Spec PyProof.Rows L2

/-! ### instances -/
def iOf (S : Hs) : D → Option (Nat × Str × List (Str × D))
  | .ref n => match S[n]? with
    | some (.ins C fs) => some (n, C, fs)
    | _ => none
  | _ => none
def putD (f : Str) (d : D) : List (Str × D) → List (Str × D)
  | [] => [(f, d)]
  | (g, x) :: r => if g = f then (g, d) :: r else (g, x) :: putD f d r
section
variable {K : Frag} {T : List (Addr × Str)} {m m1 : Mm} {H H1 : Hp} {S : Hs} {d : D} {v : V}
theorem iOf_at {n : Nat} {C : Str} {fs : List (Str × D)} (rp : Rep K T m S H) (rd : RD K m H d v) (e : iOf S d = some (n, C, fs)) :
    ∃ a dx vs, v = .ref a ∧ m.v[n]? = some a ∧ H a = some (.ins (He.ga K C) dx ((fs.map (·.1)).zip vs)) ∧ RDs K m H (fs.map (·.2)) vs := by
  unfold iOf at e
  split at e
  · split at e
    · rename_i q
      cases e
      obtain ⟨a, ho, h1, h2, h3, dx, vs, rfl, r⟩ := ref_at rp rd q
      exact ⟨a, dx, vs, h1, h2, h3, r⟩
    · cases e
  · cases e
theorem fld_at {f : Str} : ∀ {fs : List (Str × D)} {vs : List V}, RDs K m H (fs.map (·.2)) vs → match fs.lookup f with
    | some d => ∃ v, ((fs.map (·.1)).zip vs).lookup f = some v ∧ RD K m H d v
    | none => ((fs.map (·.1)).zip vs).lookup f = none
  | [], vs, _ => rfl
  | (g, x) :: r, vs, h => by
    rw [List.map_cons] at h
    simp only [RDs] at h
    obtain ⟨v, u, rfl, h1, h2⟩ := h
    rw [List.map_cons, List.zip_cons_cons, List.lookup_cons, List.lookup_cons]
    have ih := fld_at (f := f) h2
    cases q : f == g with
    | true => exact ⟨v, rfl, h1⟩
    | false => exact ih
theorem fld_some {f : Str} {fs : List (Str × D)} {vs : List V} {d : D} (r : RDs K m H (fs.map (·.2)) vs) (e : fs.lookup f = some d) : ∃ v, ((fs.map (·.1)).zip vs).lookup f = some v ∧ RD K m H d v := by
  have h := fld_at (f := f) r
  rw [e] at h
  exact h
theorem fld_none {f : Str} {fs : List (Str × D)} {vs : List V} (r : RDs K m H (fs.map (·.2)) vs) (e : fs.lookup f = none) : ((fs.map (·.1)).zip vs).lookup f = none := by
  have h := fld_at (f := f) r
  rw [e] at h
  exact h
theorem put_at {f : Str} (hd : RD K m H d v) : ∀ {fs : List (Str × D)} {vs : List V}, RDs K m H (fs.map (·.2)) vs → ∃ ws, putF f v ((fs.map (·.1)).zip vs) = ((putD f d fs).map (·.1)).zip ws ∧ RDs K m H ((putD f d fs).map (·.2)) ws
  | [], vs, h => by
    simp only [List.map_nil, RDs] at h
    subst h
    exact ⟨[v], rfl, RDs.cons hd RDs.nil⟩
  | (g, x) :: r, vs, h => by
    rw [List.map_cons] at h
    simp only [RDs] at h
    obtain ⟨u, us, rfl, h1, h2⟩ := h
    rw [List.map_cons, List.zip_cons_cons]
    simp only [putF, putD]
    by_cases e : g = f
    · rw [if_pos e, if_pos e]
      exact ⟨v :: us, rfl, RDs.cons hd h2⟩
    · rw [if_neg e, if_neg e]
      obtain ⟨ws, e1, r1⟩ := put_at hd (f := f) h2
      exact ⟨u :: ws, by rw [e1]; rfl, RDs.cons h1 r1⟩
end
/-! ### what is known of the text's classes -/
def ClsOk (K : Frag) (C : Str) (f : Str) : Prop := Cls K (He.ga K C) ∧ NoAttr K (He.ga K C) f
def mFld (Cs : List Str) (f : Str) (fo : Ev → Hs → R D) : Ev → Hs → R D := fun ρ S => (fo ρ S).bind fun x S1 => match iOf S1 x with
  | some (_, C, fs) => if C ∈ Cs then oR (fs.lookup f) S1 else .stuck
  | none => .stuck
section
variable {X : Cx} {T : List (Addr × Str)} {W : WX} {e o : Expr} {es : List Expr} {fe fo : Ev → Hs → R D} {fs : Ev → Hs → R (List D)} {f : Str} {pos : Pos}
theorem re_fld {Cs : List Str} (he : RE X T W e fe) (hb : attributeBase e f X.env (eval e X.env) = eval e X.env) (hc : ∀ C ∈ Cs, ClsOk X.K C f) : RE X T W (.Attribute e f pos) (mFld Cs f fe) := by
  refine ⟨fun pins s σ H Q I h => (pe_fld he hb).run pins s σ H Q I ?_⟩
  obtain ⟨m, ρ, S, rp, rv, po⟩ := tG_bind (rel := RD X.K) h
  refine ⟨m, ρ, S, rp, rv, po.mono fun v H1 ⟨m1, ρ1, S1, x, rp1, rv1, rd, po1⟩ => ?_⟩
  split at po1
  · rename_i n C fl hi
    split at po1
    · rename_i hC
      obtain ⟨d, hd, po1⟩ := po_oR po1
      obtain ⟨a, dx, vs, rfl, e1, e2, r1⟩ := iOf_at rp1 rd hi
      obtain ⟨w, e3, e4⟩ := fld_some r1 hd
      exact ⟨a, _, dx, _, w, rfl, e2, (hc C hC).1, (hc C hC).2, e3, po_val rp1 e4 po1⟩
    · exact po1.elim
  · exact po1.elim

/-! ### promises -/
def Spf (K : Frag) (T : List (Addr × Str)) (n : Nat) (g : List D → Hs → R D) : Sp := fun vs H Q E => ∃ m S ds, Rep K T m S H ∧ RDs K m H ds vs ∧ ds.length = n ∧ Po K T (RD K) m H (g ds S) Q (fun c d H' => E c d H')
/-- what a context knows of a def: where it stands, how it binds, what it does -/
structure FnK (P : Program) (w : World) (K : Frag) (mg : Str → Option Value) (base : Heap) (T : List (Addr × Str)) (k : Nat) (a : Addr) (n : Nat) (dv : List D) (g : List D → Hs → R D) : Prop where
  kp : PySem.W.keepIn K (.ref a) = true
  ar : ∀ ds S, g ds S ≠ .stuck → ds.length = n
  ok : ∃ (fd : FuncData) (ps : List Str) (ds : List Value) (dvs : List V), ps.length = n ∧ FnOk P w K mg base (CX P w) k a fd ps (Spf K T n g) ∧ Binds K fd ps ds ∧ Vals dvs ds ∧ (∀ m H, RDs K m H dv dvs) ∧ Binds K fd ps ds
theorem run_fnD {k n : Nat} {a : Addr} {dv : List D} {g : List D → Hs → R D} {pins : List (Addr × Obj)} {σ : L2.St} {H : Hp} {s : Shared} {Q : VK} {us : List Value} {vs : List V} {m : Mm} {S : Hs} {xs : List D}
    (F : FnK X.prog X.w X.K X.mg X.base T k a n dv g) (hr : Room k X.A) (tk : Takes X W) (I : Inv X pins σ H s) (r : Vals vs us) (rp : Rep X.K T m S H) (rd : RDs X.K m H xs vs) (po : Po X.K T (RD X.K) m H (g (xs ++ dv) S) Q (fun c d H' => W c d σ H')) :
    wpAny (model X.prog X.w) X.A (call (.ref a) us) (EP X pins σ Q) X.xe s := by
  obtain ⟨fd, ps, ds, dvs, hn, F0, hb, hd, hv, _⟩ := F.ok
  have hl2 : (xs ++ dv).length = n := F.ar _ S (fun z => by rw [z] at po; exact po)
  have h : Spf X.K T n g (vs ++ dvs) H Q (fun c d H' => W c d σ H') := ⟨m, S, xs ++ dv, rp, RDs.append rd (hv m H), hl2, po⟩
  have r2 : Vals (vs ++ dvs) (us ++ ds) := r.append hd
  have hl : (us ++ ds).length = ps.length := by rw [← r2.length]; exact F0.len _ _ _ _ h
  refine wpAny_call (codeAny_mono (F0.run X.A X.stack s H ⟨us, []⟩ (us ++ ds) (vs ++ dvs) Q _ hr I.env0 (hb s us I.kIn hl) r2 h) fun r s' hq => ?_)
  cases r with
  | error e => exact tk e s' (XE.of_call I (fun _ _ _ h => h) hq)
  | ok fl =>
    cases fl with
    | ret u => exact I.after hq
    | next => exact False.elim hq
    | brk => exact False.elim hq
    | cont => exact False.elim hq
def mFn (g : List D → Hs → R D) (dv : List D) (fs : Ev → Hs → R (List D)) : Ev → Hs → R D := fun ρ S => (fs ρ S).bind fun xs S1 => g (xs ++ dv) S1
theorem re_call {k n : Nat} {a : Addr} {dv : List D} {g : List D → Hs → R D} {x : Str} {p : Pos} (F : FnK X.prog X.w X.K X.mg X.base T k a n dv g) (hr : Room k X.A) (tk : Takes X W) (hg : Gl X x) (hm : X.mg x = some (.ref a)) (ha : RA X T W (e :: es) fs)
    (hdb : (x == ("__debug__" : Str)) = false) (he : starEach (e :: es) X.env = (false, eval e X.env) :: starEach es X.env) (hpl : (backTo pos (starEach es X.env)).any (·.1) = false) : RE X T W (.Call (.Name x p) (e :: es) [] pos) (mFn g dv fs) := by
  refine ⟨fun pins s σ H Q I h => ?_⟩
  obtain ⟨m, ρ, S, rp, rv, po⟩ := tG_bind (rel := RDs X.K) h
  refine wpAny_Call_Name_kw (ld_glob I hg hm ?_ hdb)
  refine PySem.W.callWith_K (h₀ := X.base) I.ok.mod.kin F.kp (thn (ha.run pos pins s σ H _ I ⟨m, ρ, S, rp, rv, po⟩) fun us s1 ⟨vs, H1, I1, r, m1, ρ1, S1, xs, rp1, rv1, rds, po1⟩ => ⟨I1.kIn, ?_⟩) he hpl
  exact run_fnD F hr tk I1 r rp1 rds po1
theorem re_call0 {k n : Nat} {a : Addr} {dv : List D} {g : List D → Hs → R D} {x : Str} {p : Pos} (F : FnK X.prog X.w X.K X.mg X.base T k a n dv g) (hr : Room k X.A) (tk : Takes X W) (hg : Gl X x) (hm : X.mg x = some (.ref a))
    (hdb : (x == ("__debug__" : Str)) = false) : RE X T W (.Call (.Name x p) [] [] pos) (mFn g dv mNilA) := by
  refine ⟨fun pins s σ H Q I h => ?_⟩
  obtain ⟨m, ρ, S, rp, rv, po⟩ := h
  refine wpAny_Call_Name_kw (ld_glob I hg hm ?_ hdb)
  exact PySem.W.callWith_K0 I.kIn F.kp (run_fnD (us := []) (vs := []) (xs := []) F hr tk I .nil rp RDs.nil po)
/-! ### methods -/
def mMeth (C m : Str) (g : List D → Hs → R D) (dv : List D) (fo : Ev → Hs → R D) (fs : Ev → Hs → R (List D)) : Ev → Hs → R D := fun ρ S => (fo ρ S).bind fun x S1 => match iOf S1 x with
  | some (_, C', fl) => if C' = C ∧ fl.lookup m = none then (fs ρ S1).bind fun xs S2 => g ((x :: xs) ++ dv) S2 else .stuck
  | none => .stuck
structure MtK (K : Frag) (C m : Str) (a : Addr) : Prop where
  cls : Cls K (He.ga K C)
  mt : Meth K (He.ga K C) m a
theorem re_meth {pl : Sem Bool} {k n : Nat} {a : Addr} {dv : List D} {g : List D → Hs → R D} {C mn : Str} {apos : Pos} (F : FnK X.prog X.w X.K X.mg X.base T k a n dv g) (M : MtK X.K C mn a) (hr : Room k X.A) (tk : Takes X W) (ho : RE X T W o fo) (ha : RA X T W (e :: es) fs)
    (hst : starEach (e :: es) X.env = (false, eval e X.env) :: starEach es X.env) (hpl : (backTo pos (starEach es X.env)).any (·.1) = false)
    (ht : eval (.Call (.Attribute o mn apos) (e :: es) [] pos) X.env = (do
      let ov ← eval o X.env
      standAt apos.atName
      let (f, first) ← holding [ov] (getMethod ov mn pl)
      callWith pos f first (backTo pos (starEach (e :: es) X.env)) (backToKw pos (keywordEach [] X.env)))) : RE X T W (.Call (.Attribute o mn apos) (e :: es) [] pos) (mMeth C mn g dv fo fs) := by
  refine ⟨fun pins s σ H Q I h => ?_⟩
  obtain ⟨m, ρ, S, rp, rv, po⟩ := h
  refine PySem.W.methodCall_KW (pl := pl) (thn (seqE ho I rp rv po) fun u s1 ⟨x, vx, S1, m1, H1, I1, r1, rp1, rv1, g1, d1, po1⟩ => ?_) ht
  split at po1
  · rename_i n' C' fl hi
    split at po1
    · rename_i hC
      obtain ⟨hC, hl⟩ := hC
      subst hC
      obtain ⟨b, dx, vs, rfl, e1, e2, rr⟩ := iOf_at rp1 d1 hi
      cases r1
      refine getmeth_ok I1 e2 M.cls M.mt (fld_none rr hl) ?_
      refine PySem.W.callWith_K (first := [.ref b]) (h₀ := X.base) I.ok.mod.kin F.kp (thn (ha.run pos pins s1 σ H1 _ I1 ⟨m1, ρ, S1, rp1, rv1, Po.bind (rel := RDs X.K) po1⟩) fun us s2 ⟨ws, H2, I2, r, xs, S2, m2, _, g2, rp2, rds, po2⟩ => ⟨I2.kIn, ?_⟩) hst hpl
      exact run_fnD (us := .ref b :: us) (vs := .ref b :: ws) (xs := x :: xs) F hr tk I2 (.cons rfl r) rp2 (RDs.cons (RD.grow g2 d1) rds) po2
    · exact po1.elim
  · exact po1.elim
theorem re_meth0 {pl : Sem Bool} {k n : Nat} {a : Addr} {dv : List D} {g : List D → Hs → R D} {C mn : Str} {apos : Pos} (F : FnK X.prog X.w X.K X.mg X.base T k a n dv g) (M : MtK X.K C mn a) (hr : Room k X.A) (tk : Takes X W) (ho : RE X T W o fo)
    (ht : eval (.Call (.Attribute o mn apos) [] [] pos) X.env = (do
      let ov ← eval o X.env
      standAt apos.atName
      let (f, first) ← holding [ov] (getMethod ov mn pl)
      callWith pos f first (backTo pos (starEach [] X.env)) (backToKw pos (keywordEach [] X.env)))) : RE X T W (.Call (.Attribute o mn apos) [] [] pos) (mMeth C mn g dv fo mNilA) := by
  refine ⟨fun pins s σ H Q I h => ?_⟩
  obtain ⟨m, ρ, S, rp, rv, po⟩ := h
  refine PySem.W.methodCall_KW (pl := pl) (thn (seqE ho I rp rv po) fun u s1 ⟨x, vx, S1, m1, H1, I1, r1, rp1, rv1, g1, d1, po1⟩ => ?_) ht
  split at po1
  · rename_i n' C' fl hi
    split at po1
    · rename_i hC
      obtain ⟨hC, hl⟩ := hC
      subst hC
      obtain ⟨b, dx, vs, rfl, e1, e2, rr⟩ := iOf_at rp1 d1 hi
      cases r1
      refine getmeth_ok I1 e2 M.cls M.mt (fld_none rr hl) ?_
      exact PySem.W.callWith_K0 (first := [.ref b]) I1.kIn F.kp (run_fnD (us := [.ref b]) (vs := [.ref b]) (xs := [x]) F hr tk I1 (.cons rfl .nil) rp1 (RDs.cons d1 RDs.nil) po1)
    · exact po1.elim
  · exact po1.elim
/-! ### new instances -/
def mMk (C : Str) (g : List D → Hs → R D) (dv : List D) (fs : Ev → Hs → R (List D)) : Ev → Hs → R D := fun ρ S => (fs ρ S).bind fun xs S1 => (g ((.ref S1.length :: xs) ++ dv) (S1 ++ [.ins C []])).bind fun r S2 => match r with
  | .non => .ok (.ref S1.length) S2
  | _ => .stuck
theorem run_mkD {k n : Nat} {a : Addr} {dv : List D} {g : List D → Hs → R D} {C : Str} {pins : List (Addr × Obj)} {σ : L2.St} {H : Hp} {s : Shared} {Q : VK} {us : List Value} {vs : List V} {m : Mm} {S : Hs} {xs : List D}
    (F : FnK X.prog X.w X.K X.mg X.base T k a n dv g) (M : Mk X.K (He.ga X.K C) a) (hr : Room (k + 1) X.A) (tk : Takes X W) (I : Inv X pins σ H s) (r : Vals vs us) (rp : Rep X.K T m S H) (rd : RDs X.K m H xs vs)
    (po : Po X.K T (RD X.K) m H ((g ((.ref S.length :: xs) ++ dv) (S ++ [.ins C []])).bind fun r S2 => match r with
      | .non => .ok (.ref S.length) S2
      | _ => .stuck) Q (fun c d H' => W c d σ H')) :
    wpAny (model X.prog X.w) X.A (call (.ref (He.ga X.K C)) us) (EP X pins σ Q) X.xe s := by
  obtain ⟨fd, ps, ds, dvs, hn, F0, hb, hd, hv, _⟩ := F.ok
  have hx0 : H (s.heap.objs.size + 1) = none := I.hok.fresh (Nat.le_succ _)
  have hd0 : H s.heap.objs.size = none := I.hok.fresh (Nat.le_refl _)
  have hne : s.heap.objs.size ≠ s.heap.objs.size + 1 := Nat.ne_of_lt (Nat.lt_succ_self _)
  have hx1 : upd H s.heap.objs.size (.own (s.heap.objs.size + 1)) (s.heap.objs.size + 1) = none := by rw [upd_ne (Ne.symm hne)]; exact hx0
  have rp1 : Rep X.K T m S (upd H s.heap.objs.size (.own (s.heap.objs.size + 1))) := rp.new hd0
  have g1 : Grow m H m (upd H s.heap.objs.size (.own (s.heap.objs.size + 1))) := Grow.new hd0
  have ro : RO X.K m (upd H s.heap.objs.size (.own (s.heap.objs.size + 1))) (.ins C []) (.ins (He.ga X.K C) s.heap.objs.size []) := ⟨s.heap.objs.size, [], rfl, RDs.nil⟩
  have rp2 := rp1.newM hx1 ro
  have g2 := g1.trans (Grow.newM (o := .ins (He.ga X.K C) s.heap.objs.size []) hx1)
  have rx : RD X.K (m.add [s.heap.objs.size + 1]) (upd (upd H s.heap.objs.size (.own (s.heap.objs.size + 1))) (s.heap.objs.size + 1) (.ins (He.ga X.K C) s.heap.objs.size [])) (.ref S.length) (.ref (s.heap.objs.size + 1)) := by
    simp only [RD]
    exact ⟨_, rfl, by rw [← rp.len]; simp⟩
  have po2 := Po.bind (rel := RD X.K) (Po.grow g2 po)
  have hl2 : ((D.ref S.length :: xs) ++ dv).length = n := F.ar _ _ (fun z => by rw [z] at po2; exact po2)
  have hq : Spf X.K T n g (.ref (s.heap.objs.size + 1) :: (vs ++ dvs)) (upd (upd H s.heap.objs.size (.own (s.heap.objs.size + 1))) (s.heap.objs.size + 1) (.ins (He.ga X.K C) s.heap.objs.size [])) (fun v H2 => v = .non ∧ Q (.ref (s.heap.objs.size + 1)) H2) (fun c d H' => W c d σ H') := by
    refine ⟨m.add [s.heap.objs.size + 1], S ++ [.ins C []], (.ref S.length :: xs) ++ dv, rp2, RDs.cons rx (RDs.append (RDs.grow g2 rd) (hv _ _)), hl2, po2.mono fun v H2 ⟨x, S2, m2, ee, g3, rp3, rd3, po3⟩ => ?_⟩
    clear ee
    cases x <;> try exact po3.elim
    exact ⟨rd3, po_val rp3 (RD.grow g3 rx) po3⟩
  have I2 := Inv.made (C := He.ga X.K C) I
  have r2 : Vals (V.ref (s.heap.objs.size + 1) :: (vs ++ dvs)) (Value.ref (s.heap.objs.size + 1) :: (us ++ ds)) := .cons rfl (r.append hd)
  have hl : (Value.ref (s.heap.objs.size + 1) :: us ++ ds).length = ps.length := by
    have e := r2.length
    rw [F0.len _ _ _ _ hq] at e
    exact e.symm
  refine wpAny_call (make_map (f := a) I.kIn M.makes M.init (beq_iff_eq.mp M.fn) (codeAny_mono (F0.run _ X.stack _ _ ⟨Value.ref (s.heap.objs.size + 1) :: us, []⟩ (Value.ref (s.heap.objs.size + 1) :: (us ++ ds)) _ _ _ (hr.make _ us [])
    (I2.env0.make _ us []) (hb _ (Value.ref (s.heap.objs.size + 1) :: us) I2.kIn hl) r2 hq) fun r s' hq' => ?_))
  cases r with
  | error e => exact tk e s' (XE.of_call I2 (fun _ _ _ h => h) hq')
  | ok fl =>
    cases fl with
    | ret u =>
      obtain ⟨v, H', I3, rv, ev, q3⟩ := I2.after hq'
      subst ev
      exact ⟨rv, ⟨V.ref (s.heap.objs.size + 1), H', I3, rfl, q3⟩⟩
    | next => exact False.elim hq'
    | brk => exact False.elim hq'
    | cont => exact False.elim hq'
theorem re_mk {k n : Nat} {a : Addr} {dv : List D} {g : List D → Hs → R D} {C : Str} {p : Pos} (F : FnK X.prog X.w X.K X.mg X.base T k a n dv g) (M : Mk X.K (He.ga X.K C) a) (hr : Room (k + 1) X.A) (tk : Takes X W) (hg : Gl X C) (hm : X.mg C = some (.ref (He.ga X.K C))) (ha : RA X T W (e :: es) fs)
    (hdb : (C == ("__debug__" : Str)) = false) (he : starEach (e :: es) X.env = (false, eval e X.env) :: starEach es X.env) (hpl : (backTo pos (starEach es X.env)).any (·.1) = false) : RE X T W (.Call (.Name C p) (e :: es) [] pos) (mMk C g dv fs) := by
  refine ⟨fun pins s σ H Q I h => ?_⟩
  obtain ⟨m, ρ, S, rp, rv, po⟩ := tG_bind (rel := RDs X.K) h
  refine wpAny_Call_Name_kw (ld_glob I hg hm ?_ hdb)
  refine PySem.W.callWith_K (h₀ := X.base) I.ok.mod.kin M.kp (thn (ha.run pos pins s σ H _ I ⟨m, ρ, S, rp, rv, po⟩) fun us s1 ⟨vs, H1, I1, r, m1, ρ1, S1, xs, rp1, rv1, rds, po1⟩ => ⟨I1.kIn, ?_⟩) he hpl
  exact run_mkD F M hr tk I1 r rp1 rds po1
theorem re_mk0 {k n : Nat} {a : Addr} {dv : List D} {g : List D → Hs → R D} {C : Str} {p : Pos} (F : FnK X.prog X.w X.K X.mg X.base T k a n dv g) (M : Mk X.K (He.ga X.K C) a) (hr : Room (k + 1) X.A) (tk : Takes X W) (hg : Gl X C) (hm : X.mg C = some (.ref (He.ga X.K C)))
    (hdb : (C == ("__debug__" : Str)) = false) : RE X T W (.Call (.Name C p) [] [] pos) (mMk C g dv mNilA) := by
  refine ⟨fun pins s σ H Q I h => ?_⟩
  obtain ⟨m, ρ, S, rp, rv, po⟩ := h
  refine wpAny_Call_Name_kw (ld_glob I hg hm ?_ hdb)
  exact PySem.W.callWith_K0 I.kIn M.kp (run_mkD (us := []) (vs := []) (xs := []) F M hr tk I .nil rp RDs.nil po)
end
end Pv

set_option maxHeartbeats 4000000
/-! Pv9: statements without loops. -/
namespace Pv
open PySem PySem.Spec PyProof.Rows L2

inductive SR where
  | nx (ρ : Ev) (S : Hs) | rt (d : D) (S : Hs) | bk (ρ : Ev) (S : Hs) | ct (ρ : Ev) (S : Hs)
  | exc (x : Str) (fs : List (Str × D)) (ρ : Ev) (S : Hs) | stuck
def R.toS {α : Type} (r : R α) (ρ : Ev) (k : α → Hs → SR) : SR := match r with
  | .ok a S => k a S
  | .exc x fs S => .exc x fs ρ S
  | .stuck => .stuck
def SR.andThen (r : SR) (g : Ev → Hs → SR) : SR := match r with
  | .nx ρ S => g ρ S
  | r => r
/-- r's end is wished of -/
def PoS (K : Frag) (T : List (Addr × Str)) (m : Mm) (H : Hp) (r : SR) (E : Ends) (W : WX) : Prop := match r with
  | .nx ρ S => ∀ σ m' H', Grow m H m' H' → Rep K T m' S H' → RV K m' H' ρ σ → E.nx σ H'
  | .rt d S => ∀ v m' H', Grow m H m' H' → Rep K T m' S H' → RD K m' H' d v → E.rt v H'
  | .bk ρ S => ∀ σ m' H', Grow m H m' H' → Rep K T m' S H' → RV K m' H' ρ σ → E.bk σ H'
  | .ct ρ S => ∀ σ m' H', Grow m H m' H' → Rep K T m' S H' → RV K m' H' ρ σ → E.ct σ H'
  | .exc x fs ρ S => ∀ σ cls dd m' H', Grow m H m' H' → Rep K T m' S H' → RV K m' H' ρ σ → RX K m' H' x fs cls dd → W cls dd σ H'
  | .stuck => False
section
variable {K : Frag} {T : List (Addr × Str)} {m m1 : Mm} {H H1 : Hp} {α β : Type} {rel : Mm → Hp → α → β → Prop} {E : Ends} {W : WX}
theorem PoS.grow {r : SR} (g : Grow m H m1 H1) (p : PoS K T m H r E W) : PoS K T m1 H1 r E W := by
  cases r with
  | nx ρ S => exact fun σ m' H' g' => p σ m' H' (g.trans g')
  | rt d S => exact fun σ m' H' g' => p σ m' H' (g.trans g')
  | bk ρ S => exact fun σ m' H' g' => p σ m' H' (g.trans g')
  | ct ρ S => exact fun σ m' H' g' => p σ m' H' (g.trans g')
  | exc x fs ρ S => exact fun σ c d m' H' g' => p σ c d m' H' (g.trans g')
  | stuck => exact p
theorem PoS.toS {r : R α} {ρ : Ev} {σ : L2.St} {k : α → Hs → SR} (rv : RV K m H ρ σ) (p : PoS K T m H (r.toS ρ k) E W) :
    Po K T rel m H r (fun v H1 => ∃ x S1 m1, Rep K T m1 S1 H1 ∧ RV K m1 H1 ρ σ ∧ Grow m H m1 H1 ∧ rel m1 H1 x v ∧ PoS K T m1 H1 (k x S1) E W) (fun c d H' => W c d σ H') := by
  cases r with
  | ok d S => exact fun v m' H' g rp h => ⟨d, S, m', rp, rv.grow g, g, h, PoS.grow g p⟩
  | exc x fs S => exact fun c d m' H' g rp h => p σ c d m' H' g rp (rv.grow g) h
  | stuck => exact p
theorem PoS.andThen {r : SR} {g : Ev → Hs → SR} (p : PoS K T m H (r.andThen g) E W) : PoS K T m H r { E with nx := fun σ H' => ∃ m' ρ S, Rep K T m' S H' ∧ RV K m' H' ρ σ ∧ PoS K T m' H' (g ρ S) E W } W := by
  cases r with
  | nx ρ S => exact fun σ m' H' g' rp rv => ⟨m', ρ, S, rp, rv, PoS.grow g' p⟩
  | rt d S => exact p
  | bk ρ S => exact p
  | ct ρ S => exact p
  | exc x fs ρ S => exact p
  | stuck => exact p
end
def tS (K : Frag) (T : List (Addr × Str)) (W : WX) (f : Ev → Hs → SR) : TS := fun E σ H => ∃ m ρ S, Rep K T m S H ∧ RV K m H ρ σ ∧ PoS K T m H (f ρ S) E W
def RS (X : Cx) (T : List (Addr × Str)) (W : WX) (st : Stmt) (f : Ev → Hs → SR) : Prop := PS X st (tS X.K T W f)
def RSs (X : Cx) (T : List (Addr × Str)) (W : WX) (st : List Stmt) (f : Ev → Hs → SR) : Prop := PSs X st (tS X.K T W f)
def sSeq (f g : Ev → Hs → SR) : Ev → Hs → SR := fun ρ S => (f ρ S).andThen g
section
variable {X : Cx} {T : List (Addr × Str)} {W : WX} {st : Stmt} {rest a b : List Stmt} {e c o i_ : Expr} {f g h : Ev → Hs → SR} {fe fc fo fi : Ev → Hs → R D} {fs : Ev → Hs → R (List D)} {pos : Pos}
theorem rss_nil : RSs X T W [] (fun ρ S => .nx ρ S) := by
  refine ⟨fun pins s σ H E I hh => pss_nil.run pins s σ H E I ?_⟩
  obtain ⟨m, ρ, S, rp, rv, po⟩ := hh
  exact po σ m H Grow.refl rp rv
theorem rss_cons (h1 : RS X T W st f) (h2 : RSs X T W rest g) : RSs X T W (st :: rest) (sSeq f g) := by
  refine ⟨fun pins s σ H E I hh => (pss_cons h1 h2).run pins s σ H E I ?_⟩
  obtain ⟨m, ρ, S, rp, rv, po⟩ := hh
  exact ⟨m, ρ, S, rp, rv, PoS.andThen po⟩
/-- an expression's reading, out of a statement's -/
theorem tS_expr {k : Ev → D → Hs → SR} {σ : L2.St} {H : Hp} {E : Ends} {K : Frag} (hh : tS K T W (fun ρ S => (fe ρ S).toS ρ (k ρ)) E σ H) :
    tE K T W fe σ H (fun v H1 => ∃ m ρ S1 x, Rep K T m S1 H1 ∧ RV K m H1 ρ σ ∧ RD K m H1 x v ∧ PoS K T m H1 (k ρ x S1) E W) := by
  obtain ⟨m, ρ, S, rp, rv, po⟩ := hh
  refine ⟨m, ρ, S, rp, rv, (PoS.toS (rel := RD K) rv po).mono fun v H1 ⟨x, S1, m1, rp1, rv1, g1, rd, po1⟩ => ⟨m1, ρ, S1, x, rp1, rv1, rd, po1⟩⟩
theorem tS_test {k : Ev → Bool → Hs → SR} {σ : L2.St} {H : Hp} {E : Ends} {K : Frag} (hh : tS K T W (fun ρ S => (mB fe ρ S).toS ρ (k ρ)) E σ H) :
    tT K T W (mB fe) σ H (fun b H1 => ∃ m ρ S1, Rep K T m S1 H1 ∧ RV K m H1 ρ σ ∧ PoS K T m H1 (k ρ b S1) E W) := by
  obtain ⟨m, ρ, S, rp, rv, po⟩ := hh
  refine ⟨m, ρ, S, rp, rv, (PoS.toS (rel := relB) rv po).mono fun v H1 ⟨x, S1, m1, rp1, rv1, g1, rd, po1⟩ => ?_⟩
  cases (show v = x from rd)
  exact ⟨m1, ρ, S1, rp1, rv1, po1⟩
theorem tS_args {k : Ev → List D → Hs → SR} {σ : L2.St} {H : Hp} {E : Ends} {K : Frag} (hh : tS K T W (fun ρ S => (fs ρ S).toS ρ (k ρ)) E σ H) :
    tA K T W fs σ H (fun v H1 => ∃ m ρ S1 x, Rep K T m S1 H1 ∧ RV K m H1 ρ σ ∧ RDs K m H1 x v ∧ PoS K T m H1 (k ρ x S1) E W) := by
  obtain ⟨m, ρ, S, rp, rv, po⟩ := hh
  refine ⟨m, ρ, S, rp, rv, (PoS.toS (rel := RDs K) rv po).mono fun v H1 ⟨x, S1, m1, rp1, rv1, g1, rd, po1⟩ => ⟨m1, ρ, S1, x, rp1, rv1, rd, po1⟩⟩
/-! ### small statements -/
def sExp (fe : Ev → Hs → R D) : Ev → Hs → SR := fun ρ S => (fe ρ S).toS ρ fun _ S1 => .nx ρ S1
theorem rs_exp (he : RE X T W e fe) (hs : swapsWith e none pos.line X.env = pure false) : RS X T W (.Expr e pos) (sExp fe) := by
  refine ⟨fun pins s σ H E I hh => (ps_expr he hs).run pins s σ H E I ?_⟩
  obtain ⟨m, ρ, S, rp, rv, po⟩ := tS_expr hh
  exact ⟨m, ρ, S, rp, rv, po.mono fun v H1 ⟨m1, ρ1, S1, x, rp1, rv1, rd, po1⟩ => po1 σ m1 H1 Grow.refl rp1 rv1⟩
theorem rs_doc {x : Str} {j : Nat} {p2 : Pos} : RS X T W (.Expr (.Constant (.str x) j p2) pos) (fun ρ S => .nx ρ S) := by
  refine ⟨fun pins s σ H E I hh => ps_doc.run pins s σ H E I ?_⟩
  obtain ⟨m, ρ, S, rp, rv, po⟩ := hh
  exact po σ m H Grow.refl rp rv
def sRet (fe : Ev → Hs → R D) : Ev → Hs → SR := fun ρ S => (fe ρ S).toS ρ fun d S1 => .rt d S1
theorem rs_ret (he : RE X T W e fe) : RS X T W (.Return (some e) pos) (sRet fe) := by
  refine ⟨fun pins s σ H E I hh => (ps_ret he).run pins s σ H E I ?_⟩
  obtain ⟨m, ρ, S, rp, rv, po⟩ := tS_expr hh
  exact ⟨m, ρ, S, rp, rv, po.mono fun v H1 ⟨m1, ρ1, S1, x, rp1, rv1, rd, po1⟩ => po1 v m1 H1 Grow.refl rp1 rd⟩
theorem rs_retN : RS X T W (.Return none pos) (fun _ S => .rt .non S) := by
  refine ⟨fun pins s σ H E I hh => ps_retN.run pins s σ H E I ?_⟩
  obtain ⟨m, ρ, S, rp, rv, po⟩ := hh
  exact po .non m H Grow.refl rp (by simp only [RD])
theorem rs_pass : RS X T W (.Pass pos) (fun ρ S => .nx ρ S) := by
  refine ⟨fun pins s σ H E I hh => ps_pass.run pins s σ H E I ?_⟩
  obtain ⟨m, ρ, S, rp, rv, po⟩ := hh
  exact po σ m H Grow.refl rp rv
theorem rs_brk : RS X T W (.Break pos) (fun ρ S => .bk ρ S) := by
  refine ⟨fun pins s σ H E I hh => ps_break.run pins s σ H E I ?_⟩
  obtain ⟨m, ρ, S, rp, rv, po⟩ := hh
  exact po σ m H Grow.refl rp rv
theorem rs_cnt : RS X T W (.Continue pos) (fun ρ S => .ct ρ S) := by
  refine ⟨fun pins s σ H E I hh => ps_continue.run pins s σ H E I ?_⟩
  obtain ⟨m, ρ, S, rp, rv, po⟩ := hh
  exact po σ m H Grow.refl rp rv
def sIf (fc : Ev → Hs → R D) (f g : Ev → Hs → SR) : Ev → Hs → SR := fun ρ S => (mB fc ρ S).toS ρ fun b S1 => if b = true then f ρ S1 else g ρ S1
theorem rs_if (hc : RT X T W c (mB fc)) (ha : RSs X T W a f) (hb : RSs X T W b g) : RS X T W (.If c a b pos) (sIf fc f g) := by
  refine ⟨fun pins s σ H E I hh => (ps_if hc ha hb).run pins s σ H E I ?_⟩
  obtain ⟨m, ρ, S, rp, rv, po⟩ := tS_test hh
  refine ⟨m, ρ, S, rp, rv, po.mono fun v H1 ⟨m1, ρ1, S1, rp1, rv1, po1⟩ => ?_⟩
  cases v
  · exact ⟨m1, ρ1, S1, rp1, rv1, po1⟩
  · exact ⟨m1, ρ1, S1, rp1, rv1, po1⟩
/-! ### names -/
def sAsg (i : Nat) (fe : Ev → Hs → R D) : Ev → Hs → SR := fun ρ S => (fe ρ S).toS ρ fun d S1 => .nx (ρ.set i (some d)) S1
theorem rs_asg {i : Nat} {x : Str} {pos' : Pos} (hN : X.N.Nodup) (hi : X.N[i]? = some x) (hx : Loc X.env.scope x) (he : RE X T W e fe) (hs : swapsWith e (some (.Name x pos')) pos.line X.env = pure false) (hf : X.fn x = true ∨ X.env.scope.names.lookup x = some .local) :
    RS X T W (.Assign [.Name x pos'] e pos) (sAsg i fe) := by
  refine ⟨fun pins s σ H E I hh => (ps_set hN hi hx he hs hf).run pins s σ H E I ?_⟩
  obtain ⟨m, ρ, S, rp, rv, po⟩ := tS_expr hh
  exact ⟨m, ρ, S, rp, rv, po.mono fun v H1 ⟨m1, ρ1, S1, x, rp1, rv1, rd, po1⟩ => po1 _ m1 H1 Grow.refl rp1 (rv1.set i rd)⟩
def sets (ρ : Ev) : List Nat → List D → Option Ev
  | [], [] => some ρ
  | i :: is, d :: ds => sets (ρ.set i (some d)) is ds
  | _, _ => none
def stSets (σ : L2.St) : List Nat → List V → L2.St
  | i :: is, v :: vs => stSets (σ.set i (some v)) is vs
  | _, _ => σ
theorem sets_len {ρ ρ' : Ev} : ∀ {is : List Nat} {ds : List D}, sets ρ is ds = some ρ' → is.length = ds.length
  | [], [], _ => rfl
  | _ :: is, _ :: ds, h => by
    simp only [sets] at h
    rw [List.length_cons, List.length_cons, sets_len h]
  | [], _ :: _, h => by simp only [sets] at h; cases h
  | _ :: _, [], h => by simp only [sets] at h; cases h
theorem sets_rv {K : Frag} {m : Mm} {H : Hp} : ∀ {is : List Nat} {ds : List D} {vs : List V} {ρ ρ' : Ev} {σ : L2.St}, RV K m H ρ σ → RDs K m H ds vs → sets ρ is ds = some ρ' → RV K m H ρ' (stSets σ is vs)
  | [], [], vs, ρ, ρ', σ, rv, h, e => by simp only [sets] at e; cases e; exact rv
  | i :: is, d :: ds, vs, ρ, ρ', σ, rv, h, e => by
    simp only [RDs] at h
    simp only [sets] at e
    obtain ⟨v, r, rfl, h1, h2⟩ := h
    exact sets_rv (is := is) (ds := ds) (rv.set i h1) h2 e
  | [], _ :: _, _, _, _, _, _, _, e => by simp only [sets] at e; cases e
  | _ :: _, [], _, _, _, _, _, _, e => by simp only [sets] at e; cases e
/-- a, b = e -/
def nxO (o : Option Ev) (S : Hs) : SR := match o with
  | some ρ => .nx ρ S
  | none => .stuck
def sAsgT (is : List Nat) (fe : Ev → Hs → R D) : Ev → Hs → SR := fun ρ S => (fe ρ S).toS ρ fun d S1 => match sOf S1 d with
  | .t ds => nxO (sets ρ is ds) S1
  | .l ds => nxO (sets ρ is ds) S1
  | .no => .stuck
theorem po_nxO {K : Frag} {m : Mm} {H : Hp} {S : Hs} {o : Option Ev} {E : Ends} (po : PoS K T m H (nxO o S) E W) : ∃ ρ, o = some ρ ∧ PoS K T m H (.nx ρ S) E W := by
  cases o with
  | none => exact po.elim
  | some d => exact ⟨d, rfl, po⟩
/-- targets that are names, with their slots -/
inductive NamesAt (X : Cx) : List Expr → List Nat → Prop where
  | nil : NamesAt X [] []
  | cons {x : Str} {p : Pos} {i : Nat} {es : List Expr} {is : List Nat} (hi : X.N[i]? = some x) (hx : Loc X.env.scope x) (hf : X.fn x = true ∨ X.env.scope.names.lookup x = some .local) (r : NamesAt X es is) : NamesAt X (.Name x p :: es) (i :: is)
def gNames : List Nat → TGs
  | [] => gNil
  | i :: is => gCons (gName i) (gNames is)
theorem NamesAt.pgs {es : List Expr} {is : List Nat} (hN : X.N.Nodup) (h : NamesAt X es is) : PGs X es (gNames is) := by
  induction h with
  | nil => exact pgs_nil
  | cons hi hx hf r ih => exact pgs_cons (pg_name hN hi hx hf) ih rfl
theorem NamesAt.len {es : List Expr} {is : List Nat} (h : NamesAt X es is) : (assignEach es X.env).length = is.length ∧ (assignEach es X.env).findIdx? (·.1) = none := by
  induction h with
  | nil => exact ⟨rfl, rfl⟩
  | cons hi hx hf r ih =>
    obtain ⟨h1, h2⟩ := ih
    refine ⟨?_, ?_⟩
    · show (_ :: assignEach _ X.env).length = _
      rw [List.length_cons, List.length_cons, h1]
    · show List.findIdx? (·.1) (_ :: assignEach _ X.env) = none
      rw [List.findIdx?_cons, h2]
      rfl
theorem gNames_run : ∀ {is : List Nat} {vs : List V} {σ : L2.St} {H : Hp} {Q : L2.St → Hp → Prop}, is.length = vs.length → Q (stSets σ is vs) H → gNames is vs σ H Q
  | [], [], _, _, _, _, q => ⟨rfl, q⟩
  | i :: is, v :: vs, σ, H, Q, hl, q => ⟨v, vs, rfl, gNames_run (by simpa using hl) q⟩
  | [], _ :: _, _, _, _, hl, _ => by simp at hl
  | _ :: _, [], _, _, _, hl, _ => by simp at hl
/-- a tuple or a list, put into names -/
def gSeq (K : Frag) (n : Nat) (t : TGs) : TG := fun v σ H Q => gTup K n t v σ H Q ∨ gUnl K n t v σ H Q
theorem pg_seq {es : List Expr} {k : Nat} {t : TGs} {n : Nat} (hc : X.calm = true) (h : PGs X es t) (hn : (assignEach es X.env).length = n) (hst : (assignEach es X.env).findIdx? (·.1) = none) : PG X (.Tuple es k pos) (gSeq X.K n t) := by
  refine ⟨fun pins s σ H v u Q I r hw => ?_⟩
  rcases hw with hw | hw
  · exact (pg_tup hc h hn hst).run pins s σ H v u Q I r hw
  · exact (pg_unl hc h hn hst).run pins s σ H v u Q I r hw
theorem rs_asgT {es : List Expr} {is : List Nat} {k : Nat} {tp : Pos} (hc : X.calm = true) (hN : X.N.Nodup) (hn : NamesAt X es is) (he : RE X T W e fe) (hs : swapsWithSole [.Tuple es k tp] e pos.line X.env = pure false) (hw : swappedStores [.Tuple es k tp] e X.env = pure none) :
    RS X T W (.Assign [.Tuple es k tp] e pos) (sAsgT is fe) := by
  refine ⟨fun pins s σ H E I hh => (ps_asg he (pg_seq hc (hn.pgs hN) hn.len.1 hn.len.2) hs hw rfl).run pins s σ H E I ?_⟩
  obtain ⟨m, ρ, S, rp, rv, po⟩ := tS_expr hh
  refine ⟨m, ρ, S, rp, rv, po.mono fun v H1 ⟨m1, ρ1, S1, x, rp1, rv1, rd, po1⟩ => ?_⟩
  split at po1
  · rename_i ds hd
    obtain ⟨ρ2, h2, po1⟩ := po_nxO po1
    obtain ⟨a, vs, rfl, e1, r1⟩ := sOf_t rd hd
    exact .inl ⟨a, vs, rfl, e1, by rw [r1.len, sets_len h2], gNames_run (by rw [r1.len, sets_len h2]) (po1 _ m1 H1 Grow.refl rp1 (sets_rv rv1 r1 h2))⟩
  · rename_i ds hd
    obtain ⟨ρ2, h2, po1⟩ := po_nxO po1
    obtain ⟨a, vs, rfl, e1, r1⟩ := sOf_l rp1 rd hd
    exact .inr ⟨a, vs, rfl, e1, by rw [r1.len, sets_len h2], gNames_run (by rw [r1.len, sets_len h2]) (po1 _ m1 H1 Grow.refl rp1 (sets_rv rv1 r1 h2))⟩
  · exact po1.elim
/-- a, b = x, y -/
def sPar (is : List Nat) (fs : Ev → Hs → R (List D)) : Ev → Hs → SR := fun ρ S => (fs ρ S).toS ρ fun ds S1 => nxO (sets ρ is ds) S1
theorem rs_par2 {i j : Nat} {x y : Str} {a b : Expr} {px py pt pt2 : Pos} {kt k2 : Nat} (hc : X.calm = true) (hN : X.N.Nodup) (hi : X.N[i]? = some x) (hj : X.N[j]? = some y) (hij : i ≠ j) (hx : X.env.scope.names.lookup x = some .local) (hy : X.env.scope.names.lookup y = some .local)
    (ha : RA X T W [a, b] fs) (hw : swappedStores [.Tuple [.Name x px, .Name y py] kt pt] (.Tuple [a, b] k2 pt2) X.env = pure (some [x, y])) (hs : swapsWithSole [.Tuple [.Name x px, .Name y py] kt pt] (.Tuple [a, b] k2 pt2) pos.line X.env = pure false) :
    RS X T W (.Assign [.Tuple [.Name x px, .Name y py] kt pt] (.Tuple [a, b] k2 pt2) pos) (sPar [i, j] fs) := by
  refine ⟨fun pins s σ H E I hh => (ps_par hc hN hi hj hij hx hy ha hw hs).run pins s σ H E I ?_⟩
  obtain ⟨m, ρ, S, rp, rv, po⟩ := tS_args hh
  refine ⟨m, ρ, S, rp, rv, po.mono fun v H1 ⟨m1, ρ1, S1, ds, rp1, rv1, rd, po1⟩ => ?_⟩
  obtain ⟨ρ2, h2, po1⟩ := po_nxO po1
  have hl2 := rd.len
  rw [← sets_len h2] at hl2
  obtain ⟨v1, v2, rfl⟩ : ∃ v1 v2, v = [v1, v2] := by
    match v, hl2 with
    | [v1, v2], _ => exact ⟨v1, v2, rfl⟩
  exact ⟨v1, v2, rfl, po1 _ m1 H1 Grow.refl rp1 (sets_rv rv1 rd h2)⟩
theorem rs_par3 {i j l : Nat} {x y z : Str} {a b c : Expr} {px py pz pt pt2 : Pos} {kt k2 : Nat} (hc : X.calm = true) (hN : X.N.Nodup) (hi : X.N[i]? = some x) (hj : X.N[j]? = some y) (hl : X.N[l]? = some z) (hij : i ≠ j) (hil : i ≠ l) (hjl : j ≠ l) (hx : X.env.scope.names.lookup x = some .local) (hy : X.env.scope.names.lookup y = some .local) (hz : X.env.scope.names.lookup z = some .local)
    (ha : RA X T W [a, b, c] fs) (hw : swappedStores [.Tuple [.Name x px, .Name y py, .Name z pz] kt pt] (.Tuple [a, b, c] k2 pt2) X.env = pure (some [x, y, z])) (hs : swapsWithSole [.Tuple [.Name x px, .Name y py, .Name z pz] kt pt] (.Tuple [a, b, c] k2 pt2) pos.line X.env = pure false) :
    RS X T W (.Assign [.Tuple [.Name x px, .Name y py, .Name z pz] kt pt] (.Tuple [a, b, c] k2 pt2) pos) (sPar [i, j, l] fs) := by
  refine ⟨fun pins s σ H E I hh => (ps_par3 hc hN hi hj hl hij hil hjl hx hy hz ha hw hs).run pins s σ H E I ?_⟩
  obtain ⟨m, ρ, S, rp, rv, po⟩ := tS_args hh
  refine ⟨m, ρ, S, rp, rv, po.mono fun v H1 ⟨m1, ρ1, S1, ds, rp1, rv1, rd, po1⟩ => ?_⟩
  obtain ⟨ρ2, h2, po1⟩ := po_nxO po1
  have hl2 := rd.len
  rw [← sets_len h2] at hl2
  obtain ⟨v1, v2, v3, rfl⟩ : ∃ v1 v2 v3, v = [v1, v2, v3] := by
    match v, hl2 with
    | [v1, v2, v3], _ => exact ⟨v1, v2, v3, rfl⟩
  exact ⟨v1, v2, v3, rfl, po1 _ m1 H1 Grow.refl rp1 (sets_rv rv1 rd h2)⟩
/-- name op= e -/
def sAug (i : Nat) (g : D → D → Hs → R D) (fe : Ev → Hs → R D) : Ev → Hs → SR := fun ρ S => match ρ[i]? with
  | some (some x) => (fe ρ S).toS ρ fun y S1 => (g x y S1).toS ρ fun z S2 => .nx (ρ.set i (some z)) S2
  | _ => .stuck
/-- an operator's rule, for PIp and InOp: the wish about exceptions is of another σ -/
def rAug (K : Frag) (T : List (Addr × Str)) (g : D → D → Hs → R D) (W' : Value → Option Addr → Hp → Prop) : V → V → Hp → VK → Prop := fun x y H Q => ∃ m S dx dy, Rep K T m S H ∧ RD K m H dx x ∧ RD K m H dy y ∧ Po K T (RD K) m H (g dx dy S) Q W'
theorem aug_op {op : Operator} {g : D → D → Hs → R D} (ho : ∀ W, OpD X T W (inplaceOp op) g) (W' : Value → Option Addr → Hp → Prop) : OpR X (inplaceOp op) (rAug X.K T g W') := by
  intro pins s σ H x y v u Q I rx ry h
  obtain ⟨m, S, dx, dy, rp, hx, hy, po⟩ := h
  exact ho (fun c d _ H' => W' c d H') pins s σ H m S dx dy x y v u Q I rp hx hy rx ry po
theorem rs_aug {i : Nat} {x : Str} {pos' : Pos} {op : Operator} {g : D → D → Hs → R D} (hN : X.N.Nodup) (hi : X.N[i]? = some x) (hx : Loc X.env.scope x) (he : RE X T W e fe) (ho : ∀ W, OpD X T W (inplaceOp op) g) (hf : X.fn x = true ∨ X.env.scope.names.lookup x = some .local) :
    RS X T W (.AugAssign (.Name x pos') op e pos) (sAug i g fe) := by
  refine ⟨fun pins s σ H E I h => ?_⟩
  obtain ⟨m, ρ, S, rp, rv, po⟩ := h
  unfold sAug at po
  split at po
  · rename_i d hd
    obtain ⟨v, e1, rd⟩ := rv.at_ i d hd
    refine (ps_aug hN hi hx he (aug_op ho fun c d H' => W c d σ H') hf).run pins s σ H E I ⟨v, e1, m, ρ, S, rp, rv, (PoS.toS (rel := RD X.K) rv po).mono fun y H1 ⟨dy, S1, m1, rp1, rv1, g1, hy, po1⟩ => ?_⟩
    exact ⟨m1, S1, d, dy, rp1, RD.grow g1 rd, hy, (PoS.toS (rel := RD X.K) rv1 po1).mono fun z H2 ⟨dz, S2, m2, rp2, rv2, g2, hz, po2⟩ => po2 _ m2 H2 Grow.refl rp2 (rv2.set i hz)⟩
  · exact po.elim
/-! ### attributes -/
def sFldS (C : Str) (f : Str) (fo fe : Ev → Hs → R D) : Ev → Hs → SR := fun ρ S => (fe ρ S).toS ρ fun y S1 => (fo ρ S1).toS ρ fun x S2 => match iOf S2 x with
  | some (n, C', fl) => if C' = C ∧ fl.length < 1000 then .nx ρ (S2.set n (.ins C (putD f y fl))) else .stuck
  | none => .stuck
theorem zip_le {α β : Type} (xs : List α) (ys : List β) : (xs.zip ys).length ≤ xs.length := by rw [List.length_zip]; exact Nat.min_le_left _ _
theorem rs_fld {C f : Str} {pos' : Pos} (ha : RE X T W o fo) (hv : RE X T W e fe) (hc : ClsOk X.K C f) (hs : swapsWith e (some (.Attribute o f pos')) pos.line X.env = pure false) : RS X T W (.Assign [.Attribute o f pos'] e pos) (sFldS C f fo fe) := by
  refine ⟨fun pins s σ H E I hh => (L2.ps_fld ha hv hs).run pins s σ H E I ?_⟩
  obtain ⟨m, ρ, S, rp, rv, po⟩ := hh
  refine ⟨m, ρ, S, rp, rv, (PoS.toS (rel := RD X.K) rv po).mono fun y H1 ⟨dy, S1, m1, rp1, rv1, g1, hy, po1⟩ => ?_⟩
  refine ⟨m1, ρ, S1, rp1, rv1, (PoS.toS (rel := RD X.K) rv1 po1).mono fun x H2 ⟨dx, S2, m2, rp2, rv2, g2, hx, po2⟩ => ?_⟩
  split at po2
  · rename_i n C' fl hi
    split at po2
    · rename_i hC
      obtain ⟨hC, hl⟩ := hC
      subst hC
      obtain ⟨a, ddx, vs, rfl, e1, e2, rr⟩ := iOf_at rp2 hx hi
      obtain ⟨ws, h1, h2⟩ := put_at (f := f) (RD.grow g2 hy) rr
      refine ⟨a, _, ddx, _, rfl, e2, hc.1, hc.2, ?_, ?_⟩
      · refine Nat.lt_of_le_of_lt (zip_le _ _) ?_
        rw [List.length_map]
        exact hl
      · rw [h1]
        have gg := Grow.upd (o := .ins (He.ga X.K C') ddx (((putD f dy fl).map (·.1)).zip ws)) e2 (List.mem_of_getElem? e1) (fun _ z => nomatch z)
        exact po2 σ m2 _ gg (rp2.upd e1 e2 trivial (o := .ins C' (putD f dy fl)) ⟨ddx, ws, rfl, h2⟩) (rv2.grow gg)
    · exact po2.elim
  · exact po2.elim
def sFldAugS (C : Str) (f : Str) (g : D → D → Hs → R D) (fo fe : Ev → Hs → R D) : Ev → Hs → SR := fun ρ S => (fo ρ S).toS ρ fun x S1 => match iOf S1 x with
  | some (n, C', fl) => if C' = C then match fl.lookup f with
      | some v => (fe ρ S1).toS ρ fun y S2 => (g v y S2).toS ρ fun z S3 => match iOf S3 x with
        | some (n', C'', fl') => if C'' = C ∧ n' = n ∧ fl'.length < 1000 then .nx ρ (S3.set n (.ins C (putD f z fl'))) else .stuck
        | none => .stuck
      | none => .stuck
    else .stuck
  | none => .stuck
theorem rs_fldAug {C f : Str} {pos' : Pos} {op : Operator} {g : D → D → Hs → R D} (ha : RE X T W o fo) (hv : RE X T W e fe) (hc : ClsOk X.K C f) (ho : ∀ W, OpD X T W (inplaceOp op) g) : RS X T W (.AugAssign (.Attribute o f pos') op e pos) (sFldAugS C f g fo fe) := by
  refine ⟨fun pins s σ H E I hh => ?_⟩
  refine (L2.ps_fldaug ha hv (rd := rAug X.K T g fun c d H' => W c d σ H') (aug_op ho _)).run pins s σ H E I ?_
  obtain ⟨m, ρ, S, rp, rv, po⟩ := hh
  refine ⟨m, ρ, S, rp, rv, (PoS.toS (rel := RD X.K) rv po).mono fun x H1 ⟨dx, S1, m1, rp1, rv1, g1, hx, po1⟩ => ?_⟩
  split at po1
  · rename_i n C' fl hi
    split at po1
    · rename_i hC
      subst hC
      split at po1
      · rename_i d hd
        obtain ⟨a, ddx, vs, rfl, e1, e2, rr⟩ := iOf_at rp1 hx hi
        obtain ⟨w, h3, h4⟩ := fld_some rr hd
        refine ⟨a, _, ddx, _, w, rfl, e2, hc.1, hc.2, h3, m1, ρ, S1, rp1, rv1, (PoS.toS (rel := RD X.K) rv1 po1).mono fun y H2 ⟨dy, S2, m2, rp2, rv2, g2, hy, po2⟩ => ?_⟩
        refine ⟨m2, S2, d, dy, rp2, RD.grow g2 h4, hy, (PoS.toS (rel := RD X.K) rv2 po2).mono fun z H3 ⟨dz, S3, m3, rp3, rv3, g3, hz, po3⟩ => ?_⟩
        split at po3
        · rename_i n' C'' fl' hi'
          split at po3
          · rename_i hC
            obtain ⟨hC, hn, hl⟩ := hC
            subst hC
            subst hn
            obtain ⟨b, ddx', vs', hab, f1, f2, rr'⟩ := iOf_at rp3 (RD.grow g3 (RD.grow g2 hx)) hi'
            cases hab
            obtain ⟨ws, k1, k2⟩ := put_at (f := f) hz rr'
            refine ⟨ddx', _, f2, ?_, ?_⟩
            · refine Nat.lt_of_le_of_lt (zip_le _ _) ?_
              rw [List.length_map]
              exact hl
            · rw [k1]
              have gg := Grow.upd (o := .ins (He.ga X.K C'') ddx' (((putD f dz fl').map (·.1)).zip ws)) f2 (List.mem_of_getElem? f1) (fun _ z => nomatch z)
              exact po3 σ m3 _ gg (rp3.upd f1 f2 trivial (o := .ins C'' (putD f dz fl')) ⟨ddx', ws, rfl, k2⟩) (rv3.grow gg)
          · exact po3.elim
        · exact po3.elim
      · exact po1.elim
    · exact po1.elim
  · exact po1.elim
/-! ### o[i] = e -/
def putKD : List Key → List D → Key → D → List Key × List D
  | k :: ks, d :: ds, j, x => if k = j then (k :: ks, x :: ds) else ((k :: (putKD ks ds j x).1), (d :: (putKD ks ds j x).2))
  | _, _, j, x => ([j], [x])
def gPut (o i v : D) (S : Hs) : Option Hs := match mL S o, i with
  | some (n, xs), .int k => match ixN xs.length k with
    | some j => some (S.set n (.lst (xs.set j v)))
    | none => none
  | some _, _ => none
  | none, i => match mD S o, keyD i with
    | some (n, ks, ds), some k => if ds.length < sizeLine then some (S.set n (.dk (putKD ks ds k v).1 (putKD ks ds k v).2)) else none
    | _, _ => none
def sSub (fo fi fe : Ev → Hs → R D) : Ev → Hs → SR := fun ρ S => (fe ρ S).toS ρ fun v S1 => (fo ρ S1).toS ρ fun o S2 => (fi ρ S2).toS ρ fun i S3 => match gPut o i v S3 with
  | some S4 => .nx ρ S4
  | none => .stuck
end
end Pv

set_option maxHeartbeats 4000000
/-! Pv10: hidden objects; what a loop walks; for, while. -/
namespace Pv
open PySem PySem.Spec PyProof.Rows L2

/-! ### another small heap -/
/-- what a plain value leans on is carried over -/
structure Mv (m : Mm) (H : Hp) (m1 : Mm) (H1 : Hp) : Prop where
  at_ : ∀ (n : Nat) a, m.v[n]? = some a → m1.v[n]? = some a
  keep : ∀ a o, H a = some o → a ∉ m → (∀ ps, o ≠ .tbl ps) → H1 a = some o ∧ a ∉ m1
section
variable {K : Frag} {T : List (Addr × Str)} {m m1 m2 : Mm} {H H1 H2 : Hp} {S : Hs}
mutual
theorem RD.mv (g : Mv m H m1 H1) : ∀ {d : D} {v : V}, RD K m H d v → RD K m1 H1 d v
  | .non, _, h => h
  | .bl _, _, h => h
  | .int _, _, h => h
  | .str _, _, h => h
  | .tup ds, v, h => by
    simp only [RD] at h ⊢
    obtain ⟨a, vs, e, t, r⟩ := h
    refine ⟨a, vs, e, ?_, RDs.mv g r⟩
    rcases t with ⟨t, n⟩ | ⟨o, t, n⟩ | t
    · exact .inl (g.keep a _ t n (fun _ z => nomatch z))
    · exact .inr (.inl ⟨o, g.keep a _ t n (fun _ z => nomatch z)⟩)
    · exact .inr (.inr t)
  | .tpx ds, v, h => by
    simp only [RD] at h ⊢
    obtain ⟨a, vs, e, t, r⟩ := h
    refine ⟨a, vs, e, ?_, RDs.mv g r⟩
    rcases t with ⟨its, k, t, n⟩ | t
    · exact .inl ⟨its, k, g.keep a _ t n (fun _ z => nomatch z)⟩
    · exact .inr t
  | .lv ds, v, h => by
    simp only [RD] at h ⊢
    obtain ⟨a, vs, e, t, n, r⟩ := h
    obtain ⟨h1, h2⟩ := g.keep a _ t n (fun _ z => nomatch z)
    exact ⟨a, vs, e, h1, h2, RDs.mv g r⟩
  | .rl ds, v, h => by
    simp only [RD] at h ⊢
    obtain ⟨a, vs, e, t, r⟩ := h
    refine ⟨a, vs, e, ?_, RDs.mv g r⟩
    rcases t with ⟨t, n⟩ | ⟨o, t, n⟩ | t
    · exact .inl (g.keep a _ t n (fun _ z => nomatch z))
    · exact .inr (.inl ⟨o, g.keep a _ t n (fun _ z => nomatch z)⟩)
    · exact .inr (.inr t)
  | .dv ks ds, v, h => by
    simp only [RD] at h ⊢
    obtain ⟨a, vs, e, t, n, l, r⟩ := h
    obtain ⟨h1, h2⟩ := g.keep a _ t n (fun _ z => nomatch z)
    exact ⟨a, vs, e, h1, h2, l, RDs.mv g r⟩
  | .ref n, v, h => by
    simp only [RD] at h ⊢
    obtain ⟨a, e, t⟩ := h
    exact ⟨a, e, g.at_ n a t⟩
  | .ty _, _, h => h
  | .glo _, _, h => h
theorem RDs.mv (g : Mv m H m1 H1) : ∀ {ds : List D} {vs : List V}, RDs K m H ds vs → RDs K m1 H1 ds vs
  | [], _, h => h
  | d :: ds, vs, h => by
    simp only [RDs] at h ⊢
    obtain ⟨v, r, e, h1, h2⟩ := h
    exact ⟨v, r, e, RD.mv g h1, RDs.mv g h2⟩
end
theorem RO.mv {o : O} {ho : HO} (g : Mv m H m1 H1) (h : RO K m H o ho) : RO K m1 H1 o ho := by
  cases o with
  | lst ds => obtain ⟨vs, e, r⟩ := h; exact ⟨vs, e, RDs.mv g r⟩
  | dk ks ds => obtain ⟨vs, e, l, r⟩ := h; exact ⟨vs, e, l, RDs.mv g r⟩
  | ins C fs => obtain ⟨dx, vs, e, r⟩ := h; exact ⟨dx, vs, e, RDs.mv g r⟩
theorem RV.mv {ρ : Ev} {σ : L2.St} (r : RV K m H ρ σ) (g : Mv m H m1 H1) : RV K m1 H1 ρ σ :=
  ⟨r.len, fun i d e => let ⟨v, e1, h⟩ := r.at_ i d e; ⟨v, e1, RD.mv g h⟩⟩
/-! ### a hidden object -/
abbrev Mm.hide (m : Mm) (p : Addr) : Mm := ⟨m.v, p :: m.h⟩
theorem hide_mem {p a : Addr} : a ∈ m.hide p ↔ a = p ∨ a ∈ m := by
  show (a ∈ m.v ∨ a ∈ p :: m.h) ↔ (a = p ∨ (a ∈ m.v ∨ a ∈ m.h))
  rw [List.mem_cons]
  constructor
  · rintro (h | h | h)
    · exact .inr (.inl h)
    · exact .inl h
    · exact .inr (.inr h)
  · rintro (h | h | h)
    · exact .inr (.inl h)
    · exact .inl h
    · exact .inr (.inr h)
theorem Mv.hide {p : Addr} {o : HO} (h : H p = none) : Mv m H (m.hide p) (upd H p o) :=
  ⟨fun _ _ e => e, fun a u e n _ => ⟨by rw [upd_ne (ne_of_none e h)]; exact e, fun z => (hide_mem.mp z).elim (ne_of_none e h) n⟩⟩
/-- a hidden object is written -/
theorem Mv.wr {p : Addr} {o : HO} : Mv (m.hide p) H (m.hide p) (upd H p o) :=
  ⟨fun _ _ e => e, fun a u e n _ => ⟨by rw [upd_ne (fun z => n (hide_mem.mpr (.inl z)))]; exact e, n⟩⟩
theorem Mv.unhide {p : Addr} : Mv (m.hide p) H m H := ⟨fun _ _ e => e, fun a u e n _ => ⟨e, fun z => n (hide_mem.mpr (.inr z))⟩⟩
theorem Mv.trans (a : Mv m H m1 H1) (b : Mv m1 H1 m2 H2) : Mv m H m2 H2 :=
  ⟨fun n x e => b.at_ n x (a.at_ n x e), fun x o e n t => let ⟨h1, h2⟩ := a.keep x o e n t; b.keep x o h1 h2 t⟩
theorem Rep.hide {p : Addr} {o : HO} (r : Rep K T m S H) (h : H p = none) (hb : ∀ ps, o ≠ .tbl ps) : Rep K T (m.hide p) S (L2.upd H p o) := by
  refine ⟨r.len, r.nd, fun n u e => ?_, fun a ha => ?_, tabs_upd r.tb fun u e => by rw [h] at e; cases e⟩
  · obtain ⟨a, ho, e1, e2, e3⟩ := r.at_ n u e
    exact ⟨a, ho, e1, by rw [upd_ne (ne_of_none e2 h)]; exact e2, RO.mv (Mv.hide h) e3⟩
  · rcases List.mem_cons.mp ha with rfl | ha
    · exact ⟨fun z => r.notin h (.inl z), o, upd_same, hb⟩
    · obtain ⟨h1, u, h2, h3⟩ := r.hid a ha
      exact ⟨h1, u, by rw [upd_ne (ne_of_none h2 h)]; exact h2, h3⟩
theorem Rep.wr {p : Addr} {o u : HO} (r : Rep K T (m.hide p) S H) (h : H p = some u) (hu : isM u) (hb : ∀ ps, o ≠ .tbl ps) : Rep K T (m.hide p) S (L2.upd H p o) := by
  have hp := (r.hid p (List.mem_cons_self ..)).1
  refine ⟨r.len, r.nd, fun n w e => ?_, fun a ha => ?_, tabs_upd r.tb fun w e => by rw [h] at e; cases e; exact hu⟩
  · obtain ⟨a, ho, e1, e2, e3⟩ := r.at_ n w e
    have hne : a ≠ p := fun z => hp (z ▸ List.mem_of_getElem? e1)
    exact ⟨a, ho, e1, by rw [upd_ne hne]; exact e2, RO.mv Mv.wr e3⟩
  · obtain ⟨h1, w, h2, h3⟩ := r.hid a ha
    by_cases hap : a = p
    · subst hap
      exact ⟨h1, o, upd_same, hb⟩
    · exact ⟨h1, w, by rw [upd_ne hap]; exact h2, h3⟩
theorem Rep.unhide {p : Addr} (r : Rep K T (m.hide p) S H) : Rep K T m S H :=
  ⟨r.len, r.nd, fun n w e => let ⟨a, ho, e1, e2, e3⟩ := r.at_ n w e; ⟨a, ho, e1, e2, RO.mv Mv.unhide e3⟩, fun a ha => r.hid a (List.mem_cons_of_mem _ ha), r.tb⟩
/-- a hidden object becomes one of the small heap -/
theorem Mv.show_ {p : Addr} : Mv (m.hide p) H (m.add [p]) H :=
  ⟨fun n a e => by
    show (m.v ++ [p])[n]? = some a
    rw [List.getElem?_append_left (List.getElem?_eq_some_iff.mp e).1]; exact e, fun a u e n _ => ⟨e, fun z => by
    rcases z with z | z
    · rcases List.mem_append.mp z with z | z
      · exact n (.inl z)
      · exact n (hide_mem.mpr (.inl (List.mem_singleton.mp z)))
    · exact n (.inr (List.mem_cons_of_mem _ z))⟩⟩
theorem Rep.show_ {p : Addr} {o : O} {ho : HO} (r : Rep K T (m.hide p) S H) (h : H p = some ho) (ro : RO K (m.hide p) H o ho) (hm : p ∉ m.h) : Rep K T (m.add [p]) (S ++ [o]) H := by
  have hp := (r.hid p (List.mem_cons_self ..)).1
  refine ⟨by have := r.len; simp [this], ?_, fun n w e => ?_, fun a ha => ?_, r.tb⟩
  · refine List.nodup_append.mpr ⟨r.nd, by simp, fun x hx y hy => ?_⟩
    rw [List.mem_singleton.mp hy]
    intro z
    exact hp (z ▸ hx)
  · by_cases hn : n < S.length
    · rw [List.getElem?_append_left hn] at e
      obtain ⟨b, hb, e1, e2, e3⟩ := r.at_ n w e
      exact ⟨b, hb, Mv.show_.at_ (H := H) n b e1, e2, RO.mv Mv.show_ e3⟩
    · have hle : S.length ≤ n := Nat.le_of_not_lt hn
      rw [List.getElem?_append_right hle] at e
      have hz : n - S.length = 0 := by
        have := (List.getElem?_eq_some_iff.mp e).1
        simp at this
        omega
      rw [hz] at e
      simp at e
      subst e
      refine ⟨p, ho, ?_, h, RO.mv Mv.show_ ro⟩
      show (m.v ++ [p])[n]? = some p
      rw [List.getElem?_append_right (by rw [r.len]; exact hle), r.len, hz]
      rfl
  · obtain ⟨h1, u, h2, h3⟩ := r.hid a (List.mem_cons_of_mem _ ha)
    refine ⟨fun z => ?_, u, h2, h3⟩
    rcases List.mem_append.mp z with z | z
    · exact h1 z
    · exact hm (List.mem_singleton.mp z ▸ ha)
theorem Grow.mv (g : Grow m H m1 H1) : Mv m H m1 H1 := ⟨fun _ _ e => g.at_ e, fun a o e n t => ⟨g.keep.keep a o e (fun z => n (.inl z)) t, g.notin e n t⟩⟩
/-- the hidden object left out -/
theorem Grow.strip {p : Addr} (g : Grow (m.hide p) H m1 H1) : ∃ ext, m1 = (m.add ext).hide p ∧ Grow m H (m.add ext) H1 := by
  obtain ⟨ext, rfl, h2, k⟩ := g
  exact ⟨ext, rfl, ext, rfl, h2, ⟨k.keep, k.dom⟩⟩
/-- a new object is written -/
theorem Grow.wrNew {p : Addr} {o : HO} (g : Grow m H m1 H1) (h : H p = none) : Grow m H m1 (L2.upd H1 p o) := by
  obtain ⟨ext, rfl, h2, k⟩ := g
  refine ⟨ext, rfl, h2, fun a u e n t => ?_, fun a u e n => ?_⟩
  · rw [upd_ne (ne_of_none e h)]
    exact k.keep a u e n t
  · obtain ⟨w, e', n'⟩ := k.dom a u e n
    exact ⟨w, by rw [upd_ne (ne_of_none e h)]; exact e', n'⟩
end

/-! ### what a loop walks -/
inductive S1 where
  | fx (ds : List D) | dy (n : Nat)
inductive Src where
  | one (s : S1) | zip (s t : S1) | en (s : S1) | rng (lo : Int) (n : Nat) | str (x : Str)
inductive Itm where
  | d (x : D) | p (x y : D)
def at1 (S : Hs) (s : S1) (i : Nat) : Option (Option D) := match s with
  | .fx ds => some ds[i]?
  | .dy n => match S[n]? with
    | some (.lst ys) => some ys[i]?
    | _ => none
def srcAt (S : Hs) (src : Src) (i : Nat) : Option (Option Itm) := match src with
  | .one s => (at1 S s i).map fun o => o.map Itm.d
  | .zip s t => match at1 S s i, at1 S t i with
    | some (some x), some (some y) => some (some (.p x y))
    | some _, some _ => some none
    | _, _ => none
  | .en s => (at1 S s i).map fun o => o.map fun x => Itm.p (.int (i : Nat)) x
  | .rng lo n => some (if i < n then some (.d (.int (lo + i))) else none)
  | .str x => some (x.cps[i]?.map fun c => .d (.str ⟨#[c]⟩))
def len1 (S : Hs) (s : S1) : Nat := match s with
  | .fx ds => ds.length
  | .dy n => match S[n]? with
    | some (.lst ys) => ys.length
    | _ => 0
def fuelOf (S : Hs) (src : Src) : Nat := match src with
  | .one s => len1 S s
  | .zip s _ => len1 S s
  | .en s => len1 S s
  | .rng _ n => n
  | .str x => x.cps.size
def ItR (K : Frag) (m : Mm) (H : Hp) (it : Itm) (x : V) : Prop := match it with
  | .d d => RD K m H d x
  | .p d e => ∃ t v u, x = .ref t ∧ H t = some (.tup [v, u]) ∧ RD K m H d v ∧ RD K m H e u
/-- the iterator J goes over src from now on -/
def SrcJ (K : Frag) (T : List (Addr × Str)) (m : Mm) (H : Hp) (src : Src) (J : It) : Prop := ∀ m' H' S', Mv m H m' H' → Rep K T m' S' H' → ∀ i, match srcAt S' src i with
  | none => True
  | some none => J.stop i H'
  | some (some it) => J.go i H' ∧ ∀ x H2, J.yld i H' x H2 → Grow m' H' m' H2 ∧ Rep K T m' S' H2 ∧ ItR K m' H2 it x
section
variable {K : Frag} {T : List (Addr × Str)} {m m1 m2 : Mm} {H H1 H2 : Hp} {S : Hs}
/-- a row that is walked: the list or the tuple at a -/
def S1R (K : Frag) (T : List (Addr × Str)) (m : Mm) (H : Hp) (s : S1) (Sq : Hp → Addr → List V → Prop) (a : Addr) : Prop := ∀ m' H' S', Mv m H m' H' → Rep K T m' S' H' → (∀ (i : Nat) o, at1 S' s i = some o → ∃ ds vs, Sq H' a vs ∧ RDs K m' H' ds vs ∧ o = ds[i]?)
theorem LstAt.mv {a : Addr} {vs : List V} (g : Mv m H m1 H1) (t : LstAt K m H a vs) : LstAt K m1 H1 a vs := by
  rcases t with ⟨t, n⟩ | ⟨o, t, n⟩ | t
  · exact .inl (g.keep a _ t n (fun _ z => nomatch z))
  · exact .inr (.inl ⟨o, g.keep a _ t n (fun _ z => nomatch z)⟩)
  · exact .inr (.inr t)
theorem TupAt.mv {a : Addr} {vs : List V} (g : Mv m H m1 H1) (t : TupAt K m H a vs) : TupAt K m1 H1 a vs := by
  rcases t with ⟨t, n⟩ | ⟨o, t, n⟩ | t
  · exact .inl (g.keep a _ t n (fun _ z => nomatch z))
  · exact .inr (.inl ⟨o, g.keep a _ t n (fun _ z => nomatch z)⟩)
  · exact .inr (.inr t)
theorem s1_list {a : Addr} {vs : List V} {ds : List D} (t : LstAt K m H a vs) (r : RDs K m H ds vs) : S1R K T m H (.fx ds) (SqL K) a := fun m' H' S' g rp i o e => by
  cases e
  exact ⟨ds, vs, (t.mv g).sq, RDs.mv g r, rfl⟩
theorem s1_tup {a : Addr} {vs : List V} {ds : List D} (t : TupAt K m H a vs) (r : RDs K m H ds vs) : S1R K T m H (.fx ds) (SqT K) a := fun m' H' S' g rp i o e => by
  cases e
  exact ⟨ds, vs, (t.mv g).sq, RDs.mv g r, rfl⟩
theorem s1_dy {a : Addr} {n : Nat} (hn : m.v[n]? = some a) : S1R K T m H (.dy n) (SqL K) a := fun m' H' S' g rp i o e => by
  unfold at1 at e
  dsimp only at e
  split at e
  · rename_i ys hq
    cases e
    obtain ⟨b, ho, e1, e2, vs, rfl, r⟩ := rp.at_ n _ hq
    rw [g.at_ _ _ hn] at e1
    cases e1
    exact ⟨ys, vs, SqL.of e2, r, rfl⟩
  · cases e
theorem at_none {ds : List D} {vs : List V} {i : Nat} (r : RDs K m H ds vs) (e : ds[i]? = none) : vs.length ≤ i := by
  rw [r.len]
  exact List.getElem?_eq_none_iff.mp e
theorem srcJ_list {s : S1} {a : Addr} (h : S1R K T m H s (SqL K) a) : SrcJ K T m H (.one s) (Itl K a) := fun m' H' S' g rp i => by
  unfold srcAt
  dsimp only
  cases q : at1 S' s i with
  | none => trivial
  | some o =>
    obtain ⟨ds, vs, h1, h2, h3⟩ := h m' H' S' g rp i o q
    subst h3
    cases e : ds[i]? with
    | none => exact ⟨vs, h1, at_none h2 e⟩
    | some d =>
      obtain ⟨v, e1, e2⟩ := h2.get e
      refine ⟨⟨vs, v, h1, e1⟩, fun x H2 y => ?_⟩
      obtain ⟨rfl, y⟩ := y
      have e3 := y vs h1
      rw [e1] at e3
      cases e3
      exact ⟨Grow.refl, rp, e2⟩
theorem srcJ_tup {s : S1} {a : Addr} (h : S1R K T m H s (SqT K) a) : SrcJ K T m H (.one s) (Itt K a) := fun m' H' S' g rp i => by
  unfold srcAt
  dsimp only
  cases q : at1 S' s i with
  | none => trivial
  | some o =>
    obtain ⟨ds, vs, h1, h2, h3⟩ := h m' H' S' g rp i o q
    subst h3
    cases e : ds[i]? with
    | none => exact ⟨vs, h1, at_none h2 e⟩
    | some d =>
      obtain ⟨v, e1, e2⟩ := h2.get e
      refine ⟨⟨vs, v, h1, e1⟩, fun x H2 y => ?_⟩
      obtain ⟨rfl, y⟩ := y
      have e3 := y vs h1
      rw [e1] at e3
      cases e3
      exact ⟨Grow.refl, rp, e2⟩
theorem pair_new {t : Addr} {v u : V} {d e : D} (rp : Rep K T m S H) (ht : H t = none) (h1 : RD K m H d v) (h2 : RD K m H e u) : Grow m H m (upd H t (.tup [v, u])) ∧ Rep K T m S (upd H t (.tup [v, u])) ∧ ItR K m (upd H t (.tup [v, u])) (.p d e) (.ref t) :=
  ⟨Grow.new ht, rp.new ht, t, v, u, rfl, upd_same, RD.grow (Grow.new ht) h1, RD.grow (Grow.new ht) h2⟩
theorem srcJ_enum {s : S1} {a : Addr} (h : S1R K T m H s (SqL K) a) : SrcJ K T m H (.en s) (Ite K a) := fun m' H' S' g rp i => by
  unfold srcAt
  dsimp only
  cases q : at1 S' s i with
  | none => trivial
  | some o =>
    obtain ⟨ds, vs, h1, h2, h3⟩ := h m' H' S' g rp i o q
    subst h3
    cases e : ds[i]? with
    | none => exact ⟨vs, h1, at_none h2 e⟩
    | some d =>
      obtain ⟨v, e1, e2⟩ := h2.get e
      refine ⟨⟨vs, v, h1, e1⟩, fun x H2 y => ?_⟩
      obtain ⟨t, x', rfl, ht, rfl, y⟩ := y
      have e3 := y vs h1
      rw [e1] at e3
      cases e3
      exact pair_new rp ht (by simp only [RD]) e2
theorem srcJ_zip {s s' : S1} {a b : Addr} (h : S1R K T m H s (SqL K) a) (h' : S1R K T m H s' (SqL K) b) : SrcJ K T m H (.zip s s') (Itz K a b) := fun m' H' S' g rp i => by
  unfold srcAt
  dsimp only
  cases q : at1 S' s i with
  | none => trivial
  | some o =>
    cases q' : at1 S' s' i with
    | none => cases o <;> trivial
    | some o' =>
      obtain ⟨ds, vs, h1, h2, h3⟩ := h m' H' S' g rp i o q
      obtain ⟨ds', vs', h1', h2', h3'⟩ := h' m' H' S' g rp i o' q'
      subst h3
      subst h3'
      cases e : ds[i]? with
      | none => exact ⟨vs, vs', h1, h1', .inl (at_none h2 e)⟩
      | some d =>
        cases e' : ds'[i]? with
        | none => exact ⟨vs, vs', h1, h1', .inr (at_none h2' e')⟩
        | some d' =>
          obtain ⟨v, e1, e2⟩ := h2.get e
          obtain ⟨v', e1', e2'⟩ := h2'.get e'
          refine ⟨⟨vs, vs', v, v', h1, h1', e1, e1'⟩, fun x H2 y => ?_⟩
          obtain ⟨t, x', y', rfl, ht, rfl, y, z⟩ := y
          have e3 := y vs h1
          rw [e1] at e3
          cases e3
          have e3 := z vs' h1'
          rw [e1'] at e3
          cases e3
          exact pair_new rp ht e2 e2'
theorem srcJ_zipT {s s' : S1} {a b : Addr} (h : S1R K T m H s (SqT K) a) (h' : S1R K T m H s' (SqT K) b) : SrcJ K T m H (.zip s s') (RZ.ItzT K a b) := fun m' H' S' g rp i => by
  unfold srcAt
  dsimp only
  cases q : at1 S' s i with
  | none => trivial
  | some o =>
    cases q' : at1 S' s' i with
    | none => cases o <;> trivial
    | some o' =>
      obtain ⟨ds, vs, h1, h2, h3⟩ := h m' H' S' g rp i o q
      obtain ⟨ds', vs', h1', h2', h3'⟩ := h' m' H' S' g rp i o' q'
      subst h3
      subst h3'
      cases e : ds[i]? with
      | none => exact ⟨vs, vs', h1, h1', .inl (at_none h2 e)⟩
      | some d =>
        cases e' : ds'[i]? with
        | none => exact ⟨vs, vs', h1, h1', .inr (at_none h2' e')⟩
        | some d' =>
          obtain ⟨v, e1, e2⟩ := h2.get e
          obtain ⟨v', e1', e2'⟩ := h2'.get e'
          refine ⟨⟨vs, vs', v, v', h1, h1', e1, e1'⟩, fun x H2 y => ?_⟩
          obtain ⟨t, x', y', rfl, ht, rfl, y, z⟩ := y
          have e3 := y vs h1
          rw [e1] at e3
          cases e3
          have e3 := z vs' h1'
          rw [e1'] at e3
          cases e3
          exact pair_new rp ht e2 e2'
theorem srcJ_rng {lo : Int} {n : Nat} : SrcJ K T m H (.rng lo n) (Itr lo n) := fun m' H' S' g rp i => by
  unfold srcAt
  dsimp only
  by_cases hi : i < n
  · rw [if_pos hi]
    refine ⟨hi, fun x H2 y => ?_⟩
    obtain ⟨rfl, rfl⟩ := y
    exact ⟨Grow.refl, rp, by simp only [ItR, RD]⟩
  · rw [if_neg hi]
    exact Nat.le_of_not_lt hi
theorem srcJ_str {z : Str} : SrcJ K T m H (.str z) (Its z) := fun m' H' S' g rp i => by
  unfold srcAt
  dsimp only
  cases q : z.cps[i]? with
  | none => exact Array.getElem?_eq_none_iff.mp q
  | some c =>
    refine ⟨(Array.getElem?_eq_some_iff.mp q).1, fun x H2 y => ?_⟩
    obtain ⟨rfl, c', e, rfl⟩ := y
    rw [q] at e
    cases e
    exact ⟨Grow.refl, rp, by simp only [ItR, RD]⟩
end
/-- an iterable's reading -/
def tI (K : Frag) (T : List (Addr × Str)) (W : WX) (f : Ev → Hs → R Src) : TI := fun σ H Q => ∃ m ρ S, Rep K T m S H ∧ RV K m H ρ σ ∧ Po K T (SrcJ K T) m H (f ρ S) Q (fun c d H' => W c d σ H')
def RI (X : Cx) (T : List (Addr × Str)) (W : WX) (tg e : Expr) (f : Ev → Hs → R Src) : Prop := PI X tg e (tI X.K T W f)
/-- a value as what a loop walks -/
def src1 (S : Hs) (d : D) : Option S1 := match d with
  | .lv ds => some (.fx ds)
  | .rl ds => some (.fx ds)
  | .ref n => match S[n]? with
    | some (.lst _) => some (.dy n)
    | _ => none
  | _ => none
def srcT (d : D) : Option S1 := match d with
  | .tup ds => some (.fx ds)
  | .tpx ds => some (.fx ds)
  | _ => none
def gSrc (d : D) (S : Hs) : R Src := match d with
  | .str x => .ok (.str x) S
  | d => match srcT d with
    | some s => .ok (.one s) S
    | none => match src1 S d with
      | some s => .ok (.one s) S
      | none => .stuck
def mSrc (fe : Ev → Hs → R D) : Ev → Hs → R Src := fun ρ S => (fe ρ S).bind gSrc
section
variable {K : Frag} {T : List (Addr × Str)} {m m1 m2 : Mm} {H H1 H2 : Hp} {S : Hs} {d : D} {v : V}
theorem src1_at {s : S1} (rp : Rep K T m S H) (rd : RD K m H d v) (e : src1 S d = some s) : ∃ a, v = .ref a ∧ (∃ xs, SqL K H a xs) ∧ S1R K T m H s (SqL K) a := by
  cases d <;> simp only [src1] at e <;> try cases e
  · simp only [RD] at rd
    obtain ⟨a, vs, rfl, t, n, r⟩ := rd
    exact ⟨a, rfl, ⟨vs, SqL.of t⟩, s1_list (.inl ⟨t, n⟩) r⟩
  · simp only [RD] at rd
    obtain ⟨a, vs, rfl, t, r⟩ := rd
    exact ⟨a, rfl, ⟨vs, t.sq⟩, s1_list t r⟩
  · rename_i n
    split at e
    · rename_i xs hq
      cases e
      obtain ⟨a, ho, rfl, h1, h2, vs, rfl, r⟩ := ref_at rp rd hq
      exact ⟨a, rfl, ⟨vs, SqL.of h2⟩, s1_dy h1⟩
    · cases e
theorem srcT_at {s : S1} (rd : RD K m H d v) (e : srcT d = some s) : ∃ a, v = .ref a ∧ (∃ xs, SqT K H a xs) ∧ S1R K T m H s (SqT K) a := by
  cases d <;> simp only [srcT] at e <;> try cases e
  · simp only [RD] at rd
    obtain ⟨a, vs, rfl, t, r⟩ := rd
    exact ⟨a, rfl, ⟨vs, t.sq⟩, s1_tup t r⟩
  · simp only [RD] at rd
    obtain ⟨a, vs, rfl, t, r⟩ := rd
    exact ⟨a, rfl, ⟨vs, t.tup.sq⟩, s1_tup t.tup r⟩
end
section
variable {X : Cx} {T : List (Addr × Str)} {W : WX} {e e2 tg : Expr} {fe fe2 : Ev → Hs → R D} {fs : Ev → Hs → R (List D)} {pos p tpos : Pos} {elts : List Expr} {kk : Nat}
theorem ri_any (he : RE X T W e fe) : RI X T W tg e (mSrc fe) := by
  refine ⟨fun pins s σ H Q I h => ?_⟩
  obtain ⟨m, ρ, S, rp, rv, po⟩ := h
  unfold mSrc at po
  cases q : fe ρ S with
  | stuck => rw [q] at po; exact po.elim
  | exc x fs S1 =>
    rw [q] at po
    exact (pi_list he).run pins s σ H Q I ⟨m, ρ, S, rp, rv, by rw [q]; exact po⟩
  | ok d S1 =>
    rw [q] at po
    replace po : Po X.K T (SrcJ X.K T) m H (gSrc d S1) Q (fun c d H' => W c d σ H') := po
    unfold gSrc at po
    split at po
    · rename_i z
      refine (pi_str he).run pins s σ H Q I ⟨m, ρ, S, rp, rv, ?_⟩
      rw [q]
      exact fun v m' H' g rp' rd => ⟨z, rd, po _ m' H' g rp' srcJ_str⟩
    · split at po
      · rename_i s1 hs
        refine (pi_tup he).run pins s σ H Q I ⟨m, ρ, S, rp, rv, ?_⟩
        rw [q]
        refine fun v m' H' g rp' rd => ?_
        obtain ⟨a, rfl, hx, h1⟩ := srcT_at (T := T) rd hs
        exact ⟨a, rfl, hx, po _ m' H' g rp' (srcJ_tup h1)⟩
      · split at po
        · rename_i s1 hs
          refine (pi_list he).run pins s σ H Q I ⟨m, ρ, S, rp, rv, ?_⟩
          rw [q]
          refine fun v m' H' g rp' rd => ?_
          obtain ⟨a, rfl, hx, h1⟩ := src1_at rp' rd hs
          exact ⟨a, rfl, hx, po _ m' H' g rp' (srcJ_list h1)⟩
        · exact po.elim
def gRng (ds : List D) (S : Hs) : R Src := match ds with
  | [.int j] => if -(2 ^ 62) ≤ j ∧ j < 2 ^ 62 then .ok (.rng 0 j.toNat) S else .stuck
  | [.int i, .int j] => if -(2 ^ 62) ≤ i ∧ i < 2 ^ 62 ∧ -(2 ^ 62) ≤ j ∧ j < 2 ^ 62 then .ok (.rng i (j - i).toNat) S else .stuck
  | _ => .stuck
def mRng (fs : Ev → Hs → R (List D)) : Ev → Hs → R Src := fun ρ S => (fs ρ S).bind gRng
theorem ri_rng1 (hg : Gl X "range") (hm : X.mg "range" = none) (ha : RA X T W [e] fs) (hs : starEach [e] X.env = [(false, eval e X.env)]) : RI X T W tg (.Call (.Name "range" p) [e] [] pos) (fun ρ S => (fs ρ S).bind fun ds S1 => if ds.length = 1 then gRng ds S1 else .stuck) := by
  refine ⟨fun pins s σ H Q I h => (pi_range1 hg hm ha hs).run pins s σ H Q I ?_⟩
  obtain ⟨m, ρ, S, rp, rv, po⟩ := tG_bind (rel := RDs X.K) h
  refine ⟨m, ρ, S, rp, rv, po.mono fun vs H1 ⟨m1, ρ1, S1, ds, rp1, rv1, rds, po1⟩ => ?_⟩
  split at po1
  · rename_i hl
    unfold gRng at po1
    split at po1
    · rename_i j
      obtain ⟨w, rfl, hw⟩ := rds1 rds
      cases (show w = .int j from hw)
      split at po1
      · rename_i hj
        exact ⟨j, rfl, hj.1, hj.2, po1 _ m1 H1 Grow.refl rp1 srcJ_rng⟩
      · exact po1.elim
    · simp at hl
    · exact po1.elim
  · exact po1.elim
theorem ri_rng2 (hg : Gl X "range") (hm : X.mg "range" = none) (ha : RA X T W [e, e2] fs) (hs : starEach [e, e2] X.env = [(false, eval e X.env), (false, eval e2 X.env)]) (hs2 : starEach [e2] X.env = [(false, eval e2 X.env)]) : RI X T W tg (.Call (.Name "range" p) [e, e2] [] pos) (fun ρ S => (fs ρ S).bind fun ds S1 => if ds.length = 2 then gRng ds S1 else .stuck) := by
  refine ⟨fun pins s σ H Q I h => (pi_range2 hg hm ha hs hs2).run pins s σ H Q I ?_⟩
  obtain ⟨m, ρ, S, rp, rv, po⟩ := tG_bind (rel := RDs X.K) h
  refine ⟨m, ρ, S, rp, rv, po.mono fun vs H1 ⟨m1, ρ1, S1, ds, rp1, rv1, rds, po1⟩ => ?_⟩
  split at po1
  · rename_i hl
    unfold gRng at po1
    split at po1
    · simp at hl
    · rename_i i j
      obtain ⟨w, w2, rfl, hw, hw2⟩ := rds2 rds
      cases (show w = .int i from hw)
      cases (show w2 = .int j from hw2)
      split at po1
      · rename_i hj
        exact ⟨i, j, rfl, hj, po1 _ m1 H1 Grow.refl rp1 srcJ_rng⟩
      · exact po1.elim
    · exact po1.elim
  · exact po1.elim
def gEnum (ds : List D) (S : Hs) : R Src := match ds with
  | [d] => match src1 S d with
    | some s => .ok (.en s) S
    | none => .stuck
  | _ => .stuck
def gZip (ds : List D) (S : Hs) : R Src := match ds with
  | [d, d'] => match src1 S d with
    | some s => match src1 S d' with
      | some s' => .ok (.zip s s') S
      | none => .stuck
    | none => match srcT d with
      | some s => match srcT d' with
        | some s' => .ok (.zip s s') S
        | none => .stuck
      | none => .stuck
  | _ => .stuck
theorem ri_enum (hg : Gl X "enumerate") (hm : X.mg "enumerate" = none) (ha : RA X T W [e] fs) (hs : starEach [e] X.env = [(false, eval e X.env)]) : RI X T W (.Tuple elts kk tpos) (.Call (.Name "enumerate" p) [e] [] pos) (fun ρ S => (fs ρ S).bind gEnum) := by
  refine ⟨fun pins s σ H Q I h => (pi_enum hg hm ha hs).run pins s σ H Q I ?_⟩
  obtain ⟨m, ρ, S, rp, rv, po⟩ := tG_bind (rel := RDs X.K) h
  refine ⟨m, ρ, S, rp, rv, po.mono fun vs H1 ⟨m1, ρ1, S1, ds, rp1, rv1, rds, po1⟩ => ?_⟩
  unfold gEnum at po1
  split at po1
  · obtain ⟨w, rfl, hw⟩ := rds1 rds
    split at po1
    · rename_i s1 hs1
      obtain ⟨a, rfl, ⟨xs, hx⟩, h1⟩ := src1_at rp1 hw hs1
      exact ⟨a, xs, rfl, hx, po1 _ m1 H1 Grow.refl rp1 (srcJ_enum h1)⟩
    · exact po1.elim
  · exact po1.elim
theorem ri_zip (hg : Gl X "zip") (hm : X.mg "zip" = none) (ha : RA X T W [e, e2] fs) (hs : starEach [e, e2] X.env = (false, eval e X.env) :: starEach [e2] X.env) (hpl : (backTo pos (starEach [e2] X.env)).any (·.1) = false) : RI X T W (.Tuple elts kk tpos) (.Call (.Name "zip" p) [e, e2] [] pos) (fun ρ S => (fs ρ S).bind gZip) := by
  refine ⟨fun pins s σ H Q I h => (RZ.pi_zipA hg hm ha hs hpl).run pins s σ H Q I ?_⟩
  obtain ⟨m, ρ, S, rp, rv, po⟩ := tG_bind (rel := RDs X.K) h
  refine ⟨m, ρ, S, rp, rv, po.mono fun vs H1 ⟨m1, ρ1, S1, ds, rp1, rv1, rds, po1⟩ => ?_⟩
  unfold gZip at po1
  split at po1
  · obtain ⟨w, w2, rfl, hw, hw2⟩ := rds2 rds
    split at po1
    · rename_i s1 hs1
      split at po1
      · rename_i s2 hs2
        obtain ⟨a, rfl, ⟨xs, hx⟩, h1⟩ := src1_at rp1 hw hs1
        obtain ⟨b, rfl, ⟨ys, hy⟩, h2⟩ := src1_at rp1 hw2 hs2
        exact ⟨a, b, xs, ys, rfl, .inl ⟨hx, hy, po1 _ m1 H1 Grow.refl rp1 (srcJ_zip h1 h2)⟩⟩
      · exact po1.elim
    · split at po1
      · rename_i s1 hs1
        split at po1
        · rename_i s2 hs2
          obtain ⟨a, rfl, ⟨xs, hx⟩, h1⟩ := srcT_at (T := T) hw hs1
          obtain ⟨b, rfl, ⟨ys, hy⟩, h2⟩ := srcT_at (T := T) hw2 hs2
          exact ⟨a, b, xs, ys, rfl, .inr ⟨hx, hy, po1 _ m1 H1 Grow.refl rp1 (srcJ_zipT h1 h2)⟩⟩
        · exact po1.elim
      · exact po1.elim
  · exact po1.elim
end
end Pv

set_option maxHeartbeats 4000000
/-! Pv11: targets, for, while, list comprehensions, dict displays, o[i] = e. -/
namespace Pv
open PySem PySem.Spec PyProof.Rows L2

inductive Tg where
  | v (i : Nat) | t (is : List Nat)
def putIt (S : Hs) (tg : Tg) (it : Itm) (ρ : Ev) : Option Ev := match tg, it with
  | .v i, .d x => some (ρ.set i (some x))
  | .t is, .d x => match sOf S x with
    | .t ds => sets ρ is ds
    | .l ds => sets ρ is ds
    | .no => none
  | .t is, .p x y => sets ρ is [x, y]
  | .v _, .p _ _ => none
inductive TgAt (X : Cx) : Tg → Expr → Prop where
  | v {x : Str} {p : Pos} {i : Nat} (hi : X.N[i]? = some x) (hx : Loc X.env.scope x) (hf : X.fn x = true ∨ X.env.scope.names.lookup x = some .local) : TgAt X (.v i) (.Name x p)
  | t {es : List Expr} {is : List Nat} {k : Nat} {p : Pos} (h : NamesAt X es is) : TgAt X (.t is) (.Tuple es k p)
def gTg (K : Frag) : Tg → TG
  | .v i => gName i
  | .t is => gSeq K is.length (gNames is)
/-- the slots that a target writes -/
def Tg.ix : Tg → List Nat
  | .v i => [i]
  | .t is => is
section
variable {X : Cx} {K : Frag} {T : List (Addr × Str)} {m : Mm} {H : Hp} {S : Hs}
theorem pg_tg {tg : Tg} {e : Expr} (hc : X.calm = true) (hN : X.N.Nodup) (h : TgAt X tg e) : PG X e (gTg X.K tg) := by
  cases h with
  | v hi hx hf => exact pg_name hN hi hx hf
  | t h => exact pg_seq hc (h.pgs hN) h.len.1 h.len.2
/-- only these slots differ -/
def Same (ix : List Nat) (σ σ' : L2.St) : Prop := σ'.length = σ.length ∧ ∀ i, i ∉ ix → σ'[i]? = σ[i]?
theorem same_set {σ : L2.St} {i : Nat} {x : Option V} : Same [i] σ (σ.set i x) :=
  ⟨by simp, fun j hj => by rw [List.getElem?_set_ne (fun z => hj (by simp [z]))]⟩
theorem same_sets : ∀ {is : List Nat} {vs : List V} {σ : L2.St}, Same is σ (stSets σ is vs)
  | [], _, σ => ⟨rfl, fun _ _ => rfl⟩
  | i :: is, [], σ => ⟨rfl, fun _ _ => rfl⟩
  | i :: is, v :: vs, σ => by
    obtain ⟨h1, h2⟩ := same_sets (is := is) (vs := vs) (σ := σ.set i (some v))
    refine ⟨by simp only [stSets]; rw [h1]; simp, fun j hj => ?_⟩
    simp only [stSets]
    rw [h2 j (fun z => hj (List.mem_cons_of_mem _ z)), List.getElem?_set_ne (fun z => hj (by rw [z]; exact List.mem_cons_self ..))]
theorem gTg_run {tg : Tg} {it : Itm} {x : V} {ρ ρ' : Ev} {σ : L2.St} (rp : Rep K T m S H) (rv : RV K m H ρ σ) (ir : ItR K m H it x) (h : putIt S tg it ρ = some ρ') : ∃ σ', RV K m H ρ' σ' ∧ Same tg.ix σ σ' ∧ ∀ Q : L2.St → Hp → Prop, Q σ' H → gTg K tg x σ H Q := by
  unfold putIt at h
  split at h
  · rename_i i d
    cases h
    exact ⟨σ.set i (some x), rv.set i ir, same_set, fun Q q => q⟩
  · rename_i is d
    split at h
    · rename_i ds hd
      obtain ⟨a, vs, rfl, e1, r1⟩ := sOf_t (show RD K m H d x from ir) hd
      exact ⟨stSets σ is vs, sets_rv rv r1 h, same_sets, fun Q q => .inl ⟨a, vs, rfl, e1, by rw [r1.len, sets_len h], gNames_run (by rw [r1.len, sets_len h]) q⟩⟩
    · rename_i ds hd
      obtain ⟨a, vs, rfl, e1, r1⟩ := sOf_l rp (show RD K m H d x from ir) hd
      exact ⟨stSets σ is vs, sets_rv rv r1 h, same_sets, fun Q q => .inr ⟨a, vs, rfl, e1, by rw [r1.len, sets_len h], gNames_run (by rw [r1.len, sets_len h]) q⟩⟩
    · cases h
  · rename_i is d d2
    obtain ⟨t, v, u, rfl, e1, h1, h2⟩ := ir
    have r1 : RDs K m H [d, d2] [v, u] := RDs.cons h1 (RDs.cons h2 RDs.nil)
    have hl : is.length = 2 := sets_len h
    exact ⟨stSets σ is [v, u], sets_rv rv r1 h, same_sets, fun Q q => .inl ⟨t, [v, u], rfl, SqT.of e1, by rw [hl]; rfl, gNames_run (by rw [hl]; rfl) q⟩⟩
  · cases h
end
/-! ### for -/
def forGo (src : Src) (tg : Tg) (body : Ev → Hs → SR) : Nat → Nat → Ev → Hs → SR
  | 0, i, ρ, S => match srcAt S src i with
    | some none => .nx ρ S
    | _ => .stuck
  | f + 1, i, ρ, S => match srcAt S src i with
    | some none => .nx ρ S
    | some (some it) => match putIt S tg it ρ with
      | some ρ1 => match body ρ1 S with
        | .nx ρ2 S2 => forGo src tg body f (i + 1) ρ2 S2
        | .ct ρ2 S2 => forGo src tg body f (i + 1) ρ2 S2
        | .bk ρ2 S2 => .nx ρ2 S2
        | r => r
      | none => .stuck
    | none => .stuck
def sFor (tg : Tg) (fi : Ev → Hs → R Src) (body : Ev → Hs → SR) : Ev → Hs → SR := fun ρ S => (fi ρ S).toS ρ fun src S1 => forGo src tg body (fuelOf S1 src) 0 ρ S1
section
variable {X : Cx} {T : List (Addr × Str)} {W : WX} {e te iter : Expr} {body : List Stmt} {fi : Ev → Hs → R Src} {f : Ev → Hs → SR} {tg : Tg} {pos : Pos}
theorem rs_for (hp : PassesOwn (model X.prog X.w) X.A X.env X.xe) (hc : X.calm = true) (hN : X.N.Nodup) (hi : RI X T W te iter fi) (hg : TgAt X tg te) (hb : RSs X T W body f) (hs : ∀ x, foldedSetIterable iter X.env x = pure x) :
    RS X T W (.For te iter body [] pos) (sFor tg fi f) := by
  refine ⟨fun pins s σ H E I hh => (ps_for hp hc hi (pg_tg hc hN hg) hb hs).run pins s σ H E I ?_⟩
  obtain ⟨m, ρ, S, rp, rv, po⟩ := hh
  refine ⟨m, ρ, S, rp, rv, (PoS.toS (rel := SrcJ X.K T) rv po).mono fun J H1 ⟨src, S1, m1, rp1, rv1, g1, hJ, po1⟩ => ?_⟩
  refine ⟨fun i k σ' H' => ∃ m' ρ' S', Grow m1 H1 m' H' ∧ Rep X.K T m' S' H' ∧ RV X.K m' H' ρ' σ' ∧ PoS X.K T m' H' (forGo src tg f k i ρ' S') E W, ⟨fuelOf S1 src, m1, ρ, S1, Grow.refl, rp1, rv1, po1⟩, ?_⟩
  intro i k σ' H' ⟨m', ρ', S', g', rp', rv', po'⟩
  have q := hJ m' H' S' g'.mv rp' i
  cases k with
  | zero =>
    unfold forGo at po'
    cases hq : srcAt S' src i with
    | none => rw [hq] at po'; exact po'.elim
    | some o =>
      cases o with
      | none =>
        rw [hq] at po' q
        exact .inl ⟨q, po' σ' m' H' Grow.refl rp' rv'⟩
      | some it => rw [hq] at po'; exact po'.elim
  | succ k =>
    unfold forGo at po'
    cases hq : srcAt S' src i with
    | none => rw [hq] at po'; exact po'.elim
    | some o =>
      cases o with
      | none =>
        rw [hq] at po' q
        exact .inl ⟨q, po' σ' m' H' Grow.refl rp' rv'⟩
      | some it =>
        rw [hq] at po' q
        dsimp only at po' q
        cases hput : putIt S' tg it ρ' with
        | none => rw [hput] at po'; exact po'.elim
        | some ρ1 =>
          rw [hput] at po'
          dsimp only at po'
          refine .inr ⟨q.1, fun σ'' H'' => ∃ m'' ρ'' S'', Grow m1 H1 m'' H'' ∧ Rep X.K T m'' S'' H'' ∧ RV X.K m'' H'' ρ'' σ'' ∧ PoS X.K T m'' H'' (forGo src tg f k (i + 1) ρ'' S'') E W, fun σ'' H'' h => ⟨k, Nat.lt_succ_self _, h⟩, fun x H2 y => ?_⟩
          obtain ⟨g2, rp2, ir⟩ := q.2 x H2 y
          obtain ⟨σ1, rv1, _, hrun⟩ := gTg_run rp2 (rv'.grow g2) ir hput
          refine hrun _ ⟨m', ρ1, S', rp2, rv1, ?_⟩
          have po2 := PoS.grow (r := _) g2 po'
          clear po'
          have gg := g'.trans g2
          revert po2
          cases f ρ1 S' with
          | nx ρ2 S2 => exact fun po2 σ3 m3 H3 g3 rp3 rv3 => ⟨m3, ρ2, S2, gg.trans g3, rp3, rv3, PoS.grow g3 po2⟩
          | ct ρ2 S2 => exact fun po2 σ3 m3 H3 g3 rp3 rv3 => ⟨m3, ρ2, S2, gg.trans g3, rp3, rv3, PoS.grow g3 po2⟩
          | bk ρ2 S2 => exact fun po2 => po2
          | rt d S2 => exact fun po2 => po2
          | exc x fs ρ2 S2 => exact fun po2 => po2
          | stuck => exact fun po2 => po2
/-! ### while -/
def whGo (fc : Ev → Hs → R D) (body : Ev → Hs → SR) : Nat → Ev → Hs → SR
  | 0, _, _ => .stuck
  | f + 1, ρ, S => (mB fc ρ S).toS ρ fun b S1 => if b = true then match body ρ S1 with
      | .nx ρ2 S2 => whGo fc body f ρ2 S2
      | .ct ρ2 S2 => whGo fc body f ρ2 S2
      | .bk ρ2 S2 => .nx ρ2 S2
      | r => r
    else .nx ρ S1
theorem rs_while {c : Expr} {fc : Ev → Hs → R D} (n : Nat) (hp : PassesOwn (model X.prog X.w) X.A X.env X.xe) (hc : RT X T W c (mB fc)) (hb : RSs X T W body f) : RS X T W (.While c body [] pos) (whGo fc f n) := by
  refine ⟨fun pins s σ H E I hh => (ps_while hp hc hb).run pins s σ H E I ?_⟩
  obtain ⟨m, ρ, S, rp, rv, po⟩ := hh
  refine ⟨fun k σ' H' => ∃ m' ρ' S', Rep X.K T m' S' H' ∧ RV X.K m' H' ρ' σ' ∧ PoS X.K T m' H' (whGo fc f k ρ' S') E W, ⟨n, m, ρ, S, rp, rv, po⟩, ?_⟩
  intro k σ' H' ⟨m', ρ', S', rp', rv', po'⟩
  cases k with
  | zero => exact po'.elim
  | succ k =>
    unfold whGo at po'
    refine ⟨m', ρ', S', rp', rv', (PoS.toS (rel := relB) rv' po').mono fun b H1 ⟨b', S1, m1, rp1, rv1, g1, hb', po1⟩ => ?_⟩
    cases (show b = b' from hb')
    cases b with
    | false => exact po1 σ' m1 H1 Grow.refl rp1 rv1
    | true =>
      rw [if_pos rfl]
      rw [if_pos rfl] at po1
      refine ⟨fun σ'' H'' => ∃ m'' ρ'' S'', Rep X.K T m'' S'' H'' ∧ RV X.K m'' H'' ρ'' σ'' ∧ PoS X.K T m'' H'' (whGo fc f k ρ'' S'') E W, fun σ'' H'' h => ⟨k, Nat.lt_succ_self _, h⟩, m1, ρ', S1, rp1, rv1, ?_⟩
      revert po1
      cases f ρ' S1 with
      | nx ρ2 S2 => exact fun po2 σ3 m3 H3 g3 rp3 rv3 => ⟨m3, ρ2, S2, rp3, rv3, PoS.grow g3 po2⟩
      | ct ρ2 S2 => exact fun po2 σ3 m3 H3 g3 rp3 rv3 => ⟨m3, ρ2, S2, rp3, rv3, PoS.grow g3 po2⟩
      | bk ρ2 S2 => exact fun po2 => po2
      | rt d S2 => exact fun po2 => po2
      | exc x fs ρ2 S2 => exact fun po2 => po2
      | stuck => exact fun po2 => po2
end
/-! ### list comprehensions -/
def R.nox {α : Type} (r : R α) : R α := match r with
  | .ok a S => .ok a S
  | _ => .stuck
def wipeE (ρ : Ev) : List Nat → Ev
  | [] => ρ
  | v :: vs => (wipeE ρ vs).set v none
def cGo (src : Src) (tg : Tg) (fc : Option (Ev → Hs → R D)) (fe : Ev → Hs → R D) (ρ : Ev) : Nat → Nat → List D → Hs → R (List D)
  | 0, i, acc, S => match srcAt S src i with
    | some none => .ok acc S
    | _ => .stuck
  | f + 1, i, acc, S => match srcAt S src i with
    | some none => .ok acc S
    | some (some it) => match putIt S tg it ρ with
      | some ρ1 => (match fc with
        | none => R.ok true S
        | some fc => (mB fc ρ1 S).nox).bind fun b S1 => if b = true then (fe ρ1 S1).nox.bind fun y S2 => if acc.length < sizeLine then cGo src tg fc fe ρ f (i + 1) (acc ++ [y]) S2 else .stuck
          else cGo src tg fc fe ρ f (i + 1) acc S1
      | none => .stuck
    | none => .stuck
def mLc (mt : Bool) (vs : List Nat) (tg : Tg) (fi : Ev → Hs → R Src) (fc : Option (Ev → Hs → R D)) (fe : Ev → Hs → R D) : Ev → Hs → R D := fun ρ S => (fi ρ S).bind fun src S1 => (cGo src tg fc fe (wipeE ρ vs) (fuelOf S1 src) 0 [] S1).bind fun acc S2 => nwl mt acc S2
section
variable {K : Frag} {T : List (Addr × Str)} {m m1 m2 : Mm} {H H1 H2 : Hp} {S : Hs}
theorem rv_wipe {ρ : Ev} {σ : L2.St} (r : RV K m H ρ σ) : ∀ vs : List Nat, RV K m H (wipeE ρ vs) (wipe σ vs)
  | [] => r
  | v :: vs => (rv_wipe r vs).set0 v none
theorem wipe_get {σ : L2.St} {i : Nat} : ∀ vs : List Nat, (wipe σ vs)[i]? = if i ∈ vs then σ[i]?.map fun _ => none else σ[i]?
  | [] => by simp [wipe]
  | v :: vs => by
    have ih := wipe_get (σ := σ) (i := i) vs
    show ((wipe σ vs).set v none)[i]? = _
    by_cases hv : v = i
    · subst hv
      rw [if_pos (List.mem_cons_self ..)]
      by_cases hl : v < σ.length
      · rw [List.getElem?_set_self (by rw [wipe_length]; exact hl), List.getElem?_eq_getElem hl]
        rfl
      · rw [List.getElem?_eq_none (by simp [wipe_length]; omega), List.getElem?_eq_none (by omega)]
        rfl
    · rw [List.getElem?_set_ne hv, ih]
      by_cases hi : i ∈ vs
      · rw [if_pos hi, if_pos (List.mem_cons_of_mem _ hi)]
      · rw [if_neg hi, if_neg (fun z => (List.mem_cons.mp z).elim (fun e => hv e.symm) hi)]
theorem wipe_same {σ σ' : L2.St} {ix vs : List Nat} (h : Same ix (wipe σ vs) σ') (hi : ∀ i ∈ ix, i ∈ vs) : wipe σ' vs = wipe σ vs := by
  refine List.ext_getElem? fun i => ?_
  rw [wipe_get, wipe_get]
  by_cases hv : i ∈ vs
  · rw [if_pos hv, if_pos hv]
    have hl : σ'.length = σ.length := by rw [h.1, wipe_length]
    by_cases hb : i < σ.length
    · rw [List.getElem?_eq_getElem (by rw [hl]; exact hb), List.getElem?_eq_getElem hb]
      rfl
    · rw [List.getElem?_eq_none (by omega), List.getElem?_eq_none (by omega)]
  · rw [if_neg hv, if_neg hv, h.2 i (fun z => hv (hi i z)), wipe_get, if_neg hv]
/-- a step within a comprehension: what goes on is told at the outer heap -/
theorem Po.inner {α β γ δ : Type} {rel : Mm → Hp → α → β → Prop} {rel2 : Mm → Hp → γ → δ → Prop} {r : R α} {k : α → Hs → R γ} {Q : δ → Hp → Prop} {W W' : Value → Option Addr → Hp → Prop} (p : Po K T rel2 m1 H1 (r.nox.bind k) Q W') :
    Po K T rel m2 H2 r (fun v H' => ∃ x S' m3, Grow m2 H2 m3 H' ∧ Rep K T m3 S' H' ∧ rel m3 H' x v ∧ Po K T rel2 m1 H1 (k x S') Q W') W := by
  cases r with
  | ok d S' => exact fun v m3 H' g rp h => ⟨d, S', m3, g, rp, h, p⟩
  | exc x fs S' => exact p.elim
  | stuck => exact p.elim
end
def WF : WX := fun _ _ _ _ => False
section
variable {X : Cx} {T : List (Addr × Str)} {W : WX} {elt te iter : Expr} {ifs : List Expr} {scope : Scope} {own : List (Str × Nat)} {fi : Ev → Hs → R Src} {fc : Option (Ev → Hs → R D)} {fe : Ev → Hs → R D} {tg : Tg} {pos : Pos} {mt : Bool}
/-- the tests of a clause -/
def tTs (K : Frag) (T : List (Addr × Str)) (fc : Option (Ev → Hs → R D)) : TT := match fc with
  | none => tYes
  | some fc => tT K T WF (mB fc)
def RTs (X : Cx) (T : List (Addr × Str)) (ifs : List Expr) (fc : Option (Ev → Hs → R D)) : Prop := match ifs, fc with
  | [], none => True
  | [c], some fc => RT X T WF c (mB fc)
  | _, _ => False
theorem RTs.pts (h : RTs X T ifs fc) : PTs X ifs (tTs X.K T fc) := by
  match ifs, fc, h with
  | [], none, _ => exact pts_nil
  | [c], some fc, h => exact pts_one h
theorem lc_read {σ : L2.St} {H : Hp} {Q : VK} {K : Frag} (ht : ∀ i ∈ tg.ix, i ∈ own.map (·.2)) (h : tE K T W (mLc mt (own.map (·.2)) tg fi fc fe) σ H Q) :
    tLc (tI K T W fi) (gTg K tg) (tTs K T fc) (tE K T WF fe) (own.map (·.2)) σ H Q := by
  obtain ⟨m, ρ, S, rp, rv, po⟩ := h
  refine ⟨m, ρ, S, rp, rv, (Po.bind (rel := SrcJ K T) po).mono fun J H1 ⟨src, S1, m1, _, g1, rp1, hJ, po1⟩ Dd hD => ?_⟩
  have rv1 := rv.grow g1
  have hDv : Dd ∉ m1 := rp1.notin hD
  refine ⟨fun i k H' => ∃ ext S' acc vs, Grow m1 H1 (m1.add ext) H' ∧ Rep K T ((m1.add ext).hide Dd) S' H' ∧ H' Dd = some (.lst vs) ∧ RDs K ((m1.add ext).hide Dd) H' acc vs ∧
    Po K T (RD K) m1 H1 ((cGo src tg fc fe (wipeE ρ (own.map (·.2))) k i acc S').bind fun acc S2 => nwl mt acc S2) Q (fun c d H' => W c d σ H'), ⟨fuelOf S1 src, [], S1, [], [], ?_, ?_, upd_same, RDs.nil, po1⟩, ?_⟩
  · have := Grow.new (m := m1) (o := .lst []) hD
    simpa [Mm.add] using this
  · have := rp1.hide (o := .lst []) hD (fun _ z => nomatch z)
    simpa [Mm.add] using this
  · intro i k H' ⟨ext, S', acc, vs, gu, rp', hDl, racc, po'⟩
    have ru : Rep K T (m1.add ext) S' H' := Rep.unhide (p := Dd) rp'
    have mv1 : Mv m1 H1 ((m1.add ext).hide Dd) H' := ⟨gu.mv.at_, fun a o e n t => ⟨(gu.mv.keep a o e n t).1, fun z => (hide_mem.mp z).elim (ne_of_none e hD) (gu.mv.keep a o e n t).2⟩⟩
    have q := hJ _ H' S' mv1 rp' i
    have fin : Po K T (RD K) m1 H1 (nwl mt acc S') Q (fun c d H' => W c d σ H') → Q (.ref Dd) H' := fun pf => by
      cases mt with
      | false =>
        refine pf (.ref Dd) (m1.add ext) H' gu ru ?_
        simp only [RD]
        refine ⟨Dd, vs, rfl, hDl, fun z => ?_, RDs.mv (Mv.unhide (p := Dd)) racc⟩
        rcases z with z | z
        · exact (rp'.hid Dd (List.mem_cons_self ..)).1 z
        · exact hDv (.inr z)
      | true =>
        have hnh : Dd ∉ (m1.add ext).h := fun z => hDv (.inr z)
        have rs := Rep.show_ (m := m1.add ext) (o := .lst acc) rp' hDl ⟨vs, rfl, racc⟩ hnh
        refine pf (.ref Dd) ((m1.add ext).add [Dd]) H' ?_ rs ?_
        · obtain ⟨e1, h1, h2, h3⟩ := gu
          refine ⟨e1 ++ [Dd], ?_, fun a ha o e => ?_, h3⟩
          · have he : e1 = ext := by
              injection h1 with h4 _
              exact (List.append_cancel_left h4).symm
            simp [Mm.add, he]
          · rcases List.mem_append.mp ha with ha | ha
            · exact h2 a ha o e
            · rw [List.mem_singleton.mp ha, hD] at e; cases e
        · simp only [RD]
          refine ⟨Dd, rfl, ?_⟩
          have := rp'.len
          show ((m1.v ++ ext) ++ [Dd])[S'.length]? = some Dd
          rw [List.getElem?_append_right (by rw [← this]; exact Nat.le_refl _), ← this]
          simp
    cases k with
    | zero =>
      unfold cGo at po'
      cases hq : srcAt S' src i with
      | none => rw [hq] at po'; exact po'.elim
      | some o =>
        cases o with
        | none => rw [hq] at po' q; exact .inl ⟨q, fin po'⟩
        | some it => rw [hq] at po'; exact po'.elim
    | succ k =>
      unfold cGo at po'
      cases hq : srcAt S' src i with
      | none => rw [hq] at po'; exact po'.elim
      | some o =>
        cases o with
        | none => rw [hq] at po' q; exact .inl ⟨q, fin po'⟩
        | some it =>
          rw [hq] at po' q
          dsimp only at po' q
          cases hput : putIt S' tg it (wipeE ρ (own.map (·.2))) with
          | none => rw [hput] at po'; exact po'.elim
          | some ρ1 =>
            rw [hput] at po'
            dsimp only at po'
            refine .inr ⟨q.1, fun H'' => ∃ ext S' acc vs, Grow m1 H1 (m1.add ext) H'' ∧ Rep K T ((m1.add ext).hide Dd) S' H'' ∧ H'' Dd = some (.lst vs) ∧ RDs K ((m1.add ext).hide Dd) H'' acc vs ∧
              Po K T (RD K) m1 H1 ((cGo src tg fc fe (wipeE ρ (own.map (·.2))) k (i + 1) acc S').bind fun acc S2 => nwl mt acc S2) Q (fun c d H' => W c d σ H'), fun H'' h => ⟨k, Nat.lt_succ_self _, h⟩, fun x H2 y => ?_⟩
            obtain ⟨g2, rp2, ir⟩ := q.2 x H2 y
            have hDn : Dd ∉ (m1.add ext).v := (rp'.hid Dd (List.mem_cons_self ..)).1
            have hD2 : H2 Dd = some (.lst vs) := g2.keep.keep Dd _ hDl hDn (fun _ z => nomatch z)
            have rvw : RV K ((m1.add ext).hide Dd) H2 (wipeE ρ (own.map (·.2))) (wipe σ (own.map (·.2))) := (rv_wipe ((rv1.mv mv1).grow g2) _)
            obtain ⟨σ1, rv2, same, hrun⟩ := gTg_run rp2 rvw ir hput
            refine hrun _ ⟨wipe_same same ht, ?_⟩
            -- one turn's rest
            have rest : ∀ (b : Bool) (m3 : Mm) (H3 : Hp) (S3 : Hs), Grow ((m1.add ext).hide Dd) H2 m3 H3 → Rep K T m3 S3 H3 →
                Po K T (RD K) m1 H1 ((if b = true then (fe ρ1 S3).nox.bind fun y S2 => if acc.length < sizeLine then cGo src tg fc fe (wipeE ρ (own.map (·.2))) k (i + 1) (acc ++ [y]) S2 else .stuck
                  else cGo src tg fc fe (wipeE ρ (own.map (·.2))) k (i + 1) acc S3).bind fun acc S2 => nwl mt acc S2) Q (fun c d H' => W c d σ H') →
                if b = true then tE K T WF fe σ1 H3 fun y H4 => ∃ acc', H4 Dd = some (.lst acc') ∧ acc'.length < sizeLine ∧ ∃ ext S' acc vs, Grow m1 H1 (m1.add ext) (upd H4 Dd (.lst (acc' ++ [y]))) ∧ Rep K T ((m1.add ext).hide Dd) S' (upd H4 Dd (.lst (acc' ++ [y]))) ∧ upd H4 Dd (.lst (acc' ++ [y])) Dd = some (.lst vs) ∧ RDs K ((m1.add ext).hide Dd) (upd H4 Dd (.lst (acc' ++ [y]))) acc vs ∧
                  Po K T (RD K) m1 H1 ((cGo src tg fc fe (wipeE ρ (own.map (·.2))) k (i + 1) acc S').bind fun acc S2 => nwl mt acc S2) Q (fun c d H' => W c d σ H')
                else ∃ ext S' acc vs, Grow m1 H1 (m1.add ext) H3 ∧ Rep K T ((m1.add ext).hide Dd) S' H3 ∧ H3 Dd = some (.lst vs) ∧ RDs K ((m1.add ext).hide Dd) H3 acc vs ∧
                  Po K T (RD K) m1 H1 ((cGo src tg fc fe (wipeE ρ (own.map (·.2))) k (i + 1) acc S').bind fun acc S2 => nwl mt acc S2) Q (fun c d H' => W c d σ H') := by
              intro b m3 H3 S3 g3 rp3 po3
              have gA := g2.trans g3
              have hDn2 : Dd ∉ ((m1.add ext).hide Dd).v := hDn
              have hD3 : H3 Dd = some (.lst vs) := g3.keep.keep Dd _ hD2 hDn2 (fun _ z => nomatch z)
              obtain ⟨ext3, rfl, gB⟩ := gA.strip
              cases b with
              | false =>
                refine ⟨ext ++ ext3, S3, acc, vs, ?_, ?_, hD3, ?_, po3⟩
                · have := gu.trans gB
                  simpa [Mm.add] using this
                · simpa [Mm.add] using rp3
                · simpa [Mm.add] using RDs.grow gA racc
              | true =>
                simp only [if_true] at po3 ⊢
                rw [R.bind_assoc] at po3
                refine ⟨_, ρ1, S3, rp3, rv2.grow g3, (Po.inner (rel := RD K) (W := fun _ _ _ => False) po3).mono fun y H4 ⟨yd, S4, m4, g4, rp4, ry, po4⟩ => ?_⟩
                have gC := gA.trans g4
                have hD4 : H4 Dd = some (.lst vs) := g4.keep.keep Dd _ hD3 (rp3.hid Dd (List.mem_cons_self ..)).1 (fun _ z => nomatch z)
                obtain ⟨ext4, hm4, gD⟩ := gC.strip
                subst hm4
                rw [R.bind_if] at po4
                split at po4
                · rename_i hz
                  refine ⟨vs, hD4, by rw [racc.len]; exact hz, ext ++ ext4, S4, acc ++ [yd], vs ++ [y], ?_, ?_, upd_same, ?_, po4⟩
                  · have := (gu.trans gD).wrNew (o := .lst (vs ++ [y])) hD
                    simpa [Mm.add] using this
                  · have := Rep.wr (o := .lst (vs ++ [y])) rp4 hD4 trivial (fun _ z => nomatch z)
                    simpa [Mm.add] using this
                  · have := RDs.mv (Mv.wr (o := .lst (vs ++ [y]))) (RDs.append (RDs.grow gC racc) (RDs.cons ry RDs.nil))
                    simpa [Mm.add] using this
                · exact po4.elim
            cases fc with
            | none => exact rest true _ H2 S' Grow.refl rp2 po'
            | some fc =>
              simp only [R.bind_assoc] at po'
              refine ⟨_, ρ1, S', rp2, rv2, (Po.inner (rel := relB) (W := fun _ _ _ => False) po').mono fun b H3 ⟨b', S3, m3, g3, rp3, hb, po3⟩ => ?_⟩
              cases (show b = b' from hb)
              exact rest b m3 H3 S3 g3 rp3 po3
end
end Pv

set_option maxHeartbeats 4000000
/-! Pv12: comprehensions as rules, dict displays, o[i] = e, dicts of the text. -/
namespace Pv
open PySem PySem.Spec PyProof.Rows L2

section
variable {X : Cx} {T : List (Addr × Str)} {W : WX} {elt te iter : Expr} {ifs : List Expr} {scope : Scope} {own : List (Str × Nat)} {fi : Ev → Hs → R Src} {fc : Option (Ev → Hs → R D)} {fe : Ev → Hs → R D} {tg : Tg} {pos spos py : Pos} {mt : Bool}
/-- what is asked of the block of a comprehension -/
def BlkR (X : Cx) (T : List (Addr × Str)) (scope : Scope) (tg : Tg) (te : Expr) (ifs : List Expr) (fc : Option (Ev → Hs → R D)) (elt : Expr) (fe : Ev → Hs → R D) : Prop := ∀ (s : Shared) (H : Hp) (C : Addr) (cl : List (Str × Addr)) (fp : List Addr),
  TgAt (X.blk s H scope (compEnvC scope cl C X.env) fp) tg te ∧ RTs (X.blk s H scope (compEnvC scope cl C X.env) fp) T ifs fc ∧ RE (X.blk s H scope (compEnvC scope cl C X.env) fp) T WF elt fe
theorem re_lc (hc : X.calm = true) (hN : X.N.Nodup) (hi : RI X T W te iter fi) (ok : BlkOk X.N X.env.scope scope own) (hB : BlkR X T scope tg te ifs fc elt fe) (ht : ∀ i ∈ tg.ix, i ∈ own.map (·.2)) (hs : ∀ x, foldedSetIterable iter X.env x = pure x) :
    RE X T W (.ListComp elt [⟨te, iter, ifs, 0⟩] scope pos) (mLc mt (own.map (·.2)) tg fi fc fe) := by
  refine ⟨fun pins s σ H Q I h => ?_⟩
  exact (pe_lc hc hN hi ok (g := gTg X.K tg) (tt := tTs X.K T fc) (te := tE X.K T WF fe) (fun s H C cl fp => pg_tg (X := X.blk s H scope (compEnvC scope cl C X.env) fp) hc hN (hB s H C cl fp).1) (fun s H C cl fp => (hB s H C cl fp).2.1.pts) (fun s H C cl fp => (hB s H C cl fp).2.2) hs).run pins s σ H Q I (lc_read ht h)
/-- name = [..] on one line -/
theorem rs_asgC {i : Nat} {y : Str} (hc : X.calm = true) (hN : X.N.Nodup) (hy : X.N[i]? = some y) (hyl : X.env.scope.names.lookup y = some .local) (hsw : swapsWith (.ListComp elt [⟨te, iter, ifs, 0⟩] scope pos) (some (.Name y py)) spos.line X.env = pure true)
    (hi : RI X T W te iter fi) (ok : BlkOk X.N X.env.scope scope own) (hB : BlkR X T scope tg te ifs fc elt fe) (ht : ∀ i ∈ tg.ix, i ∈ own.map (·.2)) (hs : ∀ x, foldedSetIterable iter X.env x = pure x) :
    RS X T W (.Assign [.Name y py] (.ListComp elt [⟨te, iter, ifs, 0⟩] scope pos) spos) (sAsg i (mLc mt (own.map (·.2)) tg fi fc fe)) := by
  refine ⟨fun pins s σ H E I h => ?_⟩
  refine (ps_setLc hc hN hy hyl hsw hi ok (g := gTg X.K tg) (tt := tTs X.K T fc) (te := tE X.K T WF fe) (fun s H C cl fp => pg_tg (X := X.blk s H scope (compEnvC scope cl C X.env) fp) hc hN (hB s H C cl fp).1) (fun s H C cl fp => (hB s H C cl fp).2.1.pts) (fun s H C cl fp => (hB s H C cl fp).2.2) hs).run pins s σ H E I ?_
  refine lc_read (W := W) (mt := mt) ht ?_
  obtain ⟨m, ρ, S, rp, rv, po⟩ := tS_expr h
  exact ⟨m, ρ, S, rp, rv, po.mono fun v H1 ⟨m1, ρ1, S1, x, rp1, rv1, rd, po1⟩ => po1 _ m1 H1 Grow.refl rp1 (rv1.set i rd)⟩
end

/-! ### dict displays -/
def nwd (mt : Bool) (ks : List Key) (ds : List D) (S : Hs) : R D := if mt = true then .ok (.ref S.length) (S ++ [.dk ks ds]) else .ok (.dv ks ds) S
def mVals : List (Ev → Hs → R D) → Ev → Hs → R (List D)
  | [] => mNilA
  | f :: fs => mConsA f (mVals fs)
def mDic (mt : Bool) (ks : List Str) (fs : List (Ev → Hs → R D)) : Ev → Hs → R D := fun ρ S => (mVals fs ρ S).bind fun ds S1 => nwd mt (ks.map Sum.inr) ds S1
section
variable {K : Frag} {T : List (Addr × Str)} {m m1 m2 : Mm} {H H1 H2 : Hp} {S : Hs} {p : Addr}
/-- a step with an object p hidden, what goes on is told at the outer heap -/
theorem Po.innerX {α β γ δ : Type} {rel : Mm → Hp → α → β → Prop} {rel2 : Mm → Hp → γ → δ → Prop} {r : R α} {k : α → Hs → R γ} {Q : δ → Hp → Prop} {W' : Value → Option Addr → Hp → Prop} {ext : List Addr} (gu : Grow m H (m.add ext) H2) (po : Po K T rel2 m H (r.bind k) Q W') :
    Po K T rel ((m.add ext).hide p) H2 r (fun v H3 => ∃ x S3 ext3, Grow m H (m.add ext3) H3 ∧ Grow ((m.add ext).hide p) H2 ((m.add ext3).hide p) H3 ∧ Rep K T ((m.add ext3).hide p) S3 H3 ∧ rel ((m.add ext3).hide p) H3 x v ∧ Po K T rel2 m H (k x S3) Q W') W' := by
  cases r with
  | ok d S' =>
    intro v m3 H3 g rp h
    obtain ⟨e, rfl, g2⟩ := g.strip
    have g3 := gu.trans g2
    refine ⟨d, S', ext ++ e, by simpa [Mm.add] using g3, by simpa [Mm.add] using g, by simpa [Mm.add] using rp, by simpa [Mm.add] using h, po⟩
  | exc x fs S' =>
    intro cls dd m3 H3 g rp h
    obtain ⟨e, rfl, g2⟩ := g.strip
    have g3 := gu.trans g2
    obtain ⟨h1, d', ws, h2, h3, h4⟩ := h
    exact po cls dd _ H3 g3 rp.unhide ⟨h1, d', ws, h2, h3, fun f v hv => let ⟨u, hu, ru⟩ := h4 f v hv; ⟨u, hu, RD.mv Mv.unhide ru⟩⟩
  | stuck => exact po
theorem pairs_read {W : WX} {σ : L2.St} {ρ : Ev} {Q : VK} (hp : H p = none) (hpm : p ∉ m) (rv : RV K m H ρ σ) : ∀ (ks : List Str) (fs : List (Ev → Hs → R D)) {H2 : Hp} {S2 : Hs} {ext : List Addr} {k : List D → Hs → R D} {QP : List (V × V) → Hp → Prop}, ks.length = fs.length → Grow m H (m.add ext) H2 → Rep K T ((m.add ext).hide p) S2 H2 →
    Po K T (RD K) m H ((mVals fs ρ S2).bind k) Q (fun c d H' => W c d σ H') →
    (∀ ds vs ext3 S3 H3, vs.length = ks.length → Grow m H (m.add ext3) H3 → Grow ((m.add ext).hide p) H2 ((m.add ext3).hide p) H3 → Rep K T ((m.add ext3).hide p) S3 H3 → RDs K ((m.add ext3).hide p) H3 ds vs → Po K T (RD K) m H (k ds S3) Q (fun c d H' => W c d σ H') → QP ((ks.zip vs).map fun q => (V.str q.1, q.2)) H3) →
    tPairs ((ks.zip fs).map fun q => (tC (.str q.1), tE K T W q.2)) σ H2 QP
  | [], [], H2, S2, ext, k, QP, _, gu, rp, po, fin => fin [] [] ext S2 H2 rfl gu Grow.refl rp RDs.nil po
  | x :: ks, f :: fs, H2, S2, ext, k, QP, hl, gu, rp, po, fin => by
    have rv2 : RV K ((m.add ext).hide p) H2 ρ σ := rv.mv ⟨gu.mv.at_, fun a o e n t => ⟨(gu.mv.keep a o e n t).1, fun z => (hide_mem.mp z).elim (ne_of_none e hp) (gu.mv.keep a o e n t).2⟩⟩
    simp only [mVals, mConsA, R.bind_assoc, R.bind_ok] at po
    refine ⟨_, ρ, S2, rp, rv2, (Po.innerX (rel := RD K) (p := p) gu po).mono fun y H3 ⟨d, S3, ext3, g3, g3h, rp3, rd3, po3⟩ => ?_⟩
    exact pairs_read hp hpm rv ks fs (by simpa using hl) g3 rp3 po3 fun ds vs ext4 S4 H4 hl4 g4 g4h rp4 rd4 po4 => fin (d :: ds) (y :: vs) ext4 S4 H4 (by simp [hl4]) g4 (g3h.trans g4h) rp4 (RDs.cons (RD.grow g4h rd3) rd4) po4
  | [], _ :: _, _, _, _, _, _, hl, _, _, _, _ => by simp at hl
  | _ :: _, [], _, _, _, _, _, hl, _, _, _, _ => by simp at hl
theorem merge_nodup : ∀ (kvs acc : List (Key × V)), ((acc ++ kvs).map (·.1)).Nodup → mergeK acc kvs = acc ++ kvs
  | [], acc, _ => by simp [mergeK]
  | q :: r, acc, h => by
    have hn : valV acc q.1 = none := by
      unfold valV
      rw [List.find?_eq_none.mpr]
      · rfl
      · intro y hy
        simp only [decide_eq_true_eq]
        intro e
        rw [List.map_append, List.map_cons, List.nodup_append] at h
        exact h.2.2 y.1 (List.mem_map_of_mem hy) q.1 (List.mem_cons_self ..) e
    show mergeK (putK acc q.1 q.2) r = _
    rw [putK_new q.2 hn]
    have := merge_nodup r (acc ++ [q]) (by simpa using h)
    simpa using this
end
section
variable {X : Cx} {T : List (Addr × Str)} {W : WX} {pos : Pos}
/-- keys and values as written -/
inductive Dps (X : Cx) (T : List (Addr × Str)) (W : WX) : List (Option Expr) → List Expr → List Str → List (Ev → Hs → R D) → Prop where
  | nil : Dps X T W [] [] [] []
  | cons {k : Str} {j : Nat} {p : Pos} {v : Expr} {f : Ev → Hs → R D} {keys : List (Option Expr)} {values : List Expr} {ks : List Str} {fs : List (Ev → Hs → R D)} (hv : RE X T W v f) (r : Dps X T W keys values ks fs) : Dps X T W (some (.Constant (.str k) j p) :: keys) (v :: values) (k :: ks) (f :: fs)
theorem Dps.pps {keys : List (Option Expr)} {values : List Expr} {ks : List Str} {fs : List (Ev → Hs → R D)} (h : Dps X T W keys values ks fs) : PPs X pos keys values ((ks.zip fs).map fun q => (tC (.str q.1), tE X.K T W q.2)) ∧ keys.all (·.isSome) = true ∧ keys.length = values.length ∧ keys.length = ks.length ∧ ks.length = fs.length := by
  induction h with
  | nil => exact ⟨pps_nil, rfl, rfl, rfl, rfl⟩
  | cons hv r ih =>
    obtain ⟨h1, h2, h3, h4, h5⟩ := ih
    exact ⟨pps_cons pe_str hv h1, by simp [h2], by simp [h3], by simp [h4], by simp [h5]⟩
theorem re_dic {mt : Bool} {keys : List (Option Expr)} {values : List Expr} {ks : List Str} {fs : List (Ev → Hs → R D)} (h : Dps X T W keys values ks fs) (h0 : keys ≠ []) (h15 : keys.length ≤ 15) (hn : ks.Nodup) : RE X T W (.Dict keys values pos) (mDic mt ks fs) := by
  obtain ⟨h1, h2, h3, h4, h5⟩ := h.pps (pos := pos)
  refine ⟨fun pins s σ H Q I hh => (pe_disp h1 h2 h3 h0 h15).run pins s σ H Q I fun p hp => ?_⟩
  obtain ⟨m, ρ, S, rp, rv, po⟩ := hh
  have hpm := rp.notin hp
  refine pairs_read (m := m) (H := H) (S2 := S) (ext := []) hp hpm rv ks fs h5 (by simpa [Mm.add] using Grow.new (m := m) (o := .dK []) hp) (by simpa [Mm.add] using rp.hide (o := .dK []) hp (fun _ z => nomatch z)) po ?_
  intro ds vs ext3 S3 H3 hl g3 g3h rp3 rds po3
  have hpv : p ∉ ((m.add []).hide p).v := by
    show p ∉ m.v ++ []
    rw [List.append_nil]
    exact fun z => hpm (.inl z)
  have hp3 : H3 p = some (.dK []) := g3h.keep.keep p _ upd_same hpv (fun _ z => nomatch z)
  refine ⟨hp3, (ks.map Sum.inr).zip vs, ?_, ?_, ?_⟩
  · rw [List.zip_map_left, List.map_map]
    rfl
  · rw [List.length_zip, List.length_map]
    exact Nat.le_trans (Nat.min_le_left _ _) (by omega)
  · have hm : mergeK [] ((ks.map Sum.inr).zip vs) = (ks.map Sum.inr).zip vs := by
      refine merge_nodup _ [] ?_
      rw [List.nil_append, List.map_fst_zip (by rw [List.length_map]; omega)]
      exact List.Pairwise.map _ (fun a b hab z => hab (by injection z)) hn
    rw [hm]
    have hks : (ks.map (Sum.inr : Str → Key)).length = ds.length := by rw [List.length_map, ← hl, rds.len]
    have hnv : p ∉ (m.add ext3) := fun z => by
      rcases z with z | z
      · exact (rp3.hid p (List.mem_cons_self ..)).1 z
      · exact hpm (.inr z)
    have rpw := Rep.wr (o := .dK ((ks.map Sum.inr).zip vs)) rp3 hp3 trivial (fun _ z => nomatch z)
    have rdw := RDs.mv (Mv.wr (o := .dK ((ks.map Sum.inr).zip vs))) rds
    have gw := g3.wrNew (o := .dK ((ks.map Sum.inr).zip vs)) hp
    cases mt with
    | false =>
      refine po3 (.ref p) (m.add ext3) _ gw rpw.unhide ?_
      simp only [RD]
      exact ⟨p, vs, rfl, upd_same, hnv, hks, RDs.mv Mv.unhide rdw⟩
    | true =>
      have rs := Rep.show_ (o := .dk (ks.map Sum.inr) ds) rpw upd_same ⟨vs, rfl, hks, rdw⟩ (fun z => hpm (.inr z))
      refine po3 (.ref p) ((m.add ext3).add [p]) _ ?_ rs ?_
      · obtain ⟨e1, k1, k2, k3⟩ := gw
        refine ⟨e1 ++ [p], ?_, fun a ha o e => ?_, k3⟩
        · have he : e1 = ext3 := by
            injection k1 with k4 _
            exact (List.append_cancel_left k4).symm
          simp [Mm.add, he]
        · rcases List.mem_append.mp ha with ha | ha
          · exact k2 a ha o e
          · rw [List.mem_singleton.mp ha, hp] at e; cases e
      · simp only [RD]
        refine ⟨p, rfl, ?_⟩
        have := rp3.len
        show ((m.v ++ ext3) ++ [p])[S3.length]? = some p
        rw [List.getElem?_append_right (by rw [← this]; exact Nat.le_refl _), ← this]
        simp
/-! ### o[i] = e -/
def hasK (j : Key) (ks : List Key) : Bool := ks.any fun k => decide (k = j)
def putKV (ks : List Key) (ds : List D) (j : Key) (x : D) : List Key × List D := if hasK j ks = true then (ks, List.zipWith (fun k d => if k = j then x else d) ks ds) else (ks ++ [j], ds ++ [x])
def gPutI (o i v : D) (S : Hs) : Option Hs := match mL S o with
  | some (n, xs) => match i with
    | .int k => match ixN xs.length k with
      | some j => some (S.set n (.lst (xs.set j v)))
      | none => none
    | _ => none
  | none => match mD S o with
    | some (n, ks, ds) => match keyD i with
      | some k => if ds.length < sizeLine then some (S.set n (.dk (putKV ks ds k v).1 (putKV ks ds k v).2)) else none
      | none => none
    | none => none
def sSubS (fo fi fe : Ev → Hs → R D) : Ev → Hs → SR := fun ρ S => (fe ρ S).toS ρ fun v S1 => (fo ρ S1).toS ρ fun o S2 => (fi ρ S2).toS ρ fun i S3 => match gPutI o i v S3 with
  | some S4 => .nx ρ S4
  | none => .stuck
end
section
variable {K : Frag} {m : Mm} {H : Hp}
theorem zw_rds {j : Key} {x : D} {v : V} (hx : RD K m H x v) : ∀ {ks : List Key} {ds : List D} {vs : List V}, RDs K m H ds vs → RDs K m H (List.zipWith (fun k d => if k = j then x else d) ks ds) (List.zipWith (fun k u => if k = j then v else u) ks vs)
  | [], ds, vs, _ => by simp only [List.zipWith_nil_left]; exact RDs.nil
  | k :: ks, [], vs, h => by simp only [RDs] at h; subst h; simp only [List.zipWith_nil_right]; exact RDs.nil
  | k :: ks, d :: ds, vs, h => by
    simp only [RDs] at h
    obtain ⟨u, r, rfl, h1, h2⟩ := h
    simp only [List.zipWith_cons_cons]
    refine RDs.cons ?_ (zw_rds hx h2)
    by_cases e : k = j
    · rw [if_pos e, if_pos e]; exact hx
    · rw [if_neg e, if_neg e]; exact h1
theorem zw_zip {j : Key} {v : V} : ∀ {ks : List Key} {vs : List V}, (ks.zip vs).map (fun kv => if kv.1 = j then (kv.1, v) else kv) = ks.zip (List.zipWith (fun k u => if k = j then v else u) ks vs)
  | [], _ => rfl
  | _ :: _, [] => rfl
  | k :: ks, u :: vs => by
    simp only [List.zip_cons_cons, List.map_cons, List.zipWith_cons_cons]
    rw [zw_zip]
    by_cases e : k = j
    · rw [if_pos e, if_pos e]
    · rw [if_neg e, if_neg e]
theorem any_key {j : Key} : ∀ {ks : List Key} {vs : List V}, ks.length = vs.length → ((ks.zip vs).any fun kv => decide (kv.1 = j)) = hasK j ks
  | [], vs, _ => rfl
  | k :: ks, [], h => by simp at h
  | k :: ks, u :: vs, h => by
    unfold hasK
    rw [List.zip_cons_cons, List.any_cons, List.any_cons, any_key (by simpa using h)]
    rfl
theorem putKV_at {ks : List Key} {ds : List D} {vs : List V} {j : Key} {x : D} {v : V} (r : RDs K m H ds vs) (hl : ks.length = ds.length) (hx : RD K m H x v) :
    ∃ ws, putK (ks.zip vs) j v = (putKV ks ds j x).1.zip ws ∧ (putKV ks ds j x).1.length = (putKV ks ds j x).2.length ∧ RDs K m H (putKV ks ds j x).2 ws := by
  unfold putKV L2.putK
  rw [any_key (by rw [r.len]; exact hl)]
  by_cases e : hasK j ks = true
  · rw [if_pos e, if_pos e]
    exact ⟨_, zw_zip, by simp [List.length_zipWith, hl], zw_rds hx r⟩
  · rw [if_neg e, if_neg e]
    refine ⟨vs ++ [v], ?_, by simp [hl], RDs.append r (RDs.cons hx RDs.nil)⟩
    rw [List.zip_append (by rw [r.len]; exact hl)]
    rfl
end
section
variable {X : Cx} {T : List (Addr × Str)} {W : WX} {o i e : Expr} {fo fi fe : Ev → Hs → R D} {pos pos' : Pos}
def rPutI (K : Frag) (T : List (Addr × Str)) : TSet := fun o i v H Q => ∃ m S S4 dx di dv, Rep K T m S H ∧ RD K m H dx o ∧ RD K m H di i ∧ RD K m H dv v ∧ gPutI dx di dv S = some S4 ∧ ∀ H', Grow m H m H' → Rep K T m S4 H' → Q H'
theorem set_I (hu : X.A.units + 64 < cLine) : PSet X (rPutI X.K T) := by
  intro pins s σ H o i v ov iv u Q I ro ri rv h
  obtain ⟨m, S, S4, dx, di, dv, rp, hx, hi, hv, hg, q⟩ := h
  unfold gPutI at hg
  split at hg
  · rename_i n xs hL
    split at hg
    · rename_i k
      split at hg
      · rename_i j hj
        cases hg
        obtain ⟨a, vs, rfl, e1, e2, r1⟩ := mL_at rp hx hL
        cases (show i = .int k from hi)
        have gg := Grow.upd (o := .lst (vs.set j v)) e2 (List.mem_of_getElem? e1) (fun _ z => nomatch z)
        exact set_list pins s σ H _ _ v ov iv u Q I ro ri rv ⟨a, vs, k, j, rfl, rfl, e2, by rw [r1.len]; exact hj, q _ gg (rp.upd e1 e2 trivial (o := .lst (xs.set j dv)) ⟨_, rfl, RDs.set j r1 hv⟩)⟩
      · cases hg
    · cases hg
  · split at hg
    · rename_i n ks ds hD
      split at hg
      · rename_i k hk
        split at hg
        · rename_i hz
          cases hg
          obtain ⟨a, vs, rfl, e1, e2, l, r1⟩ := mD_at rp hx hD
          have hy := keyD_rd hi hk
          subst hy
          cases ro
          obtain ⟨ws, k1, k2, k3⟩ := putKV_at (j := k) r1 l hv
          have gg := Grow.upd (o := .dK (putK (ks.zip vs) k v)) e2 (List.mem_of_getElem? e1) (fun _ z => nomatch z)
          have dp : DPut H a (kV k) v (upd H a (.dK (putK (ks.zip vs) k v))) := DPut.k e2 (Nat.lt_of_le_of_lt (by rw [List.length_zip]; exact Nat.min_le_right _ _) (by rw [r1.len]; exact hz))
          exact d_setItem (by omega) I dp ri rv fun s' I' => ⟨_, I', q _ gg (rp.upd e1 e2 trivial (o := .dk (putKV ks ds k dv).1 (putKV ks ds k dv).2) ⟨ws, by rw [k1], k2, k3⟩)⟩
        · cases hg
      · cases hg
    · cases hg
theorem rs_sub (hu : X.A.units + 64 < cLine) (ho : RE X T W o fo) (hi : RE X T W i fi) (he : RE X T W e fe) (hs : swapsWithSole [.Subscript o i pos'] e pos.line X.env = pure false) (hw : swappedStores [.Subscript o i pos'] e X.env = pure none) (h1 : (assignEach [.Subscript o i pos'] X.env).map (·.2) = [assign (.Subscript o i pos') X.env])
    (ha : ∀ v, assign (.Subscript o i pos') X.env v = (do
      let ov ← holding [v] (eval o X.env)
      let iv ← holding [v, ov] (eval i X.env)
      standAt pos'
      holding [v, ov, iv] (setItem ov iv v)
      release [v, ov, iv] [])) : RS X T W (.Assign [.Subscript o i pos'] e pos) (sSubS fo fi fe) := by
  refine ⟨fun pins s σ H E I hh => (ps_asg he (pg_sub ho hi (set_I (T := T) hu) ha) hs hw h1).run pins s σ H E I ?_⟩
  obtain ⟨m, ρ, S, rp, rv, po⟩ := hh
  refine ⟨m, ρ, S, rp, rv, (PoS.toS (rel := RD X.K) rv po).mono fun v H1 ⟨dv, S1, m1, rp1, rv1, g1, hv, po1⟩ => ?_⟩
  refine ⟨m1, ρ, S1, rp1, rv1, (PoS.toS (rel := RD X.K) rv1 po1).mono fun ov H2 ⟨dx, S2, m2, rp2, rv2, g2, hx, po2⟩ => ?_⟩
  refine ⟨m2, ρ, S2, rp2, rv2, (PoS.toS (rel := RD X.K) rv2 po2).mono fun iv H3 ⟨di, S3, m3, rp3, rv3, g3, hi', po3⟩ => ?_⟩
  split at po3
  · rename_i S4 hg
    exact ⟨m3, S3, S4, dx, di, dv, rp3, RD.grow g3 hx, hi', RD.grow g3 (RD.grow g2 hv), hg, fun H' g4 rp4 => po3 σ m3 H' g4 rp4 (rv3.grow g4)⟩
  · exact po3.elim
end
/-! ### dicts of the text -/
/-- the dict of the module's name x holds this, and no more -/
def TabK (K : Frag) (w : World) (x : Str) (kvs : List (Str × D)) : Prop := ∃ es n, KDict K w (He.ga K x) es n ∧ ∀ z, ∃ r, PySem.W.nsIn K (He.ga K x) z = some r ∧ match kvs.lookup z with
  | some d => ∃ u v, r = some u ∧ RelV v u ∧ ∀ m H, RD K m H d v
  | none => r = none
def gTab (kvs : List (Str × D)) (y : D) (S : Hs) : R D := match y with
  | .str z => oR (kvs.lookup z) S
  | _ => .stuck
def gInTab (ng : Bool) (kvs : List (Str × D)) (y : D) (S : Hs) : R D := match y with
  | .str z => .ok (.bl (if ng = true then !(kvs.lookup z).isSome else (kvs.lookup z).isSome)) S
  | _ => .stuck
section
variable {X : Cx} {T : List (Addr × Str)} {W : WX} {i : Expr} {fi : Ev → Hs → R D} {pos p : Pos} {x : Str} {kvs : List (Str × D)}
theorem re_tab (ht : TabK X.K X.w x kvs) (hg : Gl X x) (hm : X.mg x = some (.ref (He.ga X.K x))) (hdb : (x == ("__debug__" : Str)) = false) (hi : RE X T W i fi) (hs : PlainIx i) : RE X T W (.Subscript (.Name x p) i pos) (fun ρ S => (fi ρ S).bind (gTab kvs)) := by
  refine ⟨fun pins s σ H Q I h => ?_⟩
  obtain ⟨m, ρ, S, rp, rv, po⟩ := h
  obtain ⟨es, n, D0, hz⟩ := ht
  refine Subscript_ (thn ((pe_glob hg hm (v := .ref (He.ga X.K x)) rfl hdb).run pins s σ H (fun v H' => v = .ref (He.ga X.K x) ∧ H' = H) I ⟨rfl, rfl⟩) fun v s1 ⟨vv, H1, I1, r1, e1, e2⟩ => ?_)
  subst e1
  subst e2
  cases r1
  refine thn (seqE hi I1 rp rv po) fun u s2 ⟨y, vy, S2, m2, H2, I2, r2, rp2, rv2, g2, d2, po2⟩ => ?_
  unfold gTab at po2
  split at po2
  · rename_i z
    obtain ⟨d, hd, po2⟩ := po_oR po2
    obtain ⟨r, h1, h2⟩ := hz z
    rw [hd] at h2
    obtain ⟨u0, v0, rfl, ru, hr⟩ := h2
    cases (show vy = .str z from d2)
    exact tail_any (kd_type D0 I2) PySem.F.slot_dict_getitem.lookup (op_item_kd D0 pins s2 σ H2 (.ref (He.ga X.K x)) (.str z) _ u Q I2 rfl r2 ⟨z, u0, v0, rfl, rfl, h1, ru, po_val rp2 (hr m2 H2) po2⟩) (hs _ _)
  · exact po2.elim
theorem re_inTab {op : CmpOp} {ng : Bool} (hop : op = (if ng = true then .NotIn else .In)) (ht : TabK X.K X.w x kvs) (hg : Gl X x) (hm : X.mg x = some (.ref (He.ga X.K x))) (hdb : (x == ("__debug__" : Str)) = false) (hi : RE X T W i fi) : RE X T W (.Compare i [op] [.Name x p] pos) (fun ρ S => (fi ρ S).bind (gInTab ng kvs)) ∧ RT X T W (.Compare i [op] [.Name x p] pos) (mB fun ρ S => (fi ρ S).bind (gInTab ng kvs)) := by
  obtain ⟨es, n, D0, hz⟩ := ht
  have run : ∀ (pins : List (Addr × Obj)) (s : Shared) (σ : L2.St) (H : Hp) (Q : VK), Inv X pins σ H s → tE X.K T W (fun ρ S => (fi ρ S).bind (gInTab ng kvs)) σ H Q →
      wpAny (model X.prog X.w) X.A (eval i X.env) (fun v s₁ => wpAny (model X.prog X.w) X.A (eval (.Name x p) X.env) (fun u s₂ => wpAny (model X.prog X.w) X.A (compareOp op v u) (EP X pins σ Q) X.xe s₂) X.xe s₁) X.xe s := by
    intro pins s σ H Q I h
    obtain ⟨m, ρ, S, rp, rv, po⟩ := h
    refine thn (seqE hi I rp rv po) fun v s1 ⟨y, vy, S2, m2, H2, I2, r2, rp2, rv2, g2, d2, po2⟩ => ?_
    refine thn ((pe_glob hg hm (v := .ref (He.ga X.K x)) rfl hdb).run pins s1 σ H2 (fun v H' => v = .ref (He.ga X.K x) ∧ H' = H2) I2 ⟨rfl, rfl⟩) fun u s2 ⟨vv, H3, I3, r3, e1, e2⟩ => ?_
    subst e1
    subst e2
    unfold gInTab at po2
    split at po2
    · rename_i z
      obtain ⟨r, h1, h2⟩ := hz z
      cases (show vy = .str z from d2)
      have hr : r.isSome = (kvs.lookup z).isSome := by
        cases hk : kvs.lookup z with
        | none => rw [hk] at h2; rw [h2]; rfl
        | some d => rw [hk] at h2; obtain ⟨u0, v0, rfl, _⟩ := h2; rfl
      cases ng with
      | false =>
        subst hop
        exact op_in_kd D0 pins s2 σ H3 (.str z) (.ref (He.ga X.K x)) v u Q I3 r2 r3 ⟨z, r, rfl, rfl, h1, by rw [hr]; exact po_val rp2 (by simp only [RD, Bool.false_eq_true, if_false]) po2⟩
      | true =>
        subst hop
        exact op_notIn_kd D0 pins s2 σ H3 (.str z) (.ref (He.ga X.K x)) v u Q I3 r2 r3 ⟨z, r, rfl, rfl, h1, by rw [hr]; exact po_val rp2 (by simp only [RD, if_true]) po2⟩
    · exact po2.elim
  have hb : behindInMarks op (.Name x p) = false := rfl
  refine ⟨⟨fun pins s σ H Q I h => wpAny_Compare1 (run pins s σ H Q I h) hb⟩, ⟨fun pins s σ H Q I h => ?_⟩⟩
  obtain ⟨m, ρ, S, rp, rv, po⟩ := h
  refine wpAny_isTrue_Compare1 (thn (run pins s σ H (fun z H3 => ∃ k, z = .bl k ∧ Q k H3) I ⟨m, ρ, S, rp, rv, po_toB po⟩) fun v s1 h1 => thn h1 fun u s2 h2 => thn h2 fun c s3 ⟨z, H3, I3, r3, k, e, q3⟩ => ?_) hb
  subst e
  cases r3
  exact wpAny_truthy_bool ⟨H3, I3, q3⟩
end
end Pv

set_option maxHeartbeats 4000000
/-! Pv13: raise of own exceptions, try. -/
namespace Pv
open PySem PySem.Spec PyProof.Rows L2

theorem upd_eq {H : Hp} {a : Addr} {o : HO} (h : H a = some o) : upd H a o = H := by
  funext b
  by_cases e : b = a
  · subst e; rw [upd_same, h]
  · rw [upd_ne e]
/-! ### an exception's own __init__: its parameters as attributes, in order -/
def tInit (K : Frag) : Nat → List Str → TS
  | _, [] => tNext
  | j, f :: r => tSeq (tOst K f (tVar 0) (tVar j)) (tInit K (j + 1) r)
def spInit (C : Addr) (flds : List Str) : Sp := fun vs H Q _ => ∃ a ws, vs = .ref a :: ws ∧ ws.length = flds.length ∧ H a = some (exo a C none) ∧ ∀ dx, H dx = none → dx ≠ a → Q .non (upd (upd H dx (exd dx (flds.zip ws).reverse)) a (exo a C (some dx)))
section
variable {K : Frag} {σ : L2.St} {a C dx : Addr} {E : Ends}
theorem init_old (T : OexC K C) (h0 : σ[0]? = some (some (.ref a))) (hne : dx ≠ a) : ∀ (fl : List Str) (ws : List V) (j : Nat) (acc : List (Str × V)) (H : Hp), (∀ f ∈ fl, PySem.W.findIn K (.ref C) f = some none) → fl.length = ws.length → (∀ (i : Nat) y, ws[i]? = some y → σ[j + i]? = some (some y)) →
    H a = some (exo a C (some dx)) → H dx = some (exd dx acc) → acc.length + fl.length ≤ 900 → E.nx σ (upd H dx (exd dx ((fl.zip ws).reverse ++ acc))) → tInit K j fl E σ H
  | [], ws, j, acc, H, _, hl, _, _, hd, _, q => by
    simp only [List.zip_nil_left, List.reverse_nil, List.nil_append] at q
    rw [upd_eq hd] at q
    exact q
  | f :: fl, [], _, _, _, _, hl, _, _, _, _, _ => by simp at hl
  | f :: fl, w :: ws, j, acc, H, hn, hl, hs, ha, hd, hz, q => by
    refine ⟨w, by have := hs 0 w rfl; simpa using this, .ref a, h0, a, C, rfl, T, hn f (List.mem_cons_self ..), .inr ⟨dx, acc, ha, hd, by simp at hz; omega, ?_⟩⟩
    refine init_old T h0 hne fl ws (j + 1) ((f, w) :: acc) _ (fun g hg => hn g (List.mem_cons_of_mem _ hg)) (by simpa using hl) (fun i y hy => ?_) ?_ upd_same (by simp at hz ⊢; omega) ?_
    · have := hs (i + 1) y (by simpa using hy)
      rw [Nat.add_assoc, Nat.add_comm 1 i]
      exact this
    · rw [upd_ne (Ne.symm hne)]; exact ha
    · rw [upd_upd]
      simpa using q
theorem init_new (T : OexC K C) (h0 : σ[0]? = some (some (.ref a))) : ∀ (fl : List Str) (ws : List V) (H : Hp), fl ≠ [] → (∀ f ∈ fl, PySem.W.findIn K (.ref C) f = some none) → fl.length = ws.length → (∀ (i : Nat) y, ws[i]? = some y → σ[1 + i]? = some (some y)) → fl.length ≤ 900 →
    H a = some (exo a C none) → (∀ dx, H dx = none → dx ≠ a → E.nx σ (upd (upd H dx (exd dx (fl.zip ws).reverse)) a (exo a C (some dx)))) → tInit K 1 fl E σ H
  | [], _, _, h, _, _, _, _, _, _ => absurd rfl h
  | f :: fl, [], _, _, _, hl, _, _, _, _ => by simp at hl
  | f :: fl, w :: ws, H, _, hn, hl, hs, hz, ha, q => by
    refine ⟨w, by have := hs 0 w rfl; simpa using this, .ref a, h0, a, C, rfl, T, hn f (List.mem_cons_self ..), .inl ⟨ha, fun dx hd hne => ?_⟩⟩
    refine init_old T h0 hne fl ws 2 [(f, w)] _ (fun g hg => hn g (List.mem_cons_of_mem _ hg)) (by simpa using hl) (fun i y hy => ?_) upd_same ?_ (by simp at hz ⊢; omega) ?_
    · have := hs (i + 1) y (by simpa using hy)
      have e : 2 + i = 1 + (i + 1) := by omega
      rw [e]
      exact this
    · rw [upd_ne hne]; exact upd_same
    · have h2 := q dx hd hne
      have e : upd (upd (upd H dx (exd dx [(f, w)])) a (exo a C (some dx))) dx (exd dx ((fl.zip ws).reverse ++ [(f, w)])) = upd (upd H dx (exd dx (((f :: fl).zip (w :: ws)).reverse))) a (exo a C (some dx)) := by
        funext b
        by_cases hb : b = dx
        · subst hb
          rw [upd_same, upd_ne hne, upd_same]
          simp
        · rw [upd_ne hb]
          by_cases hba : b = a
          · subst hba; rw [upd_same, upd_same]
          · rw [upd_ne hba, upd_ne hb, upd_ne hba, upd_ne hb]
      rw [e]
      exact h2
end
/-! ### fields by name -/
inductive RDk (K : Frag) (m : Mm) (H : Hp) : List (Str × D) → List (Str × V) → Prop where
  | nil : RDk K m H [] []
  | cons {f : Str} {d : D} {v : V} {l : List (Str × D)} {l' : List (Str × V)} (h : RD K m H d v) (r : RDk K m H l l') : RDk K m H ((f, d) :: l) ((f, v) :: l')
section
variable {K : Frag} {m : Mm} {H : Hp}
theorem RDk.append {l r : List (Str × D)} {l' r' : List (Str × V)} (h : RDk K m H l l') (k : RDk K m H r r') : RDk K m H (l ++ r) (l' ++ r') := by
  induction h with
  | nil => exact k
  | cons h _ ih => exact .cons h ih
theorem RDk.rev {l : List (Str × D)} {l' : List (Str × V)} (h : RDk K m H l l') : RDk K m H l.reverse l'.reverse := by
  induction h with
  | nil => exact .nil
  | cons h _ ih =>
    rw [List.reverse_cons, List.reverse_cons]
    exact ih.append (.cons h .nil)
theorem RDk.zip : ∀ {fl : List Str} {ds : List D} {vs : List V}, RDs K m H ds vs → RDk K m H (fl.zip ds) (fl.zip vs)
  | [], _, _, _ => .nil
  | _ :: _, [], _, h => by simp only [RDs] at h; subst h; exact .nil
  | f :: fl, d :: ds, vs, h => by
    simp only [RDs] at h
    obtain ⟨v, r, rfl, h1, h2⟩ := h
    exact .cons h1 (RDk.zip h2)
theorem RDk.look {l : List (Str × D)} {l' : List (Str × V)} (h : RDk K m H l l') (f : Str) (d : D) (e : l.lookup f = some d) : ∃ u, l'.lookup f = some u ∧ RD K m H d u := by
  induction h with
  | nil => cases e
  | @cons g x v l l' h r ih =>
    rw [List.lookup_cons] at e ⊢
    cases q : f == g with
    | true => rw [q] at e; cases e; exact ⟨v, rfl, h⟩
    | false => rw [q] at e; exact ih e
end
/-! ### raise -/
structure ExcK (P : Program) (w : World) (K : Frag) (mg : Str → Option Value) (base : Heap) (k : Nat) (C : Str) (flds : List Str) : Prop where
  ox : OexC K (He.ga K C)
  ini : PySem.W.findIn K (.ref (He.ga K C)) "__init__" = some (some (.ref (He.ma K (He.ga K C) "__init__")))
  ty : PySem.W.typeIn K (.ref (He.ma K (He.ga K C) "__init__")) = some (.type "function")
  fn : ∃ fd ps, FnOk P w K mg base (CX P w) k (He.ma K (He.ga K C) "__init__") fd ps (spInit (He.ga K C) flds) ∧ Binds K fd ps []
  le : flds.length ≤ 900
def sRai (C : Str) (flds : List Str) (fs : Ev → Hs → R (List D)) : Ev → Hs → SR := fun ρ S => (fs ρ S).toS ρ fun xs S1 => if xs.length = flds.length then .exc C (flds.zip xs).reverse ρ S1 else .stuck
section
variable {X : Cx} {T : List (Addr × Str)} {W : WX} {e : Expr} {es : List Expr} {fs : Ev → Hs → R (List D)} {pos p ppos : Pos}
theorem pass_none {X : Cx} : Passes (CX X.prog X.w) X (fun _ _ _ => False) := fun pins σ H s e s' I h => by
  obtain ⟨a, B, H', cls, d, _, _, _, _, _, _, _, z⟩ := h
  exact z.elim
theorem rs_raise {k : Nat} {C : Str} {flds : List Str} (hc : X.calm = true) (tk : Takes X W) (F : ExcK X.prog X.w X.K X.mg X.base k C flds) (hr : Room (k + 1) X.A) (hg : Gl X C) (hm : X.mg C = some (.ref (He.ga X.K C))) (ha : RA X T W (e :: es) fs)
    (hdb : (C == ("__debug__" : Str)) = false) (he : starEach (e :: es) X.env = (false, eval e X.env) :: starEach es X.env) (hpl : (backTo ppos (starEach es X.env)).any (·.1) = false) : RS X T W (.Raise (some (.Call (.Name C p) (e :: es) [] ppos)) none pos) (sRai C flds fs) := by
  obtain ⟨fd, ps, F1, hb⟩ := F.fn
  refine ⟨fun pins s σ H E I hh => (ps_raise hc tk (pmk_oex F.ox F.ini F.ty F1 hr hb .nil pass_none hg hm ha hdb he hpl)).run pins s σ H E I ?_⟩
  obtain ⟨m, ρ, S, rp, rv, po⟩ := tS_args hh
  refine ⟨m, ρ, S, rp, rv, po.mono fun vs H1 ⟨m1, ρ1, S1, xs, rp1, rv1, rds, po1⟩ => ?_⟩
  split at po1
  · rename_i hl
    have hvl : vs.length = flds.length := by rw [rds.len]; exact hl
    refine ⟨by rw [hvl]; have := F.le; omega, fun a ha0 => ⟨a, vs, by simp, hvl, upd_same, fun dx hd hne => ⟨rfl, dx, (flds.zip vs).reverse, upd_same, ?_, ?_, ?_⟩⟩⟩
    · rw [upd_ne hne]; exact upd_same
    · rwa [upd_ne hne] at hd
    · have hd1 : H1 dx = none := by rwa [upd_ne hne] at hd
      have eH : upd (del (upd (upd (upd H1 a (exo a (He.ga X.K C) none)) dx (exd dx (flds.zip vs).reverse)) a (exo a (He.ga X.K C) (some dx))) a) dx (.xd (flds.zip vs).reverse) = upd H1 dx (.xd (flds.zip vs).reverse) := by
        funext b
        by_cases hb : b = dx
        · subst hb; rw [upd_same, upd_same]
        · rw [upd_ne hb, upd_ne hb]
          by_cases hba : b = a
          · subst hba; rw [del_same, ha0]
          · rw [del_ne hba, upd_ne hba, upd_ne hb, upd_ne hba]
      rw [eH]
      have gg := Grow.new (m := m1) (o := .xd (flds.zip vs).reverse) hd1
      refine po1 σ _ _ m1 _ gg (rp1.new hd1) (rv1.grow gg) ⟨rfl, dx, (flds.zip vs).reverse, rfl, upd_same, ?_⟩
      exact fun f v hv => (RDk.zip (RDs.grow gg rds)).rev.look f v hv
  · exact po1.elim
end

/-! ### try -/
/-- an item of what an except suite returns: a value, an attribute of the exception -/
inductive XI where
  | c (d : D) | f (n : Str)
inductive Sui where
  | one (x : XI) | tup (xs : List XI)
def XI.get (cur : List (Str × D)) : XI → Option D
  | .c d => some d
  | .f n => cur.lookup n
def getAll (cur : List (Str × D)) : List XI → Option (List D)
  | [] => some []
  | x :: xs => match x.get cur with
    | some d => match getAll cur xs with
      | some ds => some (d :: ds)
      | none => none
    | none => none
def Sui.run (cur : List (Str × D)) (S : Hs) : Sui → SR
  | .one x => match x.get cur with
    | some d => .rt d S
    | none => .stuck
  | .tup xs => match getAll cur xs with
    | some ds => if ds.length ≤ sizeLine then .rt (.tup ds) S else .stuck
    | none => .stuck
/-- one clause: the class's name, the exception's name's slot, the suite -/
structure Cl where
  C : Str
  i : Option Nat
  s : Sui
def pickCl (cur : List (Str × D)) (x : Str) (ρ : Ev) (S : Hs) : List Cl → List Bool → SR
  | [], _ => .exc x cur ρ S
  | c :: cs, b :: bs => if b = true then c.s.run cur S else pickCl cur x ρ S cs bs
  | _ :: _, [] => .stuck
def catchS (cls : List Cl) (tb : List (Str × List Bool)) (r : SR) : SR := match r with
  | .exc x fs ρ S => match tb.lookup x with
    | some bs => pickCl fs x ρ S cls bs
    | none => .stuck
  | r => r
end Pv

set_option maxHeartbeats 4000000
/-! Pv14: several except clauses, some with names; their suites return. -/
namespace Pv
open PySem PySem.Spec PyProof.Rows L2

/-- the ends of a suite whose exception stands in slot i -/
def offD (oi : Option Nat) (E : Ends) : Ends := match oi with
  | none => E
  | some i => { nx := fun σ H => E.nx (σ.set i none) H, rt := E.rt, bk := fun σ H => E.bk (σ.set i none) H, ct := fun σ H => E.ct (σ.set i none) H }
def onS (oi : Option Nat) (a : Addr) (σ : L2.St) : L2.St := match oi with
  | none => σ
  | some i => σ.set i (some (.ref a))
abbrev ClV : Type := Value × Option Nat × (Addr → Value → Option Addr → TS)
/-- what the clauses wish of an exception of the body -/
def wCls (K : Frag) (Wout : WX) (E : Ends) : List ClV → WX
  | [] => Wout
  | (c, oi, ts) :: r => fun cls d σ H => ∃ b, PySem.W.exmOne K cls c = some b ∧ (b = true → ∀ a, H a = none → ts a cls d (offD oi E) (onS oi a σ) H) ∧ (b = false → wCls K Wout E r cls d σ H)
/-- the name of a clause's exception, its slot -/
def NmAt (X : Cx) : Option Str → Option Nat → Prop
  | none, none => True
  | some n, some i => X.N[i]? = some n ∧ X.env.scope.names.lookup n = some .local
  | _, _ => False
inductive HdsN (X : Cx) : List ExceptHandler → List ClV → Prop where
  | nil : HdsN X [] []
  | cons {x : Str} {c : Value} {nm : Option Str} {oi : Option Nat} {ts : Addr → Value → Option Addr → TS} {b₀ : Stmt} {suite : List Stmt} {np pos' : Pos} {hds : List ExceptHandler} {l : List ClV} (hc : Names X x c) (hn : NmAt X nm oi)
      (hsu : ∀ (a : Addr) (oe : Obj) (cls : Value) (d : Option Addr) (pn : List (Addr × Obj)), Zc cls d oe → (∃ vs, oe.data = .fields vs) → PSs (X.suite a ((a, oe) :: pn)) (b₀ :: suite) (ts a cls d)) (r : HdsN X hds l) :
      HdsN X (.ExceptHandler (some (.Name x np)) nm (b₀ :: suite) pos' :: hds) ((c, oi, ts) :: l)
section
variable {X : Cx} {body : List Stmt} {h₀ : ExceptHandler} {hds : List ExceptHandler} {l : List ClV} {pos : Pos} {tb : WX → TS} {Wout : WX}
/-- the exception a on the ground of the def that catches it -/
structure Landed (X : Cx) (pins : List (Addr × Obj)) (σ : L2.St) (H : Hp) (B : Heap) (sI s3 : Shared) (a : Addr) (cls : Value) (d : Option Addr) : Prop where
  J : Inv X pins σ H sI
  nb : ∀ b o, sI.heap.get? b = some o → b ∉ frs X.stack → B.get? b = some o
  up : sI.heap.UpToSlots s3.heap
  fl : HandSPX.FlyingZ B (X.env :: X.outer) a (Zc cls d) s3.heap
  na : H a = none
  os : s3.os = sI.os
  ag : AllBare s3.gens
theorem Landed.inv {pins : List (Addr × Obj)} {σ : L2.St} {H : Hp} {B : Heap} {sI s3 : Shared} {a : Addr} {cls : Value} {d : Option Addr} (L : Landed X pins σ H B sI s3 a cls d) : Inv X pins σ H s3 := L.J.landed L.nb L.fl.1 L.up L.os L.ag
theorem Landed.apart (hf : X.env.frame = some X.env.locals) {pins : List (Addr × Obj)} {σ : L2.St} {H : Hp} {B : Heap} {sI s3 : Shared} {a : Addr} {cls : Value} {d : Option Addr} (L : Landed X pins σ H B sI s3 a cls d) : a ≠ X.env.locals ∧ a ∉ X.fs := by
  obtain ⟨oe, vs, he, hz, hd⟩ := L.fl.there
  have far : a ∉ frs (X.env :: X.outer) := fun hm => by
    obtain ⟨_, o', e', hnf⟩ := L.fl.2.2.1.mem hm
    rw [he] at e'
    cases e'
    exact hnf _ hd
  exact ⟨fun z => far (List.mem_filterMap.mpr ⟨X.env, List.mem_cons_self, by rw [hf, z]⟩), fun hm => let ⟨e, he, q⟩ := List.mem_filterMap.mp hm; far (List.mem_filterMap.mpr ⟨e, List.mem_cons_of_mem _ he, q⟩)⟩
theorem suite_end (ok : X.Ok) (hN : X.N.Nodup) {nm : Option Str} {oi : Option Nat} (hn : NmAt X nm oi) {pins : List (Addr × Obj)} {q : Addr × Obj} {a : Addr} {pos' : Pos} {E : Ends} {f : Flow} {s6 : Shared} (h : SP (X.suite a (q :: (X.pn ++ pins))) [] (offD oi E) f s6) :
    match nm with
    | none => SP X pins E f s6
    | some n => wpAny (model X.prog X.w) X.A (do bindName X.env n .none; unbindBehindTheSuite X.env n pos') (fun _ s7 => SP X pins E f s7) X.xe s6 := by
  cases nm with
  | none =>
    cases oi with
    | some i => exact hn.elim
    | none =>
      cases f with
      | next => obtain ⟨σ6, H6, S6, q6⟩ := h; exact ⟨_, _, S6.unsuite ok, q6⟩
      | brk => obtain ⟨σ6, H6, S6, q6⟩ := h; exact ⟨_, _, S6.unsuite ok, q6⟩
      | cont => obtain ⟨σ6, H6, S6, q6⟩ := h; exact ⟨_, _, S6.unsuite ok, q6⟩
      | ret u => obtain ⟨v6, σ6, H6, S6, r6, q6⟩ := h; exact ⟨_, _, _, S6.unsuite ok, r6, q6⟩
  | some n =>
    cases oi with
    | none => exact hn.elim
    | some i =>
      obtain ⟨hi, hl⟩ := hn
      cases f with
      | next => obtain ⟨σ6, H6, S6, q6⟩ := h; exact gone_ok (S6.unsuite ok) hN hi hl fun s7 J7 => ⟨_, _, J7, q6⟩
      | brk => obtain ⟨σ6, H6, S6, q6⟩ := h; exact gone_ok (S6.unsuite ok) hN hi hl fun s7 J7 => ⟨_, _, J7, q6⟩
      | cont => obtain ⟨σ6, H6, S6, q6⟩ := h; exact gone_ok (S6.unsuite ok) hN hi hl fun s7 J7 => ⟨_, _, J7, q6⟩
      | ret u => obtain ⟨v6, σ6, H6, S6, r6, q6⟩ := h; exact gone_ok (S6.unsuite ok) hN hi hl fun s7 J7 => ⟨_, _, _, J7, r6, q6⟩
theorem handle_cls (hs : X.stack = X.env :: X.outer) (hf : X.env.frame = some X.env.locals) (hN : X.N.Nodup) (tk : Takes X Wout) {E : Ends} {pins : List (Addr × Obj)} {σ : L2.St} {H : Hp} {B : Heap} {sI s3 : Shared} {a : Addr} {cls : Value} {d : Option Addr} (L : Landed X pins σ H B sI s3 a cls d) :
    ∀ {hds : List ExceptHandler} {l : List ClV}, HdsN X hds l → wCls X.K Wout E l cls d σ H → wpAny (model X.prog X.w) X.A (handleBy (.ref a) X.env hds) (SP X pins E) X.xe s3 := by
  obtain ⟨nL, nF⟩ := L.apart hf
  obtain ⟨oe3, vs3, he3, hz3, hd3⟩ := L.fl.there
  have S3 := L.inv.suite he3 hd3 L.na nL nF
  intro hds l hk
  induction hk with
  | nil =>
    intro w
    refine wpAny_handleBy_nil ?_
    obtain ⟨_, _, _, oe, vs, tr, oT, ts', he, hz, hd, h1, hr⟩ := id L.fl
    have last : wpAny (model X.prog X.w) X.A (setFlight (.ref a) X.env.frame) (fun _ s4 => wpAny (model X.prog X.w) X.A (throw (.ref a) : Sem Flow) (SP X pins E) X.xe s4) X.xe s3 := by
      rw [hf]
      exact HandSPX.setFlight_upZ L.fl fun h4 hh4 up4 => wpAny_throw (tk _ _ ⟨a, B, sI, pins, σ, H, cls, d, rfl, L.J, L.nb, L.up.trans up4, .inr (.inr (by rw [hs]; exact hh4)), L.na, L.os, L.ag, w⟩)
    unfold PySem.passOn
    refine wpAny_bind (wpAny_field he hd h1 ?_)
    have hne : ¬ ((Value.ref tr == Value.none) = true) := by simp
    rw [if_neg hne]
    first
      | exact wpAny_bind (wpAny_pure (wpAny_bind last))
      | exact wpAny_bind last
  | @cons x c nm oi ts b₀ suite np pos' hds2 l2 hc hn hsu r ih =>
    intro w
    obtain ⟨b, hb1, hyes, hno⟩ := w
    refine wpAny_handleBy_cons (codeAny_handlers_test ?_) (by intro q; cases q)
    have look : PySem.W.Looks (model X.prog X.w) s3.heap (typeOf (.ref a)) cls := fun A Q E s k q => wpAny_typeOf_ref (k _ _ he3) (by rw [hz3.1]; exact q)
    have exm := PySem.W.exm_one (M := model X.prog X.w) L.inv.kIn look hb1
    have name : ∀ {Q : Value → Shared → Prop} {E : Value → Shared → Prop}, Q c s3 → wpAny (model X.prog X.w) (X.A.mark (some (.ref a))) (eval (.Name x np) X.env) Q E s3 := fun {Q E} q => by
      obtain ⟨hg, hdbg, hm | ⟨hm, hv, hnn⟩⟩ := hc
      · exact ld_glob (X := X.suite a ((a, oe3) :: (X.pn ++ pins))) S3 hg hm q hdbg
      · exact ld_blt (X := X.suite a ((a, oe3) :: (X.pn ++ pins))) S3 hg hm hv q hnn hdbg
    refine name (exm.here ?_)
    cases b with
    | false =>
      show wpAny _ X.A (handleBy (.ref a) X.env hds2) _ _ _
      exact ih (hno rfl)
    | true =>
      cases nm with
      | none =>
        cases oi with
        | some i => exact hn.elim
        | none =>
          refine codeAny_handlers_suite (HandSPX.lands_againZ L.fl fun h4 fl4 up4 => ?_)
          have L4 : Landed X pins σ H B sI { s3 with heap := h4 } a cls d := ⟨L.J, L.nb, L.up.trans up4, fl4, L.na, L.os, L.ag⟩
          obtain ⟨oe4, vs4, he4, hz4, hd4⟩ := fl4.there
          exact wpAny_mono ((hsu a oe4 cls d (X.pn ++ pins) hz4 ⟨_, hd4⟩).run [] _ _ H _ (L4.inv.suite he4 hd4 L.na nL nF) (hyes rfl a L.na)) (fun f s6 hsp => suite_end (pos' := pos') L.J.ok hN hn hsp) (fun _ _ z => False.elim z)
      | some n =>
        cases oi with
        | none => exact hn.elim
        | some i =>
          refine codeAny_handlers_suite_as (HandSPX.lands_againZ L.fl fun h4 fl4 up4 => ?_)
          have L4 : Landed X pins σ H B sI { s3 with heap := h4 } a cls d := ⟨L.J, L.nb, L.up.trans up4, fl4, L.na, L.os, L.ag⟩
          obtain ⟨oe4, vs4, he4, hz4, hd4⟩ := fl4.there
          refine store_ok (X := X.suite a ((a, oe4) :: (X.pn ++ pins))) (v := .ref a) (L4.inv.suite he4 hd4 L.na nL nF) hN hn.1 (.inl hn.2) rfl (fun s5 S5 => ?_) (.inr hn.2)
          refine wpAny_mono ((hsu a oe4 cls d (X.pn ++ pins) hz4 ⟨_, hd4⟩).run [] s5 _ H _ S5 (hyes rfl a L.na)) (fun f s6 hsp => ?_) (fun _ _ z => False.elim z)
          have := suite_end (pos' := pos') L.J.ok hN hn hsp
          cases f with
          | next => exact this
          | brk => exact this
          | cont => exact this
          | ret u => exact this
theorem ps_try_cls (hs : X.stack = X.env :: X.outer) (hf : X.env.frame = some X.env.locals) (hN : X.N.Nodup) (tk : Takes X Wout)
    (hb : ∀ (W : WX) (pn : List (Addr × Obj)) (xe : Value → Shared → Prop), Takes (X.tr pn xe) W → PassesOwn (model X.prog X.w) X.A X.env xe → PSs (X.tr pn xe) body (tb W)) (hh : HdsN X (h₀ :: hds) l) :
    PS X (.Try body (h₀ :: hds) [] [] pos) (fun E σ H => tb (wCls X.K Wout E l) E σ H) := by
  refine ⟨fun pins s σ H E I h => ?_⟩
  have ok := I.ok
  refine wpAny_Try_except ?_
  refine wpAny_mono ((hb (wCls X.K Wout E l) (X.pn ++ pins) (fun e s₁ => wpAny (model X.prog X.w) X.A (noteFrame e X.env) (fun _ s₂ => wpAny (model X.prog X.w) X.A (setFlight e none) (fun _ s₃ => wpAny (model X.prog X.w) X.A (handleBy e X.env (h₀ :: hds)) (SP X pins E) X.xe s₃) X.xe s₂) X.xe s₁)
    (fun u s' xx => ?_) PassesOwn.looking).run [] s σ H E (I.toTry _) h) (fun f s1 hsp => ?_) (fun e s1 he => he)
  · obtain ⟨a, B, sI, pins', σ', H', cls, d, rfl, J', nb, up, sky, na, os, ag, w⟩ := xx
    refine Sky.land Zc.steady (by rw [ok.frames, hs]) hf (by rw [← hs]; exact sky) fun h3 fl3 up3 => ?_
    exact handle_cls hs hf hN tk (s3 := { s' with heap := h3 }) ⟨J'.ofTry ok, nb, up.trans up3, fl3, na, os, ag⟩ hh w
  · cases f with
    | next => obtain ⟨σ', H', J', q⟩ := hsp; exact wpAny_execs_nil ⟨σ', H', J'.ofTry ok, q⟩
    | brk => obtain ⟨σ', H', J', q⟩ := hsp; exact ⟨σ', H', J'.ofTry ok, q⟩
    | cont => obtain ⟨σ', H', J', q⟩ := hsp; exact ⟨σ', H', J'.ofTry ok, q⟩
    | ret u => obtain ⟨v, σ', H', J', r, q⟩ := hsp; exact ⟨v, σ', H', J'.ofTry ok, r, q⟩
end
end Pv

set_option maxHeartbeats 4000000
/-! Pv15: except suites by plain values; try; a lambda handed to a def that catches. -/
namespace Pv
open PySem PySem.Spec PyProof.Rows L2

/-- attribute n of exceptions of class x may be read -/
def XcK (K : Frag) (x n : Str) : Prop := XfC K (He.ga K x) ∧ PySem.W.findIn K (.ref (He.ga K x)) n = some none
/-- in a suite: the exception's attributes cur -/
def InSui (K : Frag) (T : List (Addr × Str)) (xs : List Str) (oi : Option Nat) (a : Addr) (cls : Value) (d : Option Addr) (σ : L2.St) (m : Mm) (H : Hp) (S : Hs) (cur : List (Str × D)) : Prop :=
  ∃ x, x ∈ xs ∧ Rep K T m S H ∧ RX K m H x cur cls d ∧ ∀ i, oi = some i → ∀ y, σ[i]? = some y → y = some (.ref a)
def tItem (K : Frag) (T : List (Addr × Str)) (xs : List Str) (oi : Option Nat) (a : Addr) (cls : Value) (d : Option Addr) (x : XI) : TE := fun σ H Q => ∃ m S cur r, InSui K T xs oi a cls d σ m H S cur ∧ x.get cur = some r ∧ ∀ v, RD K m H r v → Q v H
inductive XiAt (X : Cx) (xs : List Str) (nm : Option Str) (oi : Option Nat) : XI → Expr → Prop where
  | non {j : Nat} {p : Pos} : XiAt X xs nm oi (.c .non) (.Constant .none j p)
  | bl {b : Bool} {j : Nat} {p : Pos} : XiAt X xs nm oi (.c (.bl b)) (.Constant (.bool b) j p)
  | int {i : Int} {j : Nat} {p : Pos} : XiAt X xs nm oi (.c (.int i)) (.Constant (.int i) j p)
  | str {x : Str} {j : Nat} {p : Pos} : XiAt X xs nm oi (.c (.str x)) (.Constant (.str x) j p)
  | f {n en : Str} {i : Nat} {p q : Pos} (h1 : nm = some en) (h2 : oi = some i) (hd : (en == ("__debug__" : Str)) = false) (hcd : (en == ("__classdict__" : Str)) = false) (hx : ∀ x ∈ xs, XcK X.K x n) : XiAt X xs nm oi (.f n) (.Attribute (.Name en p) n q)
inductive XisAt (X : Cx) (xs : List Str) (nm : Option Str) (oi : Option Nat) : List XI → List Expr → Prop where
  | nil : XisAt X xs nm oi [] []
  | cons {x : XI} {e : Expr} {ys : List XI} {es : List Expr} (h : XiAt X xs nm oi x e) (r : XisAt X xs nm oi ys es) : XisAt X xs nm oi (x :: ys) (e :: es)
inductive SuiAt (X : Cx) (xs : List Str) (nm : Option Str) (oi : Option Nat) : Sui → List Stmt → Prop where
  | one {x : XI} {e : Expr} {p : Pos} (h : XiAt X xs nm oi x e) : SuiAt X xs nm oi (.one x) [.Return (some e) p]
  | tup {x : List XI} {es : List Expr} {k : Nat} {p q : Pos} (h : XisAt X xs nm oi x es) : SuiAt X xs nm oi (.tup x) [.Return (some (.Tuple es k p)) q]
def tSui (K : Frag) (T : List (Addr × Str)) (xs : List Str) (c : Cl) (a : Addr) (cls : Value) (d : Option Addr) : TS := fun E σ H => ∃ m S cur, InSui K T xs c.i a cls d σ m H S cur ∧ PoS K T m H (c.s.run cur S) E WF
section
variable {X : Cx} {T : List (Addr × Str)} {xs : List Str} {nm : Option Str} {oi : Option Nat} {a : Addr} {oe : Obj} {cls : Value} {d : Option Addr} {pn : List (Addr × Obj)}
theorem pe_item (hn : NmAt X nm oi) (hz : Zc cls d oe) (hf : ∃ vs, oe.data = .fields vs) {x : XI} {e : Expr} (h : XiAt X xs nm oi x e) : PE (X.suite a ((a, oe) :: pn)) e (tItem X.K T xs oi a cls d x) := by
  cases h with
  | non => exact ⟨fun pins s σ H Q I ⟨m, S, cur, r, hin, hg, q⟩ => pe_non.run pins s σ H Q I (q _ (by cases hg; simp only [RD]))⟩
  | bl => exact ⟨fun pins s σ H Q I ⟨m, S, cur, r, hin, hg, q⟩ => pe_bl.run pins s σ H Q I (q _ (by cases hg; simp only [RD]))⟩
  | int => exact ⟨fun pins s σ H Q I ⟨m, S, cur, r, hin, hg, q⟩ => pe_int.run pins s σ H Q I (q _ (by cases hg; simp only [RD]))⟩
  | str => exact ⟨fun pins s σ H Q I ⟨m, S, cur, r, hin, hg, q⟩ => pe_str.run pins s σ H Q I (q _ (by cases hg; simp only [RD]))⟩
  | @f n en i p q h1 h2 hd hcd hx =>
    subst h1
    subst h2
    obtain ⟨hi, hl⟩ := hn
    refine ⟨fun pins s σ H Q I ⟨m, S, cur, r, ⟨x, hmem, rp, rx, hs⟩, hg, q⟩ => ?_⟩
    obtain ⟨h1, h2⟩ := hx x hmem
    have hlen : i < σ.length := by
      rw [I.len]
      exact (List.getElem?_eq_some_iff.mp hi).1
    have hσ : σ[i]? = some (some (.ref a)) := by
      rw [List.getElem?_eq_getElem hlen]
      exact congrArg some (hs i rfl _ (List.getElem?_eq_getElem hlen))
    obtain ⟨hcls, dd, ws, hdd, hw, hk⟩ := rx
    obtain ⟨u, hu, ru⟩ := hk n r hg
    refine (pe_xf (X := X) (te := tVar i) h1 h2 hz hf (pe_var (X := X.suite a ((a, oe) :: pn)) hi (.inl hl) hd hcd) rfl).run pins s σ H Q I ⟨_, hσ, rfl, hcls, dd, ws, u, hdd, hw, hu, q u ru⟩
/-- several items -/
def tItems (K : Frag) (T : List (Addr × Str)) (xs : List Str) (oi : Option Nat) (a : Addr) (cls : Value) (d : Option Addr) (x : List XI) : TA := fun σ H Q => ∃ m S cur rs, InSui K T xs oi a cls d σ m H S cur ∧ getAll cur x = some rs ∧ ∀ vs, RDs K m H rs vs → Q vs H
theorem notStar_item {x : XI} {e : Expr} (h : XiAt X xs nm oi x e) (es : List Expr) (env : Env) : starEach (e :: es) env = (false, eval e env) :: starEach es env := by
  cases h <;> rfl
theorem pa_items (hn : NmAt X nm oi) (hz : Zc cls d oe) (hf : ∃ vs, oe.data = .fields vs) {x : List XI} {es : List Expr} (h : XisAt X xs nm oi x es) : PA (X.suite a ((a, oe) :: pn)) es (tItems X.K T xs oi a cls d x) := by
  induction h with
  | nil => exact ⟨fun pos pins s σ H Q I ⟨m, S, cur, rs, hin, hg, q⟩ => pa_nil.run pos pins s σ H Q I (q [] (by cases hg; exact RDs.nil))⟩
  | @cons y e ys es h hr ih =>
    refine ⟨fun pos pins s σ H Q I ⟨m, S, cur, rs, hin, hg, q⟩ => (pa_cons (pe_item (T := T) hn hz hf h) ih (notStar_item h es _)).run pos pins s σ H Q I ?_⟩
    simp only [getAll] at hg
    split at hg
    · rename_i r1 hr1
      split at hg
      · rename_i rs2 hrs
        cases hg
        exact ⟨m, S, cur, r1, hin, hr1, fun v rv => ⟨m, S, cur, rs2, hin, hrs, fun vs rvs => q (v :: vs) (RDs.cons rv rvs)⟩⟩
      · cases hg
    · cases hg
theorem pss_sui (hn : NmAt X nm oi) (hz : Zc cls d oe) (hf : ∃ vs, oe.data = .fields vs) {c : Cl} (hi : c.i = oi) {st : List Stmt} (h : SuiAt X xs nm oi c.s st) : PSs (X.suite a ((a, oe) :: pn)) st (tSui X.K T xs c a cls d) := by
  obtain ⟨C, ci, cs⟩ := c
  cases hi
  cases h with
  | one h =>
    refine ⟨fun pins s σ H E I ⟨m, S, cur, hin, po⟩ => (pss_one (ps_ret (pe_item (T := T) hn hz hf h))).run pins s σ H E I ?_⟩
    unfold Sui.run at po
    dsimp only at po
    split at po
    · rename_i r hr
      obtain ⟨x, hx, rp, _⟩ := id hin
      exact ⟨m, S, cur, r, hin, hr, fun v rv => po v m H Grow.refl rp rv⟩
    · exact po.elim
  | tup h =>
    refine ⟨fun pins s σ H E I ⟨m, S, cur, hin, po⟩ => (pss_one (ps_ret (pe_tup (pa_items (T := T) hn hz hf h)))).run pins s σ H E I ?_⟩
    unfold Sui.run at po
    dsimp only at po
    split at po
    · rename_i rs hr
      split at po
      · rename_i hz
        obtain ⟨x, hx, rp, _⟩ := id hin
        exact ⟨m, S, cur, rs, hin, hr, fun vs rvs => ⟨by rw [rvs.len]; exact hz, po_tup (W' := fun _ _ _ => False) rp rvs po⟩⟩
      · exact po.elim
    · exact po.elim
end
/-! ### the clauses -/
inductive HdAt (X : Cx) (xs : List Str) : List Cl → List ExceptHandler → Prop where
  | nil : HdAt X xs [] []
  | cons {c : Cl} {nm : Option Str} {b₀ : Stmt} {suite : List Stmt} {np pos' : Pos} {cs : List Cl} {hds : List ExceptHandler} (hg : Gl X c.C) (hm : X.mg c.C = some (.ref (He.ga X.K c.C))) (hdb : (c.C == ("__debug__" : Str)) = false) (hn : NmAt X nm c.i) (hs : SuiAt X xs nm c.i c.s (b₀ :: suite)) (r : HdAt X xs cs hds) :
      HdAt X xs (c :: cs) (.ExceptHandler (some (.Name c.C np)) nm (b₀ :: suite) pos' :: hds)
def clV (K : Frag) (T : List (Addr × Str)) (xs : List Str) (cs : List Cl) : List ClV := cs.map fun c => (.ref (He.ga K c.C), c.i, tSui K T xs c)
/-- which clauses take which class -/
def ExmK (K : Frag) (cs : List Cl) (tb : List (Str × List Bool)) : Prop := ∀ x bs, tb.lookup x = some bs → ∀ (j : Nat) (c : Cl) (b : Bool), cs[j]? = some c → bs[j]? = some b → PySem.W.exmOne K (.ref (He.ga K x)) (.ref (He.ga K c.C)) = some b
section
variable {X : Cx} {T : List (Addr × Str)} {W : WX} {xs : List Str} {cs : List Cl} {hds : List ExceptHandler} {K : Frag}
theorem HdAt.ok (h : HdAt X xs cs hds) : HdsN X hds (clV X.K T xs cs) := by
  induction h with
  | nil => exact .nil
  | @cons c nm b₀ suite np pos' cs hds hg hm hdb hn hs r ih =>
    exact .cons ⟨hg, hdb, .inl hm⟩ hn (fun a oe cls d pn hz hf => pss_sui (T := T) hn hz hf rfl hs) ih
theorem run_rt {cur : List (Str × D)} {S : Hs} (s : Sui) : (∃ d, s.run cur S = .rt d S) ∨ s.run cur S = .stuck := by
  cases s with
  | one x =>
    unfold Sui.run
    dsimp only
    split
    · exact .inl ⟨_, rfl⟩
    · exact .inr rfl
  | tup xs =>
    unfold Sui.run
    dsimp only
    split
    · split
      · exact .inl ⟨_, rfl⟩
      · exact .inr rfl
    · exact .inr rfl
theorem onS_at {oi : Option Nat} {a : Addr} {σ : L2.St} : ∀ i, oi = some i → ∀ y, (onS oi a σ)[i]? = some y → y = some (.ref a) := fun i e y hy => by
  subst e
  have hy' : (σ.set i (some (.ref a)))[i]? = some y := hy
  by_cases hl : i < σ.length
  · rw [List.getElem?_set_self hl] at hy'
    cases hy'
    rfl
  · rw [List.getElem?_eq_none (by simpa using hl)] at hy'
    cases hy'
theorem pick_wish {E : Ends} {m m' : Mm} {H H' : Hp} {x : Str} {cur : List (Str × D)} {ρ : Ev} {S : Hs} {clsv : Value} {d : Option Addr} {σ : L2.St} (hx : x ∈ xs) (g : Grow m H m' H') (rp : Rep K T m' S H') (rv : RV K m' H' ρ σ) (rx : RX K m' H' x cur clsv d) :
    ∀ {cs : List Cl} {bs : List Bool}, (∀ (j : Nat) (c : Cl) (b : Bool), cs[j]? = some c → bs[j]? = some b → PySem.W.exmOne K (.ref (He.ga K x)) (.ref (He.ga K c.C)) = some b) → PoS K T m H (pickCl cur x ρ S cs bs) E W → wCls K W E (clV K T xs cs) clsv d σ H'
  | [], _, _, po => po σ clsv d m' H' g rp rv rx
  | _ :: _, [], _, po => po.elim
  | c :: cs, b :: bs, he, po => by
    refine ⟨b, ?_, fun hb a ha => ?_, fun hb => ?_⟩
    · have := he 0 c b rfl rfl
      rw [rx.1]
      exact this
    · subst hb
      unfold pickCl at po
      rw [if_pos rfl] at po
      refine ⟨m', S, cur, ⟨x, hx, rp, rx, onS_at⟩, ?_⟩
      rcases run_rt (cur := cur) (S := S) c.s with ⟨r, hr⟩ | hr
      · rw [hr] at po ⊢
        have po2 := PoS.grow g po
        obtain ⟨C, oi, cs'⟩ := c
        cases oi with
        | none => exact po2
        | some i => exact po2
      · rw [hr] at po
        exact po.elim
    · subst hb
      unfold pickCl at po
      rw [if_neg Bool.false_ne_true] at po
      exact pick_wish hx g rp rv rx (fun j c b h1 h2 => he (j + 1) c b (by simpa using h1) (by simpa using h2)) po
theorem catch_wish {E : Ends} {m : Mm} {H : Hp} {tb : List (Str × List Bool)} {r : SR} (hxs : ∀ x bs, tb.lookup x = some bs → x ∈ xs) (he : ExmK K cs tb) (po : PoS K T m H (catchS cs tb r) E W) : PoS K T m H r E (wCls K W E (clV K T xs cs)) := by
  cases r with
  | exc x cur ρ S =>
    unfold catchS at po
    dsimp only at po
    split at po
    · rename_i bs hb
      exact fun σ clsv d m' H' g rp rv rx => pick_wish (hxs x bs hb) g rp rv rx (he x bs hb) po
    · exact po.elim
  | nx ρ S => exact po
  | rt d S => exact po
  | bk ρ S => exact po
  | ct ρ S => exact po
  | stuck => exact po
theorem rs_try {body : List Stmt} {h₀ : ExceptHandler} {pos : Pos} {f : Ev → Hs → SR} {tb : List (Str × List Bool)} (hs : X.stack = X.env :: X.outer) (hf : X.env.frame = some X.env.locals) (hN : X.N.Nodup) (tk : Takes X W)
    (hb : ∀ (W : WX) (pn : List (Addr × Obj)) (xe : Value → Shared → Prop), Takes (X.tr pn xe) W → PassesOwn (model X.prog X.w) X.A X.env xe → RSs (X.tr pn xe) T W body f) (hh : HdAt X xs cs (h₀ :: hds)) (hxs : ∀ x bs, tb.lookup x = some bs → x ∈ xs) (he : ExmK X.K cs tb) :
    RS X T W (.Try body (h₀ :: hds) [] [] pos) (fun ρ S => catchS cs tb (f ρ S)) := by
  refine ⟨fun pins s σ H E I hhh => (ps_try_cls (tb := fun W => tS X.K T W f) hs hf hN tk hb (hh.ok (T := T))).run pins s σ H E I ?_⟩
  obtain ⟨m, ρ, S, rp, rv, po⟩ := hhh
  exact ⟨m, ρ, S, rp, rv, catch_wish hxs he po⟩
end
end Pv

set_option maxHeartbeats 4000000
/-! Pv16: a lambda handed to a def that calls it and catches. -/
namespace Pv
open PySem PySem.Spec PyProof.Rows L2 LamX

/-- try: x() .. except ..: return .., and None behind -/
def specF (cs : List Cl) (tb : List (Str × List Bool)) (th : Hs → R D) (S : Hs) : R D := match th S with
  | .ok _ S' => .ok .non S'
  | .exc x cur S' => match tb.lookup x with
    | some bs => match pickCl cur x [] S' cs bs with
      | .rt d S2 => .ok d S2
      | _ => .stuck
    | none => .stuck
  | .stuck => .stuck
def EF (Q : VK) : Ends := { nx := fun _ H => Q .non H, rt := Q }
def TTF (K : Frag) (T : List (Addr × Str)) (xs : List Str) (cs : List Cl) : (XK → Hp → VK → Prop) → Hp → VK → Prop := fun tl H Q => tl (fun cls d H' => ∀ σ, wCls K WF (EF Q) (clV K T xs cs) cls d σ H') H (fun _ H' => Q .non H')
section
variable {K : Frag} {T : List (Addr × Str)} {xs : List Str}
theorem pick_wish0 {Q : VK} {m m' : Mm} {H H' : Hp} {x : Str} {cur : List (Str × D)} {S S2 : Hs} {dd : D} {clsv : Value} {d : Option Addr} {σ : L2.St} (hx : x ∈ xs) (g : Grow m H m' H') (rp : Rep K T m' S H') (rx : RX K m' H' x cur clsv d) (po : Po K T (RD K) m H (.ok dd S2) Q (fun _ _ _ => False)) :
    ∀ {cs : List Cl} {bs : List Bool}, (∀ (j : Nat) (c : Cl) (b : Bool), cs[j]? = some c → bs[j]? = some b → PySem.W.exmOne K (.ref (He.ga K x)) (.ref (He.ga K c.C)) = some b) → pickCl cur x [] S cs bs = .rt dd S2 → wCls K WF (EF Q) (clV K T xs cs) clsv d σ H'
  | [], _, _, e => by unfold pickCl at e; cases e
  | _ :: _, [], _, e => by unfold pickCl at e; cases e
  | c :: cs, b :: bs, he, e => by
    refine ⟨b, ?_, fun hb a ha => ?_, fun hb => ?_⟩
    · have := he 0 c b rfl rfl
      rw [rx.1]
      exact this
    · subst hb
      unfold pickCl at e
      rw [if_pos rfl] at e
      refine ⟨m', S, cur, ⟨x, hx, rp, rx, onS_at⟩, ?_⟩
      rw [e]
      have po2 : ∀ v m'' H'', Grow m' H' m'' H'' → Rep K T m'' S2 H'' → RD K m'' H'' dd v → Q v H'' := fun v m'' H'' g2 => po v m'' H'' (g.trans g2)
      obtain ⟨C, oi, cs'⟩ := c
      cases oi with
      | none => exact po2
      | some i => exact po2
    · subst hb
      unfold pickCl at e
      rw [if_neg Bool.false_ne_true] at e
      exact pick_wish0 hx g rp rx po (fun j c b h1 h2 => he (j + 1) c b (by simpa using h1) (by simpa using h2)) e
theorem Rep.tabs {m : Mm} {H H1 : Hp} {S : Hs} (r : Rep K T m S H) (e : ExtN H H1) (t : Tabs T H1) : Rep K T m S H1 ∧ Grow m H m H1 := by
  have g : Grow m H m H1 := Grow.of_keep ⟨fun a o h _ n => e a o h n, fun a o h n => ⟨o, e a o h n, n⟩⟩
  refine ⟨⟨r.len, r.nd, fun n o h => ?_, fun a ha => ?_, t⟩, g⟩
  · obtain ⟨a, ho, e1, e2, e3⟩ := r.at_ n o h
    exact ⟨a, ho, e1, e a ho e2 e3.nt, RO.grow g e3⟩
  · obtain ⟨h1, o, h2, h3⟩ := r.hid a ha
    exact ⟨h1, o, e a o h2 h3, h3⟩
end
section
variable {X : Cx} {T : List (Addr × Str)} {W : WX} {xs : List Str} {cs : List Cl} {hds : List ExceptHandler} {h₀ : ExceptHandler} {tb : List (Str × List Bool)}
/-- the def keeps TTF -/
theorem fault_gives {Ng : List Str} {x a q : Str} {sg : Scope} {g : Addr} {cdg : Value} {j : Nat} {p1 p2 p3 p4 p5 p6 : Pos} (hN : Ng.Nodup) (hh : ∀ Z : Cx, Z.env.scope = sg → Z.mg = X.mg → Z.K = X.K → Z.N = Ng → HdAt Z xs cs (h₀ :: hds)) :
    GivesTo X Ng x sg g cdg [.Try [.Expr (.Call (.Name a p1) [] [] p2) p3] (h₀ :: hds) [] [] p4, .Return (some (.Constant .none j p5)) p6] a q (TTF X.K T xs cs) := by
  intro f c' s H Q tl hact hc' htt
  refine ⟨tSeq (fun E σ H => tDrop (fun σZ HZ Q => σZ[0]? = some (some (.ref f)) ∧ HZ c' = some (CodeO c' q) ∧ tl (fun cls d H' => ∀ σ', wCls X.K WF E (clV X.K T xs cs) cls d σ' H') HZ Q) E σ H) (tRet (tC .non)), ?_, ?_⟩
  · refine pss_cons (ps_try_cls (X := (cxOf C8.CX0 X.prog X.w X.K X.mg X.base Ng x sg g cdg X.A X.stack s H C8.E0).nox) (Wout := WF) (l := clV X.K T xs cs) (tb := fun W => tDrop (fun σZ HZ Q => σZ[0]? = some (some (.ref f)) ∧ HZ c' = some (CodeO c' q) ∧ tl (fun cls d H' => ∀ σ', W cls d σ' H') HZ Q)) rfl rfl hN LamX.takes0 (fun W pn xe tk hp => ?_) ((hh (cxOf C8.CX0 X.prog X.w X.K X.mg X.base Ng x sg g cdg X.A X.stack s H C8.E0).nox rfl rfl rfl rfl).ok (T := T))) (pss_one (ps_ret pe_non))
    exact pss_one (ps_expr (hact W pn xe (fun cls d H' => ∀ σ', W cls d σ' H') p1 p2 tk (fun cls d σ' H' h => h σ')) rfl)
  · exact ⟨rfl, hc', htt⟩
/-- x(lambda: body) -/
theorem re_lam {x a : Str} {g c P : Addr} {k : Nat} {pg : Arguments} {sg : Scope} {dV kV doc pm cdv ct oc : Value} {an od : Option Addr} {osl : Array (Option Value)} {Ng : List Str} {params : Arguments} {body : Expr} {scope : Scope} {fb : Ev → Hs → R D} {p lpos pos : Pos} {j : Nat} {p1 p2 p3 p4 p5 p6 : Pos}
    (hg : Gl X x) (hm : X.mg x = some (.ref g)) (hk : PySem.W.keepIn X.K (.ref g) = true) (lk : X.K.lookup g = some ⟨oc, od, .func (PySem.W.fnOf x x pg [.Try [.Expr (.Call (.Name a p1) [] [] p2) p3] (h₀ :: hds) [] [] p4, .Return (some (.Constant .none j p5)) p6] sg dV kV doc pm an cdv ct), osl⟩) (hcg : PySem.W.codeIn X.K cdv x = true)
    (hb : L2.Binds X.K (PySem.W.fnOf x x pg [.Try [.Expr (.Call (.Name a p1) [] [] p2) p3] (h₀ :: hds) [] [] p4, .Return (some (.Constant .none j p5)) p6] sg dV kV doc pm an cdv ct) [a] []) (Sg : FnScope Ng [a] sg) (hNg : Ng[0]? = some a) (hva : Vis sg a)
    (hh : ∀ Z : Cx, Z.env.scope = sg → Z.mg = X.mg → Z.K = X.K → Z.N = Ng → HdAt Z xs cs (h₀ :: hds)) (hxs : ∀ x bs, tb.lookup x = some bs → x ∈ xs) (he : ExmK X.K cs tb)
    (TB : TabB X.base X.mg c P) (hcode : X.env.code = .ref c) (hmT : (P, X.env.qual ++ "<lambda>") ∈ T) (hu : ∀ p ∈ T, p.1 = P → p.2 = X.env.qual ++ "<lambda>") (hr : Room (k + 2) X.A) (L : LamS X.env.scope scope) (hdef : defaultsOf params X.env = ([], []))
    (hbind : ∀ (q : Str) (cl : List (Str × Addr)) (pm cv ctv : Value), bindArgs (PySem.W.kla_fn "<lambda>" q params body scope cl pm cv ctv) ⟨[], []⟩ = pure [])
    (hbody : ∀ (A : Around) (outer : List Env) (s : Shared) (H : Hp) (E : XK) (f c' : Addr), Room k (A.deeper (lamEnv X scope s.heap.objs.size f c')) → RE (lamCx X A outer s H E scope f c') T (fun cls d _ H' => E cls d H') body fb)
    (hdb : (x == ("__debug__" : Str)) = false) (hd : (a == ("__debug__" : Str)) = false) (hcd : (a == ("__classdict__" : Str)) = false) : RE X T W (.Call (.Name x p) [.Lambda params body scope lpos] [] pos) (fun ρ S => specF cs tb (fb ρ) S) := by
  refine ⟨fun pins s σ H Q I h => (pe_lamcall hg hm hk lk hcg hb Sg hNg hva (fault_gives (T := T) Sg.nd hh) TB hcode hmT hu hr L hdef hbind (t := fun E => tE X.K T (fun cls d _ H' => E cls d H') fb) hbody hdb hd hcd).run pins s σ H Q I ?_⟩
  obtain ⟨m, ρ, S, rp, rv, po⟩ := h
  refine ⟨rp.tb, fun H1 eN T1 => ?_⟩
  obtain ⟨rp1, g1⟩ := rp.tabs eN T1
  refine ⟨m, ρ, S, rp1, rv.grow g1, ?_⟩
  unfold specF at po
  dsimp only at po
  cases hq : fb ρ S with
  | stuck => rw [hq] at po; exact po.elim
  | ok d S' =>
    rw [hq] at po
    exact fun v m' H' g rp' _ => po .non m' H' (g1.trans g) rp' (by simp only [RD])
  | exc y cur S' =>
    rw [hq] at po
    dsimp only at po
    split at po
    · rename_i bs hb
      split at po
      · rename_i d S2 hp
        exact fun cls dd m' H' g rp' rx σ' => pick_wish0 (hxs y bs hb) (g1.trans g) rp' rx po (he y bs hb) hp
      · exact po.elim
    · exact po.elim
end
end Pv

set_option maxHeartbeats 4000000
/-! PvS1: sets of texts, made of a list, sorted. -/
namespace Pv
open PySem PySem.Spec PyProof.Rows L2
theorem isS_str {P : Program} {w : World} (k : Str) (u : Tok) : (strKind P w).is k (.str k u) = true := by
  show Value.isStrOf k (.str k u) = true
  simp [Value.isStrOf]
def keyS (e : Int × Value) : Str := match e.2 with | .str k _ => k | _ => Str.empty
def GoodS (w : World) (e : Int × Value) : Prop := ∃ k tk, e.2 = Value.str k tk ∧ e.1 = hashStr w k

/-- the set of ints at a: S its members, n their number; its table rises and can be walked -/
def SetS (w : World) (h : Heap) (a : Addr) (S : Str → Bool) (n : Nat) : Prop :=
  ∃ o es ep t, h.get? a = some o ∧ o.ExactSet ∧ o.data = .set es ep t ∧ (∀ e ∈ es.toList, GoodS w e) ∧ (es.toList.map keyS).Nodup ∧ (∀ k, S k = true ↔ k ∈ es.toList.map keyS) ∧
    es.size < scanBound ∧ t.fits es.size = true ∧ es.size = n ∧ Ris t.place.toList ∧ (w.params.followText "set-order" = true ∨ t.led = true)

section
variable {P : Program} {w : World} {h h' : Heap} {a : Addr} {S : Str → Bool} {n : Nat}

theorem SetS.at (R : SetS w h a S n) (k : ∀ o, h.get? a = some o → h'.get? a = some o) : SetS w h' a S n := by
  obtain ⟨o, es, ep, t, ho, r⟩ := R
  exact ⟨o, es, ep, t, k o ho, r⟩
theorem SetS.lt (R : SetS w h a S n) : a < h.objs.size := by
  obtain ⟨o, es, ep, t, ho, r⟩ := R
  exact Heap.lt_size ho
theorem SetS.congr {S' : Str → Bool} (R : SetS w h a S n) (e : ∀ k, S' k = S k) : SetS w h a S' n := by
  have q : S' = S := funext e
  rw [q]; exact R
theorem good_elemsS {l : List (Int × Value)} (g : ∀ e ∈ l, GoodS w e) : ElemsOf (strKind P w) l := fun e he => by
  obtain ⟨k, tk, h1, h2⟩ := g e he
  exact ⟨⟨k, by rw [h1]; exact isS_str k tk, h2⟩, by rw [h1] <;> rfl⟩
theorem good_isS {e : Int × Value} (g : GoodS w e) (k : Str) : (strKind P w).is k e.2 = true ↔ keyS e = k := by
  obtain ⟨k0, tk, h1, _⟩ := g
  unfold keyS
  rw [h1]
  show ((k0 == k) = true) ↔ k0 = k
  exact beq_iff_eq
theorem good_memS {l : List (Int × Value)} (g : ∀ e ∈ l, GoodS w e) (k : Str) : k ∈ l.map keyS ↔ ∃ e ∈ l, (strKind P w).is k e.2 = true := by
  rw [List.mem_map]
  constructor
  · rintro ⟨e, he, q⟩
    exact ⟨e, he, (good_isS (g e he) k).2 q⟩
  · rintro ⟨e, he, q⟩
    exact ⟨e, he, (good_isS (g e he) k).1 q⟩
theorem SetS.setOf (R : SetS w h a S n) : h.SetOf (strKind P w) a S n := by
  obtain ⟨o, es, ep, t, ho, hx, hd, g, nd, hm, hb, hf, hn, _⟩ := R
  exact ⟨o, es, ep, t, ho, hx, hd, good_elemsS g, fun k => (hm k).trans (good_memS g k), hb, hf, hn⟩
end

section
variable {P : Program} {w : World} {A : Around} {E : Value → Shared → Prop} {s : Shared} {a : Addr} {S : Str → Bool} {n : Nat}

/-! ### add -/
theorem setR_add_tailS {g : Bool → Sem Unit} (hg : ∀ (b : Bool) (s₁ : Shared) (Q' : Unit → Shared → Prop), Q' () s₁ → wpAny (model P w) A (g b) Q' E s₁)
    {o : Obj} {es : Array (Int × Value)} {ep : Nat} {t : SetTable} (ho : s.heap.get? a = some o) (hex : o.ExactSet) (hd : o.data = .set es ep t)
    {es1 : Array (Int × Value)} {t2 : SetTable} {S' : Str → Bool} (g1 : ∀ e ∈ es1.toList, GoodS w e) (nd1 : (es1.toList.map keyS).Nodup) (m1 : ∀ k, S' k = true ↔ k ∈ es1.toList.map keyS)
    (hb1 : es1.size < scanBound) (hf2 : t2.fits es1.size = true) (hr : Ris t2.place.toList) (hl : w.params.followText "set-order" = true ∨ t2.led = true) {wasDummy : Bool} {R : Option Bool → Shared → Prop}
    (hR : ∀ h', Heap.SameBut a s.heap h' → SetS w h' a S' es1.size → R (some true) { s with heap := h' }) :
    wpAny (model P w) A (do
        storeSet a es1 t2
        if (!wasDummy && t2.tooFull) = true then do
            g (relayAll t2 es1 (SetTable.grown es1.size)).2.2
            storeSet a (relayAll t2 es1 (SetTable.grown es1.size)).1 (relayAll t2 es1 (SetTable.grown es1.size)).2.1
            pure (some true)
          else pure (some true)) R E s := by
  refine wpAny_bind (wpAny_storeSet_of ho hd ?_ (fits_of_scanBound hb1))
  have ho1 := store_at (es' := es1) (t' := t2) ho hd
  have sb1 := Heap.SameBut.update s.heap a (Obj.putSet es1 t2)
  split
  · have pm := relayAll_perm t2 es1 (SetTable.grown es1.size)
    have hf3 := relayAll_fits t2 es1 (SetTable.grown es1.size)
    have hr3 := relayAll_ris t2 es1 (SetTable.grown es1.size)
    have hl3 := relayAll_led t2 es1 (SetTable.grown es1.size)
    generalize relayAll t2 es1 (SetTable.grown es1.size) = Z at pm hf3 hr3 hl3 ⊢
    obtain ⟨es2, t3, gave⟩ := Z
    dsimp only at pm hf3 hr3 hl3 ⊢
    have hsz : es2.size = es1.size := by rw [← Array.length_toList, pm.length_eq, Array.length_toList]
    have hb2 : es2.size < scanBound := by rw [hsz]; exact hb1
    refine wpAny_bind (hg _ _ _ ?_)
    refine wpAny_bind (wpAny_storeSet_of ho1 rfl ?_ (fits_of_scanBound hb2))
    have ho2 := store_at (es' := es2) (t' := t3) ho1 rfl
    refine wpAny_pure (hR _ (sb1.trans (Heap.SameBut.update _ a _)) ?_)
    exact ⟨_, es2, _, t3, ho2, hex, rfl, fun e he => g1 e (pm.mem_iff.mp he), (pm.map keyS).nodup_iff.mpr nd1, fun k => (m1 k).trans (pm.map keyS).mem_iff.symm, hb2, hf3, hsz, hr3,
      hl.imp id fun z => by rw [hl3]; exact z⟩
  · exact wpAny_pure (hR _ sb1 ⟨_, es1, _, t2, ho1, hex, rfl, g1, nd1, m1, hb1, hf2, rfl, hr, hl⟩)

theorem setR_add_hashedS {k : Str} {tk : Tok} {Q : Bool → Shared → Prop} (R : SetS w s.heap a S n) (room : n + 1 < scanBound)
    (hQ : ∀ h', Heap.SameBut a s.heap h' → SetS w h' a (fun j => S j || decide (j = k)) (if S k = true then n else n + 1) → Q (!S k) { s with heap := h' }) :
    wpAny (model P w) A (setAddHashed a (.str k tk) ((strKind P w).hash k)) Q E s := by
  obtain ⟨o, es, ep, t, ho, hex, hd, g, nd, hm, hb, hf, hn, hr, hl⟩ := R
  have hkey : (strKind P w).is k (.str k tk) = true := isS_str k tk
  have hsc : (Value.str k tk).scannable = true := rfl
  have hel : ElemsOf (strKind P w) es.toList := good_elemsS g
  unfold setAddHashed setAddHashedIn
  refine wpAny_holding (wpAny_bind (wpAny_setState_of ho hd hf ?_))
  dsimp only
  rw [byScan_of hsc hb hel]
  simp only [↓reduceIte]
  unfold setAddByScan
  refine wpAny_bind ?_
  refine wpAny_bind (wpAny_rule ?_)
  refine wpAny_bind (wpAny_setScan_of hkey ho hd hf hel ?_)
  cases hfi : List.findIdx? (fun e => (strKind P w).is k e.2) es.toList with
  | some j =>
    dsimp only
    obtain ⟨hj, pj, _⟩ := List.findIdx?_eq_some_iff_getElem.mp hfi
    have hSk : S k = true := (hm k).2 ((good_memS (P := P) (w := w) g k).2 ⟨es.toList[j], List.getElem_mem hj, pj⟩)
    refine wpAny_pure (wpAny_pure ?_)
    have q := hQ s.heap (Heap.SameBut.refl a s.heap) ⟨o, es, ep, t, ho, hex, hd, g, nd, fun i => by
      rw [Bool.or_eq_true, decide_eq_true_eq, ← hm i]
      exact ⟨fun z => z.elim id (fun e => e ▸ hSk), .inl⟩, hb, hf, by rw [if_pos hSk]; exact hn, hr, hl⟩
    rw [hSk] at q
    exact q
  | none =>
    dsimp only
    have hnk : k ∉ es.toList.map keyS := fun z => by
      obtain ⟨e, he, q⟩ := (good_memS (P := P) (w := w) g k).1 z
      have c := List.findIdx?_eq_none_iff.mp hfi e he
      rw [q] at c
      cases c
    have hSk : S k = false := by
      cases q : S k with
      | false => rfl
      | true => exact absurd ((hm k).1 q) hnk
    have hgw : ∀ (b : Bool) {s₁ : Shared} {Q' : Unit → Shared → Prop}, Q' () s₁ → wpAny (model P w) A (match b with | true => rule "set.scan.the-table-gave-way" | false => pure ()) Q' E s₁ :=
      fun b s₁ Q' q => by cases b <;> first | exact wpAny_pure q | exact wpAny_rule q
    have pm := layNew_perm t es ((strKind P w).hash k) (.str k tk)
    have hf1 := layNew_fits t es ((strKind P w).hash k) (.str k tk)
    have hr1 := layNew_ris t es ((strKind P w).hash k) (.str k tk) hr
    have hl1 := layNew_led t es ((strKind P w).hash k) (.str k tk)
    generalize layNew t es ((strKind P w).hash k) (.str k tk) = Z at pm hf1 hr1 hl1 ⊢
    obtain ⟨es1, t1, wasDummy, gave⟩ := Z
    dsimp only at pm hf1 hr1 hl1 ⊢
    rw [Array.toList_push] at pm
    have pc : es1.toList.Perm (((strKind P w).hash k, Value.str k tk) :: es.toList) := pm.trans (List.perm_append_singleton _ _)
    have pk : (es1.toList.map keyS).Perm (k :: es.toList.map keyS) := pc.map keyS
    have g1 : ∀ e ∈ es1.toList, GoodS w e := fun e he => by
      rcases List.mem_cons.mp (pc.mem_iff.mp he) with z | z
      · rw [z]; exact ⟨k, tk, rfl, rfl⟩
      · exact g e z
    have nd1 : (es1.toList.map keyS).Nodup := pk.nodup_iff.mpr (List.nodup_cons.mpr ⟨hnk, nd⟩)
    have m1 : ∀ i, (S i || decide (i = k)) = true ↔ i ∈ es1.toList.map keyS := fun i => by
      rw [Bool.or_eq_true, decide_eq_true_eq, hm i, pk.mem_iff, List.mem_cons]
      exact Or.comm
    have hsz : es1.size = n + 1 := by rw [← Array.length_toList, pc.length_eq, List.length_cons, Array.length_toList, hn]
    have hb1 : es1.size < scanBound := by rw [hsz]; exact room
    have hled : w.params.followText "set-order" = true ∨ t1.led = true := hl.imp id fun z => by rw [hl1]; exact z
    have fin : ∀ h', Heap.SameBut a s.heap h' → SetS w h' a (fun j => S j || decide (j = k)) es1.size → Q true { s with heap := h' } := fun h' sb r => by
      have q := hQ h' sb
      rw [hSk] at q
      rw [hsz] at r
      exact q r
    refine wpAny_bind (hgw _ ?_)
    split
    · refine wpAny_bind ?_
      rw [hashByValue_scannable 8 hsc]
      refine wpAny_pure ?_
      refine setR_add_tailS ?_ ho hex hd g1 nd1 m1 hb1 ?_ ?_ ?_ ?_
      · intro b s₁ Q' q; cases b <;> first | exact wpAny_pure q | exact wpAny_rule q
      · first | (split <;> first | exact hf1 | exact SetTable.fits_plain_off hf1) | exact hf1
      · first | (split <;> exact hr1) | exact hr1
      · first | (split <;> exact hled) | exact hled
      · intro h' sb r; dsimp only; exact wpAny_pure (fin h' sb r)
    · refine wpAny_bind (wpAny_pure ?_)
      simp only [↓reduceIte]
      refine setR_add_tailS ?_ ho hex hd g1 nd1 m1 hb1 hf1 hr1 hled ?_
      · intro b s₁ Q' q; cases b <;> first | exact wpAny_pure q | exact wpAny_rule q
      · intro h' sb r; dsimp only; exact wpAny_pure (fin h' sb r)

end
theorem setR_new_atS {w : World} {h : Heap} {a : Addr} {ns : List Str} (ho : h.get? a = some { cls := .type "set", dict := none, data := .set #[] 0 (.fresh 0 0 (!w.params.followText "set-order")) }) : SetS w h a (fun j => decide (j ∈ ns.take 0)) 0 :=
  ⟨_, #[], 0, _, ho, ⟨rfl, rfl, rfl⟩, rfl, (fun e he => by simp at he), (by simp), (fun k => by simp), (by decide), (by rfl), rfl, List.Pairwise.nil, by
    show _ ∨ (!w.params.followText "set-order") = true
    cases w.params.followText "set-order"
    · exact .inr rfl
    · exact .inl rfl⟩
section
variable {P : Program} {w : World} {A : Around} {E : Value → Shared → Prop} {s : Shared}
theorem set_update_intsS {I : Addr} {fp wr : List Addr} {G : Array GenState → Array GenState → Prop} {n : Nat} {Pv : Nat → Value → Prop} {St : Nat → Shared → Prop} {R : Result → Shared → Prop}
    (W : WalksS P w A.in1 I fp wr G n Pv St) (S : Addr) (hSf : S ∉ fp) (ns : List Str) (hn : n = ns.length) (hb : ns.length + 1 < scanBound) (hval : ∀ i v, Pv i v → ∃ k t, ns[i]? = some k ∧ v = .str k t) :
    ∀ (k i : Nat) (s : Shared), n - i = k → i ≤ n → St i s → (∃ c, c ≤ i ∧ SetS w s.heap S (fun j => decide (j ∈ ns.take i)) c) →
      (∀ s' c, Moved (S :: wr) G s s' → c ≤ n → SetS w s'.heap S (fun j => decide (j ∈ ns)) c → R (.ok (.ret .none)) s') →
      codeAny (model P w) A (.builtin "set.update.loop" ⟨[.ref S, .ref I], []⟩) R s := by
  have hSw : S ∉ wr := fun h => hSf (W.sub _ h)
  have hsub : ∀ b ∈ wr, b ∈ S :: wr := fun b hb => List.mem_cons_of_mem _ hb
  intro k
  induction k with
  | zero =>
    intro i s hk' hi hst ⟨c, hc, hS⟩ hR
    have hin : i = n := by omega
    subst hin
    refine codeAny_builtin F.entry_set_update_loop ?_
    rw [Around.under_plainId F.plain_set_update_loop _]
    show wpAny _ A.in1 (pyNext (.ref I) >>= _) _ _ s
    refine wpAny_bind (W.done s _ _ hst fun s' hm => ?_)
    show wpAny _ A.in1 (ret Value.none) _ _ s'
    have e : ns.take i = ns := List.take_of_length_le (by omega)
    rw [e] at hS
    exact wpAny_pure (hR s' c (hm.mono hsub) hc (hS.at fun o e => hm.heap S o hSw e))
  | succ k ih =>
    intro i s hk' hi hst ⟨c, hc, hS⟩ hR
    have hlt : i < n := by omega
    refine codeAny_builtin F.entry_set_update_loop ?_
    rw [Around.under_plainId F.plain_set_update_loop _]
    show wpAny _ A.in1 (pyNext (.ref I) >>= _) _ _ s
    refine wpAny_bind (W.item i s _ _ hlt hst fun v s' hP hst' hm => ?_)
    obtain ⟨z, t, hz, rfl⟩ := hval i v hP
    have hS' : SetS w s'.heap S (fun j => decide (j ∈ ns.take i)) c := hS.at fun o e => hm.heap S o hSw e
    show wpAny _ A.in1 (holding [Value.str z t] (setAdd S (.str z t)) >>= _) _ _ s'
    refine wpAny_bind (wpAny_holding ?_)
    unfold setAdd
    refine wpAny_holding ?_
    refine wpAny_bind ((strKind P w).pyHash (k := z) (isS_str _ _) ?_)
    refine setR_add_hashedS (s := { s' with toks := s'.toks + 1 }) hS' (by omega) fun h' hsb hS2 => ?_
    have hS3 : SetS w h' S (fun j => decide (j ∈ ns.take (i + 1))) (if decide (z ∈ ns.take i) = true then c else c + 1) := hS2.congr fun j => by
      rw [List.take_add_one, hz]
      simp [List.mem_append]
    have hc3 : (if decide (z ∈ ns.take i) = true then c else c + 1) ≤ i + 1 := by
      split <;> omega
    refine wpAny_pure ⟨plainId_quiet F.plain_set_update_loop _, ih (i + 1) _ (by omega) hlt (W.frame _ s' _ _ hst' (Nat.le_succ _) fun b hb o e => ?_) ⟨_, hc3, hS3⟩ fun s'' c2 hm'' hc'' hS'' => ?_⟩
    · rw [hsb.2 b (fun h : b = S => hSf (by rw [← h]; exact hb))]; exact e
    · refine hR s'' c2 (Moved.trans W.gtrans ((hm.mono hsub).then_heap (Nat.le_succ _) fun b o hb e => ?_) hm'') hc'' hS''
      rw [hsb.2 b (fun h : b = S => hb (by rw [h]; exact List.mem_cons_self))]; exact e

set_option maxRecDepth 100000 in
set_option maxHeartbeats 3200000 in
theorem call_set_lstS {l : Addr} {items : Array Value} (ns : List Str) {Q : Value → Shared → Prop} (hh : A.handled = none) (hl : s.heap.IsList l items) (hit : StrsAre items.toList ns) (hb : ns.length + 1 < scanBound)
    (h : ∀ (h' : Heap) (tk c : Nat), SetS w h' s.heap.objs.size (fun j => decide (j ∈ ns)) c → c ≤ ns.length → (∀ b o, s.heap.get? b = some o → h'.get? b = some o) → Q (.ref s.heap.objs.size) { s with heap := h', toks := tk }) :
    wpAny (model P w) A (call (.type "set") [.ref l]) Q E s := by
  have hisz : items.size = ns.length := by
    have q := StrsAre.length hit
    rw [Array.length_toList] at q
    exact q
  obtain ⟨c, tl, hmro⟩ := F.called_set.mro
  have hmade := F.called_set.made
  have hsub := F.called_set.sub
  refine wpAny_call (codeAny_of_tree ?_)
  show wpAny _ _ (callAny (.type "set") _) _ _ _
  refine wpAny_pure ⟨Code.quiet_builtin _ (by decide +kernel), codeAny_builtin F.entry_type_call ?_⟩
  rw [Around.under_plain (weight_type_call_type "set" [.ref l] []) rfl]
  have h1 := F.called_set.notType
  have h2 := F.called_set.canCreate
  have hct := F.typeCall_set_1 (.ref l)
  repeat (any_goals (first | assumption | wp_step))

  refine codeAny_mono (code_set_led1 (.ref l) (E := E) (Q₁ := fun obj s₁ => obj = .ref s.heap.objs.size ∧ s₁ = { s with heap := s.heap.push { cls := .type "set", dict := none, data := .set #[] 0 (.fresh 0 0 (!w.params.followText "set-order")) } }) ⟨rfl, rfl⟩) fun r s₁ hr => ?_
  cases r with
  | error e => exact hr
  | ok fl =>
    cases fl with
    | ret obj =>
      obtain ⟨rfl, rfl⟩ := hr
      have hS : (s.heap.push { cls := .type "set", dict := none, data := .set #[] 0 (.fresh 0 0 (!w.params.followText "set-order")) }).get? s.heap.objs.size = some { cls := .type "set", dict := none, data := .set #[] 0 (.fresh 0 0 (!w.params.followText "set-order")) } := Heap.get?_push_size _ rfl
      have hT : Shared.TypeIs { s with heap := s.heap.push { cls := .type "set", dict := none, data := .set #[] 0 (.fresh 0 0 (!w.params.followText "set-order")) } } (.ref s.heap.objs.size) "set" := ⟨_, hS, rfl⟩
      have hli := F.called_set.init.lookup
      have hbi := F.called_set.init.bind (.ref s.heap.objs.size)
      repeat (any_goals (first | assumption | wp_step))

      refine codeAny_mono (codeAny_call_builtin (R := wants (fun r s₂ => r = .none ∧ ∃ h' tk c, s₂ = { s with heap := h', toks := tk } ∧ SetS w h' s.heap.objs.size (fun j => decide (j ∈ ns)) c ∧ c ≤ ns.length ∧
          (∀ b o, s.heap.get? b = some o → h'.get? b = some o)) E) F.called_set.init.plain F.entry_set_init (check_set_init_1 hT ?_)) fun r₂ s₂ hr₂ => ?_
      · obtain ⟨ol, hol, hcl, nl, hdl⟩ := hl
        obtain ⟨ocls, odict, odata, oslots⟩ := ol
        simp only at hcl hdl
        subst hcl; subst hdl
        have hol' : (s.heap.push { cls := .type "set", dict := none, data := .set #[] 0 (.fresh 0 0 (!w.params.followText "set-order")) }).get? l = some { cls := .type "list", dict := odict, data := .seq items nl, slots := oslots } := Heap.get?_push_of_some _ hol
        have hsls := F.sub_list_set
        have hslf := F.sub_list_frozenset
        have hne : (Value.type "list" == Value.type "dict") = false := by decide
        have hl1 : (s.heap.push { cls := .type "set", dict := none, data := .set #[] 0 (.fresh 0 0 (!w.params.followText "set-order")) }).IsList l items := ⟨_, hol', rfl, nl, rfl⟩
        unfold Builtin.«set.__init__» noKeywords Builtin.Frozenset.updateFrom
        generalize hPI : pyIter = PI
        wp_walk
        subst hPI

        refine wpAny_pyIter_list hl1 ?_
        refine wpAny_bind (wpAny_runValue ?_)
        have hlS : l < s.heap.objs.size := Heap.lt_size hol
        have hh3 : A.in1.in1.in1.handled = none := by simp [hh]
        have hz1 : (s.heap.push { cls := .type "set", dict := none, data := .set #[] 0 (.fresh 0 0 (!w.params.followText "set-order")) }).objs.size = s.heap.objs.size + 1 := Heap.size_push ..
        have hneI : l ≠ (s.heap.push { cls := .type "set", dict := none, data := .set #[] 0 (.fresh 0 0 (!w.params.followText "set-order")) }).objs.size := by
          rw [Heap.size_push]; exact Nat.ne_of_lt (Nat.lt_succ_of_lt hlS)
        have hSf : s.heap.objs.size ∉ [(s.heap.push { cls := .type "set", dict := none, data := .set #[] 0 (.fresh 0 0 (!w.params.followText "set-order")) }).objs.size, l] := by
          rw [Heap.size_push]; simp only [List.mem_cons, List.mem_singleton, List.not_mem_nil, or_false, not_or]
          exact ⟨Nat.ne_of_lt (Nat.lt_succ_self _), Nat.ne_of_gt hlS⟩
        have hval : ∀ (i : Nat) (v : Value), items[i]? = some v → ∃ k t, ns[i]? = some k ∧ v = .str k t := fun i v hv => by
          have hi : i < ns.length := by rw [← hisz]; exact (Array.getElem?_eq_some_iff.mp hv).1
          obtain ⟨t, e⟩ := PyProof.Rows.StrsAre.get hit i ns[i] (List.getElem?_eq_getElem hi)
          rw [Array.getElem?_toList, hv] at e
          exact ⟨ns[i], t, List.getElem?_eq_getElem hi, Option.some.inj e⟩
        refine set_update_intsS ((Walks.list hh3 _ l hneI items).toS) s.heap.objs.size
          hSf ns hisz hb hval (items.size - 0) 0 _ (by omega) (Nat.zero_le _)
          ⟨⟨_, Heap.get?_push_size _ rfl, rfl, rfl⟩, (hl1.push _)⟩ ?hS0 ?hR
        case hS0 =>
          have hget : ((s.heap.push { cls := .type "set", dict := none, data := .set #[] 0 (.fresh 0 0 (!w.params.followText "set-order")) }).push { cls := .type "list_iterator", data := .fields #[.ref l, .int 0 0] }).get? s.heap.objs.size
              = some { cls := .type "set", dict := none, data := .set #[] 0 (.fresh 0 0 (!w.params.followText "set-order")) } := Heap.get?_push_of_some _ hS
          exact ⟨0, Nat.le_refl 0, setR_new_atS hget⟩
        case hR =>
          intro s' c' hm hc' hS'
          obtain ⟨h', g2, d', tk', os'⟩ := s'
          have eg : g2 = s.gens := hm.gens
          have ed : d' = s.drawn := hm.drawn
          have eo : os' = s.os := hm.os
          subst eg; subst ed; subst eo
          show wpAny _ _ _ _ _ _
          refine wpAny_pure ?_
          show wpAny _ _ (ret Value.none) _ _ _
          rw [hisz] at hc'
          refine wpAny_pure ⟨rfl, h', tk', c', rfl, hS', hc', fun b o e => ?_⟩
          have hb0 : b < s.heap.objs.size := Heap.lt_size e
          have hb1 : b ≠ s.heap.objs.size := Nat.ne_of_lt hb0
          have hb2 : b ≠ (s.heap.push { cls := .type "set", dict := none, data := .set #[] 0 (.fresh 0 0 (!w.params.followText "set-order")) }).objs.size := by
            rw [Heap.size_push]; exact Nat.ne_of_lt (Nat.lt_succ_of_lt hb0)
          exact hm.heap b o (by simp only [List.mem_cons, List.mem_singleton, List.not_mem_nil, or_false, not_or]; exact ⟨hb1, hb2⟩) (Heap.get?_push_of_some _ (Heap.get?_push_of_some _ e))

      · cases r₂ with
        | error e => exact hr₂
        | ok fl₂ =>
          cases fl₂ with
          | ret r =>
            obtain ⟨rfl, h', tk, c', rfl, hS', hc', hk'⟩ := hr₂
            repeat (any_goals (first | assumption | wp_step))
            exact h _ _ _ hS' hc' hk'
          | _ => exact hr₂.elim
    | _ => exact hr.elim

end
section
variable {P : Program} {w : World} {A : Around} {E : Value → Shared → Prop} {s : Shared} {a : Addr}
def strV (v : Value) : Str := match v with
  | .str k _ => k
  | _ => Str.empty
theorem strs_of : ∀ (l : List Value), (∀ v ∈ l, ∃ k tk, v = Value.str k tk) → StrsAre l (l.map strV)
  | [], _ => .nil
  | v :: l, h => by
    obtain ⟨k, tk, rfl⟩ := h v List.mem_cons_self
    exact .cons k tk (strs_of l fun u hu => h u (List.mem_cons_of_mem _ hu))
theorem sorted_setS {S : Str → Bool} {n : Nat} {Q : Value → Shared → Prop} (R : SetS w s.heap a S n) (hh : A.handled = none) (h64 : n < 64)
    (hQ : ∀ s' p (out : Array Value) (c : Nat) (ns : List Str), (∀ b o, s.heap.get? b = some o → s'.heap.get? b = some o) → s'.gens = s.gens → s'.os = s.os → s.heap.objs.size ≤ p →
      s'.heap.get? p = some (seqObj "list" out c) → StrsAre out.toList ns → ns.Nodup → sortedS ns = true → (∀ k, k ∈ ns ↔ S k = true) → ns.length = n → Q (.ref p) s') :
    wpAny (model P w) A (call (.builtin "sorted") [.ref a]) Q E s := by
  obtain ⟨o, es, ep, t, ho, hex, hd, g, nd, hm, hb, hf, hn, hr, hl⟩ := R
  refine Calls.call_function_entry kind_sorted plain_sorted entry_sorted (args_sorted1 _) ?_
  unfold Builtin.«sorted»
  refine wpAny_bind (m := checkCount "sorted" 1 1 _) (wpAny_pure ?_)
  refine wpAny_bind (collect_set (A := A.in1) hh ⟨o, ho, hex.1, hd⟩ hf hb hr hl fun s1 vs k1 hz g1 o1 pm => ?_)
  have hvl : vs.length = n := by rw [pm.length_eq, List.length_map, Array.length_toList]; exact hn
  have hv : ∀ v ∈ vs, ∃ x t, v = Value.str x t := fun v hv => by
    obtain ⟨e, he, q⟩ := List.mem_map.mp (pm.mem_iff.mp hv)
    obtain ⟨k, tk, h1, _⟩ := g e he
    exact ⟨k, tk, by rw [← q]; exact h1⟩
  have hI : StrsAre vs (vs.map strV) := strs_of vs hv
  have pk : (vs.map strV).Perm (es.toList.map keyS) := by
    have q := pm.map strV
    rw [List.map_map] at q
    exact q
  refine wpAny_bind (wpAny_newList ?_ (by rw [hvl, sizeLine_eq]; omega))
  have hoL : (s1.heap.push (seqObj "list" vs.toArray 0)).get? s1.heap.objs.size = some (seqObj "list" vs.toArray 0) := Heap.get?_push_size _ rfl
  refine wpAny_bind (wpAny_holding (wpAny_call_entry slot_list_sort ⟨_, hoL, rfl⟩ entry_list_sort (list_sort_treeK strKind_oneLt hoL hI.keysOf (fun v₁ v₂ rest e => keyKind_strs (by rw [← e]; exact hI)) (by rw [hvl]; exact h64) fun st' hp hs => ⟨_, rfl, ?_⟩) (args_list_sort _)))
  obtain ⟨ns', a1, a2, a3⟩ := sorted_out_str hI hp hs
  generalize (arrOf st').map (·.2) = out at a1
  obtain ⟨c, hc⟩ := sortedHeap_at (vs := vs) (out := out) hoL
  have pn : ns'.Perm (es.toList.map keyS) := a2.trans pk
  refine wpAny_pure ⟨_, rfl, hQ _ s1.heap.objs.size out c ns' (fun b u e => ?_) g1 o1 hz hc a1 (pn.nodup_iff.mpr nd) a3 (fun k => by rw [pn.mem_iff, ← hm k]) ?_⟩
  · have q := k1 b u e
    have hlt := Heap.lt_size q
    show (sortedHeap (s1.heap.push (seqObj "list" vs.toArray 0)) s1.heap.objs.size vs out).get? b = some u
    rw [sortedHeap_old (Nat.ne_of_lt hlt) (by rw [size_push']; exact Nat.lt_succ_of_lt hlt)]
    exact Heap.get?_push_of_some _ q
  · rw [pn.length_eq, List.length_map, Array.length_toList]; exact hn
end
end Pv

set_option maxHeartbeats 4000000
/-! PvS2: sorted(set(x)), x a list of texts. -/
namespace Pv
open PySem PySem.Spec PyProof.Rows L2

/-! ### the order of texts -/
def sLt (a b : Str) : Prop := a.cps.toList < b.cps.toList
instance (a b : Str) : Decidable (sLt a b) := inferInstanceAs (Decidable (a.cps.toList < b.cps.toList))
theorem sLt_irr (a : Str) : ¬ sLt a a := List.lt_irrefl _
theorem sLt_trans {a b c : Str} (h : sLt a b) (k : sLt b c) : sLt a c := List.lt_trans h k
theorem str_ext {a b : Str} (h : a.cps.toList = b.cps.toList) : a = b := by
  obtain ⟨x⟩ := a
  obtain ⟨y⟩ := b
  have : x = y := by cases x; cases y; simpa using h
  rw [this]
theorem sLt_tri {a b : Str} (h : ¬ sLt a b) (n : a ≠ b) : sLt b a := by
  have h1 : b.cps.toList ≤ a.cps.toList := List.not_lt.mp h
  by_cases c : sLt b a
  · exact c
  · exact absurd (str_ext (List.le_antisymm (List.not_lt.mp c) h1)) n
def sIns (x : Str) : List Str → List Str
  | [] => [x]
  | y :: r => if x = y then y :: r else if sLt x y then x :: y :: r else y :: sIns x r
/-- sorted, without doubles -/
def sSort : List Str → List Str
  | [] => []
  | x :: r => sIns x (sSort r)
theorem sIns_mem {x k : Str} : ∀ {l : List Str}, k ∈ sIns x l ↔ k = x ∨ k ∈ l
  | [] => by simp [sIns]
  | y :: r => by
    unfold sIns
    split
    · rename_i e
      subst e
      simp
    · split
      · simp
      · rw [List.mem_cons, sIns_mem (l := r), List.mem_cons]
        constructor
        · rintro (h | h | h)
          · exact .inr (.inl h)
          · exact .inl h
          · exact .inr (.inr h)
        · rintro (h | h | h)
          · exact .inr (.inl h)
          · exact .inl h
          · exact .inr (.inr h)
theorem sSort_mem {k : Str} : ∀ {l : List Str}, k ∈ sSort l ↔ k ∈ l
  | [] => Iff.rfl
  | x :: r => by
    show k ∈ sIns x (sSort r) ↔ _
    rw [sIns_mem, sSort_mem (l := r), List.mem_cons]
theorem sIns_up {x : Str} : ∀ {l : List Str}, l.Pairwise sLt → (sIns x l).Pairwise sLt
  | [], _ => List.pairwise_singleton ..
  | y :: r, h => by
    obtain ⟨h1, h2⟩ := List.pairwise_cons.mp h
    unfold sIns
    split
    · exact h
    · rename_i n
      split
      · rename_i c
        refine List.pairwise_cons.mpr ⟨fun z hz => ?_, h⟩
        rcases List.mem_cons.mp hz with e | e
        · rw [e]; exact c
        · exact sLt_trans c (h1 z e)
      · rename_i c
        refine List.pairwise_cons.mpr ⟨fun z hz => ?_, sIns_up h2⟩
        rcases sIns_mem.mp hz with e | e
        · rw [e]; exact sLt_tri c n
        · exact h1 z e
theorem sSort_up : ∀ l : List Str, (sSort l).Pairwise sLt
  | [] => List.Pairwise.nil
  | x :: r => sIns_up (sSort_up r)
theorem up_unique : ∀ {l r : List Str}, l.Pairwise sLt → r.Pairwise sLt → (∀ k, k ∈ l ↔ k ∈ r) → l = r
  | [], [], _, _, _ => rfl
  | [], y :: r, _, _, h => by
    have := (h y).mpr (List.mem_cons_self ..)
    cases this
  | x :: l, [], _, _, h => by
    have := (h x).mp (List.mem_cons_self ..)
    cases this
  | x :: l, y :: r, hl, hr, h => by
    obtain ⟨l1, l2⟩ := List.pairwise_cons.mp hl
    obtain ⟨r1, r2⟩ := List.pairwise_cons.mp hr
    have e : x = y := by
      rcases List.mem_cons.mp ((h x).mp (List.mem_cons_self ..)) with e | e
      · exact e
      · rcases List.mem_cons.mp ((h y).mpr (List.mem_cons_self ..)) with e2 | e2
        · exact e2.symm
        · exact absurd (sLt_trans (r1 x e) (l1 y e2)) (sLt_irr _)
    subst e
    refine congrArg _ (up_unique l2 r2 fun k => ⟨fun hk => ?_, fun hk => ?_⟩)
    · rcases List.mem_cons.mp ((h k).mp (List.mem_cons_of_mem _ hk)) with e | e
      · rw [e] at hk
        exact absurd (l1 _ hk) (sLt_irr _)
      · exact e
    · rcases List.mem_cons.mp ((h k).mpr (List.mem_cons_of_mem _ hk)) with e | e
      · rw [e] at hk
        exact absurd (r1 _ hk) (sLt_irr _)
      · exact e
theorem rising_up : ∀ {l : List Str} {p : Str}, risingS p l = true → (p :: l).Nodup → (p :: l).Pairwise sLt
  | [], p, _, _ => List.pairwise_singleton ..
  | x :: r, p, h, nd => by
    obtain ⟨h1, h2⟩ := Bool.and_eq_true_iff.mp (show (!ltCps x.cps.toList p.cps.toList && risingS x r) = true from h)
    obtain ⟨n1, n2⟩ := List.nodup_cons.mp nd
    have ih := rising_up h2 n2
    have lt : sLt p x := by
      rw [ltCps_eq, Bool.not_eq_true', decide_eq_false_iff_not] at h1
      exact sLt_tri h1 fun e => n1 (by rw [e]; exact List.mem_cons_self ..)
    obtain ⟨i1, i2⟩ := List.pairwise_cons.mp ih
    refine List.pairwise_cons.mpr ⟨fun z hz => ?_, ih⟩
    rcases List.mem_cons.mp hz with e | e
    · rw [e]; exact lt
    · exact sLt_trans lt (i1 z e)
theorem sort_is {ys zs : List Str} (nd : ys.Nodup) (s : sortedS ys = true) (h : ∀ k, k ∈ ys ↔ k ∈ zs) : ys = sSort zs := by
  refine up_unique ?_ (sSort_up zs) fun k => (h k).trans sSort_mem.symm
  cases ys with
  | nil => exact List.Pairwise.nil
  | cons y r => exact rising_up s nd

/-! ### the set object, tracked -/
def SetSO (w : World) (a : Addr) (S : Str → Bool) (n : Nat) : HO := .ext fun h => SetS w h a S n
theorem setSO_new {w : World} {P : Program} {H : Hp} {h : Heap} {a : Addr} {S : Str → Bool} {n : Nat} (R : SetS w h a S n) : ObjOk P w H h a (SetSO w a S n) := by
  have ⟨o, _, _, _, ho, _⟩ := R
  exact ⟨R, ⟨o, ho⟩, fun h1 h2 p k => SetS.at p k⟩
section
variable {X : Cx}
theorem setSO_get {pins : List (Addr × Obj)} {σ : L2.St} {H : Hp} {s : Shared} {a : Addr} {S : Str → Bool} {n : Nat} (I : Inv X pins σ H s) (ha : H a = some (SetSO X.w a S n)) : SetS X.w s.heap a S n := (I.hok a _ ha).1
def rSetL (K : Frag) (w : World) : List V → Hp → VK → Prop := fun xs H Q => ∃ (l : Addr) (zs : List Str), xs = [.ref l] ∧ SqL K H l (zs.map V.str) ∧ zs.length < 64 ∧ ∀ p n, n ≤ zs.length → H p = none → Q (.ref p) (upd H p (SetSO w p (fun j => decide (j ∈ zs)) n))
theorem cr_setL (hc : X.calm = true) : CallR X (.type "set") (rSetL X.K X.w) := by
  intro pins s σ H xs us Q I r h
  obtain ⟨l, zs, rfl, hs, h64, q⟩ := h
  obtain ⟨its, rv, hl, _⟩ := I.list hs
  rw [Vals.ref1 r]
  refine call_set_lstS zs (I.ok.hd hc) hl.isList (by simpa using rv.strs) (by unfold scanBound; omega) fun h' tk c R hcn k => ?_
  exact ⟨.ref _, upd H s.heap.objs.size (SetSO X.w s.heap.objs.size (fun j => decide (j ∈ zs)) c), I.laid (t' := tk) k (Nat.le_refl _) (setSO_new R), rfl, q _ c hcn (I.hok.fresh (Nat.le_refl _))⟩
def rSortedSS (w : World) : List V → Hp → VK → Prop := fun xs H Q => ∃ (a : Addr) (S : Str → Bool) (n : Nat), xs = [.ref a] ∧ H a = some (SetSO w a S n) ∧ n < 64 ∧
  ∀ (ys : List Str) (p : Addr), ys.Nodup → sortedS ys = true → (∀ k, k ∈ ys ↔ S k = true) → H p = none → Q (.ref p) (upd H p (.lst (ys.map V.str)))
theorem cr_sortedSS (hc : X.calm = true) : CallR X (.builtin "sorted") (rSortedSS X.w) := by
  intro pins s σ H vs us Q I r h
  obtain ⟨a, S, n, rfl, ha, h64, q⟩ := h
  have R := setSO_get I ha
  rw [Vals.ref1 r]
  refine sorted_setS R (I.ok.hd hc) h64 fun s' p out c ns k g o hp hg hi hnd hs hm hl => ?_
  have hlen : (ns.map V.str).length ≤ sizeLine := by rw [List.length_map, hl, sizeLine_eq]; omega
  have hn : H p = none := I.hok.fresh hp
  have J : Inv X pins σ (upd H p (.lst (ns.map V.str))) { s with heap := s'.heap, gens := s'.gens, drawn := s'.drawn, toks := s'.toks } :=
    I.call (ch := []) (Un.laid k hp hn) (I.hok.laid k hp ⟨hlen, out.toList, c, vals_of_strs hi, hg⟩) (by rw [g]; exact I.bare) (fun _ z => nomatch z)
  have e : s' = { s with heap := s'.heap, gens := s'.gens, drawn := s'.drawn, toks := s'.toks } := by
    cases s'
    cases s
    cases o
    rfl
  rw [e]
  exact ⟨.ref p, _, J, rfl, q ns p hnd hs hm hn⟩
end
/-! ### sorted(set(x)) -/
def gSset (mt : Bool) (x : D) (S : Hs) : R D := match sOf S x with
  | .l xs => match strsD xs with
    | some zs => if zs.length < 64 then nwl mt ((sSort zs).map .str) S else .stuck
    | none => .stuck
  | _ => .stuck
theorem rds_strs {K : Frag} {m : Mm} {H : Hp} : ∀ zs : List Str, RDs K m H (zs.map .str) (zs.map .str)
  | [] => by simp only [List.map_nil, RDs]
  | n :: ns => by
    simp only [List.map_cons, RDs, RD]
    exact ⟨_, _, rfl, rfl, rds_strs ns⟩
section
variable {X : Cx} {T : List (Addr × Str)} {W : WX} {e : Expr} {fe : Ev → Hs → R D} {p p2 pos pos2 : Pos}
theorem re_sset {mt : Bool} (hc : X.calm = true) (hg : Gl X "sorted") (hm : X.mg "sorted" = none) (hg2 : Gl X "set") (hm2 : X.mg "set" = none) (he : RE X T W e fe) (hs : starEach [e] X.env = [(false, eval e X.env)]) :
    RE X T W (.Call (.Name "sorted" p) [.Call (.Name "set" p2) [e] [] pos2] [] pos) (fun ρ S => (fe ρ S).bind (gSset mt)) := by
  have h1 := pe_callTy (p := p2) (pos := pos2) (cr_setL (X := X) hc) hg2 hm2 PyProof.Rows.boot_set (pa_cons (he : PE X e _) pa_nil hs) (by decide +kernel) (by decide +kernel) hs rfl
  have h2 := pe_callB (p := p) (pos := pos) (cr_sortedSS (X := X) hc) hg hm (by decide +kernel) (pa_cons h1 pa_nil) (by decide +kernel) (by decide +kernel) rfl rfl
  refine ⟨fun pins s σ H Q I h => h2.run pins s σ H Q I ?_⟩
  obtain ⟨m, ρ, S, rp, rv, po⟩ := tG_bind (rel := RD X.K) h
  refine ⟨m, ρ, S, rp, rv, po.mono fun v H1 ⟨m1, ρ1, S1, x, rp1, rv1, rd, po1⟩ => ?_⟩
  show rSetL X.K X.w [v] H1 fun v2 H2 => rSortedSS X.w [v2] H2 Q
  unfold gSset at po1
  split at po1
  · rename_i xs hx
    split at po1
    · rename_i zs hz
      split at po1
      · rename_i h64
        obtain ⟨a, vs, rfl, e1, r1⟩ := sOf_l rp1 rd hx
        have ev := strsD_rd r1 hz
        subst ev
        refine ⟨a, zs, rfl, e1, h64, fun q n hn hq => ⟨q, _, n, rfl, upd_same, by omega, fun ys q2 nd so mem hq2 => ?_⟩⟩
        have e2 : ys = sSort zs := sort_is nd so fun k => by rw [mem k, decide_eq_true_eq]
        subst e2
        exact po_nwl (rp1.new hq) (rds_strs _) (Po.grow (Grow.new hq) po1) q2 hq2
      · exact po1.elim
    · exact po1.elim
  · exact po1.elim
end
end Pv

set_option maxHeartbeats 4000000
/-! PvS3: x[::-1], x a tuple or a list. -/
namespace Pv
open PySem PySem.Spec PyProof.Rows L2
section
variable {prog : Program} {w : World} {A : Around} {E : Value → Shared → Prop} {s : Shared}
theorem adjust_rev (n : Nat) : Builtin.Slice.sliceAdjust none none (-1) (n : Int) = ((n : Int) - 1, -1) := by
  unfold Builtin.Slice.sliceAdjust
  have h1 : ((-1 : Int) < 0) := by omega
  simp only [h1, if_true]
theorem places_rev (n : Nat) : Builtin.Slice.slicePlaces ((n : Int) - 1) (-1) (-1) = n := by
  unfold Builtin.Slice.slicePlaces
  have h1 : ¬ ((-1 : Int) > 0) := by omega
  simp only [h1, if_false]
  have e : (- -1 : Int) = 1 := by omega
  rw [e, Int.ediv_one]
  split <;> omega
theorem sliceApplied_rev {sl : Addr} {vs : Value} {n : Nat} {Q : Int × Int × Nat → Shared → Prop} (hs : s.heap.IsSliceOf sl .none .none vs) (ps : IsPart vs (some (-1)))
    (h : Q ((n : Int) - 1, -1, n) s) : wpAny (model prog w) A (Builtin.Slice.sliceApplied (.ref sl) (pure (n : Int))) Q E s := by
  obtain ⟨os, hos, hcs, hds⟩ := id hs
  unfold Builtin.Slice.sliceApplied Builtin.Slice.sliceFields
  refine wpAny_bind (wpAny_bind (wpAny_field hos hds (x := .none) rfl (wpAny_bind (wpAny_field hos hds (x := .none) rfl (wpAny_bind (wpAny_field hos hds (x := vs) rfl (wpAny_pure ?_)))))))
  refine wpAny_bind (HT.slicePart_ ps ?_)
  show wpAny _ _ (if ((-1 : Int) == 0) = true then _ else _) _ _ s
  rw [if_neg (by decide)]
  refine wpAny_bind (HT.slicePart_ .none (wpAny_bind (HT.slicePart_ .none (wpAny_bind (wpAny_pure ?_)))))
  show wpAny _ _ (match Builtin.Slice.sliceAdjust none none (-1) (n : Int) with | (lo, hi) => pure (lo, (-1 : Int), Builtin.Slice.slicePlaces lo hi (-1))) _ _ s
  rw [adjust_rev n]
  show wpAny _ _ (pure ((n : Int) - 1, (-1 : Int), Builtin.Slice.slicePlaces ((n : Int) - 1) (-1) (-1))) _ _ s
  rw [places_rev]
  exact wpAny_pure h
theorem fm_all {α : Type} (l : List α) (f : Nat → Nat) (hf : ∀ k, k < l.length → f k < l.length) : (List.range l.length).filterMap (fun k => l[f k]?) = (List.range l.length).pmap (fun k h => l[f k]'(hf k h)) (fun k hk => List.mem_range.mp hk) := by
  have key : ∀ (r : List Nat) (hr : ∀ k ∈ r, k < l.length), r.filterMap (fun k => l[f k]?) = r.pmap (fun k h => l[f k]'(hf k h)) hr := by
    intro r
    induction r with
    | nil => intro _; rfl
    | cons k r ih =>
      intro hr
      rw [List.filterMap_cons, List.getElem?_eq_getElem (hf k (hr k (List.mem_cons_self ..))), ih fun j hj => hr j (List.mem_cons_of_mem _ hj)]
      rfl
  exact key _ _
theorem pick_rev (xs : Array Value) : ((List.range xs.size).filterMap fun (m : Nat) => xs[((xs.size : Int) - 1 + (m : Int) * (-1)).toNat]?).toArray = xs.toList.reverse.toArray := by
  refine congrArg _ ?_
  have e : ∀ m : Nat, xs[((xs.size : Int) - 1 + (m : Int) * (-1)).toNat]? = xs.toList[((xs.size : Int) - 1 + (m : Int) * (-1)).toNat]? := fun m => by rw [Array.getElem?_toList]
  rw [show (fun (m : Nat) => xs[((xs.size : Int) - 1 + (m : Int) * (-1)).toNat]?) = fun (m : Nat) => xs.toList[((xs.size : Int) - 1 + (m : Int) * (-1)).toNat]? from funext fun m => e m]
  have hl : xs.size = xs.toList.length := Array.length_toList.symm
  rw [hl]
  generalize xs.toList = l
  apply List.ext_getElem?
  intro i
  rw [fm_all l (fun m => ((l.length : Int) - 1 + (m : Int) * (-1)).toNat) (fun k hk => by omega)]
  by_cases hi : i < l.length
  · rw [List.getElem?_eq_getElem (by simpa using hi), List.getElem?_eq_getElem (by simpa using hi)]
    simp only [List.getElem_pmap, List.getElem_range, List.getElem_reverse]
    refine congrArg some ?_
    congr 1
    omega
  · rw [List.getElem?_eq_none (by simpa using hi), List.getElem?_eq_none (by simpa using hi)]
theorem getItem_tuple_rev {t sl : Addr} {items : Array Value} {vs : Value} {Q : Value → Shared → Prop} (ht : IsTup s.heap t items) (hs : s.heap.IsSliceOf sl .none .none vs) (ps : IsPart vs (some (-1)))
    (h : Q (.ref s.heap.objs.size) { s with heap := s.heap.push { cls := .type "tuple", data := .seq items.toList.reverse.toArray } })
    (hsz : items.size ≤ sizeLine) : wpAny (model prog w) A (getItem (.ref t) (.ref sl)) Q E s := by
  have htake : sizeOk (.seq items.toList.reverse.toArray) := by
    show items.toList.reverse.toArray.size ≤ sizeLine
    rw [List.size_toArray, List.length_reverse, Array.length_toList]
    exact hsz
  obtain ⟨os, hos, hcs, hds⟩ := id hs
  have hTs : s.TypeIs (.ref sl) "slice" := ⟨os, hos, hcs⟩
  unfold getItem
  try with_reducible refine wpAny_holding ?_
  first | refine wpAny_bind (wpAny_pure ?_) | skip
  refine wpAny_bind (wpAny_sequenceKey ht.typeIs (by decide) ?_)
  refine wpAny_bind (wpAny_callSpecial?_slot (name := Str.ofString "__getitem__") ht.typeIs PyProof.Rows.slot_tuple_getitem
    (wpAny_call_entry PyProof.Rows.slot_tuple_getitem ht.typeIs entry_tuple_getitem ?_ (args_tuple_getitem _ _)))
  show wpAny _ _ (Builtin.Tuple.tupleItemsOf (.ref t) >>= _) _ _ s
  refine wpAny_bind (tupleItemsOf_ ht ?_)
  refine wpAny_bind (wpAny_typeOf hTs ?_)
  rw [if_pos (by decide)]
  refine wpAny_bind (sliceApplied_rev hs ps ?_)
  have hno : ¬ ((((items.size : Int) - 1) == 0 && (-1 : Int) == 1 && items.size == items.size) = true) := by
    intro q
    rw [Bool.and_eq_true, Bool.and_eq_true] at q
    exact absurd q.1.2 (by decide)
  show wpAny _ _ (if (((items.size : Int) - 1) == 0 && (-1 : Int) == 1 && items.size == items.size) = true then _ else _) _ _ s
  rw [if_neg hno, pick_rev]
  first
    | exact wpAny_bind (m := Builtin.Tuple.tupleExact _) (wpAny_newObj_type (wpAny_pure ⟨_, rfl, wpAny_pure h⟩) htake)
    | exact wpAny_bind (m := Builtin.Tuple.tupleExact _) (wpAny_newObj_type (wpAny_bind (wpAny_pure (wpAny_pure ⟨_, rfl, wpAny_pure h⟩))) htake)
    | exact wpAny_bind (wpAny_bind (m := Builtin.Tuple.tupleExact _) (wpAny_newObj_type (wpAny_pure (wpAny_pure ⟨_, rfl, wpAny_pure h⟩)) htake))
    | exact wpAny_bind (wpAny_bind (m := Builtin.Tuple.tupleExact _) (wpAny_newObj_type (wpAny_pure ⟨_, rfl, wpAny_pure h⟩) htake))
end
/-! ### the rule -/
def gRev (mt : Bool) (x : D) (S : Hs) : R D := match sOf S x with
  | .t xs => .ok (.tup xs.reverse) S
  | .l xs => nwl mt xs.reverse S
  | .no => .stuck
theorem rds_rev {K : Frag} {m : Mm} {H : Hp} {ds : List D} {vs : List V} (r : RDs K m H ds vs) : RDs K m H ds.reverse vs.reverse := by
  induction ds generalizing vs with
  | nil => simp only [RDs] at r; subst r; simp only [List.reverse_nil, RDs]
  | cons d ds ih =>
    simp only [RDs] at r
    obtain ⟨v, us, rfl, h1, h2⟩ := r
    rw [List.reverse_cons, List.reverse_cons]
    exact RDs.append (ih h2) (by simp only [RDs]; exact ⟨v, [], rfl, h1, rfl⟩)
section
variable {X : Cx} {T : List (Addr × Str)} {W : WX} {e : Expr} {fe : Ev → Hs → R D} {k : Nat} {p1 p2 p3 pos : Pos}
theorem re_rev {mt : Bool} (he : RE X T W e fe) : RE X T W (.Subscript e (.Slice none none (some (.UnaryOp .USub (.Constant (.int 1) k p1) p2)) p3) pos) (fun ρ S => (fe ρ S).bind (gRev mt)) := by
  refine ⟨fun pins s σ H Q I h => ?_⟩
  obtain ⟨m, ρ, S, rp, rv, po⟩ := h
  refine Subscript_ (thn (seqE he I rp rv po) fun v s1 ⟨y, vy, S2, m2, H1, I1, r1, rp1, rv1, g1, d1, po1⟩ => ?_)
  have hst : PO X (some (.UnaryOp .USub (.Constant (.int 1) k p1) p2)) (tPart (tUn (rU fun i => .int (-i)) (tC (.int 1)))) := po_some (pe_un un_neg pe_int)
  refine wpAny_Slice (thn (po_none.run pins s1 σ H1 (fun o H2 => o = none ∧ H2 = H1) I1 ⟨rfl, rfl⟩) fun vl s2 ⟨l, H2, I2, pl, el, e2⟩ => ?_)
  subst el e2
  refine thn (po_none.run pins s2 σ H2 (fun o H3 => o = none ∧ H3 = H2) I2 ⟨rfl, rfl⟩) fun vu s3 ⟨u, H3, I3, pu, eu, e3⟩ => ?_
  subst eu e3
  refine thn (hst.run pins s3 σ H3 (fun o H4 => o = some (-1) ∧ H4 = H3) I3 ⟨1, rfl, -1, rfl, rfl, rfl⟩) fun vs s4 ⟨o, H4, I4, ps, eo, e4⟩ => ?_
  subst eo e4
  have I5 : Inv X pins σ H4 { s4 with heap := s4.heap.push { cls := .type "slice", data := .fields #[vl, vu, vs] } } := I4.kept (t' := s4.toks) fun b ob q => Heap.get?_push_of_some _ q
  unfold gRev at po1
  split at po1
  · rename_i xs hx
    obtain ⟨a, ws, rfl, e1, r2⟩ := sOf_t d1 hx
    cases r1
    obtain ⟨its, r, ht, hz⟩ := I5.tuple e1
    have hlen := r.length
    cases pl
    cases pu
    show wpAny (model X.prog X.w) X.A (subscriptTail e (.Slice none none (some (.UnaryOp .USub (.Constant (.int 1) k p1) p2)) p3) (.ref a) (.ref s4.heap.objs.size)) (EP X pins σ Q) X.xe { s4 with heap := s4.heap.push { cls := .type "slice", data := .fields #[.none, .none, vs] } }
    refine tail_any (ops := [.ref a, .ref s4.heap.objs.size]) ht.typeIs (PyProof.Rows.slot_tuple_getitem.lookup) ?_ (by with_unfolding_all rfl)
    refine getItem_tuple_rev ht (Heap.IsSliceOf.new _ .none .none vs) ps ?_ (by rw [List.size_toArray]; omega)
    have hn := I5.hok.fresh (Nat.le_refl _)
    refine ⟨.ref _, _, I5.laid (t' := s4.toks) (o := .tup ws.reverse) (fun b ob q => Heap.get?_push_of_some _ q) (Nat.le_refl _) ?_, rfl, ?_⟩
    · exact ⟨by rw [List.length_reverse]; exact hz, its.reverse, r.reverse, IsTup.new _ _⟩
    · refine po1 _ m2 _ (Grow.new hn) (rp1.new hn) ?_
      simp only [RD]
      exact ⟨_, ws.reverse, rfl, .inl ⟨upd_same, rp1.notin hn⟩, RDs.grow (Grow.new hn) (rds_rev r2)⟩
  · rename_i xs hx
    obtain ⟨a, ws, rfl, e1, r2⟩ := sOf_l rp1 d1 hx
    cases r1
    obtain ⟨its, r, ht, hz⟩ := I5.list e1
    have hlen := r.length
    show wpAny (model X.prog X.w) X.A (subscriptTail e (.Slice none none (some (.UnaryOp .USub (.Constant (.int 1) k p1) p2)) p3) (.ref a) (.ref s4.heap.objs.size)) (EP X pins σ Q) X.xe { s4 with heap := s4.heap.push { cls := .type "slice", data := .fields #[vl, vu, vs] } }
    refine tail_any (ops := [.ref a, .ref s4.heap.objs.size]) ht.isList.typeIs (PySem.slot_list_getitem.lookup) ?_ (by with_unfolding_all rfl)
    refine wpAny_getItem_list_slice ht.isList (Heap.IsSliceOf.new _ vl vu vs) pl pu ps (by decide) ?_ (by rw [List.size_toArray]; omega)
    rw [PySem.W.krv_pick]
    refine ⟨.ref _, _, I5.laid (t' := s4.toks) (o := .lst ws.reverse) (fun b ob q => Heap.get?_push_of_some _ q) (Nat.le_refl _) ?_, rfl, po_nwl rp1 (rds_rev r2) po1 _ (I5.hok.fresh (Nat.le_refl _))⟩
    exact ⟨by rw [List.length_reverse]; exact hz, _, 0, r.reverse, Heap.get?_push_size _ rfl⟩
  · exact po1.elim
end
/-! ### x + y, a new list that may be written -/
def gAddm (x y : D) (S : Hs) : R D := match lOf S x, lOf S y with
  | some a, some b => if a.length + b.length ≤ sizeLine then nwl true (a ++ b) S else .stuck
  | _, _ => .stuck
theorem od_addm {X : Cx} {T : List (Addr × Str)} {W : WX} : OpD X T W (binaryOp .Add) gAddm := by
  intro pins s σ H m S dx dy x y v u Q I rp rx ry ex ey po
  unfold gAddm at po
  split at po
  · rename_i a b ha hb
    split at po
    · rename_i hz
      obtain ⟨p, xs, rfl, e1, r1⟩ := lOf_at rp rx ha
      obtain ⟨q, ys, rfl, e2, r2⟩ := lOf_at rp ry hb
      exact op_cat pins s σ H _ _ v u Q I ex ey ⟨p, q, xs, ys, rfl, rfl, e1, e2, by rw [r1.len, r2.len]; exact hz, po_nwl rp (RDs.append r1 r2) po⟩
    · exact po.elim
  · exact po.elim
end Pv

set_option maxHeartbeats 4000000
/-! Pv17: the program as data, its evaluator. -/
namespace Pv
open PySem PySem.Spec PyProof.Rows L2

inductive BOp where
  | add | addx | addm | sub | mul | fdiv | mod | pow
  deriving DecidableEq
inductive COp where
  | eq | ne | lt | le | gt | ge | is_ | isn | in_ | nin
  deriving DecidableEq
/-- built-in functions -/
inductive Blt where
  | len | tupl (px : Bool) | list (mt : Bool) | min | max | int | all | any | isi
/-- methods of built-in types -/
inductive Bmt where
  | append | extend | pop | insert | index | tindex | sindex | split (mt : Bool)
mutual
inductive Ex where
  | var (i : Nat)
  | non | bl (b : Bool) | int (i : Int) | str (x : Str)
  | glb (j : Nat) | ty (n : String)
  | bin (op : BOp) (a b : Ex)
  | neg (a : Ex)
  | cmp (op : COp) (a b : Ex)
  | chn (op op' : COp) (a b c : Ex)
  | and (a b : Ex) | or (a b : Ex) | one (a : Ex)
  | not (a : Ex)
  | ite (c a b : Ex)
  | tup (px : Bool) (es : Exs) | lst (mt : Bool) (es : Exs) | dic (mt : Bool) (ks : List Str) (es : Exs)
  | idx (a b : Ex)
  | tab (j : Nat) (a : Ex) | itb (ng : Bool) (j : Nat) (a : Ex)
  | sl (mt : Bool) (a : Ex) (lo hi : Ox)
  | fld (Cs : List Str) (f : Str) (a : Ex)
  | cal (f k : Nat) (es : Exs)
  | met (f k : Nat) (a : Ex) (es : Exs)
  | mk (f k : Nat) (es : Exs)
  | blt (b : Blt) (es : Exs)
  | bmt (m : Bmt) (a : Ex) (es : Exs)
  | lc (mt : Bool) (vs : List Nat) (tg : Tg) (it : Ix) (c : Ox) (e : Ex)
  | lam (j : Nat) (e : Ex)
  | sset (mt : Bool) (a : Ex) | rev (mt : Bool) (a : Ex)
inductive Exs where
  | nil | cons (e : Ex) (es : Exs)
inductive Ox where
  | no | some (e : Ex)
inductive Ix where
  | ex (e : Ex) | rng (es : Exs) | zip (es : Exs) | en (es : Exs)
end
mutual
inductive St where
  | exp (e : Ex) | doc | ret (e : Ex) | retN | pass | brk | cnt
  | ife (c : Ex) (a b : Sts)
  | asg (i : Nat) (e : Ex) | asgC (i : Nat) (e : Ex)
  | asgT (is : List Nat) (e : Ex) | par (is : List Nat) (es : Exs)
  | aug (i : Nat) (op : BOp) (e : Ex)
  | fld (C f : Str) (o e : Ex) | flda (C f : Str) (op : BOp) (o e : Ex)
  | sub (o i e : Ex)
  | for_ (tg : Tg) (it : Ix) (body : Sts)
  | whl (n : Nat) (c : Ex) (body : Sts)
  | rai (j : Nat) (es : Exs)
  | try_ (body : Sts) (cs : List Cl) (tb : List (Str × List Bool))
inductive Sts where
  | nil | cons (s : St) (ss : Sts)
end
/-- a def: where it stands, its qualified name, its parameters, its names in order, its body; the defaults by number that may be left out -/
structure FnI where
  at_ : Str × Option Str
  qual : Str
  ps : List Str
  N : List Str
  body : Sts
  dvs : List (List D)
/-- a def that calls what it gets, and catches -/
structure FltI where
  name : Str
  cs : List Cl
  tb : List (Str × List Bool)
structure Tx where
  glbs : List (Str × D)
  tabs : List (Str × List (Str × D))
  fns : List FnI
  flts : List FltI
  excs : List (Str × List Str)
  free : List Str
  flds : List (Str × List Str)
  exms : List (Str × Str × Bool)
  xfs : List (Str × Str)
  clss : List Str
abbrev Orc : Type := Nat → List D → Hs → R D

def bopG : BOp → D → D → Hs → R D
  | .add => gAdd
  | .addx => gAddx
  | .addm => gAddm
  | .sub => gSub
  | .mul => gMul
  | .fdiv => gFdiv
  | .mod => gMod
  | .pow => gPow
def copG : COp → D → D → Hs → R D
  | .eq => gEq false
  | .ne => gEq true
  | .lt => gLt
  | .le => gLe
  | .gt => gGt
  | .ge => gGe
  | .is_ => gIs false
  | .isn => gIs true
  | .in_ => gIn false
  | .nin => gIn true
def bltG : Blt → List D → Hs → R D
  | .len => gLen
  | .tupl px => gTuple px
  | .list mt => gList mt
  | .min => gMin
  | .max => gMax
  | .int => gInt1
  | .all => gAll false
  | .any => gAll true
  | .isi => gIsi
def bmtG : Bmt → D → List D → Hs → R D
  | .append => gAppend
  | .extend => gExtend
  | .pop => gPop
  | .insert => gInsert
  | .index => gIndex
  | .tindex => gTIndex
  | .sindex => gSIndex
  | .split mt => gSplit mt
def bmtT : Bmt → String
  | .tindex => "tuple"
  | .sindex => "str"
  | .split _ => "str"
  | _ => "list"
def gNeg (x : D) (S : Hs) : R D := match x with
  | .int i => .ok (.int (-i)) S
  | _ => .stuck
def gAug (op : BOp) : D → D → Hs → R D := match op with
  | .add => fun x y S => match x, y with
    | .int i, .int j => .ok (.int (i + j)) S
    | .str a, .str b => if a.length + b.length ≤ sizeLine then .ok (.str (a ++ b)) S else .stuck
    | _, _ => .stuck
  | .sub => gSub
  | .mul => gMul
  | _ => fun _ _ _ => .stuck
def hd (Os : List Orc) (f : Nat) (ds : List D) (S : Hs) : R D := match Os with
  | O :: _ => O f ds S
  | [] => .stuck
def dvOf (Γ : Tx) (f k : Nat) : List D := match Γ.fns[f]? with
  | some F => match F.dvs[k]? with
    | some dv => dv
    | none => []
  | none => []
def exsLen : Exs → Nat
  | .nil => 0
  | .cons _ r => exsLen r + 1
mutual
def ev (Γ : Tx) (Os : List Orc) : Ex → Ev → Hs → R D
  | .var i => fun ρ S => match ρ[i]? with
    | some (some d) => .ok d S
    | _ => .stuck
  | .non => fun _ S => .ok .non S
  | .bl b => fun _ S => .ok (.bl b) S
  | .int i => fun _ S => .ok (.int i) S
  | .str x => fun _ S => .ok (.str x) S
  | .glb j => match Γ.glbs[j]? with
    | some (_, d) => fun _ S => .ok d S
    | none => fun _ _ => .stuck
  | .ty n => fun _ S => .ok (.ty n) S
  | .bin op a b => mOp (bopG op) (ev Γ Os a) (ev Γ Os b)
  | .neg a => fun ρ S => (ev Γ Os a ρ S).bind gNeg
  | .cmp op a b => mOp (copG op) (ev Γ Os a) (ev Γ Os b)
  | .chn op op' a b c => mChain (copG op) (copG op') (ev Γ Os a) (ev Γ Os b) (ev Γ Os c)
  | .and a b => mAnd (ev Γ Os a) (ev Γ Os b)
  | .or a b => mOr (ev Γ Os a) (ev Γ Os b)
  | .one a => ev Γ Os a
  | .not a => mNot (ev Γ Os a)
  | .ite c a b => mIte (ev Γ Os c) (ev Γ Os a) (ev Γ Os b)
  | .tup px es => if px = true then mTupx (evs Γ Os es) else mTup (evs Γ Os es)
  | .lst mt es => mLst mt (evs Γ Os es)
  | .dic mt ks es => mDic mt ks (evl Γ Os es)
  | .idx a b => mOp gIdx (ev Γ Os a) (ev Γ Os b)
  | .tab j a => match Γ.tabs[j]? with
    | some (_, kvs) => fun ρ S => (ev Γ Os a ρ S).bind (gTab kvs)
    | none => fun _ _ => .stuck
  | .itb ng j a => match Γ.tabs[j]? with
    | some (_, kvs) => fun ρ S => (ev Γ Os a ρ S).bind (gInTab ng kvs)
    | none => fun _ _ => .stuck
  | .sl mt a lo hi => mSl mt (ev Γ Os a) (evo Γ Os lo) (evo Γ Os hi)
  | .fld Cs f a => mFld Cs f (ev Γ Os a)
  | .cal f k es => mFn (hd Os f) (dvOf Γ f k) (evs Γ Os es)
  | .met f k a es => match Γ.fns[f]? with
    | some ⟨(C, some m), _, _, _, _, _⟩ => mMeth C m (hd Os f) (dvOf Γ f k) (ev Γ Os a) (evs Γ Os es)
    | _ => fun _ _ => .stuck
  | .mk f k es => match Γ.fns[f]? with
    | some ⟨(C, some _), _, _, _, _, _⟩ => mMk C (hd Os f) (dvOf Γ f k) (evs Γ Os es)
    | _ => fun _ _ => .stuck
  | .blt b es => mCall (bltG b) (evs Γ Os es)
  | .bmt m a es => mBm (bmtT m) (bmtG m) (ev Γ Os a) (evs Γ Os es)
  | .lc mt vs tg it c e => mLc mt vs tg (evi Γ Os it) (evo Γ Os c) (ev Γ Os e)
  | .lam j e => match Γ.flts[j]? with
    | some F => fun ρ S => if Os.length = 0 then .stuck else specF F.cs F.tb (ev Γ Os.tail e ρ) S
    | none => fun _ _ => .stuck
  | .sset mt a => fun ρ S => (ev Γ Os a ρ S).bind (gSset mt)
  | .rev mt a => fun ρ S => (ev Γ Os a ρ S).bind (gRev mt)
def evs (Γ : Tx) (Os : List Orc) : Exs → Ev → Hs → R (List D)
  | .nil => mNilA
  | .cons e es => mConsA (ev Γ Os e) (evs Γ Os es)
def evl (Γ : Tx) (Os : List Orc) : Exs → List (Ev → Hs → R D)
  | .nil => []
  | .cons e es => ev Γ Os e :: evl Γ Os es
def evo (Γ : Tx) (Os : List Orc) : Ox → Option (Ev → Hs → R D)
  | .no => none
  | .some e => some (ev Γ Os e)
def evi (Γ : Tx) (Os : List Orc) : Ix → Ev → Hs → R Src
  | .ex e => mSrc (ev Γ Os e)
  | .rng es => fun ρ S => (evs Γ Os es ρ S).bind fun ds S1 => if ds.length = exsLen es then gRng ds S1 else .stuck
  | .zip es => fun ρ S => (evs Γ Os es ρ S).bind gZip
  | .en es => fun ρ S => (evs Γ Os es ρ S).bind gEnum
end
mutual
def sv (Γ : Tx) (Os : List Orc) : St → Ev → Hs → SR
  | .exp e => sExp (ev Γ Os e)
  | .doc => fun ρ S => .nx ρ S
  | .ret e => sRet (ev Γ Os e)
  | .retN => fun _ S => .rt .non S
  | .pass => fun ρ S => .nx ρ S
  | .brk => fun ρ S => .bk ρ S
  | .cnt => fun ρ S => .ct ρ S
  | .ife c a b => sIf (ev Γ Os c) (svs Γ Os a) (svs Γ Os b)
  | .asg i e => sAsg i (ev Γ Os e)
  | .asgC i e => sAsg i (ev Γ Os e)
  | .asgT is e => sAsgT is (ev Γ Os e)
  | .par is es => sPar is (evs Γ Os es)
  | .aug i op e => sAug i (gAug op) (ev Γ Os e)
  | .fld C f o e => sFldS C f (ev Γ Os o) (ev Γ Os e)
  | .flda C f op o e => sFldAugS C f (gAug op) (ev Γ Os o) (ev Γ Os e)
  | .sub o i e => sSubS (ev Γ Os o) (ev Γ Os i) (ev Γ Os e)
  | .for_ tg it body => sFor tg (evi Γ Os it) (svs Γ Os body)
  | .whl n c body => whGo (ev Γ Os c) (svs Γ Os body) n
  | .rai j es => match Γ.excs[j]? with
    | some (C, flds) => sRai C flds (evs Γ Os es)
    | none => fun _ _ => .stuck
  | .try_ body cs tb => fun ρ S => catchS cs tb (svs Γ Os body ρ S)
def svs (Γ : Tx) (Os : List Orc) : Sts → Ev → Hs → SR
  | .nil => fun ρ S => .nx ρ S
  | .cons s ss => sSeq (sv Γ Os s) (svs Γ Os ss)
end
/-- a def's end -/
def outR : SR → R D
  | .nx _ S => .ok .non S
  | .rt d S => .ok d S
  | .exc x fs _ S => .exc x fs S
  | _ => .stuck
def runFn (Γ : Tx) (Os : List Orc) (F : FnI) (ds : List D) (S : Hs) : R D := if ds.length = F.ps.length then outR (svs Γ Os F.body (ds.map some ++ List.replicate (F.N.length - ds.length) none) S) else .stuck
def specs (Γ : Tx) : Nat → List Orc
  | 0 => []
  | n + 1 => (fun f ds S => match Γ.fns[f]? with
    | some F => runFn Γ (specs Γ n) F ds S
    | none => .stuck) :: specs Γ n
end Pv

set_option maxHeartbeats 4000000
/-! Pv18: what is looked up in the written text. -/
namespace Pv
open PySem PySem.Spec PyProof.Rows L2

/-! ### kinds of expressions -/
def okE : Expr → Bool
  | .Starred .. => false
  | .Slice .. => false
  | .Set .. => false
  | _ => true
def attrB : Expr → Bool
  | .Call (.Name _ _) [] [] _ => false
  | _ => true
def tstB : Expr → Bool
  | .IfExp .. => false
  | _ => true
def plainT : Expr → Bool
  | .IfExp .. => false
  | .UnaryOp .. => false
  | .BoolOp .. => false
  | .Compare .. => false
  | _ => true
def noComp : Expr → Bool
  | .ListComp .. => false
  | .SetComp .. => false
  | .DictComp .. => false
  | _ => true
def isBO : Expr → Bool
  | .BoolOp .. => true
  | _ => false
section
variable {e : Expr} {env : Env}
theorem ok_star (h : okE e = true) (es : List Expr) : starEach (e :: es) env = (false, eval e env) :: starEach es env := by
  cases e <;> first | rfl | cases h
theorem ok_ix (h : okE e = true) : PlainIx e := by
  intro o i
  cases e <;> first | rfl | cases h
theorem ok_behind (h : okE e = true) (op : CmpOp) : behindInMarks op e = false := by
  cases e <;> first | rfl | cases h
theorem ok_last (h : okE e = true) (op op' : CmpOp) (b : Expr) : lastMarks [op, op'] [b, e] = false := ok_behind h op'
theorem ok_fold (h : okE e = true) (x : Value) : foldedSetIterable e env x = pure x := by
  cases e <;> first | rfl | cases h
theorem attr_ok (h : attrB e = true) (f : Str) : attributeBase e f env (eval e env) = eval e env := by
  unfold attributeBase
  split
  · rename_i id p1 p2
    cases h
  · rfl
theorem plain_tru (h : plainT e = true) (whole : Sem Value) : isTrue e env whole = (do let v ← whole; standAt e.pos; holding [v] (truthy v)) := by
  cases e <;> first | rfl | cases h
theorem stars_ok : ∀ (es : List Expr) (pos : Pos), es.all okE = true → (backTo pos (starEach es env)).any (·.1) = false
  | [], _, _ => rfl
  | e :: es, pos, h => by
    rw [List.all_cons, Bool.and_eq_true] at h
    rw [ok_star h.1]
    have ih := stars_ok es pos h.2
    unfold backTo at ih ⊢
    rw [List.map_cons, List.any_cons]
    rw [ih]
    rfl
theorem stars_all : ∀ (es : List Expr) (pos : Pos), es.all okE = true → (backTo pos (starEach es env)).all (fun x => !x.1) = true
  | [], _, _ => rfl
  | e :: es, pos, h => by
    rw [List.all_cons, Bool.and_eq_true] at h
    rw [ok_star h.1]
    have ih := stars_all es pos h.2
    unfold backTo at ih ⊢
    rw [List.map_cons, List.all_cons]
    rw [ih]
    rfl
theorem few_ok {es : List Expr} {pos : Pos} (h : es.all okE = true) (hl : es.length < 30) : ((backTo pos (starEach es env)).all (fun x => !x.1) && (backToKw pos (keywordEach [] env)).all (fun x => x.1.isSome) && decide (es.length + ([] : List Keyword).length + (if ([] : List Keyword).isEmpty then 0 else 1) < 30)) = true := by
  rw [stars_all es pos h]
  show (true && true && decide (es.length + 0 + 0 < 30)) = true
  simp [hl]
theorem meth_tree {o : Expr} {m : Str} {apos pos : Pos} {es : List Expr} (ho : attrB o = true) (h : es.all okE = true) (hl : es.length < 30) (hp : (apos.endLine == pos.line) = true) : eval (.Call (.Attribute o m apos) es [] pos) env = (do
      let ov ← eval o env
      standAt apos.atName
      let (f, first) ← holding [ov] (getMethod ov m (do return (← importBound o env).getD true))
      callWith pos f first (backTo pos (starEach es env)) (backToKw pos (keywordEach [] env))) := by
  rw [arm_eval_Call, attr_ok ho]
  have hform : methodCallForm (es.length + ([] : List Keyword).length) (backTo pos (starEach es env)) (backToKw pos (keywordEach [] env)) = true := few_ok h hl
  unfold methodCall calleeOf methodCallPos
  simp only [hform, hp, if_true, Bool.not_true, Bool.or_true, pure_bind]
theorem no_swap {t : Option Expr} {l : Nat} (h : noComp e = true) : swapsWith e t l env = pure false := by
  unfold swapsWith
  cases e <;> first | rfl | cases h
theorem no_sole {t : Expr} {l : Nat} (h : noComp e = true) : swapsWithSole [t] e l env = pure false := no_swap h
end
/-! ### names -/
def visB (sc : Scope) (x : Str) : Bool := match sc.names.lookup x with
  | some .local => true
  | some .cell => true
  | some .free => true
  | _ => false
def locB (sc : Scope) (x : Str) : Bool := match sc.names.lookup x with
  | some .local => true
  | some .cell => true
  | _ => false
def lclB (sc : Scope) (x : Str) : Bool := match sc.names.lookup x with
  | some .local => true
  | _ => false
def gloB (sc : Scope) (x : Str) : Bool := match sc.names.lookup x with
  | some .globalImplicit => true
  | _ => false
def ndB (x : Str) : Bool := !(x == ("__debug__" : Str)) && !(x == ("__classdict__" : Str)) && !(decide (x = ("__name__" : Str)))
section
variable {sc : Scope} {x : Str}
theorem vis_ok (h : visB sc x = true) : Vis sc x := by
  unfold visB at h
  split at h
  · rename_i q; exact .inl q
  · rename_i q; exact .inr (.inl q)
  · rename_i q; exact .inr (.inr q)
  · cases h
theorem loc_ok (h : locB sc x = true) : Loc sc x := by
  unfold locB at h
  split at h
  · rename_i q; exact .inl q
  · rename_i q; exact .inr q
  · cases h
theorem lcl_ok (h : lclB sc x = true) : sc.names.lookup x = some .local := by
  unfold lclB at h
  split at h
  · rename_i q; exact q
  · cases h
theorem glo_at (h : gloB sc x = true) : sc.names.lookup x = some .globalImplicit := by
  unfold gloB at h
  split at h
  · rename_i q; exact q
  · cases h
theorem nd_ok (h : ndB x = true) : (x == ("__debug__" : Str)) = false ∧ (x == ("__classdict__" : Str)) = false ∧ x ≠ "__name__" := by
  unfold ndB at h
  rw [Bool.and_eq_true, Bool.and_eq_true, Bool.not_eq_true', Bool.not_eq_true', Bool.not_eq_true', decide_eq_false_iff_not] at h
  exact ⟨h.1.1, h.1.2, h.2⟩
end
/-! ### the context of a check -/
structure Ck where
  sc : Scope
  N : List Str
  fn : Str → Bool
  lam : Bool
def Ck.stB (c : Ck) (x : Str) : Bool := locB c.sc x && (c.fn x || lclB c.sc x)
/-- targets -/
def nmsB (c : Ck) : List Nat → List Expr → Bool
  | [], [] => true
  | i :: is, .Name x _ :: es => decide (c.N[i]? = some x) && c.stB x && nmsB c is es
  | _, _ => false
def tgB (c : Ck) : Tg → Expr → Bool
  | .v i, .Name x _ => decide (c.N[i]? = some x) && c.stB x
  | .t is, .Tuple es _ _ => nmsB c is es
  | _, _ => false
section
variable {X : Cx} {c : Ck}
theorem st_ok {x : Str} (hs : X.env.scope = c.sc) (hf : X.fn = c.fn) (h : c.stB x = true) : Loc X.env.scope x ∧ (X.fn x = true ∨ X.env.scope.names.lookup x = some .local) := by
  unfold Ck.stB at h
  rw [Bool.and_eq_true, Bool.or_eq_true] at h
  rw [hs, hf]
  exact ⟨loc_ok h.1, h.2.imp _root_.id lcl_ok⟩
theorem nms_ok (hs : X.env.scope = c.sc) (hf : X.fn = c.fn) (hN : X.N = c.N) : ∀ {is : List Nat} {es : List Expr}, nmsB c is es = true → NamesAt X es is
  | [], [], _ => .nil
  | i :: is, e :: es, h => by
    cases e <;> simp only [nmsB] at h <;> try cases h
    rw [Bool.and_eq_true, Bool.and_eq_true] at h
    obtain ⟨h1, h2⟩ := st_ok hs hf h.1.2
    exact .cons (by rw [hN]; exact of_decide_eq_true h.1.1) h1 h2 (nms_ok hs hf hN h.2)
  | [], _ :: _, h => by simp only [nmsB] at h; cases h
  | _ :: _, [], h => by simp only [nmsB] at h; cases h
theorem tg_ok (hs : X.env.scope = c.sc) (hf : X.fn = c.fn) (hN : X.N = c.N) {tg : Tg} {e : Expr} (h : tgB c tg e = true) : TgAt X tg e := by
  unfold tgB at h
  split at h
  · rw [Bool.and_eq_true] at h
    obtain ⟨h1, h2⟩ := st_ok hs hf h.2
    exact .v (by rw [hN]; exact of_decide_eq_true h.1) h1 h2
  · exact .t (nms_ok hs hf hN h)
  · cases h
end
/-! ### operators -/
def bopP : BOp → Operator
  | .add => .Add
  | .addx => .Add
  | .addm => .Add
  | .sub => .Sub
  | .mul => .Mult
  | .fdiv => .FloorDiv
  | .mod => .Mod
  | .pow => .Pow
def copP : COp → CmpOp
  | .eq => .Eq
  | .ne => .NotEq
  | .lt => .Lt
  | .le => .LtE
  | .gt => .Gt
  | .ge => .GtE
  | .is_ => .Is
  | .isn => .IsNot
  | .in_ => .In
  | .nin => .NotIn
section
variable {X : Cx} {T : List (Addr × Str)} {W : WX}
theorem od_bop (op : BOp) : OpD X T W (binaryOp (bopP op)) (bopG op) := by
  cases op with
  | add => exact od_plus
  | addx => exact od_addx
  | addm => exact od_addm
  | sub => exact od_sub
  | mul => exact od_mul
  | fdiv => exact od_fdiv
  | mod => exact od_mod
  | pow => exact od_pow
theorem od_cop (hu : X.A.units + 64 < cLine) (op : COp) : OpD X T W (compareOp (copP op)) (copG op) := by
  cases op with
  | eq => exact od_eq hu
  | ne => exact od_ne hu
  | lt => exact od_lt
  | le => exact od_le
  | gt => exact od_gt
  | ge => exact od_ge
  | is_ => exact od_is
  | isn => exact od_isnot
  | in_ => exact od_in
  | nin => exact od_notin
/-- operators that may stand in op= -/
def augB : BOp → Bool
  | .sub => true
  | .mul => true
  | _ => false
theorem od_aug (op : BOp) : OpD X T W (inplaceOp (bopP op)) (gAug op) := by
  have no : ∀ f : Value → Value → Sem Value, OpD X T W f (fun _ _ _ => .stuck) := fun f pins s σ H m S dx dy x y v u Q I rp rx ry ex ey po => po.elim
  cases op with
  | add =>
    intro pins s σ H m S dx dy x y v u Q I rp rx ry ex ey po
    unfold gAug at po
    dsimp only at po
    split at po
    · rename_i i j
      cases (show x = .int i from rx)
      cases (show y = .int j from ry)
      exact iop_add pins s σ H _ _ v u Q I ex ey ⟨i, j, rfl, rfl, po_val rp (by simp only [RD]) po⟩
    · rename_i i j
      cases (show x = .str i from rx)
      cases (show y = .str j from ry)
      split at po
      · rename_i hz
        exact iop_add_str pins s σ H _ _ v u Q I ex ey ⟨i, j, rfl, rfl, hz, po_val rp (by simp only [RD]) po⟩
      · exact po.elim
    · exact po.elim
  | sub => exact od_int (rI_of0 iop_sub)
  | mul => exact od_int (rI_imp iop_mul fun i j h => (of_decide_eq_true h : (-(2 ^ 64) < i ∧ i < 2 ^ 64) ∨ (-(2 ^ 64) < j ∧ j < 2 ^ 64)))
  | addx => exact no _
  | addm => exact no _
  | fdiv => exact no _
  | mod => exact no _
  | pow => exact no _
end
/-! ### built-ins -/
def bltN : Blt → Str
  | .len => "len"
  | .tupl _ => "tuple"
  | .list _ => "list"
  | .min => "min"
  | .max => "max"
  | .int => "int"
  | .all => "all"
  | .any => "any"
  | .isi => "isinstance"
def bmtN : Bmt → Str
  | .append => "append"
  | .extend => "extend"
  | .pop => "pop"
  | .insert => "insert"
  | .index => "index"
  | .tindex => "index"
  | .sindex => "index"
  | .split _ => "split"
def tyNames : List (String × Str) := [("int", "int"), ("str", "str"), ("bool", "bool"), ("tuple", "tuple"), ("list", "list"), ("dict", "dict")]
section
variable {X : Cx} {T : List (Addr × Str)} {W : WX} {p pos apos : Pos} {e o : Expr} {es : List Expr} {fs : Ev → Hs → R (List D)} {fo : Ev → Hs → R D}
theorem re_blt (b : Blt) (hc : X.calm = true) (hg : Gl X (bltN b)) (hm : X.mg (bltN b) = none) (ha : RA X T W (e :: es) fs) (he : (e :: es).all okE = true) : RE X T W (.Call (.Name (bltN b) p) (e :: es) [] pos) (mCall (bltG b) fs) := by
  rw [List.all_cons, Bool.and_eq_true] at he
  have h1 := ok_star (env := X.env) he.1 es
  have h2 := stars_ok (env := X.env) es pos he.2
  cases b with
  | len => exact re_callB cd_len hg hm boot_len ha (by decide +kernel) (by decide +kernel) h1 h2
  | tupl px => exact re_callTy (x := "tuple") cd_tuple hg hm (by decide +kernel) ha (by decide +kernel) (by decide +kernel) h1 h2
  | list mt => exact re_callTy (x := "list") cd_list hg hm (by decide +kernel) ha (by decide +kernel) (by decide +kernel) h1 h2
  | min => exact re_callB (cd_min hc) hg hm (by decide +kernel) ha (by decide +kernel) (by decide +kernel) h1 h2
  | max => exact re_callB (cd_max hc) hg hm (by decide +kernel) ha (by decide +kernel) (by decide +kernel) h1 h2
  | int => exact re_callTy cd_int hg hm (by decide +kernel) ha (by decide +kernel) (by decide +kernel) h1 h2
  | all => exact re_callB (cd_all hc) hg hm (by decide +kernel) ha (by decide +kernel) (by decide +kernel) h1 h2
  | any => exact re_callB (cd_any hc) hg hm (by decide +kernel) ha (by decide +kernel) (by decide +kernel) h1 h2
  | isi => exact re_callB cd_isi hg hm (by decide +kernel) ha (by decide +kernel) (by decide +kernel) h1 h2
theorem re_bmt (b : Bmt) (ho : RE X T W o fo) (hb : attrB o = true) (ha : RA X T W (e :: es) fs) (he : (e :: es).all okE = true) (hl : (e :: es).length < 30) (hp : (apos.endLine == pos.line) = true) : RE X T W (.Call (.Attribute o (bmtN b) apos) (e :: es) [] pos) (mBm (bmtT b) (bmtG b) fo fs) := by
  have h0 := few_ok (env := X.env) (pos := pos) he hl
  rw [List.all_cons, Bool.and_eq_true] at he
  have h1 := ok_star (env := X.env) he.1 es
  have h2 := stars_ok (env := X.env) es pos he.2
  cases b with
  | append => exact re_bm PySem.F.plainAttrs_list PySem.F.slot_list_append PySem.F.type_list_append md_append ho ha (attr_ok hb _) h0 hp h1 h2
  | extend => exact re_bm PySem.F.plainAttrs_list PySem.F.slot_list_extend PySem.F.type_list_extend md_extend ho ha (attr_ok hb _) h0 hp h1 h2
  | pop => exact re_bm PySem.F.plainAttrs_list PySem.F.slot_list_pop PySem.F.type_list_pop md_pop ho ha (attr_ok hb _) h0 hp h1 h2
  | insert => exact re_bm PySem.F.plainAttrs_list PySem.F.slot_list_insert PySem.F.type_list_insert md_insert ho ha (attr_ok hb _) h0 hp h1 h2
  | index => exact re_bm PySem.F.plainAttrs_list PySem.F.slot_list_index PySem.F.type_list_index md_index ho ha (attr_ok hb _) h0 hp h1 h2
  | tindex => exact re_bm PySem.F.plainAttrs_tuple PySem.F.slot_tuple_index PySem.F.type_tuple_index md_tindex ho ha (attr_ok hb _) h0 hp h1 h2
  | sindex => exact re_bm PySem.F.plainAttrs_str PySem.F.slot_str_index PySem.F.type_str_index md_sindex ho ha (attr_ok hb _) h0 hp h1 h2
  | split mt => exact re_bm PySem.F.plainAttrs_str PySem.F.slot_str_split PySem.F.type_str_split md_split ho ha (attr_ok hb _) h0 hp h1 h2
theorem re_pop0 (ho : RE X T W o fo) (hb : attrB o = true) (hp : (apos.endLine == pos.line) = true) : RE X T W (.Call (.Attribute o "pop" apos) [] [] pos) (mBm "list" gPop fo mNilA) :=
  re_bm0 PySem.F.plainAttrs_list PySem.F.slot_list_pop PySem.F.type_list_pop md_pop ho (attr_ok hb _) hp
theorem re_ty {n : String} {x : Str} (hm : (n, x) ∈ tyNames) (hg : Gl X x) (h0 : X.mg x = none) : RE X T W (.Name x p) (fun _ S => .ok (.ty n) S) := by
  refine re_const (v := .ty n) ?_ (fun m H => by simp only [RD])
  simp only [tyNames, List.mem_cons, Prod.mk.injEq, List.not_mem_nil, or_false] at hm
  rcases hm with ⟨rfl, rfl⟩ | ⟨rfl, rfl⟩ | ⟨rfl, rfl⟩ | ⟨rfl, rfl⟩ | ⟨rfl, rfl⟩ | ⟨rfl, rfl⟩ <;> exact pe_bltn hg h0 (by decide +kernel) rfl (by decide +kernel) (by decide +kernel)
end
end Pv

set_option maxHeartbeats 4000000
/-! Pv19: expressions are as their data say. -/
namespace Pv
open PySem PySem.Spec PyProof.Rows L2 LamX

def fldsB (Γ : Tx) (C f : Str) : Bool := Γ.flds.any fun p => decide (p.1 = C) && p.2.any fun g => decide (g = f)
def freeB (Γ : Tx) (x : Str) : Bool := Γ.free.any fun y => decide (y = x)
def dvB (Γ : Tx) (f k : Nat) : Bool := match Γ.fns[f]? with
  | some F => (F.dvs[k]?).isSome
  | none => false
def noArgs : Arguments → Bool
  | ⟨[], [], none, [], [], none, []⟩ => true
  | _ => false
def ownOf (N : List Str) (vs : List Nat) : List (Str × Nat) := vs.map fun v => (N.getD v Str.empty, v)
def blkCk (c : Ck) (scope : Scope) : Ck := ⟨relS scope c.sc, c.N, fun x => scope.names.lookup x == some .cell, false⟩
mutual
def chk (Γ : Tx) (c : Ck) : Ex → Expr → Bool
  | .var i, e => match e with
    | .Name x _ => decide (c.N[i]? = some x) && visB c.sc x && ndB x
    | _ => false
  | .non, e => match e with
    | .Constant .none _ _ => true
    | _ => false
  | .bl b, e => match e with
    | .Constant (.bool b') _ _ => b == b'
    | _ => false
  | .int i, e => match e with
    | .Constant (.int j) _ _ => decide (i = j)
    | _ => false
  | .str x, e => match e with
    | .Constant (.str y) _ _ => decide (x = y)
    | _ => false
  | .glb j, e => match e, Γ.glbs[j]? with
    | .Name x _, some (y, _) => decide (x = y) && gloB c.sc x && ndB x
    | _, _ => false
  | .ty n, e => match e with
    | .Name x _ => decide ((n, x) ∈ tyNames) && gloB c.sc x && freeB Γ x
    | _ => false
  | .bin op a b, e => match e with
    | .BinOp l o r _ => decide (o = bopP op) && chk Γ c a l && chk Γ c b r
    | _ => false
  | .neg a, e => match e with
    | .UnaryOp .USub x _ => chk Γ c a x
    | _ => false
  | .cmp op a b, e => match e with
    | .Compare l [o] [r] _ => decide (o = copP op) && okE r && chk Γ c a l && chk Γ c b r
    | _ => false
  | .chn op op' a b d, e => match e with
    | .Compare l [o, o'] [r, s] _ => decide (o = copP op) && decide (o' = copP op') && okE s && chk Γ c a l && chk Γ c b r && chk Γ c d s
    | _ => false
  | .and a b, e => match e with
    | .BoolOp .And (x :: y :: r) p => tstB x && chk Γ c a x && chk Γ c b (.BoolOp .And (y :: r) p)
    | _ => false
  | .or a b, e => match e with
    | .BoolOp .Or (x :: y :: r) p => tstB x && chk Γ c a x && chk Γ c b (.BoolOp .Or (y :: r) p)
    | _ => false
  | .one a, e => match e with
    | .BoolOp _ [x] _ => tstB x && chk Γ c a x
    | _ => false
  | .not a, e => match e with
    | .UnaryOp .Not x _ => tstB x && chk Γ c a x
    | _ => false
  | .ite t a b, e => match e with
    | .IfExp u x y _ => tstB u && chk Γ c t u && chk Γ c a x && chk Γ c b y
    | _ => false
  | .tup _ es, e => match e with
    | .Tuple xs _ _ => chks Γ c es xs
    | _ => false
  | .lst _ es, e => match e with
    | .List xs _ => chks Γ c es xs
    | _ => false
  | .dic _ ks es, e => match e with
    | .Dict keys values _ => decide (keys ≠ []) && decide (keys.length ≤ 15) && decide ks.Nodup && chkd Γ c es ks keys values
    | _ => false
  | .idx a b, e => match e with
    | .Subscript x y _ => okE y && chk Γ c a x && chk Γ c b y
    | _ => false
  | .tab j a, e => match e, Γ.tabs[j]? with
    | .Subscript (.Name x _) y _, some (n, _) => decide (x = n) && gloB c.sc x && ndB x && okE y && chk Γ c a y
    | _, _ => false
  | .itb ng j a, e => match e, Γ.tabs[j]? with
    | .Compare l [o] [.Name x _] _, some (n, _) => decide (o = (if ng = true then .NotIn else .In)) && decide (x = n) && gloB c.sc x && ndB x && chk Γ c a l
    | _, _ => false
  | .sl _ a lo hi, e => match e with
    | .Subscript x (.Slice l h none _) _ => chk Γ c a x && chko Γ c lo l && chko Γ c hi h
    | _ => false
  | .fld Cs f a, e => match e with
    | .Attribute x g _ => decide (f = g) && attrB x && (Cs.all fun C => fldsB Γ C f) && chk Γ c a x
    | _ => false
  | .cal f k es, e => match e, Γ.fns[f]? with
    | .Call (.Name x _) args [] _, some ⟨(y, none), _, _, _, _, _⟩ => decide (x = y) && gloB c.sc x && ndB x && dvB Γ f k && args.all okE && chks Γ c es args
    | _, _ => false
  | .met f k a es, e => match e, Γ.fns[f]? with
    | .Call (.Attribute o m ap) args [] p, some ⟨(_, some m'), _, _, _, _, _⟩ => decide (m = m') && !decide (m = ("__init__" : Str)) && attrB o && dvB Γ f k && args.all okE && decide (args.length < 30) && (ap.endLine == p.line) && chk Γ c a o && chks Γ c es args
    | _, _ => false
  | .mk f k es, e => match e, Γ.fns[f]? with
    | .Call (.Name x _) args [] _, some ⟨(C, some m), _, _, _, _, _⟩ => decide (x = C) && decide (m = ("__init__" : Str)) && gloB c.sc x && ndB x && dvB Γ f k && args.all okE && chks Γ c es args
    | _, _ => false
  | .blt b es, e => match e with
    | .Call (.Name x _) (y :: ys) [] _ => decide (x = bltN b) && gloB c.sc x && freeB Γ x && (y :: ys).all okE && chks Γ c es (y :: ys)
    | _ => false
  | .bmt m a es, e => match e with
    | .Call (.Attribute o n ap) (y :: ys) [] p => decide (n = bmtN m) && attrB o && (y :: ys).all okE && decide ((y :: ys).length < 30) && (ap.endLine == p.line) && chk Γ c a o && chks Γ c es (y :: ys)
    | .Call (.Attribute o n ap) [] [] p => decide (n = ("pop" : Str)) && (match m with
      | .pop => true
      | _ => false) && attrB o && (ap.endLine == p.line) && chk Γ c a o && chks Γ c es []
    | _ => false
  | .lc _ vs tg it d e', e => match e with
    | .ListComp elt [⟨te, iter, ifs, z⟩] scope _ => decide (z = 0) && blkC c.N c.sc scope (ownOf c.N vs) && okE iter && tgB (blkCk c scope) tg te && (tg.ix.all fun i => vs.contains i) && chki Γ c it te iter && chkc Γ (blkCk c scope) d ifs && chk Γ (blkCk c scope) e' elt
    | _ => false
  | .lam j e', e => match e, Γ.flts[j]? with
    | .Call (.Name x _) [.Lambda params body scope _] [] _, some F => c.lam && decide (x = F.name) && gloB c.sc x && lamSB c.sc scope && noArgs params && chk Γ ⟨scope, c.N, fun _ => false, false⟩ e' body
    | _, _ => false
  | .sset _ a, e => match e with
    | .Call (.Name x _) [.Call (.Name y _) [z] [] _] [] _ => decide (x = ("sorted" : Str)) && decide (y = ("set" : Str)) && gloB c.sc x && gloB c.sc y && freeB Γ x && freeB Γ y && okE z && chk Γ c a z
    | _ => false
  | .rev _ a, e => match e with
    | .Subscript x (.Slice none none (some (.UnaryOp .USub (.Constant (.int i) _ _) _)) _) _ => decide (i = 1) && chk Γ c a x
    | _ => false
def chks (Γ : Tx) (c : Ck) : Exs → List Expr → Bool
  | .nil, es => match es with
    | [] => true
    | _ => false
  | .cons e r, es => match es with
    | x :: xs => okE x && chk Γ c e x && chks Γ c r xs
    | _ => false
def chkd (Γ : Tx) (c : Ck) : Exs → List Str → List (Option Expr) → List Expr → Bool
  | .nil, ks, keys, vals => match ks, keys, vals with
    | [], [], [] => true
    | _, _, _ => false
  | .cons e r, ks, keys, vals => match ks, keys, vals with
    | k :: ks, some (.Constant (.str k') _ _) :: keys, v :: vals => decide (k = k') && chk Γ c e v && chkd Γ c r ks keys vals
    | _, _, _ => false
def chko (Γ : Tx) (c : Ck) : Ox → Option Expr → Bool
  | .no, o => match o with
    | none => true
    | _ => false
  | .some e, o => match o with
    | some x => chk Γ c e x
    | _ => false
def chkc (Γ : Tx) (c : Ck) : Ox → List Expr → Bool
  | .no, o => match o with
    | [] => true
    | _ => false
  | .some e, o => match o with
    | [x] => tstB x && chk Γ c e x
    | _ => false
def chki (Γ : Tx) (c : Ck) : Ix → Expr → Expr → Bool
  | .ex e, _, x => chk Γ c e x
  | .rng es, _, x => match x with
    | .Call (.Name n _) args [] _ => decide (n = ("range" : Str)) && gloB c.sc n && freeB Γ n && (decide (args.length = 1) || decide (args.length = 2)) && chks Γ c es args
    | _ => false
  | .zip es, te, x => match te, x with
    | .Tuple _ _ _, .Call (.Name n _) args [] _ => decide (n = ("zip" : Str)) && gloB c.sc n && freeB Γ n && decide (args.length = 2) && chks Γ c es args
    | _, _ => false
  | .en es, te, x => match te, x with
    | .Tuple _ _ _, .Call (.Name n _) args [] _ => decide (n = ("enumerate" : Str)) && gloB c.sc n && freeB Γ n && decide (args.length = 1) && chks Γ c es args
    | _, _ => false
end

/-! ### what is known of the text -/
/-- a def that calls what it gets and catches: where it stands -/
structure FltK (K : Frag) (mg : Str → Option Value) (F : FltI) (a : Str) (pg : Arguments) (sg : Scope) (Ng : List Str) (h₀ : ExceptHandler) (hds : List ExceptHandler) (xs : List Str) (j : Nat) (p1 p2 p3 p4 p5 p6 : Pos) : Prop where
  m : mg F.name = some (.ref (He.ga K F.name))
  kp : PySem.W.keepIn K (.ref (He.ga K F.name)) = true
  lk : ∃ (dV kV doc pm cdv ct oc : Value) (an od : Option Addr) (osl : Array (Option Value)), K.lookup (He.ga K F.name) = some ⟨oc, od, .func (PySem.W.fnOf F.name F.name pg [.Try [.Expr (.Call (.Name a p1) [] [] p2) p3] (h₀ :: hds) [] [] p4, .Return (some (.Constant .none j p5)) p6] sg dV kV doc pm an cdv ct), osl⟩ ∧
    PySem.W.codeIn K cdv F.name = true ∧ L2.Binds K (PySem.W.fnOf F.name F.name pg [.Try [.Expr (.Call (.Name a p1) [] [] p2) p3] (h₀ :: hds) [] [] p4, .Return (some (.Constant .none j p5)) p6] sg dV kV doc pm an cdv ct) [a] []
  sc : FnScope Ng [a] sg
  n0 : Ng[0]? = some a
  vis : Vis sg a
  hh : ∀ Z : Cx, Z.env.scope = sg → Z.mg = mg → Z.K = K → Z.N = Ng → HdAt Z xs F.cs (h₀ :: hds)
  xs_ : ∀ x bs, F.tb.lookup x = some bs → x ∈ xs
  ex : ExmK K F.cs F.tb
  nd : ndB F.name = true
  na : ndB a = true
structure TxOk (Γ : Tx) (P : Program) (w : World) (K : Frag) (mg : Str → Option Value) (base : Heap) : Prop where
  glb : ∀ (j : Nat) x d, Γ.glbs[j]? = some (x, d) → ∃ u v, mg x = some u ∧ RelV v u ∧ ∀ m H, RD K m H d v
  tab : ∀ (j : Nat) x kvs, Γ.tabs[j]? = some (x, kvs) → mg x = some (.ref (He.ga K x)) ∧ TabK K w x kvs
  free : ∀ x ∈ Γ.free, mg x = none
  exm : ∀ x y b, (x, y, b) ∈ Γ.exms → PySem.W.exmOne K (.ref (He.ga K x)) (.ref (He.ga K y)) = some b
  xf : ∀ x n, (x, n) ∈ Γ.xfs → XcK K x n
  cls : ∀ x ∈ Γ.clss, mg x = some (.ref (He.ga K x))
  flds : ∀ C fs, (C, fs) ∈ Γ.flds → ∀ f ∈ fs, ClsOk K C f
  fn : ∀ (j : Nat) F x, Γ.fns[j]? = some F → F.at_ = (x, none) → mg x = some (.ref (He.ga K x))
  mt : ∀ (j : Nat) F C m, Γ.fns[j]? = some F → F.at_ = (C, some m) → m ≠ "__init__" → MtK K C m (He.ma K (He.ga K C) m)
  mks : ∀ (j : Nat) F C, Γ.fns[j]? = some F → F.at_ = (C, some ("__init__" : Str)) → Mk K (He.ga K C) (He.ma K (He.ga K C) "__init__") ∧ mg C = some (.ref (He.ga K C))
  flt : ∀ (j : Nat) F, Γ.flts[j]? = some F → ∃ a pg sg Ng h₀ hds xs i p1 p2 p3 p4 p5 p6, FltK K mg F a pg sg Ng h₀ hds xs i p1 p2 p3 p4 p5 p6
  exc : ∀ (j : Nat) C flds, Γ.excs[j]? = some (C, flds) → mg C = some (.ref (He.ga K C)) ∧ ExcK P w K mg base 1 C flds
/-- a def's promise at a level -/
def FnAll (Γ : Tx) (P : Program) (w : World) (K : Frag) (mg : Str → Option Value) (base : Heap) (T : List (Addr × Str)) (l : Nat) (O : Nat → List D → Hs → R D) : Prop := ∀ (f : Nat) F, Γ.fns[f]? = some F → ∀ (k : Nat) dv, F.dvs[k]? = some dv → FnK P w K mg base T l (He.fAd K F.at_) F.ps.length dv (O f)
inductive OsOk (Γ : Tx) (P : Program) (w : World) (K : Frag) (mg : Str → Option Value) (base : Heap) (T : List (Addr × Str)) : List Orc → Prop where
  | nil (h : FnAll Γ P w K mg base T 1 (hd [])) : OsOk Γ P w K mg base T []
  | cons {O : Orc} {r : List Orc} (h : FnAll Γ P w K mg base T (2 * (r.length + 1) + 1) (hd (O :: r))) (t : OsOk Γ P w K mg base T r) : OsOk Γ P w K mg base T (O :: r)
/-- the context -/
structure Gx (Γ : Tx) (T : List (Addr × Str)) (c : Ck) (Os : List Orc) (X : Cx) (W : WX) : Prop where
  tx : TxOk Γ X.prog X.w X.K X.mg X.base
  os : OsOk Γ X.prog X.w X.K X.mg X.base T Os
  sc : X.env.scope = c.sc
  N : X.N = c.N
  fn : X.fn = c.fn
  nd : X.N.Nodup
  calm : X.calm = true
  tk : Takes X W
  room : Room (2 * Os.length + 2) X.A
  kind : X.env.scope.kind = .function
  lam : c.lam = true → ∃ cd pt, X.env.code = .ref cd ∧ TabB X.base X.mg cd pt ∧ (pt, X.env.qual ++ "<lambda>") ∈ T ∧ ∀ p ∈ T, p.1 = pt → p.2 = X.env.qual ++ "<lambda>"
structure Snd (X : Cx) (T : List (Addr × Str)) (W : WX) (e : Expr) (f : Ev → Hs → R D) : Prop where
  re : RE X T W e f
  rt : tstB e = true → RT X T W e (mB f)
  rw : isBO e = true → RW X T W e (mB f)
section
variable {Γ : Tx} {T : List (Addr × Str)} {c : Ck} {Os : List Orc} {X : Cx} {W : WX}
theorem Gx.gl (G : Gx Γ T c Os X W) {x : Str} (h : gloB c.sc x = true) : Gl X x := by
  show X.env.scope.names.lookup x = _
  rw [G.sc]
  exact glo_at h
theorem Gx.units (G : Gx Γ T c Os X W) : X.A.units + 64 < cLine := by
  have := G.room.un
  omega
theorem Gx.free (G : Gx Γ T c Os X W) {x : Str} (h : freeB Γ x = true) : X.mg x = none := by
  unfold freeB at h
  obtain ⟨y, h1, h2⟩ := List.any_eq_true.mp h
  rw [of_decide_eq_true h2] at h1
  exact G.tx.free x h1
theorem Gx.flds (G : Gx Γ T c Os X W) {C f : Str} (h : fldsB Γ C f = true) : ClsOk X.K C f := by
  unfold fldsB at h
  obtain ⟨⟨C', fs⟩, h1, h2⟩ := List.any_eq_true.mp h
  rw [Bool.and_eq_true] at h2
  obtain ⟨g, h3, h4⟩ := List.any_eq_true.mp h2.2
  cases of_decide_eq_true h2.1
  cases of_decide_eq_true h4
  exact G.tx.flds _ fs h1 _ h3
theorem plain {e : Expr} {f : Ev → Hs → R D} (h : RE X T W e f) (hp : plainT e = true) : Snd X T W e f :=
  ⟨h, fun _ => rt_val h (plain_tru hp), fun hb => by cases e <;> first | (cases hb; done) | (cases hp; done)⟩
theorem own_ix {N : List Str} : ∀ vs : List Nat, (ownOf N vs).map (·.2) = vs
  | [] => rfl
  | v :: vs => by
    show v :: (ownOf N vs).map (·.2) = _
    rw [own_ix vs]
theorem relab {scope : Scope} {env : Env} : relabel scope env = relS scope env.scope := rfl
/-- the block of a comprehension -/
theorem Gx.blk (G : Gx Γ T c Os X W) (scope : Scope) (hk : scope.kind = .function) (s : Shared) (H : Hp) (C : Addr) (cl : List (Str × Addr)) (fp : List Addr) : Gx Γ T (blkCk c scope) Os (X.blk s H scope (compEnvC scope cl C X.env) fp) WF :=
  { tx := G.tx, os := G.os, sc := by show relabel scope X.env = _; rw [relab, G.sc]; rfl, N := G.N, fn := rfl, nd := G.nd, calm := G.calm, tk := LamX.takes0, room := G.room, kind := hk, lam := fun z => by cases z }
theorem hd_fn (G : Gx Γ T c Os X W) {f k : Nat} {F : FnI} (hf : Γ.fns[f]? = some F) (hk : dvB Γ f k = true) : FnK X.prog X.w X.K X.mg X.base T (2 * Os.length + 1) (He.fAd X.K F.at_) F.ps.length (dvOf Γ f k) (hd Os f) := by
  have ho := G.os
  unfold dvB at hk
  rw [hf] at hk
  dsimp only at hk
  cases hd : F.dvs[k]? with
  | none => rw [hd] at hk; cases hk
  | some dv =>
    have e : dvOf Γ f k = dv := by unfold dvOf; rw [hf]; dsimp only; rw [hd]
    rw [e]
    cases ho with
    | nil h => exact h f F hf k dv hd
    | cons h t => exact h f F hf k dv hd
theorem stuckE {e : Expr} {f : Ev → Hs → R D} (h : ∀ ρ S, ∀ (m : Mm) (H : Hp) (Q : VK) (W' : Value → Option Addr → Hp → Prop), ¬ Po X.K T (RD X.K) m H (f ρ S) Q W') : RE X T W e f :=
  ⟨fun pins s σ H Q I ⟨m, ρ, S, rp, rv, po⟩ => (h ρ S m H Q _ po).elim⟩
end
end Pv

set_option maxHeartbeats 4000000
/-! Pv20: expressions are as their data say: the proof. -/
namespace Pv
open PySem PySem.Spec PyProof.Rows L2 LamX

theorem ba2 {a b : Bool} (h : (a && b) = true) : a = true ∧ b = true := by rwa [Bool.and_eq_true] at h
section
variable {Γ : Tx} {T : List (Addr × Str)}
theorem chks_ok {c : Ck} : ∀ (es : Exs) (xs : List Expr), chks Γ c es xs = true → xs.all okE = true
  | .nil, xs, h => by
    simp only [chks] at h
    split at h
    · rfl
    · cases h
  | .cons e r, xs, h => by
    simp only [chks] at h
    split at h
    · obtain ⟨h, h3⟩ := ba2 h
      obtain ⟨h1, h2⟩ := ba2 h
      rw [List.all_cons, h1, chks_ok r _ h3]
      rfl
    · cases h
theorem exs_len {c : Ck} : ∀ (es : Exs) (xs : List Expr), chks Γ c es xs = true → exsLen es = xs.length
  | .nil, xs, h => by
    simp only [chks] at h
    split at h
    · rfl
    · cases h
  | .cons e r, xs, h => by
    simp only [chks] at h
    split at h
    · obtain ⟨h, h3⟩ := ba2 h
      simp only [exsLen, List.length_cons]
      rw [exs_len r _ h3]
    · cases h
theorem noArgs_ok {a : Arguments} (h : noArgs a = true) : a = ⟨[], [], none, [], [], none, []⟩ := by
  unfold noArgs at h
  split at h
  · rfl
  · cases h
mutual
theorem snd : ∀ (x : Ex) (e : Expr) {c : Ck} {Os : List Orc} {X : Cx} {W : WX}, Gx Γ T c Os X W → chk Γ c x e = true → Snd X T W e (ev Γ Os x)
  | .var i, e, c, Os, X, W, G, h => by
    simp only [chk] at h
    split at h
    · obtain ⟨h, h3⟩ := ba2 h
      obtain ⟨h1, h2⟩ := ba2 h
      obtain ⟨n1, n2, _⟩ := nd_ok h3
      exact plain (re_var (by rw [G.N]; exact of_decide_eq_true h1) (by rw [G.sc]; exact vis_ok h2) n1 n2) rfl
    · cases h
  | .non, e, c, Os, X, W, G, h => by
    simp only [chk] at h
    split at h
    · exact plain (re_const pe_non fun m H => by simp only [RD]) rfl
    · cases h
  | .bl b, e, c, Os, X, W, G, h => by
    simp only [chk] at h
    split at h
    · cases beq_iff_eq.mp h
      exact plain (re_const pe_bl fun m H => by simp only [RD]) rfl
    · cases h
  | .int i, e, c, Os, X, W, G, h => by
    simp only [chk] at h
    split at h
    · cases of_decide_eq_true h
      exact plain (re_const pe_int fun m H => by simp only [RD]) rfl
    · cases h
  | .str x, e, c, Os, X, W, G, h => by
    simp only [chk] at h
    split at h
    · cases of_decide_eq_true h
      exact plain (re_const pe_str fun m H => by simp only [RD]) rfl
    · cases h
  | .glb j, e, c, Os, X, W, G, h => by
    simp only [chk] at h
    split at h
    · rename_i x p y d hj
      obtain ⟨h, h3⟩ := ba2 h
      obtain ⟨h1, h2⟩ := ba2 h
      cases of_decide_eq_true h1
      obtain ⟨n1, _, _⟩ := nd_ok h3
      obtain ⟨u, v, hm, r, hr⟩ := G.tx.glb j x d hj
      simp only [ev, hj]
      exact plain (re_const (pe_glob (G.gl h2) hm r n1) hr) rfl
    · cases h
  | .ty n, e, c, Os, X, W, G, h => by
    simp only [chk] at h
    split at h
    · obtain ⟨h, h3⟩ := ba2 h
      obtain ⟨h1, h2⟩ := ba2 h
      exact plain (re_ty (of_decide_eq_true h1) (G.gl h2) (G.free h3)) rfl
    · cases h
  | .bin op a b, e, c, Os, X, W, G, h => by
    simp only [chk] at h
    split at h
    · obtain ⟨h, h3⟩ := ba2 h
      obtain ⟨h1, h2⟩ := ba2 h
      cases of_decide_eq_true h1
      exact plain (re_bin (od_bop op) (snd a _ G h2).re (snd b _ G h3).re) rfl
    · cases h
  | .neg a, e, c, Os, X, W, G, h => by
    simp only [chk] at h
    split at h
    · refine ⟨re_un (g := gNeg) ?_ (snd a _ G h).re, fun _ => ?_, fun hb => by cases hb⟩
      · intro pins s σ H m S dx x v Q I rp rx ex po
        unfold gNeg at po
        split at po
        · rename_i i
          cases (show x = .int i from rx)
          exact un_neg pins s σ H _ v Q I ex ⟨i, rfl, po_val rp (by simp only [RD]) po⟩
        · exact po.elim
      · refine rt_val (re_un (g := gNeg) ?_ (snd a _ G h).re) (fun _ => rfl)
        intro pins s σ H m S dx x v Q I rp rx ex po
        unfold gNeg at po
        split at po
        · rename_i i
          cases (show x = .int i from rx)
          exact un_neg pins s σ H _ v Q I ex ⟨i, rfl, po_val rp (by simp only [RD]) po⟩
        · exact po.elim
    · cases h
  | .cmp op a b, e, c, Os, X, W, G, h => by
    simp only [chk] at h
    split at h
    · obtain ⟨h, h4⟩ := ba2 h
      obtain ⟨h, h3⟩ := ba2 h
      obtain ⟨h1, h2⟩ := ba2 h
      cases of_decide_eq_true h1
      exact ⟨re_cmp (od_cop G.units op) (snd a _ G h3).re (snd b _ G h4).re (ok_behind h2 _), fun _ => rt_cmp (od_cop G.units op) (snd a _ G h3).re (snd b _ G h4).re (ok_behind h2 _), fun hb => by cases hb⟩
    · cases h
  | .chn op op' a b d, e, c, Os, X, W, G, h => by
    simp only [chk] at h
    split at h
    · obtain ⟨h, h6⟩ := ba2 h
      obtain ⟨h, h5⟩ := ba2 h
      obtain ⟨h, h4⟩ := ba2 h
      obtain ⟨h, h3⟩ := ba2 h
      obtain ⟨h1, h2⟩ := ba2 h
      cases of_decide_eq_true h1
      cases of_decide_eq_true h2
      exact ⟨re_chain (od_cop G.units op) (od_cop G.units op') (snd a _ G h4).re (snd b _ G h5).re (snd d _ G h6).re (ok_last h3 _ _ _), fun _ => rt_chain (od_cop G.units op) (od_cop G.units op') (snd a _ G h4).re (snd b _ G h5).re (snd d _ G h6).re (ok_last h3 _ _ _), fun hb => by cases hb⟩
    · cases h
  | .and a b, e, c, Os, X, W, G, h => by
    simp only [chk] at h
    split at h
    · obtain ⟨h, h3⟩ := ba2 h
      obtain ⟨h1, h2⟩ := ba2 h
      have sa := snd a _ G h2
      have sb := snd b _ G h3
      exact ⟨re_and sa.re sb.re, fun _ => (rw_and (sa.rt h1) (sb.rw rfl)).rt, fun _ => rw_and (sa.rt h1) (sb.rw rfl)⟩
    · cases h
  | .or a b, e, c, Os, X, W, G, h => by
    simp only [chk] at h
    split at h
    · obtain ⟨h, h3⟩ := ba2 h
      obtain ⟨h1, h2⟩ := ba2 h
      have sa := snd a _ G h2
      have sb := snd b _ G h3
      exact ⟨re_or sa.re sb.re, fun _ => (rw_or (sa.rt h1) (sb.rw rfl)).rt, fun _ => rw_or (sa.rt h1) (sb.rw rfl)⟩
    · cases h
  | .one a, e, c, Os, X, W, G, h => by
    simp only [chk] at h
    split at h
    · rename_i o x p
      obtain ⟨h1, h2⟩ := ba2 h
      have sa := snd a _ G h2
      have hw : RW X T W (.BoolOp o [x] p) (mB (ev Γ Os a)) := by
        cases o
        · exact rw_and1 (sa.rt h1)
        · exact rw_or1 (sa.rt h1)
      exact ⟨re_one sa.re, fun _ => hw.rt, fun _ => hw⟩
    · cases h
  | .not a, e, c, Os, X, W, G, h => by
    simp only [chk] at h
    split at h
    · obtain ⟨h1, h2⟩ := ba2 h
      have sa := snd a _ G h2
      exact ⟨re_not sa.re, fun _ => rt_not (sa.rt h1), fun hb => by cases hb⟩
    · cases h
  | .ite t a b, e, c, Os, X, W, G, h => by
    simp only [chk] at h
    split at h
    · obtain ⟨h, h4⟩ := ba2 h
      obtain ⟨h, h3⟩ := ba2 h
      obtain ⟨h1, h2⟩ := ba2 h
      exact ⟨re_ite ((snd t _ G h2).rt h1) (snd a _ G h3).re (snd b _ G h4).re, (fun hb => by cases hb), (fun hb => by cases hb)⟩
    · cases h
  | .tup px es, e, c, Os, X, W, G, h => by
    simp only [chk] at h
    split at h
    · have ha := snds es _ G h
      cases px
      · exact plain (re_tup ha) rfl
      · exact plain (re_tupx ha) rfl
    · cases h
  | .lst mt es, e, c, Os, X, W, G, h => by
    simp only [chk] at h
    split at h
    · exact plain (re_lst (snds es _ G h)) rfl
    · cases h
  | .dic mt ks es, e, c, Os, X, W, G, h => by
    simp only [chk] at h
    split at h
    · obtain ⟨h, h4⟩ := ba2 h
      obtain ⟨h, h3⟩ := ba2 h
      obtain ⟨h1, h2⟩ := ba2 h
      exact plain (re_dic (sndd es _ _ _ G h4) (of_decide_eq_true h1) (of_decide_eq_true h2) (of_decide_eq_true h3)) rfl
    · cases h
  | .idx a b, e, c, Os, X, W, G, h => by
    simp only [chk] at h
    split at h
    · obtain ⟨h, h3⟩ := ba2 h
      obtain ⟨h1, h2⟩ := ba2 h
      exact plain (re_ix (ixD G.units) (snd a _ G h2).re (snd b _ G h3).re (ok_ix h1)) rfl
    · cases h
  | .tab j a, e, c, Os, X, W, G, h => by
    simp only [chk] at h
    split at h
    · rename_i x p1 y p2 n kvs hj
      obtain ⟨h, h5⟩ := ba2 h
      obtain ⟨h, h4⟩ := ba2 h
      obtain ⟨h, h3⟩ := ba2 h
      obtain ⟨h1, h2⟩ := ba2 h
      cases of_decide_eq_true h1
      obtain ⟨n1, _, _⟩ := nd_ok h3
      obtain ⟨k1, k2⟩ := G.tx.tab j x kvs hj
      simp only [ev, hj]
      exact plain (re_tab k2 (G.gl h2) k1 n1 (snd a _ G h5).re (ok_ix h4)) rfl
    · cases h
  | .itb ng j a, e, c, Os, X, W, G, h => by
    simp only [chk] at h
    split at h
    · rename_i l o x p1 p2 n kvs hj
      obtain ⟨h, h5⟩ := ba2 h
      obtain ⟨h, h4⟩ := ba2 h
      obtain ⟨h, h3⟩ := ba2 h
      obtain ⟨h1, h2⟩ := ba2 h
      cases of_decide_eq_true h2
      obtain ⟨n1, _, _⟩ := nd_ok h4
      obtain ⟨k1, k2⟩ := G.tx.tab j x kvs hj
      simp only [ev, hj]
      have hr := re_inTab (T := T) (W := W) (p := p1) (pos := p2) (of_decide_eq_true h1) k2 (G.gl h3) k1 n1 (snd a _ G h5).re
      exact ⟨hr.1, fun _ => hr.2, fun hb => by cases hb⟩
    · cases h
  | .sl mt a lo hi, e, c, Os, X, W, G, h => by
    simp only [chk] at h
    split at h
    · obtain ⟨h, h3⟩ := ba2 h
      obtain ⟨h1, h2⟩ := ba2 h
      exact plain (re_slice (snd a _ G h1).re (sndo lo _ G h2) (sndo hi _ G h3)) rfl
    · cases h
  | .fld Cs f a, e, c, Os, X, W, G, h => by
    simp only [chk] at h
    split at h
    · obtain ⟨h, h4⟩ := ba2 h
      obtain ⟨h, h3⟩ := ba2 h
      obtain ⟨h1, h2⟩ := ba2 h
      cases of_decide_eq_true h1
      exact plain (re_fld (snd a _ G h4).re (attr_ok h2 _) (fun C hC => G.flds (List.all_eq_true.mp h3 C hC))) rfl
    · cases h
  | .cal f k es, e, c, Os, X, W, G, h => by
    simp only [chk] at h
    split at h
    · rename_i x p1 args p2 y qual ps N body dvs hf
      obtain ⟨h, h6⟩ := ba2 h
      obtain ⟨h, h5⟩ := ba2 h
      obtain ⟨h, h4⟩ := ba2 h
      obtain ⟨h, h3⟩ := ba2 h
      obtain ⟨h1, h2⟩ := ba2 h
      cases of_decide_eq_true h1
      obtain ⟨n1, _, _⟩ := nd_ok h3
      have hm := G.tx.fn f _ x hf rfl
      refine plain ?_ rfl
      have ha := snds es _ G h6
      have F := hd_fn G hf h4
      have hr : Room (2 * Os.length + 1) X.A := G.room.mono (by omega)
      cases args with
      | nil =>
        cases es with
        | nil => exact re_call0 F hr G.tk (G.gl h2) hm n1
        | cons e r => simp only [chks] at h6; cases h6
      | cons e args =>
        rw [List.all_cons] at h5
        obtain ⟨h7, h8⟩ := ba2 h5
        exact re_call F hr G.tk (G.gl h2) hm ha n1 (ok_star h7 _) (stars_ok _ _ h8)
    · cases h
  | .met f k a es, e, c, Os, X, W, G, h => by
    simp only [chk] at h
    split at h
    · rename_i o m ap args p C m' qual ps N body dvs hf
      obtain ⟨h, h9⟩ := ba2 h
      obtain ⟨h, h8⟩ := ba2 h
      obtain ⟨h, h7⟩ := ba2 h
      obtain ⟨h, h6⟩ := ba2 h
      obtain ⟨h, h5⟩ := ba2 h
      obtain ⟨h, h4⟩ := ba2 h
      obtain ⟨h, h3⟩ := ba2 h
      obtain ⟨h1, h2⟩ := ba2 h
      cases of_decide_eq_true h1
      have hni : m ≠ "__init__" := by
        rw [Bool.not_eq_true', decide_eq_false_iff_not] at h2
        exact h2
      have M := G.tx.mt f _ C m hf rfl hni
      have F := hd_fn G hf h4
      have hr : Room (2 * Os.length + 1) X.A := G.room.mono (by omega)
      simp only [ev, hf]
      refine plain ?_ rfl
      have ha := snds es _ G h9
      have so := (snd a _ G h8).re
      have ht := meth_tree (env := X.env) (m := m) h3 h5 (of_decide_eq_true h6) h7
      cases args with
      | nil =>
        cases es with
        | nil => exact re_meth0 F M hr G.tk so ht
        | cons e r => simp only [chks] at h9; cases h9
      | cons e args =>
        rw [List.all_cons] at h5
        obtain ⟨h10, h11⟩ := ba2 h5
        exact re_meth F M hr G.tk so ha (ok_star h10 _) (stars_ok _ _ h11) ht
    · cases h
  | .mk f k es, e, c, Os, X, W, G, h => by
    simp only [chk] at h
    split at h
    · rename_i x p1 args p2 C m qual ps N body dvs hf
      obtain ⟨h, h7⟩ := ba2 h
      obtain ⟨h, h6⟩ := ba2 h
      obtain ⟨h, h5⟩ := ba2 h
      obtain ⟨h, h4⟩ := ba2 h
      obtain ⟨h, h3⟩ := ba2 h
      obtain ⟨h1, h2⟩ := ba2 h
      cases of_decide_eq_true h1
      cases of_decide_eq_true h2
      obtain ⟨n1, _, _⟩ := nd_ok h4
      obtain ⟨M, hm⟩ := G.tx.mks f _ x hf rfl
      have F := hd_fn G hf h5
      simp only [ev, hf]
      refine plain ?_ rfl
      have ha := snds es _ G h7
      cases args with
      | nil =>
        cases es with
        | nil => exact re_mk0 F M G.room G.tk (G.gl h3) hm n1
        | cons e r => simp only [chks] at h7; cases h7
      | cons e args =>
        rw [List.all_cons] at h6
        obtain ⟨h10, h11⟩ := ba2 h6
        exact re_mk F M G.room G.tk (G.gl h3) hm ha n1 (ok_star h10 _) (stars_ok _ _ h11)
    · cases h
  | .sset mt a, e, c, Os, X, W, G, h => by
    simp only [chk] at h
    split at h
    · obtain ⟨h, h8⟩ := ba2 h
      obtain ⟨h, h7⟩ := ba2 h
      obtain ⟨h, h6⟩ := ba2 h
      obtain ⟨h, h5⟩ := ba2 h
      obtain ⟨h, h4⟩ := ba2 h
      obtain ⟨h, h3⟩ := ba2 h
      obtain ⟨h1, h2⟩ := ba2 h
      cases of_decide_eq_true h1
      cases of_decide_eq_true h2
      exact plain (re_sset G.calm (G.gl h3) (G.free h5) (G.gl h4) (G.free h6) (snd a _ G h8).re (ok_star h7 [])) rfl
    · cases h
  | .rev mt a, e, c, Os, X, W, G, h => by
    simp only [chk] at h
    split at h
    · obtain ⟨h1, h2⟩ := ba2 h
      cases of_decide_eq_true h1
      exact plain (re_rev (snd a _ G h2).re) rfl
    · cases h
  | .blt b es, e, c, Os, X, W, G, h => by
    simp only [chk] at h
    split at h
    · obtain ⟨h, h5⟩ := ba2 h
      obtain ⟨h, h4⟩ := ba2 h
      obtain ⟨h, h3⟩ := ba2 h
      obtain ⟨h1, h2⟩ := ba2 h
      cases of_decide_eq_true h1
      exact plain (re_blt b G.calm (G.gl h2) (G.free h3) (snds es _ G h5) h4) rfl
    · cases h
  | .bmt m a es, e, c, Os, X, W, G, h => by
    simp only [chk] at h
    split at h
    · obtain ⟨h, h7⟩ := ba2 h
      obtain ⟨h, h6⟩ := ba2 h
      obtain ⟨h, h5⟩ := ba2 h
      obtain ⟨h, h4⟩ := ba2 h
      obtain ⟨h, h3⟩ := ba2 h
      obtain ⟨h1, h2⟩ := ba2 h
      cases of_decide_eq_true h1
      exact plain (re_bmt m (snd a _ G h6).re h2 (snds es _ G h7) h3 (of_decide_eq_true h4) h5) rfl
    · obtain ⟨h, h6⟩ := ba2 h
      obtain ⟨h, h5⟩ := ba2 h
      obtain ⟨h, h4⟩ := ba2 h
      obtain ⟨h, h3⟩ := ba2 h
      obtain ⟨h1, h2⟩ := ba2 h
      cases of_decide_eq_true h1
      cases m <;> first | (cases h2; done) | skip
      cases es with
      | nil => exact plain (re_pop0 (snd a _ G h5).re h3 h4) rfl
      | cons e r => simp only [chks] at h6; cases h6
    · cases h
  | .lc mt vs tg it d e', e, c, Os, X, W, G, h => by
    simp only [chk] at h
    split at h
    · rename_i elt te iter ifs z scope pos
      obtain ⟨h, h8⟩ := ba2 h
      obtain ⟨h, h7⟩ := ba2 h
      obtain ⟨h, h6⟩ := ba2 h
      obtain ⟨h, h5⟩ := ba2 h
      obtain ⟨h, h4⟩ := ba2 h
      obtain ⟨h, h3⟩ := ba2 h
      obtain ⟨h1, h2⟩ := ba2 h
      cases of_decide_eq_true h1
      have ok : BlkOk X.N X.env.scope scope (ownOf c.N vs) := by
        rw [G.N, G.sc]
        exact blkOk_by h2
      have hB : BlkR X T scope tg te ifs (evo Γ Os d) elt (ev Γ Os e') := fun s H C cl fp =>
        have Gb := G.blk scope ok.kind s H C cl fp
        ⟨tg_ok Gb.sc Gb.fn Gb.N h4, sndc d _ Gb h7, (snd e' _ Gb h8).re⟩
      have ht : ∀ i ∈ tg.ix, i ∈ (ownOf c.N vs).map (·.2) := fun i hi => by
        rw [own_ix]
        exact List.contains_iff_mem.mp (List.all_eq_true.mp h5 i hi)
      have := re_lc (mt := mt) (pos := pos) G.calm G.nd (sndi it te _ G h6) ok hB ht (ok_fold h3)
      rw [own_ix] at this
      exact plain this rfl
    · cases h
  | .lam j e', e, c, Os, X, W, G, h => by
    simp only [chk] at h
    split at h
    · rename_i x p1 params body scope p2 p3 F hj
      obtain ⟨h, h6⟩ := ba2 h
      obtain ⟨h, h5⟩ := ba2 h
      obtain ⟨h, h4⟩ := ba2 h
      obtain ⟨h, h3⟩ := ba2 h
      obtain ⟨h1, h2⟩ := ba2 h
      cases of_decide_eq_true h2
      cases noArgs_ok h5
      obtain ⟨a, pg, sg, Ng, h₀, hds, xs, i, q1, q2, q3, q4, q5, q6, K0⟩ := G.tx.flt j F hj
      obtain ⟨dV, kV, doc, pm, cdv, ct, oc, an, od, osl, lk, hcg, hb⟩ := K0.lk
      obtain ⟨cd, pt, l1, l2, l3, l4⟩ := G.lam h1
      obtain ⟨m1, _, _⟩ := nd_ok K0.nd
      obtain ⟨m2, m3, _⟩ := nd_ok K0.na
      refine plain ?_ rfl
      simp only [ev, hj]
      by_cases hO : Os.length = 0
      · exact stuckE fun ρ S m H Q W' po => by rw [if_pos hO] at po; exact po.elim
      · have hOs : OsOk Γ X.prog X.w X.K X.mg X.base T Os.tail := by
          have := G.os
          cases this with
          | nil h => exact (hO rfl).elim
          | cons h t => exact t
        have hlt : Os.tail.length + 1 = Os.length := by rw [List.length_tail]; omega
        have key := re_lam (T := T) (W := W) (p := p1) (lpos := p2) (pos := p3) (fb := ev Γ Os.tail e') (params := ⟨[], [], none, [], [], none, []⟩) (body := body) (scope := scope) (k := 2 * Os.tail.length + 2) (G.gl h3) K0.m K0.kp lk hcg hb K0.sc K0.n0 K0.vis K0.hh K0.xs_ K0.ex l2 l1 l3 l4 (by have := G.room; rw [← hlt] at this; exact this)
          (lamS_by (by rw [G.sc]; exact h4)) rfl (fun q cl pm cv ctv => rfl) (fun A outer s H E f c' hr =>
            (snd e' body (c := ⟨scope, c.N, fun _ => false, false⟩) (Os := Os.tail) (X := lamCx X A outer s H E scope f c') (W := fun cls d _ H' => E cls d H')
              { tx := G.tx, os := hOs, sc := rfl, N := G.N, fn := rfl, nd := G.nd, calm := rfl, tk := takes_of rfl rfl rfl rfl, room := hr, kind := (lamS_by (sc := c.sc) h4).kind, lam := fun z => by cases z } h6).re) m1 m2 m3
        refine ⟨fun pins s σ H Q I hh => key.run pins s σ H Q I ?_⟩
        obtain ⟨m, ρ, S, rp, rv, po⟩ := hh
        dsimp only at po
        rw [if_neg hO] at po
        exact ⟨m, ρ, S, rp, rv, po⟩
    · cases h
theorem snds : ∀ (x : Exs) (es : List Expr) {c : Ck} {Os : List Orc} {X : Cx} {W : WX}, Gx Γ T c Os X W → chks Γ c x es = true → RA X T W es (evs Γ Os x)
  | .nil, es, c, Os, X, W, G, h => by
    simp only [chks] at h
    split at h
    · exact ra_nil
    · cases h
  | .cons e r, es, c, Os, X, W, G, h => by
    simp only [chks] at h
    split at h
    · obtain ⟨h, h3⟩ := ba2 h
      obtain ⟨h1, h2⟩ := ba2 h
      exact ra_cons (snd e _ G h2).re (snds r _ G h3) (ok_star h1 _)
    · cases h
theorem sndd : ∀ (x : Exs) (ks : List Str) (keys : List (Option Expr)) (vals : List Expr) {c : Ck} {Os : List Orc} {X : Cx} {W : WX}, Gx Γ T c Os X W → chkd Γ c x ks keys vals = true → Dps X T W keys vals ks (evl Γ Os x)
  | .nil, ks, keys, vals, c, Os, X, W, G, h => by
    simp only [chkd] at h
    split at h
    · exact .nil
    · cases h
  | .cons e r, ks, keys, vals, c, Os, X, W, G, h => by
    simp only [chkd] at h
    split at h
    · obtain ⟨h, h3⟩ := ba2 h
      obtain ⟨h1, h2⟩ := ba2 h
      cases of_decide_eq_true h1
      exact .cons (snd e _ G h2).re (sndd r _ _ _ G h3)
    · cases h
theorem sndo : ∀ (x : Ox) (o : Option Expr) {c : Ck} {Os : List Orc} {X : Cx} {W : WX}, Gx Γ T c Os X W → chko Γ c x o = true → ROo X T W o (evo Γ Os x)
  | .no, o, c, Os, X, W, G, h => by
    simp only [chko] at h
    split at h
    · trivial
    · cases h
  | .some e, o, c, Os, X, W, G, h => by
    simp only [chko] at h
    split at h
    · exact (snd e _ G h).re
    · cases h
theorem sndc : ∀ (x : Ox) (o : List Expr) {c : Ck} {Os : List Orc} {X : Cx}, Gx Γ T c Os X WF → chkc Γ c x o = true → RTs X T o (evo Γ Os x)
  | .no, o, c, Os, X, G, h => by
    simp only [chkc] at h
    split at h
    · trivial
    · cases h
  | .some e, o, c, Os, X, G, h => by
    simp only [chkc] at h
    split at h
    · obtain ⟨h1, h2⟩ := ba2 h
      exact (snd e _ G h2).rt h1
    · cases h
theorem sndi : ∀ (x : Ix) (te e : Expr) {c : Ck} {Os : List Orc} {X : Cx} {W : WX}, Gx Γ T c Os X W → chki Γ c x te e = true → RI X T W te e (evi Γ Os x)
  | .ex a, te, e, c, Os, X, W, G, h => by
    simp only [chki] at h
    exact ri_any (snd a _ G h).re
  | .rng es, te, e, c, Os, X, W, G, h => by
    simp only [chki] at h
    split at h
    · rename_i n p1 args p2
      obtain ⟨h, h5⟩ := ba2 h
      obtain ⟨h, h4⟩ := ba2 h
      obtain ⟨h, h3⟩ := ba2 h
      obtain ⟨h1, h2⟩ := ba2 h
      cases of_decide_eq_true h1
      have ha := snds es _ G h5
      have hl := exs_len es _ h5
      have hok := chks_ok es _ h5
      rw [Bool.or_eq_true, decide_eq_true_eq, decide_eq_true_eq] at h4
      simp only [evi]
      rw [hl]
      match args, h4 with
      | [x], _ =>
        rw [List.all_cons] at hok
        exact ri_rng1 (G.gl h2) (G.free h3) ha (ok_star (ba2 hok).1 _)
      | [x, y], _ =>
        rw [List.all_cons, List.all_cons] at hok
        obtain ⟨k1, k2⟩ := ba2 hok
        obtain ⟨k2, k3⟩ := ba2 k2
        exact ri_rng2 (G.gl h2) (G.free h3) ha (by rw [ok_star k1, ok_star k2]; rfl) (by rw [ok_star k2]; rfl)
    · cases h
  | .zip es, te, e, c, Os, X, W, G, h => by
    simp only [chki] at h
    split at h
    · rename_i t1 t2 t3 n p1 args p2
      obtain ⟨h, h5⟩ := ba2 h
      obtain ⟨h, h4⟩ := ba2 h
      obtain ⟨h, h3⟩ := ba2 h
      obtain ⟨h1, h2⟩ := ba2 h
      cases of_decide_eq_true h1
      have ha := snds es _ G h5
      have hok := chks_ok es _ h5
      have h4 := of_decide_eq_true h4
      simp only [evi]
      match args, h4 with
      | [x, y], _ =>
        rw [List.all_cons] at hok
        obtain ⟨k1, k2⟩ := ba2 hok
        exact ri_zip (G.gl h2) (G.free h3) ha (ok_star k1 _) (stars_ok _ _ k2)
    · cases h
  | .en es, te, e, c, Os, X, W, G, h => by
    simp only [chki] at h
    split at h
    · rename_i t1 t2 t3 n p1 args p2
      obtain ⟨h, h5⟩ := ba2 h
      obtain ⟨h, h4⟩ := ba2 h
      obtain ⟨h, h3⟩ := ba2 h
      obtain ⟨h1, h2⟩ := ba2 h
      cases of_decide_eq_true h1
      have ha := snds es _ G h5
      have hok := chks_ok es _ h5
      have h4 := of_decide_eq_true h4
      simp only [evi]
      match args, h4 with
      | [x], _ =>
        rw [List.all_cons] at hok
        exact ri_enum (G.gl h2) (G.free h3) ha (ok_star (ba2 hok).1 _)
    · cases h
end
end
end Pv

set_option maxHeartbeats 4000000
/-! Pv21: statements are as their data say. -/
namespace Pv
open PySem PySem.Spec PyProof.Rows L2 LamX

/-! ### clauses -/
def strB (x : Str) (l : List Str) : Bool := l.any fun y => decide (y = x)
def xiB (Γ : Tx) (xs : List Str) (nm : Option Str) (oi : Option Nat) : XI → Expr → Bool
  | .c .non, .Constant .none _ _ => true
  | .c (.bl b), .Constant (.bool b') _ _ => b == b'
  | .c (.int i), .Constant (.int j) _ _ => decide (i = j)
  | .c (.str x), .Constant (.str y) _ _ => decide (x = y)
  | .f n, .Attribute (.Name en _) n' _ => decide (n = n') && decide (nm = some en) && oi.isSome && ndB en && xs.all fun x => Γ.xfs.any fun p => decide (p.1 = x) && decide (p.2 = n)
  | _, _ => false
def xisB (Γ : Tx) (xs : List Str) (nm : Option Str) (oi : Option Nat) : List XI → List Expr → Bool
  | [], [] => true
  | x :: r, e :: es => xiB Γ xs nm oi x e && xisB Γ xs nm oi r es
  | _, _ => false
def suiB (Γ : Tx) (xs : List Str) (nm : Option Str) (oi : Option Nat) : Sui → List Stmt → Bool
  | .one x, [.Return (some e) _] => xiB Γ xs nm oi x e
  | .tup x, [.Return (some (.Tuple es _ _)) _] => xisB Γ xs nm oi x es
  | _, _ => false
def nmB (c : Ck) : Option Str → Option Nat → Bool
  | none, none => true
  | some n, some i => decide (c.N[i]? = some n) && lclB c.sc n
  | _, _ => false
def chkH (Γ : Tx) (c : Ck) (xs : List Str) : List Cl → List ExceptHandler → Bool
  | [], [] => true
  | l :: ls, .ExceptHandler (some (.Name x _)) nm (b :: bs) _ :: hs => decide (x = l.C) && gloB c.sc x && ndB x && strB x Γ.clss && nmB c nm l.i && suiB Γ xs nm l.i l.s (b :: bs) && chkH Γ c xs ls hs
  | _, _ => false
def exmB (Γ : Tx) (x : Str) : List Cl → List Bool → Bool
  | c :: cs, b :: bs => (Γ.exms.any fun p => decide (p = (x, c.C, b))) && exmB Γ x cs bs
  | _, _ => true
/-- a, b = x, y: stored from the right -/
def parB (c : Ck) (line : Nat) : List Nat → List Expr → Bool
  | [], [] => true
  | i :: is, .Name x p :: es => decide (c.N[i]? = some x) && lclB c.sc x && p.line == line && parB c line is es
  | _, _ => false
def nmOf : List Expr → List Str
  | .Name x _ :: es => x :: nmOf es
  | _ => []
def notTup : Expr → Bool
  | .Tuple .. => false
  | _ => true
def notLcl (c : Ck) : Expr → Bool
  | .Name x _ => !lclB c.sc x
  | _ => true
def celB (c : Ck) (x : Str) : Bool := !lclB c.sc x
mutual
def chkS (Γ : Tx) (c : Ck) : St → Stmt → Bool
  | .exp e, st => match st with
    | .Expr x _ => noComp x && chk Γ c e x
    | _ => false
  | .doc, st => match st with
    | .Expr (.Constant (.str _) _ _) _ => true
    | _ => false
  | .ret e, st => match st with
    | .Return (some x) _ => chk Γ c e x
    | _ => false
  | .retN, st => match st with
    | .Return none _ => true
    | _ => false
  | .pass, st => match st with
    | .Pass _ => true
    | _ => false
  | .brk, st => match st with
    | .Break _ => true
    | _ => false
  | .cnt, st => match st with
    | .Continue _ => true
    | _ => false
  | .ife t a b, st => match st with
    | .If u xs ys _ => tstB u && chk Γ c t u && chkSs Γ c a xs && chkSs Γ c b ys
    | _ => false
  | .asg i e, st => match st with
    | .Assign [.Name x _] v _ => decide (c.N[i]? = some x) && c.stB x && (noComp v || celB c x) && chk Γ c e v
    | _ => false
  | .asgC i e, st => match st, e with
    | .Assign [.Name x py] (.ListComp elt [⟨te, iter, ifs, z⟩] scope pos) _, .lc _ vs tg it d e' => decide (c.N[i]? = some x) && lclB c.sc x && (py.line == pos.line) && ((scope.names.any fun (n, k) => n == x && (k == .local || k == .cell)) == false) && decide (z = 0) &&
        blkC c.N c.sc scope (ownOf c.N vs) && okE iter && tgB (blkCk c scope) tg te && (tg.ix.all fun i => vs.contains i) && chki Γ c it te iter && chkc Γ (blkCk c scope) d ifs && chk Γ (blkCk c scope) e' elt
    | _, _ => false
  | .asgT is e, st => match st with
    | .Assign [.Tuple es _ _] v _ => nmsB c is es && noComp v && (notTup v || es.any (notLcl c)) && chk Γ c e v
    | _ => false
  | .par is es, st => match st with
    | .Assign [.Tuple ts _ _] (.Tuple vs _ _) _ => (ts.length == 2 || ts.length == 3) && (vs.length == ts.length) && vs.all okE && parB c ((ts.head?.map (·.pos.line)).getD 0) is ts && !(vs.all (foldedForSure 8)) && !(vs.all (constantsAlone 8)) && ((nmOf ts).eraseDups.length == (nmOf ts).length) && decide is.Nodup && chks Γ c es vs
    | _ => false
  | .aug i op e, st => match st with
    | .AugAssign (.Name x _) o v _ => decide (c.N[i]? = some x) && c.stB x && decide (o = bopP op) && chk Γ c e v
    | _ => false
  | .fld C f o e, st => match st with
    | .Assign [.Attribute x g _] v _ => decide (f = g) && noComp v && fldsB Γ C f && chk Γ c o x && chk Γ c e v
    | _ => false
  | .flda C f op o e, st => match st with
    | .AugAssign (.Attribute x g _) o' v _ => decide (f = g) && decide (o' = bopP op) && fldsB Γ C f && chk Γ c o x && chk Γ c e v
    | _ => false
  | .sub o i e, st => match st with
    | .Assign [.Subscript x y _] v _ => okE y && noComp v && chk Γ c o x && chk Γ c i y && chk Γ c e v
    | _ => false
  | .for_ tg it body, st => match st with
    | .For te iter xs [] _ => tgB c tg te && okE iter && chki Γ c it te iter && chkSs Γ c body xs
    | _ => false
  | .whl _ t body, st => match st with
    | .While u xs [] _ => tstB u && chk Γ c t u && chkSs Γ c body xs
    | _ => false
  | .rai j es, st => match st, Γ.excs[j]? with
    | .Raise (some (.Call (.Name x _) (y :: ys) [] _)) none _, some (C, _) => decide (x = C) && gloB c.sc x && ndB x && (y :: ys).all okE && chks Γ c es (y :: ys)
    | _, _ => false
  | .try_ body cs tb, st => match st with
    | .Try xs (h :: hs) [] [] _ => chkSs Γ ⟨c.sc, c.N, c.fn, false⟩ body xs && chkH Γ c (tb.map (·.1)) cs (h :: hs) && (tb.all fun p => exmB Γ p.1 cs p.2)
    | _ => false
def chkSs (Γ : Tx) (c : Ck) : Sts → List Stmt → Bool
  | .nil, l => match l with
    | [] => true
    | _ => false
  | .cons s r, l => match l with
    | x :: xs => chkS Γ c s x && chkSs Γ c r xs
    | _ => false
end
/-! ### the lookups are right -/
section
variable {Γ : Tx} {c : Ck} {xs : List Str} {X : Cx}
theorem str_ok {x : Str} {l : List Str} (h : strB x l = true) : x ∈ l := by
  unfold strB at h
  obtain ⟨y, h1, h2⟩ := List.any_eq_true.mp h
  rw [← of_decide_eq_true h2]
  exact h1
theorem xi_ok (hx : ∀ x n, (x, n) ∈ Γ.xfs → XcK X.K x n) {nm : Option Str} {oi : Option Nat} {x : XI} {e : Expr} (h : xiB Γ xs nm oi x e = true) : XiAt X xs nm oi x e := by
  unfold xiB at h
  split at h
  · exact .non
  · cases beq_iff_eq.mp h; exact .bl
  · cases of_decide_eq_true h; exact .int
  · cases of_decide_eq_true h; exact .str
  · rename_i n en p n' q
    obtain ⟨h, h5⟩ := ba2 h
    obtain ⟨h, h4⟩ := ba2 h
    obtain ⟨h, h3⟩ := ba2 h
    obtain ⟨h1, h2⟩ := ba2 h
    cases of_decide_eq_true h1
    obtain ⟨n1, n2, _⟩ := nd_ok h4
    cases oi with
    | none => cases h3
    | some i =>
      refine .f (of_decide_eq_true h2) rfl n1 n2 fun y hy => ?_
      obtain ⟨⟨y', n'⟩, k1, k2⟩ := List.any_eq_true.mp (List.all_eq_true.mp h5 y hy)
      obtain ⟨k3, k4⟩ := ba2 k2
      cases of_decide_eq_true k3
      cases of_decide_eq_true k4
      exact hx _ _ k1
  · cases h
theorem xis_ok (hx : ∀ x n, (x, n) ∈ Γ.xfs → XcK X.K x n) {nm : Option Str} {oi : Option Nat} : ∀ {x : List XI} {e : List Expr}, xisB Γ xs nm oi x e = true → XisAt X xs nm oi x e
  | [], [], _ => .nil
  | x :: r, e :: es, h => by
    simp only [xisB] at h
    obtain ⟨h1, h2⟩ := ba2 h
    exact .cons (xi_ok hx h1) (xis_ok hx h2)
  | [], _ :: _, h => by simp only [xisB] at h; cases h
  | _ :: _, [], h => by simp only [xisB] at h; cases h
theorem sui_ok (hx : ∀ x n, (x, n) ∈ Γ.xfs → XcK X.K x n) {nm : Option Str} {oi : Option Nat} {s : Sui} {st : List Stmt} (h : suiB Γ xs nm oi s st = true) : SuiAt X xs nm oi s st := by
  unfold suiB at h
  split at h
  · exact .one (xi_ok hx h)
  · exact .tup (xis_ok hx h)
  · cases h
theorem nm_ok (hs : X.env.scope = c.sc) (hN : X.N = c.N) {nm : Option Str} {oi : Option Nat} (h : nmB c nm oi = true) : NmAt X nm oi := by
  unfold nmB at h
  split at h
  · trivial
  · obtain ⟨h1, h2⟩ := ba2 h
    exact ⟨by rw [hN]; exact of_decide_eq_true h1, by rw [hs]; exact lcl_ok h2⟩
  · cases h
theorem hd_ok (hx : ∀ x n, (x, n) ∈ Γ.xfs → XcK X.K x n) (hm : ∀ x ∈ Γ.clss, X.mg x = some (.ref (He.ga X.K x))) (hs : X.env.scope = c.sc) (hN : X.N = c.N) : ∀ {ls : List Cl} {hds : List ExceptHandler}, chkH Γ c xs ls hds = true → HdAt X xs ls hds
  | [], [], _ => .nil
  | l :: ls, .ExceptHandler t nm body p :: hds, h => by
    unfold chkH at h
    split at h
    · rename_i e1 e2; cases e1
    · rename_i l' ls' x p1 nm' b bs p2 hs' e1 e2
      cases e1
      cases e2
      obtain ⟨h, h7⟩ := ba2 h
      obtain ⟨h, h6⟩ := ba2 h
      obtain ⟨h, h5⟩ := ba2 h
      obtain ⟨h, h4⟩ := ba2 h
      obtain ⟨h, h3⟩ := ba2 h
      obtain ⟨h1, h2⟩ := ba2 h
      cases of_decide_eq_true h1
      obtain ⟨n1, _, _⟩ := nd_ok h3
      exact .cons (by show X.env.scope.names.lookup _ = _; rw [hs]; exact glo_at h2) (hm _ (str_ok h4)) n1 (nm_ok hs hN h5) (sui_ok hx h6) (hd_ok hx hm hs hN h7)
    · cases h
  | [], _ :: _, h => by simp only [chkH] at h; cases h
  | _ :: _, [], h => by simp only [chkH] at h; cases h
theorem exm_ok (hx : ∀ x y b, (x, y, b) ∈ Γ.exms → PySem.W.exmOne X.K (.ref (He.ga X.K x)) (.ref (He.ga X.K y)) = some b) {x : Str} : ∀ {cs : List Cl} {bs : List Bool}, exmB Γ x cs bs = true → ∀ (j : Nat) (c : Cl) (b : Bool), cs[j]? = some c → bs[j]? = some b → PySem.W.exmOne X.K (.ref (He.ga X.K x)) (.ref (He.ga X.K c.C)) = some b
  | [], _, _, j, c, b, e, _ => by simp at e
  | _ :: _, [], _, j, c, b, _, e => by simp at e
  | c :: cs, b :: bs, h, j, c', b', e1, e2 => by
    simp only [exmB] at h
    obtain ⟨h1, h2⟩ := ba2 h
    cases j with
    | zero =>
      simp at e1 e2
      subst e1
      subst e2
      obtain ⟨q, k1, k2⟩ := List.any_eq_true.mp h1
      rw [of_decide_eq_true k2] at k1
      exact hx _ _ _ k1
    | succ j => exact exm_ok hx h2 j c' b' (by simpa using e1) (by simpa using e2)
theorem look_mem {α : Type} {x : Str} {v : α} : ∀ {l : List (Str × α)}, l.lookup x = some v → (x, v) ∈ l
  | [], h => by cases h
  | (y, u) :: r, h => by
    rw [List.lookup_cons] at h
    cases q : x == y with
    | true =>
      rw [q] at h
      cases h
      rw [beq_iff_eq.mp q]
      exact List.mem_cons_self ..
    | false =>
      rw [q] at h
      exact List.mem_cons_of_mem _ (look_mem h)
theorem exmK_ok (hx : ∀ x y b, (x, y, b) ∈ Γ.exms → PySem.W.exmOne X.K (.ref (He.ga X.K x)) (.ref (He.ga X.K y)) = some b) {cs : List Cl} {tb : List (Str × List Bool)} (h : (tb.all fun p => exmB Γ p.1 cs p.2) = true) : ExmK X.K cs tb := fun x bs hl j c b e1 e2 =>
  exm_ok hx (List.all_eq_true.mp h _ (look_mem hl)) j c b e1 e2
end
/-! ### stores from the right -/
section
variable {c : Ck} {env : Env}
theorem par_names (hs : env.scope = c.sc) {line : Nat} {f : Expr → Option Str} (hf : ∀ x p, (env.kindOf x == some .local && p.line == line) = true → f (.Name x p) = some x) : ∀ {is : List Nat} {ts : List Expr}, parB c line is ts = true → ts.filterMap f = nmOf ts ∧ (nmOf ts).length = ts.length
  | [], [], _ => ⟨rfl, rfl⟩
  | i :: is, e :: ts, h => by
    cases e <;> simp only [parB] at h <;> try cases h
    rename_i x p
    obtain ⟨h, h4⟩ := ba2 h
    obtain ⟨h, h3⟩ := ba2 h
    obtain ⟨h1, h2⟩ := ba2 h
    obtain ⟨k1, k2⟩ := par_names hs hf h4
    have hk : env.kindOf x = some .local := by
      show env.scope.names.lookup x = _
      rw [hs]
      exact lcl_ok h2
    refine ⟨?_, by simp only [nmOf, List.length_cons, k2]⟩
    rw [List.filterMap_cons, hf x p (by rw [hk, h3]; rfl)]
    show x :: ts.filterMap f = x :: nmOf ts
    rw [k1]
  | [], _ :: _, h => by simp only [parB] at h; cases h
  | _ :: _, [], h => by simp only [parB] at h; cases h
theorem no_starred {vs : List Expr} {f : Expr → Bool} (hf : ∀ e, okE e = true → f e = false) (h : vs.all okE = true) : vs.any f = false := by
  rw [List.any_eq_false]
  intro e he
  rw [hf e (List.all_eq_true.mp h e he)]
  exact Bool.false_ne_true
theorem par_swap (hs : env.scope = c.sc) (hk : env.blockKind = .function) {is : List Nat} {ts vs : List Expr} {kt k2 : Nat} {pt pt2 : Pos} (h1 : (ts.length == 2 || ts.length == 3) = true) (h2 : (vs.length == ts.length) = true) (h3 : vs.all okE = true) (h4 : parB c ((ts.head?.map (·.pos.line)).getD 0) is ts = true)
    (h5 : (!(vs.all (foldedForSure 8))) = true) (h6 : (!(vs.all (constantsAlone 8))) = true) (h7 : (nmOf ts).eraseDups.length = (nmOf ts).length) : swappedStores [.Tuple ts kt pt] (.Tuple vs k2 pt2) env = pure (some (nmOf ts)) := by
  have k2' : (nmOf ts).length = ts.length := (par_names (f := fun e => match e with
    | .Name x _ => some x
    | _ => none) hs (fun _ _ _ => rfl) h4).2
  unfold swappedStores
  dsimp only
  rw [Bool.not_eq_true'] at h5 h6
  rw [(par_names hs (fun x p hx => by dsimp only; rw [if_pos hx]) h4).1, no_starred (fun e he => by cases e <;> first | rfl | cases he) h3]
  simp only [h1, hk, k2', h7, h5, h6, beq_iff_eq.mp h2, Bool.not_true, Bool.false_or, bne_self_eq_false, Bool.or_false, Bool.or_self, Bool.false_eq_true, if_false]
end
end Pv

set_option maxHeartbeats 4000000
/-! Pv22: statements are as their data say: the proof. -/
namespace Pv
open PySem PySem.Spec PyProof.Rows L2 LamX

/-- the context of a statement -/
structure Gs (Γ : Tx) (T : List (Addr × Str)) (c : Ck) (Os : List Orc) (X : Cx) (W : WX) : Prop where
  g : Gx Γ T c Os X W
  hs : X.stack = X.env :: X.outer
  hf : X.env.frame = some X.env.locals
  hp : PassesOwn (model X.prog X.w) X.A X.env X.xe
  bk : X.env.blockKind = .function
section
variable {Γ : Tx} {T : List (Addr × Str)} {c : Ck} {Os : List Orc} {X : Cx} {W : WX}
theorem cel_swap {x : Str} {v : Expr} {p : Pos} {l : Nat} (hs : X.env.scope = c.sc) (h : (noComp v || celB c x) = true) : swapsWith v (some (.Name x p)) l X.env = pure false := by
  rw [Bool.or_eq_true] at h
  rcases h with h | h
  · exact no_swap h
  · have hk : (X.env.kindOf x == some .local) = false := by
      unfold celB lclB at h
      rw [Bool.not_eq_true'] at h
      show (X.env.scope.names.lookup x == some .local) = false
      rw [hs]
      split at h
      · cases h
      · rename_i hn
        rw [beq_eq_false_iff_ne]
        exact hn
    unfold swapsWith
    split
    · simp [hk]
    · rfl
theorem tup_none {es : List Expr} {k : Nat} {tp : Pos} {v : Expr} (hs : X.env.scope = c.sc) (h : (notTup v || es.any (notLcl c)) = true) : swappedStores [.Tuple es k tp] v X.env = pure none := by
  rw [Bool.or_eq_true] at h
  rcases h with h | h
  · cases v <;> first | rfl | cases h
  · obtain ⟨e, he, hn⟩ := List.any_eq_true.mp h
    cases v <;> first | rfl | skip
    rename_i vs k2 p2
    unfold swappedStores
    dsimp only
    split
    · rfl
    · split
      · rfl
      · rw [if_pos]
        rw [Bool.or_eq_true]
        left
        rw [bne_iff_ne]
        intro hl
        have := List.filterMap_length_eq_length.mp hl e he
        cases e <;> simp only [Option.isSome_none, Bool.false_eq_true] at this <;> try cases this
        rename_i x p
        have hk : (X.env.kindOf x == some .local) = false := by
          unfold notLcl lclB at hn
          rw [Bool.not_eq_true'] at hn
          show (X.env.scope.names.lookup x == some .local) = false
          rw [hs]
          split at hn
          · cases hn
          · rename_i hnn
            rw [beq_eq_false_iff_ne]
            exact hnn
        rw [hk] at this
        simp at this
theorem par_cons {l : Nat} {is : List Nat} {e : Expr} {es : List Expr} (h : parB c l is (e :: es) = true) : ∃ i is' x p, is = i :: is' ∧ e = .Name x p ∧ c.N[i]? = some x ∧ c.sc.names.lookup x = some .local ∧ parB c l is' es = true := by
  cases is with
  | nil => simp only [parB] at h; cases h
  | cons i is =>
    cases e <;> simp only [parB] at h <;> try cases h
    rename_i x p
    obtain ⟨h, h4⟩ := ba2 h
    obtain ⟨h, _⟩ := ba2 h
    obtain ⟨h1, h2⟩ := ba2 h
    exact ⟨i, is, x, p, rfl, rfl, of_decide_eq_true h1, lcl_ok h2, h4⟩
theorem par_nil {l : Nat} {is : List Nat} (h : parB c l is [] = true) : is = [] := by
  cases is with
  | nil => rfl
  | cons i is => simp only [parB] at h; cases h
mutual
theorem sndS : ∀ (x : St) (st : Stmt) {c : Ck} {Os : List Orc} {X : Cx} {W : WX}, Gs Γ T c Os X W → chkS Γ c x st = true → RS X T W st (sv Γ Os x)
  | .exp e, st, c, Os, X, W, G, h => by
    simp only [chkS] at h
    split at h
    · obtain ⟨h1, h2⟩ := ba2 h
      exact rs_exp (snd e _ G.g h2).re (no_swap h1)
    · cases h
  | .doc, st, c, Os, X, W, G, h => by
    simp only [chkS] at h
    split at h
    · exact rs_doc
    · cases h
  | .ret e, st, c, Os, X, W, G, h => by
    simp only [chkS] at h
    split at h
    · exact rs_ret (snd e _ G.g h).re
    · cases h
  | .retN, st, c, Os, X, W, G, h => by
    simp only [chkS] at h
    split at h
    · exact rs_retN
    · cases h
  | .pass, st, c, Os, X, W, G, h => by
    simp only [chkS] at h
    split at h
    · exact rs_pass
    · cases h
  | .brk, st, c, Os, X, W, G, h => by
    simp only [chkS] at h
    split at h
    · exact rs_brk
    · cases h
  | .cnt, st, c, Os, X, W, G, h => by
    simp only [chkS] at h
    split at h
    · exact rs_cnt
    · cases h
  | .ife t a b, st, c, Os, X, W, G, h => by
    simp only [chkS] at h
    split at h
    · obtain ⟨h, h4⟩ := ba2 h
      obtain ⟨h, h3⟩ := ba2 h
      obtain ⟨h1, h2⟩ := ba2 h
      exact rs_if ((snd t _ G.g h2).rt h1) (sndSs a _ G h3) (sndSs b _ G h4)
    · cases h
  | .asg i e, st, c, Os, X, W, G, h => by
    simp only [chkS] at h
    split at h
    · obtain ⟨h, h4⟩ := ba2 h
      obtain ⟨h, h3⟩ := ba2 h
      obtain ⟨h1, h2⟩ := ba2 h
      obtain ⟨k1, k2⟩ := st_ok G.g.sc G.g.fn h2
      exact rs_asg G.g.nd (by rw [G.g.N]; exact of_decide_eq_true h1) k1 (snd e _ G.g h4).re (cel_swap G.g.sc h3) k2
    · cases h
  | .asgC i e, st, c, Os, X, W, G, h => by
    simp only [chkS] at h
    split at h
    · rename_i x py elt te iter ifs z scope pos spos mt vs tg it d e'
      obtain ⟨h, h12⟩ := ba2 h
      obtain ⟨h, h11⟩ := ba2 h
      obtain ⟨h, h10⟩ := ba2 h
      obtain ⟨h, h9⟩ := ba2 h
      obtain ⟨h, h8⟩ := ba2 h
      obtain ⟨h, h7⟩ := ba2 h
      obtain ⟨h, h6⟩ := ba2 h
      obtain ⟨h, h5⟩ := ba2 h
      obtain ⟨h, h4⟩ := ba2 h
      obtain ⟨h, h3⟩ := ba2 h
      obtain ⟨h1, h2⟩ := ba2 h
      cases of_decide_eq_true h5
      have ok : BlkOk X.N X.env.scope scope (ownOf c.N vs) := by
        rw [G.g.N, G.g.sc]
        exact blkOk_by h6
      have hB : BlkR X T scope tg te ifs (evo Γ Os d) elt (ev Γ Os e') := fun s H C cl fp =>
        have Gb := G.g.blk scope ok.kind s H C cl fp
        ⟨tg_ok Gb.sc Gb.fn Gb.N h8, sndc d _ Gb h11, (snd e' _ Gb h12).re⟩
      have ht : ∀ i ∈ tg.ix, i ∈ (ownOf c.N vs).map (·.2) := fun i hi => by
        rw [own_ix]
        exact List.contains_iff_mem.mp (List.all_eq_true.mp h9 i hi)
      have hl : X.env.scope.names.lookup x = some .local := by rw [G.g.sc]; exact lcl_ok h2
      have hk : X.env.scope.kind = .function := G.g.kind
      have sw : swapsWith (.ListComp elt [⟨te, iter, ifs, 0⟩] scope pos) (some (.Name x py)) spos.line X.env = pure true := sw_true hk hl h3 (beq_iff_eq.mp h4)
      have := rs_asgC (mt := mt) (i := i) G.g.calm G.g.nd (by rw [G.g.N]; exact of_decide_eq_true h1) hl sw (sndi it te _ G.g h10) ok hB ht (ok_fold h7)
      rw [own_ix] at this
      exact this
    · cases h
  | .asgT is e, st, c, Os, X, W, G, h => by
    simp only [chkS] at h
    split at h
    · obtain ⟨h, h4⟩ := ba2 h
      obtain ⟨h, h3⟩ := ba2 h
      obtain ⟨h1, h2⟩ := ba2 h
      exact rs_asgT G.g.calm G.g.nd (nms_ok G.g.sc G.g.fn G.g.N h1) (snd e _ G.g h4).re (no_sole h2) (tup_none G.g.sc h3)
    · cases h
  | .par is es, st, c, Os, X, W, G, h => by
    simp only [chkS] at h
    split at h
    · rename_i ts kt tp vs k2 tp2 pos
      obtain ⟨h, h9⟩ := ba2 h
      obtain ⟨h, h8⟩ := ba2 h
      obtain ⟨h, h7⟩ := ba2 h
      obtain ⟨h, h6⟩ := ba2 h
      obtain ⟨h, h5⟩ := ba2 h
      obtain ⟨h, h4⟩ := ba2 h
      obtain ⟨h, h3⟩ := ba2 h
      obtain ⟨h1, h2⟩ := ba2 h
      have ha := snds es _ G.g h9
      have hw := par_swap (kt := kt) (k2 := k2) (pt := tp) (pt2 := tp2) G.g.sc G.bk h1 h2 h3 h4 h5 h6 (beq_iff_eq.mp h7)
      have hnd := of_decide_eq_true h8
      have hl := beq_iff_eq.mp h2
      rw [Bool.or_eq_true, beq_iff_eq, beq_iff_eq] at h1
      rcases h1 with h1 | h1
      · obtain ⟨e1, e2, rfl⟩ : ∃ e1 e2, ts = [e1, e2] := by
          match ts, h1 with
          | [e1, e2], _ => exact ⟨e1, e2, rfl⟩
        obtain ⟨a, b, rfl⟩ : ∃ a b, vs = [a, b] := by
          match vs, hl with
          | [a, b], _ => exact ⟨a, b, rfl⟩
        obtain ⟨i, is1, x, px, rfl, rfl, q1, q2, h4⟩ := par_cons h4
        obtain ⟨j, is2, y, py, rfl, rfl, r1, r2, h4⟩ := par_cons h4
        cases par_nil h4
        have hij : i ≠ j := by intro z; subst z; simp at hnd
        exact rs_par2 G.g.calm G.g.nd (by rw [G.g.N]; exact q1) (by rw [G.g.N]; exact r1) hij (by rw [G.g.sc]; exact q2) (by rw [G.g.sc]; exact r2) ha hw rfl
      · obtain ⟨e1, e2, e3, rfl⟩ : ∃ e1 e2 e3, ts = [e1, e2, e3] := by
          match ts, h1 with
          | [e1, e2, e3], _ => exact ⟨e1, e2, e3, rfl⟩
        obtain ⟨a, b, d, rfl⟩ : ∃ a b d, vs = [a, b, d] := by
          match vs, hl with
          | [a, b, d], _ => exact ⟨a, b, d, rfl⟩
        obtain ⟨i, is1, x, px, rfl, rfl, q1, q2, h4⟩ := par_cons h4
        obtain ⟨j, is2, y, py, rfl, rfl, r1, r2, h4⟩ := par_cons h4
        obtain ⟨l, is3, z, pz, rfl, rfl, t1, t2, h4⟩ := par_cons h4
        cases par_nil h4
        have hij : i ≠ j := by intro z; subst z; simp at hnd
        have hil : i ≠ l := by intro z; subst z; simp at hnd
        have hjl : j ≠ l := by intro z; subst z; simp at hnd
        exact rs_par3 G.g.calm G.g.nd (by rw [G.g.N]; exact q1) (by rw [G.g.N]; exact r1) (by rw [G.g.N]; exact t1) hij hil hjl (by rw [G.g.sc]; exact q2) (by rw [G.g.sc]; exact r2) (by rw [G.g.sc]; exact t2) ha hw rfl
    · cases h
  | .aug i op e, st, c, Os, X, W, G, h => by
    simp only [chkS] at h
    split at h
    · obtain ⟨h, h4⟩ := ba2 h
      obtain ⟨h, h3⟩ := ba2 h
      obtain ⟨h1, h2⟩ := ba2 h
      cases of_decide_eq_true h3
      obtain ⟨k1, k2⟩ := st_ok G.g.sc G.g.fn h2
      exact rs_aug G.g.nd (by rw [G.g.N]; exact of_decide_eq_true h1) k1 (snd e _ G.g h4).re (fun W => od_aug op) k2
    · cases h
  | .fld C f o e, st, c, Os, X, W, G, h => by
    simp only [chkS] at h
    split at h
    · obtain ⟨h, h5⟩ := ba2 h
      obtain ⟨h, h4⟩ := ba2 h
      obtain ⟨h, h3⟩ := ba2 h
      obtain ⟨h1, h2⟩ := ba2 h
      cases of_decide_eq_true h1
      exact rs_fld (snd o _ G.g h4).re (snd e _ G.g h5).re (G.g.flds h3) (no_swap h2)
    · cases h
  | .flda C f op o e, st, c, Os, X, W, G, h => by
    simp only [chkS] at h
    split at h
    · obtain ⟨h, h5⟩ := ba2 h
      obtain ⟨h, h4⟩ := ba2 h
      obtain ⟨h, h3⟩ := ba2 h
      obtain ⟨h1, h2⟩ := ba2 h
      cases of_decide_eq_true h1
      cases of_decide_eq_true h2
      exact rs_fldAug (snd o _ G.g h4).re (snd e _ G.g h5).re (G.g.flds h3) (fun W => od_aug op)
    · cases h
  | .sub o i e, st, c, Os, X, W, G, h => by
    simp only [chkS] at h
    split at h
    · rename_i x y p v pos
      obtain ⟨h, h5⟩ := ba2 h
      obtain ⟨h, h4⟩ := ba2 h
      obtain ⟨h, h3⟩ := ba2 h
      obtain ⟨h1, h2⟩ := ba2 h
      refine rs_sub G.g.units (snd o _ G.g h3).re (snd i _ G.g h4).re (snd e _ G.g h5).re (no_sole h2) ?_ rfl ?_
      · cases v <;> rfl
      · intro u
        cases y <;> first | rfl | cases h1
    · cases h
  | .for_ tg it body, st, c, Os, X, W, G, h => by
    simp only [chkS] at h
    split at h
    · obtain ⟨h, h4⟩ := ba2 h
      obtain ⟨h, h3⟩ := ba2 h
      obtain ⟨h1, h2⟩ := ba2 h
      exact rs_for G.hp G.g.calm G.g.nd (sndi it _ _ G.g h3) (tg_ok G.g.sc G.g.fn G.g.N h1) (sndSs body _ G h4) (ok_fold h2)
    · cases h
  | .whl n t body, st, c, Os, X, W, G, h => by
    simp only [chkS] at h
    split at h
    · obtain ⟨h, h3⟩ := ba2 h
      obtain ⟨h1, h2⟩ := ba2 h
      exact rs_while n G.hp ((snd t _ G.g h2).rt h1) (sndSs body _ G h3)
    · cases h
  | .rai j es, st, c, Os, X, W, G, h => by
    simp only [chkS] at h
    split at h
    · rename_i x p1 y ys p2 pos C flds hj
      obtain ⟨h, h5⟩ := ba2 h
      obtain ⟨h, h4⟩ := ba2 h
      obtain ⟨h, h3⟩ := ba2 h
      obtain ⟨h1, h2⟩ := ba2 h
      cases of_decide_eq_true h1
      obtain ⟨n1, _, _⟩ := nd_ok h3
      obtain ⟨hm, F⟩ := G.g.tx.exc j x flds hj
      have ha := snds es _ G.g h5
      rw [List.all_cons] at h4
      obtain ⟨h6, h7⟩ := ba2 h4
      simp only [sv, hj]
      exact rs_raise G.g.calm G.g.tk F (G.g.room.mono (by omega)) (G.g.gl h2) hm ha n1 (ok_star h6 _) (stars_ok _ _ h7)
    · cases h
  | .try_ body cs tb, st, c, Os, X, W, G, h => by
    simp only [chkS] at h
    split at h
    · obtain ⟨h, h3⟩ := ba2 h
      obtain ⟨h1, h2⟩ := ba2 h
      have gt := G.g
      exact rs_try G.hs G.hf gt.nd gt.tk (fun W' pn xe tk hp => sndSs body _ (c := ⟨c.sc, c.N, c.fn, false⟩) (X := X.tr pn xe)
        { g := { tx := gt.tx, os := gt.os, sc := gt.sc, N := gt.N, fn := gt.fn, nd := gt.nd, calm := gt.calm, tk := tk, room := gt.room, kind := gt.kind, lam := (fun z => by cases z) }, hs := G.hs, hf := G.hf, hp := hp, bk := G.bk } h1)
        (hd_ok gt.tx.xf gt.tx.cls gt.sc gt.N h2) (fun x bs hl => List.mem_map_of_mem (f := (·.1)) (look_mem hl)) (exmK_ok (X := X) gt.tx.exm h3)
    · cases h
theorem sndSs : ∀ (x : Sts) (st : List Stmt) {c : Ck} {Os : List Orc} {X : Cx} {W : WX}, Gs Γ T c Os X W → chkSs Γ c x st = true → RSs X T W st (svs Γ Os x)
  | .nil, st, c, Os, X, W, G, h => by
    simp only [chkSs] at h
    split at h
    · exact rss_nil
    · cases h
  | .cons s r, st, c, Os, X, W, G, h => by
    simp only [chkSs] at h
    split at h
    · obtain ⟨h1, h2⟩ := ba2 h
      exact rss_cons (sndS s _ G h1) (sndSs r _ G h2)
    · cases h
end
end
end Pv

set_option maxHeartbeats 4000000
/-! Pv23: all defs keep their promises; the end of a law. -/
namespace Pv
open PySem PySem.Spec PyProof.Rows L2 LamX

/-- what the text has of a def -/
structure FnT (Γ : Tx) (K : Frag) (mg : Str → Option Value) (base : Heap) (T : List (Addr × Str)) (F : FnI) (params : Arguments) (name : Str) (body : List Stmt) (scope : Scope) (lam : Bool) : Prop where
  ex : ∃ (oc : Value) (od : Option Addr) (dV kV doc pm : Value) (an : Option Addr) (cdv ct : Value) (osl : Array (Option Value)), K.lookup (He.fAd K F.at_) = some ⟨oc, od, .func (PySem.W.fnOf name F.qual params body scope dV kV doc pm an cdv ct), osl⟩ ∧ PySem.W.codeIn K cdv F.qual = true ∧
    (∀ (k : Nat) dv, F.dvs[k]? = some dv → ∃ ds dvs, Binds K (PySem.W.fnOf name F.qual params body scope dV kV doc pm an cdv ct) F.ps ds ∧ Vals dvs ds ∧ ∀ m H, RDs K m H dv dvs) ∧
    (lam = true → ∃ cd pt, cdv = .ref cd ∧ TabB base mg cd pt ∧ (pt, F.qual ++ ".<locals>." ++ "<lambda>") ∈ T ∧ ∀ p ∈ T, p.1 = pt → p.2 = F.qual ++ ".<locals>." ++ "<lambda>")
  kp : PySem.W.keepIn K (.ref (He.fAd K F.at_)) = true
  sc : FnScope F.N F.ps scope
  chk : chkSs Γ ⟨scope, F.N, fun _ => true, lam⟩ F.body body = true
section
variable {Γ : Tx} {T : List (Addr × Str)} {P : Program} {w : World} {K : Frag} {mg : Str → Option Value} {base : Heap}
theorem start_rv {m : Mm} {H : Hp} {N : List Str} {ds : List D} {vs : List V} (r : RDs K m H ds vs) : RV K m H (ds.map some ++ List.replicate (N.length - ds.length) none) (L2.start N vs) := by
  have hl := r.len
  refine ⟨by unfold L2.start; simp [hl], fun i d e => ?_⟩
  by_cases hi : i < ds.length
  · rw [List.getElem?_append_left (by simpa using hi), List.getElem?_map] at e
    cases q : ds[i]? with
    | none => rw [q] at e; cases e
    | some x =>
      rw [q] at e
      cases e
      obtain ⟨v, e1, e2⟩ := r.get q
      refine ⟨v, ?_, e2⟩
      unfold L2.start
      rw [List.getElem?_append_left (by simp [hl]; exact hi), List.getElem?_map, e1]
      rfl
  · rw [List.getElem?_append_right (by simpa using hi)] at e
    exfalso
    rw [List.getElem?_replicate] at e
    split at e <;> cases e
theorem run_out {Q : VK} {E : XK} {m : Mm} {H : Hp} {r : SR} (po : Po K T (RD K) m H (outR r) Q (fun c d H' => E c d H')) : PoS K T m H r { nx := fun _ H' => Q .non H', rt := Q } (fun cls d _ H' => E cls d H') := by
  cases r with
  | nx ρ S => exact fun σ m' H' g rp rv => po .non m' H' g rp (by simp only [RD])
  | rt d S => exact po
  | exc x fs ρ S => exact fun σ cls dd m' H' g rp rv rx => po cls dd m' H' g rp rx
  | bk ρ S => exact po.elim
  | ct ρ S => exact po.elim
  | stuck => exact po.elim
/-- a def by its body -/
theorem fn_ok (tx : TxOk Γ P w K mg base) {Os : List Orc} (os : OsOk Γ P w K mg base T Os) {F : FnI} {params : Arguments} {name : Str} {body : List Stmt} {scope : Scope} {lam : Bool} (F0 : FnT Γ K mg base T F params name body scope lam) {k : Nat} {dv : List D} (hk : F.dvs[k]? = some dv) :
    FnK P w K mg base T (2 * (Os.length + 1) + 1) (He.fAd K F.at_) F.ps.length dv (runFn Γ Os F) := by
  obtain ⟨oc, od, dV, kV, doc, pm, an, cdv, ct, osl, lk, hcd, hb, hlam⟩ := F0.ex
  obtain ⟨ds, dvs, b1, b2, b3⟩ := hb k dv hk
  refine ⟨F0.kp, fun ds S h => ?_, _, F.ps, ds, dvs, rfl, ?_, b1, b2, b3, b1⟩
  · unfold runFn at h
    split at h
    · rename_i e; exact e
    · exact absurd rfl h
  · refine fn_of (k := 2 * (Os.length + 1)) lk hcd F0.sc (fun vs H Q E ⟨m, S, ds, rp, rds, hl, po⟩ => by rw [rds.len]; exact hl) (fun A outer s H vs Q E hr ⟨m, S, ds, rp, rds, hl, po⟩ => ?_)
    refine ⟨_, sndSs F.body body (c := ⟨scope, F.N, fun _ => true, lam⟩) (Os := Os) (W := fun cls d _ H' => E cls d H') { g := { tx := tx, os := os, sc := rfl, N := rfl, fn := rfl, nd := F0.sc.nd, calm := rfl, tk := takes_of rfl rfl rfl rfl, room := hr, kind := F0.sc.kind, lam := fun z => ?_ }, hs := rfl, hf := rfl, hp := passes_of rfl, bk := ?_ } F0.chk, ?_⟩
    · obtain ⟨cd, pt, h1, h2, h3, h4⟩ := hlam z
      exact ⟨cd, pt, h1, h2, h3, h4⟩
    · show Env.blockKind (envOfC F.qual scope s.heap.objs.size (He.fAd K F.at_) cdv) = _
      unfold Env.blockKind
      have : (envOfC F.qual scope s.heap.objs.size (He.fAd K F.at_) cdv).scope.kind = .function := F0.sc.kind
      rw [this]
      rfl
    · refine ⟨m, _, S, rp, start_rv (N := F.N) rds, run_out ?_⟩
      unfold runFn at po
      rw [if_pos hl] at po
      exact po
theorem fn_stuck {F : FnI} {params : Arguments} {name : Str} {body : List Stmt} {scope : Scope} {lam : Bool} (F0 : FnT Γ K mg base T F params name body scope lam) {k : Nat} {dv : List D} (hk : F.dvs[k]? = some dv) : FnK P w K mg base T 1 (He.fAd K F.at_) F.ps.length dv (fun _ _ => .stuck) := by
  obtain ⟨oc, od, dV, kV, doc, pm, an, cdv, ct, osl, lk, hcd, hb, hlam⟩ := F0.ex
  obtain ⟨ds, dvs, b1, b2, b3⟩ := hb k dv hk
  exact ⟨F0.kp, fun ds S h => absurd rfl h, _, F.ps, ds, dvs, rfl, ⟨fun vs H Q E ⟨_, _, _, _, _, _, po⟩ => po.elim, fun A outer s H args us vs Q E _ _ _ _ ⟨_, _, _, _, _, _, po⟩ => po.elim⟩, b1, b2, b3, b1⟩
theorem os_ok (tx : TxOk Γ P w K mg base) (hf : ∀ (f : Nat) F, Γ.fns[f]? = some F → ∃ params name body scope lam, FnT Γ K mg base T F params name body scope lam) : ∀ n, OsOk Γ P w K mg base T (specs Γ n)
  | 0 => .nil fun f F h k dv hk => by
    obtain ⟨params, name, body, scope, lam, F0⟩ := hf f F h
    exact fn_stuck F0 hk
  | n + 1 => by
    have ih := os_ok tx hf n
    refine .cons (fun f F h k dv hk => ?_) ih
    obtain ⟨params, name, body, scope, lam, F0⟩ := hf f F h
    have key := fn_ok tx ih F0 hk
    have e : hd (specs Γ (n + 1)) f = runFn Γ (specs Γ n) F := by
      funext ds S
      show (match Γ.fns[f]? with
        | some F => runFn Γ (specs Γ n) F ds S
        | none => .stuck) = _
      rw [h]
    show FnK P w K mg base T _ _ _ _ (hd (specs Γ (n + 1)) f)
    rw [e]
    exact key
theorem specs_len : ∀ n, (specs Γ n).length = n
  | 0 => rfl
  | n + 1 => by
    show (specs Γ n).length + 1 = _
    rw [specs_len n]
/-! ### own exceptions -/
def initB (flds : List Str) : Nat → List Str → List Str → List Stmt → Bool
  | _, [], [], [] => true
  | j, p :: ps, f :: fs, .Assign [.Attribute (.Name s _) f' _] (.Name p' _) _ :: r => decide (s = ("self" : Str)) && decide (f = f') && decide (p = p') && ndB p && initB flds (j + 1) ps fs r
  | _, _, _, _ => false
theorem init_pss {X : Cx} {flds : List Str} (h0 : X.N[0]? = some ("self" : Str)) (v0 : Vis X.env.scope ("self" : Str)) : ∀ {ps fs : List Str} {st : List Stmt} {j : Nat}, (∀ (i : Nat) x, ps[i]? = some x → X.N[j + i]? = some x ∧ Vis X.env.scope x) → initB flds j ps fs st = true → PSs X st (tInit X.K j fs)
  | [], [], [], j, _, _ => pss_nil
  | p :: ps, f :: fs, st :: r, j, hv, h => by
    unfold initB at h
    split at h
    · rename_i e1 e2 e3; cases e1
    · rename_i j' p' ps' f' fs' s q1 f'' q2 p'' q3 pos r' e1 e2 e3
      cases e1
      cases e2
      cases e3
      obtain ⟨h, h5⟩ := ba2 h
      obtain ⟨h, h4⟩ := ba2 h
      obtain ⟨h, h3⟩ := ba2 h
      obtain ⟨h1, h2⟩ := ba2 h
      cases of_decide_eq_true h1
      cases of_decide_eq_true h2
      cases of_decide_eq_true h3
      obtain ⟨n1, n2, _⟩ := nd_ok h4
      obtain ⟨k1, k2⟩ := hv 0 p rfl
      refine pss_cons (ps_ost (pe_var h0 v0 (by decide +kernel) (by decide +kernel)) (pe_var (by simpa using k1) k2 n1 n2) rfl) (init_pss h0 v0 (fun i x hx => ?_) h5)
      have := hv (i + 1) x (by simpa using hx)
      rw [Nat.add_assoc, Nat.add_comm 1 i]
      exact this
    · cases h
  | [], _ :: _, _, j, _, h => by unfold initB at h; cases h
  | [], [], _ :: _, j, _, h => by unfold initB at h; cases h
  | _ :: _, [], _, j, _, h => by unfold initB at h; cases h
  | _ :: _, _ :: _, [], j, _, h => by unfold initB at h; cases h
theorem exc_ok {C : Str} {flds ps : List Str} {params : Arguments} {name qual : Str} {body : List Stmt} {scope : Scope} {fd : FuncData} (ox : OexC K (He.ga K C)) (hn : ∀ f ∈ flds, PySem.W.findIn K (.ref (He.ga K C)) f = some none) (F : FunD K name qual params body scope [] [] (He.ma K (He.ga K C) "__init__") fd)
    (ini : PySem.W.findIn K (.ref (He.ga K C)) "__init__" = some (some (.ref (He.ma K (He.ga K C) "__init__")))) (ty : PySem.W.typeIn K (.ref (He.ma K (He.ga K C) "__init__")) = some (.type "function")) (hb : Binds K fd (("self" : Str) :: ps) []) (S : FnScope (("self" : Str) :: ps) (("self" : Str) :: ps) scope) (hi : initB flds 1 ps flds body = true)
    (hne : flds ≠ []) (hl : ps.length = flds.length) (hle : flds.length ≤ 900) : ExcK P w K mg base 1 C flds := by
  refine ⟨ox, ini, ty, ⟨fd, ("self" : Str) :: ps, ?_, hb⟩, hle⟩
  refine F.ok (k := 0) S (fun vs H Q E ⟨a, ws, e, h1, _⟩ => by rw [e]; simp [h1, hl]) (fun cdv A outer s H vs Q E hr ⟨a, ws, e, h1, h2, h3⟩ => ?_)
  subst e
  have vis : ∀ x ∈ (("self" : Str) :: ps : List Str), Vis scope x := fun x hx => (S.par x hx).elim .inl (fun q => .inr (.inl q))
  refine ⟨tInit K 1 flds, init_pss (X := cxOf (CX P w) P w K mg base (("self" : Str) :: ps) qual scope _ cdv A outer s H E) rfl (vis _ (List.mem_cons_self ..)) (fun i x hx => ⟨by rw [Nat.add_comm]; exact hx, vis x (List.mem_cons_of_mem _ (List.mem_of_getElem? hx))⟩) hi, ?_⟩
  have hw : ws.length = ps.length := by rw [h1, hl]
  refine init_new ox rfl flds ws H hne hn h1.symm (fun i y hy => ?_) hle h2 h3
  show (L2.start (("self" : Str) :: ps) (V.ref a :: ws))[1 + i]? = _
  unfold L2.start
  have hi2 : i < ws.length := (List.getElem?_eq_some_iff.mp hy).1
  rw [List.getElem?_append_left (by simp; omega), Nat.add_comm, List.map_cons, List.getElem?_cons_succ, List.getElem?_map, hy]
  rfl
end
end Pv

set_option maxHeartbeats 4000000
/-! Pv24: what the head shows, as Bools. -/
namespace Pv
open PySem PySem.Spec PyProof.Rows L2 LamX

/-! ### values of the text -/
mutual
def rdB (K : Frag) : D → Value → Bool
  | .non, u => He.relB .non u
  | .bl b, u => He.relB (.bl b) u
  | .int i, u => He.relB (.int i) u
  | .str x, u => He.relB (.str x) u
  | .ty n, u => He.relB (.ty n) u
  | .glo x, u => He.relB (.ref (He.ga K x)) u
  | .tup ds, u => match u with
    | .ref a => match K.lookup a with
      | some ⟨.type c, _, .seq its _, _⟩ => decide (c = "tuple") && decide (its.size ≤ sizeLine) && rdsB K ds its.toList
      | _ => false
    | _ => false
  | .tpx ds, u => match u with
    | .ref a => match K.lookup a with
      | some ⟨.type c, none, .seq its _, sl⟩ => decide (c = "tuple") && decide (its.size ≤ sizeLine) && sl.isEmpty && rdsB K ds its.toList
      | _ => false
    | _ => false
  | .rl ds, u => match u with
    | .ref a => match K.lookup a with
      | some ⟨.type c, none, .seq its _, _⟩ => decide (c = "list") && decide (its.size ≤ sizeLine) && rdsB K ds its.toList
      | _ => false
    | _ => false
  | .lv _, _ => false
  | .dv _ _, _ => false
  | .ref _, _ => false
def rdsB (K : Frag) : List D → List Value → Bool
  | [], us => match us with
    | [] => true
    | _ => false
  | d :: ds, us => match us with
    | u :: us => rdB K d u && rdsB K ds us
    | _ => false
end
section
variable {K : Frag}
mutual
theorem rdB_ok : ∀ {d : D} {u : Value}, rdB K d u = true → ∃ v, RelV v u ∧ ∀ m H, RD K m H d v
  | .non, u, h => ⟨_, He.relB_ok h, fun m H => by simp only [RD]⟩
  | .bl b, u, h => ⟨_, He.relB_ok h, fun m H => by simp only [RD]⟩
  | .int i, u, h => ⟨_, He.relB_ok h, fun m H => by simp only [RD]⟩
  | .str x, u, h => ⟨_, He.relB_ok h, fun m H => by simp only [RD]⟩
  | .ty n, u, h => ⟨_, He.relB_ok h, fun m H => by simp only [RD]⟩
  | .glo x, u, h => ⟨_, He.relB_ok h, fun m H => by simp only [RD]⟩
  | .tup ds, u, h => by
    unfold rdB at h
    split at h
    · rename_i a
      split at h
      · rename_i c od its n sl q
        obtain ⟨h, h3⟩ := ba2 h
        obtain ⟨h1, h2⟩ := ba2 h
        obtain ⟨vs, r, e⟩ := rdsB_ok h3
        refine ⟨.ref a, rfl, fun m H => ?_⟩
        simp only [RD]
        exact ⟨a, vs, rfl, .inr (.inr ⟨_, its, n, q, congrArg Value.type (of_decide_eq_true h1), rfl, of_decide_eq_true h2, r⟩), e m H⟩
      · cases h
    · cases h
  | .tpx ds, u, h => by
    unfold rdB at h
    split at h
    · rename_i a
      split at h
      · rename_i c its n sl q
        obtain ⟨h, h4⟩ := ba2 h
        obtain ⟨h, h3⟩ := ba2 h
        obtain ⟨h1, h2⟩ := ba2 h
        obtain ⟨vs, r, e⟩ := rdsB_ok h4
        cases of_decide_eq_true h1
        have e3 : sl = #[] := Array.isEmpty_iff.mp h3
        subst e3
        refine ⟨.ref a, rfl, fun m H => ?_⟩
        simp only [RD]
        exact ⟨a, vs, rfl, .inr ⟨its.toList, n, q, by simpa using of_decide_eq_true h2, r⟩, e m H⟩
      · cases h
    · cases h
  | .rl ds, u, h => by
    unfold rdB at h
    split at h
    · rename_i a
      split at h
      · rename_i c its n sl q
        obtain ⟨h, h3⟩ := ba2 h
        obtain ⟨h1, h2⟩ := ba2 h
        obtain ⟨vs, r, e⟩ := rdsB_ok h3
        refine ⟨.ref a, rfl, fun m H => ?_⟩
        simp only [RD]
        exact ⟨a, vs, rfl, .inr (.inr ⟨_, its, n, q, congrArg Value.type (of_decide_eq_true h1), rfl, rfl, of_decide_eq_true h2, r⟩), e m H⟩
      · cases h
    · cases h
  | .lv _, u, h => by simp only [rdB] at h; cases h
  | .dv _ _, u, h => by simp only [rdB] at h; cases h
  | .ref _, u, h => by simp only [rdB] at h; cases h
theorem rdsB_ok : ∀ {ds : List D} {us : List Value}, rdsB K ds us = true → ∃ vs, Vals vs us ∧ ∀ m H, RDs K m H ds vs
  | [], us, h => by
    unfold rdsB at h
    split at h
    · exact ⟨[], .nil, fun m H => by simp only [RDs]⟩
    · cases h
  | d :: ds, us, h => by
    unfold rdsB at h
    split at h
    · rename_i u us
      obtain ⟨h1, h2⟩ := ba2 h
      obtain ⟨v, r, e⟩ := rdB_ok h1
      obtain ⟨vs, rs, es⟩ := rdsB_ok h2
      refine ⟨v :: vs, .cons r rs, fun m H => ?_⟩
      simp only [RDs]
      exact ⟨v, vs, rfl, e m H, es m H⟩
    · cases h
end
/-- the module's name x holds d -/
def glbB (K : Frag) (x : Str) (d : D) : Bool := match PySem.W.nsIn K mainGlobals x with
  | some (some u) => rdB K d u
  | _ => false
theorem glbB_ok {h : Heap} {mg : Str → Option Value} (X : K.In h) (G : h.Ns mainGlobals mg) {x : Str} {d : D} (c : glbB K x d = true) : ∃ u v, mg x = some u ∧ RelV v u ∧ ∀ m H, RD K m H d v := by
  unfold glbB at c
  split at c
  · rename_i u e
    obtain ⟨v, r, z⟩ := rdB_ok c
    exact ⟨u, v, PySem.W.mg_of X G e, r, z⟩
  · cases c
/-! ### dicts of the text -/
def entB (K : Frag) : List (Str × D) → List DictEntry → Bool
  | [], es => match es with
    | [] => true
    | _ => false
  | (k, d) :: r, es => match es with
    | e :: es => (match e.key with
      | .str x _ => decide (x = k)
      | _ => false) && rdB K d e.val && entB K r es
    | _ => false
def tabVB (K : Frag) (a : Addr) (kvs : List (Str × D)) : Bool := match K.lookup a with
  | some ⟨_, _, .dict es _, _⟩ => entB K kvs es.toList
  | _ => false
theorem entB_ok : ∀ {kvs : List (Str × D)} {es : List DictEntry}, entB K kvs es = true → es.any (·.refKey) = false ∧ ∀ z : Str, match kvs.lookup z with
    | some d => ∃ e v, es.find? (·.key.isStr z) = some e ∧ RelV v e.val ∧ ∀ m H, RD K m H d v
    | none => es.find? (·.key.isStr z) = none
  | [], es, h => by
    unfold entB at h
    split at h
    · exact ⟨rfl, fun z => rfl⟩
    · cases h
  | (k, d) :: r, es, h => by
    unfold entB at h
    split at h
    · rename_i e es
      obtain ⟨h, h3⟩ := ba2 h
      obtain ⟨h1, h2⟩ := ba2 h
      obtain ⟨i1, i2⟩ := entB_ok h3
      split at h1
      · rename_i x t q
        have hx := of_decide_eq_true h1
        subst hx
        refine ⟨?_, fun z => ?_⟩
        · rw [List.any_cons, i1]
          unfold DictEntry.refKey
          rw [q]
          rfl
        · have es1 : e.key.isStr z = (x == z) := by rw [q]; rfl
          rw [List.lookup_cons, List.find?_cons, es1]
          by_cases c : z = x
          · subst c
            simp only [beq_self_eq_true]
            obtain ⟨v, r, e0⟩ := rdB_ok h2
            exact ⟨e, v, rfl, r, e0⟩
          · have c1 : (z == x) = false := by simpa using c
            have c2 : (x == z) = false := by simpa using fun q => c q.symm
            rw [c1, c2]
            exact i2 z
      · cases h1
    · cases h
theorem tab_ok {w : World} {x : Str} {kvs : List (Str × D)} (h : tabVB K (He.ga K x) kvs = true) (hk : ∃ es n, KDict K w (He.ga K x) es n) : TabK K w x kvs := by
  obtain ⟨es, n, hk⟩ := hk
  refine ⟨es, n, hk, fun z => ?_⟩
  unfold tabVB at h
  rw [hk.at_] at h
  obtain ⟨h1, h2⟩ := entB_ok h
  have h3 := h2 z
  unfold PySem.W.nsIn
  rw [hk.at_]
  dsimp only
  cases hk2 : kvs.lookup z with
  | some d =>
    rw [hk2] at h3
    obtain ⟨e, v, e1, e2, e3⟩ := h3
    rw [e1]
    exact ⟨_, rfl, e.val, v, rfl, e2, e3⟩
  | none =>
    rw [hk2] at h3
    have h4 : es.toList.find? (·.key.isStr z) = none := h3
    rw [h4, h1]
    exact ⟨_, rfl, rfl⟩
/-! ### classes of exceptions -/
def oexB (K : Frag) (C : Addr) : Bool := (match K.lookup C with
  | some ⟨.type "type", _, .cls cd, sl⟩ => (match cd.mro, sl.toList with
    | .ref C' :: bm, [_, _, _, _, some (.builtin n), _] => C' == C && n == "ValueError.__new__" && !cd.hasDel && cd.hasDict && PySem.HandSPX.refsVE bm
    | _, _ => false)
  | _ => false) && decide (PySem.W.findIn K (.ref C) "__setattr__" = some (some (.builtin "object.__setattr__"))) && decide (PySem.W.subIn K (.ref C) (.type "BaseException") = some true) && decide (PySem.W.typeIn K (.ref C) = some (.type "type")) && PySem.W.keepIn K (.ref C)
theorem oexB_ok {C : Addr} (q : oexB K C = true) : OexC K C := by
  unfold oexB at q
  obtain ⟨q, q5⟩ := ba2 q
  obtain ⟨q, q4⟩ := ba2 q
  obtain ⟨q, q3⟩ := ba2 q
  obtain ⟨q, q2⟩ := ba2 q
  refine ⟨?_, of_decide_eq_true q2, of_decide_eq_true q3, of_decide_eq_true q4, q5⟩
  split at q
  · rename_i dd cd sl ho
    split at q
    · rename_i C' bm k0 k1 k2 k3 n k5 hm hs
      simp only [Bool.and_eq_true, beq_iff_eq, Bool.not_eq_true'] at q
      obtain ⟨⟨⟨⟨rfl, rfl⟩, hdel⟩, hdct⟩, ht⟩ := q
      obtain ⟨nm, bs, mro, ns, qn, hd, sn, sub, ab, col, del⟩ := cd
      dsimp only at hm hdel hdct
      subst hm hdel hdct
      have hsl : sl = #[k0, k1, k2, k3, some (.builtin "ValueError.__new__"), k5] := by
        obtain ⟨l⟩ := sl
        simp only at hs
        rw [hs]
      subst hsl
      exact ⟨nm, qn, ns, bs, bm, sn, sub, ab, col, dd, k0, k1, k2, k3, k5, ho, ht⟩
    · cases q
  · cases q
end
/-! ### binding -/
def plainPs (ps : List Str) (p : Arguments) : Bool := p.posonlyargs.isEmpty && p.vararg.isNone && p.kwonlyargs.isEmpty && p.kwarg.isNone && decide (p.args.map (·.arg) = ps) && decide ps.Nodup
theorem fm_congr {α β : Type} {f g : α → Option β} : ∀ {l : List α}, (∀ x ∈ l, f x = g x) → l.filterMap f = l.filterMap g
  | [], _ => rfl
  | a :: l, h => by
    rw [List.filterMap_cons, List.filterMap_cons, h a (List.mem_cons_self ..), fm_congr fun x hx => h x (List.mem_cons_of_mem _ hx)]
theorem zip_look {ps : List Str} (nd : ps.Nodup) : ∀ {us : List Value}, us.length = ps.length → ps.filterMap (fun n => ((ps.zip us).lookup n).map (n, ·)) = ps.zip us ∧ ∀ n ∈ ps, ((ps.zip us).lookup n).isNone = false := by
  induction ps with
  | nil => intro us h; exact ⟨rfl, fun n hn => by cases hn⟩
  | cons p ps ih =>
    intro us h
    cases us with
    | nil => simp at h
    | cons u us =>
      obtain ⟨n1, n2⟩ := List.nodup_cons.mp nd
      obtain ⟨i1, i2⟩ := ih n2 (us := us) (by simpa using h)
      refine ⟨?_, fun n hn => ?_⟩
      · rw [List.zip_cons_cons, List.filterMap_cons]
        simp only [List.lookup_cons, beq_self_eq_true, Option.map_some]
        refine congrArg _ (Eq.trans ?_ i1)
        refine fm_congr fun n hn => ?_
        have : (n == p) = false := by
          cases q : n == p with
          | false => rfl
          | true => rw [eq_of_beq q] at hn; exact absurd hn n1
        rw [this]
      · rw [List.zip_cons_cons, List.lookup_cons]
        cases q : n == p with
        | true => rfl
        | false =>
          rcases List.mem_cons.mp hn with e | e
          · rw [e] at q; simp at q
          · exact i2 n e
theorem bind_plain {fd : FuncData} {ps : List Str} (hp : plainPs ps fd.params = true) (hd : fd.defaults = .none) (us : List Value) (hl : us.length = ps.length) : bindArgs fd ⟨us, []⟩ = pure (ps.zip us) := by
  unfold plainPs at hp
  obtain ⟨hp, h6⟩ := ba2 hp
  obtain ⟨hp, h5⟩ := ba2 hp
  obtain ⟨hp, h4⟩ := ba2 hp
  obtain ⟨hp, h3⟩ := ba2 hp
  obtain ⟨h1, h2⟩ := ba2 hp
  have e1 := List.isEmpty_iff.mp h1
  have e2 := Option.isNone_iff_eq_none.mp h2
  have e3 := List.isEmpty_iff.mp h3
  have e4 := Option.isNone_iff_eq_none.mp h4
  have e5 := of_decide_eq_true h5
  obtain ⟨z1, z2⟩ := zip_look (of_decide_eq_true h6) hl
  have e6 : (ps.filter fun n => (List.lookup n (ps.zip us)).isNone) = [] := List.filter_eq_nil_iff.mpr fun n hn => by simp [z2 n hn]
  unfold bindArgs
  simp only [e1, e2, e3, e4, e5, hd, List.map_nil, List.nil_append, List.append_nil, List.forIn_nil, pure_bind, seqItems?, notAStandIn, Option.getD_none, List.drop_nil, List.length_nil, Nat.sub_zero, hl, List.take_length, e6, List.isEmpty_nil, Bool.not_true, gt_iff_lt, Nat.lt_irrefl, decide_false, Bool.false_and, List.zip_nil_right, z1]
  rfl
end Pv

set_option maxHeartbeats 4000000
/-! Pv25: a law's text, and what its head shows of it. -/
namespace Pv
open PySem PySem.Spec PyProof.Rows L2 LamX

structure DfT where
  d : He.DefD
  F : FnI
  lam : Bool
structure FlT where
  d : He.DefD
  F : FltI
  N : List Str
  xs : List Str
structure XcT where
  d : He.DefD
  C : Str
  flds : List Str
  ps : List Str
def scB (N ps : List Str) (sc : Scope) : Bool := (match sc.kind with
  | .function => true
  | _ => false) && !sc.isCoroutine && !sc.isGenerator && decide N.Nodup && decide (N.take ps.length = ps) && (ps.all fun x => locB sc x) && (sc.names.all fun y => match y.2 with
  | .free => false
  | _ => true)
theorem scB_ok {N ps : List Str} {sc : Scope} (h : scB N ps sc = true) : FnScope N ps sc := by
  unfold scB at h
  obtain ⟨h, h7⟩ := ba2 h
  obtain ⟨h, h6⟩ := ba2 h
  obtain ⟨h, h5⟩ := ba2 h
  obtain ⟨h, h4⟩ := ba2 h
  obtain ⟨h, h3⟩ := ba2 h
  obtain ⟨h1, h2⟩ := ba2 h
  refine ⟨?_, by simpa using h2, by simpa using h3, of_decide_eq_true h4, of_decide_eq_true h5, fun x hx => loc_ok (List.all_eq_true.mp h6 x hx), fun y hy e => ?_⟩
  · split at h1
    · rename_i e; exact e
    · cases h1
  · have := List.all_eq_true.mp h7 y hy
    rw [e] at this
    cases this
/-- the one def with a default -/
def one3 (p : Arguments) : Bool := match p with
  | ⟨[], [⟨x, _, _⟩, ⟨y, _, _⟩, ⟨z, _, _⟩], none, [], [], none, _⟩ => decide (x = ("value" : Str)) && decide (y = ("least" : Str)) && decide (z = ("most" : Str))
  | _ => false
def dvsB (d : He.DefD) (F : FnI) : Bool := match d.dfl, d.kwd with
  | [], [] => plainPs F.ps d.params && (match F.dvs with
    | [[]] => true
    | _ => false)
  | [.non], [] => one3 d.params && decide (F.ps = [("value" : Str), "least", "most"]) && (match F.dvs with
    | [[], [.non]] => true
    | _ => false)
  | _, _ => false
def DfT.ok (Γ : Tx) (t : DfT) : Bool := decide (t.F.at_ = t.d.at_) && decide (t.F.qual = t.d.qual) && scB t.F.N t.F.ps t.d.scope && chkSs Γ ⟨t.d.scope, t.F.N, fun _ => true, t.lam⟩ t.F.body t.d.body && dvsB t.d t.F
def FlT.ok (Γ : Tx) (t : FlT) : Bool := decide (t.d.at_ = (t.F.name, none)) && decide (t.d.name = t.F.name) && decide (t.d.qual = t.F.name) && (match t.d.dfl, t.d.kwd with
  | [], [] => true
  | _, _ => false) && (match t.d.body with
  | [.Try [.Expr (.Call (.Name a _) [] [] _) _] (h₀ :: hds) [] [] _, .Return (some (.Constant .none _ _)) _] => plainPs [a] t.d.params && scB t.N [a] t.d.scope && decide (t.N[0]? = some a) && visB t.d.scope a && chkH Γ ⟨t.d.scope, t.N, fun _ => true, false⟩ t.xs t.F.cs (h₀ :: hds) && ndB t.F.name && ndB a
  | _ => false) && (t.F.tb.all fun p => decide (p.1 ∈ t.xs)) && (t.F.tb.all fun p => exmB Γ p.1 t.F.cs p.2)
def XcT.ok (t : XcT) : Bool := decide (t.d.at_ = (t.C, some ("__init__" : Str))) && (match t.d.dfl, t.d.kwd with
  | [], [] => true
  | _, _ => false) && plainPs (("self" : Str) :: t.ps) t.d.params && scB (("self" : Str) :: t.ps) (("self" : Str) :: t.ps) t.d.scope && initB t.flds 1 t.ps t.flds t.d.body && !t.flds.isEmpty && decide (t.ps.length = t.flds.length) && decide (t.flds.length ≤ 900)
structure Txt where
  Γ : Tx
  ds : List DfT
  fl : List FlT
  xc : List XcT
abbrev lamQ (q : Str) : Str := q ++ ".<locals>." ++ "<lambda>"
namespace Txt
def fn (t : Txt) : List He.DefD := t.ds.map (·.d) ++ (t.fl.map (·.d) ++ t.xc.map (·.d))
def ts (t : Txt) : List He.Tab := t.Γ.tabs.map fun p => (fun K => He.ga K p.1, p.2.map (·.1))
def ls (t : Txt) : List DfT := t.ds.filter (·.lam)
def tf (t : Txt) : List He.Defn := t.ls.map (·.d.at_)
def T (t : Txt) (K : Frag) : List (Addr × Str) := t.ls.map fun p => ((He.cT K p.d.at_).2, lamQ p.d.qual)
def gloB (K : Frag) (x : Str) : Bool := (He.Fa.glo x).ok K
def atB (K : Frag) : Str × Option Str → Bool
  | (x, none) => gloB K x
  | (C, some m) => if m = ("__init__" : Str) then (He.Fa.mkr C).ok K && gloB K C else (He.Fa.cls C).ok K && (He.Fa.meth C m).ok K
def excB (K : Frag) (p : Str × List Str) : Bool := gloB K p.1 && oexB K (He.ga K p.1) && (p.2.all fun f => He.eqO (PySem.W.findIn K (.ref (He.ga K p.1)) f) (some none)) && He.eqO (PySem.W.findIn K (.ref (He.ga K p.1)) "__init__") (some (some (.ref (He.ma K (He.ga K p.1) "__init__")))) && decide (PySem.W.typeIn K (.ref (He.ma K (He.ga K p.1) "__init__")) = some (.type "function"))
def ex (t : Txt) (K : Frag) : Bool := (t.Γ.glbs.all fun p => glbB K p.1 p.2) && (t.Γ.tabs.all fun p => gloB K p.1 && tabVB K (He.ga K p.1) p.2) && (t.Γ.free.all fun x => (He.Fa.free x).ok K) && (t.Γ.exms.all fun p => (He.Fa.exm p.1 p.2.1 p.2.2).ok K) && (t.Γ.xfs.all fun p => xfB K (He.ga K p.1) && (He.Fa.noat p.1 p.2).ok K) &&
  (t.Γ.clss.all fun x => gloB K x) && (t.Γ.flds.all fun p => (He.Fa.cls p.1).ok K && p.2.all fun f => (He.Fa.noat p.1 f).ok K) && (t.Γ.fns.all fun F => atB K F.at_) && (t.Γ.flts.all fun F => gloB K F.name) && (t.Γ.excs.all fun p => excB K p) && decide ((t.tf.map fun p => (He.cT K p).2).Nodup)
/-- the text is as its data say -/
structure Ok (t : Txt) : Prop where
  fns : t.Γ.fns = t.ds.map (·.F)
  flts : t.Γ.flts = t.fl.map (·.F)
  excs : t.Γ.excs = t.xc.map fun p => (p.C, p.flds)
  ds : ∀ p ∈ t.ds, p.ok t.Γ = true
  fl : ∀ p ∈ t.fl, p.ok t.Γ = true
  xc : ∀ p ∈ t.xc, p.ok = true
end Txt
section
variable {t : Txt} {P : Program} {w : World} {K : Frag} {mg : Str → Option Value} {base h : Heap}
theorem map_at {α β : Type} {f : α → β} {l : List α} {j : Nat} {b : β} (h : (l.map f)[j]? = some b) : ∃ a, a ∈ l ∧ f a = b := by
  rw [List.getElem?_map] at h
  obtain ⟨a, e1, e2⟩ := Option.map_eq_some_iff.mp h
  exact ⟨a, List.mem_of_getElem? e1, e2⟩
theorem nd_inj {α β : Type} {f : α → β} : ∀ {l : List α}, (l.map f).Nodup → ∀ {a b : α}, a ∈ l → b ∈ l → f a = f b → a = b
  | x :: l, nd, a, b, ha, hb, e => by
    obtain ⟨n1, n2⟩ := List.nodup_cons.mp nd
    rcases List.mem_cons.mp ha with q1 | q1
    · rcases List.mem_cons.mp hb with q2 | q2
      · rw [q1, q2]
      · exact absurd (by rw [← q1, e]; exact List.mem_map_of_mem q2) n1
    · rcases List.mem_cons.mp hb with q2 | q2
      · exact absurd (by rw [← q2, ← e]; exact List.mem_map_of_mem q1) n1
      · exact nd_inj n2 q1 q2 e
theorem fun_nd {K : Frag} {d : He.DefD} {dvs : List V} {kws : List (Str × V)} {a : Addr} {fd : FuncData} (F : FunD K d.name d.qual d.params d.body d.scope dvs kws a fd) (h1 : dvs = []) {ps : List Str} (hp : plainPs ps d.params = true) : Binds K fd ps [] := by
  subst h1
  obtain ⟨oc, od, dV, kV, doc, pm, an, cdv, ct, osl, rfl, lk, hcd, hD, hK⟩ := F.ex
  rcases hD with ⟨_, rfl⟩ | ⟨e, _⟩
  · exact .all fun us hl => bind_plain hp rfl us hl
  · exact absurd rfl e
theorem bind3 {x qual : Str} {params : Arguments} {body : List Stmt} {scope : Scope} {T : Addr} {kV doc pm cdv ct : Value} {an : Option Addr} (h : one3 params = true) (v : Value) : (∀ us : List Value, us.length = 3 → ∃ k, bindArgs (PySem.W.fnOf x qual params body scope (.ref T) kV doc pm an cdv ct) ⟨us, []⟩ = seqItems? (.ref T) >>= k ∧ k (some #[v]) = pure ((["value", "least", "most"] : List Str).zip us)) ∧
    ∀ us : List Value, us.length = 2 → ∃ k, bindArgs (PySem.W.fnOf x qual params body scope (.ref T) kV doc pm an cdv ct) ⟨us, []⟩ = seqItems? (.ref T) >>= k ∧ k (some #[v]) = pure ((["value", "least", "most"] : List Str).zip (us ++ [v])) := by
  unfold one3 at h
  split at h
  · rename_i x1 _ _ y1 _ _ z1 _ _ dfs
    obtain ⟨h, h3⟩ := ba2 h
    obtain ⟨h1, h2⟩ := ba2 h
    cases of_decide_eq_true h1
    cases of_decide_eq_true h2
    cases of_decide_eq_true h3
    exact ⟨fun us hl => match us, hl with | [_, _, _], _ => ⟨_, rfl, rfl⟩, fun us hl => match us, hl with | [_, _], _ => ⟨_, rfl, rfl⟩⟩
  · cases h
theorem Txt.Ok.fnTp (o : t.Ok) {ts : List He.Tab} {tf : List He.Defn} (c : He.SaysX [] t.fn ts tf t.ex w h K) (TB : ∀ p ∈ t.tf.map (He.cT K), TabB base mg p.1 p.2) {p : DfT} (hp : p ∈ t.ds) : FnT t.Γ K mg base (t.T K) p.F p.d.params p.d.name p.d.body p.d.scope p.lam := by
  have ok := o.ds p hp
  unfold DfT.ok at ok
  obtain ⟨ok, k5⟩ := ba2 ok
  obtain ⟨ok, k4⟩ := ba2 ok
  obtain ⟨ok, k3⟩ := ba2 ok
  obtain ⟨k1, k2⟩ := ba2 ok
  have k1 := of_decide_eq_true k1
  have k2 := of_decide_eq_true k2
  obtain ⟨fd, FD⟩ := c.t.d.defs (d := p.d) (by unfold Txt.fn; exact List.mem_append_left _ (List.mem_map_of_mem hp))
  refine ⟨?_, by rw [k1]; exact FD.kp, scB_ok k3, k4⟩
  rw [k1, k2]
  have FD2 := FD
  obtain ⟨oc, od, dV, kV, doc, pm, an, cdv, ct, osl, rfl, lk, hcd, hD, hK⟩ := FD.ex
  refine ⟨oc, od, dV, kV, doc, pm, an, cdv, ct, osl, lk, hcd, fun k dv hk => ?_, fun hl => ?_⟩
  · unfold dvsB at k5
    split at k5
    · rename_i e1 e2
      obtain ⟨k6, k7⟩ := ba2 k5
      split at k7
      · rename_i e3
        rw [e3] at hk
        cases k with
        | zero =>
          cases hk
          exact ⟨[], [], fun_nd FD2 (by unfold He.DefD.dvs; rw [e1]; rfl) k6, .nil, fun m H => by simp only [RDs]⟩
        | succ k => simp at hk
      · cases k7
    · rename_i e1 e2
      obtain ⟨k6, k8⟩ := ba2 k5
      obtain ⟨k6, k7⟩ := ba2 k6
      have k7 := of_decide_eq_true k7
      split at k8
      · rename_i e3
        rw [e3] at hk
        unfold He.DefD.dvs at hD
        rw [e1] at hD
        rcases hD with ⟨e, _⟩ | ⟨_, T, o, its, m, rfl, lT, oT, rT⟩
        · cases e
        · have e4 : its = [Value.none] := by
            cases rT with
            | cons r rr =>
              cases rr
              cases r
              rfl
          subst e4
          rw [k7]
          have run : ∀ {us : List Value} {z : List (Str × Value)} (s : Shared), K.In s.heap → (∃ k, bindArgs (PySem.W.fnOf p.d.name p.d.qual p.d.params p.d.body p.d.scope (.ref T) kV doc pm an cdv ct) ⟨us, []⟩ = seqItems? (.ref T) >>= k ∧ k (some #[Value.none]) = pure z) → BindsTo s (PySem.W.fnOf p.d.name p.d.qual p.d.params p.d.body p.d.scope (.ref T) kV doc pm an cdv ct) ⟨us, []⟩ z := by
            intro us z s X ⟨k, e5, e6⟩
            refine BindsTo.of_looks fun M => ?_
            rw [e5]
            exact looks_items X lT oT (.of_pure e6)
          match k, hk with
          | 0, hk =>
            cases hk
            refine ⟨[], [], fun s us X hl => ?_, .nil, fun m H => by simp only [RDs]⟩
            rw [List.append_nil] at hl ⊢
            exact run s X ((bind3 k6 .none).1 us hl)
          | 1, hk =>
            cases hk
            refine ⟨[.none], [.non], fun s us X hl => ?_, .cons rfl .nil, fun m H => by simp only [RDs, RD]; exact ⟨_, _, rfl, rfl, rfl⟩⟩
            exact run s X ((bind3 k6 .none).2 us (by simpa using hl))
          | k + 2, hk => simp at hk
      · cases k8
    · cases k5
  · have hm : p ∈ t.ls := List.mem_filter.mpr ⟨hp, by simpa using hl⟩
    obtain ⟨cd, rfl⟩ := He.codeIn_ref hcd
    have e := He.codeOf_eq lk rfl
    have hm2 : p.d.at_ ∈ t.tf := List.mem_map_of_mem hm
    have tb := TB _ (List.mem_map_of_mem hm2)
    have nd : ((t.tf.map fun p => (He.cT K p).2)).Nodup := by
      have z := c.more
      unfold Txt.ex at z
      exact of_decide_eq_true (ba2 z).2
    refine ⟨cd, (He.cT K p.d.at_).2, rfl, ?_, List.mem_map.mpr ⟨p, hm, rfl⟩, fun q hq e2 => ?_⟩
    · have : (He.cT K p.d.at_).1 = cd := e
      rw [this] at tb
      exact tb
    · obtain ⟨p2, hp2, rfl⟩ := List.mem_map.mp hq
      unfold Txt.tf at nd
      rw [List.map_map] at nd
      rw [nd_inj nd hp2 hm e2]
theorem Txt.Ok.fnT (o : t.Ok) {ts : List He.Tab} {tf : List He.Defn} (c : He.SaysX [] t.fn ts tf t.ex w h K) (TB : ∀ p ∈ t.tf.map (He.cT K), TabB base mg p.1 p.2) {F : FnI} {f : Nat} (hf : t.Γ.fns[f]? = some F) : ∃ params name body scope lam, FnT t.Γ K mg base (t.T K) F params name body scope lam := by
  rw [o.fns] at hf
  obtain ⟨p, hp, rfl⟩ := map_at hf
  exact ⟨_, _, _, _, _, o.fnTp c TB hp⟩
end
end Pv

set_option maxHeartbeats 4000000
/-! Pv26: the head gives all that the layer leans on; the end of a law. -/
namespace Pv
open PySem PySem.Spec PyProof.Rows L2 LamX
section
variable {t : Txt} {P : Program} {w : World} {K : Frag} {mg : Str → Option Value} {base h : Heap}
theorem exm_okK {Γ : Tx} (hx : ∀ x y b, (x, y, b) ∈ Γ.exms → PySem.W.exmOne K (.ref (He.ga K x)) (.ref (He.ga K y)) = some b) {x : Str} : ∀ {cs : List Cl} {bs : List Bool}, exmB Γ x cs bs = true → ∀ (j : Nat) (c : Cl) (b : Bool), cs[j]? = some c → bs[j]? = some b → PySem.W.exmOne K (.ref (He.ga K x)) (.ref (He.ga K c.C)) = some b
  | [], _, _, j, c, b, e, _ => by simp at e
  | _ :: _, [], _, j, c, b, _, e => by simp at e
  | c :: cs, b :: bs, h, j, c', b', e1, e2 => by
    simp only [exmB] at h
    obtain ⟨h1, h2⟩ := ba2 h
    cases j with
    | zero =>
      simp at e1 e2
      subst e1
      subst e2
      obtain ⟨q, k1, k2⟩ := List.any_eq_true.mp h1
      rw [of_decide_eq_true k2] at k1
      exact hx _ _ _ k1
    | succ j => exact exm_okK hx h2 j c' b' (by simpa using e1) (by simpa using e2)
theorem Txt.Ok.tx (o : t.Ok) {tf : List He.Defn} (X : K.In h) (G : h.Ns mainGlobals mg) {h0 : Heap} (c : He.SaysX [] t.fn t.ts tf t.ex w h0 K) : TxOk t.Γ P w K mg base := by
  have z := c.more
  unfold Txt.ex at z
  obtain ⟨z, z11⟩ := ba2 z
  obtain ⟨z, z10⟩ := ba2 z
  obtain ⟨z, z9⟩ := ba2 z
  obtain ⟨z, z8⟩ := ba2 z
  obtain ⟨z, z7⟩ := ba2 z
  obtain ⟨z, z6⟩ := ba2 z
  obtain ⟨z, z5⟩ := ba2 z
  obtain ⟨z, z4⟩ := ba2 z
  obtain ⟨z, z3⟩ := ba2 z
  obtain ⟨z1, z2⟩ := ba2 z
  have glo : ∀ {x : Str}, Txt.gloB K x = true → mg x = some (.ref (He.ga K x)) := fun q => He.glo_ok X G q
  have xfs : ∀ x n, (x, n) ∈ t.Γ.xfs → XcK K x n := fun x n hm => by
    obtain ⟨q1, q2⟩ := ba2 (List.all_eq_true.mp z5 _ hm)
    exact ⟨xfB_ok q1, He.noat_ok q2⟩
  have cls : ∀ x ∈ t.Γ.clss, mg x = some (.ref (He.ga K x)) := fun x hm => glo (List.all_eq_true.mp z6 _ hm)
  have exm : ∀ x y b, (x, y, b) ∈ t.Γ.exms → PySem.W.exmOne K (.ref (He.ga K x)) (.ref (He.ga K y)) = some b := fun x y b hm => He.exm_ok (List.all_eq_true.mp z4 _ hm)
  have atj : ∀ (j : Nat) F, t.Γ.fns[j]? = some F → Txt.atB K F.at_ = true := fun j F e => List.all_eq_true.mp z8 _ (List.mem_of_getElem? e)
  exact {
    glb := fun j x d e => glbB_ok X G (List.all_eq_true.mp z1 _ (List.mem_of_getElem? e))
    tab := fun j x kvs e => by
      obtain ⟨q1, q2⟩ := ba2 (List.all_eq_true.mp z2 _ (List.mem_of_getElem? e))
      refine ⟨glo q1, tab_ok q2 ?_⟩
      have e2 : t.ts[j]? = some ((fun K => He.ga K x), kvs.map (·.1)) := by
        unfold Txt.ts
        rw [List.getElem?_map, e]
        rfl
      exact c.t.tab j e2
    free := fun x hm => He.free_ok X G (List.all_eq_true.mp z3 _ hm)
    exm := exm
    xf := xfs
    cls := cls
    flds := fun C fs hm f hf => by
      obtain ⟨q1, q2⟩ := ba2 (List.all_eq_true.mp z7 _ hm)
      exact ⟨He.cls_ok q1, He.noat_ok (List.all_eq_true.mp q2 _ hf)⟩
    fn := fun j F x e ea => by
      have q := atj j F e
      rw [ea] at q
      exact glo q
    mt := fun j F C m e ea hm => by
      have q := atj j F e
      rw [ea] at q
      unfold Txt.atB at q
      dsimp only at q
      rw [if_neg hm] at q
      obtain ⟨q1, q2⟩ := ba2 q
      exact ⟨He.cls_ok q1, He.meth_ok q2⟩
    mks := fun j F C e ea => by
      have q := atj j F e
      rw [ea] at q
      unfold Txt.atB at q
      dsimp only at q
      rw [if_pos rfl] at q
      obtain ⟨q1, q2⟩ := ba2 q
      exact ⟨He.mkr_ok q1, glo q2⟩
    flt := fun j F e => by
      have q9 := List.all_eq_true.mp z9 _ (List.mem_of_getElem? e)
      rw [o.flts] at e
      obtain ⟨p, hp, rfl⟩ := map_at e
      have ok := o.fl p hp
      obtain ⟨fd, FD⟩ := c.t.d.defs (d := p.d) (by unfold Txt.fn; exact List.mem_append_right _ (List.mem_append_left _ (List.mem_map_of_mem hp)))
      unfold FlT.ok at ok
      obtain ⟨ok, k7⟩ := ba2 ok
      obtain ⟨ok, k6⟩ := ba2 ok
      obtain ⟨ok, k5⟩ := ba2 ok
      obtain ⟨ok, k4⟩ := ba2 ok
      obtain ⟨ok, k3⟩ := ba2 ok
      obtain ⟨k1, k2⟩ := ba2 ok
      have k1 := of_decide_eq_true k1
      have k2 := of_decide_eq_true k2
      have k3 := of_decide_eq_true k3
      split at k5
      · rename_i a p1 p2 p3 h₀ hds p4 i p5 p6 eb
        obtain ⟨k5, j7⟩ := ba2 k5
        obtain ⟨k5, j6⟩ := ba2 k5
        obtain ⟨k5, j5⟩ := ba2 k5
        obtain ⟨k5, j4⟩ := ba2 k5
        obtain ⟨k5, j3⟩ := ba2 k5
        obtain ⟨j1, j2⟩ := ba2 k5
        have kd : p.d.dvs K = [] := by
          unfold He.DefD.dvs
          split at k4
          · rename_i e1 e2
            rw [e1]
            rfl
          · cases k4
        have bd := fun_nd FD kd j1
        have hk := FD.kp
        obtain ⟨oc, od, dV, kV, doc, pm, an, cdv, ct, osl, rfl, lk, hcd, hD, hK⟩ := FD.ex
        have ea : He.fAd K p.d.at_ = He.ga K p.F.name := by rw [k1]; rfl
        rw [ea] at lk hk
        rw [k2, k3, eb] at lk bd
        rw [k3] at hcd
        refine ⟨a, p.d.params, p.d.scope, p.N, h₀, hds, p.xs, i, p1, p2, p3, p4, p5, p6, glo q9, hk, ⟨dV, kV, doc, pm, cdv, ct, oc, an, od, osl, lk, hcd, bd⟩, scB_ok j2, of_decide_eq_true j3, vis_ok j4, fun Z e1 e2 e3 e4 => ?_, fun x bs hl => ?_, ?_, j6, j7⟩
        · exact hd_ok (Γ := t.Γ) (c := ⟨p.d.scope, p.N, fun _ => true, false⟩) (fun x n hm => by rw [e3]; exact xfs x n hm) (fun x hm => by rw [e2, e3]; exact cls x hm) e1 e4 j5
        · exact of_decide_eq_true (List.all_eq_true.mp k6 _ (look_mem hl))
        · exact fun x bs hl j c b e1 e2 => exm_okK exm (List.all_eq_true.mp k7 _ (look_mem hl)) j c b e1 e2
      · cases k5
    exc := fun j C flds e => by
      have q10 := List.all_eq_true.mp z10 _ (List.mem_of_getElem? e)
      rw [o.excs] at e
      obtain ⟨p, hp, ep⟩ := map_at e
      cases ep
      have ok := o.xc p hp
      obtain ⟨fd, FD⟩ := c.t.d.defs (d := p.d) (by unfold Txt.fn; exact List.mem_append_right _ (List.mem_append_right _ (List.mem_map_of_mem hp)))
      unfold XcT.ok at ok
      obtain ⟨ok, k8⟩ := ba2 ok
      obtain ⟨ok, k7⟩ := ba2 ok
      obtain ⟨ok, k6⟩ := ba2 ok
      obtain ⟨ok, k5⟩ := ba2 ok
      obtain ⟨ok, k4⟩ := ba2 ok
      obtain ⟨ok, k3⟩ := ba2 ok
      obtain ⟨k1, k2⟩ := ba2 ok
      have k1 := of_decide_eq_true k1
      unfold Txt.excB at q10
      obtain ⟨q10, q5⟩ := ba2 q10
      obtain ⟨q10, q4⟩ := ba2 q10
      obtain ⟨q10, q3⟩ := ba2 q10
      obtain ⟨q1, q2⟩ := ba2 q10
      have ea : He.fAd K p.d.at_ = He.ma K (He.ga K p.C) "__init__" := by rw [k1]; rfl
      rw [ea] at FD
      have kd : p.d.dvs K = [] ∧ p.d.kws K = [] := by
        unfold He.DefD.dvs He.DefD.kws
        split at k2
        · rename_i e1 e2
          rw [e1, e2]
          exact ⟨rfl, rfl⟩
        · cases k2
      have bd := fun_nd FD kd.1 k3
      rw [kd.1, kd.2] at FD
      exact ⟨glo q1, exc_ok (oexB_ok q2) (fun f hf => He.eqO_ok (List.all_eq_true.mp q3 _ hf)) FD (He.eqO_ok q4) (of_decide_eq_true q5) bd (scB_ok k4) k5 (by simpa using k6) (of_decide_eq_true k7) (of_decide_eq_true k8)⟩ }
end
end Pv

set_option maxHeartbeats 4000000
/-! Pv27: the end of a law. -/
namespace Pv
open PySem PySem.Spec PyProof.Rows L2 LamX
section
variable {Γ : Tx} {T : List (Addr × Str)} {P : Program} {w : World} {K : Frag} {mg : Str → Option Value} {base : Heap}
theorem fn_run (tx : TxOk Γ P w K mg base) {Os : List Orc} (os : OsOk Γ P w K mg base T Os) {F : FnI} {params : Arguments} {name : Str} {body : List Stmt} {scope : Scope} {lam : Bool} (F0 : FnT Γ K mg base T F params name body scope lam)
    {oc : Value} {od : Option Addr} {dV kV doc pm : Value} {an : Option Addr} {cdv ct : Value} {osl : Array (Option Value)} (lk : K.lookup (He.fAd K F.at_) = some ⟨oc, od, .func (PySem.W.fnOf name F.qual params body scope dV kV doc pm an cdv ct), osl⟩) (hcd : PySem.W.codeIn K cdv F.qual = true) :
    FnOk P w K mg base (CX P w) (2 * (Os.length + 1) + 1) (He.fAd K F.at_) (PySem.W.fnOf name F.qual params body scope dV kV doc pm an cdv ct) F.ps (Spf K T F.ps.length (runFn Γ Os F)) := by
  obtain ⟨_, _, _, _, _, _, _, cdv', _, _, lk', _, _, hlam⟩ := F0.ex
  have e := Option.some.inj (lk.symm.trans lk')
  injection e with e1 e2 e3 e4
  injection e3 with e5
  have ec : cdv = cdv' := congrArg FuncData.code e5
  subst ec
  refine fn_of (k := 2 * (Os.length + 1)) lk hcd F0.sc (fun vs H Q E ⟨m, S, ds, rp, rds, hl, po⟩ => by rw [rds.len]; exact hl) (fun A outer s H vs Q E hr ⟨m, S, ds, rp, rds, hl, po⟩ => ?_)
  refine ⟨_, sndSs F.body body (c := ⟨scope, F.N, fun _ => true, lam⟩) (Os := Os) (W := fun cls d _ H' => E cls d H') { g := { tx := tx, os := os, sc := rfl, N := rfl, fn := rfl, nd := F0.sc.nd, calm := rfl, tk := takes_of rfl rfl rfl rfl, room := hr, kind := F0.sc.kind, lam := fun z => ?_ }, hs := rfl, hf := rfl, hp := passes_of rfl, bk := ?_ } F0.chk, ?_⟩
  · obtain ⟨cd, pt, h1, h2, h3, h4⟩ := hlam z
    exact ⟨cd, pt, h1, h2, h3, h4⟩
  · show Env.blockKind (envOfC F.qual scope s.heap.objs.size (He.fAd K F.at_) cdv) = _
    unfold Env.blockKind
    have : (envOfC F.qual scope s.heap.objs.size (He.fAd K F.at_) cdv).scope.kind = .function := F0.sc.kind
    rw [this]
    rfl
  · refine ⟨m, _, S, rp, start_rv (N := F.N) rds, run_out ?_⟩
    unfold runFn at po
    rw [if_pos hl] at po
    exact po
theorem tabs_of {H : Hp} {T : List (Addr × Str)} (h : ∀ p ∈ T, H p.1 = some (.tbl #[])) : Tabs T H := fun p hp => TabS.nil (h p hp)
theorem rds_ints {K : Frag} {m : Mm} {H : Hp} : ∀ ns : List Int, RDs K m H (ns.map .int) (ns.map .int)
  | [] => by simp only [List.map_nil, RDs]
  | n :: ns => by
    simp only [List.map_cons, RDs, RD]
    exact ⟨_, _, rfl, rfl, rds_ints ns⟩
end
section
variable {t : Txt}
/-- the law: by what the evaluator gives -/
theorem law_at {l : PySem.W.OpenLaw} (o : t.Ok) {n k f : Nat} {F : FnI} {x : Str} (hf : t.Γ.fns[f]? = some F) (hps : F.ps = [x]) (hdv : F.dvs = [[]]) (hat : F.at_ = (("law" : Str), none))
    (plain : ∀ ns : List Int, ns.length ≤ n → (∀ z ∈ ns, Builtin.Int.intBits z ≤ 1048576) → ∃ S, hd (specs t.Γ (k + 1)) f [.rl (ns.map .int)] [] = .ok (.bl true) S)
    (w : World) (mg : Str → Option Value) (fa : Addr) (h : Heap) (Y : ∃ K : Frag, K.In h ∧ He.SaysX [] t.fn t.ts t.tf t.ex w h K) (G : h.Ns mainGlobals mg) (hfa : mg ("law" : Str) = some (.ref fa)) : ∃ K : Frag, K.In h ∧ LawAtS l w K (CX l.prog w) (2 * (k + 1) + 1) n x mg fa h := by
  obtain ⟨K, X, c⟩ := Y
  refine ⟨K, X, ?_⟩
  have hf2 := hf
  rw [o.fns] at hf2
  obtain ⟨p, hp, rfl⟩ := map_at hf2
  have ok := o.ds p hp
  unfold DfT.ok at ok
  obtain ⟨ok, k5⟩ := ba2 ok
  obtain ⟨ok, k4⟩ := ba2 ok
  obtain ⟨ok, k3⟩ := ba2 ok
  obtain ⟨k1, k2⟩ := ba2 ok
  have k1 := of_decide_eq_true k1
  have k2 := of_decide_eq_true k2
  obtain ⟨fd, FD⟩ := c.t.d.defs (d := p.d) (by unfold Txt.fn; exact List.mem_append_left _ (List.mem_map_of_mem hp))
  have fd1 : p.d.dvs K = [] ∧ plainPs p.F.ps p.d.params = true := by
    unfold dvsB at k5
    split at k5
    · rename_i e1 e2
      exact ⟨by unfold He.DefD.dvs; rw [e1]; rfl, (ba2 k5).1⟩
    · rw [hdv] at k5
      exact absurd (ba2 k5).2 (by intro z; cases z)
    · cases k5
  have eg : mg ("law" : Str) = some (.ref (He.ga K "law")) := (o.tx (P := l.prog) (base := h) X G c).fn f p.F ("law" : Str) hf hat
  have efa : He.fAd K p.F.at_ = fa := by
    rw [hat]
    have e := eg.symm.trans hfa
    cases e
    rfl
  have FD2 := FD
  obtain ⟨oc, od, dV, kV, doc, pm, an, cdv, ct, osl, rfl, lk, hcd, hD, hK⟩ := FD.ex
  have edV : dV = .none := by
    rcases hD with ⟨_, rfl⟩ | ⟨e, _⟩
    · rfl
    · exact absurd fd1.1 e
  refine ⟨PySem.W.fnOf p.d.name p.d.qual p.d.params p.d.body p.d.scope dV kV doc pm an cdv ct, t.tf.map (He.cT K), Spf K (t.T K) 1 (hd (specs t.Γ (k + 1)) f), fun q hq => ?_, fun q hq => ?_, fun q hq => ?_, fun s u => ?_, fun H a ns hl hb hT hS => ?_, fun base Xb Gb TB => ?_⟩
  · obtain ⟨z, hz, rfl⟩ := List.mem_map.mp hq
    exact c.empty z hz
  · obtain ⟨z, hz, rfl⟩ := List.mem_map.mp hq
    exact c.out z hz
  · obtain ⟨z, hz, rfl⟩ := List.mem_map.mp hq
    exact PySem.W.codeHd_of_K X (c.hd z hz)
  · have := bind_plain (fd := PySem.W.fnOf p.d.name p.d.qual p.d.params p.d.body p.d.scope dV kV doc pm an cdv ct) fd1.2 edV [u] (by rw [hps]; rfl)
    rw [hps] at this
    exact .of_eq this
  · obtain ⟨S, hS2⟩ := plain ns hl hb
    refine ⟨⟨[], []⟩, [], [.rl (ns.map .int)], ⟨rfl, List.nodup_nil, fun n o e => by simp at e, fun a z => by simp at z, tabs_of fun q hq => ?_⟩, ?_, rfl, ?_⟩
    · unfold Txt.T at hq
      obtain ⟨z, hz, rfl⟩ := List.mem_map.mp hq
      exact hT (He.cT K z.d.at_) (List.mem_map.mpr ⟨z.d.at_, List.mem_map_of_mem hz, rfl⟩)
    · simp only [RDs, RD]
      refine ⟨_, _, rfl, ⟨a, ns.map .int, rfl, ?_, ?_⟩, rfl⟩
      · rcases hS with (e | ⟨o, e⟩) | ⟨o, its, n, e1, e2, e3, e4, e5, e6⟩
        · exact .inl ⟨e, fun z => by rcases z with z | z <;> cases z⟩
        · exact .inr (.inl ⟨o, e, fun z => by rcases z with z | z <;> cases z⟩)
        · exact .inr (.inr ⟨o, its, n, e1, e2, e3, e4, e5, e6⟩)
      · exact rds_ints ns
    · rw [hS2]
      exact fun v m' H' g rp rd => by simp only [RD] at rd; exact rd
  · have tx := o.tx (P := l.prog) (base := base) Xb Gb c
    have hfn : ∀ (f : Nat) F, t.Γ.fns[f]? = some F → ∃ params name body scope lam, FnT t.Γ K mg base (t.T K) F params name body scope lam := fun f F e => o.fnT c TB e
    have os := os_ok tx hfn k
    have F0 := o.fnTp c TB hp
    have e : hd (specs t.Γ (k + 1)) f = runFn t.Γ (specs t.Γ k) p.F := by
      funext ds S
      show (match t.Γ.fns[f]? with
        | some F => runFn t.Γ (specs t.Γ k) F ds S
        | none => .stuck) = _
      rw [hf]
    have ef : He.fAd K p.F.at_ = He.fAd K p.d.at_ := by rw [k1]
    have key := fn_run tx os F0 (by rw [ef, k2]; exact lk) (by rw [k2]; exact hcd)
    rw [e]
    rw [specs_len, hps, efa, k2] at key
    exact key
end
end Pv

set_option maxHeartbeats 4000000
/-! Pl1: how the evaluator is run by simp; loops by what holds between two turns. -/
namespace Pv
open PySem PySem.Spec PyProof.Rows L2

section
variable {α β : Type} {Γ : Tx} {Os : List Orc} {ρ ρ' : Ev} {S S' : Hs}
/-- what simp is not to look into -/
inductive Tg' {X : Sort _} (f : X) : Type where
  | mk
def bn (f : α → Hs → R β) (r : R α) (_ : Tg' f) : R β := r.bind f
def tk (ρ : Ev) (f : α → Hs → SR) (r : R α) (_ : Tg' f) : SR := r.toS ρ f
def an (f : Ev → Hs → SR) (r : SR) (_ : Tg' f) : SR := r.andThen f
@[simp] theorem bind_ok {a : α} {f : α → Hs → R β} : bn f (R.ok a S) .mk = f a S := (rfl)
@[simp] theorem bind_exc {x : Str} {fs : List (Str × D)} {f : α → Hs → R β} : bn f (R.exc x fs S) .mk = .exc x fs S := (rfl)
@[simp] theorem bind_stuck {f : α → Hs → R β} : bn f (R.stuck) .mk = .stuck := (rfl)
@[simp] theorem toS_ok {a : α} {f : α → Hs → SR} : tk ρ f (R.ok a S) .mk = f a S := (rfl)
@[simp] theorem toS_exc {x : Str} {fs : List (Str × D)} {f : α → Hs → SR} : tk ρ f (R.exc x fs S) .mk = .exc x fs ρ S := (rfl)
@[simp] theorem toS_stuck {f : α → Hs → SR} : tk ρ f (R.stuck) .mk = .stuck := (rfl)
@[simp] theorem andThen_nx {f : Ev → Hs → SR} : an f (SR.nx ρ S) .mk = f ρ S := (rfl)
@[simp] theorem andThen_rt {d : D} {f : Ev → Hs → SR} : an f (SR.rt d S) .mk = .rt d S := (rfl)
@[simp] theorem andThen_bk {f : Ev → Hs → SR} : an f (SR.bk ρ S) .mk = .bk ρ S := (rfl)
@[simp] theorem andThen_ct {f : Ev → Hs → SR} : an f (SR.ct ρ S) .mk = .ct ρ S := (rfl)
@[simp] theorem andThen_exc {x : Str} {fs : List (Str × D)} {f : Ev → Hs → SR} : an f (SR.exc x fs ρ S) .mk = .exc x fs ρ S := (rfl)
@[simp] theorem andThen_stuck {f : Ev → Hs → SR} : an f (SR.stuck) .mk = .stuck := (rfl)
@[simp] theorem outR_nx : outR (.nx ρ S) = .ok .non S := (rfl)
@[simp] theorem outR_rt {d : D} : outR (.rt d S) = .ok d S := (rfl)
@[simp] theorem outR_exc {x : Str} {fs : List (Str × D)} : outR (.exc x fs ρ S) = .exc x fs S := (rfl)
@[simp] theorem nox_ok {a : α} : (R.ok a S).nox = .ok a S := (rfl)
theorem hd_fnP {k f : Nat} {F : FnI} {ds : List D} (h : Γ.fns[f]? = some F) : hd (specs Γ (k + 1)) f ds S = runFn Γ (specs Γ k) F ds S := by
  show (match Γ.fns[f]? with
    | some F => runFn Γ (specs Γ k) F ds S
    | none => .stuck) = _
  rw [h]
/-- a def's run by its body -/
theorem hd_at {n f : Nat} {F : FnI} {ds : List D} {r : R D} (hn : 1 ≤ n) (h : Γ.fns[f]? = some F) (e : runFn Γ (specs Γ (n - 1)) F ds S = r) : hd (specs Γ n) f ds S = r := by
  obtain ⟨k, rfl⟩ : ∃ k, n = k + 1 := ⟨n - 1, by omega⟩
  rw [hd_fnP h]
  exact e
end

/-! ### the equations of the evaluator -/
section
variable {Γ : Tx} {Os : List Orc} {ρ : Ev} {S : Hs}
@[simp ↓] theorem ev_var {i : Nat} : ev Γ Os (.var i) ρ S = match ρ[i]? with
    | some (some d) => .ok d S
    | _ => .stuck := (rfl)
@[simp ↓] theorem ev_non : ev Γ Os .non ρ S = .ok .non S := (rfl)
@[simp ↓] theorem ev_bl {b : Bool} : ev Γ Os (.bl b) ρ S = .ok (.bl b) S := (rfl)
@[simp ↓] theorem ev_int {i : Int} : ev Γ Os (.int i) ρ S = .ok (.int i) S := (rfl)
@[simp ↓] theorem ev_str {x : Str} : ev Γ Os (.str x) ρ S = .ok (.str x) S := (rfl)
theorem ev_glb {j : Nat} {x : Str} {d : D} (h : Γ.glbs[j]? = some (x, d)) : ev Γ Os (.glb j) ρ S = .ok d S := by
  show (match Γ.glbs[j]? with
    | some (_, d) => fun _ S => .ok d S
    | none => fun _ _ => .stuck : Ev → Hs → R D) ρ S = _
  rw [h]
@[simp ↓] theorem ev_ty {n : String} : ev Γ Os (.ty n) ρ S = .ok (.ty n) S := (rfl)
@[simp ↓] theorem ev_bin {op : BOp} {a b : Ex} : ev Γ Os (.bin op a b) ρ S = bn (fun x S1 => bn (fun y S2 => bopG op x y S2) (ev Γ Os b ρ S1) .mk) (ev Γ Os a ρ S) .mk := (rfl)
@[simp ↓] theorem ev_neg {a : Ex} : ev Γ Os (.neg a) ρ S = bn (gNeg) (ev Γ Os a ρ S) .mk := (rfl)
@[simp ↓] theorem ev_cmp {op : COp} {a b : Ex} : ev Γ Os (.cmp op a b) ρ S = bn (fun x S1 => bn (fun y S2 => copG op x y S2) (ev Γ Os b ρ S1) .mk) (ev Γ Os a ρ S) .mk := (rfl)
@[simp ↓] theorem ev_chn {op op' : COp} {a b c : Ex} : ev Γ Os (.chn op op' a b c) ρ S = bn (fun x S1 => bn (fun y S2 => bn (fun z S3 => bn (fun b S4 => if b = true then bn (fun w S5 => copG op' y w S5) (ev Γ Os c ρ S4) .mk else .ok (.bl false) S4) (toB z S3) .mk) (copG op x y S2) .mk) (ev Γ Os b ρ S1) .mk) (ev Γ Os a ρ S) .mk := (rfl)
@[simp ↓] theorem ev_and {a b : Ex} : ev Γ Os (.and a b) ρ S = bn (fun c S1 => if c = true then ev Γ Os b ρ S1 else .ok (.bl false) S1) (bn (toB) (ev Γ Os a ρ S) .mk) .mk := (rfl)
@[simp ↓] theorem ev_or {a b : Ex} : ev Γ Os (.or a b) ρ S = bn (fun c S1 => if c = true then .ok (.bl true) S1 else ev Γ Os b ρ S1) (bn (toB) (ev Γ Os a ρ S) .mk) .mk := (rfl)
@[simp ↓] theorem ev_one {a : Ex} : ev Γ Os (.one a) ρ S = ev Γ Os a ρ S := (rfl)
@[simp ↓] theorem ev_not {a : Ex} : ev Γ Os (.not a) ρ S = bn (fun c S1 => .ok (.bl (!c)) S1) (bn (toB) (ev Γ Os a ρ S) .mk) .mk := (rfl)
@[simp ↓] theorem ev_ite {c a b : Ex} : ev Γ Os (.ite c a b) ρ S = bn (fun d S1 => if d = true then ev Γ Os a ρ S1 else ev Γ Os b ρ S1) (bn (toB) (ev Γ Os c ρ S) .mk) .mk := (rfl)
@[simp ↓] theorem ev_tup {es : Exs} : ev Γ Os (.tup false es) ρ S = bn (fun xs S1 => if xs.length ≤ sizeLine then .ok (.tup xs) S1 else .stuck) (evs Γ Os es ρ S) .mk := (rfl)
@[simp ↓] theorem ev_tpx {es : Exs} : ev Γ Os (.tup true es) ρ S = bn (fun xs S1 => if xs.length ≤ sizeLine then .ok (.tpx xs) S1 else .stuck) (evs Γ Os es ρ S) .mk := (rfl)
@[simp ↓] theorem ev_lst {mt : Bool} {es : Exs} : ev Γ Os (.lst mt es) ρ S = bn (fun xs S1 => if xs.length ≤ sizeLine then nwl mt xs S1 else .stuck) (evs Γ Os es ρ S) .mk := (rfl)
@[simp] theorem nwl_t {xs : List D} : nwl true xs S = .ok (.ref S.length) (S ++ [.lst xs]) := (rfl)
@[simp] theorem nwl_f {xs : List D} : nwl false xs S = .ok (.lv xs) S := (rfl)
theorem mVals_evl : ∀ {es : Exs}, mVals (evl Γ Os es) = evs Γ Os es
  | .nil => rfl
  | .cons e es => by show mConsA _ _ = mConsA _ _; rw [mVals_evl (es := es)]
@[simp ↓] theorem ev_dic {mt : Bool} {ks : List Str} {es : Exs} : ev Γ Os (.dic mt ks es) ρ S = bn (fun ds S1 => nwd mt (ks.map Sum.inr) ds S1) (evs Γ Os es ρ S) .mk := by
  rw [← mVals_evl]
  rfl
@[simp] theorem nwd_t {ks : List Key} {ds : List D} : nwd true ks ds S = .ok (.ref S.length) (S ++ [.dk ks ds]) := (rfl)
@[simp] theorem nwd_f {ks : List Key} {ds : List D} : nwd false ks ds S = .ok (.dv ks ds) S := (rfl)
@[simp ↓] theorem ev_idx {a b : Ex} : ev Γ Os (.idx a b) ρ S = bn (fun x S1 => bn (fun y S2 => gIdx x y S2) (ev Γ Os b ρ S1) .mk) (ev Γ Os a ρ S) .mk := (rfl)
theorem ev_tab {j : Nat} {a : Ex} {x : Str} {kvs : List (Str × D)} (h : Γ.tabs[j]? = some (x, kvs)) : ev Γ Os (.tab j a) ρ S = bn ((gTab kvs)) (ev Γ Os a ρ S) .mk := by
  show (match Γ.tabs[j]? with
    | some (_, kvs) => fun ρ S => (ev Γ Os a ρ S).bind (gTab kvs)
    | none => fun _ _ => .stuck : Ev → Hs → R D) ρ S = _
  rw [h]
  rfl
theorem ev_itb {ng : Bool} {j : Nat} {a : Ex} {x : Str} {kvs : List (Str × D)} (h : Γ.tabs[j]? = some (x, kvs)) : ev Γ Os (.itb ng j a) ρ S = bn ((gInTab ng kvs)) (ev Γ Os a ρ S) .mk := by
  show (match Γ.tabs[j]? with
    | some (_, kvs) => fun ρ S => (ev Γ Os a ρ S).bind (gInTab ng kvs)
    | none => fun _ _ => .stuck : Ev → Hs → R D) ρ S = _
  rw [h]
  rfl
@[simp ↓] theorem ev_sl {mt : Bool} {a : Ex} {lo hi : Ox} : ev Γ Os (.sl mt a lo hi) ρ S = bn (fun x S1 => bn (fun l S2 => bn (fun h S3 => gSl mt x l h S3) (partE (evo Γ Os hi) ρ S2) .mk) (partE (evo Γ Os lo) ρ S1) .mk) (ev Γ Os a ρ S) .mk := (rfl)
@[simp ↓] theorem part_no : partE (evo Γ Os .no) ρ S = .ok none S := (rfl)
@[simp ↓] theorem part_some {e : Ex} : partE (evo Γ Os (.some e)) ρ S = bn (fun d S1 => match d with
    | .int i => .ok (some i) S1
    | _ => .stuck) (ev Γ Os e ρ S) .mk := (rfl)
@[simp ↓] theorem ev_fld {Cs : List Str} {f : Str} {a : Ex} : ev Γ Os (.fld Cs f a) ρ S = bn (fun x S1 => match iOf S1 x with
  | some (_, C, fs) => if C ∈ Cs then oR (fs.lookup f) S1 else .stuck
  | none => .stuck) (ev Γ Os a ρ S) .mk := (rfl)
theorem ev_cal {f k : Nat} {es : Exs} {dv : List D} (h : dvOf Γ f k = dv) : ev Γ Os (.cal f k es) ρ S = bn (fun xs S1 => hd Os f (xs ++ dv) S1) (evs Γ Os es ρ S) .mk := by rw [← h]; rfl
theorem ev_cal0 {f k : Nat} {es : Exs} (h : dvOf Γ f k = []) : ev Γ Os (.cal f k es) ρ S = bn (fun xs S1 => hd Os f xs S1) (evs Γ Os es ρ S) .mk := by
  rw [ev_cal h]
  show R.bind _ _ = R.bind _ _
  simp only [bn, List.append_nil]
theorem ev_met {f k : Nat} {a : Ex} {es : Exs} {F : FnI} {C m : Str} {dv : List D} (h : Γ.fns[f]? = some F) (h2 : F.at_ = (C, some m)) (h3 : dvOf Γ f k = dv) : ev Γ Os (.met f k a es) ρ S = bn (fun x S1 => match iOf S1 x with
  | some (_, C', fl) => if C' = C ∧ fl.lookup m = none then bn (fun xs S2 => hd Os f ((x :: xs) ++ dv) S2) (evs Γ Os es ρ S1) .mk else .stuck
  | none => .stuck) (ev Γ Os a ρ S) .mk := by
  obtain ⟨at_, q, ps, N, b, dv'⟩ := F
  cases h2
  subst h3
  show (match Γ.fns[f]? with
    | some ⟨(C, some m), _, _, _, _, _⟩ => mMeth C m (hd Os f) (dvOf Γ f k) (ev Γ Os a) (evs Γ Os es)
    | _ => fun _ _ => .stuck) ρ S = _
  rw [h]
  rfl
theorem ev_met0 {f k : Nat} {a : Ex} {es : Exs} {F : FnI} {C m : Str} (h : Γ.fns[f]? = some F) (h2 : F.at_ = (C, some m)) (h3 : dvOf Γ f k = []) : ev Γ Os (.met f k a es) ρ S = bn (fun x S1 => match iOf S1 x with
  | some (_, C', fl) => if C' = C ∧ fl.lookup m = none then bn (fun xs S2 => hd Os f (x :: xs) S2) (evs Γ Os es ρ S1) .mk else .stuck
  | none => .stuck) (ev Γ Os a ρ S) .mk := by
  rw [ev_met h h2 h3]
  simp only [bn, List.append_nil]
theorem ev_mk {f k : Nat} {es : Exs} {F : FnI} {C m : Str} {dv : List D} (h : Γ.fns[f]? = some F) (h2 : F.at_ = (C, some m)) (h3 : dvOf Γ f k = dv) : ev Γ Os (.mk f k es) ρ S = bn (fun xs S1 => bn (fun r S2 => match r with
  | .non => .ok (.ref S1.length) S2
  | _ => .stuck) (hd Os f ((.ref S1.length :: xs) ++ dv) (S1 ++ [.ins C []])) .mk) (evs Γ Os es ρ S) .mk := by
  obtain ⟨at_, q, ps, N, b, dv'⟩ := F
  cases h2
  subst h3
  show (match Γ.fns[f]? with
    | some ⟨(C, some _), _, _, _, _, _⟩ => mMk C (hd Os f) (dvOf Γ f k) (evs Γ Os es)
    | _ => fun _ _ => .stuck) ρ S = _
  rw [h]
  rfl
theorem ev_mk0 {f k : Nat} {es : Exs} {F : FnI} {C m : Str} (h : Γ.fns[f]? = some F) (h2 : F.at_ = (C, some m)) (h3 : dvOf Γ f k = []) : ev Γ Os (.mk f k es) ρ S = bn (fun xs S1 => bn (fun r S2 => match r with
  | .non => .ok (.ref S1.length) S2
  | _ => .stuck) (hd Os f (.ref S1.length :: xs) (S1 ++ [.ins C []])) .mk) (evs Γ Os es ρ S) .mk := by
  rw [ev_mk h h2 h3]
  simp only [bn, List.append_nil]
@[simp ↓] theorem ev_blt {b : Blt} {es : Exs} : ev Γ Os (.blt b es) ρ S = bn ((bltG b)) (evs Γ Os es ρ S) .mk := (rfl)
@[simp ↓] theorem ev_bmt {m : Bmt} {a : Ex} {es : Exs} : ev Γ Os (.bmt m a es) ρ S = bn (fun x S1 => if tyM S1 x = some (bmtT m) then bn (fun xs S2 => bmtG m x xs S2) (evs Γ Os es ρ S1) .mk else .stuck) (ev Γ Os a ρ S) .mk := (rfl)
@[simp ↓] theorem ev_sset {mt : Bool} {a : Ex} : ev Γ Os (.sset mt a) ρ S = bn ((gSset mt)) (ev Γ Os a ρ S) .mk := (rfl)
@[simp ↓] theorem ev_rev {mt : Bool} {a : Ex} : ev Γ Os (.rev mt a) ρ S = bn ((gRev mt)) (ev Γ Os a ρ S) .mk := (rfl)
theorem ev_lc {mt : Bool} {vs : List Nat} {tg : Tg} {it : Ix} {c : Ox} {e : Ex} : ev Γ Os (.lc mt vs tg it c e) ρ S = bn (fun src S1 => bn (fun acc S2 => nwl mt acc S2) (cGo src tg (evo Γ Os c) (ev Γ Os e) (wipeE ρ vs) (fuelOf S1 src) 0 [] S1) .mk) (evi Γ Os it ρ S) .mk := rfl
theorem ev_lam {j : Nat} {e : Ex} {F : FltI} (h : Γ.flts[j]? = some F) : ev Γ Os (.lam j e) ρ S = if Os.length = 0 then .stuck else specF F.cs F.tb (ev Γ Os.tail e ρ) S := by
  show (match Γ.flts[j]? with
    | some F => fun ρ S => if Os.length = 0 then .stuck else specF F.cs F.tb (ev Γ Os.tail e ρ) S
    | none => fun _ _ => .stuck : Ev → Hs → R D) ρ S = _
  rw [h]
@[simp ↓] theorem evs_nil : evs Γ Os .nil ρ S = .ok [] S := (rfl)
@[simp ↓] theorem evs_cons {e : Ex} {es : Exs} : evs Γ Os (.cons e es) ρ S = bn (fun x S1 => bn (fun xs S2 => .ok (x :: xs) S2) (evs Γ Os es ρ S1) .mk) (ev Γ Os e ρ S) .mk := (rfl)
@[simp ↓] theorem evi_ex {e : Ex} : evi Γ Os (.ex e) ρ S = bn (gSrc) (ev Γ Os e ρ S) .mk := (rfl)
@[simp ↓] theorem evi_rng1 {e : Ex} : evi Γ Os (.rng (.cons e .nil)) ρ S = bn (fun ds S1 => if ds.length = 1 then gRng ds S1 else .stuck) (evs Γ Os (.cons e .nil) ρ S) .mk := (rfl)
@[simp ↓] theorem evi_rng2 {e e' : Ex} : evi Γ Os (.rng (.cons e (.cons e' .nil))) ρ S = bn (fun ds S1 => if ds.length = 2 then gRng ds S1 else .stuck) (evs Γ Os (.cons e (.cons e' .nil)) ρ S) .mk := (rfl)
@[simp ↓] theorem evi_zip {es : Exs} : evi Γ Os (.zip es) ρ S = bn (gZip) (evs Γ Os es ρ S) .mk := (rfl)
@[simp ↓] theorem evi_en {es : Exs} : evi Γ Os (.en es) ρ S = bn (gEnum) (evs Γ Os es ρ S) .mk := (rfl)
@[simp ↓] theorem svs_nil : svs Γ Os .nil ρ S = .nx ρ S := (rfl)
@[simp ↓] theorem svs_cons {s : St} {ss : Sts} : svs Γ Os (.cons s ss) ρ S = an ((svs Γ Os ss)) (sv Γ Os s ρ S) .mk := (rfl)
@[simp ↓] theorem sv_exp {e : Ex} : sv Γ Os (.exp e) ρ S = tk ρ (fun _ S1 => .nx ρ S1) (ev Γ Os e ρ S) .mk := (rfl)
@[simp ↓] theorem sv_doc : sv Γ Os .doc ρ S = .nx ρ S := (rfl)
@[simp ↓] theorem sv_ret {e : Ex} : sv Γ Os (.ret e) ρ S = tk ρ (fun d S1 => .rt d S1) (ev Γ Os e ρ S) .mk := (rfl)
@[simp ↓] theorem sv_retN : sv Γ Os .retN ρ S = .rt .non S := (rfl)
@[simp ↓] theorem sv_pass : sv Γ Os .pass ρ S = .nx ρ S := (rfl)
@[simp ↓] theorem sv_brk : sv Γ Os .brk ρ S = .bk ρ S := (rfl)
@[simp ↓] theorem sv_cnt : sv Γ Os .cnt ρ S = .ct ρ S := (rfl)
@[simp ↓] theorem sv_ife {c : Ex} {a b : Sts} : sv Γ Os (.ife c a b) ρ S = tk ρ (fun d S1 => if d = true then svs Γ Os a ρ S1 else svs Γ Os b ρ S1) (bn (toB) (ev Γ Os c ρ S) .mk) .mk := (rfl)
@[simp ↓] theorem sv_asg {i : Nat} {e : Ex} : sv Γ Os (.asg i e) ρ S = tk ρ (fun d S1 => .nx (ρ.set i (some d)) S1) (ev Γ Os e ρ S) .mk := (rfl)
@[simp ↓] theorem sv_asgC {i : Nat} {e : Ex} : sv Γ Os (.asgC i e) ρ S = tk ρ (fun d S1 => .nx (ρ.set i (some d)) S1) (ev Γ Os e ρ S) .mk := (rfl)
@[simp ↓] theorem sv_asgT {is : List Nat} {e : Ex} : sv Γ Os (.asgT is e) ρ S = tk ρ (fun d S1 => match sOf S1 d with
  | .t ds => nxO (sets ρ is ds) S1
  | .l ds => nxO (sets ρ is ds) S1
  | .no => .stuck) (ev Γ Os e ρ S) .mk := (rfl)
@[simp ↓] theorem sv_par {is : List Nat} {es : Exs} : sv Γ Os (.par is es) ρ S = tk ρ (fun ds S1 => nxO (sets ρ is ds) S1) (evs Γ Os es ρ S) .mk := (rfl)
@[simp ↓] theorem sv_aug {i : Nat} {op : BOp} {e : Ex} : sv Γ Os (.aug i op e) ρ S = match ρ[i]? with
  | some (some x) => tk ρ (fun y S1 => tk ρ (fun z S2 => .nx (ρ.set i (some z)) S2) (gAug op x y S1) .mk) (ev Γ Os e ρ S) .mk
  | _ => .stuck := (rfl)
@[simp ↓] theorem sv_fld {C f : Str} {o e : Ex} : sv Γ Os (.fld C f o e) ρ S = tk ρ (fun y S1 => tk ρ (fun x S2 => match iOf S2 x with
  | some (n, C', fl) => if C' = C ∧ fl.length < 1000 then .nx ρ (S2.set n (.ins C (putD f y fl))) else .stuck
  | none => .stuck) (ev Γ Os o ρ S1) .mk) (ev Γ Os e ρ S) .mk := (rfl)
@[simp ↓] theorem sv_flda {C f : Str} {op : BOp} {o e : Ex} : sv Γ Os (.flda C f op o e) ρ S = tk ρ (fun x S1 => match iOf S1 x with
  | some (n, C', fl) => if C' = C then match fl.lookup f with
      | some v => tk ρ (fun y S2 => tk ρ (fun z S3 => match iOf S3 x with
        | some (n', C'', fl') => if C'' = C ∧ n' = n ∧ fl'.length < 1000 then .nx ρ (S3.set n (.ins C (putD f z fl'))) else .stuck
        | none => .stuck) (gAug op v y S2) .mk) (ev Γ Os e ρ S1) .mk
      | none => .stuck
    else .stuck
  | none => .stuck) (ev Γ Os o ρ S) .mk := (rfl)
@[simp ↓] theorem sv_sub {o i e : Ex} : sv Γ Os (.sub o i e) ρ S = tk ρ (fun v S1 => tk ρ (fun o S2 => tk ρ (fun i S3 => match gPutI o i v S3 with
  | some S4 => .nx ρ S4
  | none => .stuck) (ev Γ Os i ρ S2) .mk) (ev Γ Os o ρ S1) .mk) (ev Γ Os e ρ S) .mk := (rfl)
theorem sv_for {tg : Tg} {it : Ix} {b : Sts} : sv Γ Os (.for_ tg it b) ρ S = tk ρ (fun src S1 => forGo src tg (svs Γ Os b) (fuelOf S1 src) 0 ρ S1) (evi Γ Os it ρ S) .mk := rfl
theorem sv_whl {n : Nat} {c : Ex} {b : Sts} : sv Γ Os (.whl n c b) ρ S = whGo (ev Γ Os c) (svs Γ Os b) n ρ S := rfl
theorem sv_rai {j : Nat} {es : Exs} {C : Str} {flds : List Str} (h : Γ.excs[j]? = some (C, flds)) : sv Γ Os (.rai j es) ρ S = tk ρ (fun xs S1 => if xs.length = flds.length then .exc C (flds.zip xs).reverse ρ S1 else .stuck) (evs Γ Os es ρ S) .mk := by
  show (match Γ.excs[j]? with
    | some (C, flds) => sRai C flds (evs Γ Os es)
    | none => fun _ _ => .stuck) ρ S = _
  rw [h]
  rfl
@[simp ↓] theorem sv_try {b : Sts} {cs : List Cl} {tb : List (Str × List Bool)} : sv Γ Os (.try_ b cs tb) ρ S = catchS cs tb (svs Γ Os b ρ S) := (rfl)
@[simp] theorem catch_nx {cs : List Cl} {tb : List (Str × List Bool)} : catchS cs tb (.nx ρ S) = .nx ρ S := (rfl)
@[simp] theorem catch_rt {cs : List Cl} {tb : List (Str × List Bool)} {d : D} : catchS cs tb (.rt d S) = .rt d S := (rfl)
end
section
variable {S : Hs}
@[simp] theorem toB_bl {b : Bool} : toB (.bl b) S = .ok b S := (rfl)
@[simp] theorem gAdd_int {i j : Int} : bopG .add (.int i) (.int j) S = .ok (.int (i + j)) S := (rfl)
@[simp] theorem gSub_int {i j : Int} : bopG .sub (.int i) (.int j) S = .ok (.int (i - j)) S := (rfl)
@[simp] theorem gNeg_int {i : Int} : gNeg (.int i) S = .ok (.int (-i)) S := (rfl)
theorem gMul_int {i j : Int} (h : (-(2 ^ 64) < i ∧ i < 2 ^ 64) ∨ (-(2 ^ 64) < j ∧ j < 2 ^ 64)) : bopG .mul (.int i) (.int j) S = .ok (.int (i * j)) S := if_pos (decide_eq_true h)
theorem gFdiv_int {i j : Int} (h : j ≠ 0 ∧ j.natAbs < 1073741824) : bopG .fdiv (.int i) (.int j) S = .ok (.int (i.fdiv j)) S := if_pos (decide_eq_true h)
theorem gMod_int {i j : Int} (h : j ≠ 0) : bopG .mod (.int i) (.int j) S = .ok (.int (i.fmod j)) S := if_pos (decide_eq_true h)
theorem gPow_int {i j : Int} (h : 0 ≤ j ∧ j ≤ 1000000 ∧ i.natAbs < 2 ^ 64) : bopG .pow (.int i) (.int j) S = .ok (.int (i ^ j.toNat)) S := if_pos (decide_eq_true h)
@[simp] theorem gFdiv_256 {i : Int} : bopG .fdiv (.int i) (.int 256) S = .ok (.int (i.fdiv 256)) S := gFdiv_int (by decide)
@[simp] theorem gFdiv_65536 {i : Int} : bopG .fdiv (.int i) (.int 65536) S = .ok (.int (i.fdiv 65536)) S := gFdiv_int (by decide)
@[simp] theorem gMod_256 {i : Int} : bopG .mod (.int i) (.int 256) S = .ok (.int (i.fmod 256)) S := gMod_int (by decide)
@[simp] theorem gMod_65536 {i : Int} : bopG .mod (.int i) (.int 65536) S = .ok (.int (i.fmod 65536)) S := gMod_int (by decide)
@[simp] theorem gMul_256 {i : Int} : bopG .mul (.int i) (.int 256) S = .ok (.int (i * 256)) S := gMul_int (.inr (by decide))
@[simp] theorem gLt_int {i j : Int} : copG .lt (.int i) (.int j) S = .ok (.bl (decide (i < j))) S := (rfl)
@[simp] theorem gLe_int {i j : Int} : copG .le (.int i) (.int j) S = .ok (.bl (decide (i ≤ j))) S := (rfl)
@[simp] theorem gGt_int {i j : Int} : copG .gt (.int i) (.int j) S = .ok (.bl (decide (j < i))) S := (rfl)
@[simp] theorem gGe_int {i j : Int} : copG .ge (.int i) (.int j) S = .ok (.bl (decide (j ≤ i))) S := (rfl)
@[simp] theorem gEq_int {i j : Int} : copG .eq (.int i) (.int j) S = .ok (.bl (i == j)) S := (rfl)
@[simp] theorem gNe_int {i j : Int} : copG .ne (.int i) (.int j) S = .ok (.bl (!(i == j))) S := (rfl)
@[simp] theorem gEq_str {i j : Str} : copG .eq (.str i) (.str j) S = .ok (.bl (i == j)) S := (rfl)
@[simp] theorem gNe_str {i j : Str} : copG .ne (.str i) (.str j) S = .ok (.bl (!(i == j))) S := (rfl)
@[simp] theorem gEq_bl {i j : Bool} : copG .eq (.bl i) (.bl j) S = .ok (.bl (i == j)) S := (rfl)
@[simp] theorem gNe_bl {i j : Bool} : copG .ne (.bl i) (.bl j) S = .ok (.bl (!(i == j))) S := (rfl)
@[simp] theorem gIs_non {x : D} : copG .is_ x .non S = .ok (.bl (isNo x)) S := by show (R.ok (.bl (if false = true then _ else _)) S : R D) = _; rfl
@[simp] theorem gIsn_non {x : D} : copG .isn x .non S = .ok (.bl (!isNo x)) S := (rfl)
@[simp] theorem gIs_bl {x : D} {b : Bool} : copG .is_ x (.bl b) S = .ok (.bl (isBo b x)) S := (rfl)
@[simp] theorem gIsn_bl {x : D} {b : Bool} : copG .isn x (.bl b) S = .ok (.bl (!isBo b x)) S := (rfl)
@[simp] theorem len_tup {xs : List D} : bltG .len [.tup xs] S = .ok (.int xs.length) S := (rfl)
@[simp] theorem len_tpx {xs : List D} : bltG .len [.tpx xs] S = .ok (.int xs.length) S := (rfl)
@[simp] theorem len_lv {xs : List D} : bltG .len [.lv xs] S = .ok (.int xs.length) S := (rfl)
@[simp] theorem len_rl {xs : List D} : bltG .len [.rl xs] S = .ok (.int xs.length) S := (rfl)
theorem len_str {z : Str} (h : z.length ≤ sizeLine) : bltG .len [.str z] S = .ok (.int z.length) S := if_pos h
theorem len_ref {n : Nat} {xs : List D} (h : S[n]? = some (.lst xs)) : bltG .len [.ref n] S = .ok (.int xs.length) S := by
  show gLen [.ref n] S = _
  simp only [gLen, sOf, h]
@[simp] theorem min_int {i j : Int} : bltG .min [.int i, .int j] S = .ok (.int (if j < i then j else i)) S := (rfl)
@[simp] theorem max_int {i j : Int} : bltG .max [.int i, .int j] S = .ok (.int (if j > i then j else i)) S := (rfl)
@[simp] theorem int_int {i : Int} : bltG .int [.int i] S = .ok (.int i) S := (rfl)
@[simp] theorem tupl_lv {xs : List D} : bltG (.tupl false) [.lv xs] S = .ok (.tup xs) S := (rfl)
@[simp] theorem tupx_lv {xs : List D} : bltG (.tupl true) [.lv xs] S = .ok (.tpx xs) S := (rfl)
@[simp] theorem tupl_tup {xs : List D} : bltG (.tupl false) [.tup xs] S = .ok (.tup xs) S := (rfl)
@[simp] theorem tupl_tpx {xs : List D} : bltG (.tupl false) [.tpx xs] S = .ok (.tup xs) S := (rfl)
theorem tupl_ref {n : Nat} {xs : List D} (h : S[n]? = some (.lst xs)) : bltG (.tupl false) [.ref n] S = .ok (.tup xs) S := by
  show gTuple false [.ref n] S = _
  simp only [gTuple, sOf, h]
  rfl
@[simp] theorem list_tup {mt : Bool} {xs : List D} : bltG (.list mt) [.tup xs] S = nwl mt xs S := (rfl)
@[simp] theorem list_tpx {mt : Bool} {xs : List D} : bltG (.list mt) [.tpx xs] S = nwl mt xs S := (rfl)
@[simp] theorem list_lv {mt : Bool} {xs : List D} : bltG (.list mt) [.lv xs] S = nwl mt xs S := (rfl)
@[simp] theorem list_rl {mt : Bool} {xs : List D} : bltG (.list mt) [.rl xs] S = nwl mt xs S := (rfl)
end
end Pv

set_option maxHeartbeats 4000000
/-! K71d: printed by gen.py: the law's program as data. -/
namespace K71
open PySem PySem.Spec PyProof.Rows L2 Pv
abbrev i_law : Nat := 0
abbrev i_image_read : Nat := 1
abbrev i_image_of : Nat := 2
abbrev i__law_equal : Nat := 3
abbrev i_is_image : Nat := 4
abbrev i_sum_of : Nat := 5
abbrev i__law_pick : Nat := 6
abbrev i__law_same : Nat := 7
abbrev i__law_sum : Nat := 8
abbrev i__law_draw : Nat := 9
abbrev i__law_wrong_at : Nat := 10
abbrev i__law_bent : Nat := 11
abbrev i__law_image : Nat := 12
abbrev i__law_some_code : Nat := 13
abbrev i__law_pen : Nat := 14
abbrev i_loader_of : Nat := 15
abbrev i_pair_of : Nat := 16
abbrev i_sum_over : Nat := 17
abbrev i_row_bytes : Nat := 18
abbrev i_name_bytes : Nat := 19
abbrev i_moments_of : Nat := 20
abbrev i_are_bytes : Nat := 21
abbrev i__law_number : Nat := 22
abbrev i__law_read_names : Nat := 23
abbrev i__law_pair : Nat := 24
abbrev i__law_sign : Nat := 25
abbrev i_Loader_read : Nat := 26
abbrev i_Loader_init : Nat := 27
abbrev i_triple_of : Nat := 28
abbrev i_need_code : Nat := 29
abbrev i_is_listed : Nat := 30
abbrev i_is_whole : Nat := 31
abbrev i__law_is_path : Nat := 32
abbrev i_Loader_read_end : Nat := 33
abbrev i_Loader_read_row : Nat := 34
abbrev i_Loader_read_name : Nat := 35
abbrev i_Loader_read_head : Nat := 36
abbrev i_is_code : Nat := 37
abbrev i__law_is_name : Nat := 38
abbrev i__law_is_digits : Nat := 39
abbrev i_Loader_refuse : Nat := 40
abbrev i_Loader_number : Nat := 41
abbrev i_Loader_read_part : Nat := 42
abbrev i_Loader_take : Nat := 43
abbrev i_is_path : Nat := 44
abbrev i_is_row : Nat := 45
abbrev i_is_plain_name : Nat := 46
abbrev i_is_numeral : Nat := 47
abbrev i_is_part : Nat := 48
abbrev j_HEAD : Nat := 0
abbrev j_WIDE : Nat := 1
abbrev j_FACTOR : Nat := 2
abbrev j_PRIME : Nat := 3
abbrev j_KINDS : Nat := 4
abbrev j_NUMBERS : Nat := 5
abbrev j_SIGNS : Nat := 6
abbrev j_LAST_WORDS : Nat := 7
abbrev j_MOST_SIGNS : Nat := 8
abbrev j_MOST_AT : Nat := 9
abbrev j_MOST_NUMBER : Nat := 10
abbrev j_LONGEST_PATH : Nat := 11
abbrev j_LETTERS : Nat := 12
abbrev j_FIGURES : Nat := 13
abbrev j_LONGEST_NAME : Nat := 14
abbrev k_FORMS : Nat := 0
abbrev l__law_fault : Nat := 0
abbrev x_BadRow : Nat := 0
abbrev x_BadNumber : Nat := 1
/-- law -/
def b_law_0 : Ex := (.cal i__law_draw 0 (.cons (.var 1) (.cons (.int 256) .nil)))
def b_law_1 : Sts := (.cons (.asg 11 (.cal i__law_bent 0 (.cons (.var 1) (.cons (.var 4) .nil)))) (.cons (.asg 12 (.cal i__law_wrong_at 0 (.cons (.var 11) .nil))) (.cons (.ife (.not (.cal i__law_same 0 (.cons (.cal i_is_image 0 (.cons (.var 11) .nil)) (.cons (.cmp .is_ (.var 12) .non) .nil))))
    (.cons (.ret (.bl false)) .nil)
    .nil) (.cons (.asg 13 (.lam l__law_fault (.cal i_image_read 0 (.cons (.var 11) .nil)))) (.cons (.ife (.or (.not (.cal i__law_equal 0 (.cons (.var 13) (.cons (.ite (.cmp .is_ (.var 12) .non) .non (.tup false (.cons (.str "BadNumber") (.cons (.str "place") (.cons (.var 12) .nil))))) .nil)))) (.one (.and (.cmp .is_ (.var 12) .non) (.one (.cmp .ne (.cal i_image_of 0 (.cons (.cal i_image_read 0 (.cons (.var 11) .nil)) .nil)) (.var 11))))))
    (.cons (.ret (.bl false)) .nil)
    .nil) .nil)))))
def b_law_2 : Ex := (.ite (.cmp .in_ (.idx (.var 14) (.int 0)) (.lst false (.cons (.str "past") (.cons (.str "got") (.cons (.str "go") .nil))))) (.bin .add (.sl false (.var 14) .no (.some (.neg (.int 1)))) (.tup false (.cons (.bin .add (.idx (.var 14) (.neg (.int 1))) (.int 1)) .nil))) (.var 14))
def b_law_3 : Sts := (.cons (.asg 3 (.cal i__law_some_code 0 (.cons (.var 1) (.cons (.lst false (.cons (.tup false (.cons (.str "e0.end") (.cons (.str "a") (.cons (.int 1) (.cons (.int 2) .nil))))) .nil)) .nil)))) (.cons (.ife (.cmp .eq (.cal i__law_draw 0 (.cons (.var 1) (.cons (.int 3) .nil))) (.int 0))
    (.cons (.asg 3 (.bin .add (.tup false (.cons (.tup false (.cons (.str "past") (.cons (.str "start") (.cons (.cal i__law_pick 0 (.cons (.var 1) (.cons (.lst false (.cons (.int 255) (.cons (.int 256) (.cons (.int 65535) (.cons (.int 65536) (.cons (.int 1000000) .nil)))))) .nil))) (.cons (.int 0) .nil))))) .nil)) (.blt (.tupl false) (.cons (.lc false [14] (.v 14) (.ex (.var 3)) .no b_law_2) .nil)))) .nil)
    .nil) (.cons (.asg 4 (.cal i_image_of 0 (.cons (.var 3) .nil))) (.cons (.ife (.or (.not (.cal i__law_equal 0 (.cons (.var 4) (.cons (.cal i__law_image 0 (.cons (.var 3) .nil)) .nil)))) (.or (.cmp .isn (.cal i_is_image 0 (.cons (.var 4) .nil)) (.bl true)) (.or (.not (.cal i__law_equal 0 (.cons (.cal i_image_read 0 (.cons (.cal i__law_pick 0 (.cons (.var 1) (.cons (.lst false (.cons (.var 4) (.cons (.blt (.list false) (.cons (.var 4) .nil)) .nil))) .nil))) .nil)) (.cons (.var 3) .nil)))) (.one (.cmp .isn (.cal i_is_image 0 (.cons (.blt (.list false) (.cons (.var 4) .nil)) .nil)) (.bl false))))))
    (.cons (.ret (.bl false)) .nil)
    .nil) (.cons (.for_ (.v 5) (.rng (.cons (.int 6) .nil)) b_law_1) (.cons (.asg 6 (.cal i__law_draw 0 (.cons (.var 1) (.cons (.blt .len (.cons (.var 4) .nil)) .nil)))) (.cons (.asg 7 (.bin .add (.bin .add (.sl false (.var 4) .no (.some (.var 6))) (.tup false (.cons (.bin .mod (.bin .add (.bin .add (.idx (.var 4) (.var 6)) (.int 1)) (.cal i__law_draw 0 (.cons (.var 1) (.cons (.int 254) .nil)))) (.int 256)) .nil))) (.sl false (.var 4) (.some (.bin .add (.var 6) (.int 1))) .no))) (.cons (.ife (.and (.cmp .ne (.var 7) (.var 4)) (.one (.cal i_is_image 0 (.cons (.var 7) .nil))))
    (.cons (.ret (.bl false)) .nil)
    .nil) (.cons (.ife (.and (.cmp .lt (.bin .add (.var 6) (.int 1)) (.blt .len (.cons (.var 4) .nil))) (.and (.cmp .ne (.idx (.var 4) (.var 6)) (.idx (.var 4) (.bin .add (.var 6) (.int 1)))) (.one (.cal i_is_image 0 (.cons (.bin .add (.bin .add (.sl false (.var 4) .no (.some (.var 6))) (.rev false (.sl false (.var 4) (.some (.var 6)) (.some (.bin .add (.var 6) (.int 2)))))) (.sl false (.var 4) (.some (.bin .add (.var 6) (.int 2))) .no)) .nil)))))
    (.cons (.ret (.bl false)) .nil)
    .nil) (.cons (.asgC 8 (.lc false [5] (.v 5) (.rng (.cons (.cal i__law_draw 0 (.cons (.var 1) (.cons (.int 9) .nil))) .nil)) .no b_law_0)) (.cons (.ife (.or (.not (.cal i__law_same 0 (.cons (.cal i_sum_of 0 (.cons (.var 8) .nil)) (.cons (.cal i__law_sum 0 (.cons (.var 8) .nil)) .nil)))) (.one (.not (.cal i__law_same 0 (.cons (.cal i_sum_of 0 (.cons (.blt (.tupl false) (.cons (.var 8) .nil)) .nil)) (.cons (.cal i__law_sum 0 (.cons (.var 8) .nil)) .nil))))))
    (.cons (.ret (.bl false)) .nil)
    .nil) (.cons (.asg 9 (.cal i__law_pick 0 (.cons (.var 1) (.cons (.lst false (.cons .non (.cons (.int 5) (.cons (.tup false (.cons (.int 256) .nil)) (.cons (.tup false (.cons (.neg (.int 1)) .nil)) (.cons (.tup false (.cons (.bl true) .nil)) (.cons (.str "ab") (.cons (.lst false (.cons .non .nil)) (.cons (.tup false (.cons (.int 75) (.cons (.str "72") .nil))) .nil))))))))) .nil)))) (.cons (.asg 10 (.lst true (.cons (.lam l__law_fault (.cal i_sum_of 0 (.cons (.var 9) .nil))) .nil))) (.cons (.exp (.bmt .append (.var 10) (.cons (.lam l__law_fault (.cal i_image_read 0 (.cons (.var 9) .nil))) .nil))) (.cons (.exp (.bmt .append (.var 10) (.cons (.lam l__law_fault (.cal i_image_of 0 (.cons (.var 9) .nil))) .nil))) (.cons (.ife (.or (.not (.cal i__law_equal 0 (.cons (.var 10) (.cons (.lst false (.cons (.tup false (.cons (.str "BadRow") (.cons (.str "row") (.cons (.var 9) .nil)))) (.cons (.tup false (.cons (.str "BadRow") (.cons (.str "image") (.cons (.var 9) .nil)))) (.cons (.tup false (.cons (.str "BadRow") (.cons (.str "code") (.cons (.var 9) .nil)))) .nil)))) .nil)))) (.one (.cmp .isn (.cal i_is_image 0 (.cons (.var 9) .nil)) (.bl false))))
    (.cons (.ret (.bl false)) .nil)
    .nil) .nil))))))))))))))))
def b_law : Sts := (.cons (.asg 1 (.cal i__law_pen 0 (.cons (.var 0) .nil))) (.cons (.for_ (.v 2) (.rng (.cons (.int 4) .nil)) b_law_3) (.cons (.ret (.and (.cmp .eq (.lam l__law_fault (.cal i_image_read 0 (.cons (.tup false .nil) .nil))) (.tup false (.cons (.str "BadNumber") (.cons (.str "place") (.cons (.int 0) .nil))))) (.one (.cmp .eq (.sl false (.cal i_image_of 0 (.cons (.tup false (.cons (.tup false (.cons (.str "stop") .nil)) .nil)) .nil)) .no (.some (.int 8))) (.tup false (.cons (.int 75) (.cons (.int 72) (.cons (.int 1) (.cons (.int 0) (.cons (.int 0) (.cons (.int 0) (.cons (.int 1) (.cons (.int 5) .nil))))))))))))) .nil)))
def f_law : FnI := ⟨("law", none), "law", ["script"], ["script", "pen", "lap", "code", "image", "turn", "at", "other", "some", "odd", "faults", "bent", "place", "told", "row"], b_law, [[]]⟩
/-- image_read -/
def b_image_read : Sts := (.cons (.ret (.blt (.tupl false) (.cons (.fld ["Loader"] "rows" (.cal i_loader_of 0 (.cons (.var 0) .nil))) .nil))) .nil)
def f_image_read : FnI := ⟨("image_read", none), "image_read", ["value"], ["value"], b_image_read, [[]]⟩
/-- image_of -/
def b_image_of_0 : Sts := (.cons (.exp (.bmt .extend (.var 2) (.cons (.cal i_row_bytes 0 (.cons (.var 4) (.cons (.var 1) .nil))) .nil))) .nil)
def b_image_of_1 : Sts := (.cons (.exp (.bmt .extend (.var 2) (.cons (.cal i_name_bytes 0 (.cons (.var 3) .nil)) .nil))) .nil)
def b_image_of : Sts := (.cons (.asg 1 (.cal i_moments_of 0 (.cons (.var 0) .nil))) (.cons (.asg 2 (.blt (.list true) (.cons (.bin .add (.bin .add (.glb j_HEAD) (.cal i_pair_of 0 (.cons (.blt .len (.cons (.var 1) .nil)) .nil))) (.cal i_pair_of 0 (.cons (.blt .len (.cons (.var 0) .nil)) .nil))) .nil))) (.cons (.for_ (.v 3) (.ex (.var 1)) b_image_of_1) (.cons (.for_ (.v 4) (.ex (.var 0)) b_image_of_0) (.cons (.ret (.bin .add (.blt (.tupl false) (.cons (.var 2) .nil)) (.cal i_pair_of 0 (.cons (.cal i_sum_over 0 (.cons (.var 2) .nil)) .nil)))) .nil)))))
def f_image_of : FnI := ⟨("image_of", none), "image_of", ["code"], ["code", "names", "found", "name", "row"], b_image_of, [[]]⟩
/-- _law_equal -/
def b__law_equal_0 : Ex := (.cal i__law_equal 0 (.cons (.var 2) (.cons (.var 3) .nil)))
def b__law_equal : Sts := (.cons (.ife (.and (.blt .isi (.cons (.var 0) (.cons (.tup false (.cons (.ty "tuple") (.cons (.ty "list") .nil))) .nil))) (.one (.blt .isi (.cons (.var 1) (.cons (.tup false (.cons (.ty "tuple") (.cons (.ty "list") .nil))) .nil)))))
    (.cons (.ife (.or (.cmp .ne (.blt .isi (.cons (.var 0) (.cons (.ty "tuple") .nil))) (.blt .isi (.cons (.var 1) (.cons (.ty "tuple") .nil)))) (.one (.cmp .ne (.blt .len (.cons (.var 0) .nil)) (.blt .len (.cons (.var 1) .nil)))))
    (.cons (.ret (.bl false)) .nil)
    .nil) (.cons (.ret (.blt .all (.cons (.lc false [2, 3] (.t [2, 3]) (.zip (.cons (.var 0) (.cons (.var 1) .nil))) .no b__law_equal_0) .nil))) .nil))
    .nil) (.cons (.ife (.cmp .ne (.blt .isi (.cons (.var 0) (.cons (.ty "bool") .nil))) (.blt .isi (.cons (.var 1) (.cons (.ty "bool") .nil))))
    (.cons (.ret (.bl false)) .nil)
    .nil) (.cons (.ret (.cmp .eq (.var 0) (.var 1))) .nil)))
def f__law_equal : FnI := ⟨("_law_equal", none), "_law_equal", ["one", "other"], ["one", "other", "a", "b"], b__law_equal, [[]]⟩
/-- is_image -/
def b_is_image : Sts := (.cons (.ife (.or (.not (.blt .isi (.cons (.var 0) (.cons (.ty "tuple") .nil)))) (.one (.not (.cal i_are_bytes 0 (.cons (.var 0) .nil)))))
    (.cons (.ret (.bl false)) .nil)
    .nil) (.cons (.try_ (.cons (.exp (.cal i_loader_of 0 (.cons (.var 0) .nil))) (.cons (.ret (.bl true)) .nil)) [⟨"BadNumber", none, (.one (.c (.bl false)))⟩] [("BadName", [false]), ("BadNumber", [true]), ("BadRow", [false]), ("NoName", [false]), ("TakenName", [false]), ("Unlike", [false]), ("NotThere", [false]), ("TooMany", [false])]) .nil))
def f_is_image : FnI := ⟨("is_image", none), "is_image", ["value"], ["value"], b_is_image, [[]]⟩
/-- sum_of -/
def b_sum_of : Sts := (.cons (.ife (.not (.cal i_are_bytes 0 (.cons (.var 0) .nil)))
    (.cons (.rai x_BadRow (.cons (.str "row") (.cons (.var 0) .nil))) .nil)
    .nil) (.cons (.ret (.cal i_sum_over 0 (.cons (.var 0) .nil))) .nil))
def f_sum_of : FnI := ⟨("sum_of", none), "sum_of", ["row"], ["row"], b_sum_of, [[]]⟩
/-- _law_pick -/
def b__law_pick : Sts := (.cons (.ret (.idx (.var 1) (.cal i__law_draw 0 (.cons (.var 0) (.cons (.blt .len (.cons (.var 1) .nil)) .nil))))) .nil)
def f__law_pick : FnI := ⟨("_law_pick", none), "_law_pick", ["pen", "some"], ["pen", "some"], b__law_pick, [[]]⟩
/-- _law_same -/
def b__law_same_0 : Ex := (.cal i__law_same 0 (.cons (.var 2) (.cons (.var 3) .nil)))
def b__law_same : Sts := (.cons (.ife (.blt .isi (.cons (.var 1) (.cons (.ty "tuple") .nil)))
    (.cons (.ret (.and (.blt .isi (.cons (.var 0) (.cons (.ty "tuple") .nil))) (.and (.cmp .eq (.blt .len (.cons (.var 0) .nil)) (.blt .len (.cons (.var 1) .nil))) (.one (.blt .all (.cons (.lc false [2, 3] (.t [2, 3]) (.zip (.cons (.var 0) (.cons (.var 1) .nil))) .no b__law_same_0) .nil)))))) .nil)
    .nil) (.cons (.ife (.cmp .is_ (.var 1) .non)
    (.cons (.ret (.cmp .is_ (.var 0) .non)) .nil)
    .nil) (.cons (.ife (.cmp .is_ (.var 1) (.bl true))
    (.cons (.ret (.cmp .is_ (.var 0) (.bl true))) .nil)
    .nil) (.cons (.ife (.cmp .is_ (.var 1) (.bl false))
    (.cons (.ret (.cmp .is_ (.var 0) (.bl false))) .nil)
    .nil) (.cons (.ife (.blt .isi (.cons (.var 1) (.cons (.ty "int") .nil)))
    (.cons (.ret (.and (.blt .isi (.cons (.var 0) (.cons (.ty "int") .nil))) (.and (.not (.blt .isi (.cons (.var 0) (.cons (.ty "bool") .nil)))) (.one (.cmp .eq (.var 0) (.var 1)))))) .nil)
    .nil) (.cons (.ret (.and (.blt .isi (.cons (.var 0) (.cons (.ty "str") .nil))) (.one (.cmp .eq (.var 0) (.var 1))))) .nil))))))
def f__law_same : FnI := ⟨("_law_same", none), "_law_same", ["told", "due"], ["told", "due", "one", "two"], b__law_same, [[]]⟩
/-- _law_sum -/
def b__law_sum_0 : Sts := (.cons (.asg 1 (.bin .mod (.bin .add (.bin .add (.bin .mul (.var 1) (.int 31)) (.var 2)) (.int 1)) (.int 65521))) .nil)
def b__law_sum : Sts := (.cons (.asg 1 (.int 0)) (.cons (.for_ (.v 2) (.ex (.var 0)) b__law_sum_0) (.cons (.ret (.var 1)) .nil)))
def f__law_sum : FnI := ⟨("_law_sum", none), "_law_sum", ["row"], ["row", "found", "number"], b__law_sum, [[]]⟩
/-- _law_draw -/
def b__law_draw : Sts := (.cons (.sub (.var 0) (.str "count") (.bin .add (.idx (.var 0) (.str "count")) (.int 1))) (.cons (.ife (.and (.cmp .eq (.idx (.var 0) (.str "digits")) (.int 0)) (.one (.cmp .lt (.idx (.var 0) (.str "at")) (.blt .len (.cons (.idx (.var 0) (.str "cells")) .nil)))))
    (.cons (.asg 3 (.idx (.idx (.var 0) (.str "cells")) (.idx (.var 0) (.str "at")))) (.cons (.sub (.var 0) (.str "at") (.bin .add (.idx (.var 0) (.str "at")) (.int 1))) (.cons (.ife (.cmp .ge (.var 3) (.bin .pow (.int 10) (.int 18)))
    (.cons (.sub (.var 0) (.str "digits") (.bin .sub (.var 3) (.bin .pow (.int 10) (.int 18)))) .nil)
    (.cons (.sub (.var 0) (.str "fold") (.bin .mod (.blt .int (.cons (.bin .add (.bin .mul (.idx (.var 0) (.str "fold")) (.int 70157)) (.var 3)) .nil)) (.int 2147482951))) .nil)) .nil)))
    .nil) (.cons (.ife (.cmp .gt (.idx (.var 0) (.str "digits")) (.int 0))
    (.cons (.asg 4 (.bin .mod (.blt .int (.cons (.idx (.var 0) (.str "digits")) .nil)) (.var 1))) (.cons (.sub (.var 0) (.str "digits") (.bin .fdiv (.idx (.var 0) (.str "digits")) (.var 1))) (.cons (.ret (.var 4)) .nil)))
    .nil) (.cons (.asg 2 (.bin .add (.bin .add (.idx (.var 0) (.str "fold")) (.bin .mul (.idx (.var 0) (.str "count")) (.int 7919))) (.int 97))) (.cons (.ret (.bin .mod (.bin .fdiv (.blt .int (.cons (.bin .mod (.bin .pow (.var 2) (.int 17)) (.int 2305843009213693951)) .nil)) (.int 128)) (.var 1))) .nil)))))
def f__law_draw : FnI := ⟨("_law_draw", none), "_law_draw", ["pen", "many"], ["pen", "many", "blend", "cell", "digit"], b__law_draw, [[]]⟩
/-- _law_wrong_at -/
def b__law_wrong_at_0 : Ex := (.cmp .nin (.var 13) (.var 1))
def b__law_wrong_at_1 : Ex := (.var 14)
def b__law_wrong_at_2 : Sts := (.cons (.asgT [10, 4] (.cal i__law_number 0 (.cons (.var 0) (.cons (.var 4) (.cons (.ite (.cmp .eq (.var 9) (.str "t")) (.int 3) (.int 2)) (.cons (.idx (.dic false ["n", "t", "a"] (.cons (.bin .sub (.blt .len (.cons (.var 8) .nil)) (.int 1)) (.cons (.int 1000000) (.cons (.bin .sub (.var 7) (.int 1)) .nil)))) (.var 9)) .nil)))))) (.cons (.ife (.cmp .is_ (.var 10) .non)
    (.cons (.ret (.var 4)) .nil)
    .nil) (.cons (.asg 1 (.bin .add (.var 1) (.ite (.cmp .eq (.var 9) (.str "n")) (.lst false (.cons (.idx (.idx (.var 8) (.var 10)) (.int 0)) .nil)) (.lst false .nil)))) .nil)))
def b__law_wrong_at_3 : Sts := (.cons (.ife (.or (.cmp .ge (.var 4) (.blt .len (.cons (.var 0) .nil))) (.or (.cmp .gt (.idx (.var 0) (.var 4)) (.int 5)) (.one (.and (.cmp .eq (.var 2) (.bin .sub (.var 7) (.int 1))) (.one (.cmp .lt (.idx (.var 0) (.var 4)) (.int 3)))))))
    (.cons (.ret (.blt .min (.cons (.var 4) (.cons (.blt .len (.cons (.var 0) .nil)) .nil)))) .nil)
    .nil) (.cons (.par [12, 4] (.cons (.idx (.var 0) (.var 4)) (.cons (.bin .add (.var 4) (.int 1)) .nil))) (.cons (.for_ (.v 9) (.ex (.idx (.lst false (.cons (.lst false (.cons (.str "n") (.cons (.str "t") (.cons (.str "a") .nil)))) (.cons (.lst false (.cons (.str "n") (.cons (.str "a") .nil))) (.cons (.lst false (.cons (.str "n") .nil)) (.cons (.lst false (.cons (.str "a") .nil)) (.cons (.lst false .nil) (.cons (.lst false .nil) .nil))))))) (.var 12))) b__law_wrong_at_2) .nil)))
def b__law_wrong_at_4 : Sts := (.cons (.ife (.or (.cmp .ge (.var 4) (.blt .len (.cons (.var 0) .nil))) (.one (.cmp .ne (.idx (.var 0) (.var 4)) (.var 5))))
    (.cons (.ret (.blt .min (.cons (.var 4) (.cons (.blt .len (.cons (.var 0) .nil)) .nil)))) .nil)
    .nil) .nil)
def b__law_wrong_at : Sts := (.cons (.for_ (.t [4, 5]) (.en (.cons (.lst false (.cons (.int 75) (.cons (.int 72) (.cons (.int 1) .nil)))) .nil)) b__law_wrong_at_4) (.cons (.asgT [6, 4] (.cal i__law_number 0 (.cons (.var 0) (.cons (.int 3) (.cons (.int 2) (.cons (.int 65535) .nil)))))) (.cons (.ife (.cmp .is_ (.var 6) .non)
    (.cons (.ret (.var 4)) .nil)
    .nil) (.cons (.asgT [7, 4] (.cal i__law_number 0 (.cons (.var 0) (.cons (.int 5) (.cons (.int 2) (.cons (.int 10000) .nil)))))) (.cons (.ife (.or (.cmp .is_ (.var 7) .non) (.one (.cmp .eq (.var 7) (.int 0))))
    (.cons (.ret (.ite (.cmp .is_ (.var 7) .non) (.var 4) (.int 5))) .nil)
    .nil) (.cons (.asgT [8, 4] (.cal i__law_read_names 0 (.cons (.var 0) (.cons (.var 4) (.cons (.var 6) .nil))))) (.cons (.ife (.cmp .is_ (.var 8) .non)
    (.cons (.ret (.var 4)) .nil)
    .nil) (.cons (.asg 1 (.lst false .nil)) (.cons (.for_ (.v 2) (.rng (.cons (.var 7) .nil)) b__law_wrong_at_3) (.cons (.asgT [10, 11] (.cal i__law_number 0 (.cons (.var 0) (.cons (.var 4) (.cons (.int 2) (.cons (.int 65535) .nil)))))) (.cons (.ife (.or (.cmp .is_ (.var 10) .non) (.one (.cmp .ne (.var 10) (.cal i__law_sum 0 (.cons (.sl false (.var 0) .no (.some (.var 4))) .nil)))))
    (.cons (.ret (.ite (.cmp .is_ (.var 10) .non) (.var 11) (.var 4))) .nil)
    .nil) (.cons (.ife (.cmp .lt (.var 11) (.blt .len (.cons (.var 0) .nil)))
    (.cons (.ret (.var 11)) .nil)
    .nil) (.cons (.asgC 3 (.lc false [13, 14] (.t [13, 14]) (.ex (.var 8)) (.some b__law_wrong_at_0) b__law_wrong_at_1)) (.cons (.ret (.ite (.cmp .ne (.var 3) (.lst false .nil)) (.idx (.var 3) (.int 0)) .non)) .nil))))))))))))))
def f__law_wrong_at : FnI := ⟨("_law_wrong_at", none), "_law_wrong_at", ["image"], ["image", "used", "turn", "lost", "at", "due", "many", "rows", "names", "form", "number", "behind", "kind", "name", "place"], b__law_wrong_at, [[]]⟩
/-- _law_bent -/
def b__law_bent : Sts := (.cons (.par [3, 4] (.cons (.blt (.list true) (.cons (.var 1) .nil)) (.cons (.cal i__law_draw 0 (.cons (.var 0) (.cons (.blt .len (.cons (.var 1) .nil)) .nil))) .nil))) (.cons (.asg 2 (.cal i__law_draw 0 (.cons (.var 0) (.cons (.int 5) .nil)))) (.cons (.ife (.cmp .lt (.var 2) (.int 2))
    (.cons (.sub (.var 3) (.var 4) (.cal i__law_pick 0 (.cons (.var 0) (.cons (.lst false (.cons (.bin .mod (.bin .add (.idx (.var 3) (.var 4)) (.int 1)) (.int 256)) (.cons (.bin .mod (.bin .add (.idx (.var 3) (.var 4)) (.int 255)) (.int 256)) (.cons (.int 0) (.cons (.int 5) (.cons (.int 46) (.cons (.int 97) (.cons (.int 255) .nil)))))))) .nil)))) .nil)
    (.cons (.ife (.cmp .eq (.var 2) (.int 2))
    (.cons (.exp (.bmt .pop (.var 3) (.cons (.var 4) .nil))) .nil)
    (.cons (.ife (.cmp .eq (.var 2) (.int 3))
    (.cons (.exp (.bmt .insert (.var 3) (.cons (.var 4) (.cons (.cal i__law_pick 0 (.cons (.var 0) (.cons (.lst false (.cons (.int 0) (.cons (.int 1) (.cons (.int 97) (.cons (.int 255) .nil))))) .nil))) .nil)))) .nil)
    (.cons (.asg 3 (.sl true (.var 3) .no (.some (.var 4)))) .nil)) .nil)) .nil)) (.cons (.ife (.and (.cmp .eq (.cal i__law_draw 0 (.cons (.var 0) (.cons (.int 2) .nil))) (.int 0)) (.one (.cmp .gt (.blt .len (.cons (.var 3) .nil)) (.int 2))))
    (.cons (.asg 3 (.bin .addm (.sl false (.var 3) .no (.some (.neg (.int 2)))) (.cal i__law_pair 0 (.cons (.cal i__law_sum 0 (.cons (.sl false (.var 3) .no (.some (.neg (.int 2)))) .nil)) .nil)))) .nil)
    .nil) (.cons (.ret (.blt (.tupl false) (.cons (.var 3) .nil))) .nil)))))
def f__law_bent : FnI := ⟨("_law_bent", none), "_law_bent", ["pen", "image"], ["pen", "image", "way", "rows", "at"], b__law_bent, [[]]⟩
/-- _law_image -/
def b__law_image_0 : Sts := (.cons (.exp (.bmt .append (.var 2) (.cons (.bmt .index (.var 4) (.cons (.idx (.var 5) (.int 0)) .nil)) .nil))) (.cons (.ife (.cmp .in_ (.idx (.var 5) (.int 0)) (.lst false (.cons (.str "past") (.cons (.str "got") (.cons (.str "do") .nil)))))
    (.cons (.asg 2 (.bin .addm (.var 2) (.cal i__law_pair 0 (.cons (.bmt .index (.var 1) (.cons (.idx (.var 5) (.int 1)) .nil)) .nil)))) .nil)
    .nil) (.cons (.ife (.cmp .eq (.idx (.var 5) (.int 0)) (.str "past"))
    (.cons (.asg 2 (.bin .addm (.bin .add (.var 2) (.lst false (.cons (.bin .fdiv (.idx (.var 5) (.int 2)) (.int 65536)) .nil))) (.cal i__law_pair 0 (.cons (.bin .mod (.idx (.var 5) (.int 2)) (.int 65536)) .nil)))) .nil)
    .nil) (.cons (.ife (.cmp .in_ (.idx (.var 5) (.int 0)) (.lst false (.cons (.str "past") (.cons (.str "got") (.cons (.str "go") .nil)))))
    (.cons (.asg 2 (.bin .addm (.var 2) (.cal i__law_pair 0 (.cons (.idx (.var 5) (.neg (.int 1))) .nil)))) .nil)
    .nil) .nil))))
def b__law_image_1 : Ex := (.cmp .eq (.cal i__law_sign 0 (.cons (.var 7) .nil)) (.var 6))
def b__law_image_2 : Ex := (.var 7)
def b__law_image_3 : Sts := (.cons (.exp (.bmt .append (.var 2) (.cons (.idx (.lc false [7] (.v 7) (.rng (.cons (.int 123) .nil)) (.some b__law_image_1) b__law_image_2) (.int 0)) .nil))) .nil)
def b__law_image_4 : Sts := (.cons (.exp (.bmt .append (.var 2) (.cons (.blt .len (.cons (.var 3) .nil)) .nil))) (.cons (.for_ (.v 6) (.ex (.var 3)) b__law_image_3) .nil))
def b__law_image_5 : Ex := (.cmp .in_ (.idx (.var 5) (.int 0)) (.lst false (.cons (.str "past") (.cons (.str "got") (.cons (.str "do") .nil)))))
def b__law_image_6 : Ex := (.idx (.var 5) (.int 1))
def b__law_image : Sts := (.cons (.asg 1 (.sset false (.lc false [5] (.v 5) (.ex (.var 0)) (.some b__law_image_5) b__law_image_6))) (.cons (.asg 2 (.bin .addm (.bin .add (.lst false (.cons (.int 75) (.cons (.int 72) (.cons (.int 1) .nil)))) (.cal i__law_pair 0 (.cons (.blt .len (.cons (.var 1) .nil)) .nil))) (.cal i__law_pair 0 (.cons (.blt .len (.cons (.var 0) .nil)) .nil)))) (.cons (.for_ (.v 3) (.ex (.var 1)) b__law_image_4) (.cons (.asg 4 (.lst false (.cons (.str "past") (.cons (.str "got") (.cons (.str "do") (.cons (.str "go") (.cons (.str "rest") (.cons (.str "stop") .nil)))))))) (.cons (.for_ (.v 5) (.ex (.var 0)) b__law_image_0) (.cons (.ret (.blt (.tupl false) (.cons (.bin .add (.var 2) (.cal i__law_pair 0 (.cons (.cal i__law_sum 0 (.cons (.var 2) .nil)) .nil))) .nil))) .nil))))))
def f__law_image : FnI := ⟨("_law_image", none), "_law_image", ["code"], ["code", "names", "found", "name", "kinds", "row", "sign", "number"], b__law_image, [[]]⟩
/-- _law_some_code -/
def b__law_some_code_0 : Sts := (.cons (.par [8, 9] (.cons (.cal i__law_pick 0 (.cons (.var 0) (.cons (.lst false (.cons (.str "past") (.cons (.str "past") (.cons (.str "got") (.cons (.str "do") (.cons (.str "do") (.cons (.str "go") (.cons (.str "rest") .nil)))))))) .nil))) (.cons (.blt .min (.cons (.bin .sub (.var 5) (.int 1)) (.cons (.bin .add (.bin .add (.var 3) (.int 1)) (.cal i__law_draw 0 (.cons (.var 0) (.cons (.int 3) .nil)))) .nil))) .nil))) (.cons (.asg 6 (.ite (.cmp .gt (.cal i__law_draw 0 (.cons (.var 0) (.cons (.int 8) .nil))) (.int 0)) (.var 9) (.cal i__law_draw 0 (.cons (.var 0) (.cons (.var 5) .nil))))) (.cons (.asg 7 (.cal i__law_pick 0 (.cons (.var 0) (.cons (.ite (.cmp .ne (.var 8) (.str "do")) (.var 4) (.sl false (.var 4) .no (.some (.int 3)))) .nil)))) (.cons (.exp (.bmt .append (.var 2) (.cons (.idx (.dic false ["past", "got", "do", "go", "rest"] (.cons (.tup false (.cons (.str "past") (.cons (.var 7) (.cons (.cal i__law_draw 0 (.cons (.var 0) (.cons (.int 5) .nil))) (.cons (.var 6) .nil))))) (.cons (.tup false (.cons (.str "got") (.cons (.var 7) (.cons (.var 6) .nil)))) (.cons (.tup false (.cons (.str "do") (.cons (.var 7) .nil))) (.cons (.tup false (.cons (.str "go") (.cons (.var 9) .nil))) (.cons (.tup false (.cons (.str "rest") .nil)) .nil)))))) (.var 8)) .nil))) .nil))))
def b__law_some_code_1 : Ex := (.idx (.var 10) (.int 0))
def b__law_some_code : Sts := (.cons (.par [4, 5] (.cons (.bin .add (.lst false (.cons (.str "a") (.cons (.str "b.begin") (.cons (.str "c") .nil)))) (.lc false [10] (.v 10) (.ex (.var 1)) .no b__law_some_code_1)) (.cons (.bin .add (.int 2) (.cal i__law_draw 0 (.cons (.var 0) (.cons (.int 9) .nil)))) .nil))) (.cons (.asg 2 (.lst true .nil)) (.cons (.for_ (.v 3) (.rng (.cons (.bin .sub (.var 5) (.int 1)) .nil)) b__law_some_code_0) (.cons (.ret (.blt (.tupl false) (.cons (.bin .add (.var 2) (.lst false (.cons (.cal i__law_pick 0 (.cons (.var 0) (.cons (.lst false (.cons (.tup false (.cons (.str "rest") .nil)) (.cons (.tup false (.cons (.str "rest") .nil)) (.cons (.tup false (.cons (.str "stop") .nil)) .nil)))) .nil))) .nil))) .nil))) .nil))))
def f__law_some_code : FnI := ⟨("_law_some_code", none), "_law_some_code", ["pen", "works"], ["pen", "works", "rows", "at", "moments", "size", "there", "moment", "kind", "ahead", "row"], b__law_some_code, [[]]⟩
/-- _law_pen -/
def b__law_pen_0 : Sts := (.cons (.asg 1 (.bin .mod (.blt .int (.cons (.bin .add (.bin .mul (.var 1) (.int 163)) (.var 2)) .nil)) (.int 1000000513))) .nil)
def b__law_pen : Sts := (.cons (.asg 1 (.int 59)) (.cons (.for_ (.v 2) (.ex (.var 0)) b__law_pen_0) (.cons (.ret (.dic true ["cells", "at", "digits", "count", "fold"] (.cons (.blt (.list false) (.cons (.var 0) .nil)) (.cons (.int 0) (.cons (.int 0) (.cons (.int 0) (.cons (.var 1) .nil))))))) .nil)))
def f__law_pen : FnI := ⟨("_law_pen", none), "_law_pen", ["script"], ["script", "fold", "cell"], b__law_pen, [[]]⟩
/-- loader_of -/
def b_loader_of : Sts := (.cons (.ife (.not (.cal i_are_bytes 0 (.cons (.var 0) .nil)))
    (.cons (.rai x_BadRow (.cons (.str "image") (.cons (.var 0) .nil))) .nil)
    .nil) (.cons (.asg 1 (.mk i_Loader_init 0 (.cons (.var 0) .nil))) (.cons (.exp (.met i_Loader_read 0 (.var 1) .nil)) (.cons (.ret (.var 1)) .nil))))
def f_loader_of : FnI := ⟨("loader_of", none), "loader_of", ["image"], ["image", "loader"], b_loader_of, [[]]⟩
/-- pair_of -/
def b_pair_of : Sts := (.cons (.ret (.tup true (.cons (.bin .fdiv (.var 0) (.glb j_WIDE)) (.cons (.bin .mod (.var 0) (.glb j_WIDE)) .nil)))) .nil)
def f_pair_of : FnI := ⟨("pair_of", none), "pair_of", ["number"], ["number"], b_pair_of, [[]]⟩
/-- sum_over -/
def b_sum_over_0 : Sts := (.cons (.asg 1 (.bin .mod (.bin .add (.bin .add (.bin .mul (.var 1) (.glb j_FACTOR)) (.var 2)) (.int 1)) (.glb j_PRIME))) .nil)
def b_sum_over : Sts := (.cons (.asg 1 (.int 0)) (.cons (.for_ (.v 2) (.ex (.var 0)) b_sum_over_0) (.cons (.ret (.var 1)) .nil)))
def f_sum_over : FnI := ⟨("sum_over", none), "sum_over", ["row"], ["row", "found", "number"], b_sum_over, [[]]⟩
/-- row_bytes -/
def b_row_bytes_0 : Sts := (.cons (.ife (.cmp .eq (.var 3) (.str "path"))
    (.cons (.asg 2 (.bin .addx (.var 2) (.cal i_pair_of 0 (.cons (.bmt .tindex (.var 1) (.cons (.var 4) .nil)) .nil)))) .nil)
    (.cons (.asg 2 (.bin .addx (.var 2) (.ite (.cmp .eq (.var 3) (.str "number")) (.cal i_triple_of 0 (.cons (.var 4) .nil)) (.cal i_pair_of 0 (.cons (.var 4) .nil))))) .nil)) .nil)
def b_row_bytes : Sts := (.cons (.asg 2 (.tup true (.cons (.bmt .tindex (.glb j_KINDS) (.cons (.idx (.var 0) (.int 0)) .nil)) .nil))) (.cons (.for_ (.t [3, 4]) (.zip (.cons (.tab k_FORMS (.idx (.var 0) (.int 0))) (.cons (.sl false (.var 0) (.some (.int 1)) .no) .nil))) b_row_bytes_0) (.cons (.ret (.var 2)) .nil)))
def f_row_bytes : FnI := ⟨("row_bytes", none), "row_bytes", ["row", "names"], ["row", "names", "found", "form", "part"], b_row_bytes, [[]]⟩
/-- name_bytes -/
def b_name_bytes_0 : Ex := (.idx (.glb j_NUMBERS) (.bmt .sindex (.glb j_SIGNS) (.cons (.var 1) .nil)))
def b_name_bytes : Sts := (.cons (.ret (.bin .addx (.tup true (.cons (.blt .len (.cons (.var 0) .nil)) .nil)) (.blt (.tupl true) (.cons (.lc false [1] (.v 1) (.ex (.var 0)) .no b_name_bytes_0) .nil)))) .nil)
def f_name_bytes : FnI := ⟨("name_bytes", none), "name_bytes", ["name"], ["name", "sign"], b_name_bytes, [[]]⟩
/-- moments_of -/
def b_moments_of_0 : Ex := (.cmp .in_ (.idx (.var 1) (.int 0)) (.tup false (.cons (.str "past") (.cons (.str "got") (.cons (.str "do") .nil)))))
def b_moments_of_1 : Ex := (.idx (.var 1) (.int 1))
def b_moments_of : Sts := (.cons (.exp (.cal i_need_code 0 (.cons (.var 0) .nil))) (.cons (.ret (.blt (.tupl true) (.cons (.sset false (.lc false [1] (.v 1) (.ex (.var 0)) (.some b_moments_of_0) b_moments_of_1)) .nil))) .nil))
def f_moments_of : FnI := ⟨("moments_of", none), "moments_of", ["code"], ["code", "row"], b_moments_of, [[]]⟩
/-- are_bytes -/
def b_are_bytes_0 : Ex := (.cal i_is_whole 0 (.cons (.var 1) (.cons (.int 0) (.cons (.bin .sub (.glb j_WIDE) (.int 1)) .nil))))
def b_are_bytes : Sts := (.cons (.ret (.and (.cal i_is_listed 0 (.cons (.var 0) .nil)) (.one (.blt .all (.cons (.lc false [1] (.v 1) (.ex (.var 0)) .no b_are_bytes_0) .nil))))) .nil)
def f_are_bytes : FnI := ⟨("are_bytes", none), "are_bytes", ["value"], ["value", "number"], b_are_bytes, [[]]⟩
/-- _law_number -/
def b__law_number_0 : Sts := (.cons (.asg 4 (.bin .add (.bin .mul (.var 4) (.int 256)) (.idx (.var 0) (.bin .add (.var 1) (.var 5))))) .nil)
def b__law_number : Sts := (.cons (.ife (.cmp .gt (.bin .add (.var 1) (.var 2)) (.blt .len (.cons (.var 0) .nil)))
    (.cons (.ret (.tup false (.cons .non (.cons (.blt .len (.cons (.var 0) .nil)) .nil)))) .nil)
    .nil) (.cons (.asg 4 (.int 0)) (.cons (.for_ (.v 5) (.rng (.cons (.var 2) .nil)) b__law_number_0) (.cons (.ret (.ite (.cmp .le (.var 4) (.var 3)) (.tup false (.cons (.var 4) (.cons (.bin .add (.var 1) (.var 2)) .nil))) (.tup false (.cons .non (.cons (.var 1) .nil))))) .nil))))
def f__law_number : FnI := ⟨("_law_number", none), "_law_number", ["image", "at", "many", "most"], ["image", "at", "many", "most", "number", "spot"], b__law_number, [[]]⟩
/-- _law_read_names -/
def b__law_read_names_0 : Sts := (.cons (.ife (.or (.cmp .ge (.var 5) (.blt .len (.cons (.var 0) .nil))) (.one (.cmp .eq (.cal i__law_sign 0 (.cons (.idx (.var 0) (.var 5)) .nil)) (.str ""))))
    (.cons (.ret (.tup false (.cons .non (.cons (.blt .min (.cons (.var 5) (.cons (.blt .len (.cons (.var 0) .nil)) .nil))) .nil)))) .nil)
    .nil) (.cons (.asg 7 (.bin .add (.var 7) (.cal i__law_sign 0 (.cons (.idx (.var 0) (.var 5)) .nil)))) .nil))
def b__law_read_names_1 : Sts := (.cons (.ife (.cmp .ge (.var 1) (.blt .len (.cons (.var 0) .nil)))
    (.cons (.ret (.tup false (.cons .non (.cons (.blt .len (.cons (.var 0) .nil)) .nil)))) .nil)
    .nil) (.cons (.par [6, 7] (.cons (.idx (.var 0) (.var 1)) (.cons (.str "") .nil))) (.cons (.ife (.not (.chn .le .le (.int 1) (.var 6) (.int 60)))
    (.cons (.ret (.tup false (.cons .non (.cons (.var 1) .nil)))) .nil)
    .nil) (.cons (.for_ (.v 5) (.rng (.cons (.bin .add (.var 1) (.int 1)) (.cons (.bin .add (.bin .add (.var 1) (.int 1)) (.var 6)) .nil))) b__law_read_names_0) (.cons (.ife (.or (.not (.cal i__law_is_path 0 (.cons (.var 7) .nil))) (.one (.and (.cmp .ne (.var 3) (.lst false .nil)) (.one (.cmp .le (.var 7) (.idx (.idx (.var 3) (.neg (.int 1))) (.int 0)))))))
    (.cons (.ret (.tup false (.cons .non (.cons (.var 1) .nil)))) .nil)
    .nil) (.cons (.exp (.bmt .append (.var 3) (.cons (.tup false (.cons (.var 7) (.cons (.var 1) .nil))) .nil))) (.cons (.asg 1 (.bin .add (.bin .add (.var 1) (.int 1)) (.var 6))) .nil)))))))
def b__law_read_names : Sts := (.cons (.asg 3 (.lst true .nil)) (.cons (.for_ (.v 4) (.rng (.cons (.var 2) .nil)) b__law_read_names_1) (.cons (.ret (.tup false (.cons (.var 3) (.cons (.var 1) .nil)))) .nil)))
def f__law_read_names : FnI := ⟨("_law_read_names", none), "_law_read_names", ["image", "at", "many"], ["image", "at", "many", "found", "turn", "spot", "size", "name"], b__law_read_names, [[]]⟩
/-- _law_pair -/
def b__law_pair : Sts := (.cons (.ret (.lst false (.cons (.bin .fdiv (.var 0) (.int 256)) (.cons (.bin .mod (.var 0) (.int 256)) .nil)))) .nil)
def f__law_pair : FnI := ⟨("_law_pair", none), "_law_pair", ["number"], ["number"], b__law_pair, [[]]⟩
/-- _law_sign -/
def b__law_sign : Sts := (.cons (.ife (.chn .le .le (.int 97) (.var 0) (.int 122))
    (.cons (.ret (.idx (.str "abcdefghijklmnopqrstuvwxyz") (.bin .sub (.var 0) (.int 97)))) .nil)
    .nil) (.cons (.ret (.ite (.chn .le .le (.int 48) (.var 0) (.int 57)) (.idx (.str "0123456789") (.bin .sub (.var 0) (.int 48))) (.ite (.cmp .eq (.var 0) (.int 46)) (.str ".") (.str "")))) .nil))
def f__law_sign : FnI := ⟨("_law_sign", none), "_law_sign", ["number"], ["number"], b__law_sign, [[]]⟩
/-- Loader.read -/
def b_Loader_read_0 : Sts := (.cons (.exp (.met i_Loader_read_row 0 (.var 0) (.cons (.var 3) .nil))) .nil)
def b_Loader_read_1 : Sts := (.cons (.exp (.met i_Loader_read_name 0 (.var 0) .nil)) .nil)
def b_Loader_read : Sts := (.cons (.asgT [2, 3] (.met i_Loader_read_head 0 (.var 0) .nil)) (.cons (.for_ (.v 1) (.rng (.cons (.var 2) .nil)) b_Loader_read_1) (.cons (.for_ (.v 1) (.rng (.cons (.var 3) .nil)) b_Loader_read_0) (.cons (.exp (.met i_Loader_read_end 0 (.var 0) .nil)) .nil))))
def f_Loader_read : FnI := ⟨("Loader", some "read"), "Loader.read", ["self"], ["self", "turn", "names", "rows"], b_Loader_read, [[]]⟩
/-- Loader.__init__ -/
def b_Loader_init : Sts := (.cons (.fld "Loader" "image" (.var 0) (.blt (.tupl false) (.cons (.var 1) .nil))) (.cons (.fld "Loader" "at" (.var 0) (.int 0)) (.cons (.fld "Loader" "names" (.var 0) (.lst true .nil)) (.cons (.fld "Loader" "places" (.var 0) (.lst true .nil)) (.cons (.fld "Loader" "starts" (.var 0) (.lst true .nil)) (.cons (.fld "Loader" "rows" (.var 0) (.lst true .nil)) .nil))))))
def f_Loader_init : FnI := ⟨("Loader", some "__init__"), "Loader.__init__", ["self", "image"], ["self", "image"], b_Loader_init, [[]]⟩
/-- triple_of -/
def b_triple_of : Sts := (.cons (.ret (.bin .addx (.tup true (.cons (.bin .fdiv (.var 0) (.bin .mul (.glb j_WIDE) (.glb j_WIDE))) .nil)) (.cal i_pair_of 0 (.cons (.bin .mod (.var 0) (.bin .mul (.glb j_WIDE) (.glb j_WIDE))) .nil)))) .nil)
def f_triple_of : FnI := ⟨("triple_of", none), "triple_of", ["number"], ["number"], b_triple_of, [[]]⟩
/-- need_code -/
def b_need_code : Sts := (.cons (.ife (.not (.cal i_is_code 0 (.cons (.var 0) .nil)))
    (.cons (.rai x_BadRow (.cons (.str "code") (.cons (.var 0) .nil))) .nil)
    .nil) .nil)
def f_need_code : FnI := ⟨("need_code", none), "need_code", ["code"], ["code"], b_need_code, [[]]⟩
/-- is_listed -/
def b_is_listed : Sts := (.cons (.ret (.blt .isi (.cons (.var 0) (.cons (.tup false (.cons (.ty "tuple") (.cons (.ty "list") .nil))) .nil)))) .nil)
def f_is_listed : FnI := ⟨("is_listed", none), "is_listed", ["value"], ["value"], b_is_listed, [[]]⟩
/-- is_whole -/
def b_is_whole : Sts := (.cons (.ife (.or (.not (.blt .isi (.cons (.var 0) (.cons (.ty "int") .nil)))) (.or (.blt .isi (.cons (.var 0) (.cons (.ty "bool") .nil))) (.one (.cmp .lt (.var 0) (.var 1)))))
    (.cons (.ret (.bl false)) .nil)
    .nil) (.cons (.ret (.or (.cmp .is_ (.var 2) .non) (.one (.cmp .le (.var 0) (.var 2))))) .nil))
def f_is_whole : FnI := ⟨("is_whole", none), "is_whole", ["value", "least", "most"], ["value", "least", "most"], b_is_whole, [[], [.non]]⟩
/-- _law_is_path -/
def b__law_is_path_0 : Ex := (.and (.not (.cal i__law_is_name 0 (.cons (.var 2) .nil))) (.one (.not (.cal i__law_is_digits 0 (.cons (.var 2) .nil)))))
def b__law_is_path_1 : Ex := (.var 2)
def b__law_is_path : Sts := (.cons (.ife (.or (.not (.blt .isi (.cons (.var 0) (.cons (.ty "str") .nil)))) (.one (.cmp .gt (.blt .len (.cons (.var 0) .nil)) (.int 60))))
    (.cons (.ret (.bl false)) .nil)
    .nil) (.cons (.asg 1 (.bmt (.split false) (.var 0) (.cons (.str ".") .nil))) (.cons (.ret (.and (.cal i__law_is_name 0 (.cons (.idx (.var 1) (.int 0)) .nil)) (.one (.cmp .eq (.lc false [2] (.v 2) (.ex (.sl false (.var 1) (.some (.int 1)) .no)) (.some b__law_is_path_0) b__law_is_path_1) (.lst false .nil))))) .nil)))
def f__law_is_path : FnI := ⟨("_law_is_path", none), "_law_is_path", ["value"], ["value", "parts", "part"], b__law_is_path, [[]]⟩
/-- Loader.read_end -/
def b_Loader_read_end_0 : Sts := (.cons (.ife (.cmp .nin (.var 4) (.var 3))
    (.cons (.exp (.met i_Loader_refuse 0 (.var 0) (.cons (.var 2) .nil))) .nil)
    .nil) .nil)
def b_Loader_read_end_1 : Ex := (.cmp .in_ (.idx (.var 5) (.int 0)) (.tup false (.cons (.str "past") (.cons (.str "got") (.cons (.str "do") .nil)))))
def b_Loader_read_end_2 : Ex := (.idx (.var 5) (.int 1))
def b_Loader_read_end : Sts := (.cons (.asg 1 (.cal i_sum_over 0 (.cons (.sl false (.fld ["Loader"] "image" (.var 0)) .no (.some (.fld ["Loader"] "at" (.var 0)))) .nil))) (.cons (.asg 2 (.fld ["Loader"] "at" (.var 0))) (.cons (.ife (.cmp .ne (.met i_Loader_number 0 (.var 0) (.cons (.int 2) (.cons (.bin .sub (.bin .mul (.glb j_WIDE) (.glb j_WIDE)) (.int 1)) .nil))) (.var 1))
    (.cons (.exp (.met i_Loader_refuse 0 (.var 0) (.cons (.var 2) .nil))) .nil)
    .nil) (.cons (.ife (.cmp .lt (.fld ["Loader"] "at" (.var 0)) (.blt .len (.cons (.fld ["Loader"] "image" (.var 0)) .nil)))
    (.cons (.exp (.met i_Loader_refuse 0 (.var 0) (.cons (.fld ["Loader"] "at" (.var 0)) .nil))) .nil)
    .nil) (.cons (.asgC 3 (.lc false [5] (.v 5) (.ex (.fld ["Loader"] "rows" (.var 0))) (.some b_Loader_read_end_1) b_Loader_read_end_2)) (.cons (.for_ (.t [4, 2]) (.zip (.cons (.fld ["Loader"] "names" (.var 0)) (.cons (.fld ["Loader"] "starts" (.var 0)) .nil))) b_Loader_read_end_0) .nil))))))
def f_Loader_read_end : FnI := ⟨("Loader", some "read_end"), "Loader.read_end", ["self"], ["self", "due", "begin", "used", "name", "row"], b_Loader_read_end, [[]]⟩
/-- Loader.read_row -/
def b_Loader_read_row_0 : Sts := (.cons (.asg 4 (.bin .add (.var 4) (.tup false (.cons (.met i_Loader_read_part 0 (.var 0) (.cons (.var 5) (.cons (.var 1) .nil))) .nil)))) .nil)
def b_Loader_read_row : Sts := (.cons (.asg 2 (.fld ["Loader"] "at" (.var 0))) (.cons (.asg 3 (.met i_Loader_take 0 (.var 0) .nil)) (.cons (.ife (.cmp .ge (.var 3) (.blt .len (.cons (.glb j_KINDS) .nil)))
    (.cons (.exp (.met i_Loader_refuse 0 (.var 0) (.cons (.var 2) .nil))) .nil)
    .nil) (.cons (.ife (.and (.cmp .eq (.blt .len (.cons (.fld ["Loader"] "rows" (.var 0)) .nil)) (.bin .sub (.var 1) (.int 1))) (.one (.cmp .nin (.idx (.glb j_KINDS) (.var 3)) (.glb j_LAST_WORDS))))
    (.cons (.exp (.met i_Loader_refuse 0 (.var 0) (.cons (.var 2) .nil))) .nil)
    .nil) (.cons (.asg 4 (.tup false (.cons (.idx (.glb j_KINDS) (.var 3)) .nil))) (.cons (.for_ (.v 5) (.ex (.tab k_FORMS (.idx (.glb j_KINDS) (.var 3)))) b_Loader_read_row_0) (.cons (.exp (.bmt .append (.fld ["Loader"] "rows" (.var 0)) (.cons (.var 4) .nil))) (.cons (.exp (.bmt .append (.fld ["Loader"] "places" (.var 0)) (.cons (.var 2) .nil))) .nil))))))))
def f_Loader_read_row : FnI := ⟨("Loader", some "read_row"), "Loader.read_row", ["self", "rows"], ["self", "rows", "begin", "kind", "row", "form"], b_Loader_read_row, [[]]⟩
/-- Loader.read_name -/
def b_Loader_read_name_0 : Sts := (.cons (.asg 5 (.met i_Loader_take 0 (.var 0) .nil)) (.cons (.ife (.cmp .nin (.var 5) (.glb j_NUMBERS))
    (.cons (.exp (.met i_Loader_refuse 0 (.var 0) (.cons (.bin .sub (.fld ["Loader"] "at" (.var 0)) (.int 1)) .nil))) .nil)
    .nil) (.cons (.aug 4 .add (.idx (.glb j_SIGNS) (.bmt .tindex (.glb j_NUMBERS) (.cons (.var 5) .nil)))) .nil)))
def b_Loader_read_name : Sts := (.cons (.par [2, 3, 4] (.cons (.fld ["Loader"] "at" (.var 0)) (.cons (.met i_Loader_take 0 (.var 0) .nil) (.cons (.str "") .nil)))) (.cons (.ife (.not (.chn .le .le (.int 1) (.var 3) (.glb j_MOST_SIGNS)))
    (.cons (.exp (.met i_Loader_refuse 0 (.var 0) (.cons (.var 2) .nil))) .nil)
    .nil) (.cons (.for_ (.v 1) (.rng (.cons (.var 3) .nil)) b_Loader_read_name_0) (.cons (.ife (.or (.not (.cal i_is_path 0 (.cons (.var 4) .nil))) (.one (.and (.cmp .ne (.fld ["Loader"] "names" (.var 0)) (.lst false .nil)) (.one (.cmp .le (.var 4) (.idx (.fld ["Loader"] "names" (.var 0)) (.neg (.int 1))))))))
    (.cons (.exp (.met i_Loader_refuse 0 (.var 0) (.cons (.var 2) .nil))) .nil)
    .nil) (.cons (.exp (.bmt .append (.fld ["Loader"] "names" (.var 0)) (.cons (.var 4) .nil))) (.cons (.exp (.bmt .append (.fld ["Loader"] "starts" (.var 0)) (.cons (.var 2) .nil))) .nil))))))
def f_Loader_read_name : FnI := ⟨("Loader", some "read_name"), "Loader.read_name", ["self"], ["self", "turn", "begin", "many", "name", "number"], b_Loader_read_name, [[]]⟩
/-- Loader.read_head -/
def b_Loader_read_head_0 : Sts := (.cons (.ife (.cmp .ne (.met i_Loader_take 0 (.var 0) .nil) (.var 1))
    (.cons (.exp (.met i_Loader_refuse 0 (.var 0) (.cons (.bin .sub (.fld ["Loader"] "at" (.var 0)) (.int 1)) .nil))) .nil)
    .nil) .nil)
def b_Loader_read_head : Sts := (.cons (.for_ (.v 1) (.ex (.glb j_HEAD)) b_Loader_read_head_0) (.cons (.par [3, 4] (.cons (.met i_Loader_number 0 (.var 0) (.cons (.int 2) (.cons (.bin .sub (.bin .mul (.glb j_WIDE) (.glb j_WIDE)) (.int 1)) .nil))) (.cons (.fld ["Loader"] "at" (.var 0)) .nil))) (.cons (.asg 2 (.met i_Loader_number 0 (.var 0) (.cons (.int 2) (.cons (.bin .add (.glb j_MOST_AT) (.int 1)) .nil)))) (.cons (.ife (.cmp .eq (.var 2) (.int 0))
    (.cons (.exp (.met i_Loader_refuse 0 (.var 0) (.cons (.var 4) .nil))) .nil)
    .nil) (.cons (.ret (.tup false (.cons (.var 3) (.cons (.var 2) .nil)))) .nil)))))
def f_Loader_read_head : FnI := ⟨("Loader", some "read_head"), "Loader.read_head", ["self"], ["self", "due", "rows", "names", "begin"], b_Loader_read_head, [[]]⟩
/-- is_code -/
def b_is_code_0 : Ex := (.cal i_is_row 0 (.cons (.var 1) (.cons (.blt .len (.cons (.var 0) .nil)) .nil)))
def b_is_code : Sts := (.cons (.ife (.or (.not (.blt .isi (.cons (.var 0) (.cons (.ty "tuple") .nil)))) (.one (.not (.chn .le .le (.int 1) (.blt .len (.cons (.var 0) .nil)) (.bin .add (.glb j_MOST_AT) (.int 1))))))
    (.cons (.ret (.bl false)) .nil)
    .nil) (.cons (.ret (.and (.blt .all (.cons (.lc false [1] (.v 1) (.ex (.var 0)) .no b_is_code_0) .nil)) (.one (.cmp .in_ (.idx (.idx (.var 0) (.neg (.int 1))) (.int 0)) (.glb j_LAST_WORDS))))) .nil))
def f_is_code : FnI := ⟨("is_code", none), "is_code", ["value"], ["value", "row"], b_is_code, [[]]⟩
/-- _law_is_name -/
def b__law_is_name_0 : Ex := (.cmp .in_ (.var 1) (.str "abcdefghijklmnopqrstuvwxyz0123456789"))
def b__law_is_name : Sts := (.cons (.ife (.or (.not (.blt .isi (.cons (.var 0) (.cons (.ty "str") .nil)))) (.or (.not (.chn .le .le (.int 1) (.blt .len (.cons (.var 0) .nil)) (.int 12))) (.one (.cmp .nin (.idx (.var 0) (.int 0)) (.str "abcdefghijklmnopqrstuvwxyz")))))
    (.cons (.ret (.bl false)) .nil)
    .nil) (.cons (.ret (.blt .all (.cons (.lc false [1] (.v 1) (.ex (.var 0)) .no b__law_is_name_0) .nil))) .nil))
def f__law_is_name : FnI := ⟨("_law_is_name", none), "_law_is_name", ["value"], ["value", "sign"], b__law_is_name, [[]]⟩
/-- _law_is_digits -/
def b__law_is_digits_0 : Ex := (.cmp .nin (.var 1) (.str "0123456789"))
def b__law_is_digits_1 : Ex := (.var 1)
def b__law_is_digits : Sts := (.cons (.ret (.and (.chn .le .le (.int 1) (.blt .len (.cons (.var 0) .nil)) (.int 9)) (.and (.cmp .eq (.lc false [1] (.v 1) (.ex (.var 0)) (.some b__law_is_digits_0) b__law_is_digits_1) (.lst false .nil)) (.one (.or (.cmp .eq (.var 0) (.str "0")) (.one (.cmp .ne (.idx (.var 0) (.int 0)) (.str "0")))))))) .nil)
def f__law_is_digits : FnI := ⟨("_law_is_digits", none), "_law_is_digits", ["text"], ["text", "sign"], b__law_is_digits, [[]]⟩
/-- Loader.refuse -/
def b_Loader_refuse : Sts := (.cons (.rai x_BadNumber (.cons (.str "place") (.cons (.var 1) .nil))) .nil)
def f_Loader_refuse : FnI := ⟨("Loader", some "refuse"), "Loader.refuse", ["self", "at"], ["self", "at"], b_Loader_refuse, [[]]⟩
/-- Loader.number -/
def b_Loader_number_0 : Sts := (.cons (.asg 5 (.bin .add (.bin .mul (.var 5) (.glb j_WIDE)) (.met i_Loader_take 0 (.var 0) .nil))) .nil)
def b_Loader_number : Sts := (.cons (.par [4, 5] (.cons (.fld ["Loader"] "at" (.var 0)) (.cons (.int 0) .nil))) (.cons (.for_ (.v 3) (.rng (.cons (.var 1) .nil)) b_Loader_number_0) (.cons (.ife (.cmp .gt (.var 5) (.var 2))
    (.cons (.exp (.met i_Loader_refuse 0 (.var 0) (.cons (.var 4) .nil))) .nil)
    .nil) (.cons (.ret (.var 5)) .nil))))
def f_Loader_number : FnI := ⟨("Loader", some "number"), "Loader.number", ["self", "many", "most"], ["self", "many", "most", "turn", "begin", "found"], b_Loader_number, [[]]⟩
/-- Loader.read_part -/
def b_Loader_read_part : Sts := (.cons (.ife (.cmp .eq (.var 1) (.str "path"))
    (.cons (.ret (.idx (.fld ["Loader"] "names" (.var 0)) (.met i_Loader_number 0 (.var 0) (.cons (.int 2) (.cons (.bin .sub (.blt .len (.cons (.fld ["Loader"] "names" (.var 0)) .nil)) (.int 1)) .nil))))) .nil)
    .nil) (.cons (.ret (.ite (.cmp .eq (.var 1) (.str "number")) (.met i_Loader_number 0 (.var 0) (.cons (.int 3) (.cons (.glb j_MOST_NUMBER) .nil))) (.met i_Loader_number 0 (.var 0) (.cons (.int 2) (.cons (.bin .sub (.var 2) (.int 1)) .nil))))) .nil))
def f_Loader_read_part : FnI := ⟨("Loader", some "read_part"), "Loader.read_part", ["self", "form", "rows"], ["self", "form", "rows"], b_Loader_read_part, [[]]⟩
/-- Loader.take -/
def b_Loader_take : Sts := (.cons (.ife (.cmp .eq (.fld ["Loader"] "at" (.var 0)) (.blt .len (.cons (.fld ["Loader"] "image" (.var 0)) .nil)))
    (.cons (.exp (.met i_Loader_refuse 0 (.var 0) (.cons (.fld ["Loader"] "at" (.var 0)) .nil))) .nil)
    .nil) (.cons (.flda "Loader" "at" .add (.var 0) (.int 1)) (.cons (.ret (.idx (.fld ["Loader"] "image" (.var 0)) (.bin .sub (.fld ["Loader"] "at" (.var 0)) (.int 1)))) .nil)))
def f_Loader_take : FnI := ⟨("Loader", some "take"), "Loader.take", ["self"], ["self"], b_Loader_take, [[]]⟩
/-- is_path -/
def b_is_path_0 : Ex := (.or (.cal i_is_plain_name 0 (.cons (.var 2) .nil)) (.one (.cal i_is_numeral 0 (.cons (.var 2) .nil))))
def b_is_path : Sts := (.cons (.ife (.or (.not (.blt .isi (.cons (.var 0) (.cons (.ty "str") .nil)))) (.one (.cmp .gt (.blt .len (.cons (.var 0) .nil)) (.glb j_LONGEST_PATH))))
    (.cons (.ret (.bl false)) .nil)
    .nil) (.cons (.asg 1 (.bmt (.split false) (.var 0) (.cons (.str ".") .nil))) (.cons (.ret (.and (.cal i_is_plain_name 0 (.cons (.idx (.var 1) (.int 0)) .nil)) (.one (.blt .all (.cons (.lc false [2] (.v 2) (.ex (.sl false (.var 1) (.some (.int 1)) .no)) .no b_is_path_0) .nil))))) .nil)))
def f_is_path : FnI := ⟨("is_path", none), "is_path", ["value"], ["value", "parts", "part"], b_is_path, [[]]⟩
/-- is_row -/
def b_is_row_0 : Ex := (.cal i_is_part 0 (.cons (.var 3) (.cons (.var 4) (.cons (.var 1) .nil))))
def b_is_row : Sts := (.cons (.ife (.or (.not (.blt .isi (.cons (.var 0) (.cons (.ty "tuple") .nil)))) (.or (.cmp .eq (.var 0) (.tup false .nil)) (.or (.not (.blt .isi (.cons (.idx (.var 0) (.int 0)) (.cons (.ty "str") .nil)))) (.one (.itb true k_FORMS (.idx (.var 0) (.int 0)))))))
    (.cons (.ret (.bl false)) .nil)
    .nil) (.cons (.asg 2 (.tab k_FORMS (.idx (.var 0) (.int 0)))) (.cons (.ife (.cmp .ne (.blt .len (.cons (.var 0) .nil)) (.bin .add (.int 1) (.blt .len (.cons (.var 2) .nil))))
    (.cons (.ret (.bl false)) .nil)
    .nil) (.cons (.ret (.blt .all (.cons (.lc false [3, 4] (.t [3, 4]) (.zip (.cons (.var 2) (.cons (.sl false (.var 0) (.some (.int 1)) .no) .nil))) .no b_is_row_0) .nil))) .nil))))
def f_is_row : FnI := ⟨("is_row", none), "is_row", ["value", "size"], ["value", "size", "form", "one", "part"], b_is_row, [[]]⟩
/-- is_plain_name -/
def b_is_plain_name_0 : Ex := (.or (.cmp .in_ (.var 1) (.glb j_LETTERS)) (.one (.cmp .in_ (.var 1) (.glb j_FIGURES))))
def b_is_plain_name : Sts := (.cons (.ife (.or (.not (.chn .le .le (.int 1) (.blt .len (.cons (.var 0) .nil)) (.glb j_LONGEST_NAME))) (.one (.cmp .nin (.idx (.var 0) (.int 0)) (.glb j_LETTERS))))
    (.cons (.ret (.bl false)) .nil)
    .nil) (.cons (.ret (.blt .all (.cons (.lc false [1] (.v 1) (.ex (.var 0)) .no b_is_plain_name_0) .nil))) .nil))
def f_is_plain_name : FnI := ⟨("is_plain_name", none), "is_plain_name", ["text"], ["text", "sign"], b_is_plain_name, [[]]⟩
/-- is_numeral -/
def b_is_numeral_0 : Ex := (.cmp .in_ (.var 1) (.glb j_FIGURES))
def b_is_numeral : Sts := (.cons (.ife (.or (.not (.chn .le .le (.int 1) (.blt .len (.cons (.var 0) .nil)) (.int 9))) (.one (.not (.blt .all (.cons (.lc false [1] (.v 1) (.ex (.var 0)) .no b_is_numeral_0) .nil)))))
    (.cons (.ret (.bl false)) .nil)
    .nil) (.cons (.ret (.or (.cmp .eq (.var 0) (.str "0")) (.one (.cmp .ne (.idx (.var 0) (.int 0)) (.str "0"))))) .nil))
def f_is_numeral : FnI := ⟨("is_numeral", none), "is_numeral", ["text"], ["text", "sign"], b_is_numeral, [[]]⟩
/-- is_part -/
def b_is_part : Sts := (.cons (.ife (.cmp .eq (.var 0) (.str "path"))
    (.cons (.ret (.cal i_is_path 0 (.cons (.var 1) .nil))) .nil)
    .nil) (.cons (.ret (.ite (.cmp .eq (.var 0) (.str "number")) (.cal i_is_whole 0 (.cons (.var 1) (.cons (.int 0) (.cons (.glb j_MOST_NUMBER) .nil)))) (.cal i_is_whole 0 (.cons (.var 1) (.cons (.int 0) (.cons (.bin .sub (.var 2) (.int 1)) .nil)))))) .nil))
def f_is_part : FnI := ⟨("is_part", none), "is_part", ["form", "value", "size"], ["form", "value", "size"], b_is_part, [[]]⟩
def v_HEAD : D := (.tup [(.int 75), (.int 72), (.int 1)])
def v_WIDE : D := (.int 256)
def v_FACTOR : D := (.int 31)
def v_PRIME : D := (.int 65521)
def v_KINDS : D := (.tpx [(.str "past"), (.str "got"), (.str "do"), (.str "go"), (.str "rest"), (.str "stop")])
def v_NUMBERS : D := (.tpx [(.int 97), (.int 98), (.int 99), (.int 100), (.int 101), (.int 102), (.int 103), (.int 104), (.int 105), (.int 106), (.int 107), (.int 108), (.int 109), (.int 110), (.int 111), (.int 112), (.int 113), (.int 114), (.int 115), (.int 116), (.int 117), (.int 118), (.int 119), (.int 120), (.int 121), (.int 122), (.int 48), (.int 49), (.int 50), (.int 51), (.int 52), (.int 53), (.int 54), (.int 55), (.int 56), (.int 57), (.int 46)])
def v_SIGNS : D := (.str "abcdefghijklmnopqrstuvwxyz0123456789.")
def v_LAST_WORDS : D := (.tup [(.str "go"), (.str "rest"), (.str "stop")])
def v_MOST_SIGNS : D := (.int 60)
def v_MOST_AT : D := (.int 9999)
def v_MOST_NUMBER : D := (.int 1000000)
def v_LONGEST_PATH : D := (.int 60)
def v_LETTERS : D := (.str "abcdefghijklmnopqrstuvwxyz")
def v_FIGURES : D := (.str "0123456789")
def v_LONGEST_NAME : D := (.int 12)
def glbs : List (Str × D) := [("HEAD", v_HEAD), ("WIDE", v_WIDE), ("FACTOR", v_FACTOR), ("PRIME", v_PRIME), ("KINDS", v_KINDS), ("NUMBERS", v_NUMBERS), ("SIGNS", v_SIGNS), ("LAST_WORDS", v_LAST_WORDS), ("MOST_SIGNS", v_MOST_SIGNS), ("MOST_AT", v_MOST_AT), ("MOST_NUMBER", v_MOST_NUMBER), ("LONGEST_PATH", v_LONGEST_PATH), ("LETTERS", v_LETTERS), ("FIGURES", v_FIGURES), ("LONGEST_NAME", v_LONGEST_NAME)]
def u_FORMS : List (Str × D) := [("past", (.tup [(.str "path"), (.str "number"), (.str "at")])), ("got", (.tup [(.str "path"), (.str "at")])), ("do", (.tup [(.str "path")])), ("go", (.tup [(.str "at")])), ("rest", (.tup [])), ("stop", (.tup []))]
def tabs : List (Str × List (Str × D)) := [("FORMS", u_FORMS)]
def g__law_fault : FltI := ⟨"_law_fault", [⟨"BadName", (some 1), (.tup [(.c (.str "BadName")), (.f "name")])⟩, ⟨"BadNumber", (some 1), (.tup [(.c (.str "BadNumber")), (.f "what"), (.f "number")])⟩, ⟨"BadRow", (some 1), (.tup [(.c (.str "BadRow")), (.f "what"), (.f "row")])⟩, ⟨"NoName", (some 1), (.tup [(.c (.str "NoName")), (.f "name")])⟩, ⟨"TakenName", (some 1), (.tup [(.c (.str "TakenName")), (.f "name")])⟩, ⟨"Unlike", (some 1), (.tup [(.c (.str "Unlike")), (.f "what")])⟩, ⟨"NotThere", (some 1), (.tup [(.c (.str "NotThere")), (.f "what")])⟩, ⟨"TooMany", (some 1), (.tup [(.c (.str "TooMany")), (.f "what"), (.f "many"), (.f "limit")])⟩], [("BadName", [true, false, false, false, false, false, false, false]), ("BadNumber", [false, true, false, false, false, false, false, false]), ("BadRow", [false, false, true, false, false, false, false, false]), ("NoName", [false, false, false, true, false, false, false, false]), ("TakenName", [false, false, false, false, true, false, false, false]), ("Unlike", [false, false, false, false, false, true, false, false]), ("NotThere", [false, false, false, false, false, false, true, false]), ("TooMany", [false, false, false, false, false, false, false, true])]⟩
def Γ : Tx where
  glbs := glbs
  tabs := tabs
  fns := [f_law, f_image_read, f_image_of, f__law_equal, f_is_image, f_sum_of, f__law_pick, f__law_same, f__law_sum, f__law_draw, f__law_wrong_at, f__law_bent, f__law_image, f__law_some_code, f__law_pen, f_loader_of, f_pair_of, f_sum_over, f_row_bytes, f_name_bytes, f_moments_of, f_are_bytes, f__law_number, f__law_read_names, f__law_pair, f__law_sign, f_Loader_read, f_Loader_init, f_triple_of, f_need_code, f_is_listed, f_is_whole, f__law_is_path, f_Loader_read_end, f_Loader_read_row, f_Loader_read_name, f_Loader_read_head, f_is_code, f__law_is_name, f__law_is_digits, f_Loader_refuse, f_Loader_number, f_Loader_read_part, f_Loader_take, f_is_path, f_is_row, f_is_plain_name, f_is_numeral, f_is_part]
  flts := [g__law_fault]
  excs := [("BadRow", ["what", "row"]), ("BadNumber", ["what", "number"])]
  free := ["all", "bool", "enumerate", "int", "isinstance", "len", "list", "min", "range", "set", "sorted", "str", "tuple", "zip"]
  flds := [("Loader", ["at", "image", "names", "places", "rows", "starts"])]
  exms := [(("BadName" : Str), ("BadName" : Str), true), (("BadName" : Str), ("BadNumber" : Str), false), (("BadName" : Str), ("BadRow" : Str), false), (("BadName" : Str), ("NoName" : Str), false), (("BadName" : Str), ("NotThere" : Str), false), (("BadName" : Str), ("TakenName" : Str), false), (("BadName" : Str), ("TooMany" : Str), false), (("BadName" : Str), ("Unlike" : Str), false), (("BadNumber" : Str), ("BadName" : Str), false), (("BadNumber" : Str), ("BadNumber" : Str), true), (("BadNumber" : Str), ("BadRow" : Str), false), (("BadNumber" : Str), ("NoName" : Str), false), (("BadNumber" : Str), ("NotThere" : Str), false), (("BadNumber" : Str), ("TakenName" : Str), false), (("BadNumber" : Str), ("TooMany" : Str), false), (("BadNumber" : Str), ("Unlike" : Str), false), (("BadRow" : Str), ("BadName" : Str), false), (("BadRow" : Str), ("BadNumber" : Str), false), (("BadRow" : Str), ("BadRow" : Str), true), (("BadRow" : Str), ("NoName" : Str), false), (("BadRow" : Str), ("NotThere" : Str), false), (("BadRow" : Str), ("TakenName" : Str), false), (("BadRow" : Str), ("TooMany" : Str), false), (("BadRow" : Str), ("Unlike" : Str), false), (("NoName" : Str), ("BadName" : Str), false), (("NoName" : Str), ("BadNumber" : Str), false), (("NoName" : Str), ("BadRow" : Str), false), (("NoName" : Str), ("NoName" : Str), true), (("NoName" : Str), ("NotThere" : Str), false), (("NoName" : Str), ("TakenName" : Str), false), (("NoName" : Str), ("TooMany" : Str), false), (("NoName" : Str), ("Unlike" : Str), false), (("NotThere" : Str), ("BadName" : Str), false), (("NotThere" : Str), ("BadNumber" : Str), false), (("NotThere" : Str), ("BadRow" : Str), false), (("NotThere" : Str), ("NoName" : Str), false), (("NotThere" : Str), ("NotThere" : Str), true), (("NotThere" : Str), ("TakenName" : Str), false), (("NotThere" : Str), ("TooMany" : Str), false), (("NotThere" : Str), ("Unlike" : Str), false), (("TakenName" : Str), ("BadName" : Str), false), (("TakenName" : Str), ("BadNumber" : Str), false), (("TakenName" : Str), ("BadRow" : Str), false), (("TakenName" : Str), ("NoName" : Str), false), (("TakenName" : Str), ("NotThere" : Str), false), (("TakenName" : Str), ("TakenName" : Str), true), (("TakenName" : Str), ("TooMany" : Str), false), (("TakenName" : Str), ("Unlike" : Str), false), (("TooMany" : Str), ("BadName" : Str), false), (("TooMany" : Str), ("BadNumber" : Str), false), (("TooMany" : Str), ("BadRow" : Str), false), (("TooMany" : Str), ("NoName" : Str), false), (("TooMany" : Str), ("NotThere" : Str), false), (("TooMany" : Str), ("TakenName" : Str), false), (("TooMany" : Str), ("TooMany" : Str), true), (("TooMany" : Str), ("Unlike" : Str), false), (("Unlike" : Str), ("BadName" : Str), false), (("Unlike" : Str), ("BadNumber" : Str), false), (("Unlike" : Str), ("BadRow" : Str), false), (("Unlike" : Str), ("NoName" : Str), false), (("Unlike" : Str), ("NotThere" : Str), false), (("Unlike" : Str), ("TakenName" : Str), false), (("Unlike" : Str), ("TooMany" : Str), false), (("Unlike" : Str), ("Unlike" : Str), true)]
  xfs := [(("BadName" : Str), ("limit" : Str)), (("BadName" : Str), ("many" : Str)), (("BadName" : Str), ("name" : Str)), (("BadName" : Str), ("number" : Str)), (("BadName" : Str), ("row" : Str)), (("BadName" : Str), ("what" : Str)), (("BadNumber" : Str), ("limit" : Str)), (("BadNumber" : Str), ("many" : Str)), (("BadNumber" : Str), ("name" : Str)), (("BadNumber" : Str), ("number" : Str)), (("BadNumber" : Str), ("row" : Str)), (("BadNumber" : Str), ("what" : Str)), (("BadRow" : Str), ("limit" : Str)), (("BadRow" : Str), ("many" : Str)), (("BadRow" : Str), ("name" : Str)), (("BadRow" : Str), ("number" : Str)), (("BadRow" : Str), ("row" : Str)), (("BadRow" : Str), ("what" : Str)), (("NoName" : Str), ("limit" : Str)), (("NoName" : Str), ("many" : Str)), (("NoName" : Str), ("name" : Str)), (("NoName" : Str), ("number" : Str)), (("NoName" : Str), ("row" : Str)), (("NoName" : Str), ("what" : Str)), (("NotThere" : Str), ("limit" : Str)), (("NotThere" : Str), ("many" : Str)), (("NotThere" : Str), ("name" : Str)), (("NotThere" : Str), ("number" : Str)), (("NotThere" : Str), ("row" : Str)), (("NotThere" : Str), ("what" : Str)), (("TakenName" : Str), ("limit" : Str)), (("TakenName" : Str), ("many" : Str)), (("TakenName" : Str), ("name" : Str)), (("TakenName" : Str), ("number" : Str)), (("TakenName" : Str), ("row" : Str)), (("TakenName" : Str), ("what" : Str)), (("TooMany" : Str), ("limit" : Str)), (("TooMany" : Str), ("many" : Str)), (("TooMany" : Str), ("name" : Str)), (("TooMany" : Str), ("number" : Str)), (("TooMany" : Str), ("row" : Str)), (("TooMany" : Str), ("what" : Str)), (("Unlike" : Str), ("limit" : Str)), (("Unlike" : Str), ("many" : Str)), (("Unlike" : Str), ("name" : Str)), (("Unlike" : Str), ("number" : Str)), (("Unlike" : Str), ("row" : Str)), (("Unlike" : Str), ("what" : Str))]
  clss := ["BadName", "BadNumber", "BadRow", "NoName", "NotThere", "TakenName", "TooMany", "Unlike"]
section
variable {Os : List Orc} {ρ : Ev} {S : Hs}
@[simp ↓] theorem eg_HEAD : ev Γ Os (.glb j_HEAD) ρ S = .ok v_HEAD S := (rfl)
@[simp ↓] theorem eg_WIDE : ev Γ Os (.glb j_WIDE) ρ S = .ok (.int 256) S := (rfl)
@[simp ↓] theorem eg_FACTOR : ev Γ Os (.glb j_FACTOR) ρ S = .ok (.int 31) S := (rfl)
@[simp ↓] theorem eg_PRIME : ev Γ Os (.glb j_PRIME) ρ S = .ok (.int 65521) S := (rfl)
@[simp ↓] theorem eg_KINDS : ev Γ Os (.glb j_KINDS) ρ S = .ok v_KINDS S := (rfl)
@[simp ↓] theorem eg_NUMBERS : ev Γ Os (.glb j_NUMBERS) ρ S = .ok v_NUMBERS S := (rfl)
@[simp ↓] theorem eg_SIGNS : ev Γ Os (.glb j_SIGNS) ρ S = .ok (.str "abcdefghijklmnopqrstuvwxyz0123456789.") S := (rfl)
@[simp ↓] theorem eg_LAST_WORDS : ev Γ Os (.glb j_LAST_WORDS) ρ S = .ok v_LAST_WORDS S := (rfl)
@[simp ↓] theorem eg_MOST_SIGNS : ev Γ Os (.glb j_MOST_SIGNS) ρ S = .ok (.int 60) S := (rfl)
@[simp ↓] theorem eg_MOST_AT : ev Γ Os (.glb j_MOST_AT) ρ S = .ok (.int 9999) S := (rfl)
@[simp ↓] theorem eg_MOST_NUMBER : ev Γ Os (.glb j_MOST_NUMBER) ρ S = .ok (.int 1000000) S := (rfl)
@[simp ↓] theorem eg_LONGEST_PATH : ev Γ Os (.glb j_LONGEST_PATH) ρ S = .ok (.int 60) S := (rfl)
@[simp ↓] theorem eg_LETTERS : ev Γ Os (.glb j_LETTERS) ρ S = .ok (.str "abcdefghijklmnopqrstuvwxyz") S := (rfl)
@[simp ↓] theorem eg_FIGURES : ev Γ Os (.glb j_FIGURES) ρ S = .ok (.str "0123456789") S := (rfl)
@[simp ↓] theorem eg_LONGEST_NAME : ev Γ Os (.glb j_LONGEST_NAME) ρ S = .ok (.int 12) S := (rfl)
@[simp ↓] theorem et_FORMS {a : Ex} : ev Γ Os (.tab k_FORMS a) ρ S = bn (gTab u_FORMS) (ev Γ Os a ρ S) .mk := ev_tab rfl
@[simp ↓] theorem ei_FORMS {ng : Bool} {a : Ex} : ev Γ Os (.itb ng k_FORMS a) ρ S = bn (gInTab ng u_FORMS) (ev Γ Os a ρ S) .mk := ev_itb rfl
@[simp ↓] theorem el__law_fault {e : Ex} : ev Γ Os (.lam l__law_fault e) ρ S = if Os.length = 0 then .stuck else specF g__law_fault.cs g__law_fault.tb (ev Γ Os.tail e ρ) S := ev_lam rfl
@[simp ↓] theorem ex_BadRow {es : Exs} : sv Γ Os (.rai x_BadRow es) ρ S = tk ρ (fun xs S1 => if xs.length = (["what", "row"] : List Str).length then .exc "BadRow" ((["what", "row"] : List Str).zip xs).reverse ρ S1 else .stuck) (evs Γ Os es ρ S) .mk := sv_rai rfl
@[simp ↓] theorem ex_BadNumber {es : Exs} : sv Γ Os (.rai x_BadNumber es) ρ S = tk ρ (fun xs S1 => if xs.length = (["what", "number"] : List Str).length then .exc "BadNumber" ((["what", "number"] : List Str).zip xs).reverse ρ S1 else .stuck) (evs Γ Os es ρ S) .mk := sv_rai rfl
theorem run_law {n : Nat} {ds : List D} (hn : 1 ≤ n) : hd (specs Γ n) i_law ds S = runFn Γ (specs Γ (n - 1)) f_law ds S := hd_at hn (F := f_law) rfl rfl
theorem run_image_read {n : Nat} {ds : List D} (hn : 1 ≤ n) : hd (specs Γ n) i_image_read ds S = runFn Γ (specs Γ (n - 1)) f_image_read ds S := hd_at hn (F := f_image_read) rfl rfl
theorem run_image_of {n : Nat} {ds : List D} (hn : 1 ≤ n) : hd (specs Γ n) i_image_of ds S = runFn Γ (specs Γ (n - 1)) f_image_of ds S := hd_at hn (F := f_image_of) rfl rfl
theorem run__law_equal {n : Nat} {ds : List D} (hn : 1 ≤ n) : hd (specs Γ n) i__law_equal ds S = runFn Γ (specs Γ (n - 1)) f__law_equal ds S := hd_at hn (F := f__law_equal) rfl rfl
theorem run_is_image {n : Nat} {ds : List D} (hn : 1 ≤ n) : hd (specs Γ n) i_is_image ds S = runFn Γ (specs Γ (n - 1)) f_is_image ds S := hd_at hn (F := f_is_image) rfl rfl
theorem run_sum_of {n : Nat} {ds : List D} (hn : 1 ≤ n) : hd (specs Γ n) i_sum_of ds S = runFn Γ (specs Γ (n - 1)) f_sum_of ds S := hd_at hn (F := f_sum_of) rfl rfl
theorem run__law_pick {n : Nat} {ds : List D} (hn : 1 ≤ n) : hd (specs Γ n) i__law_pick ds S = runFn Γ (specs Γ (n - 1)) f__law_pick ds S := hd_at hn (F := f__law_pick) rfl rfl
theorem run__law_same {n : Nat} {ds : List D} (hn : 1 ≤ n) : hd (specs Γ n) i__law_same ds S = runFn Γ (specs Γ (n - 1)) f__law_same ds S := hd_at hn (F := f__law_same) rfl rfl
theorem run__law_sum {n : Nat} {ds : List D} (hn : 1 ≤ n) : hd (specs Γ n) i__law_sum ds S = runFn Γ (specs Γ (n - 1)) f__law_sum ds S := hd_at hn (F := f__law_sum) rfl rfl
theorem run__law_draw {n : Nat} {ds : List D} (hn : 1 ≤ n) : hd (specs Γ n) i__law_draw ds S = runFn Γ (specs Γ (n - 1)) f__law_draw ds S := hd_at hn (F := f__law_draw) rfl rfl
theorem run__law_wrong_at {n : Nat} {ds : List D} (hn : 1 ≤ n) : hd (specs Γ n) i__law_wrong_at ds S = runFn Γ (specs Γ (n - 1)) f__law_wrong_at ds S := hd_at hn (F := f__law_wrong_at) rfl rfl
theorem run__law_bent {n : Nat} {ds : List D} (hn : 1 ≤ n) : hd (specs Γ n) i__law_bent ds S = runFn Γ (specs Γ (n - 1)) f__law_bent ds S := hd_at hn (F := f__law_bent) rfl rfl
theorem run__law_image {n : Nat} {ds : List D} (hn : 1 ≤ n) : hd (specs Γ n) i__law_image ds S = runFn Γ (specs Γ (n - 1)) f__law_image ds S := hd_at hn (F := f__law_image) rfl rfl
theorem run__law_some_code {n : Nat} {ds : List D} (hn : 1 ≤ n) : hd (specs Γ n) i__law_some_code ds S = runFn Γ (specs Γ (n - 1)) f__law_some_code ds S := hd_at hn (F := f__law_some_code) rfl rfl
theorem run__law_pen {n : Nat} {ds : List D} (hn : 1 ≤ n) : hd (specs Γ n) i__law_pen ds S = runFn Γ (specs Γ (n - 1)) f__law_pen ds S := hd_at hn (F := f__law_pen) rfl rfl
theorem run_loader_of {n : Nat} {ds : List D} (hn : 1 ≤ n) : hd (specs Γ n) i_loader_of ds S = runFn Γ (specs Γ (n - 1)) f_loader_of ds S := hd_at hn (F := f_loader_of) rfl rfl
theorem run_pair_of {n : Nat} {ds : List D} (hn : 1 ≤ n) : hd (specs Γ n) i_pair_of ds S = runFn Γ (specs Γ (n - 1)) f_pair_of ds S := hd_at hn (F := f_pair_of) rfl rfl
theorem run_sum_over {n : Nat} {ds : List D} (hn : 1 ≤ n) : hd (specs Γ n) i_sum_over ds S = runFn Γ (specs Γ (n - 1)) f_sum_over ds S := hd_at hn (F := f_sum_over) rfl rfl
theorem run_row_bytes {n : Nat} {ds : List D} (hn : 1 ≤ n) : hd (specs Γ n) i_row_bytes ds S = runFn Γ (specs Γ (n - 1)) f_row_bytes ds S := hd_at hn (F := f_row_bytes) rfl rfl
theorem run_name_bytes {n : Nat} {ds : List D} (hn : 1 ≤ n) : hd (specs Γ n) i_name_bytes ds S = runFn Γ (specs Γ (n - 1)) f_name_bytes ds S := hd_at hn (F := f_name_bytes) rfl rfl
theorem run_moments_of {n : Nat} {ds : List D} (hn : 1 ≤ n) : hd (specs Γ n) i_moments_of ds S = runFn Γ (specs Γ (n - 1)) f_moments_of ds S := hd_at hn (F := f_moments_of) rfl rfl
theorem run_are_bytes {n : Nat} {ds : List D} (hn : 1 ≤ n) : hd (specs Γ n) i_are_bytes ds S = runFn Γ (specs Γ (n - 1)) f_are_bytes ds S := hd_at hn (F := f_are_bytes) rfl rfl
theorem run__law_number {n : Nat} {ds : List D} (hn : 1 ≤ n) : hd (specs Γ n) i__law_number ds S = runFn Γ (specs Γ (n - 1)) f__law_number ds S := hd_at hn (F := f__law_number) rfl rfl
theorem run__law_read_names {n : Nat} {ds : List D} (hn : 1 ≤ n) : hd (specs Γ n) i__law_read_names ds S = runFn Γ (specs Γ (n - 1)) f__law_read_names ds S := hd_at hn (F := f__law_read_names) rfl rfl
theorem run__law_pair {n : Nat} {ds : List D} (hn : 1 ≤ n) : hd (specs Γ n) i__law_pair ds S = runFn Γ (specs Γ (n - 1)) f__law_pair ds S := hd_at hn (F := f__law_pair) rfl rfl
theorem run__law_sign {n : Nat} {ds : List D} (hn : 1 ≤ n) : hd (specs Γ n) i__law_sign ds S = runFn Γ (specs Γ (n - 1)) f__law_sign ds S := hd_at hn (F := f__law_sign) rfl rfl
theorem run_Loader_read {n : Nat} {ds : List D} (hn : 1 ≤ n) : hd (specs Γ n) i_Loader_read ds S = runFn Γ (specs Γ (n - 1)) f_Loader_read ds S := hd_at hn (F := f_Loader_read) rfl rfl
theorem run_Loader_init {n : Nat} {ds : List D} (hn : 1 ≤ n) : hd (specs Γ n) i_Loader_init ds S = runFn Γ (specs Γ (n - 1)) f_Loader_init ds S := hd_at hn (F := f_Loader_init) rfl rfl
theorem run_triple_of {n : Nat} {ds : List D} (hn : 1 ≤ n) : hd (specs Γ n) i_triple_of ds S = runFn Γ (specs Γ (n - 1)) f_triple_of ds S := hd_at hn (F := f_triple_of) rfl rfl
theorem run_need_code {n : Nat} {ds : List D} (hn : 1 ≤ n) : hd (specs Γ n) i_need_code ds S = runFn Γ (specs Γ (n - 1)) f_need_code ds S := hd_at hn (F := f_need_code) rfl rfl
theorem run_is_listed {n : Nat} {ds : List D} (hn : 1 ≤ n) : hd (specs Γ n) i_is_listed ds S = runFn Γ (specs Γ (n - 1)) f_is_listed ds S := hd_at hn (F := f_is_listed) rfl rfl
theorem run_is_whole {n : Nat} {ds : List D} (hn : 1 ≤ n) : hd (specs Γ n) i_is_whole ds S = runFn Γ (specs Γ (n - 1)) f_is_whole ds S := hd_at hn (F := f_is_whole) rfl rfl
theorem run__law_is_path {n : Nat} {ds : List D} (hn : 1 ≤ n) : hd (specs Γ n) i__law_is_path ds S = runFn Γ (specs Γ (n - 1)) f__law_is_path ds S := hd_at hn (F := f__law_is_path) rfl rfl
theorem run_Loader_read_end {n : Nat} {ds : List D} (hn : 1 ≤ n) : hd (specs Γ n) i_Loader_read_end ds S = runFn Γ (specs Γ (n - 1)) f_Loader_read_end ds S := hd_at hn (F := f_Loader_read_end) rfl rfl
theorem run_Loader_read_row {n : Nat} {ds : List D} (hn : 1 ≤ n) : hd (specs Γ n) i_Loader_read_row ds S = runFn Γ (specs Γ (n - 1)) f_Loader_read_row ds S := hd_at hn (F := f_Loader_read_row) rfl rfl
theorem run_Loader_read_name {n : Nat} {ds : List D} (hn : 1 ≤ n) : hd (specs Γ n) i_Loader_read_name ds S = runFn Γ (specs Γ (n - 1)) f_Loader_read_name ds S := hd_at hn (F := f_Loader_read_name) rfl rfl
theorem run_Loader_read_head {n : Nat} {ds : List D} (hn : 1 ≤ n) : hd (specs Γ n) i_Loader_read_head ds S = runFn Γ (specs Γ (n - 1)) f_Loader_read_head ds S := hd_at hn (F := f_Loader_read_head) rfl rfl
theorem run_is_code {n : Nat} {ds : List D} (hn : 1 ≤ n) : hd (specs Γ n) i_is_code ds S = runFn Γ (specs Γ (n - 1)) f_is_code ds S := hd_at hn (F := f_is_code) rfl rfl
theorem run__law_is_name {n : Nat} {ds : List D} (hn : 1 ≤ n) : hd (specs Γ n) i__law_is_name ds S = runFn Γ (specs Γ (n - 1)) f__law_is_name ds S := hd_at hn (F := f__law_is_name) rfl rfl
theorem run__law_is_digits {n : Nat} {ds : List D} (hn : 1 ≤ n) : hd (specs Γ n) i__law_is_digits ds S = runFn Γ (specs Γ (n - 1)) f__law_is_digits ds S := hd_at hn (F := f__law_is_digits) rfl rfl
theorem run_Loader_refuse {n : Nat} {ds : List D} (hn : 1 ≤ n) : hd (specs Γ n) i_Loader_refuse ds S = runFn Γ (specs Γ (n - 1)) f_Loader_refuse ds S := hd_at hn (F := f_Loader_refuse) rfl rfl
theorem run_Loader_number {n : Nat} {ds : List D} (hn : 1 ≤ n) : hd (specs Γ n) i_Loader_number ds S = runFn Γ (specs Γ (n - 1)) f_Loader_number ds S := hd_at hn (F := f_Loader_number) rfl rfl
theorem run_Loader_read_part {n : Nat} {ds : List D} (hn : 1 ≤ n) : hd (specs Γ n) i_Loader_read_part ds S = runFn Γ (specs Γ (n - 1)) f_Loader_read_part ds S := hd_at hn (F := f_Loader_read_part) rfl rfl
theorem run_Loader_take {n : Nat} {ds : List D} (hn : 1 ≤ n) : hd (specs Γ n) i_Loader_take ds S = runFn Γ (specs Γ (n - 1)) f_Loader_take ds S := hd_at hn (F := f_Loader_take) rfl rfl
theorem run_is_path {n : Nat} {ds : List D} (hn : 1 ≤ n) : hd (specs Γ n) i_is_path ds S = runFn Γ (specs Γ (n - 1)) f_is_path ds S := hd_at hn (F := f_is_path) rfl rfl
theorem run_is_row {n : Nat} {ds : List D} (hn : 1 ≤ n) : hd (specs Γ n) i_is_row ds S = runFn Γ (specs Γ (n - 1)) f_is_row ds S := hd_at hn (F := f_is_row) rfl rfl
theorem run_is_plain_name {n : Nat} {ds : List D} (hn : 1 ≤ n) : hd (specs Γ n) i_is_plain_name ds S = runFn Γ (specs Γ (n - 1)) f_is_plain_name ds S := hd_at hn (F := f_is_plain_name) rfl rfl
theorem run_is_numeral {n : Nat} {ds : List D} (hn : 1 ≤ n) : hd (specs Γ n) i_is_numeral ds S = runFn Γ (specs Γ (n - 1)) f_is_numeral ds S := hd_at hn (F := f_is_numeral) rfl rfl
theorem run_is_part {n : Nat} {ds : List D} (hn : 1 ≤ n) : hd (specs Γ n) i_is_part ds S = runFn Γ (specs Γ (n - 1)) f_is_part ds S := hd_at hn (F := f_is_part) rfl rfl
@[simp ↓] theorem ec_Loader_init_0 {es : Exs} : ev Γ Os (.mk i_Loader_init 0 es) ρ S = bn (fun xs S1 => bn (fun r S2 => match r with | .non => .ok (.ref S1.length) S2 | _ => .stuck) (hd Os i_Loader_init (.ref S1.length :: xs) (S1 ++ [.ins "Loader" []])) .mk) (evs Γ Os es ρ S) .mk := ev_mk0 (F := f_Loader_init) rfl rfl rfl
@[simp ↓] theorem ec_Loader_number_0 {a : Ex} {es : Exs} : ev Γ Os (.met i_Loader_number 0 a es) ρ S = bn (fun x S1 => match iOf S1 x with | some (_, C', fl) => if C' = ("Loader" : Str) ∧ fl.lookup ("number" : Str) = none then bn (fun xs S2 => hd Os i_Loader_number (x :: xs) S2) (evs Γ Os es ρ S1) .mk else .stuck | none => .stuck) (ev Γ Os a ρ S) .mk := ev_met0 (F := f_Loader_number) rfl rfl rfl
@[simp ↓] theorem ec_Loader_read_0 {a : Ex} {es : Exs} : ev Γ Os (.met i_Loader_read 0 a es) ρ S = bn (fun x S1 => match iOf S1 x with | some (_, C', fl) => if C' = ("Loader" : Str) ∧ fl.lookup ("read" : Str) = none then bn (fun xs S2 => hd Os i_Loader_read (x :: xs) S2) (evs Γ Os es ρ S1) .mk else .stuck | none => .stuck) (ev Γ Os a ρ S) .mk := ev_met0 (F := f_Loader_read) rfl rfl rfl
@[simp ↓] theorem ec_Loader_read_end_0 {a : Ex} {es : Exs} : ev Γ Os (.met i_Loader_read_end 0 a es) ρ S = bn (fun x S1 => match iOf S1 x with | some (_, C', fl) => if C' = ("Loader" : Str) ∧ fl.lookup ("read_end" : Str) = none then bn (fun xs S2 => hd Os i_Loader_read_end (x :: xs) S2) (evs Γ Os es ρ S1) .mk else .stuck | none => .stuck) (ev Γ Os a ρ S) .mk := ev_met0 (F := f_Loader_read_end) rfl rfl rfl
@[simp ↓] theorem ec_Loader_read_head_0 {a : Ex} {es : Exs} : ev Γ Os (.met i_Loader_read_head 0 a es) ρ S = bn (fun x S1 => match iOf S1 x with | some (_, C', fl) => if C' = ("Loader" : Str) ∧ fl.lookup ("read_head" : Str) = none then bn (fun xs S2 => hd Os i_Loader_read_head (x :: xs) S2) (evs Γ Os es ρ S1) .mk else .stuck | none => .stuck) (ev Γ Os a ρ S) .mk := ev_met0 (F := f_Loader_read_head) rfl rfl rfl
@[simp ↓] theorem ec_Loader_read_name_0 {a : Ex} {es : Exs} : ev Γ Os (.met i_Loader_read_name 0 a es) ρ S = bn (fun x S1 => match iOf S1 x with | some (_, C', fl) => if C' = ("Loader" : Str) ∧ fl.lookup ("read_name" : Str) = none then bn (fun xs S2 => hd Os i_Loader_read_name (x :: xs) S2) (evs Γ Os es ρ S1) .mk else .stuck | none => .stuck) (ev Γ Os a ρ S) .mk := ev_met0 (F := f_Loader_read_name) rfl rfl rfl
@[simp ↓] theorem ec_Loader_read_part_0 {a : Ex} {es : Exs} : ev Γ Os (.met i_Loader_read_part 0 a es) ρ S = bn (fun x S1 => match iOf S1 x with | some (_, C', fl) => if C' = ("Loader" : Str) ∧ fl.lookup ("read_part" : Str) = none then bn (fun xs S2 => hd Os i_Loader_read_part (x :: xs) S2) (evs Γ Os es ρ S1) .mk else .stuck | none => .stuck) (ev Γ Os a ρ S) .mk := ev_met0 (F := f_Loader_read_part) rfl rfl rfl
@[simp ↓] theorem ec_Loader_read_row_0 {a : Ex} {es : Exs} : ev Γ Os (.met i_Loader_read_row 0 a es) ρ S = bn (fun x S1 => match iOf S1 x with | some (_, C', fl) => if C' = ("Loader" : Str) ∧ fl.lookup ("read_row" : Str) = none then bn (fun xs S2 => hd Os i_Loader_read_row (x :: xs) S2) (evs Γ Os es ρ S1) .mk else .stuck | none => .stuck) (ev Γ Os a ρ S) .mk := ev_met0 (F := f_Loader_read_row) rfl rfl rfl
@[simp ↓] theorem ec_Loader_refuse_0 {a : Ex} {es : Exs} : ev Γ Os (.met i_Loader_refuse 0 a es) ρ S = bn (fun x S1 => match iOf S1 x with | some (_, C', fl) => if C' = ("Loader" : Str) ∧ fl.lookup ("refuse" : Str) = none then bn (fun xs S2 => hd Os i_Loader_refuse (x :: xs) S2) (evs Γ Os es ρ S1) .mk else .stuck | none => .stuck) (ev Γ Os a ρ S) .mk := ev_met0 (F := f_Loader_refuse) rfl rfl rfl
@[simp ↓] theorem ec_Loader_take_0 {a : Ex} {es : Exs} : ev Γ Os (.met i_Loader_take 0 a es) ρ S = bn (fun x S1 => match iOf S1 x with | some (_, C', fl) => if C' = ("Loader" : Str) ∧ fl.lookup ("take" : Str) = none then bn (fun xs S2 => hd Os i_Loader_take (x :: xs) S2) (evs Γ Os es ρ S1) .mk else .stuck | none => .stuck) (ev Γ Os a ρ S) .mk := ev_met0 (F := f_Loader_take) rfl rfl rfl
@[simp ↓] theorem ec__law_bent_0 {es : Exs} : ev Γ Os (.cal i__law_bent 0 es) ρ S = bn (fun xs S1 => hd Os i__law_bent xs S1) (evs Γ Os es ρ S) .mk := ev_cal0 rfl
@[simp ↓] theorem ec__law_draw_0 {es : Exs} : ev Γ Os (.cal i__law_draw 0 es) ρ S = bn (fun xs S1 => hd Os i__law_draw xs S1) (evs Γ Os es ρ S) .mk := ev_cal0 rfl
@[simp ↓] theorem ec__law_equal_0 {es : Exs} : ev Γ Os (.cal i__law_equal 0 es) ρ S = bn (fun xs S1 => hd Os i__law_equal xs S1) (evs Γ Os es ρ S) .mk := ev_cal0 rfl
@[simp ↓] theorem ec__law_image_0 {es : Exs} : ev Γ Os (.cal i__law_image 0 es) ρ S = bn (fun xs S1 => hd Os i__law_image xs S1) (evs Γ Os es ρ S) .mk := ev_cal0 rfl
@[simp ↓] theorem ec__law_is_digits_0 {es : Exs} : ev Γ Os (.cal i__law_is_digits 0 es) ρ S = bn (fun xs S1 => hd Os i__law_is_digits xs S1) (evs Γ Os es ρ S) .mk := ev_cal0 rfl
@[simp ↓] theorem ec__law_is_name_0 {es : Exs} : ev Γ Os (.cal i__law_is_name 0 es) ρ S = bn (fun xs S1 => hd Os i__law_is_name xs S1) (evs Γ Os es ρ S) .mk := ev_cal0 rfl
@[simp ↓] theorem ec__law_is_path_0 {es : Exs} : ev Γ Os (.cal i__law_is_path 0 es) ρ S = bn (fun xs S1 => hd Os i__law_is_path xs S1) (evs Γ Os es ρ S) .mk := ev_cal0 rfl
@[simp ↓] theorem ec__law_number_0 {es : Exs} : ev Γ Os (.cal i__law_number 0 es) ρ S = bn (fun xs S1 => hd Os i__law_number xs S1) (evs Γ Os es ρ S) .mk := ev_cal0 rfl
@[simp ↓] theorem ec__law_pair_0 {es : Exs} : ev Γ Os (.cal i__law_pair 0 es) ρ S = bn (fun xs S1 => hd Os i__law_pair xs S1) (evs Γ Os es ρ S) .mk := ev_cal0 rfl
@[simp ↓] theorem ec__law_pen_0 {es : Exs} : ev Γ Os (.cal i__law_pen 0 es) ρ S = bn (fun xs S1 => hd Os i__law_pen xs S1) (evs Γ Os es ρ S) .mk := ev_cal0 rfl
@[simp ↓] theorem ec__law_pick_0 {es : Exs} : ev Γ Os (.cal i__law_pick 0 es) ρ S = bn (fun xs S1 => hd Os i__law_pick xs S1) (evs Γ Os es ρ S) .mk := ev_cal0 rfl
@[simp ↓] theorem ec__law_read_names_0 {es : Exs} : ev Γ Os (.cal i__law_read_names 0 es) ρ S = bn (fun xs S1 => hd Os i__law_read_names xs S1) (evs Γ Os es ρ S) .mk := ev_cal0 rfl
@[simp ↓] theorem ec__law_same_0 {es : Exs} : ev Γ Os (.cal i__law_same 0 es) ρ S = bn (fun xs S1 => hd Os i__law_same xs S1) (evs Γ Os es ρ S) .mk := ev_cal0 rfl
@[simp ↓] theorem ec__law_sign_0 {es : Exs} : ev Γ Os (.cal i__law_sign 0 es) ρ S = bn (fun xs S1 => hd Os i__law_sign xs S1) (evs Γ Os es ρ S) .mk := ev_cal0 rfl
@[simp ↓] theorem ec__law_some_code_0 {es : Exs} : ev Γ Os (.cal i__law_some_code 0 es) ρ S = bn (fun xs S1 => hd Os i__law_some_code xs S1) (evs Γ Os es ρ S) .mk := ev_cal0 rfl
@[simp ↓] theorem ec__law_sum_0 {es : Exs} : ev Γ Os (.cal i__law_sum 0 es) ρ S = bn (fun xs S1 => hd Os i__law_sum xs S1) (evs Γ Os es ρ S) .mk := ev_cal0 rfl
@[simp ↓] theorem ec__law_wrong_at_0 {es : Exs} : ev Γ Os (.cal i__law_wrong_at 0 es) ρ S = bn (fun xs S1 => hd Os i__law_wrong_at xs S1) (evs Γ Os es ρ S) .mk := ev_cal0 rfl
@[simp ↓] theorem ec_are_bytes_0 {es : Exs} : ev Γ Os (.cal i_are_bytes 0 es) ρ S = bn (fun xs S1 => hd Os i_are_bytes xs S1) (evs Γ Os es ρ S) .mk := ev_cal0 rfl
@[simp ↓] theorem ec_image_of_0 {es : Exs} : ev Γ Os (.cal i_image_of 0 es) ρ S = bn (fun xs S1 => hd Os i_image_of xs S1) (evs Γ Os es ρ S) .mk := ev_cal0 rfl
@[simp ↓] theorem ec_image_read_0 {es : Exs} : ev Γ Os (.cal i_image_read 0 es) ρ S = bn (fun xs S1 => hd Os i_image_read xs S1) (evs Γ Os es ρ S) .mk := ev_cal0 rfl
@[simp ↓] theorem ec_is_code_0 {es : Exs} : ev Γ Os (.cal i_is_code 0 es) ρ S = bn (fun xs S1 => hd Os i_is_code xs S1) (evs Γ Os es ρ S) .mk := ev_cal0 rfl
@[simp ↓] theorem ec_is_image_0 {es : Exs} : ev Γ Os (.cal i_is_image 0 es) ρ S = bn (fun xs S1 => hd Os i_is_image xs S1) (evs Γ Os es ρ S) .mk := ev_cal0 rfl
@[simp ↓] theorem ec_is_listed_0 {es : Exs} : ev Γ Os (.cal i_is_listed 0 es) ρ S = bn (fun xs S1 => hd Os i_is_listed xs S1) (evs Γ Os es ρ S) .mk := ev_cal0 rfl
@[simp ↓] theorem ec_is_numeral_0 {es : Exs} : ev Γ Os (.cal i_is_numeral 0 es) ρ S = bn (fun xs S1 => hd Os i_is_numeral xs S1) (evs Γ Os es ρ S) .mk := ev_cal0 rfl
@[simp ↓] theorem ec_is_part_0 {es : Exs} : ev Γ Os (.cal i_is_part 0 es) ρ S = bn (fun xs S1 => hd Os i_is_part xs S1) (evs Γ Os es ρ S) .mk := ev_cal0 rfl
@[simp ↓] theorem ec_is_path_0 {es : Exs} : ev Γ Os (.cal i_is_path 0 es) ρ S = bn (fun xs S1 => hd Os i_is_path xs S1) (evs Γ Os es ρ S) .mk := ev_cal0 rfl
@[simp ↓] theorem ec_is_plain_name_0 {es : Exs} : ev Γ Os (.cal i_is_plain_name 0 es) ρ S = bn (fun xs S1 => hd Os i_is_plain_name xs S1) (evs Γ Os es ρ S) .mk := ev_cal0 rfl
@[simp ↓] theorem ec_is_row_0 {es : Exs} : ev Γ Os (.cal i_is_row 0 es) ρ S = bn (fun xs S1 => hd Os i_is_row xs S1) (evs Γ Os es ρ S) .mk := ev_cal0 rfl
@[simp ↓] theorem ec_is_whole_0 {es : Exs} : ev Γ Os (.cal i_is_whole 0 es) ρ S = bn (fun xs S1 => hd Os i_is_whole xs S1) (evs Γ Os es ρ S) .mk := ev_cal0 rfl
@[simp ↓] theorem ec_loader_of_0 {es : Exs} : ev Γ Os (.cal i_loader_of 0 es) ρ S = bn (fun xs S1 => hd Os i_loader_of xs S1) (evs Γ Os es ρ S) .mk := ev_cal0 rfl
@[simp ↓] theorem ec_moments_of_0 {es : Exs} : ev Γ Os (.cal i_moments_of 0 es) ρ S = bn (fun xs S1 => hd Os i_moments_of xs S1) (evs Γ Os es ρ S) .mk := ev_cal0 rfl
@[simp ↓] theorem ec_name_bytes_0 {es : Exs} : ev Γ Os (.cal i_name_bytes 0 es) ρ S = bn (fun xs S1 => hd Os i_name_bytes xs S1) (evs Γ Os es ρ S) .mk := ev_cal0 rfl
@[simp ↓] theorem ec_need_code_0 {es : Exs} : ev Γ Os (.cal i_need_code 0 es) ρ S = bn (fun xs S1 => hd Os i_need_code xs S1) (evs Γ Os es ρ S) .mk := ev_cal0 rfl
@[simp ↓] theorem ec_pair_of_0 {es : Exs} : ev Γ Os (.cal i_pair_of 0 es) ρ S = bn (fun xs S1 => hd Os i_pair_of xs S1) (evs Γ Os es ρ S) .mk := ev_cal0 rfl
@[simp ↓] theorem ec_row_bytes_0 {es : Exs} : ev Γ Os (.cal i_row_bytes 0 es) ρ S = bn (fun xs S1 => hd Os i_row_bytes xs S1) (evs Γ Os es ρ S) .mk := ev_cal0 rfl
@[simp ↓] theorem ec_sum_of_0 {es : Exs} : ev Γ Os (.cal i_sum_of 0 es) ρ S = bn (fun xs S1 => hd Os i_sum_of xs S1) (evs Γ Os es ρ S) .mk := ev_cal0 rfl
@[simp ↓] theorem ec_sum_over_0 {es : Exs} : ev Γ Os (.cal i_sum_over 0 es) ρ S = bn (fun xs S1 => hd Os i_sum_over xs S1) (evs Γ Os es ρ S) .mk := ev_cal0 rfl
@[simp ↓] theorem ec_triple_of_0 {es : Exs} : ev Γ Os (.cal i_triple_of 0 es) ρ S = bn (fun xs S1 => hd Os i_triple_of xs S1) (evs Γ Os es ρ S) .mk := ev_cal0 rfl
end
end K71

set_option maxHeartbeats 4000000
/-! K71: printed by gen.py: the checks of the written text. -/
namespace K71
open PySem PySem.Spec PyProof.Rows L2 Pv
abbrev top (i : Nat) : Stmt := PySem.Challenge.pw_kepthours_k71_whole_images.main.body.getD i (.Pass ⟨0, 0, 0, 0⟩)
def memS (s : Stmt) (j : Nat) : Stmt := match s with
  | .ClassDef _ _ _ b _ _ _ _ _ _ _ => b.getD j (.Pass ⟨0, 0, 0, 0⟩)
  | _ => .Pass ⟨0, 0, 0, 0⟩
abbrev d0 : He.DefD := ⟨("law", none), "law", "law", defArgs (top 70), defBody (top 70), defScope (top 70), [], []⟩
def t0 : DfT := ⟨d0, f_law, true⟩
abbrev d1 : He.DefD := ⟨("image_read", none), "image_read", "image_read", defArgs (top 49), defBody (top 49), defScope (top 49), [], []⟩
def t1 : DfT := ⟨d1, f_image_read, false⟩
abbrev d2 : He.DefD := ⟨("image_of", none), "image_of", "image_of", defArgs (top 46), defBody (top 46), defScope (top 46), [], []⟩
def t2 : DfT := ⟨d2, f_image_of, false⟩
abbrev d3 : He.DefD := ⟨("_law_equal", none), "_law_equal", "_law_equal", defArgs (top 57), defBody (top 57), defScope (top 57), [], []⟩
def t3 : DfT := ⟨d3, f__law_equal, false⟩
abbrev d4 : He.DefD := ⟨("is_image", none), "is_image", "is_image", defArgs (top 50), defBody (top 50), defScope (top 50), [], []⟩
def t4 : DfT := ⟨d4, f_is_image, false⟩
abbrev d5 : He.DefD := ⟨("sum_of", none), "sum_of", "sum_of", defArgs (top 43), defBody (top 43), defScope (top 43), [], []⟩
def t5 : DfT := ⟨d5, f_sum_of, false⟩
abbrev d6 : He.DefD := ⟨("_law_pick", none), "_law_pick", "_law_pick", defArgs (top 54), defBody (top 54), defScope (top 54), [], []⟩
def t6 : DfT := ⟨d6, f__law_pick, false⟩
abbrev d7 : He.DefD := ⟨("_law_same", none), "_law_same", "_law_same", defArgs (top 55), defBody (top 55), defScope (top 55), [], []⟩
def t7 : DfT := ⟨d7, f__law_same, false⟩
abbrev d8 : He.DefD := ⟨("_law_sum", none), "_law_sum", "_law_sum", defArgs (top 62), defBody (top 62), defScope (top 62), [], []⟩
def t8 : DfT := ⟨d8, f__law_sum, false⟩
abbrev d9 : He.DefD := ⟨("_law_draw", none), "_law_draw", "_law_draw", defArgs (top 53), defBody (top 53), defScope (top 53), [], []⟩
def t9 : DfT := ⟨d9, f__law_draw, false⟩
abbrev d10 : He.DefD := ⟨("_law_wrong_at", none), "_law_wrong_at", "_law_wrong_at", defArgs (top 68), defBody (top 68), defScope (top 68), [], []⟩
def t10 : DfT := ⟨d10, f__law_wrong_at, false⟩
abbrev d11 : He.DefD := ⟨("_law_bent", none), "_law_bent", "_law_bent", defArgs (top 69), defBody (top 69), defScope (top 69), [], []⟩
def t11 : DfT := ⟨d11, f__law_bent, false⟩
abbrev d12 : He.DefD := ⟨("_law_image", none), "_law_image", "_law_image", defArgs (top 65), defBody (top 65), defScope (top 65), [], []⟩
def t12 : DfT := ⟨d12, f__law_image, false⟩
abbrev d13 : He.DefD := ⟨("_law_some_code", none), "_law_some_code", "_law_some_code", defArgs (top 61), defBody (top 61), defScope (top 61), [], []⟩
def t13 : DfT := ⟨d13, f__law_some_code, false⟩
abbrev d14 : He.DefD := ⟨("_law_pen", none), "_law_pen", "_law_pen", defArgs (top 52), defBody (top 52), defScope (top 52), [], []⟩
def t14 : DfT := ⟨d14, f__law_pen, false⟩
abbrev d15 : He.DefD := ⟨("loader_of", none), "loader_of", "loader_of", defArgs (top 48), defBody (top 48), defScope (top 48), [], []⟩
def t15 : DfT := ⟨d15, f_loader_of, false⟩
abbrev d16 : He.DefD := ⟨("pair_of", none), "pair_of", "pair_of", defArgs (top 39), defBody (top 39), defScope (top 39), [], []⟩
def t16 : DfT := ⟨d16, f_pair_of, false⟩
abbrev d17 : He.DefD := ⟨("sum_over", none), "sum_over", "sum_over", defArgs (top 41), defBody (top 41), defScope (top 41), [], []⟩
def t17 : DfT := ⟨d17, f_sum_over, false⟩
abbrev d18 : He.DefD := ⟨("row_bytes", none), "row_bytes", "row_bytes", defArgs (top 45), defBody (top 45), defScope (top 45), [], []⟩
def t18 : DfT := ⟨d18, f_row_bytes, false⟩
abbrev d19 : He.DefD := ⟨("name_bytes", none), "name_bytes", "name_bytes", defArgs (top 44), defBody (top 44), defScope (top 44), [], []⟩
def t19 : DfT := ⟨d19, f_name_bytes, false⟩
abbrev d20 : He.DefD := ⟨("moments_of", none), "moments_of", "moments_of", defArgs (top 29), defBody (top 29), defScope (top 29), [], []⟩
def t20 : DfT := ⟨d20, f_moments_of, false⟩
abbrev d21 : He.DefD := ⟨("are_bytes", none), "are_bytes", "are_bytes", defArgs (top 42), defBody (top 42), defScope (top 42), [], []⟩
def t21 : DfT := ⟨d21, f_are_bytes, false⟩
abbrev d22 : He.DefD := ⟨("_law_number", none), "_law_number", "_law_number", defArgs (top 66), defBody (top 66), defScope (top 66), [], []⟩
def t22 : DfT := ⟨d22, f__law_number, false⟩
abbrev d23 : He.DefD := ⟨("_law_read_names", none), "_law_read_names", "_law_read_names", defArgs (top 67), defBody (top 67), defScope (top 67), [], []⟩
def t23 : DfT := ⟨d23, f__law_read_names, false⟩
abbrev d24 : He.DefD := ⟨("_law_pair", none), "_law_pair", "_law_pair", defArgs (top 63), defBody (top 63), defScope (top 63), [], []⟩
def t24 : DfT := ⟨d24, f__law_pair, false⟩
abbrev d25 : He.DefD := ⟨("_law_sign", none), "_law_sign", "_law_sign", defArgs (top 64), defBody (top 64), defScope (top 64), [], []⟩
def t25 : DfT := ⟨d25, f__law_sign, false⟩
abbrev d26 : He.DefD := ⟨("Loader", some "read"), "read", "Loader.read", defArgs (memS (top 47) 9), defBody (memS (top 47) 9), defScope (memS (top 47) 9), [], []⟩
def t26 : DfT := ⟨d26, f_Loader_read, false⟩
abbrev d27 : He.DefD := ⟨("Loader", some "__init__"), "__init__", "Loader.__init__", defArgs (memS (top 47) 0), defBody (memS (top 47) 0), defScope (memS (top 47) 0), [], []⟩
def t27 : DfT := ⟨d27, f_Loader_init, false⟩
abbrev d28 : He.DefD := ⟨("triple_of", none), "triple_of", "triple_of", defArgs (top 40), defBody (top 40), defScope (top 40), [], []⟩
def t28 : DfT := ⟨d28, f_triple_of, false⟩
abbrev d29 : He.DefD := ⟨("need_code", none), "need_code", "need_code", defArgs (top 28), defBody (top 28), defScope (top 28), [], []⟩
def t29 : DfT := ⟨d29, f_need_code, false⟩
abbrev d30 : He.DefD := ⟨("is_listed", none), "is_listed", "is_listed", defArgs (top 12), defBody (top 12), defScope (top 12), [], []⟩
def t30 : DfT := ⟨d30, f_is_listed, false⟩
abbrev d31 : He.DefD := ⟨("is_whole", none), "is_whole", "is_whole", defArgs (top 11), defBody (top 11), defScope (top 11), [.non], []⟩
def t31 : DfT := ⟨d31, f_is_whole, false⟩
abbrev d32 : He.DefD := ⟨("_law_is_path", none), "_law_is_path", "_law_is_path", defArgs (top 60), defBody (top 60), defScope (top 60), [], []⟩
def t32 : DfT := ⟨d32, f__law_is_path, false⟩
abbrev d33 : He.DefD := ⟨("Loader", some "read_end"), "read_end", "Loader.read_end", defArgs (memS (top 47) 8), defBody (memS (top 47) 8), defScope (memS (top 47) 8), [], []⟩
def t33 : DfT := ⟨d33, f_Loader_read_end, false⟩
abbrev d34 : He.DefD := ⟨("Loader", some "read_row"), "read_row", "Loader.read_row", defArgs (memS (top 47) 7), defBody (memS (top 47) 7), defScope (memS (top 47) 7), [], []⟩
def t34 : DfT := ⟨d34, f_Loader_read_row, false⟩
abbrev d35 : He.DefD := ⟨("Loader", some "read_name"), "read_name", "Loader.read_name", defArgs (memS (top 47) 5), defBody (memS (top 47) 5), defScope (memS (top 47) 5), [], []⟩
def t35 : DfT := ⟨d35, f_Loader_read_name, false⟩
abbrev d36 : He.DefD := ⟨("Loader", some "read_head"), "read_head", "Loader.read_head", defArgs (memS (top 47) 4), defBody (memS (top 47) 4), defScope (memS (top 47) 4), [], []⟩
def t36 : DfT := ⟨d36, f_Loader_read_head, false⟩
abbrev d37 : He.DefD := ⟨("is_code", none), "is_code", "is_code", defArgs (top 27), defBody (top 27), defScope (top 27), [], []⟩
def t37 : DfT := ⟨d37, f_is_code, false⟩
abbrev d38 : He.DefD := ⟨("_law_is_name", none), "_law_is_name", "_law_is_name", defArgs (top 58), defBody (top 58), defScope (top 58), [], []⟩
def t38 : DfT := ⟨d38, f__law_is_name, false⟩
abbrev d39 : He.DefD := ⟨("_law_is_digits", none), "_law_is_digits", "_law_is_digits", defArgs (top 59), defBody (top 59), defScope (top 59), [], []⟩
def t39 : DfT := ⟨d39, f__law_is_digits, false⟩
abbrev d40 : He.DefD := ⟨("Loader", some "refuse"), "refuse", "Loader.refuse", defArgs (memS (top 47) 1), defBody (memS (top 47) 1), defScope (memS (top 47) 1), [], []⟩
def t40 : DfT := ⟨d40, f_Loader_refuse, false⟩
abbrev d41 : He.DefD := ⟨("Loader", some "number"), "number", "Loader.number", defArgs (memS (top 47) 3), defBody (memS (top 47) 3), defScope (memS (top 47) 3), [], []⟩
def t41 : DfT := ⟨d41, f_Loader_number, false⟩
abbrev d42 : He.DefD := ⟨("Loader", some "read_part"), "read_part", "Loader.read_part", defArgs (memS (top 47) 6), defBody (memS (top 47) 6), defScope (memS (top 47) 6), [], []⟩
def t42 : DfT := ⟨d42, f_Loader_read_part, false⟩
abbrev d43 : He.DefD := ⟨("Loader", some "take"), "take", "Loader.take", defArgs (memS (top 47) 2), defBody (memS (top 47) 2), defScope (memS (top 47) 2), [], []⟩
def t43 : DfT := ⟨d43, f_Loader_take, false⟩
abbrev d44 : He.DefD := ⟨("is_path", none), "is_path", "is_path", defArgs (top 24), defBody (top 24), defScope (top 24), [], []⟩
def t44 : DfT := ⟨d44, f_is_path, false⟩
abbrev d45 : He.DefD := ⟨("is_row", none), "is_row", "is_row", defArgs (top 26), defBody (top 26), defScope (top 26), [], []⟩
def t45 : DfT := ⟨d45, f_is_row, false⟩
abbrev d46 : He.DefD := ⟨("is_plain_name", none), "is_plain_name", "is_plain_name", defArgs (top 22), defBody (top 22), defScope (top 22), [], []⟩
def t46 : DfT := ⟨d46, f_is_plain_name, false⟩
abbrev d47 : He.DefD := ⟨("is_numeral", none), "is_numeral", "is_numeral", defArgs (top 23), defBody (top 23), defScope (top 23), [], []⟩
def t47 : DfT := ⟨d47, f_is_numeral, false⟩
abbrev d48 : He.DefD := ⟨("is_part", none), "is_part", "is_part", defArgs (top 25), defBody (top 25), defScope (top 25), [], []⟩
def t48 : DfT := ⟨d48, f_is_part, false⟩
def u0 : FlT := ⟨⟨("_law_fault", none), "_law_fault", "_law_fault", defArgs (top 56), defBody (top 56), defScope (top 56), [], []⟩, g__law_fault, ["call", "e"], ["BadName", "BadNumber", "BadRow", "NoName", "TakenName", "Unlike", "NotThere", "TooMany"]⟩
def x0 : XcT := ⟨⟨("BadRow", some "__init__"), "__init__", "BadRow.__init__", defArgs (memS (top 4) 0), defBody (memS (top 4) 0), defScope (memS (top 4) 0), [], []⟩, "BadRow", ["what", "row"], ["what", "row"]⟩
def x1 : XcT := ⟨⟨("BadNumber", some "__init__"), "__init__", "BadNumber.__init__", defArgs (memS (top 3) 0), defBody (memS (top 3) 0), defScope (memS (top 3) 0), [], []⟩, "BadNumber", ["what", "number"], ["what", "number"]⟩
def txt : Txt := ⟨Γ, [t0, t1, t2, t3, t4, t5, t6, t7, t8, t9, t10, t11, t12, t13, t14, t15, t16, t17, t18, t19, t20, t21, t22, t23, t24, t25, t26, t27, t28, t29, t30, t31, t32, t33, t34, t35, t36, t37, t38, t39, t40, t41, t42, t43, t44, t45, t46, t47, t48], [u0], [x0, x1]⟩
theorem ok0 : t0.ok Γ = true := by kernel_rfl
theorem ok1 : t1.ok Γ = true := by kernel_rfl
theorem ok2 : t2.ok Γ = true := by kernel_rfl
theorem ok3 : t3.ok Γ = true := by kernel_rfl
theorem ok4 : t4.ok Γ = true := by kernel_rfl
theorem ok5 : t5.ok Γ = true := by kernel_rfl
theorem ok6 : t6.ok Γ = true := by kernel_rfl
theorem ok7 : t7.ok Γ = true := by kernel_rfl
theorem ok8 : t8.ok Γ = true := by kernel_rfl
theorem ok9 : t9.ok Γ = true := by kernel_rfl
theorem ok10 : t10.ok Γ = true := by kernel_rfl
theorem ok11 : t11.ok Γ = true := by kernel_rfl
theorem ok12 : t12.ok Γ = true := by kernel_rfl
theorem ok13 : t13.ok Γ = true := by kernel_rfl
theorem ok14 : t14.ok Γ = true := by kernel_rfl
theorem ok15 : t15.ok Γ = true := by kernel_rfl
theorem ok16 : t16.ok Γ = true := by kernel_rfl
theorem ok17 : t17.ok Γ = true := by kernel_rfl
theorem ok18 : t18.ok Γ = true := by kernel_rfl
theorem ok19 : t19.ok Γ = true := by kernel_rfl
theorem ok20 : t20.ok Γ = true := by kernel_rfl
theorem ok21 : t21.ok Γ = true := by kernel_rfl
theorem ok22 : t22.ok Γ = true := by kernel_rfl
theorem ok23 : t23.ok Γ = true := by kernel_rfl
theorem ok24 : t24.ok Γ = true := by kernel_rfl
theorem ok25 : t25.ok Γ = true := by kernel_rfl
theorem ok26 : t26.ok Γ = true := by kernel_rfl
theorem ok27 : t27.ok Γ = true := by kernel_rfl
theorem ok28 : t28.ok Γ = true := by kernel_rfl
theorem ok29 : t29.ok Γ = true := by kernel_rfl
theorem ok30 : t30.ok Γ = true := by kernel_rfl
theorem ok31 : t31.ok Γ = true := by kernel_rfl
theorem ok32 : t32.ok Γ = true := by kernel_rfl
theorem ok33 : t33.ok Γ = true := by kernel_rfl
theorem ok34 : t34.ok Γ = true := by kernel_rfl
theorem ok35 : t35.ok Γ = true := by kernel_rfl
theorem ok36 : t36.ok Γ = true := by kernel_rfl
theorem ok37 : t37.ok Γ = true := by kernel_rfl
theorem ok38 : t38.ok Γ = true := by kernel_rfl
theorem ok39 : t39.ok Γ = true := by kernel_rfl
theorem ok40 : t40.ok Γ = true := by kernel_rfl
theorem ok41 : t41.ok Γ = true := by kernel_rfl
theorem ok42 : t42.ok Γ = true := by kernel_rfl
theorem ok43 : t43.ok Γ = true := by kernel_rfl
theorem ok44 : t44.ok Γ = true := by kernel_rfl
theorem ok45 : t45.ok Γ = true := by kernel_rfl
theorem ok46 : t46.ok Γ = true := by kernel_rfl
theorem ok47 : t47.ok Γ = true := by kernel_rfl
theorem ok48 : t48.ok Γ = true := by kernel_rfl
theorem oku0 : u0.ok Γ = true := by kernel_rfl
theorem okx0 : x0.ok = true := by kernel_rfl
theorem okx1 : x1.ok = true := by kernel_rfl
theorem all_nil {α : Type} {p : α → Prop} : ∀ x ∈ ([] : List α), p x := fun _ h => nomatch h
theorem all_cons {α : Type} {p : α → Prop} {a : α} {l : List α} (h : p a) (r : ∀ x ∈ l, p x) : ∀ x ∈ a :: l, p x := fun x hx => (List.mem_cons.mp hx).elim (fun e => e ▸ h) (r x)
theorem ok : txt.Ok := ⟨rfl, rfl, rfl, (all_cons ok0 (all_cons ok1 (all_cons ok2 (all_cons ok3 (all_cons ok4 (all_cons ok5 (all_cons ok6 (all_cons ok7 (all_cons ok8 (all_cons ok9 (all_cons ok10 (all_cons ok11 (all_cons ok12 (all_cons ok13 (all_cons ok14 (all_cons ok15 (all_cons ok16 (all_cons ok17 (all_cons ok18 (all_cons ok19 (all_cons ok20 (all_cons ok21 (all_cons ok22 (all_cons ok23 (all_cons ok24 (all_cons ok25 (all_cons ok26 (all_cons ok27 (all_cons ok28 (all_cons ok29 (all_cons ok30 (all_cons ok31 (all_cons ok32 (all_cons ok33 (all_cons ok34 (all_cons ok35 (all_cons ok36 (all_cons ok37 (all_cons ok38 (all_cons ok39 (all_cons ok40 (all_cons ok41 (all_cons ok42 (all_cons ok43 (all_cons ok44 (all_cons ok45 (all_cons ok46 (all_cons ok47 (all_cons ok48 all_nil))))))))))))))))))))))))))))))))))))))))))))))))), (all_cons oku0 all_nil), (all_cons okx0 (all_cons okx1 all_nil))⟩
end K71

set_option linter.all false
set_option maxHeartbeats 0
namespace K71
open PySem PySem.Spec PyProof.Rows L2 Pv
def loose0 : List Str := ["HoursError", "BadName", "BadNumber", "BadRow", "NoName", "TakenName", "Unlike", "NotThere", "TooMany", "is_whole", "is_listed", "MOST_NUMBER", "MOST_AT", "LONGEST_PATH", "LONGEST_NAME", "FIGURES", "LETTERS", "FORMS", "LAST_WORDS", "is_plain_name", "is_numeral", "is_path", "is_part", "is_row", "is_code", "need_code", "moments_of", "HEAD", "KINDS", "SIGNS"]
def loose1 : List Str := ["NUMBERS", "MOST_SIGNS", "PRIME", "FACTOR", "WIDE", "pair_of", "triple_of", "sum_over", "are_bytes", "sum_of", "name_bytes", "row_bytes", "image_of", "Loader", "loader_of", "image_read", "is_image", "_law_pen", "_law_draw", "_law_pick", "_law_same", "_law_fault", "_law_equal", "_law_is_name", "_law_is_digits", "_law_is_path", "_law_some_code", "_law_sum", "_law_pair", "_law_sign"]
def loose2 : List Str := ["_law_image", "_law_number", "_law_read_names", "_law_wrong_at", "_law_bent"]
def loose : List Str := loose0 ++ loose1 ++ loose2
abbrev ROW : PySem.W.OpenRow := PySem.W.OpenLaw.row PySem.Challenge.rw_kepthours_k71_whole_images
abbrev hk : PySem.W.Hook := He.hookX 6 [] txt.fn txt.ts txt.tf txt.ex
def ob (s : PySem.W.SharedT) : He.AlX := He.obsX 6 [] txt.fn txt.ts txt.tf txt.ex (HandSHeadRun.getT s)
theorem ob_eq (s : PySem.W.SharedT) : ob s = hk.obs s.abs := He.obsX_eq (HandSHeadRun.getT_eq s)
theorem run_f (w : World) : HandSHeadRun.RunEq ROW (PySem.W.view ROW.prog [70]) hk ob 6000 loose (w.withFollow "special-get-raises" false) := by
  intro os
  kernel_rfl
theorem run_t (w : World) : HandSHeadRun.RunEq ROW (PySem.W.view ROW.prog [70]) hk ob 6000 loose (w.withFollow "special-get-raises" true) := by
  intro os
  kernel_rfl
theorem run (w : World) : HandSHeadRun.RunEq ROW (PySem.W.view ROW.prog [70]) hk ob 6000 loose w := PySem.W.byRow2 "special-get-raises" run_f run_t w
end K71

set_option maxHeartbeats 4000000
/-! Pl2: loops and comprehensions of the evaluator, by what holds between two turns. -/
namespace Pv
open PySem PySem.Spec PyProof.Rows L2

theorem szl : sizeLine = 16777216 := by decide
/-! ### for -/
/-- what a turn's end must be -/
def StepOk (I : Nat → Ev → Hs → Prop) (Q : SR → Prop) (j : Nat) (r : SR) : Prop := match r with
  | .nx ρ S => I (j + 1) ρ S
  | .ct ρ S => I (j + 1) ρ S
  | .bk ρ S => Q (.nx ρ S)
  | r => Q r
section
variable {tg : Tg} {body : Ev → Hs → SR} {src : Src} {ρ : Ev} {S : Hs}
theorem forGo_inv {items : List Itm} (I : Nat → Ev → Hs → Prop) (Q : SR → Prop)
    (hsrc : ∀ j ρ S, I j ρ S → srcAt S src j = some items[j]?)
    (hb : ∀ j it ρ S, items[j]? = some it → I j ρ S → ∃ ρ1, putIt S tg it ρ = some ρ1 ∧ StepOk I Q j (body ρ1 S))
    (he : ∀ ρ S, I items.length ρ S → Q (.nx ρ S)) :
    ∀ (f j : Nat) (ρ : Ev) (S : Hs), I j ρ S → j ≤ items.length → items.length ≤ j + f → Q (forGo src tg body f j ρ S)
  | 0, j, ρ, S, h, h1, h2 => by
    have ej : j = items.length := by omega
    subst ej
    simp only [forGo, hsrc _ _ _ h, List.getElem?_eq_none (Nat.le_refl items.length)]
    exact he _ _ h
  | f + 1, j, ρ, S, h, h1, h2 => by
    simp only [forGo, hsrc _ _ _ h]
    by_cases hj : j < items.length
    · obtain ⟨ρ1, e1, st⟩ := hb j _ ρ S (List.getElem?_eq_getElem hj) h
      rw [List.getElem?_eq_getElem hj]
      simp only [e1]
      revert st
      cases body ρ1 S with
      | nx ρ2 S2 => exact fun st => forGo_inv I Q hsrc hb he f (j + 1) ρ2 S2 st (by omega) (by omega)
      | ct ρ2 S2 => exact fun st => forGo_inv I Q hsrc hb he f (j + 1) ρ2 S2 st (by omega) (by omega)
      | bk ρ2 S2 => exact fun st => st
      | rt d S2 => exact fun st => st
      | exc x fs ρ2 S2 => exact fun st => st
      | stuck => exact fun st => st
    · have ej : j = items.length := by omega
      subst ej
      simp only [List.getElem?_eq_none (Nat.le_refl items.length)]
      exact he _ _ h
/-- a loop that always goes on -/
theorem forGo_nx {items : List Itm} (I : Nat → Ev → Hs → Prop)
    (hsrc : ∀ j ρ S, I j ρ S → srcAt S src j = some items[j]?)
    (hb : ∀ j it ρ S, items[j]? = some it → I j ρ S → ∃ ρ1 ρ2 S2, putIt S tg it ρ = some ρ1 ∧ body ρ1 S = .nx ρ2 S2 ∧ I (j + 1) ρ2 S2)
    {f : Nat} (h : I 0 ρ S) (hf : items.length ≤ f) : ∃ ρ' S', forGo src tg body f 0 ρ S = .nx ρ' S' ∧ I items.length ρ' S' := by
  refine forGo_inv (items := items) I (fun r => ∃ ρ' S', r = .nx ρ' S' ∧ I items.length ρ' S') hsrc (fun j it ρ S e i => ?_) (fun ρ S i => ⟨ρ, S, rfl, i⟩) f 0 ρ S h (Nat.zero_le _) (by omega)
  obtain ⟨ρ1, ρ2, S2, e1, e2, i2⟩ := hb j it ρ S e i
  refine ⟨ρ1, e1, ?_⟩
  rw [e2]
  exact i2
end
/-! ### sources -/
section
variable {S : Hs}
theorem src_fx {ds : List D} {j : Nat} : srcAt S (.one (.fx ds)) j = some (ds.map Itm.d)[j]? := by
  simp [srcAt, at1]
theorem src_rng {lo : Int} {n j : Nat} : srcAt S (.rng lo n) j = some ((List.range n).map fun (i : Nat) => Itm.d (.int (lo + (i : Int))))[j]? := by
  by_cases h : j < n
  · simp [srcAt, h]
  · simp [srcAt, h]
theorem src_dy {n : Nat} {ys : List D} {j : Nat} (h : S[n]? = some (.lst ys)) : srcAt S (.one (.dy n)) j = some (ys.map Itm.d)[j]? := by
  simp [srcAt, at1, h]
theorem src_str {x : Str} {j : Nat} : srcAt S (.str x) j = some (x.cps.toList.map fun c => Itm.d (.str ⟨#[c]⟩))[j]? := by
  simp [srcAt]
theorem zip_at {xs ys : List D} {j : Nat} : (match some xs[j]?, some ys[j]? with
    | some (some x), some (some y) => some (some (Itm.p x y))
    | some _, some _ => some none
    | _, _ => none) = some ((xs.zip ys).map fun p => Itm.p p.1 p.2)[j]? := by
  by_cases hx : j < xs.length
  · by_cases hy : j < ys.length
    · have hz : j < (xs.zip ys).length := by rw [List.length_zip]; omega
      rw [List.getElem?_map, List.getElem?_eq_getElem hz, List.getElem?_eq_getElem hx, List.getElem?_eq_getElem hy]
      simp [List.getElem_zip]
    · have hz : (xs.zip ys).length ≤ j := by rw [List.length_zip]; omega
      rw [List.getElem?_map, List.getElem?_eq_none hz, List.getElem?_eq_none (Nat.le_of_not_lt hy), List.getElem?_eq_getElem hx]
      rfl
  · have hz : (xs.zip ys).length ≤ j := by rw [List.length_zip]; omega
    rw [List.getElem?_map, List.getElem?_eq_none hz, List.getElem?_eq_none (Nat.le_of_not_lt hx)]
    cases ys[j]? <;> rfl
theorem src_zip {xs ys : List D} {j : Nat} : srcAt S (.zip (.fx xs) (.fx ys)) j = some ((xs.zip ys).map fun p => Itm.p p.1 p.2)[j]? := zip_at
theorem src_zipd {n m : Nat} {xs ys : List D} {j : Nat} (h : S[n]? = some (.lst xs)) (h' : S[m]? = some (.lst ys)) : srcAt S (.zip (.dy n) (.dy m)) j = some ((xs.zip ys).map fun p => Itm.p p.1 p.2)[j]? := by
  simp only [srcAt, at1, h, h']
  exact zip_at
theorem src_en {xs : List D} {j : Nat} : srcAt S (.en (.fx xs)) j = some (xs.mapIdx fun i x => Itm.p (.int (i : Nat)) x)[j]? := by
  simp [srcAt, at1, List.getElem?_mapIdx]
end
/-! ### comprehensions -/
section
variable {tg : Tg} {fc : Option (Ev → Hs → R D)} {fe : Ev → Hs → R D} {src : Src} {ρ : Ev} {S : Hs}
/-- a comprehension whose parts change nothing -/
theorem cGo_pure {items : List Itm} (p : Itm → Bool) (g : Itm → D)
    (hsrc : ∀ j, srcAt S src j = some items[j]?)
    (he : ∀ it ∈ items, ∃ ρ1, putIt S tg it ρ = some ρ1 ∧ (match fc with
      | none => p it = true
      | some fc => fc ρ1 S = .ok (.bl (p it)) S) ∧ (p it = true → fe ρ1 S = .ok (g it) S)) :
    ∀ (f j : Nat) (acc : List D), j ≤ items.length → items.length ≤ j + f → acc.length + (items.length - j) ≤ sizeLine →
      cGo src tg fc fe ρ f j acc S = .ok (acc ++ ((items.drop j).filter p).map g) S
  | 0, j, acc, h1, h2, h3 => by
    have ej : j = items.length := by omega
    subst ej
    simp [cGo, hsrc]
  | f + 1, j, acc, h1, h2, h3 => by
    by_cases hj : j < items.length
    · obtain ⟨ρ1, e1, e2, e3⟩ := he items[j] (List.getElem_mem hj)
      have ed : items.drop j = items[j] :: items.drop (j + 1) := List.drop_eq_getElem_cons hj
      rw [ed]
      simp only [cGo, hsrc, List.getElem?_eq_getElem hj, e1]
      cases hp : p items[j] with
      | true =>
        have k : ∀ r : R Bool, r = .ok true S → (r.bind fun b S1 => if b = true then (fe ρ1 S1).nox.bind fun y S2 => if acc.length < sizeLine then cGo src tg fc fe ρ f (j + 1) (acc ++ [y]) S2 else .stuck
          else cGo src tg fc fe ρ f (j + 1) acc S1) = .ok (acc ++ List.map g (List.filter p (items[j] :: List.drop (j + 1) items))) S := by
          rintro _ rfl
          simp only [R.bind, e3 hp, R.nox, if_true]
          rw [if_pos (by omega), cGo_pure p g hsrc he f (j + 1) _ (by omega) (by omega) (by simp; omega), List.filter_cons, if_pos hp, List.map_cons, List.append_assoc]
          rfl
        refine k _ ?_
        cases fc with
        | none => rfl
        | some fc =>
          rw [hp] at e2
          simp only [mB, e2]
          rfl
      | false =>
        have k : ∀ r : R Bool, r = .ok false S → (r.bind fun b S1 => if b = true then (fe ρ1 S1).nox.bind fun y S2 => if acc.length < sizeLine then cGo src tg fc fe ρ f (j + 1) (acc ++ [y]) S2 else .stuck
          else cGo src tg fc fe ρ f (j + 1) acc S1) = .ok (acc ++ List.map g (List.filter p (items[j] :: List.drop (j + 1) items))) S := by
          rintro _ rfl
          simp only [R.bind, Bool.false_eq_true, if_false]
          rw [cGo_pure p g hsrc he f (j + 1) _ (by omega) (by omega) (by omega), List.filter_cons, if_neg (by rw [hp]; exact Bool.false_ne_true)]
        refine k _ ?_
        cases fc with
        | none => rw [hp] at e2; cases e2
        | some fc =>
          rw [hp] at e2
          simp only [mB, e2]
          rfl
    · have ej : j = items.length := by omega
      subst ej
      simp [cGo, hsrc]
termination_by f => f
theorem cGo_map {α : Type} {items : List α} (h_ : α → Itm) (p : α → Bool) (g : α → D)
    (hsrc : ∀ j, srcAt S src j = some (items[j]?.map h_))
    (he : ∀ it ∈ items, ∃ ρ1, putIt S tg (h_ it) ρ = some ρ1 ∧ (match fc with
      | none => p it = true
      | some fc => fc ρ1 S = .ok (.bl (p it)) S) ∧ (p it = true → fe ρ1 S = .ok (g it) S)) :
    ∀ (f j : Nat) (acc : List D), j ≤ items.length → items.length ≤ j + f → acc.length + (items.length - j) ≤ sizeLine →
      cGo src tg fc fe ρ f j acc S = .ok (acc ++ ((items.drop j).filter p).map g) S
  | 0, j, acc, h1, h2, h3 => by
    have ej : j = items.length := by omega
    subst ej
    simp [cGo, hsrc]
  | f + 1, j, acc, h1, h2, h3 => by
    by_cases hj : j < items.length
    · obtain ⟨ρ1, e1, e2, e3⟩ := he items[j] (List.getElem_mem hj)
      have ed : items.drop j = items[j] :: items.drop (j + 1) := List.drop_eq_getElem_cons hj
      rw [ed]
      simp only [cGo, hsrc, List.getElem?_eq_getElem hj, Option.map_some, e1]
      cases hp : p items[j] with
      | true =>
        have k : ∀ r : R Bool, r = .ok true S → (r.bind fun b S1 => if b = true then (fe ρ1 S1).nox.bind fun y S2 => if acc.length < sizeLine then cGo src tg fc fe ρ f (j + 1) (acc ++ [y]) S2 else .stuck
          else cGo src tg fc fe ρ f (j + 1) acc S1) = .ok (acc ++ List.map g (List.filter p (items[j] :: List.drop (j + 1) items))) S := by
          rintro _ rfl
          simp only [R.bind, e3 hp, R.nox, if_true]
          rw [if_pos (by omega), cGo_map h_ p g hsrc he f (j + 1) _ (by omega) (by omega) (by simp; omega), List.filter_cons, if_pos hp, List.map_cons, List.append_assoc]
          rfl
        refine k _ ?_
        cases fc with
        | none => rfl
        | some fc =>
          rw [hp] at e2
          simp only [mB, e2]
          rfl
      | false =>
        have k : ∀ r : R Bool, r = .ok false S → (r.bind fun b S1 => if b = true then (fe ρ1 S1).nox.bind fun y S2 => if acc.length < sizeLine then cGo src tg fc fe ρ f (j + 1) (acc ++ [y]) S2 else .stuck
          else cGo src tg fc fe ρ f (j + 1) acc S1) = .ok (acc ++ List.map g (List.filter p (items[j] :: List.drop (j + 1) items))) S := by
          rintro _ rfl
          simp only [R.bind, Bool.false_eq_true, if_false]
          rw [cGo_map h_ p g hsrc he f (j + 1) _ (by omega) (by omega) (by omega), List.filter_cons, if_neg (by rw [hp]; exact Bool.false_ne_true)]
        refine k _ ?_
        cases fc with
        | none => rw [hp] at e2; cases e2
        | some fc =>
          rw [hp] at e2
          simp only [mB, e2]
          rfl
    · have ej : j = items.length := by omega
      subst ej
      simp [cGo, hsrc]
termination_by f => f
end
section
variable {Γ : Tx} {Os : List Orc} {ρ ρ1 : Ev} {S S1 : Hs} {mt : Bool} {vs : List Nat} {tg : Tg} {it : Ix} {e c : Ex} {src : Src} {items : List Itm}
/-- a comprehension without a test -/
theorem ev_lc_no (g : Itm → D) (hi : evi Γ Os it ρ S = .ok src S1) (hsrc : ∀ j, srcAt S1 src j = some items[j]?) (hf : items.length ≤ fuelOf S1 src) (hz : items.length ≤ sizeLine)
    (he : ∀ i ∈ items, ∃ ρ1, putIt S1 tg i (wipeE ρ vs) = some ρ1 ∧ ev Γ Os e ρ1 S1 = .ok (g i) S1) :
    ev Γ Os (.lc mt vs tg it .no e) ρ S = nwl mt (items.map g) S1 := by
  rw [ev_lc, hi]
  show R.bind (cGo src tg none (ev Γ Os e) (wipeE ρ vs) (fuelOf S1 src) 0 [] S1) _ = _
  rw [cGo_pure (fun _ => true) g hsrc (fun i hi => ?_) _ 0 [] (Nat.zero_le _) (by omega) (by simpa using hz)]
  · rw [List.filter_eq_self.mpr fun _ _ => rfl]
    simp [R.bind]
  · obtain ⟨ρ1, e1, e2⟩ := he i hi
    exact ⟨ρ1, e1, rfl, fun _ => e2⟩
/-- a comprehension with a test -/
theorem ev_lc_if (p : Itm → Bool) (g : Itm → D) (hi : evi Γ Os it ρ S = .ok src S1) (hsrc : ∀ j, srcAt S1 src j = some items[j]?) (hf : items.length ≤ fuelOf S1 src) (hz : items.length ≤ sizeLine)
    (he : ∀ i ∈ items, ∃ ρ1, putIt S1 tg i (wipeE ρ vs) = some ρ1 ∧ ev Γ Os c ρ1 S1 = .ok (.bl (p i)) S1 ∧ (p i = true → ev Γ Os e ρ1 S1 = .ok (g i) S1)) :
    ev Γ Os (.lc mt vs tg it (.some c) e) ρ S = nwl mt ((items.filter p).map g) S1 := by
  rw [ev_lc, hi]
  show R.bind (cGo src tg (some (ev Γ Os c)) (ev Γ Os e) (wipeE ρ vs) (fuelOf S1 src) 0 [] S1) _ = _
  rw [cGo_pure p g hsrc (fun i hi => ?_) _ 0 [] (Nat.zero_le _) (by omega) (by simpa using hz)]
  · simp [R.bind]
  · exact he i hi
/-- .. by the items themselves -/
theorem ev_lc_map {α : Type} {xs : List α} (h_ : α → Itm) (g : α → D) (hi : evi Γ Os it ρ S = .ok src S1) (hsrc : ∀ j, srcAt S1 src j = some (xs[j]?.map h_)) (hf : xs.length ≤ fuelOf S1 src) (hz : xs.length ≤ sizeLine)
    (he : ∀ x ∈ xs, ∃ ρ1, putIt S1 tg (h_ x) (wipeE ρ vs) = some ρ1 ∧ ev Γ Os e ρ1 S1 = .ok (g x) S1) :
    ev Γ Os (.lc mt vs tg it .no e) ρ S = nwl mt (xs.map g) S1 := by
  rw [ev_lc, hi]
  show R.bind (cGo src tg none (ev Γ Os e) (wipeE ρ vs) (fuelOf S1 src) 0 [] S1) _ = _
  rw [cGo_map h_ (fun _ => true) g hsrc (fun i hi => ?_) _ 0 [] (Nat.zero_le _) (by omega) (by simpa using hz)]
  · rw [List.filter_eq_self.mpr fun _ _ => rfl]
    simp [R.bind]
  · obtain ⟨ρ1, e1, e2⟩ := he i hi
    exact ⟨ρ1, e1, rfl, fun _ => e2⟩
theorem ev_lc_mapif {α : Type} {xs : List α} (h_ : α → Itm) (p : α → Bool) (g : α → D) (hi : evi Γ Os it ρ S = .ok src S1) (hsrc : ∀ j, srcAt S1 src j = some (xs[j]?.map h_)) (hf : xs.length ≤ fuelOf S1 src) (hz : xs.length ≤ sizeLine)
    (he : ∀ x ∈ xs, ∃ ρ1, putIt S1 tg (h_ x) (wipeE ρ vs) = some ρ1 ∧ ev Γ Os c ρ1 S1 = .ok (.bl (p x)) S1 ∧ (p x = true → ev Γ Os e ρ1 S1 = .ok (g x) S1)) :
    ev Γ Os (.lc mt vs tg it (.some c) e) ρ S = nwl mt ((xs.filter p).map g) S1 := by
  rw [ev_lc, hi]
  show R.bind (cGo src tg (some (ev Γ Os c)) (ev Γ Os e) (wipeE ρ vs) (fuelOf S1 src) 0 [] S1) _ = _
  rw [cGo_map h_ p g hsrc (fun i hi => ?_) _ 0 [] (Nat.zero_le _) (by omega) (by simpa using hz)]
  · simp [R.bind]
  · exact he i hi
end
end Pv

set_option maxHeartbeats 4000000
/-! Pl3: texts and rows of plain things. -/
namespace Pv
open PySem PySem.Spec PyProof.Rows L2
section
variable {α : Type} {S : Hs}
@[simp] theorem ty_str {x : Str} : tyM S (.str x) = some "str" := (rfl)
@[simp] theorem ty_tpx {xs : List D} : tyM S (.tpx xs) = some "tuple" := (rfl)
@[simp] theorem ty_lv {xs : List D} : tyM S (.lv xs) = some "list" := (rfl)
theorem ty_ref {n : Nat} {xs : List D} (h : S[n]? = some (.lst xs)) : tyM S (.ref n) = some "list" := by simp [tyM, h]
@[simp] theorem bt_append : bmtT .append = "list" := (rfl)
@[simp] theorem bt_extend : bmtT .extend = "list" := (rfl)
@[simp] theorem bt_pop : bmtT .pop = "list" := (rfl)
@[simp] theorem bt_insert : bmtT .insert = "list" := (rfl)
@[simp] theorem bt_index : bmtT .index = "list" := (rfl)
@[simp] theorem bt_tindex : bmtT .tindex = "tuple" := (rfl)
@[simp] theorem bt_sindex : bmtT .sindex = "str" := (rfl)
@[simp] theorem bt_split {mt : Bool} : bmtT (.split mt) = "str" := (rfl)
@[simp] theorem aug_int {i j : Int} : gAug .add (.int i) (.int j) S = .ok (.int (i + j)) S := (rfl)
@[simp] theorem aug_str {a b : Str} : gAug .add (.str a) (.str b) S = if a.length + b.length ≤ sizeLine then .ok (.str (a ++ b)) S else .stuck := (rfl)
theorem rng1 {j : Int} (h : -(2 ^ 62) ≤ j ∧ j < 2 ^ 62) : gRng [.int j] S = .ok (.rng 0 j.toNat) S := by
  simp only [gRng]
  rw [if_pos h]
theorem rng2 {i j : Int} (h : -(2 ^ 62) ≤ i ∧ i < 2 ^ 62 ∧ -(2 ^ 62) ≤ j ∧ j < 2 ^ 62) : gRng [.int i, .int j] S = .ok (.rng i (j - i).toNat) S := by
  simp only [gRng]
  rw [if_pos h]
@[simp] theorem fuel_rng {lo : Int} {n : Nat} : fuelOf S (.rng lo n) = n := (rfl)
@[simp] theorem fuel_fx {ds : List D} : fuelOf S (.one (.fx ds)) = ds.length := (rfl)
@[simp] theorem nxO_some {ρ : Ev} : nxO (some ρ) S = .nx ρ S := (rfl)
@[simp] theorem sets_nil {ρ : Ev} : sets ρ [] [] = some ρ := (rfl)
@[simp] theorem sets_cons {ρ : Ev} {i : Nat} {is : List Nat} {d : D} {ds : List D} : sets ρ (i :: is) (d :: ds) = sets (ρ.set i (some d)) is ds := (rfl)
@[simp] theorem oR_some {d : D} : oR (some d) S = .ok d S := (rfl)
theorem str_nil : ("" : Str) = ⟨#[]⟩ := by kernel_rfl
theorem add_strs {a b : Str} (h : a.length + b.length ≤ sizeLine) : bopG .add (.str a) (.str b) S = .ok (.str (a ++ b)) S := if_pos h
theorem le_str {a b : Str} : copG .le (.str a) (.str b) S = .ok (.bl (!strLt b a)) S := rfl
@[simp] theorem add_tup {a b : List D} : bopG .add (.tup a) (.tup b) S = if a.length + b.length ≤ sizeLine then .ok (.tup (a ++ b)) S else .stuck := (rfl)
@[simp] theorem addx_tpx {a b : List D} : bopG .addx (.tpx a) (.tpx b) S = if a.length + b.length ≤ sizeLine then .ok (.tpx (a ++ b)) S else .stuck := (rfl)
@[simp] theorem add_tpx {a b : List D} : bopG .add (.tpx a) (.tpx b) S = if a.length + b.length ≤ sizeLine then .ok (.tup (a ++ b)) S else .stuck := (rfl)
@[simp] theorem add_tup_tpx {a b : List D} : bopG .add (.tup a) (.tpx b) S = if a.length + b.length ≤ sizeLine then .ok (.tup (a ++ b)) S else .stuck := (rfl)
@[simp] theorem add_tpx_tup {a b : List D} : bopG .add (.tpx a) (.tup b) S = if a.length + b.length ≤ sizeLine then .ok (.tup (a ++ b)) S else .stuck := (rfl)
@[simp] theorem add_lv {a b : List D} : bopG .add (.lv a) (.lv b) S = if a.length + b.length ≤ sizeLine then .ok (.lv (a ++ b)) S else .stuck := (rfl)
theorem cut_to {α : Type} {xs : List α} {k : Nat} : Pv.cutD xs none (some (k : Int)) = xs.take k := by
  have h : ¬ ((k : Int) < 0) := by omega
  simp only [Pv.cutD, HT.sIx, h, if_false, Int.toNat_natCast, List.drop_zero, Nat.sub_zero]
  rw [Nat.min_def]
  split
  · rfl
  · rw [List.take_of_length_le (Nat.le_refl _), List.take_of_length_le (by omega)]
theorem cut_from {α : Type} {xs : List α} {k : Nat} : Pv.cutD xs (some (k : Int)) none = xs.drop k := by
  have h : ¬ ((k : Int) < 0) := by omega
  simp only [Pv.cutD, HT.sIx, h, if_false, Int.toNat_natCast]
  rw [List.take_of_length_le (by simp), Nat.min_def]
  split
  · rfl
  · rw [List.drop_of_length_le (Nat.le_refl _), List.drop_of_length_le (by omega)]
@[simp] theorem sl_tup {mt : Bool} {xs : List D} {lo hi : Option Int} : gSl mt (.tup xs) lo hi S = .ok (.tup (Pv.cutD xs lo hi)) S := (rfl)
@[simp] theorem sl_lv {mt : Bool} {xs : List D} {lo hi : Option Int} : gSl mt (.lv xs) lo hi S = nwl mt (Pv.cutD xs lo hi) S := (rfl)
theorem append_ref {n : Nat} {xs : List D} {y : D} (h : S[n]? = some (.lst xs)) (hl : xs.length < sizeLine) : bmtG .append (.ref n) [y] S = .ok .non (S.set n (.lst (xs ++ [y]))) := by
  rw [show bmtG .append = gAppend from rfl]
  simp [gAppend, mL, h, hl]
theorem idx_ref {n : Nat} {xs : List D} {i : Int} {y : D} (h : S[n]? = some (.lst xs)) (hi : atI xs i = some y) : gIdx (.ref n) (.int i) S = .ok y S := by
  simp [gIdx, dOf, h, sOf, hi, oR]
theorem atI_last {α : Type} {xs : List α} {y : α} (h : xs.getLast? = some y) : atI xs (-1) = some y := by
  cases e : xs with
  | nil => rw [e] at h; cases h
  | cons a r =>
    rw [e, List.getLast?_eq_getElem?] at h
    have : ixN (a :: r).length (-1) = some ((a :: r).length - 1) := by
      unfold ixN
      rw [if_neg (by omega), if_pos (by simp only [List.length_cons]; omega)]
      congr 1
      simp only [List.length_cons]
      omega
    simp only [atI, this, Option.bind_some]
    exact h
theorem bls_map {xs : List α} {p : α → Bool} : bls (xs.map fun x => .bl (p x)) = some (xs.map p) := by
  induction xs with
  | nil => rfl
  | cons x xs ih => simp only [List.map_cons, bls, ih]
@[simp] theorem all_map {xs : List α} {p : α → Bool} : bltG .all [.lv (xs.map fun x => .bl (p x))] S = .ok (.bl (xs.all p)) S := by
  show gAll false [.lv (xs.map fun x => .bl (p x))] S = _
  simp [gAll, sOf, bls_map]
def inC (c : Nat) (z : Str) : Bool := decide (c ∈ z.cps.toList)
@[simp] theorem in_char {c : Nat} {z : Str} : copG .in_ (.str ⟨#[c]⟩) (.str z) S = .ok (.bl (inC c z)) S := (rfl)
@[simp] theorem nin_char {c : Nat} {z : Str} : copG .nin (.str ⟨#[c]⟩) (.str z) S = .ok (.bl (!inC c z)) S := (rfl)
theorem len_cps {z : Str} : z.length = z.cps.toList.length := by simp [Str.length]
theorem str_at0 {z : Str} {c : Nat} {r : List Nat} (e : z.cps.toList = c :: r) (h : z.length ≤ sizeLine) : gIdx (.str z) (.int 0) S = .ok (.str ⟨#[c]⟩) S := by
  simp [gIdx, dOf, h, atI, ixN, e]
theorem pyDs_str {zs : List Str} : pyDs (zs.map .str) = some (zs.map .str) := by
  induction zs with
  | nil => rfl
  | cons z zs ih => simp only [List.map_cons, pyDs, pyD, ih]
theorem lay_strs : ∀ {zs : List Str}, (∀ z ∈ zs, PyData.strOk z = true) → PyData.canLayAll0 (zs.map .str) = true
  | [], _ => rfl
  | z :: zs, h => by
    simp only [List.map_cons, PyData.canLayAll0, PyData.canLay0]
    rw [h z List.mem_cons_self, lay_strs fun y hy => h y (List.mem_cons_of_mem _ hy)]
    rfl
theorem depth_strs : ∀ {zs : List Str}, PyData.depthAll (zs.map .str) = 0
  | [] => rfl
  | z :: zs => by
    simp only [List.map_cons, PyData.depthAll, PyData.depth]
    rw [depth_strs]
    rfl
theorem shaped_strs {zs : List Str} (h : ∀ z ∈ zs, PyData.strOk z = true) : SeqAt.shaped (.list (zs.map .str)) = true := by
  simp [SeqAt.shaped, PyData.canLay0, PyData.depth, lay_strs h, depth_strs]
theorem shaped_nil : SeqAt.shaped (.list []) = true := by decide
theorem eqv_nil {ps : List PyData} : PyData.eqv (.list ps) (.list []) = ps.isEmpty := by
  cases ps <;> rfl
theorem eqnil_strs {zs : List Str} (h : ∀ z ∈ zs, PyData.strOk z = true) : copG .eq (.lv (zs.map .str)) (.lv []) S = .ok (.bl zs.isEmpty) S := by
  rw [show copG .eq = gEq false from rfl]
  simp only [gEq, eqS, pyT, pyD, pyDs_str, pyDs, shaped_strs h, shaped_nil, and_self, if_true, eqv_nil, Bool.false_eq_true, if_false]
  simp
theorem neqnil_ref {n : Nat} {zs : List Str} (hn : S[n]? = some (.lst (zs.map .str))) (h : ∀ z ∈ zs, PyData.strOk z = true) : copG .ne (.ref n) (.lv []) S = .ok (.bl (!zs.isEmpty)) S := by
  rw [show copG .ne = gEq true from rfl]
  simp only [gEq, eqS, pyT, pyD, lOf, hn, pyDs_str, pyDs, shaped_strs h, shaped_nil, and_self, if_true, eqv_nil]
  simp
end
/-! ### comprehensions over the signs of a text -/
section
variable {Γ : Tx} {Os : List Orc} {ρ : Ev} {S : Hs} {mt : Bool} {vs : List Nat} {i : Nat} {x e c : Ex} {z : Str}
theorem lc_str (g : Nat → D) (hx : ev Γ Os x ρ S = .ok (.str z) S) (hz : z.length ≤ sizeLine) (he : ∀ c ∈ z.cps.toList, ev Γ Os e ((wipeE ρ vs).set i (some (.str ⟨#[c]⟩))) S = .ok (g c) S) :
    ev Γ Os (.lc mt vs (.v i) (.ex x) .no e) ρ S = nwl mt (z.cps.toList.map g) S := by
  have hi : evi Γ Os (.ex x) ρ S = .ok (.str z) S := by
    rw [evi_ex, hx]
    rfl
  rw [ev_lc_no (fun it => match it with
    | .d (.str y) => g (y.cps.getD 0 0)
    | _ => .non) hi (fun j => src_str) (by simp [fuelOf]) (by simpa [Str.length] using hz)]
  · simp [List.map_map, Function.comp_def]
  · intro it hit
    obtain ⟨c, hc, rfl⟩ := List.mem_map.mp hit
    exact ⟨_, rfl, by simpa using he c hc⟩
theorem lc_str_if (p : Nat → Bool) (g : Nat → D) (hx : ev Γ Os x ρ S = .ok (.str z) S) (hz : z.length ≤ sizeLine) (he : ∀ d ∈ z.cps.toList, ev Γ Os c ((wipeE ρ vs).set i (some (.str ⟨#[d]⟩))) S = .ok (.bl (p d)) S ∧ (p d = true → ev Γ Os e ((wipeE ρ vs).set i (some (.str ⟨#[d]⟩))) S = .ok (g d) S)) :
    ev Γ Os (.lc mt vs (.v i) (.ex x) (.some c) e) ρ S = nwl mt ((z.cps.toList.filter p).map g) S := by
  have hi : evi Γ Os (.ex x) ρ S = .ok (.str z) S := by
    rw [evi_ex, hx]
    rfl
  rw [ev_lc_if (fun it => match it with
    | .d (.str y) => p (y.cps.getD 0 0)
    | _ => false) (fun it => match it with
    | .d (.str y) => g (y.cps.getD 0 0)
    | _ => .non) hi (fun j => src_str) (by simp [fuelOf]) (by simpa [Str.length] using hz)]
  · rw [List.filter_map, List.map_map]
    simp [Function.comp_def]
  · intro it hit
    obtain ⟨c, hc, rfl⟩ := List.mem_map.mp hit
    exact ⟨_, rfl, by simpa using he c hc⟩
/-- over a row of values -/
theorem lc_fx (g : D → D) {ds : List D} {d : D} (hx : ev Γ Os x ρ S = .ok d S) (hs : gSrc d S = .ok (.one (.fx ds)) S) (hz : ds.length ≤ sizeLine) (he : ∀ y ∈ ds, ev Γ Os e ((wipeE ρ vs).set i (some y)) S = .ok (g y) S) :
    ev Γ Os (.lc mt vs (.v i) (.ex x) .no e) ρ S = nwl mt (ds.map g) S := by
  have hi : evi Γ Os (.ex x) ρ S = .ok (.one (.fx ds)) S := by
    rw [evi_ex, hx]
    exact hs
  rw [ev_lc_no (fun it => match it with
    | .d y => g y
    | _ => .non) hi (fun j => src_fx) (by simp [fuelOf, len1]) (by simpa using hz)]
  · simp [List.map_map, Function.comp_def]
  · intro it hit
    obtain ⟨c, hc, rfl⟩ := List.mem_map.mp hit
    exact ⟨_, rfl, he c hc⟩
theorem lc_fx_if (p : D → Bool) (g : D → D) {ds : List D} {d : D} (hx : ev Γ Os x ρ S = .ok d S) (hs : gSrc d S = .ok (.one (.fx ds)) S) (hz : ds.length ≤ sizeLine) (he : ∀ y ∈ ds, ev Γ Os c ((wipeE ρ vs).set i (some y)) S = .ok (.bl (p y)) S ∧ (p y = true → ev Γ Os e ((wipeE ρ vs).set i (some y)) S = .ok (g y) S)) :
    ev Γ Os (.lc mt vs (.v i) (.ex x) (.some c) e) ρ S = nwl mt ((ds.filter p).map g) S := by
  have hi : evi Γ Os (.ex x) ρ S = .ok (.one (.fx ds)) S := by
    rw [evi_ex, hx]
    exact hs
  rw [ev_lc_if (fun it => match it with
    | .d y => p y
    | _ => false) (fun it => match it with
    | .d y => g y
    | _ => .non) hi (fun j => src_fx) (by simp [fuelOf, len1]) (by simpa using hz)]
  · rw [List.filter_map, List.map_map]
    simp [Function.comp_def]
  · intro it hit
    obtain ⟨c, hc, rfl⟩ := List.mem_map.mp hit
    exact ⟨_, rfl, he c hc⟩
@[simp] theorem src_tup {ds : List D} : gSrc (.tup ds) S = .ok (.one (.fx ds)) S := (rfl)
@[simp] theorem src_tpx {ds : List D} : gSrc (.tpx ds) S = .ok (.one (.fx ds)) S := (rfl)
@[simp] theorem src_lv {ds : List D} : gSrc (.lv ds) S = .ok (.one (.fx ds)) S := (rfl)
@[simp] theorem src_rl {ds : List D} : gSrc (.rl ds) S = .ok (.one (.fx ds)) S := (rfl)
theorem src_ref {n : Nat} {ds : List D} (h : S[n]? = some (.lst ds)) : gSrc (.ref n) S = .ok (.one (.dy n)) S := by
  simp [gSrc, srcT, src1, h]
/-- over a list that may be written -/
theorem lc_dy (g : D → D) {ds : List D} {n : Nat} (hx : ev Γ Os x ρ S = .ok (.ref n) S) (hs : S[n]? = some (.lst ds)) (hz : ds.length ≤ sizeLine) (he : ∀ y ∈ ds, ev Γ Os e ((wipeE ρ vs).set i (some y)) S = .ok (g y) S) :
    ev Γ Os (.lc mt vs (.v i) (.ex x) .no e) ρ S = nwl mt (ds.map g) S := by
  have hi : evi Γ Os (.ex x) ρ S = .ok (.one (.dy n)) S := by
    rw [evi_ex, hx]
    exact src_ref hs
  rw [ev_lc_no (fun it => match it with
    | .d y => g y
    | _ => .non) hi (fun j => src_dy hs) (by simp [fuelOf, len1, hs]) (by simpa using hz)]
  · simp [List.map_map, Function.comp_def]
  · intro it hit
    obtain ⟨c, hc, rfl⟩ := List.mem_map.mp hit
    exact ⟨_, rfl, he c hc⟩
theorem lc_dy_if (p : D → Bool) (g : D → D) {ds : List D} {n : Nat} (hx : ev Γ Os x ρ S = .ok (.ref n) S) (hs : S[n]? = some (.lst ds)) (hz : ds.length ≤ sizeLine) (he : ∀ y ∈ ds, ev Γ Os c ((wipeE ρ vs).set i (some y)) S = .ok (.bl (p y)) S ∧ (p y = true → ev Γ Os e ((wipeE ρ vs).set i (some y)) S = .ok (g y) S)) :
    ev Γ Os (.lc mt vs (.v i) (.ex x) (.some c) e) ρ S = nwl mt ((ds.filter p).map g) S := by
  have hi : evi Γ Os (.ex x) ρ S = .ok (.one (.dy n)) S := by
    rw [evi_ex, hx]
    exact src_ref hs
  rw [ev_lc_if (fun it => match it with
    | .d y => p y
    | _ => false) (fun it => match it with
    | .d y => g y
    | _ => .non) hi (fun j => src_dy hs) (by simp [fuelOf, len1, hs]) (by simpa using hz)]
  · rw [List.filter_map, List.map_map]
    simp [Function.comp_def]
  · intro it hit
    obtain ⟨c, hc, rfl⟩ := List.mem_map.mp hit
    exact ⟨_, rfl, he c hc⟩
theorem dyM {α : Type} {xs : List α} {h_ : α → D} {n : Nat} {S : Hs} (hs : S[n]? = some (.lst (xs.map h_))) (j : Nat) : srcAt S (.one (.dy n)) j = some (xs[j]?.map fun x => Itm.d (h_ x)) := by
  rw [src_dy hs, List.getElem?_map, List.getElem?_map, Option.map_map]
  rfl
theorem fxM {α : Type} {xs : List α} {h_ : α → D} {S : Hs} (j : Nat) : srcAt S (.one (.fx (xs.map h_))) j = some (xs[j]?.map fun x => Itm.d (h_ x)) := by
  rw [src_fx, List.getElem?_map, List.getElem?_map, Option.map_map]
  rfl
/-- over a row of made values -/
theorem lcM {α : Type} {xs : List α} {h_ : α → D} (g : α → D) {d : D} (hx : ev Γ Os x ρ S = .ok d S) (hs : gSrc d S = .ok (.one (.fx (xs.map h_))) S) (hz : xs.length ≤ sizeLine) (he : ∀ y ∈ xs, ev Γ Os e ((wipeE ρ vs).set i (some (h_ y))) S = .ok (g y) S) :
    ev Γ Os (.lc mt vs (.v i) (.ex x) .no e) ρ S = nwl mt (xs.map g) S := by
  have hi : evi Γ Os (.ex x) ρ S = .ok (.one (.fx (xs.map h_))) S := by
    rw [evi_ex, hx]
    exact hs
  exact ev_lc_map (fun y => Itm.d (h_ y)) g hi fxM (by simp) hz fun y hy => ⟨_, rfl, he y hy⟩
theorem lcM_if {α : Type} {xs : List α} {h_ : α → D} (p : α → Bool) (g : α → D) {d : D} (hx : ev Γ Os x ρ S = .ok d S) (hs : gSrc d S = .ok (.one (.fx (xs.map h_))) S) (hz : xs.length ≤ sizeLine) (he : ∀ y ∈ xs, ev Γ Os c ((wipeE ρ vs).set i (some (h_ y))) S = .ok (.bl (p y)) S ∧ (p y = true → ev Γ Os e ((wipeE ρ vs).set i (some (h_ y))) S = .ok (g y) S)) :
    ev Γ Os (.lc mt vs (.v i) (.ex x) (.some c) e) ρ S = nwl mt ((xs.filter p).map g) S := by
  have hi : evi Γ Os (.ex x) ρ S = .ok (.one (.fx (xs.map h_))) S := by
    rw [evi_ex, hx]
    exact hs
  exact ev_lc_mapif (fun y => Itm.d (h_ y)) p g hi fxM (by simp) hz fun y hy => ⟨_, rfl, he y hy⟩
theorem lcD_if {α : Type} {xs : List α} {h_ : α → D} (p : α → Bool) (g : α → D) {n : Nat} (hx : ev Γ Os x ρ S = .ok (.ref n) S) (hs : S[n]? = some (.lst (xs.map h_))) (hz : xs.length ≤ sizeLine) (he : ∀ y ∈ xs, ev Γ Os c ((wipeE ρ vs).set i (some (h_ y))) S = .ok (.bl (p y)) S ∧ (p y = true → ev Γ Os e ((wipeE ρ vs).set i (some (h_ y))) S = .ok (g y) S)) :
    ev Γ Os (.lc mt vs (.v i) (.ex x) (.some c) e) ρ S = nwl mt ((xs.filter p).map g) S := by
  have hi : evi Γ Os (.ex x) ρ S = .ok (.one (.dy n)) S := by
    rw [evi_ex, hx]
    exact src_ref hs
  exact ev_lc_mapif (fun y => Itm.d (h_ y)) p g hi (dyM hs) (by simp [fuelOf, len1, hs]) hz fun y hy => ⟨_, rfl, he y hy⟩
end
section
variable {S : Hs}
theorem fvs_strs {l : List Str} : fvs (l.map .str) = some (l.map .str) := by
  induction l with
  | nil => rfl
  | cons x l ih => simp only [List.map_cons, fvs, fv, ih]
theorem inV_strs {v : Str} {l : List Str} : inV (.str v) (l.map .str) = decide (v ∈ l) := by
  induction l with
  | nil => rfl
  | cons x l ih =>
    rw [List.map_cons, show inV (.str v) (.str x :: l.map .str) = (eqV (.str x) (.str v) || inV (.str v) (l.map .str)) from rfl, ih]
    rw [show eqV (.str x) (.str v) = (x == v) from rfl]
    by_cases h : x = v
    · subst h; simp
    · have h' : ¬ v = x := fun e => h e.symm
      simp [h, h']
theorem in_strs {v : Str} {l : List Str} {d : D} (h : sOf S d = .t (l.map .str) ∨ sOf S d = .l (l.map .str)) : copG .in_ (.str v) d S = .ok (.bl (decide (v ∈ l))) S := by
  rw [show copG .in_ = gIn false from rfl]
  cases d with
  | str z => rcases h with h | h <;> cases h
  | _ =>
    rcases h with h | h
    all_goals simp only [gIn, h, inRow, fv, fvs_strs, inV_strs, Bool.false_eq_true, if_false]
theorem nin_strs {v : Str} {l : List Str} {d : D} (h : sOf S d = .t (l.map .str) ∨ sOf S d = .l (l.map .str)) : copG .nin (.str v) d S = .ok (.bl (!decide (v ∈ l))) S := by
  rw [show copG .nin = gIn true from rfl]
  cases d with
  | str z => rcases h with h | h <;> cases h
  | _ =>
    rcases h with h | h
    all_goals simp only [gIn, h, inRow, fv, fvs_strs, inV_strs, if_true]
end
end Pv

set_option maxHeartbeats 4000000
/-! L1: the Loader: its objects, take, number. -/
namespace K71
open PySem PySem.Spec PyProof.Rows L2 Pv

/-! ### the mirror of code -/
inductive Rw where
  | past (m : Str) (n a : Int) | got (m : Str) (a : Int) | do_ (m : Str) | go (a : Int) | rest | stop
  deriving DecidableEq
def Rw.d : Rw → D
  | .past m n a => .tup [.str "past", .str m, .int n, .int a]
  | .got m a => .tup [.str "got", .str m, .int a]
  | .do_ m => .tup [.str "do", .str m]
  | .go a => .tup [.str "go", .int a]
  | .rest => .tup [.str "rest"]
  | .stop => .tup [.str "stop"]

/-- the Loader's fields -/
def LF (p : Nat) (im : List Int) (k : Nat) : List (Str × D) := [("image", .tup (im.map .int)), ("at", .int (k : Int)), ("names", .ref (p + 1)), ("places", .ref (p + 2)), ("starts", .ref (p + 3)), ("rows", .ref (p + 4))]
/-- the Loader and its lists, behind the heap S0 -/
def LS (S0 : Hs) (im : List Int) (k : Nat) (nm : List Str) (pl st : List Int) (rw_ : List Rw) : Hs :=
  S0 ++ [.ins "Loader" (LF S0.length im k), .lst (nm.map .str), .lst (pl.map .int), .lst (st.map .int), .lst (rw_.map Rw.d)]
section
variable {S0 : Hs} {im : List Int} {k : Nat} {nm : List Str} {pl st : List Int} {rw_ : List Rw}
theorem LS_0 : (LS S0 im k nm pl st rw_)[S0.length]? = some (.ins "Loader" (LF S0.length im k)) := by simp [LS]
theorem LS_1 : (LS S0 im k nm pl st rw_)[S0.length + 1]? = some (.lst (nm.map .str)) := by simp [LS]
theorem LS_2 : (LS S0 im k nm pl st rw_)[S0.length + 2]? = some (.lst (pl.map .int)) := by simp [LS]
theorem LS_3 : (LS S0 im k nm pl st rw_)[S0.length + 3]? = some (.lst (st.map .int)) := by simp [LS]
theorem LS_4 : (LS S0 im k nm pl st rw_)[S0.length + 4]? = some (.lst (rw_.map Rw.d)) := by simp [LS]
theorem LS_set0 {k' : Nat} : (LS S0 im k nm pl st rw_).set S0.length (.ins "Loader" (LF S0.length im k')) = LS S0 im k' nm pl st rw_ := by simp [LS]
theorem LS_set1 {x : Str} : (LS S0 im k nm pl st rw_).set (S0.length + 1) (.lst (nm.map .str ++ [.str x])) = LS S0 im k (nm ++ [x]) pl st rw_ := by simp [LS]
theorem LS_set2 {x : Int} : (LS S0 im k nm pl st rw_).set (S0.length + 2) (.lst (pl.map .int ++ [.int x])) = LS S0 im k nm (pl ++ [x]) st rw_ := by simp [LS]
theorem LS_set3 {x : Int} : (LS S0 im k nm pl st rw_).set (S0.length + 3) (.lst (st.map .int ++ [.int x])) = LS S0 im k nm pl (st ++ [x]) rw_ := by simp [LS]
theorem LS_set4 {x : Rw} : (LS S0 im k nm pl st rw_).set (S0.length + 4) (.lst (rw_.map Rw.d ++ [x.d])) = LS S0 im k nm pl st (rw_ ++ [x]) := by simp [LS]
@[simp] theorem iOf_LS : iOf (LS S0 im k nm pl st rw_) (.ref S0.length) = some (S0.length, ("Loader" : Str), LF S0.length im k) := by simp [iOf, LS_0]
@[simp] theorem mem_Loader : (("Loader" : Str) ∈ [("Loader" : Str)]) = True := by simp
@[simp] theorem LF_image {p : Nat} : (LF p im k).lookup ("image" : Str) = some (.tup (im.map .int)) := by kernel_rfl
@[simp] theorem LF_at {p : Nat} : (LF p im k).lookup ("at" : Str) = some (.int (k : Int)) := by kernel_rfl
@[simp] theorem LF_names {p : Nat} : (LF p im k).lookup ("names" : Str) = some (.ref (p + 1)) := by kernel_rfl
@[simp] theorem LF_places {p : Nat} : (LF p im k).lookup ("places" : Str) = some (.ref (p + 2)) := by kernel_rfl
@[simp] theorem LF_starts {p : Nat} : (LF p im k).lookup ("starts" : Str) = some (.ref (p + 3)) := by kernel_rfl
@[simp] theorem LF_rows {p : Nat} : (LF p im k).lookup ("rows" : Str) = some (.ref (p + 4)) := by kernel_rfl
@[simp] theorem LF_m1 {p : Nat} : (LF p im k).lookup ("take" : Str) = none := by kernel_rfl
@[simp] theorem LF_m2 {p : Nat} : (LF p im k).lookup ("refuse" : Str) = none := by kernel_rfl
@[simp] theorem LF_m3 {p : Nat} : (LF p im k).lookup ("number" : Str) = none := by kernel_rfl
@[simp] theorem LF_m4 {p : Nat} : (LF p im k).lookup ("read_part" : Str) = none := by kernel_rfl
@[simp] theorem LF_m5 {p : Nat} : (LF p im k).lookup ("read_row" : Str) = none := by kernel_rfl
@[simp] theorem LF_m6 {p : Nat} : (LF p im k).lookup ("read_name" : Str) = none := by kernel_rfl
@[simp] theorem LF_m7 {p : Nat} : (LF p im k).lookup ("read_head" : Str) = none := by kernel_rfl
@[simp] theorem LF_m8 {p : Nat} : (LF p im k).lookup ("read_end" : Str) = none := by kernel_rfl
@[simp] theorem LF_m9 {p : Nat} : (LF p im k).lookup ("read" : Str) = none := by kernel_rfl
@[simp] theorem LF_len {p : Nat} : (LF p im k).length = 6 := rfl
theorem LF_put {p : Nat} {j : Nat} : putD ("at" : Str) (.int (j : Int)) (LF p im k) = LF p im j := by kernel_rfl
end
/-- what is told of a wrong place -/
def badAt (i : Int) : List (Str × D) := [("number", .int i), ("what", .str "place")]
section
variable {n : Nat} {S0 S : Hs} {im : List Int} {k : Nat} {nm : List Str} {pl st : List Int} {rw_ : List Rw}
theorem refuse_eq {i : Int} {x : D} (hn : 1 ≤ n) : hd (specs Γ n) i_Loader_refuse [x, .int i] S = .exc "BadNumber" (badAt i) S := by
  rw [run_Loader_refuse hn]
  simp [runFn, f_Loader_refuse, b_Loader_refuse, badAt]
/-- the next integer -/
theorem take_eq (hn : 2 ≤ n) (hk : k ≤ im.length) : hd (specs Γ n) i_Loader_take [.ref S0.length] (LS S0 im k nm pl st rw_) = match im[k]? with
    | some v => .ok (.int v) (LS S0 im (k + 1) nm pl st rw_)
    | none => .exc "BadNumber" (badAt im.length) (LS S0 im k nm pl st rw_) := by
  rw [run_Loader_take (by omega)]
  by_cases h : k < im.length
  · have e : ¬ (k : Int) = (im.length : Int) := by omega
    rw [List.getElem?_eq_getElem h]
    have ek : ((k : Int) + 1) = ((k + 1 : Nat) : Int) := by omega
    simp [runFn, f_Loader_take, b_Loader_take, oR, e, gAug]
    rw [ek, LF_put, LS_set0]
    simp [gIdx, dOf, sOf, oR, atI, ixN, h]
  · have e : k = im.length := by omega
    subst e
    simp [runFn, f_Loader_take, b_Loader_take, oR, refuse_eq (show 1 ≤ n - 1 by omega)]
end
end K71

set_option maxHeartbeats 4000000
/-! L2: numbers that the Loader reads. -/
namespace K71
open PySem PySem.Spec PyProof.Rows L2 Pv

/-- what a reading comes to: a value and a heap, or the first wrong place -/
def Par {α : Type} (S0 : Hs) (r : R D) (m : Except Int α) (f : α → D) (g : α → Hs) : Prop := match m with
  | .ok a => r = .ok (f a) (g a)
  | .error e => ∃ X, r = .exc "BadNumber" (badAt e) (S0 ++ X)
def bAt (im : List Int) (k : Nat) : Int := im.getD k 0
def valM (im : List Int) (k : Nat) : Nat → Int
  | 0 => 0
  | j + 1 => valM im k j * 256 + bAt im (k + j)
def numM (im : List Int) (many : Nat) (most : Int) (k : Nat) : Except Int (Int × Nat) :=
  if im.length < k + many then .error im.length else if valM im k many ≤ most then .ok (valM im k many, k + many) else .error k
section
variable {n : Nat} {S0 S : Hs} {im : List Int} {k : Nat} {nm : List Str} {pl st : List Int} {rw_ : List Rw}
theorem take_ok (hn : 2 ≤ n) (hk : k < im.length) : hd (specs Γ n) i_Loader_take [.ref S0.length] (LS S0 im k nm pl st rw_) = .ok (.int (bAt im k)) (LS S0 im (k + 1) nm pl st rw_) := by
  rw [take_eq hn (Nat.le_of_lt hk), List.getElem?_eq_getElem hk]
  simp [bAt, hk]
theorem take_no (hn : 2 ≤ n) (hk : k = im.length) : hd (specs Γ n) i_Loader_take [.ref S0.length] (LS S0 im k nm pl st rw_) = .exc "BadNumber" (badAt im.length) (LS S0 im k nm pl st rw_) := by
  rw [take_eq hn (Nat.le_of_eq hk), List.getElem?_eq_none (Nat.le_of_eq hk.symm)]
theorem par_err {r : R D} {e : Int} (h : r = .exc "BadNumber" (badAt e) (LS S0 im k nm pl st rw_)) : ∃ X, r = .exc "BadNumber" (badAt e) (S0 ++ X) := ⟨_, h⟩
theorem val2 : valM im k 2 = bAt im k * 256 + bAt im (k + 1) := by simp [valM]
theorem val3 : valM im k 3 = (bAt im k * 256 + bAt im (k + 1)) * 256 + bAt im (k + 2) := by simp [valM]
theorem number2 {most : Int} (hn : 3 ≤ n) (hk : k ≤ im.length) : Par S0 (hd (specs Γ n) i_Loader_number [.ref S0.length, .int 2, .int most] (LS S0 im k nm pl st rw_)) (numM im 2 most k) (fun a => .int a.1) (fun a => LS S0 im a.2 nm pl st rw_) := by
  rw [run_Loader_number (by omega)]
  unfold numM
  by_cases h : im.length < k + 2
  · rw [if_pos h]
    by_cases h1 : k = im.length
    · refine par_err (im := im) (k := k) (nm := nm) (pl := pl) (st := st) (rw_ := rw_) ?_
      simp only [runFn, f_Loader_number, b_Loader_number]
      simp [oR, sv_for, gRng, forGo, fuelOf, srcAt, putIt, b_Loader_number_0, nxO, sets, take_no (show 2 ≤ n - 1 by omega) h1]
    · have h2 : k + 1 = im.length := by omega
      refine par_err (im := im) (k := k + 1) (nm := nm) (pl := pl) (st := st) (rw_ := rw_) ?_
      simp only [runFn, f_Loader_number, b_Loader_number]
      simp [oR, sv_for, gRng, forGo, fuelOf, srcAt, putIt, b_Loader_number_0, nxO, sets, take_ok (show 2 ≤ n - 1 by omega) (show k < im.length by omega), take_no (show 2 ≤ n - 1 by omega) h2]
  · rw [if_neg h, val2]
    split
    · rename_i hv
      show _ = _
      simp only [runFn, f_Loader_number, b_Loader_number]
      simp [oR, sv_for, gRng, forGo, fuelOf, srcAt, putIt, b_Loader_number_0, nxO, sets, take_ok (show 2 ≤ n - 1 by omega) (show k < im.length by omega), take_ok (show 2 ≤ n - 1 by omega) (show k + 1 < im.length by omega), Int.not_lt.mpr hv]
    · rename_i hv
      refine par_err (im := im) (k := k + 2) (nm := nm) (pl := pl) (st := st) (rw_ := rw_) ?_
      simp only [runFn, f_Loader_number, b_Loader_number]
      simp [oR, sv_for, gRng, forGo, fuelOf, srcAt, putIt, b_Loader_number_0, nxO, sets, take_ok (show 2 ≤ n - 1 by omega) (show k < im.length by omega), take_ok (show 2 ≤ n - 1 by omega) (show k + 1 < im.length by omega), Int.not_le.mp hv, refuse_eq (show 1 ≤ n - 1 by omega)]
theorem number3 {most : Int} (hn : 3 ≤ n) (hk : k ≤ im.length) : Par S0 (hd (specs Γ n) i_Loader_number [.ref S0.length, .int 3, .int most] (LS S0 im k nm pl st rw_)) (numM im 3 most k) (fun a => .int a.1) (fun a => LS S0 im a.2 nm pl st rw_) := by
  rw [run_Loader_number (by omega)]
  unfold numM
  by_cases h : im.length < k + 3
  · rw [if_pos h]
    by_cases h1 : k = im.length
    · refine par_err (im := im) (k := k) (nm := nm) (pl := pl) (st := st) (rw_ := rw_) ?_
      simp only [runFn, f_Loader_number, b_Loader_number]
      simp [oR, sv_for, gRng, forGo, fuelOf, srcAt, putIt, b_Loader_number_0, nxO, sets, take_no (show 2 ≤ n - 1 by omega) h1]
    · by_cases h2 : k + 1 = im.length
      · refine par_err (im := im) (k := k + 1) (nm := nm) (pl := pl) (st := st) (rw_ := rw_) ?_
        simp only [runFn, f_Loader_number, b_Loader_number]
        simp [oR, sv_for, gRng, forGo, fuelOf, srcAt, putIt, b_Loader_number_0, nxO, sets, take_ok (show 2 ≤ n - 1 by omega) (show k < im.length by omega), take_no (show 2 ≤ n - 1 by omega) h2]
      · have h3 : k + 1 + 1 = im.length := by omega
        refine par_err (im := im) (k := k + 2) (nm := nm) (pl := pl) (st := st) (rw_ := rw_) ?_
        simp only [runFn, f_Loader_number, b_Loader_number]
        simp [oR, sv_for, gRng, forGo, fuelOf, srcAt, putIt, b_Loader_number_0, nxO, sets, take_ok (show 2 ≤ n - 1 by omega) (show k < im.length by omega), take_ok (show 2 ≤ n - 1 by omega) (show k + 1 < im.length by omega), take_no (show 2 ≤ n - 1 by omega) h3]
  · rw [if_neg h, val3]
    split
    · rename_i hv
      show _ = _
      simp only [runFn, f_Loader_number, b_Loader_number]
      simp [oR, sv_for, gRng, forGo, fuelOf, srcAt, putIt, b_Loader_number_0, nxO, sets, take_ok (show 2 ≤ n - 1 by omega) (show k < im.length by omega), take_ok (show 2 ≤ n - 1 by omega) (show k + 1 < im.length by omega), take_ok (show 2 ≤ n - 1 by omega) (show k + 1 + 1 < im.length by omega), Int.not_lt.mpr hv]
    · rename_i hv
      refine par_err (im := im) (k := k + 3) (nm := nm) (pl := pl) (st := st) (rw_ := rw_) ?_
      simp only [runFn, f_Loader_number, b_Loader_number]
      simp [oR, sv_for, gRng, forGo, fuelOf, srcAt, putIt, b_Loader_number_0, nxO, sets, take_ok (show 2 ≤ n - 1 by omega) (show k < im.length by omega), take_ok (show 2 ≤ n - 1 by omega) (show k + 1 < im.length by omega), take_ok (show 2 ≤ n - 1 by omega) (show k + 1 + 1 < im.length by omega), Int.not_le.mp hv, refuse_eq (show 1 ≤ n - 1 by omega)]
end
end K71

set_option maxHeartbeats 4000000
/-! L3: names, numerals, paths, by the program and by the law. -/
namespace K71
open PySem PySem.Spec PyProof.Rows L2 Pv

def isLet (c : Nat) : Bool := decide (97 ≤ c ∧ c ≤ 122)
def isFig (c : Nat) : Bool := decide (48 ≤ c ∧ c ≤ 57)
theorem cs_let : ("abcdefghijklmnopqrstuvwxyz" : Str).cps.toList = [97, 98, 99, 100, 101, 102, 103, 104, 105, 106, 107, 108, 109, 110, 111, 112, 113, 114, 115, 116, 117, 118, 119, 120, 121, 122] := by kernel_rfl
theorem cs_fig : ("0123456789" : Str).cps.toList = [48, 49, 50, 51, 52, 53, 54, 55, 56, 57] := by kernel_rfl
theorem cs_both : ("abcdefghijklmnopqrstuvwxyz0123456789" : Str).cps.toList = [97, 98, 99, 100, 101, 102, 103, 104, 105, 106, 107, 108, 109, 110, 111, 112, 113, 114, 115, 116, 117, 118, 119, 120, 121, 122, 48, 49, 50, 51, 52, 53, 54, 55, 56, 57] := by kernel_rfl
theorem in_let {c : Nat} : inC c "abcdefghijklmnopqrstuvwxyz" = isLet c := by
  rw [inC, cs_let, isLet]
  simp only [List.mem_cons, List.not_mem_nil, or_false]
  exact decide_eq_decide.mpr (by omega)
theorem in_fig {c : Nat} : inC c "0123456789" = isFig c := by
  rw [inC, cs_fig, isFig]
  simp only [List.mem_cons, List.not_mem_nil, or_false]
  exact decide_eq_decide.mpr (by omega)
theorem in_both {c : Nat} : inC c "abcdefghijklmnopqrstuvwxyz0123456789" = (isLet c || isFig c) := by
  rw [inC, cs_both, isLet, isFig, ← Bool.decide_or]
  simp only [List.mem_cons, List.not_mem_nil, or_false]
  exact decide_eq_decide.mpr (by omega)
def nameB (z : Str) : Bool := decide (1 ≤ z.length ∧ z.length ≤ 12) && isLet (z.cps.getD 0 0) && z.cps.toList.all fun c => isLet c || isFig c
def numB (z : Str) : Bool := decide (1 ≤ z.length ∧ z.length ≤ 9) && z.cps.toList.all isFig && (z == "0" || !decide (z.cps.getD 0 0 = 48))
def pathB (z : Str) : Bool := decide (z.length ≤ 60) && match Txt.split z "." with
  | [] => false
  | p :: ps => nameB p && ps.all fun q => nameB q || numB q
theorem c0 : ("0" : Str) = ⟨#[48]⟩ := by kernel_rfl
theorem one_ne {c : Nat} : ((⟨#[c]⟩ : Str) == "0") = decide (c = 48) := by
  rw [c0]
  by_cases h : c = 48
  · subst h
    rw [decide_eq_true rfl]
    exact beq_self_eq_true _
  · rw [decide_eq_false h]
    rw [beq_eq_false_iff_ne]
    intro e
    injection e with e
    injection e with e
    injection e with e
    exact h e
section
variable {n : Nat} {S : Hs} {z : Str}
theorem is_str : bltG .isi [.str z, .ty "str"] S = .ok (.bl true) S := by
  rw [show bltG .isi = gIsi from rfl]
  simp [gIsi, tyD, kitT]
theorem str_len_pos (h : 1 ≤ z.length) : ∃ c r, z.cps.toList = c :: r ∧ z.cps.getD 0 0 = c := by
  cases e : z.cps.toList with
  | nil => rw [len_cps, e] at h; simp at h
  | cons c r =>
    refine ⟨c, r, rfl, ?_⟩
    have : z.cps = (c :: r).toArray := by rw [← e]
    rw [this]
    rfl
theorem is_plain_name_eq (hn : 1 ≤ n) (hz : z.length ≤ sizeLine) : hd (specs Γ n) i_is_plain_name [.str z] S = .ok (.bl (nameB z)) S := by
  rw [run_is_plain_name hn]
  unfold nameB
  by_cases h1 : 1 ≤ z.length
  · have i1 : (1 : Int) ≤ (z.length : Int) := by omega
    by_cases h2 : z.length ≤ 12
    · have i2 : (z.length : Int) ≤ 12 := by omega
      obtain ⟨c, r, e, e0⟩ := str_len_pos h1
      rw [decide_eq_true ⟨h1, h2⟩, e0]
      cases hc : isLet c with
      | true =>
        simp [runFn, f_is_plain_name, b_is_plain_name, len_str hz, str_at0 e hz, in_let, i1, i2, hc]
        rw [lc_str (fun c => .bl (isLet c || isFig c)) (by simp) hz (fun d hd => by
          simp [wipeE, b_is_plain_name_0, in_let, in_fig]
          cases isLet d <;> rfl)]
        simp
      | false => simp [runFn, f_is_plain_name, b_is_plain_name, len_str hz, str_at0 e hz, in_let, i1, i2, hc]
    · have i2 : ¬ (z.length : Int) ≤ 12 := by omega
      simp [runFn, f_is_plain_name, b_is_plain_name, len_str hz, i1, i2, h2]
  · have i1 : ¬ (1 : Int) ≤ (z.length : Int) := by omega
    simp [runFn, f_is_plain_name, b_is_plain_name, len_str hz, i1, h1]
theorem is_numeral_eq (hn : 1 ≤ n) (hz : z.length ≤ sizeLine) : hd (specs Γ n) i_is_numeral [.str z] S = .ok (.bl (numB z)) S := by
  rw [run_is_numeral hn]
  unfold numB
  by_cases h1 : 1 ≤ z.length
  · have i1 : (1 : Int) ≤ (z.length : Int) := by omega
    by_cases h2 : z.length ≤ 9
    · have i2 : (z.length : Int) ≤ 9 := by omega
      obtain ⟨c, r, e, e0⟩ := str_len_pos h1
      rw [decide_eq_true ⟨h1, h2⟩, e0]
      simp [runFn, f_is_numeral, b_is_numeral, len_str hz, str_at0 e hz, i1, i2]
      rw [lc_str (fun c => .bl (isFig c)) (by simp) hz (fun d hd => by simp [wipeE, b_is_numeral_0, in_fig])]
      have k : z.cps.all isFig = z.cps.toList.all isFig := by simp
      cases h : z.cps.toList.all isFig with
      | false =>
        rw [nwl_f]
        simp only [bind_ok, all_map, h]
        simp [k, h]
      | true =>
        by_cases h0 : z = "0"
        · have hb : (z == "0") = true := by rw [h0]; exact beq_self_eq_true _
          simp [hb, k, h]
        · simp [str_at0 e hz, one_ne, k, h, h0]
    · have i2 : ¬ (z.length : Int) ≤ 9 := by omega
      simp [runFn, f_is_numeral, b_is_numeral, len_str hz, i1, i2, h2]
  · have i1 : ¬ (1 : Int) ≤ (z.length : Int) := by omega
    simp [runFn, f_is_numeral, b_is_numeral, len_str hz, i1, h1]
theorem law_is_name_eq (hn : 1 ≤ n) (hz : z.length ≤ sizeLine) : hd (specs Γ n) i__law_is_name [.str z] S = .ok (.bl (nameB z)) S := by
  rw [run__law_is_name hn]
  unfold nameB
  by_cases h1 : 1 ≤ z.length
  · have i1 : (1 : Int) ≤ (z.length : Int) := by omega
    by_cases h2 : z.length ≤ 12
    · have i2 : (z.length : Int) ≤ 12 := by omega
      obtain ⟨c, r, e, e0⟩ := str_len_pos h1
      rw [decide_eq_true ⟨h1, h2⟩, e0]
      cases hc : isLet c with
      | true =>
        simp [runFn, f__law_is_name, b__law_is_name, len_str hz, str_at0 e hz, in_let, i1, i2, hc, is_str]
        rw [lc_str (fun c => .bl (isLet c || isFig c)) (by simp) hz (fun d hd => by simp [wipeE, b__law_is_name_0, in_both])]
        simp
      | false => simp [runFn, f__law_is_name, b__law_is_name, len_str hz, str_at0 e hz, in_let, i1, i2, hc, is_str]
    · have i2 : ¬ (z.length : Int) ≤ 12 := by omega
      simp [runFn, f__law_is_name, b__law_is_name, len_str hz, i1, i2, h2, is_str]
  · have i1 : ¬ (1 : Int) ≤ (z.length : Int) := by omega
    simp [runFn, f__law_is_name, b__law_is_name, len_str hz, i1, h1, is_str]
theorem filter_nil_all {xs : List Nat} {p : Nat → Bool} : (xs.filter fun c => !p c).isEmpty = xs.all p := by
  induction xs with
  | nil => rfl
  | cons x xs ih =>
    cases h : p x with
    | true => simp [h, ih]
    | false => simp [h]
theorem law_is_digits_eq (hn : 1 ≤ n) (hz : z.length ≤ sizeLine) (hk : PyData.strOk z = true) : hd (specs Γ n) i__law_is_digits [.str z] S = .ok (.bl (numB z)) S := by
  rw [run__law_is_digits hn]
  unfold numB
  by_cases h1 : 1 ≤ z.length
  · have i1 : (1 : Int) ≤ (z.length : Int) := by omega
    by_cases h2 : z.length ≤ 9
    · have i2 : (z.length : Int) ≤ 9 := by omega
      obtain ⟨c, r, e, e0⟩ := str_len_pos h1
      rw [decide_eq_true ⟨h1, h2⟩, e0]
      simp [runFn, f__law_is_digits, b__law_is_digits, len_str hz, i1, i2]
      rw [lc_str_if (fun c => !isFig c) (fun c => .str ⟨#[c]⟩) (by simp) hz (fun d hd => by simp [wipeE, b__law_is_digits_0, b__law_is_digits_1, in_fig])]
      rw [nwl_f, show (List.map (fun c => D.str ⟨#[c]⟩) (List.filter (fun c => !isFig c) z.cps.toList)) = (((z.cps.toList.filter fun c => !isFig c).map fun c => (⟨#[c]⟩ : Str)).map D.str) by rw [List.map_map]; rfl]
      simp only [bind_ok, ev_lst, evs_nil, nwl_f, List.length_nil, szl]
      rw [if_pos (by omega)]
      simp only [bind_ok]
      rw [eqnil_strs (fun y hy => by
        obtain ⟨d, hd, rfl⟩ := List.mem_map.mp hy
        have hd := (List.mem_filter.mp hd).1
        have hk' := Array.all_eq_true'.mp hk d (by simpa using hd)
        simpa [PyData.strOk] using hk')]
      rw [show ((z.cps.toList.filter fun c => !isFig c).map fun c => (⟨#[c]⟩ : Str)).isEmpty = (z.cps.toList.filter fun c => !isFig c).isEmpty by rw [List.isEmpty_map], filter_nil_all]
      have k : z.cps.all isFig = z.cps.toList.all isFig := by simp
      cases h : z.cps.toList.all isFig with
      | false => simp [k, h]
      | true =>
        by_cases h0 : z = "0"
        · have hb : (z == "0") = true := by rw [h0]; exact beq_self_eq_true _
          simp [hb, k, h]
        · simp [str_at0 e hz, one_ne, k, h, h0]
    · have i2 : ¬ (z.length : Int) ≤ 9 := by omega
      simp [runFn, f__law_is_digits, b__law_is_digits, len_str hz, i1, i2, h2]
  · have i1 : ¬ (1 : Int) ≤ (z.length : Int) := by omega
    simp [runFn, f__law_is_digits, b__law_is_digits, len_str hz, i1, h1]
theorem split_sub {x y p : Str} (h : p ∈ Txt.split x y) {c : Nat} (hc : c ∈ p.cps.toList) : c ∈ x.cps.toList := by
  unfold Txt.split at h
  split at h
  · simp at h; subst h; exact hc
  · split at h
    · simp at h; subst h; exact hc
    · simp only [Builtin.Str.partsBetween, List.mem_map] at h
      obtain ⟨⟨i, j⟩, _, rfl⟩ := h
      simp only [Builtin.Str.strSub, Array.toList_extract] at hc
      exact List.mem_of_mem_drop (List.mem_of_mem_take hc)
theorem join_long (y : Str) (hy : 1 ≤ y.length) : ∀ l : List Str, l.length ≤ (Str.join y l).length + 1
  | [] => Nat.zero_le _
  | [x] => by simp
  | x :: z :: r => by
    have h := join_long y hy (z :: r)
    show _ ≤ (x ++ y ++ Str.join y (z :: r)).length + 1
    rw [Str.length_append, Str.length_append]
    simp only [List.length_cons] at h ⊢
    omega
theorem len_split {z : Str} : (Txt.split z ".").length ≤ z.length + 1 := by
  have h := join_long "." (by decide +kernel) (Txt.split z ".")
  rw [StrLaws.join_split] at h
  exact h
theorem split_eq (hz : z.length ≤ 60) : bmtG (.split false) (.str z) [.str "."] S = .ok (.lv ((Txt.split z ".").map .str)) S := by
  rw [show bmtG (.split false) = gSplit false from rfl]
  have h1 : (("." : Str).length == 0) = false := by decide +kernel
  have h2 : z.length + 2 ≤ sizeLine := by rw [szl]; omega
  simp only [gSplit, h1, h2, and_self, if_true, nwl_f]
theorem split_ok (hk : PyData.strOk z = true) : ∀ p ∈ Txt.split z ".", PyData.strOk p = true := fun p hp => by
  have e : ∀ c ∈ z.cps.toList, c < 0x110000 := by
    intro c hc
    have := Array.all_eq_true'.mp hk c (by simpa using hc)
    simpa using this
  refine Array.all_eq_true'.mpr fun c hc => ?_
  have : c ∈ z.cps.toList := split_sub hp (by simpa using hc)
  simpa using e c this
theorem is_path_eq (hn : 2 ≤ n) (hz : z.length ≤ sizeLine) : hd (specs Γ n) i_is_path [.str z] S = .ok (.bl (pathB z)) S := by
  rw [run_is_path (by omega)]
  unfold pathB
  by_cases h1 : z.length ≤ 60
  · have i1 : ¬ (60 : Int) < (z.length : Int) := by omega
    have hs : ∀ p ∈ Txt.split z ".", p.length ≤ sizeLine := fun p hp => Nat.le_trans (part_short hp) hz
    cases e : Txt.split z "." with
    | nil => have := split_pos z "."; rw [e] at this; simp at this
    | cons p ps =>
      rw [e] at hs
      simp [runFn, f_is_path, b_is_path, len_str hz, is_str, i1, split_eq h1, e]
      simp [gIdx, dOf, sOf, atI, ixN, oR, h1]
      rw [is_plain_name_eq (by omega) (hs p List.mem_cons_self)]
      cases hp : nameB p with
      | false => simp
      | true =>
        simp
        rw [lc_fx (fun y => match y with
          | .str q => .bl (nameB q || numB q)
          | _ => .non) (ds := ps.map .str) (d := .lv (ps.map .str)) ?h1 rfl ?h2 ?h3]
        case h1 =>
          simp [gSl, sOf, Pv.cutD, HT.sIx]
          exact List.take_of_length_le (by simp)
        case h2 =>
          have := len_split (z := z)
          rw [e] at this
          rw [szl] at hz ⊢
          simp at this ⊢
          omega
        case h3 =>
          intro y hy
          obtain ⟨q, hq, rfl⟩ := List.mem_map.mp hy
          have hq' := hs q (List.mem_cons_of_mem _ hq)
          simp [wipeE, b_is_path_0, is_plain_name_eq (show 1 ≤ n - 1 by omega) hq', is_numeral_eq (show 1 ≤ n - 1 by omega) hq']
          cases nameB q <;> simp
        · rw [nwl_f, List.map_map]
          simp [Function.comp_def]
  · have i1 : (60 : Int) < (z.length : Int) := by omega
    simp [runFn, f_is_path, b_is_path, len_str hz, is_str, i1, h1]
theorem filter_nil_allS {xs : List Str} {p : Str → Bool} : (xs.filter fun c => !p c).isEmpty = xs.all p := by
  induction xs with
  | nil => rfl
  | cons x xs ih =>
    cases h : p x with
    | true => simp [h, ih]
    | false => simp [h]
theorem law_is_path_eq (hn : 2 ≤ n) (hz : z.length ≤ sizeLine) (hk : PyData.strOk z = true) : hd (specs Γ n) i__law_is_path [.str z] S = .ok (.bl (pathB z)) S := by
  rw [run__law_is_path (by omega)]
  unfold pathB
  by_cases h1 : z.length ≤ 60
  · have i1 : ¬ (60 : Int) < (z.length : Int) := by omega
    have hs : ∀ p ∈ Txt.split z ".", p.length ≤ sizeLine := fun p hp => Nat.le_trans (part_short hp) hz
    have ho := split_ok hk
    cases e : Txt.split z "." with
    | nil => have := split_pos z "."; rw [e] at this; simp at this
    | cons p ps =>
      rw [e] at hs ho
      simp [runFn, f__law_is_path, b__law_is_path, len_str hz, is_str, i1, split_eq h1, e]
      simp [gIdx, dOf, sOf, atI, ixN, oR, h1]
      rw [law_is_name_eq (by omega) (hs p List.mem_cons_self)]
      cases hp : nameB p with
      | false => simp
      | true =>
        simp
        rw [lc_fx_if (fun y => match y with
          | .str q => !(nameB q || numB q)
          | _ => false) (fun y => y) (ds := ps.map .str) (d := .lv (ps.map .str)) ?h1 rfl ?h2 ?h3]
        case h1 =>
          simp [gSl, sOf, Pv.cutD, HT.sIx]
          exact List.take_of_length_le (by simp)
        case h2 =>
          have := len_split (z := z)
          rw [e] at this
          rw [szl] at hz ⊢
          simp at this ⊢
          omega
        case h3 =>
          intro y hy
          obtain ⟨q, hq, rfl⟩ := List.mem_map.mp hy
          have hq' := hs q (List.mem_cons_of_mem _ hq)
          have hq2 := ho q (List.mem_cons_of_mem _ hq)
          simp [wipeE, b__law_is_path_0, b__law_is_path_1, law_is_name_eq (show 1 ≤ n - 1 by omega) hq', law_is_digits_eq (show 1 ≤ n - 1 by omega) hq' hq2]
          cases nameB q <;> simp
        · rw [nwl_f, List.filter_map, List.map_map]
          rw [show ((fun y => y) ∘ D.str) = D.str from rfl]
          simp only [bind_ok, ev_lst, evs_nil, nwl_f, List.length_nil, szl]
          rw [if_pos (by omega)]
          simp only [bind_ok]
          rw [eqnil_strs fun q hq => ho q (List.mem_cons_of_mem _ (List.mem_filter.mp hq).1)]
          rw [show (List.filter ((fun y => match y with
            | .str q => !(nameB q || numB q)
            | _ => false) ∘ D.str) ps) = ps.filter fun q => !(nameB q || numB q) from rfl, filter_nil_allS]
          simp
  · have i1 : (60 : Int) < (z.length : Int) := by omega
    simp [runFn, f__law_is_path, b__law_is_path, len_str hz, is_str, i1, h1]
end
end K71

set_option maxHeartbeats 4000000
/-! L4: the Loader's names. -/
namespace K71
open PySem PySem.Spec PyProof.Rows L2 Pv

def okS (v : Int) : Bool := decide (97 ≤ v ∧ v ≤ 122 ∨ 48 ≤ v ∧ v ≤ 57 ∨ v = 46)
def numsL : List Int := [97, 98, 99, 100, 101, 102, 103, 104, 105, 106, 107, 108, 109, 110, 111, 112, 113, 114, 115, 116, 117, 118, 119, 120, 121, 122, 48, 49, 50, 51, 52, 53, 54, 55, 56, 57, 46]
theorem v_nums : v_NUMBERS = .tpx (numsL.map .int) := rfl
theorem okS_mem {v : Int} : okS v = decide (v ∈ numsL) := by
  unfold okS numsL
  simp only [List.mem_cons, List.not_mem_nil, or_false]
  exact decide_eq_decide.mpr (by omega)
theorem inV_ints {v : Int} {l : List Int} : inV (.int v) (l.map .int) = decide (v ∈ l) := by
  induction l with
  | nil => rfl
  | cons x l ih =>
    rw [List.map_cons, show inV (.int v) (.int x :: l.map .int) = (eqV (.int x) (.int v) || inV (.int v) (l.map .int)) from rfl, ih]
    rw [show eqV (.int x) (.int v) = (x == v) from rfl]
    by_cases h : x = v
    · subst h; simp
    · have h' : ¬ v = x := fun e => h e.symm
      simp [h, h']
theorem fvs_ints {l : List Int} : fvs (l.map .int) = some (l.map .int) := by
  induction l with
  | nil => rfl
  | cons x l ih => simp only [List.map_cons, fvs, fv, ih]
section
variable {n : Nat} {S0 S : Hs} {im : List Int} {k : Nat} {nm : List Str} {pl st : List Int} {rw_ : List Rw}
theorem ty_nums : tyM S v_NUMBERS = some "tuple" := rfl
theorem nin_nums {v : Int} : copG .nin (.int v) v_NUMBERS S = .ok (.bl (!okS v)) S := by
  rw [v_nums, okS_mem, show copG .nin = gIn true from rfl]
  simp only [gIn, sOf, inRow, fv, fvs_ints, inV_ints, if_true]
theorem sign_of {v : Int} (h : okS v = true) : ∃ i, bmtG .tindex v_NUMBERS [.int v] S = .ok i S ∧ gIdx (.str "abcdefghijklmnopqrstuvwxyz0123456789.") i S = .ok (.str ⟨#[v.toNat]⟩) S := by
  rw [okS_mem] at h
  have h := of_decide_eq_true h
  unfold numsL at h
  simp only [List.mem_cons, List.not_mem_nil, or_false] at h
  rcases h with rfl | rfl | rfl | rfl | rfl | rfl | rfl | rfl | rfl | rfl | rfl | rfl | rfl | rfl | rfl | rfl | rfl | rfl | rfl | rfl | rfl | rfl | rfl | rfl | rfl | rfl | rfl | rfl | rfl | rfl | rfl | rfl | rfl | rfl | rfl | rfl | rfl
  · exact ⟨.int 0, by kernel_rfl, by kernel_rfl⟩
  · exact ⟨.int 1, by kernel_rfl, by kernel_rfl⟩
  · exact ⟨.int 2, by kernel_rfl, by kernel_rfl⟩
  · exact ⟨.int 3, by kernel_rfl, by kernel_rfl⟩
  · exact ⟨.int 4, by kernel_rfl, by kernel_rfl⟩
  · exact ⟨.int 5, by kernel_rfl, by kernel_rfl⟩
  · exact ⟨.int 6, by kernel_rfl, by kernel_rfl⟩
  · exact ⟨.int 7, by kernel_rfl, by kernel_rfl⟩
  · exact ⟨.int 8, by kernel_rfl, by kernel_rfl⟩
  · exact ⟨.int 9, by kernel_rfl, by kernel_rfl⟩
  · exact ⟨.int 10, by kernel_rfl, by kernel_rfl⟩
  · exact ⟨.int 11, by kernel_rfl, by kernel_rfl⟩
  · exact ⟨.int 12, by kernel_rfl, by kernel_rfl⟩
  · exact ⟨.int 13, by kernel_rfl, by kernel_rfl⟩
  · exact ⟨.int 14, by kernel_rfl, by kernel_rfl⟩
  · exact ⟨.int 15, by kernel_rfl, by kernel_rfl⟩
  · exact ⟨.int 16, by kernel_rfl, by kernel_rfl⟩
  · exact ⟨.int 17, by kernel_rfl, by kernel_rfl⟩
  · exact ⟨.int 18, by kernel_rfl, by kernel_rfl⟩
  · exact ⟨.int 19, by kernel_rfl, by kernel_rfl⟩
  · exact ⟨.int 20, by kernel_rfl, by kernel_rfl⟩
  · exact ⟨.int 21, by kernel_rfl, by kernel_rfl⟩
  · exact ⟨.int 22, by kernel_rfl, by kernel_rfl⟩
  · exact ⟨.int 23, by kernel_rfl, by kernel_rfl⟩
  · exact ⟨.int 24, by kernel_rfl, by kernel_rfl⟩
  · exact ⟨.int 25, by kernel_rfl, by kernel_rfl⟩
  · exact ⟨.int 26, by kernel_rfl, by kernel_rfl⟩
  · exact ⟨.int 27, by kernel_rfl, by kernel_rfl⟩
  · exact ⟨.int 28, by kernel_rfl, by kernel_rfl⟩
  · exact ⟨.int 29, by kernel_rfl, by kernel_rfl⟩
  · exact ⟨.int 30, by kernel_rfl, by kernel_rfl⟩
  · exact ⟨.int 31, by kernel_rfl, by kernel_rfl⟩
  · exact ⟨.int 32, by kernel_rfl, by kernel_rfl⟩
  · exact ⟨.int 33, by kernel_rfl, by kernel_rfl⟩
  · exact ⟨.int 34, by kernel_rfl, by kernel_rfl⟩
  · exact ⟨.int 35, by kernel_rfl, by kernel_rfl⟩
  · exact ⟨.int 36, by kernel_rfl, by kernel_rfl⟩

/-- the signs of a name -/
def signsM (im : List Int) : Nat → Nat → List Nat → Except Int (List Nat)
  | 0, _, acc => .ok acc
  | f + 1, pos, acc => if pos < im.length then (if okS (bAt im pos) = true then signsM im f (pos + 1) (acc ++ [(bAt im pos).toNat]) else .error pos) else .error im.length
theorem signsM_len : ∀ (f : Nat) {pos : Nat} {acc r : List Nat}, signsM im f pos acc = .ok r → r.length = acc.length + f ∧ pos + f ≤ im.length ∨ f = 0 ∧ r = acc
  | 0, _, _, _, h => by
    injection h with h
    exact .inr ⟨rfl, h.symm⟩
  | f + 1, pos, acc, r, h => by
    unfold signsM at h
    split at h
    · split at h
      · rcases signsM_len f h with ⟨h1, h2⟩ | ⟨rfl, rfl⟩
        · left
          simp at h1
          omega
        · left
          simp
          omega
      · cases h
    · cases h
theorem signs_loop (hn : 3 ≤ n) {b m : D} : ∀ (f j pos : Nat) (acc : List Nat) (t u : Option D), acc.length + f ≤ 100 → pos ≤ im.length →
    match signsM im f pos acc with
    | .ok r => ∃ t' u', forGo (.rng 0 (j + f)) (.v 1) (svs Γ (specs Γ (n - 1)) b_Loader_read_name_0) f j [some (.ref S0.length), t, some b, some m, some (.str ⟨acc.toArray⟩), u] (LS S0 im pos nm pl st rw_) = .nx [some (.ref S0.length), t', some b, some m, some (.str ⟨r.toArray⟩), u'] (LS S0 im (pos + f) nm pl st rw_)
    | .error e => ∃ ρ' X, forGo (.rng 0 (j + f)) (.v 1) (svs Γ (specs Γ (n - 1)) b_Loader_read_name_0) f j [some (.ref S0.length), t, some b, some m, some (.str ⟨acc.toArray⟩), u] (LS S0 im pos nm pl st rw_) = .exc "BadNumber" (badAt e) ρ' (S0 ++ X)
  | 0, j, pos, acc, t, u, _, _ => by
    simp only [signsM, forGo, srcAt, Nat.add_zero, Nat.lt_irrefl, if_false]
    exact ⟨t, u, rfl⟩
  | f + 1, j, pos, acc, t, u, ha, hp => by
    simp only [signsM]
    have hj : j < j + (f + 1) := by omega
    simp only [forGo, srcAt, hj, if_true, putIt]
    by_cases h : pos < im.length
    · rw [if_pos h]
      by_cases hv : okS (bAt im pos) = true
      · rw [if_pos hv]
        obtain ⟨i, e1, e2⟩ := sign_of (S := LS S0 im (pos + 1) nm pl st rw_) hv
        have hl : (⟨acc.toArray⟩ : Str).length + (⟨#[(bAt im pos).toNat]⟩ : Str).length ≤ sizeLine := by
          rw [szl]
          simp [Str.length]
          omega
        have ih := signs_loop hn (b := b) (m := m) f (j + 1) (pos + 1) (acc ++ [(bAt im pos).toNat]) (some (.int (0 + (j : Int)))) (some (.int (bAt im pos))) (by simp; omega) (by omega)
        have es : svs Γ (specs Γ (n - 1)) b_Loader_read_name_0 ([some (.ref S0.length), t, some b, some m, some (.str ⟨acc.toArray⟩), u].set 1 (some (.int (0 + (j : Int))))) (LS S0 im pos nm pl st rw_) = .nx [some (.ref S0.length), some (.int (0 + (j : Int))), some b, some m, some (.str ⟨(acc ++ [(bAt im pos).toNat]).toArray⟩), some (.int (bAt im pos))] (LS S0 im (pos + 1) nm pl st rw_) := by
          simp [b_Loader_read_name_0, take_ok (show 2 ≤ n - 1 by omega) h, nin_nums, hv, ty_nums, e1, e2, hl]
          show (⟨acc.toArray ++ #[(bAt im pos).toNat]⟩ : Str) = _
          simp
        rw [es]
        rw [show j + 1 + f = j + (f + 1) by omega, show pos + 1 + f = pos + (f + 1) by omega] at ih
        exact ih
      · rw [if_neg hv]
        have hv' : okS (bAt im pos) = false := by simpa using hv
        have es : svs Γ (specs Γ (n - 1)) b_Loader_read_name_0 ([some (.ref S0.length), t, some b, some m, some (.str ⟨acc.toArray⟩), u].set 1 (some (.int (0 + (j : Int))))) (LS S0 im pos nm pl st rw_) = .exc "BadNumber" (badAt pos) [some (.ref S0.length), some (.int (0 + (j : Int))), some b, some m, some (.str ⟨acc.toArray⟩), some (.int (bAt im pos))] (LS S0 im (pos + 1) nm pl st rw_) := by
          have e1 : ((pos : Int) + 1 - 1) = pos := by omega
          simp [b_Loader_read_name_0, take_ok (show 2 ≤ n - 1 by omega) h, nin_nums, hv', oR, e1, refuse_eq (show 1 ≤ n - 1 by omega)]
        rw [es]
        exact ⟨_, _, rfl⟩
    · rw [if_neg h]
      have es : svs Γ (specs Γ (n - 1)) b_Loader_read_name_0 ([some (.ref S0.length), t, some b, some m, some (.str ⟨acc.toArray⟩), u].set 1 (some (.int (0 + (j : Int))))) (LS S0 im pos nm pl st rw_) = .exc "BadNumber" (badAt im.length) [some (.ref S0.length), some (.int (0 + (j : Int))), some b, some m, some (.str ⟨acc.toArray⟩), u] (LS S0 im pos nm pl st rw_) := by
        simp [b_Loader_read_name_0, take_no (show 2 ≤ n - 1 by omega) (show pos = im.length by omega)]
      rw [es]
      exact ⟨_, _, rfl⟩
/-- the next name -/
def nameM (im : List Int) (nm : List Str) (k : Nat) : Except Int (Str × Nat) :=
  if k < im.length then
    if 1 ≤ bAt im k ∧ bAt im k ≤ 60 then
      match signsM im (bAt im k).toNat (k + 1) [] with
      | .error e => .error e
      | .ok r => if pathB ⟨r.toArray⟩ = true ∧ (∀ l, nm.getLast? = some l → strLt l ⟨r.toArray⟩ = true) then .ok (⟨r.toArray⟩, k + 1 + (bAt im k).toNat) else .error k
    else .error k
  else .error im.length
theorem read_name_eq (hn : 4 ≤ n) (hk : k ≤ im.length) (hnm : ∀ z ∈ nm, PyData.strOk z = true) (hl1 : nm.length < 100000) (hl2 : st.length < 100000) :
    match nameM im nm k with
    | .ok (z, k') => hd (specs Γ n) i_Loader_read_name [.ref S0.length] (LS S0 im k nm pl st rw_) = .ok .non (LS S0 im k' (nm ++ [z]) pl (st ++ [(k : Int)]) rw_)
    | .error e => ∃ X, hd (specs Γ n) i_Loader_read_name [.ref S0.length] (LS S0 im k nm pl st rw_) = .exc "BadNumber" (badAt e) (S0 ++ X) := by
  rw [run_Loader_read_name (by omega)]
  unfold nameM
  by_cases h : k < im.length
  · rw [if_pos h]
    by_cases hm : 1 ≤ bAt im k ∧ bAt im k ≤ 60
    · rw [if_pos hm]
      have lp := signs_loop (S0 := S0) (im := im) (nm := nm) (pl := pl) (st := st) (rw_ := rw_) (show 3 ≤ n by omega) (b := .int k) (m := .int (bAt im k)) (bAt im k).toNat 0 (k + 1) [] none none (by simp; omega) (by omega)
      have em : ((bAt im k).toNat : Int) = bAt im k := by omega
      have r1 : -(2 ^ 62) ≤ bAt im k ∧ bAt im k < 2 ^ 62 := by omega
      have i1 := hm.1
      have i2 := hm.2
      rw [Nat.zero_add, ← str_nil] at lp
      cases e : signsM im (bAt im k).toNat (k + 1) [] with
      | error x =>
        rw [e] at lp
        obtain ⟨ρ', X, lp⟩ := lp
        refine ⟨X, ?_⟩
        simp [runFn, f_Loader_read_name, b_Loader_read_name, take_ok (show 2 ≤ n - 1 by omega) h, i1, i2, sv_for, rng1 r1, lp]
      | ok r =>
        rw [e] at lp
        obtain ⟨t, u, lp⟩ := lp
        dsimp only
        have hr : r.length ≤ 60 := by
          rcases signsM_len _ e with ⟨h1, _⟩ | ⟨h1, rfl⟩
          · simp at h1; omega
          · simp
        have hz : (⟨r.toArray⟩ : Str).length ≤ sizeLine := by
          rw [szl]
          simp [Str.length]
          omega
        have ekk : k + 1 + (bAt im k).toNat = k + 1 + (bAt im k).toNat := rfl
        cases hp : pathB ⟨r.toArray⟩ with
        | false =>
          refine par_err (im := im) (k := k + 1 + (bAt im k).toNat) (nm := nm) (pl := pl) (st := st) (rw_ := rw_) ?_
          simp [runFn, f_Loader_read_name, b_Loader_read_name, take_ok (show 2 ≤ n - 1 by omega) h, i1, i2, sv_for, rng1 r1, lp, is_path_eq (show 2 ≤ n - 1 by omega) hz, hp, refuse_eq (show 1 ≤ n - 1 by omega)]
        | true =>
          have e1 := neqnil_ref (LS_1 (S0 := S0) (im := im) (k := k + 1 + (bAt im k).toNat) (nm := nm) (pl := pl) (st := st) (rw_ := rw_)) hnm
          have e2 := append_ref (y := .str ⟨r.toArray⟩) (LS_1 (S0 := S0) (im := im) (k := k + 1 + (bAt im k).toNat) (nm := nm) (pl := pl) (st := st) (rw_ := rw_)) (by rw [szl]; simp; omega)
          have e3 := append_ref (y := .int k) (LS_3 (S0 := S0) (im := im) (k := k + 1 + (bAt im k).toNat) (nm := nm ++ [⟨r.toArray⟩]) (pl := pl) (st := st) (rw_ := rw_)) (by rw [szl]; simp; omega)
          have t1 := ty_ref (LS_1 (S0 := S0) (im := im) (k := k + 1 + (bAt im k).toNat) (nm := nm) (pl := pl) (st := st) (rw_ := rw_))
          have t3 := ty_ref (LS_3 (S0 := S0) (im := im) (k := k + 1 + (bAt im k).toNat) (nm := nm ++ [⟨r.toArray⟩]) (pl := pl) (st := st) (rw_ := rw_))
          rw [LS_set1] at e2
          rw [LS_set3] at e3
          cases el : nm.getLast? with
          | none =>
            have en : nm.isEmpty = true := by rw [List.getLast?_eq_none_iff.mp el]; rfl
            rw [if_pos ⟨rfl, fun l hl => by cases hl⟩]
            simp [runFn, f_Loader_read_name, b_Loader_read_name, take_ok (show 2 ≤ n - 1 by omega) h, i1, i2, sv_for, rng1 r1, lp, is_path_eq (show 2 ≤ n - 1 by omega) hz, hp, e1, e2, e3, t1, t3, szl, en]
          | some l =>
            have en : nm.isEmpty = false := by
              cases nm with
              | nil => cases el
              | cons a b => rfl
            have ei : gIdx (.ref (S0.length + 1)) (.int (-1)) (LS S0 im (k + 1 + (bAt im k).toNat) nm pl st rw_) = .ok (.str l) (LS S0 im (k + 1 + (bAt im k).toNat) nm pl st rw_) := idx_ref LS_1 (atI_last (by rw [List.getLast?_map, el]; rfl))
            cases hlt : strLt l ⟨r.toArray⟩ with
            | true =>
              rw [if_pos ⟨rfl, fun x hx => by cases hx; exact hlt⟩]
              simp [runFn, f_Loader_read_name, b_Loader_read_name, take_ok (show 2 ≤ n - 1 by omega) h, i1, i2, sv_for, rng1 r1, lp, is_path_eq (show 2 ≤ n - 1 by omega) hz, hp, e1, e2, e3, t1, t3, szl, en, ei, le_str, hlt]
            | false =>
              rw [if_neg fun q => by rw [q.2 l rfl] at hlt; cases hlt]
              refine par_err (im := im) (k := k + 1 + (bAt im k).toNat) (nm := nm) (pl := pl) (st := st) (rw_ := rw_) ?_
              simp [runFn, f_Loader_read_name, b_Loader_read_name, take_ok (show 2 ≤ n - 1 by omega) h, i1, i2, sv_for, rng1 r1, lp, is_path_eq (show 2 ≤ n - 1 by omega) hz, hp, e1, e2, e3, t1, t3, szl, en, ei, le_str, hlt, refuse_eq (show 1 ≤ n - 1 by omega)]
    · rw [if_neg hm]
      refine par_err (im := im) (k := k + 1) (nm := nm) (pl := pl) (st := st) (rw_ := rw_) ?_
      by_cases i1 : 1 ≤ bAt im k
      · have i2 : ¬ bAt im k ≤ 60 := fun z => hm ⟨i1, z⟩
        simp [runFn, f_Loader_read_name, b_Loader_read_name, take_ok (show 2 ≤ n - 1 by omega) h, i1, i2, refuse_eq (show 1 ≤ n - 1 by omega)]
      · simp [runFn, f_Loader_read_name, b_Loader_read_name, take_ok (show 2 ≤ n - 1 by omega) h, i1, refuse_eq (show 1 ≤ n - 1 by omega)]
  · rw [if_neg h]
    refine par_err (im := im) (k := k) (nm := nm) (pl := pl) (st := st) (rw_ := rw_) ?_
    simp [runFn, f_Loader_read_name, b_Loader_read_name, take_no (show 2 ≤ n - 1 by omega) (show k = im.length by omega)]
end
end K71

set_option maxHeartbeats 4000000
/-! L5: the Loader's head, parts, rows. -/
namespace K71
open PySem PySem.Spec PyProof.Rows L2 Pv

def sumStep (f x : Int) : Int := (f * 31 + x + 1).fmod 65521
def sumM (xs : List Int) : Int := xs.foldl sumStep 0
theorem numM_le {im : List Int} {many : Nat} {most v : Int} {k k' : Nat} (h : numM im many most k = .ok (v, k')) : k' ≤ im.length ∧ k' = k + many ∧ v = valM im k many ∧ v ≤ most := by
  unfold numM at h
  split at h
  · cases h
  · split at h
    · injection h with h
      injection h with h1 h2
      subst h1
      exact ⟨by omega, h2.symm, rfl, by assumption⟩
    · cases h
section
variable {n : Nat} {S0 S : Hs} {im : List Int} {k : Nat} {nm : List Str} {pl st : List Int} {rw_ : List Rw}
theorem sum_over_eq {d : D} {src : Src} {xs : List Int} (hn : 1 ≤ n) (hs : gSrc d S = .ok src S) (hsrc : ∀ j, srcAt S src j = some ((xs.map D.int).map Itm.d)[j]?) (hf : xs.length ≤ fuelOf S src) : hd (specs Γ n) i_sum_over [d] S = .ok (.int (sumM xs)) S := by
  rw [run_sum_over hn]
  simp [runFn, f_sum_over, b_sum_over, sv_for, hs]
  obtain ⟨ρ', S', e, t, rfl, rfl⟩ := forGo_nx (src := src) (tg := .v 2) (body := svs Γ (specs Γ (n - 1)) b_sum_over_0) (ρ := [some d, some (.int 0), none]) (S := S) (items := (xs.map D.int).map Itm.d)
    (fun j ρ S' => ∃ u, ρ = [some d, some (.int (sumM (xs.take j))), u] ∧ S' = S) (by rintro j ρ S' ⟨u, rfl, rfl⟩; exact hsrc j)
    (by
      rintro j it ρ S' e ⟨u, rfl, rfl⟩
      rw [List.getElem?_map, List.getElem?_map] at e
      cases ex : xs[j]? with
      | none => rw [ex] at e; cases e
      | some x =>
        rw [ex] at e
        cases e
        have hj : j < xs.length := (List.getElem?_eq_some_iff.mp ex).1
        refine ⟨_, _, _, rfl, ?_, some (.int x), rfl, rfl⟩
        simp [b_sum_over_0, gMul_int (j := 31) (.inr (by decide)), gMod_int (j := 65521) (by decide)]
        rw [List.take_succ_eq_append_getElem hj, (List.getElem?_eq_some_iff.mp ex).2, sumM, sumM, List.foldl_append]
        rfl)
    (f := fuelOf S src) ⟨none, rfl, rfl⟩ (by simpa using hf)
  rw [e]
  simp
theorem sum_over_tup {xs : List Int} (hn : 1 ≤ n) : hd (specs Γ n) i_sum_over [.tup (xs.map .int)] S = .ok (.int (sumM xs)) S :=
  sum_over_eq hn rfl (fun j => src_fx) (by simp)
theorem sum_over_ref {a : Nat} {xs : List Int} (hn : 1 ≤ n) (h : S[a]? = some (.lst (xs.map .int))) : hd (specs Γ n) i_sum_over [.ref a] S = .ok (.int (sumM xs)) S :=
  sum_over_eq hn (src_ref h) (fun j => src_dy h) (by simp [fuelOf, len1, h])

theorem num2_ok {most v : Int} {k' : Nat} (hn : 3 ≤ n) (hk : k ≤ im.length) (h : numM im 2 most k = .ok (v, k')) : hd (specs Γ n) i_Loader_number [.ref S0.length, .int 2, .int most] (LS S0 im k nm pl st rw_) = .ok (.int v) (LS S0 im k' nm pl st rw_) := by
  have q := number2 (S0 := S0) (im := im) (k := k) (nm := nm) (pl := pl) (st := st) (rw_ := rw_) (most := most) hn hk
  rw [h] at q
  exact q
theorem num2_no {most e : Int} (hn : 3 ≤ n) (hk : k ≤ im.length) (h : numM im 2 most k = .error e) : ∃ X, hd (specs Γ n) i_Loader_number [.ref S0.length, .int 2, .int most] (LS S0 im k nm pl st rw_) = .exc "BadNumber" (badAt e) (S0 ++ X) := by
  have q := number2 (S0 := S0) (im := im) (k := k) (nm := nm) (pl := pl) (st := st) (rw_ := rw_) (most := most) hn hk
  rw [h] at q
  exact q
theorem num3_ok {most v : Int} {k' : Nat} (hn : 3 ≤ n) (hk : k ≤ im.length) (h : numM im 3 most k = .ok (v, k')) : hd (specs Γ n) i_Loader_number [.ref S0.length, .int 3, .int most] (LS S0 im k nm pl st rw_) = .ok (.int v) (LS S0 im k' nm pl st rw_) := by
  have q := number3 (S0 := S0) (im := im) (k := k) (nm := nm) (pl := pl) (st := st) (rw_ := rw_) (most := most) hn hk
  rw [h] at q
  exact q
theorem num3_no {most e : Int} (hn : 3 ≤ n) (hk : k ≤ im.length) (h : numM im 3 most k = .error e) : ∃ X, hd (specs Γ n) i_Loader_number [.ref S0.length, .int 3, .int most] (LS S0 im k nm pl st rw_) = .exc "BadNumber" (badAt e) (S0 ++ X) := by
  have q := number3 (S0 := S0) (im := im) (k := k) (nm := nm) (pl := pl) (st := st) (rw_ := rw_) (most := most) hn hk
  rw [h] at q
  exact q
/-- the head's fixed integers -/
def dueM (im : List Int) : List Int → Nat → Except Int Unit
  | [], _ => .ok ()
  | d :: ds, k => if k < im.length then (if bAt im k = d then dueM im ds (k + 1) else .error k) else .error im.length
def headM (im : List Int) : Except Int (Int × Int) := match dueM im [75, 72, 1] 0 with
  | .error e => .error e
  | .ok _ => match numM im 2 65535 3 with
    | .error e => .error e
    | .ok (a, _) => match numM im 2 10000 5 with
      | .error e => .error e
      | .ok (b, _) => if b = 0 then .error 5 else .ok (a, b)
theorem head_body (hn : 3 ≤ n) {d : Int} {a b c : Option D} (hk : k ≤ im.length) : svs Γ (specs Γ n) b_Loader_read_head_0 [some (.ref S0.length), some (.int d), a, b, c] (LS S0 im k nm pl st rw_) =
    if k < im.length then (if bAt im k = d then .nx [some (.ref S0.length), some (.int d), a, b, c] (LS S0 im (k + 1) nm pl st rw_) else .exc "BadNumber" (badAt k) [some (.ref S0.length), some (.int d), a, b, c] (LS S0 im (k + 1) nm pl st rw_))
    else .exc "BadNumber" (badAt im.length) [some (.ref S0.length), some (.int d), a, b, c] (LS S0 im k nm pl st rw_) := by
  by_cases h : k < im.length
  · rw [if_pos h]
    have e1 : ((k : Int) + 1 - 1) = k := by omega
    by_cases hd : bAt im k = d
    · simp [b_Loader_read_head_0, take_ok (show 2 ≤ n by omega) h, hd]
    · have hd' : (bAt im k == d) = false := by simpa using hd
      simp [b_Loader_read_head_0, take_ok (show 2 ≤ n by omega) h, hd, hd', e1, refuse_eq (show 1 ≤ n by omega)]
  · rw [if_neg h]
    simp [b_Loader_read_head_0, take_no (show 2 ≤ n by omega) (show k = im.length by omega)]
theorem read_head_eq (hn : 4 ≤ n) :
    match headM im with
    | .ok (a, b) => hd (specs Γ n) i_Loader_read_head [.ref S0.length] (LS S0 im 0 nm pl st rw_) = .ok (.tup [.int a, .int b]) (LS S0 im 7 nm pl st rw_) ∧ 7 ≤ im.length
    | .error e => ∃ X, hd (specs Γ n) i_Loader_read_head [.ref S0.length] (LS S0 im 0 nm pl st rw_) = .exc "BadNumber" (badAt e) (S0 ++ X) := by
  rw [run_Loader_read_head (by omega)]
  unfold headM
  have hb := fun (k : Nat) (d : Int) a b c => head_body (S0 := S0) (im := im) (nm := nm) (pl := pl) (st := st) (rw_ := rw_) (show 3 ≤ n - 1 by omega) (k := k) (d := d) (a := a) (b := b) (c := c)
  simp only [dueM]
  by_cases h0 : 0 < im.length
  · by_cases g0 : bAt im 0 = 75
    · by_cases h1 : 1 < im.length
      · by_cases g1 : bAt im 1 = 72
        · by_cases h2 : 2 < im.length
          · by_cases g2 : bAt im 2 = 1
            · simp only [h0, g0, h1, g1, h2, g2, if_true, Nat.zero_add]
              cases c1 : numM im 2 65535 3 with
              | error e =>
                obtain ⟨X, q1⟩ := num2_no (S0 := S0) (nm := nm) (pl := pl) (st := st) (rw_ := rw_) (show 3 ≤ n - 1 by omega) (by omega) c1
                refine ⟨X, ?_⟩
                simp [runFn, f_Loader_read_head, b_Loader_read_head, sv_for, v_HEAD, forGo, srcAt, at1, putIt, hb 0 75 _ _ _ (by omega), h0, g0, hb 1 72 _ _ _ (by omega), h1, g1, hb 2 1 _ _ _ (by omega), h2, g2, gMul_int (i := 256) (j := 256) (.inr (by decide)), q1]
              | ok p1 =>
                obtain ⟨v1, k1⟩ := p1
                obtain ⟨l1, rfl, -, -⟩ := numM_le c1
                have q1 := num2_ok (S0 := S0) (nm := nm) (pl := pl) (st := st) (rw_ := rw_) (show 3 ≤ n - 1 by omega) (by omega) c1
                dsimp only
                cases c2 : numM im 2 10000 5 with
                | error e =>
                  obtain ⟨X, q2⟩ := num2_no (S0 := S0) (nm := nm) (pl := pl) (st := st) (rw_ := rw_) (show 3 ≤ n - 1 by omega) (by omega) c2
                  refine ⟨X, ?_⟩
                  simp [runFn, f_Loader_read_head, b_Loader_read_head, sv_for, v_HEAD, forGo, srcAt, at1, putIt, hb 0 75 _ _ _ (by omega), h0, g0, hb 1 72 _ _ _ (by omega), h1, g1, hb 2 1 _ _ _ (by omega), h2, g2, gMul_int (i := 256) (j := 256) (.inr (by decide)), q1, q2]
                | ok p2 =>
                  obtain ⟨v2, k2⟩ := p2
                  obtain ⟨m1, rfl, -, -⟩ := numM_le c2
                  have q2 := num2_ok (S0 := S0) (nm := nm) (pl := pl) (st := st) (rw_ := rw_) (show 3 ≤ n - 1 by omega) (by omega) c2
                  dsimp only
                  by_cases hz : v2 = 0
                  · rw [if_pos hz]
                    refine par_err (im := im) (k := 7) (nm := nm) (pl := pl) (st := st) (rw_ := rw_) ?_
                    simp [runFn, f_Loader_read_head, b_Loader_read_head, sv_for, v_HEAD, forGo, srcAt, at1, putIt, hb 0 75 _ _ _ (by omega), h0, g0, hb 1 72 _ _ _ (by omega), h1, g1, hb 2 1 _ _ _ (by omega), h2, g2, gMul_int (i := 256) (j := 256) (.inr (by decide)), q1, q2, hz, refuse_eq (show 1 ≤ n - 1 by omega)]
                  · rw [if_neg hz]
                    have hz' : (v2 == 0) = false := by simpa using hz
                    refine ⟨?_, m1⟩
                    simp [runFn, f_Loader_read_head, b_Loader_read_head, sv_for, v_HEAD, forGo, srcAt, at1, putIt, hb 0 75 _ _ _ (by omega), h0, g0, hb 1 72 _ _ _ (by omega), h1, g1, hb 2 1 _ _ _ (by omega), h2, g2, gMul_int (i := 256) (j := 256) (.inr (by decide)), q1, q2, hz', hz, szl]
            · simp only [h0, g0, h1, g1, h2, g2, if_true, if_false, Nat.zero_add]
              refine par_err (im := im) (k := 3) (nm := nm) (pl := pl) (st := st) (rw_ := rw_) ?_
              simp [runFn, f_Loader_read_head, b_Loader_read_head, sv_for, v_HEAD, forGo, srcAt, at1, putIt, hb 0 75 _ _ _ (by omega), h0, g0, hb 1 72 _ _ _ (by omega), h1, g1, hb 2 1 _ _ _ (by omega), h2, g2]
          · simp only [h0, g0, h1, g1, h2, if_true, if_false, Nat.zero_add]
            refine par_err (im := im) (k := 2) (nm := nm) (pl := pl) (st := st) (rw_ := rw_) ?_
            simp [runFn, f_Loader_read_head, b_Loader_read_head, sv_for, v_HEAD, forGo, srcAt, at1, putIt, hb 0 75 _ _ _ (by omega), h0, g0, hb 1 72 _ _ _ (by omega), h1, g1, hb 2 1 _ _ _ (by omega), h2]
        · simp only [h0, g0, h1, g1, if_true, if_false, Nat.zero_add]
          refine par_err (im := im) (k := 2) (nm := nm) (pl := pl) (st := st) (rw_ := rw_) ?_
          simp [runFn, f_Loader_read_head, b_Loader_read_head, sv_for, v_HEAD, forGo, srcAt, at1, putIt, hb 0 75 _ _ _ (by omega), h0, g0, hb 1 72 _ _ _ (by omega), h1, g1]
      · simp only [h0, g0, h1, if_true, if_false, Nat.zero_add]
        refine par_err (im := im) (k := 1) (nm := nm) (pl := pl) (st := st) (rw_ := rw_) ?_
        simp [runFn, f_Loader_read_head, b_Loader_read_head, sv_for, v_HEAD, forGo, srcAt, at1, putIt, hb 0 75 _ _ _ (by omega), h0, g0, hb 1 72 _ _ _ (by omega), h1]
    · simp only [h0, g0, if_true, if_false]
      refine par_err (im := im) (k := 1) (nm := nm) (pl := pl) (st := st) (rw_ := rw_) ?_
      simp [runFn, f_Loader_read_head, b_Loader_read_head, sv_for, v_HEAD, forGo, srcAt, at1, putIt, hb 0 75 _ _ _ (by omega), h0, g0]
  · simp only [h0, if_false]
    refine par_err (im := im) (k := 0) (nm := nm) (pl := pl) (st := st) (rw_ := rw_) ?_
    simp [runFn, f_Loader_read_head, b_Loader_read_head, sv_for, v_HEAD, forGo, srcAt, at1, putIt, hb 0 75 _ _ _ (by omega), h0]
end
end K71

set_option maxHeartbeats 4000000
/-! L6: the Loader's parts and rows. -/
namespace K71
open PySem PySem.Spec PyProof.Rows L2 Pv

def pathM (im : List Int) (nm : List Str) (k : Nat) : Except Int (Str × Nat) := match numM im 2 ((nm.length : Int) - 1) k with
  | .error e => .error e
  | .ok (i, k') => .ok (nm.getD i.toNat "", k')
def rowM (im : List Int) (nm : List Str) (rows : Int) (last : Bool) (k : Nat) : Except Int (Rw × Nat) :=
  if k < im.length then
    if 6 ≤ bAt im k then .error k
    else if last = true ∧ bAt im k < 3 then .error k
    else if bAt im k = 0 then match pathM im nm (k + 1) with
      | .error e => .error e
      | .ok (m, k1) => match numM im 3 1000000 k1 with
        | .error e => .error e
        | .ok (v, k2) => match numM im 2 (rows - 1) k2 with
          | .error e => .error e
          | .ok (a, k3) => .ok (.past m v a, k3)
    else if bAt im k = 1 then match pathM im nm (k + 1) with
      | .error e => .error e
      | .ok (m, k1) => match numM im 2 (rows - 1) k1 with
        | .error e => .error e
        | .ok (a, k2) => .ok (.got m a, k2)
    else if bAt im k = 2 then match pathM im nm (k + 1) with
      | .error e => .error e
      | .ok (m, k1) => .ok (.do_ m, k1)
    else if bAt im k = 3 then match numM im 2 (rows - 1) (k + 1) with
      | .error e => .error e
      | .ok (a, k1) => .ok (.go a, k1)
    else if bAt im k = 4 then .ok (.rest, k + 1)
    else .ok (.stop, k + 1)
  else .error im.length
def bytesOk (im : List Int) : Prop := ∀ x ∈ im, 0 ≤ x ∧ x < 256
theorem bAt_ok {im : List Int} (h : bytesOk im) (k : Nat) : 0 ≤ bAt im k ∧ bAt im k < 256 := by
  unfold bAt
  by_cases hk : k < im.length
  · have := h _ (List.getElem_mem hk)
    simpa [hk] using this
  · rw [List.getD_eq_getElem?_getD, List.getElem?_eq_none (by omega)]
    exact ⟨by decide, by decide⟩
theorem valM_ok {im : List Int} (h : bytesOk im) (k : Nat) : ∀ j, 0 ≤ valM im k j
  | 0 => Int.le_refl 0
  | j + 1 => by
    have := valM_ok h k j
    have := bAt_ok h (k + j)
    unfold valM
    omega
section
variable {n : Nat} {S0 S : Hs} {im : List Int} {k : Nat} {nm : List Str} {pl st : List Int} {rw_ : List Rw} {rows : Int}
theorem pathM_le {z : Str} {k' : Nat} (hb : bytesOk im) (h : pathM im nm k = .ok (z, k')) : k' ≤ im.length ∧ k' = k + 2 ∧ ∃ i : Nat, nm[i]? = some z ∧ valM im k 2 = i := by
  unfold pathM at h
  cases c : numM im 2 ((nm.length : Int) - 1) k with
  | error e => rw [c] at h; cases h
  | ok p =>
    obtain ⟨v, k1⟩ := p
    rw [c] at h
    injection h with h
    injection h with h1 h2
    subst h2
    obtain ⟨l1, l2, l3, l4⟩ := numM_le c
    have := valM_ok hb k 2
    have hv : v.toNat < nm.length := by omega
    refine ⟨l1, l2, v.toNat, ?_, by omega⟩
    rw [← h1, List.getElem?_eq_getElem hv]
    simp [hv]
theorem part_path (hn : 4 ≤ n) (hb : bytesOk im) (hk : k ≤ im.length) :
    match pathM im nm k with
    | .ok (z, k') => hd (specs Γ n) i_Loader_read_part [.ref S0.length, .str "path", .int rows] (LS S0 im k nm pl st rw_) = .ok (.str z) (LS S0 im k' nm pl st rw_)
    | .error e => ∃ X, hd (specs Γ n) i_Loader_read_part [.ref S0.length, .str "path", .int rows] (LS S0 im k nm pl st rw_) = .exc "BadNumber" (badAt e) (S0 ++ X) := by
  rw [run_Loader_read_part (by omega)]
  have el := len_ref (LS_1 (S0 := S0) (im := im) (k := k) (nm := nm) (pl := pl) (st := st) (rw_ := rw_))
  rw [List.length_map] at el
  unfold pathM
  cases c : numM im 2 ((nm.length : Int) - 1) k with
  | error e =>
    obtain ⟨X, q⟩ := num2_no (S0 := S0) (nm := nm) (pl := pl) (st := st) (rw_ := rw_) (show 3 ≤ n - 1 by omega) hk c
    refine ⟨X, ?_⟩
    simp [runFn, f_Loader_read_part, b_Loader_read_part, el, q]
  | ok p =>
    obtain ⟨v, k1⟩ := p
    have q := num2_ok (S0 := S0) (nm := nm) (pl := pl) (st := st) (rw_ := rw_) (show 3 ≤ n - 1 by omega) hk c
    obtain ⟨l1, l2, l3, l4⟩ := numM_le c
    have := valM_ok hb k 2
    have hv : v.toNat < nm.length := by omega
    have ei : gIdx (.ref (S0.length + 1)) (.int v) (LS S0 im k1 nm pl st rw_) = .ok (.str (nm.getD v.toNat "")) (LS S0 im k1 nm pl st rw_) := by
      refine idx_ref LS_1 ?_
      unfold atI ixN
      rw [List.length_map, if_pos (by omega), if_pos (by omega)]
      simp [hv]
    simp [runFn, f_Loader_read_part, b_Loader_read_part, el, q, ei]
theorem c1 : (("number" : Str) == "path") = false := by decide +kernel
theorem c2 : (("at" : Str) == "path") = false := by decide +kernel
theorem c3 : (("at" : Str) == "number") = false := by decide +kernel
theorem part_num (hn : 4 ≤ n) (hk : k ≤ im.length) :
    match numM im 3 1000000 k with
    | .ok (v, k') => hd (specs Γ n) i_Loader_read_part [.ref S0.length, .str "number", .int rows] (LS S0 im k nm pl st rw_) = .ok (.int v) (LS S0 im k' nm pl st rw_)
    | .error e => ∃ X, hd (specs Γ n) i_Loader_read_part [.ref S0.length, .str "number", .int rows] (LS S0 im k nm pl st rw_) = .exc "BadNumber" (badAt e) (S0 ++ X) := by
  rw [run_Loader_read_part (by omega)]
  cases c : numM im 3 1000000 k with
  | error e =>
    obtain ⟨X, q⟩ := num3_no (S0 := S0) (nm := nm) (pl := pl) (st := st) (rw_ := rw_) (show 3 ≤ n - 1 by omega) hk c
    refine ⟨X, ?_⟩
    simp [runFn, f_Loader_read_part, b_Loader_read_part, c1, q]
  | ok p =>
    obtain ⟨v, k1⟩ := p
    have q := num3_ok (S0 := S0) (nm := nm) (pl := pl) (st := st) (rw_ := rw_) (show 3 ≤ n - 1 by omega) hk c
    simp [runFn, f_Loader_read_part, b_Loader_read_part, c1, q]
theorem part_at (hn : 4 ≤ n) (hk : k ≤ im.length) :
    match numM im 2 (rows - 1) k with
    | .ok (v, k') => hd (specs Γ n) i_Loader_read_part [.ref S0.length, .str "at", .int rows] (LS S0 im k nm pl st rw_) = .ok (.int v) (LS S0 im k' nm pl st rw_)
    | .error e => ∃ X, hd (specs Γ n) i_Loader_read_part [.ref S0.length, .str "at", .int rows] (LS S0 im k nm pl st rw_) = .exc "BadNumber" (badAt e) (S0 ++ X) := by
  rw [run_Loader_read_part (by omega)]
  cases c : numM im 2 (rows - 1) k with
  | error e =>
    obtain ⟨X, q⟩ := num2_no (S0 := S0) (nm := nm) (pl := pl) (st := st) (rw_ := rw_) (show 3 ≤ n - 1 by omega) hk c
    refine ⟨X, ?_⟩
    simp [runFn, f_Loader_read_part, b_Loader_read_part, c2, c3, q]
  | ok p =>
    obtain ⟨v, k1⟩ := p
    have q := num2_ok (S0 := S0) (nm := nm) (pl := pl) (st := st) (rw_ := rw_) (show 3 ≤ n - 1 by omega) hk c
    simp [runFn, f_Loader_read_part, b_Loader_read_part, c2, c3, q]
theorem kind_len : bltG .len [v_KINDS] S = .ok (.int 6) S := rfl
theorem kind0 : gIdx v_KINDS (.int 0) S = .ok (.str "past") S := by kernel_rfl
theorem kind1 : gIdx v_KINDS (.int 1) S = .ok (.str "got") S := by kernel_rfl
theorem kind2 : gIdx v_KINDS (.int 2) S = .ok (.str "do") S := by kernel_rfl
theorem kind3 : gIdx v_KINDS (.int 3) S = .ok (.str "go") S := by kernel_rfl
theorem kind4 : gIdx v_KINDS (.int 4) S = .ok (.str "rest") S := by kernel_rfl
theorem kind5 : gIdx v_KINDS (.int 5) S = .ok (.str "stop") S := by kernel_rfl
theorem last0 : copG .nin (.str "past") v_LAST_WORDS S = .ok (.bl true) S := by kernel_rfl
theorem last1 : copG .nin (.str "got") v_LAST_WORDS S = .ok (.bl true) S := by kernel_rfl
theorem last2 : copG .nin (.str "do") v_LAST_WORDS S = .ok (.bl true) S := by kernel_rfl
theorem last3 : copG .nin (.str "go") v_LAST_WORDS S = .ok (.bl false) S := by kernel_rfl
theorem last4 : copG .nin (.str "rest") v_LAST_WORDS S = .ok (.bl false) S := by kernel_rfl
theorem last5 : copG .nin (.str "stop") v_LAST_WORDS S = .ok (.bl false) S := by kernel_rfl
theorem form0 : gTab u_FORMS (.str "past") S = .ok (.tup [.str "path", .str "number", .str "at"]) S := by kernel_rfl
theorem form1 : gTab u_FORMS (.str "got") S = .ok (.tup [.str "path", .str "at"]) S := by kernel_rfl
theorem form2 : gTab u_FORMS (.str "do") S = .ok (.tup [.str "path"]) S := by kernel_rfl
theorem form3 : gTab u_FORMS (.str "go") S = .ok (.tup [.str "at"]) S := by kernel_rfl
theorem form4 : gTab u_FORMS (.str "rest") S = .ok (.tup []) S := by kernel_rfl
theorem form5 : gTab u_FORMS (.str "stop") S = .ok (.tup []) S := by kernel_rfl
/-- a row is told -/
def RowTo (S0 : Hs) (im : List Int) (k : Nat) (nm : List Str) (pl st : List Int) (rw_ : List Rw) (r : R D) (m : Except Int (Rw × Nat)) : Prop := match m with
  | .ok (x, k') => r = .ok .non (LS S0 im k' nm (pl ++ [(k : Int)]) st (rw_ ++ [x])) ∧ k' ≤ im.length
  | .error e => ∃ X, r = .exc "BadNumber" (badAt e) (S0 ++ X)
theorem row_done {n : Nat} {k' : Nat} {x : Rw} (h1 : rw_.length < 100000) (h2 : pl.length < 100000) : bmtG .append (.ref (S0.length + 4)) [x.d] (LS S0 im k' nm pl st rw_) = .ok .non (LS S0 im k' nm pl st (rw_ ++ [x])) ∧ bmtG .append (.ref (S0.length + 2)) [.int n] (LS S0 im k' nm pl st (rw_ ++ [x])) = .ok .non (LS S0 im k' nm (pl ++ [(n : Int)]) st (rw_ ++ [x])) ∧ tyM (LS S0 im k' nm pl st rw_) (.ref (S0.length + 4)) = some "list" ∧ tyM (LS S0 im k' nm pl st (rw_ ++ [x])) (.ref (S0.length + 2)) = some "list" := by
  have e1 := append_ref (y := x.d) (LS_4 (S0 := S0) (im := im) (k := k') (nm := nm) (pl := pl) (st := st) (rw_ := rw_)) (by rw [szl]; simp; omega)
  have e2 := append_ref (y := .int n) (LS_2 (S0 := S0) (im := im) (k := k') (nm := nm) (pl := pl) (st := st) (rw_ := rw_ ++ [x])) (by rw [szl]; simp; omega)
  rw [LS_set4] at e1
  rw [LS_set2] at e2
  exact ⟨e1, e2, ty_ref LS_4, ty_ref LS_2⟩
theorem read_row_eq (hn : 5 ≤ n) (hb : bytesOk im) (hk : k ≤ im.length) (h1 : rw_.length < 100000) (h2 : pl.length < 100000) (last : Bool) (hl : ((rw_.length : Int) == rows - 1) = last) :
    RowTo S0 im k nm pl st rw_ (hd (specs Γ n) i_Loader_read_row [.ref S0.length, .int rows] (LS S0 im k nm pl st rw_)) (rowM im nm rows last k) := by
  rw [run_Loader_read_row (by omega)]
  unfold rowM
  have el := fun k' => len_ref (LS_4 (S0 := S0) (im := im) (k := k') (nm := nm) (pl := pl) (st := st) (rw_ := rw_))
  simp only [List.length_map] at el
  by_cases h : k < im.length
  · rw [if_pos h]
    have hbk := bAt_ok hb k
    have ht := take_ok (S0 := S0) (nm := nm) (pl := pl) (st := st) (rw_ := rw_) (show 2 ≤ n - 1 by omega) h
    by_cases h6 : 6 ≤ bAt im k
    · rw [if_pos h6]
      refine par_err (im := im) (k := k + 1) (nm := nm) (pl := pl) (st := st) (rw_ := rw_) ?_
      simp [runFn, f_Loader_read_row, b_Loader_read_row, ht, kind_len, h6, refuse_eq (show 1 ≤ n - 1 by omega)]
    · rw [if_neg h6]
      by_cases hl3 : last = true ∧ bAt im k < 3
      · rw [if_pos hl3]
        refine par_err (im := im) (k := k + 1) (nm := nm) (pl := pl) (st := st) (rw_ := rw_) ?_
        obtain ⟨rfl, h3⟩ := hl3
        by_cases g0 : bAt im k = 0
        · rw [g0] at ht
          simp [runFn, f_Loader_read_row, b_Loader_read_row, ht, kind_len, el, hl, kind0, last0, refuse_eq (show 1 ≤ n - 1 by omega)]
        · by_cases g1 : bAt im k = 1
          · rw [g1] at ht
            simp [runFn, f_Loader_read_row, b_Loader_read_row, ht, kind_len, el, hl, kind1, last1, refuse_eq (show 1 ≤ n - 1 by omega)]
          · have g2 : bAt im k = 2 := by omega
            rw [g2] at ht
            simp [runFn, f_Loader_read_row, b_Loader_read_row, ht, kind_len, el, hl, kind2, last2, refuse_eq (show 1 ≤ n - 1 by omega)]
      · rw [if_neg hl3]
        by_cases g0 : bAt im k = 0
        · rw [if_pos g0]
          have hlast : last = false := by
            cases last
            · rfl
            · exact absurd ⟨rfl, by omega⟩ hl3
          subst hlast
          rw [g0] at ht
          have q0 := part_path (n := n - 1) (S0 := S0) (im := im) (k := k + 1) (nm := nm) (pl := pl) (st := st) (rw_ := rw_) (rows := rows) (by omega) hb (by omega)
          cases e0 : pathM im nm (k + 1) with
          | error e =>
            rw [e0] at q0
            obtain ⟨X, q0⟩ := q0
            refine ⟨X, ?_⟩
            simp [runFn, f_Loader_read_row, b_Loader_read_row, ht, kind_len, el, hl, kind0, form0, sv_for, b_Loader_read_row_0, forGo, srcAt, at1, putIt, szl, q0]
          | ok p0 =>
            obtain ⟨v0, k0⟩ := p0
            rw [e0] at q0
            obtain ⟨l0, -, -⟩ := pathM_le hb e0
            dsimp only at q0 ⊢
            have q1 := part_num (n := n - 1) (S0 := S0) (im := im) (k := k0) (nm := nm) (pl := pl) (st := st) (rw_ := rw_) (rows := rows) (by omega) (by omega)
            cases e1 : numM im 3 1000000 (k0) with
            | error e =>
              rw [e1] at q1
              obtain ⟨X, q1⟩ := q1
              refine ⟨X, ?_⟩
              simp [runFn, f_Loader_read_row, b_Loader_read_row, ht, kind_len, el, hl, kind0, form0, sv_for, b_Loader_read_row_0, forGo, srcAt, at1, putIt, szl, q0, q1]
            | ok p1 =>
              obtain ⟨v1, k1⟩ := p1
              rw [e1] at q1
              obtain ⟨l1, -, -, -⟩ := numM_le e1
              dsimp only at q1 ⊢
              have q2 := part_at (n := n - 1) (S0 := S0) (im := im) (k := k1) (nm := nm) (pl := pl) (st := st) (rw_ := rw_) (rows := rows) (by omega) (by omega)
              cases e2 : numM im 2 (rows - 1) (k1) with
              | error e =>
                rw [e2] at q2
                obtain ⟨X, q2⟩ := q2
                refine ⟨X, ?_⟩
                simp [runFn, f_Loader_read_row, b_Loader_read_row, ht, kind_len, el, hl, kind0, form0, sv_for, b_Loader_read_row_0, forGo, srcAt, at1, putIt, szl, q0, q1, q2]
              | ok p2 =>
                obtain ⟨v2, k2⟩ := p2
                rw [e2] at q2
                obtain ⟨l2, -, -, -⟩ := numM_le e2
                dsimp only at q2 ⊢
                obtain ⟨d1, d2, d3, d4⟩ := row_done (S0 := S0) (im := im) (nm := nm) (pl := pl) (st := st) (rw_ := rw_) (n := k) (k' := k2) (x := .past v0 v1 v2) h1 h2
                rw [Rw.d] at d1
                refine ⟨?_, by omega⟩
                simp [runFn, f_Loader_read_row, b_Loader_read_row, ht, kind_len, el, hl, kind0, form0, sv_for, b_Loader_read_row_0, forGo, srcAt, at1, putIt, szl, q0, q1, q2, d1, d2, d3, d4]
        · rw [if_neg g0]
          by_cases g1 : bAt im k = 1
          · rw [if_pos g1]
            have hlast : last = false := by
              cases last
              · rfl
              · exact absurd ⟨rfl, by omega⟩ hl3
            subst hlast
            rw [g1] at ht
            have q0 := part_path (n := n - 1) (S0 := S0) (im := im) (k := k + 1) (nm := nm) (pl := pl) (st := st) (rw_ := rw_) (rows := rows) (by omega) hb (by omega)
            cases e0 : pathM im nm (k + 1) with
            | error e =>
              rw [e0] at q0
              obtain ⟨X, q0⟩ := q0
              refine ⟨X, ?_⟩
              simp [runFn, f_Loader_read_row, b_Loader_read_row, ht, kind_len, el, hl, kind1, form1, sv_for, b_Loader_read_row_0, forGo, srcAt, at1, putIt, szl, q0]
            | ok p0 =>
              obtain ⟨v0, k0⟩ := p0
              rw [e0] at q0
              obtain ⟨l0, -, -⟩ := pathM_le hb e0
              dsimp only at q0 ⊢
              have q1 := part_at (n := n - 1) (S0 := S0) (im := im) (k := k0) (nm := nm) (pl := pl) (st := st) (rw_ := rw_) (rows := rows) (by omega) (by omega)
              cases e1 : numM im 2 (rows - 1) (k0) with
              | error e =>
                rw [e1] at q1
                obtain ⟨X, q1⟩ := q1
                refine ⟨X, ?_⟩
                simp [runFn, f_Loader_read_row, b_Loader_read_row, ht, kind_len, el, hl, kind1, form1, sv_for, b_Loader_read_row_0, forGo, srcAt, at1, putIt, szl, q0, q1]
              | ok p1 =>
                obtain ⟨v1, k1⟩ := p1
                rw [e1] at q1
                obtain ⟨l1, -, -, -⟩ := numM_le e1
                dsimp only at q1 ⊢
                obtain ⟨d1, d2, d3, d4⟩ := row_done (S0 := S0) (im := im) (nm := nm) (pl := pl) (st := st) (rw_ := rw_) (n := k) (k' := k1) (x := .got v0 v1) h1 h2
                rw [Rw.d] at d1
                refine ⟨?_, by omega⟩
                simp [runFn, f_Loader_read_row, b_Loader_read_row, ht, kind_len, el, hl, kind1, form1, sv_for, b_Loader_read_row_0, forGo, srcAt, at1, putIt, szl, q0, q1, d1, d2, d3, d4]
          · rw [if_neg g1]
            by_cases g2 : bAt im k = 2
            · rw [if_pos g2]
              have hlast : last = false := by
                cases last
                · rfl
                · exact absurd ⟨rfl, by omega⟩ hl3
              subst hlast
              rw [g2] at ht
              have q0 := part_path (n := n - 1) (S0 := S0) (im := im) (k := k + 1) (nm := nm) (pl := pl) (st := st) (rw_ := rw_) (rows := rows) (by omega) hb (by omega)
              cases e0 : pathM im nm (k + 1) with
              | error e =>
                rw [e0] at q0
                obtain ⟨X, q0⟩ := q0
                refine ⟨X, ?_⟩
                simp [runFn, f_Loader_read_row, b_Loader_read_row, ht, kind_len, el, hl, kind2, form2, sv_for, b_Loader_read_row_0, forGo, srcAt, at1, putIt, szl, q0]
              | ok p0 =>
                obtain ⟨v0, k0⟩ := p0
                rw [e0] at q0
                obtain ⟨l0, -, -⟩ := pathM_le hb e0
                dsimp only at q0 ⊢
                obtain ⟨d1, d2, d3, d4⟩ := row_done (S0 := S0) (im := im) (nm := nm) (pl := pl) (st := st) (rw_ := rw_) (n := k) (k' := k0) (x := .do_ v0) h1 h2
                rw [Rw.d] at d1
                refine ⟨?_, by omega⟩
                simp [runFn, f_Loader_read_row, b_Loader_read_row, ht, kind_len, el, hl, kind2, form2, sv_for, b_Loader_read_row_0, forGo, srcAt, at1, putIt, szl, q0, d1, d2, d3, d4]
            · rw [if_neg g2]
              by_cases g3 : bAt im k = 3
              · rw [if_pos g3]
                rw [g3] at ht
                have q0 := part_at (n := n - 1) (S0 := S0) (im := im) (k := k + 1) (nm := nm) (pl := pl) (st := st) (rw_ := rw_) (rows := rows) (by omega) (by omega)
                cases e0 : numM im 2 (rows - 1) (k + 1) with
                | error e =>
                  rw [e0] at q0
                  obtain ⟨X, q0⟩ := q0
                  refine ⟨X, ?_⟩
                  cases last <;> simp [runFn, f_Loader_read_row, b_Loader_read_row, ht, kind_len, el, hl, kind3, form3, last3, sv_for, b_Loader_read_row_0, forGo, srcAt, at1, putIt, szl, q0]
                | ok p0 =>
                  obtain ⟨v0, k0⟩ := p0
                  rw [e0] at q0
                  obtain ⟨l0, -, -, -⟩ := numM_le e0
                  dsimp only at q0 ⊢
                  obtain ⟨d1, d2, d3, d4⟩ := row_done (S0 := S0) (im := im) (nm := nm) (pl := pl) (st := st) (rw_ := rw_) (n := k) (k' := k0) (x := .go v0) h1 h2
                  rw [Rw.d] at d1
                  refine ⟨?_, by omega⟩
                  cases last <;> simp [runFn, f_Loader_read_row, b_Loader_read_row, ht, kind_len, el, hl, kind3, form3, last3, sv_for, b_Loader_read_row_0, forGo, srcAt, at1, putIt, szl, q0, d1, d2, d3, d4]
              · rw [if_neg g3]
                by_cases g4 : bAt im k = 4
                · rw [if_pos g4]
                  rw [g4] at ht
                  obtain ⟨d1, d2, d3, d4⟩ := row_done (S0 := S0) (im := im) (nm := nm) (pl := pl) (st := st) (rw_ := rw_) (n := k) (k' := k + 1) (x := .rest) h1 h2
                  rw [Rw.d] at d1
                  refine ⟨?_, by omega⟩
                  cases last <;> simp [runFn, f_Loader_read_row, b_Loader_read_row, ht, kind_len, el, hl, kind4, form4, last4, sv_for, b_Loader_read_row_0, forGo, srcAt, at1, putIt, szl, d1, d2, d3, d4]
                · rw [if_neg g4]
                  have g5 : bAt im k = 5 := by omega
                  rw [g5] at ht
                  obtain ⟨d1, d2, d3, d4⟩ := row_done (S0 := S0) (im := im) (nm := nm) (pl := pl) (st := st) (rw_ := rw_) (n := k) (k' := k + 1) (x := .stop) h1 h2
                  rw [Rw.d] at d1
                  refine ⟨?_, by omega⟩
                  cases last <;> simp [runFn, f_Loader_read_row, b_Loader_read_row, ht, kind_len, el, hl, kind5, form5, last5, sv_for, b_Loader_read_row_0, forGo, srcAt, at1, putIt, szl, d1, d2, d3, d4]
  · rw [if_neg h]
    refine par_err (im := im) (k := k) (nm := nm) (pl := pl) (st := st) (rw_ := rw_) ?_
    simp [runFn, f_Loader_read_row, b_Loader_read_row, take_no (show 2 ≤ n - 1 by omega) (show k = im.length by omega)]
end
end K71

set_option maxHeartbeats 4000000
/-! L7: the Loader's reading of all of it. -/
namespace K71
open PySem PySem.Spec PyProof.Rows L2 Pv

def namesM (im : List Int) : Nat → List Str → List Int → Nat → Except Int (List Str × List Int × Nat)
  | 0, nm, st, k => .ok (nm, st, k)
  | f + 1, nm, st, k => match nameM im nm k with
    | .error e => .error e
    | .ok (z, k') => namesM im f (nm ++ [z]) (st ++ [(k : Int)]) k'
def rowsM (im : List Int) (nm : List Str) (rows : Int) : Nat → List Rw → List Int → Nat → Except Int (List Rw × List Int × Nat)
  | 0, rs, pl, k => .ok (rs, pl, k)
  | f + 1, rs, pl, k => match rowM im nm rows ((rs.length : Int) == rows - 1) k with
    | .error e => .error e
    | .ok (x, k') => rowsM im nm rows f (rs ++ [x]) (pl ++ [(k : Int)]) k'
def Rw.used : Rw → List Str
  | .past m _ _ => [m]
  | .got m _ => [m]
  | .do_ m => [m]
  | _ => []
def usedM (rs : List Rw) : List Str := rs.flatMap Rw.used
def lostM (used : List Str) : List (Str × Int) → Except Int Unit
  | [] => .ok ()
  | (z, p) :: r => if z ∈ used then lostM used r else .error p
def endM (im : List Int) (nm : List Str) (st : List Int) (rs : List Rw) (k : Nat) : Except Int Unit := match numM im 2 65535 k with
  | .error e => .error e
  | .ok (v, k') => if v = sumM (im.take k) then (if k' < im.length then .error k' else lostM (usedM rs) (nm.zip st)) else .error k
theorem signsM_ok : ∀ (f : Nat) {im : List Int} {pos : Nat} {acc r : List Nat}, signsM im f pos acc = .ok r → (∀ c ∈ acc, c < 256) → ∀ c ∈ r, c < 256
  | 0, _, _, _, _, h, ha => by
    injection h with h
    subst h
    exact ha
  | f + 1, im, pos, acc, r, h, ha => by
    unfold signsM at h
    split at h
    · split at h
      · rename_i h1 h2
        refine signsM_ok f h fun c hc => ?_
        rcases List.mem_append.mp hc with hc | hc
        · exact ha c hc
        · rw [List.mem_singleton.mp hc]
          have := of_decide_eq_true h2
          omega
      · cases h
    · cases h
theorem nameM_ok {im : List Int} {nm : List Str} {k k' : Nat} {z : Str} (h : nameM im nm k = .ok (z, k')) : PyData.strOk z = true ∧ k' ≤ im.length ∧ pathB z = true := by
  unfold nameM at h
  split at h
  · split at h
    · rename_i h1 h2
      cases e : signsM im (bAt im k).toNat (k + 1) [] with
      | error x => rw [e] at h; cases h
      | ok r =>
        rw [e] at h
        dsimp only at h
        split at h
        · rename_i h3
          injection h with h
          injection h with h4 h5
          subst h4
          subst h5
          refine ⟨?_, ?_, h3.1⟩
          · refine Array.all_eq_true'.mpr fun c hc => ?_
            have := signsM_ok _ e (fun _ z => nomatch z) c (by simpa using hc)
            simp
            omega
          · rcases signsM_len _ e with ⟨_, h6⟩ | ⟨h6, _⟩ <;> omega
        · cases h
    · cases h
  · cases h
section
variable {n : Nat} {S0 S : Hs} {im : List Int} {k : Nat} {nm : List Str} {pl st : List Int} {rw_ : List Rw} {rows : Int}
theorem names_loop (hn : 5 ≤ n) {a b : Option D} : ∀ (f j k : Nat) (nm : List Str) (st : List Int) (t : Option D), k ≤ im.length → (∀ z ∈ nm, PyData.strOk z = true) → nm.length + f ≤ 70000 → st.length + f ≤ 70000 →
    match namesM im f nm st k with
    | .ok (nm', st', k') => k' ≤ im.length ∧ (∀ z ∈ nm', PyData.strOk z = true) ∧ nm'.length = nm.length + f ∧ st'.length = st.length + f ∧ ∃ t', forGo (.rng 0 (j + f)) (.v 1) (svs Γ (specs Γ (n - 1)) b_Loader_read_1) f j [some (.ref S0.length), t, a, b] (LS S0 im k nm pl st rw_) = .nx [some (.ref S0.length), t', a, b] (LS S0 im k' nm' pl st' rw_)
    | .error e => ∃ ρ' X, forGo (.rng 0 (j + f)) (.v 1) (svs Γ (specs Γ (n - 1)) b_Loader_read_1) f j [some (.ref S0.length), t, a, b] (LS S0 im k nm pl st rw_) = .exc "BadNumber" (badAt e) ρ' (S0 ++ X)
  | 0, j, k, nm, st, t, h1, h2, _, _ => by
    simp only [namesM, forGo, srcAt, Nat.add_zero, Nat.lt_irrefl, if_false]
    exact ⟨h1, h2, trivial, trivial, t, rfl⟩
  | f + 1, j, k, nm, st, t, h1, h2, h3, h4 => by
    simp only [namesM]
    have hj : j < j + (f + 1) := by omega
    simp only [forGo, srcAt, hj, if_true, putIt]
    have q := read_name_eq (n := n - 1) (S0 := S0) (im := im) (k := k) (nm := nm) (pl := pl) (st := st) (rw_ := rw_) (by omega) h1 h2 (by omega) (by omega)
    cases e : nameM im nm k with
    | error x =>
      rw [e] at q
      obtain ⟨X, q⟩ := q
      have es : svs Γ (specs Γ (n - 1)) b_Loader_read_1 ([some (.ref S0.length), t, a, b].set 1 (some (.int (0 + (j : Int))))) (LS S0 im k nm pl st rw_) = .exc "BadNumber" (badAt x) [some (.ref S0.length), some (.int (0 + (j : Int))), a, b] (S0 ++ X) := by
        simp [b_Loader_read_1, q]
      rw [es]
      exact ⟨_, X, rfl⟩
    | ok p =>
      obtain ⟨z, k'⟩ := p
      rw [e] at q
      obtain ⟨o1, o2, _⟩ := nameM_ok e
      have es : svs Γ (specs Γ (n - 1)) b_Loader_read_1 ([some (.ref S0.length), t, a, b].set 1 (some (.int (0 + (j : Int))))) (LS S0 im k nm pl st rw_) = .nx [some (.ref S0.length), some (.int (0 + (j : Int))), a, b] (LS S0 im k' (nm ++ [z]) pl (st ++ [(k : Int)]) rw_) := by
        simp [b_Loader_read_1, q]
      rw [es]
      have ih := names_loop hn (a := a) (b := b) f (j + 1) k' (nm ++ [z]) (st ++ [(k : Int)]) (some (.int (0 + (j : Int)))) o2 (fun y hy => by
        rcases List.mem_append.mp hy with hy | hy
        · exact h2 y hy
        · rw [List.mem_singleton.mp hy]; exact o1) (by simp; omega) (by simp; omega)
      rw [show j + 1 + f = j + (f + 1) by omega] at ih
      dsimp only
      cases em : namesM im f (nm ++ [z]) (st ++ [(k : Int)]) k' with
      | error x => rw [em] at ih; exact ih
      | ok p =>
        obtain ⟨nm', st', k2⟩ := p
        rw [em] at ih
        obtain ⟨i1, i2, i3, i4, i5⟩ := ih
        refine ⟨i1, i2, ?_, ?_, i5⟩
        · rw [i3]; simp; omega
        · rw [i4]; simp; omega
theorem rows_loop (hn : 6 ≤ n) (hb : bytesOk im) {a : Option D} : ∀ (f j k : Nat) (rs : List Rw) (pl : List Int) (t : Option D), k ≤ im.length → rs.length + f ≤ 70000 → pl.length + f ≤ 70000 →
    match rowsM im nm rows f rs pl k with
    | .ok (rs', pl', k') => k' ≤ im.length ∧ rs'.length = rs.length + f ∧ pl'.length = pl.length + f ∧ ∃ t', forGo (.rng 0 (j + f)) (.v 1) (svs Γ (specs Γ (n - 1)) b_Loader_read_0) f j [some (.ref S0.length), t, a, some (.int rows)] (LS S0 im k nm pl st rs) = .nx [some (.ref S0.length), t', a, some (.int rows)] (LS S0 im k' nm pl' st rs')
    | .error e => ∃ ρ' X, forGo (.rng 0 (j + f)) (.v 1) (svs Γ (specs Γ (n - 1)) b_Loader_read_0) f j [some (.ref S0.length), t, a, some (.int rows)] (LS S0 im k nm pl st rs) = .exc "BadNumber" (badAt e) ρ' (S0 ++ X)
  | 0, j, k, rs, pl, t, h1, _, _ => by
    simp only [rowsM, forGo, srcAt, Nat.add_zero, Nat.lt_irrefl, if_false]
    exact ⟨h1, trivial, trivial, t, rfl⟩
  | f + 1, j, k, rs, pl, t, h1, h3, h4 => by
    simp only [rowsM]
    have hj : j < j + (f + 1) := by omega
    simp only [forGo, srcAt, hj, if_true, putIt]
    have q := read_row_eq (n := n - 1) (S0 := S0) (im := im) (k := k) (nm := nm) (pl := pl) (st := st) (rw_ := rs) (rows := rows) (by omega) hb h1 (by omega) (by omega) _ rfl
    cases e : rowM im nm rows ((rs.length : Int) == rows - 1) k with
    | error x =>
      rw [e] at q
      obtain ⟨X, q⟩ := q
      have es : svs Γ (specs Γ (n - 1)) b_Loader_read_0 ([some (.ref S0.length), t, a, some (.int rows)].set 1 (some (.int (0 + (j : Int))))) (LS S0 im k nm pl st rs) = .exc "BadNumber" (badAt x) [some (.ref S0.length), some (.int (0 + (j : Int))), a, some (.int rows)] (S0 ++ X) := by
        simp [b_Loader_read_0, q]
      rw [es]
      exact ⟨_, X, rfl⟩
    | ok p =>
      obtain ⟨x, k'⟩ := p
      rw [e] at q
      obtain ⟨q, o2⟩ := q
      have es : svs Γ (specs Γ (n - 1)) b_Loader_read_0 ([some (.ref S0.length), t, a, some (.int rows)].set 1 (some (.int (0 + (j : Int))))) (LS S0 im k nm pl st rs) = .nx [some (.ref S0.length), some (.int (0 + (j : Int))), a, some (.int rows)] (LS S0 im k' nm (pl ++ [(k : Int)]) st (rs ++ [x])) := by
        simp [b_Loader_read_0, q]
      rw [es]
      have ih := rows_loop hn hb (a := a) f (j + 1) k' (rs ++ [x]) (pl ++ [(k : Int)]) (some (.int (0 + (j : Int)))) o2 (by simp; omega) (by simp; omega)
      rw [show j + 1 + f = j + (f + 1) by omega] at ih
      dsimp only
      cases em : rowsM im nm rows f (rs ++ [x]) (pl ++ [(k : Int)]) k' with
      | error x => rw [em] at ih; exact ih
      | ok p =>
        obtain ⟨rs', pl', k2⟩ := p
        rw [em] at ih
        obtain ⟨i1, i3, i4, i5⟩ := ih
        refine ⟨i1, ?_, ?_, i5⟩
        · rw [i3]; simp; omega
        · rw [i4]; simp; omega
end
end K71

set_option maxHeartbeats 4000000
/-! L8: the Loader's end; what an image is read as. -/
namespace K71
open PySem PySem.Spec PyProof.Rows L2 Pv
theorem used_flat {rs : List Rw} : ((rs.filter fun x => !x.used.isEmpty).map fun x => D.str (x.used.headD "")) = (usedM rs).map .str := by
  induction rs with
  | nil => rfl
  | cons x rs ih =>
    cases x <;> simp [usedM, Rw.used] at ih ⊢ <;> exact ih
theorem in_pgd (S : Hs) (x : Rw) : ∃ r, x.d = .tup r ∧ (∃ k, r[0]? = some (.str k) ∧ copG .in_ (.str k) (.tup [.str "past", .str "got", .str "do"]) S = .ok (.bl (!x.used.isEmpty)) S) ∧ (x.used.isEmpty = false → r[1]? = some (.str (x.used.headD ""))) := by
  cases x
  · exact ⟨_, rfl, ⟨_, rfl, by kernel_rfl⟩, fun _ => rfl⟩
  · exact ⟨_, rfl, ⟨_, rfl, by kernel_rfl⟩, fun _ => rfl⟩
  · exact ⟨_, rfl, ⟨_, rfl, by kernel_rfl⟩, fun _ => rfl⟩
  · exact ⟨_, rfl, ⟨_, rfl, by kernel_rfl⟩, fun h => by cases h⟩
  · exact ⟨_, rfl, ⟨_, rfl, by kernel_rfl⟩, fun h => by cases h⟩
  · exact ⟨_, rfl, ⟨_, rfl, by kernel_rfl⟩, fun h => by cases h⟩
section
variable {n : Nat} {S0 S : Hs} {im : List Int} {k : Nat} {nm : List Str} {pl st : List Int} {rw_ : List Rw} {rows : Int}
theorem tup_at {r : List D} {i : Nat} {d : D} (h : r[i]? = some d) : gIdx (.tup r) (.int (i : Int)) S = .ok d S := by
  have hi := (List.getElem?_eq_some_iff.mp h).1
  simp only [gIdx, dOf, sOf, atI, ixN]
  rw [if_pos (by omega), if_pos (by omega)]
  simp [h]
theorem tup_at0 {r : List D} {d : D} (h : r[0]? = some d) : gIdx (.tup r) (.int 0) S = .ok d S := tup_at (i := 0) h
theorem tup_at1 {r : List D} {d : D} (h : r[1]? = some d) : gIdx (.tup r) (.int 1) S = .ok d S := tup_at (i := 1) h
theorem used_eq {Os : List Orc} {a b c d e : Option D} (h1 : rw_.length ≤ 100000) : ev Γ Os (.lc false [5] (.v 5) (.ex (.fld ["Loader"] "rows" (.var 0))) (.some b_Loader_read_end_1) b_Loader_read_end_2) [some (.ref S0.length), a, b, c, d, e] (LS S0 im k nm pl st rw_) = .ok (.lv ((usedM rw_).map .str)) (LS S0 im k nm pl st rw_) := by
  rw [lcD_if (xs := rw_) (h_ := Rw.d) (n := S0.length + 4) (fun x => !x.used.isEmpty) (fun x => D.str (x.used.headD "")) ?h1 LS_4 (by rw [szl]; omega) ?h2]
  case h1 => simp
  case h2 =>
    intro x hx
    obtain ⟨r, e1, ⟨q, e2, e3⟩, e4⟩ := in_pgd (LS S0 im k nm pl st rw_) x
    rw [e1]
    refine ⟨?_, fun z => ?_⟩
    · simp [wipeE, b_Loader_read_end_1, tup_at0 e2, szl, e3]
    · have z : x.used.isEmpty = false := by simpa using z
      simp [wipeE, b_Loader_read_end_2, tup_at1 (e4 z)]
  · rw [nwl_f, used_flat]
/-- the names that no row has -/
theorem lost_loop (hn : 2 ≤ n) {a c : Option D} {used : List Str} : ∀ (f j : Nat) (d e : Option D), nm.length = st.length → j ≤ nm.length → nm.length - j ≤ f →
    match lostM used ((nm.zip st).drop j) with
    | .ok _ => ∃ d' e', forGo (.zip (.dy (S0.length + 1)) (.dy (S0.length + 3))) (.t [4, 2]) (svs Γ (specs Γ (n - 1)) b_Loader_read_end_0) f j [some (.ref S0.length), a, e, some (.lv (used.map .str)), d, c] (LS S0 im k nm pl st rw_) = .nx [some (.ref S0.length), a, e', some (.lv (used.map .str)), d', c] (LS S0 im k nm pl st rw_)
    | .error x => ∃ ρ' X, forGo (.zip (.dy (S0.length + 1)) (.dy (S0.length + 3))) (.t [4, 2]) (svs Γ (specs Γ (n - 1)) b_Loader_read_end_0) f j [some (.ref S0.length), a, e, some (.lv (used.map .str)), d, c] (LS S0 im k nm pl st rw_) = .exc "BadNumber" (badAt x) ρ' (S0 ++ X) := by
  intro f
  induction f with
  | zero =>
    intro j d e h1 h2 h3
    have ej : j = nm.length := by omega
    have hz : (nm.zip st).length ≤ j := by rw [List.length_zip]; omega
    rw [List.drop_of_length_le hz]
    refine ⟨d, e, ?_⟩
    simp only [forGo, src_zipd LS_1 LS_3]
    rw [List.getElem?_eq_none (by simp; omega)]
  | succ f ih =>
    intro j d e h1 h2 h3
    by_cases hj : j < nm.length
    · have hz : j < (nm.zip st).length := by rw [List.length_zip]; omega
      have hs : j < st.length := by omega
      rw [List.drop_eq_getElem_cons hz]
      simp only [List.getElem_zip]
      have es : srcAt (LS S0 im k nm pl st rw_) (.zip (.dy (S0.length + 1)) (.dy (S0.length + 3))) j = some (some (.p (.str nm[j]) (.int st[j]))) := by
        rw [src_zipd LS_1 LS_3, List.getElem?_eq_getElem (by simp; omega)]
        simp
      simp only [forGo, es, putIt, sets_cons, sets_nil, lostM]
      have ei : copG .nin (.str nm[j]) (.lv (used.map .str)) (LS S0 im k nm pl st rw_) = .ok (.bl (!decide (nm[j] ∈ used))) (LS S0 im k nm pl st rw_) := nin_strs (.inr rfl)
      by_cases hu : nm[j] ∈ used
      · rw [if_pos hu]
        have eb : svs Γ (specs Γ (n - 1)) b_Loader_read_end_0 [some (.ref S0.length), a, some (.int st[j]), some (.lv (used.map .str)), some (.str nm[j]), c] (LS S0 im k nm pl st rw_) = .nx [some (.ref S0.length), a, some (.int st[j]), some (.lv (used.map .str)), some (.str nm[j]), c] (LS S0 im k nm pl st rw_) := by
          simp [b_Loader_read_end_0, ei, hu]
        simp only [List.set_cons_succ, List.set_cons_zero, eb]
        exact ih (j + 1) _ _ h1 (by omega) (by omega)
      · rw [if_neg hu]
        have eb : svs Γ (specs Γ (n - 1)) b_Loader_read_end_0 [some (.ref S0.length), a, some (.int st[j]), some (.lv (used.map .str)), some (.str nm[j]), c] (LS S0 im k nm pl st rw_) = .exc "BadNumber" (badAt st[j]) [some (.ref S0.length), a, some (.int st[j]), some (.lv (used.map .str)), some (.str nm[j]), c] (LS S0 im k nm pl st rw_) := by
          simp [b_Loader_read_end_0, ei, hu, refuse_eq (show 1 ≤ n - 1 by omega)]
        simp only [List.set_cons_succ, List.set_cons_zero, eb]
        exact ⟨_, _, rfl⟩
    · have ej : j = nm.length := by omega
      have hz : (nm.zip st).length ≤ j := by rw [List.length_zip]; omega
      rw [List.drop_of_length_le hz]
      refine ⟨d, e, ?_⟩
      simp only [forGo, src_zipd LS_1 LS_3]
      rw [List.getElem?_eq_none (by simp; omega)]
theorem read_end_eq (hn : 4 ≤ n) (hk : k ≤ im.length) (h1 : rw_.length ≤ 100000) (h2 : nm.length = st.length) :
    match endM im nm st rw_ k with
    | .ok _ => hd (specs Γ n) i_Loader_read_end [.ref S0.length] (LS S0 im k nm pl st rw_) = .ok .non (LS S0 im im.length nm pl st rw_)
    | .error e => ∃ X, hd (specs Γ n) i_Loader_read_end [.ref S0.length] (LS S0 im k nm pl st rw_) = .exc "BadNumber" (badAt e) (S0 ++ X) := by
  rw [run_Loader_read_end (by omega)]
  unfold endM
  have es : hd (specs Γ (n - 1)) i_sum_over [.tup (Pv.cutD (im.map .int) none (some (k : Int)))] (LS S0 im k nm pl st rw_) = .ok (.int (sumM (im.take k))) (LS S0 im k nm pl st rw_) := by
    rw [cut_to, ← List.map_take]
    exact sum_over_tup (by omega)
  cases c : numM im 2 65535 k with
  | error e =>
    obtain ⟨X, q⟩ := num2_no (S0 := S0) (nm := nm) (pl := pl) (st := st) (rw_ := rw_) (show 3 ≤ n - 1 by omega) hk c
    refine ⟨X, ?_⟩
    simp [runFn, f_Loader_read_end, b_Loader_read_end, es, gMul_int (i := 256) (j := 256) (.inr (by decide)), q]
  | ok p =>
    obtain ⟨v, k1⟩ := p
    obtain ⟨l1, l2, -, -⟩ := numM_le c
    have q := num2_ok (S0 := S0) (nm := nm) (pl := pl) (st := st) (rw_ := rw_) (show 3 ≤ n - 1 by omega) hk c
    dsimp only
    by_cases hv : v = sumM (im.take k)
    · rw [if_pos hv]
      by_cases hl : k1 < im.length
      · rw [if_pos hl]
        refine par_err (im := im) (k := k1) (nm := nm) (pl := pl) (st := st) (rw_ := rw_) ?_
        simp [runFn, f_Loader_read_end, b_Loader_read_end, es, gMul_int (i := 256) (j := 256) (.inr (by decide)), q, hv, hl, refuse_eq (show 1 ≤ n - 1 by omega)]
      · rw [if_neg hl]
        have e1 : k1 = im.length := by omega
        subst e1
        have lp := lost_loop (n := n) (S0 := S0) (im := im) (k := im.length) (nm := nm) (pl := pl) (st := st) (rw_ := rw_) (a := some (.int (sumM (im.take k)))) (c := none) (used := usedM rw_) (by omega) nm.length 0 none (some (.int k)) h2 (Nat.zero_le _) (by omega)
        rw [List.drop_zero] at lp
        have f1 : gZip [.ref (S0.length + 1), .ref (S0.length + 3)] (LS S0 im im.length nm pl st rw_) = .ok (.zip (.dy (S0.length + 1)) (.dy (S0.length + 3))) (LS S0 im im.length nm pl st rw_) := by
          simp [gZip, src1, LS_1, LS_3]
        have f2 : fuelOf (LS S0 im im.length nm pl st rw_) (.zip (.dy (S0.length + 1)) (.dy (S0.length + 3))) = nm.length := by
          simp [fuelOf, len1, LS_1]
        cases el : lostM (usedM rw_) (nm.zip st) with
        | error x =>
          rw [el] at lp
          obtain ⟨ρ', X, lp⟩ := lp
          refine ⟨X, ?_⟩
          simp [runFn, f_Loader_read_end, b_Loader_read_end, es, gMul_int (i := 256) (j := 256) (.inr (by decide)), q, hv, used_eq h1, sv_for, f1, f2, lp]
        | ok x =>
          rw [el] at lp
          obtain ⟨d', e', lp⟩ := lp
          simp [runFn, f_Loader_read_end, b_Loader_read_end, es, gMul_int (i := 256) (j := 256) (.inr (by decide)), q, hv, used_eq h1, sv_for, f1, f2, lp]
    · rw [if_neg hv]
      have hv' : (v == sumM (im.take k)) = false := by simpa using hv
      refine par_err (im := im) (k := k1) (nm := nm) (pl := pl) (st := st) (rw_ := rw_) ?_
      simp [runFn, f_Loader_read_end, b_Loader_read_end, es, gMul_int (i := 256) (j := 256) (.inr (by decide)), q, hv, hv', refuse_eq (show 1 ≤ n - 1 by omega)]
end
end K71

set_option maxHeartbeats 4000000
/-! L9: images read. -/
namespace K71
open PySem PySem.Spec PyProof.Rows L2 Pv
structure Got where
  nm : List Str
  st : List Int
  rs : List Rw
  pl : List Int
def parseM (im : List Int) : Except Int Got := match headM im with
  | .error e => .error e
  | .ok (a, b) => match namesM im a.toNat [] [] 7 with
    | .error e => .error e
    | .ok (nm, st, k) => match rowsM im nm b b.toNat [] [] k with
      | .error e => .error e
      | .ok (rs, pl, k') => match endM im nm st rs k' with
        | .error e => .error e
        | .ok _ => .ok ⟨nm, st, rs, pl⟩
section
variable {n : Nat} {S0 S : Hs} {im : List Int} {k : Nat} {nm : List Str} {pl st : List Int} {rw_ : List Rw} {rows : Int}
theorem headM_ok {a b : Int} (hb : bytesOk im) (h : headM im = .ok (a, b)) : 0 ≤ a ∧ a ≤ 65535 ∧ 0 < b ∧ b ≤ 10000 := by
  unfold headM at h
  cases e1 : dueM im [75, 72, 1] 0 with
  | error e => rw [e1] at h; cases h
  | ok u =>
    rw [e1] at h
    cases e2 : numM im 2 65535 3 with
    | error e => rw [e2] at h; cases h
    | ok p =>
      obtain ⟨v, k⟩ := p
      rw [e2] at h
      cases e3 : numM im 2 10000 5 with
      | error e => rw [e3] at h; cases h
      | ok p =>
        obtain ⟨v', k'⟩ := p
        rw [e3] at h
        dsimp only at h
        split at h
        · cases h
        · injection h with h
          injection h with h1 h2
          obtain ⟨_, _, l1, l2⟩ := numM_le e2
          obtain ⟨_, _, m1, m2⟩ := numM_le e3
          have := valM_ok hb 3 2
          have := valM_ok hb 5 2
          omega
theorem read_eq (hn : 7 ≤ n) (hb : bytesOk im) :
    match parseM im with
    | .ok g => hd (specs Γ n) i_Loader_read [.ref S0.length] (LS S0 im 0 [] [] [] []) = .ok .non (LS S0 im im.length g.nm g.pl g.st g.rs)
    | .error e => ∃ X, hd (specs Γ n) i_Loader_read [.ref S0.length] (LS S0 im 0 [] [] [] []) = .exc "BadNumber" (badAt e) (S0 ++ X) := by
  rw [run_Loader_read (by omega)]
  unfold parseM
  have q := read_head_eq (n := n - 1) (S0 := S0) (im := im) (nm := []) (pl := []) (st := []) (rw_ := []) (by omega)
  cases e1 : headM im with
  | error e =>
    rw [e1] at q
    obtain ⟨X, q⟩ := q
    refine ⟨X, ?_⟩
    simp [runFn, f_Loader_read, b_Loader_read, q]
  | ok p =>
    obtain ⟨a, b⟩ := p
    rw [e1] at q
    obtain ⟨q, h7⟩ := q
    obtain ⟨a1, a2, b1, b2⟩ := headM_ok hb e1
    have q2 := names_loop (n := n) (S0 := S0) (im := im) (pl := []) (rw_ := []) (by omega) (a := some (.int a)) (b := some (.int b)) a.toNat 0 7 [] [] none h7 (by simp) (by simp; omega) (by simp; omega)
    rw [Nat.zero_add] at q2
    dsimp only
    cases e2 : namesM im a.toNat [] [] 7 with
    | error e =>
      rw [e2] at q2
      obtain ⟨ρ', X, q2⟩ := q2
      refine ⟨X, ?_⟩
      simp [runFn, f_Loader_read, b_Loader_read, q, sOf, sv_for, rng1 (j := a) (by omega), q2]
    | ok p =>
      obtain ⟨nm, st, k⟩ := p
      rw [e2] at q2
      obtain ⟨c1, c2, c3, c4, t', q2⟩ := q2
      have q3 := rows_loop (n := n) (S0 := S0) (im := im) (nm := nm) (st := st) (rows := b) (by omega) hb (a := some (.int a)) b.toNat 0 k [] [] t' c1 (by simp; omega) (by simp; omega)
      rw [Nat.zero_add] at q3
      dsimp only
      cases e3 : rowsM im nm b b.toNat [] [] k with
      | error e =>
        rw [e3] at q3
        obtain ⟨ρ', X, q3⟩ := q3
        refine ⟨X, ?_⟩
        simp [runFn, f_Loader_read, b_Loader_read, q, sOf, sv_for, rng1 (j := a) (by omega), rng1 (j := b) (by omega), q2, q3]
      | ok p =>
        obtain ⟨rs, pl, k'⟩ := p
        rw [e3] at q3
        obtain ⟨d1, d2, d3, t2, q3⟩ := q3
        simp at d2 c3 c4
        have q4 := read_end_eq (n := n - 1) (S0 := S0) (im := im) (k := k') (nm := nm) (pl := pl) (st := st) (rw_ := rs) (by omega) d1 (by omega) (by omega)
        dsimp only
        cases e4 : endM im nm st rs k' with
        | error e =>
          rw [e4] at q4
          obtain ⟨X, q4⟩ := q4
          refine ⟨X, ?_⟩
          simp [runFn, f_Loader_read, b_Loader_read, q, sOf, sv_for, rng1 (j := a) (by omega), rng1 (j := b) (by omega), q2, q3, q4]
        | ok u =>
          rw [e4] at q4
          simp [runFn, f_Loader_read, b_Loader_read, q, sOf, sv_for, rng1 (j := a) (by omega), rng1 (j := b) (by omega), q2, q3, q4]
theorem isi_int {i : Int} : bltG .isi [.int i, .ty "int"] S = .ok (.bl true) S := by kernel_rfl
theorem isi_int_bool {i : Int} : bltG .isi [.int i, .ty "bool"] S = .ok (.bl false) S := by kernel_rfl
theorem is_whole_int {i a b : Int} (hn : 1 ≤ n) : hd (specs Γ n) i_is_whole [.int i, .int a, .int b] S = .ok (.bl (decide (a ≤ i ∧ i ≤ b))) S := by
  rw [run_is_whole hn]
  by_cases h1 : i < a
  · have h2 : ¬ (a ≤ i ∧ i ≤ b) := by omega
    simp [runFn, f_is_whole, b_is_whole, isi_int, isi_int_bool, h1, h2]
  · by_cases h2 : i ≤ b
    · have h3 : a ≤ i ∧ i ≤ b := by omega
      simp [runFn, f_is_whole, b_is_whole, isi_int, isi_int_bool, h1, h2, h3, isNo]
    · have h3 : ¬ (a ≤ i ∧ i ≤ b) := by omega
      simp [runFn, f_is_whole, b_is_whole, isi_int, isi_int_bool, h1, h2, h3, isNo]
/-- a row of integers, as a tuple or a list -/
def rowD (lst : Bool) (im : List Int) : D := if lst = true then .lv (im.map .int) else .tup (im.map .int)
theorem rowD_t : rowD false im = .tup (im.map .int) := rfl
theorem rowD_l : rowD true im = .lv (im.map .int) := rfl
theorem isi_row {b : Bool} : bltG .isi [rowD b im, .tup [.ty "tuple", .ty "list"]] S = .ok (.bl true) S := by
  cases b <;> kernel_rfl
theorem is_listed_row {b : Bool} (hn : 1 ≤ n) : hd (specs Γ n) i_is_listed [rowD b im] S = .ok (.bl true) S := by
  rw [run_is_listed hn]
  simp [runFn, f_is_listed, b_is_listed, isi_row, szl]
theorem are_bytes_row {b : Bool} (hn : 2 ≤ n) (hz : im.length ≤ sizeLine) : hd (specs Γ n) i_are_bytes [rowD b im] S = .ok (.bl (im.all fun x => decide (0 ≤ x ∧ x ≤ 255))) S := by
  rw [run_are_bytes (by omega)]
  simp [runFn, f_are_bytes, b_are_bytes, is_listed_row (show 1 ≤ n - 1 by omega)]
  rw [lcM (xs := im) (h_ := D.int) (d := rowD b im) (fun x => .bl (decide (0 ≤ x ∧ x ≤ 255))) (by simp) (by cases b <;> rfl) hz (fun y hy => by
    simp [wipeE, b_are_bytes_0, is_whole_int (show 1 ≤ n - 1 by omega)])]
  simp
theorem bytes_all (hb : bytesOk im) : (im.all fun x => decide (0 ≤ x ∧ x ≤ 255)) = true := List.all_eq_true.mpr fun x hx => by
  have := hb x hx
  exact decide_eq_true (by omega)
theorem are_bytes_ok {b : Bool} (hn : 2 ≤ n) (hz : im.length ≤ sizeLine) (hb : bytesOk im) : hd (specs Γ n) i_are_bytes [rowD b im] S = .ok (.bl true) S := by
  rw [are_bytes_row hn hz, bytes_all hb]
theorem sum_of_row {b : Bool} (hn : 3 ≤ n) (hz : im.length ≤ sizeLine) (hb : bytesOk im) : hd (specs Γ n) i_sum_of [rowD b im] S = .ok (.int (sumM im)) S := by
  rw [run_sum_of (by omega)]
  have e : hd (specs Γ (n - 1)) i_sum_over [rowD b im] S = .ok (.int (sumM im)) S := by
    cases b
    · exact sum_over_tup (by omega)
    · exact sum_over_eq (src := .one (.fx (im.map .int))) (by omega) rfl (fun j => src_fx) (by simp)
  simp [runFn, f_sum_of, b_sum_of, are_bytes_ok (show 2 ≤ n - 1 by omega) hz hb, e]
theorem p1 {x : D} : putD ("image" : Str) x [] = ([("image", x)] : List (Str × D)) := by kernel_rfl
theorem p2 {x y : D} : putD ("at" : Str) y ([("image", x)] : List (Str × D)) = ([("image", x), ("at", y)] : List (Str × D)) := by kernel_rfl
theorem p3 {x y z : D} : putD ("names" : Str) z ([("image", x), ("at", y)] : List (Str × D)) = ([("image", x), ("at", y), ("names", z)] : List (Str × D)) := by kernel_rfl
theorem p4 {x y z u : D} : putD ("places" : Str) u ([("image", x), ("at", y), ("names", z)] : List (Str × D)) = ([("image", x), ("at", y), ("names", z), ("places", u)] : List (Str × D)) := by kernel_rfl
theorem p5 {x y z u v : D} : putD ("starts" : Str) v ([("image", x), ("at", y), ("names", z), ("places", u)] : List (Str × D)) = ([("image", x), ("at", y), ("names", z), ("places", u), ("starts", v)] : List (Str × D)) := by kernel_rfl
theorem p6 {x y z u v w : D} : putD ("rows" : Str) w ([("image", x), ("at", y), ("names", z), ("places", u), ("starts", v)] : List (Str × D)) = ([("image", x), ("at", y), ("names", z), ("places", u), ("starts", v), ("rows", w)] : List (Str × D)) := by kernel_rfl
theorem init_eq {b : Bool} (hn : 1 ≤ n) : hd (specs Γ n) i_Loader_init [.ref S0.length, rowD b im] (S0 ++ [.ins "Loader" []]) = .ok .non (LS S0 im 0 [] [] [] []) := by
  rw [run_Loader_init hn]
  have e : ∀ S, bltG (.tupl false) [rowD b im] S = .ok (.tup (im.map .int)) S := by
    intro S
    cases b <;> rfl
  simp [runFn, f_Loader_init, b_Loader_init, e, iOf, p1, p2, p3, p4, p5, p6, szl, LS, LF]
theorem loader_of_eq {b : Bool} (hn : 8 ≤ n) (hz : im.length ≤ sizeLine) (hb : bytesOk im) :
    match parseM im with
    | .ok g => hd (specs Γ n) i_loader_of [rowD b im] S0 = .ok (.ref S0.length) (LS S0 im im.length g.nm g.pl g.st g.rs)
    | .error e => ∃ X, hd (specs Γ n) i_loader_of [rowD b im] S0 = .exc "BadNumber" (badAt e) (S0 ++ X) := by
  rw [run_loader_of (by omega)]
  have q := read_eq (n := n - 1) (S0 := S0) (im := im) (by omega) hb
  cases e : parseM im with
  | error x =>
    rw [e] at q
    obtain ⟨X, q⟩ := q
    refine ⟨X, ?_⟩
    simp [runFn, f_loader_of, b_loader_of, are_bytes_ok (show 2 ≤ n - 1 by omega) hz hb, init_eq (show 1 ≤ n - 1 by omega), q]
  | ok g =>
    rw [e] at q
    simp [runFn, f_loader_of, b_loader_of, are_bytes_ok (show 2 ≤ n - 1 by omega) hz hb, init_eq (show 1 ≤ n - 1 by omega), q]
theorem image_read_eq {b : Bool} (hn : 9 ≤ n) (hz : im.length ≤ sizeLine) (hb : bytesOk im) :
    match parseM im with
    | .ok g => ∃ X, hd (specs Γ n) i_image_read [rowD b im] S0 = .ok (.tup (g.rs.map Rw.d)) (S0 ++ X)
    | .error e => ∃ X, hd (specs Γ n) i_image_read [rowD b im] S0 = .exc "BadNumber" (badAt e) (S0 ++ X) := by
  rw [run_image_read (by omega)]
  have q := loader_of_eq (n := n - 1) (S0 := S0) (im := im) (b := b) (by omega) hz hb
  cases e : parseM im with
  | error x =>
    rw [e] at q
    obtain ⟨X, q⟩ := q
    refine ⟨X, ?_⟩
    simp [runFn, f_image_read, b_image_read, q]
  | ok g =>
    rw [e] at q
    refine ⟨_, show _ = R.ok _ (LS S0 im im.length g.nm g.pl g.st g.rs) from ?_⟩
    have et := tupl_ref (LS_4 (S0 := S0) (im := im) (k := im.length) (nm := g.nm) (pl := g.pl) (st := g.st) (rw_ := g.rs))
    simp [runFn, f_image_read, b_image_read, q, et]
theorem isi_tup : bltG .isi [rowD false im, .ty "tuple"] S = .ok (.bl true) S := by kernel_rfl
theorem isi_lst : bltG .isi [rowD true im, .ty "tuple"] S = .ok (.bl false) S := by kernel_rfl
theorem is_image_lst (hn : 1 ≤ n) : hd (specs Γ n) i_is_image [rowD true im] S = .ok (.bl false) S := by
  rw [run_is_image hn]
  simp [runFn, f_is_image, b_is_image, isi_lst]
theorem catch_bad {fs : List (Str × D)} {ρ : Ev} : catchS [⟨"BadNumber", none, (.one (.c (.bl false)))⟩] [("BadName", [false]), ("BadNumber", [true]), ("BadRow", [false]), ("NoName", [false]), ("TakenName", [false]), ("Unlike", [false]), ("NotThere", [false]), ("TooMany", [false])] (.exc "BadNumber" fs ρ S) = .rt (.bl false) S := by kernel_rfl
theorem is_image_eq (hn : 9 ≤ n) (hz : im.length ≤ sizeLine) (hb : bytesOk im) : ∃ X, hd (specs Γ n) i_is_image [rowD false im] S0 = .ok (.bl (match parseM im with
    | .ok _ => true
    | .error _ => false)) (S0 ++ X) := by
  rw [run_is_image (by omega)]
  have q := loader_of_eq (n := n - 1) (S0 := S0) (im := im) (b := false) (by omega) hz hb
  cases e : parseM im with
  | error x =>
    rw [e] at q
    obtain ⟨X, q⟩ := q
    refine ⟨X, ?_⟩
    simp [runFn, f_is_image, b_is_image, isi_tup, are_bytes_ok (show 2 ≤ n - 1 by omega) hz hb, q, catch_bad]
  | ok g =>
    rw [e] at q
    refine ⟨_, show _ = R.ok _ (LS S0 im im.length g.nm g.pl g.st g.rs) from ?_⟩
    simp [runFn, f_is_image, b_is_image, isi_tup, are_bytes_ok (show 2 ≤ n - 1 by omega) hz hb, q]
end
end K71

set_option maxHeartbeats 4000000
/-! L10: the law's own reading: signs, numbers, names. -/
namespace K71
open PySem PySem.Spec PyProof.Rows L2 Pv
section
variable {n : Nat} {S0 S : Hs} {im : List Int} {k : Nat}
theorem law_sign_ok {v : Int} (hn : 1 ≤ n) (h : okS v = true) : hd (specs Γ n) i__law_sign [.int v] S = .ok (.str ⟨#[v.toNat]⟩) S := by
  rw [run__law_sign hn]
  rw [okS_mem] at h
  have h := of_decide_eq_true h
  unfold numsL at h
  simp only [List.mem_cons, List.not_mem_nil, or_false] at h
  rcases h with rfl | rfl | rfl | rfl | rfl | rfl | rfl | rfl | rfl | rfl | rfl | rfl | rfl | rfl | rfl | rfl | rfl | rfl | rfl | rfl | rfl | rfl | rfl | rfl | rfl | rfl | rfl | rfl | rfl | rfl | rfl | rfl | rfl | rfl | rfl | rfl | rfl
  all_goals kernel_rfl
theorem law_sign_no {v : Int} (hn : 1 ≤ n) (h : okS v = false) : hd (specs Γ n) i__law_sign [.int v] S = .ok (.str "") S := by
  rw [run__law_sign hn]
  have h := of_decide_eq_false h
  have e1 : ¬ (97 ≤ v ∧ v ≤ 122) := by omega
  have e2 : ¬ (48 ≤ v ∧ v ≤ 57) := by omega
  have e3 : (v == 46) = false := by rw [beq_eq_false_iff_ne]; omega
  by_cases g1 : 97 ≤ v
  · have g2 : ¬ v ≤ 122 := by omega
    have g3 : 48 ≤ v := by omega
    have g4 : ¬ v ≤ 57 := by omega
    simp [runFn, f__law_sign, b__law_sign, g1, g2, g3, g4, e3]
  · by_cases g3 : 48 ≤ v
    · have g4 : ¬ v ≤ 57 := by omega
      simp [runFn, f__law_sign, b__law_sign, g1, g3, g4, e3]
    · simp [runFn, f__law_sign, b__law_sign, g1, g3, e3]
def numD : Except Int (Int × Nat) → D
  | .ok (v, k) => .tup [.int v, .int k]
  | .error e => .tup [.non, .int e]
theorem im_at (h : k < im.length) : gIdx (.tup (im.map .int)) (.int (k : Int)) S = .ok (.int (bAt im k)) S := by
  refine tup_at ?_
  simp [bAt, h]
theorem im_at1 (h : k + 1 < im.length) : gIdx (.tup (im.map .int)) (.int ((k : Int) + 1)) S = .ok (.int (bAt im (k + 1))) S := im_at (S := S) h
theorem im_at2 (h : k + 2 < im.length) : gIdx (.tup (im.map .int)) (.int ((k : Int) + 2)) S = .ok (.int (bAt im (k + 2))) S := im_at (S := S) h
theorem law_number2 {most : Int} (hn : 1 ≤ n) : hd (specs Γ n) i__law_number [.tup (im.map .int), .int (k : Int), .int 2, .int most] S = .ok (numD (numM im 2 most k)) S := by
  rw [run__law_number hn]
  unfold numM
  by_cases h : im.length < k + 2
  · rw [if_pos h]
    have i1 : (im.length : Int) < (k : Int) + 2 := by omega
    simp [runFn, f__law_number, b__law_number, i1, szl, numD]
  · rw [if_neg h, val2]
    have i1 : ¬ (im.length : Int) < (k : Int) + 2 := by omega
    have a0 := im_at (S := S) (show k < im.length by omega)
    have a1 := im_at1 (S := S) (show k + 1 < im.length by omega)
    by_cases hv : bAt im k * 256 + bAt im (k + 1) ≤ most
    · rw [if_pos hv]
      simp [runFn, f__law_number, b__law_number, i1, szl, sv_for, rng1 (j := 2) (by decide), forGo, srcAt, putIt, b__law_number_0, numD, a0, a1, hv]
    · rw [if_neg hv]
      simp [runFn, f__law_number, b__law_number, i1, szl, sv_for, rng1 (j := 2) (by decide), forGo, srcAt, putIt, b__law_number_0, numD, a0, a1, hv]
theorem law_number3 {most : Int} (hn : 1 ≤ n) : hd (specs Γ n) i__law_number [.tup (im.map .int), .int (k : Int), .int 3, .int most] S = .ok (numD (numM im 3 most k)) S := by
  rw [run__law_number hn]
  unfold numM
  by_cases h : im.length < k + 3
  · rw [if_pos h]
    have i1 : (im.length : Int) < (k : Int) + 3 := by omega
    simp [runFn, f__law_number, b__law_number, i1, szl, numD]
  · rw [if_neg h, val3]
    have i1 : ¬ (im.length : Int) < (k : Int) + 3 := by omega
    have a0 := im_at (S := S) (show k < im.length by omega)
    have a1 := im_at1 (S := S) (show k + 1 < im.length by omega)
    have a2 := im_at2 (S := S) (show k + 2 < im.length by omega)
    by_cases hv : (bAt im k * 256 + bAt im (k + 1)) * 256 + bAt im (k + 2) ≤ most
    · rw [if_pos hv]
      simp [runFn, f__law_number, b__law_number, i1, szl, sv_for, rng1 (j := 3) (by decide), forGo, srcAt, putIt, b__law_number_0, numD, a0, a1, a2, hv]
    · rw [if_neg hv]
      simp [runFn, f__law_number, b__law_number, i1, szl, sv_for, rng1 (j := 3) (by decide), forGo, srcAt, putIt, b__law_number_0, numD, a0, a1, a2, hv]
theorem law_sum_eq {b : Bool} (hn : 1 ≤ n) : hd (specs Γ n) i__law_sum [rowD b im] S = .ok (.int (sumM im)) S := by
  rw [run__law_sum hn]
  have hs : gSrc (rowD b im) S = .ok (.one (.fx (im.map .int))) S := by cases b <;> rfl
  simp [runFn, f__law_sum, b__law_sum, sv_for, hs]
  obtain ⟨ρ', S', e, t, rfl, rfl⟩ := forGo_nx (src := .one (.fx (im.map .int))) (tg := .v 2) (body := svs Γ (specs Γ (n - 1)) b__law_sum_0) (ρ := [some (rowD b im), some (.int 0), none]) (S := S) (items := (im.map D.int).map Itm.d)
    (fun j ρ S' => ∃ u, ρ = [some (rowD b im), some (.int (sumM (im.take j))), u] ∧ S' = S) (by rintro j ρ S' ⟨u, rfl, rfl⟩; exact src_fx)
    (by
      rintro j it ρ S' e ⟨u, rfl, rfl⟩
      rw [List.getElem?_map, List.getElem?_map] at e
      cases ex : im[j]? with
      | none => rw [ex] at e; cases e
      | some x =>
        rw [ex] at e
        cases e
        have hj : j < im.length := (List.getElem?_eq_some_iff.mp ex).1
        refine ⟨_, _, _, rfl, ?_, some (.int x), rfl, rfl⟩
        simp [b__law_sum_0, gMul_int (j := 31) (.inr (by decide)), gMod_int (j := 65521) (by decide)]
        rw [List.take_succ_eq_append_getElem hj, (List.getElem?_eq_some_iff.mp ex).2, sumM, sumM, List.foldl_append]
        rfl)
    (f := im.length) ⟨none, rfl, rfl⟩ (by simp)
  rw [e]
  simp
theorem law_pair_eq {v : Int} (hn : 1 ≤ n) : hd (specs Γ n) i__law_pair [.int v] S = .ok (.lv [.int (v.fdiv 256), .int (v.fmod 256)]) S := by
  rw [run__law_pair hn]
  simp [runFn, f__law_pair, b__law_pair, szl]
/-- the law's signs of a name -/
theorem law_signs_loop (hn : 2 ≤ n) {b c d e : Option D} {sz : D} : ∀ (f j pos : Nat) (acc : List Nat) (lo : Int) (t : Option D), lo + (j : Int) = (pos : Int) → acc.length + f ≤ 100 →
    match signsM im f pos acc with
    | .ok r => ∃ t', forGo (.rng lo (j + f)) (.v 5) (svs Γ (specs Γ (n - 1)) b__law_read_names_0) f j [some (.tup (im.map .int)), b, c, d, e, t, some sz, some (.str ⟨acc.toArray⟩)] S = .nx [some (.tup (im.map .int)), b, c, d, e, t', some sz, some (.str ⟨r.toArray⟩)] S
    | .error x => forGo (.rng lo (j + f)) (.v 5) (svs Γ (specs Γ (n - 1)) b__law_read_names_0) f j [some (.tup (im.map .int)), b, c, d, e, t, some sz, some (.str ⟨acc.toArray⟩)] S = .rt (.tup [.non, .int x]) S
  | 0, j, pos, acc, lo, t, _, _ => by
    simp only [signsM, forGo, srcAt, Nat.add_zero, Nat.lt_irrefl, if_false]
    exact ⟨t, rfl⟩
  | f + 1, j, pos, acc, lo, t, hp, ha => by
    simp only [signsM]
    have hj : j < j + (f + 1) := by omega
    simp only [forGo, srcAt, hj, if_true, putIt, hp]
    by_cases h : pos < im.length
    · rw [if_pos h]
      have a0 := im_at (S := S) h
      have i1 : ¬ (im.length : Int) ≤ (pos : Int) := by omega
      by_cases hv : okS (bAt im pos) = true
      · rw [if_pos hv]
        have es := law_sign_ok (n := n - 1) (S := S) (by omega) hv
        have ne : ((⟨#[(bAt im pos).toNat]⟩ : Str) == "") = false := by
          rw [str_nil, beq_eq_false_iff_ne]
          intro z
          injection z with z
          injection z with z
          cases z
        have hl : (⟨acc.toArray⟩ : Str).length + (⟨#[(bAt im pos).toNat]⟩ : Str).length ≤ sizeLine := by
          rw [szl]
          simp [Str.length]
          omega
        have ea : (⟨acc.toArray⟩ : Str) ++ (⟨#[(bAt im pos).toNat]⟩ : Str) = ⟨(acc ++ [(bAt im pos).toNat]).toArray⟩ := by
          show (⟨acc.toArray ++ #[(bAt im pos).toNat]⟩ : Str) = _
          simp
        have eb : svs Γ (specs Γ (n - 1)) b__law_read_names_0 ([some (.tup (im.map .int)), b, c, d, e, t, some sz, some (.str ⟨acc.toArray⟩)].set 5 (some (.int (pos : Int)))) S = .nx [some (.tup (im.map .int)), b, c, d, e, some (.int (pos : Int)), some sz, some (.str ⟨(acc ++ [(bAt im pos).toNat]).toArray⟩)] S := by
          rw [← ea]
          simp [b__law_read_names_0, i1, a0, es, ne, add_strs hl]
        rw [eb]
        have ih := law_signs_loop hn (b := b) (c := c) (d := d) (e := e) (sz := sz) f (j + 1) (pos + 1) (acc ++ [(bAt im pos).toNat]) lo (some (.int (pos : Int))) (by omega) (by simp; omega)
        rw [show j + 1 + f = j + (f + 1) by omega] at ih
        exact ih
      · rw [if_neg hv]
        have hv' : okS (bAt im pos) = false := by simpa using hv
        have es := law_sign_no (n := n - 1) (S := S) (by omega) hv'
        have i2 : ¬ (im.length : Int) < (pos : Int) := by omega
        have eb : svs Γ (specs Γ (n - 1)) b__law_read_names_0 ([some (.tup (im.map .int)), b, c, d, e, t, some sz, some (.str ⟨acc.toArray⟩)].set 5 (some (.int (pos : Int)))) S = .rt (.tup [.non, .int (pos : Int)]) S := by
          simp [b__law_read_names_0, i1, a0, es, i2, szl]
        rw [eb]
    · rw [if_neg h]
      have i1 : (im.length : Int) ≤ (pos : Int) := by omega
      have eb : svs Γ (specs Γ (n - 1)) b__law_read_names_0 ([some (.tup (im.map .int)), b, c, d, e, t, some sz, some (.str ⟨acc.toArray⟩)].set 5 (some (.int (pos : Int)))) S = .rt (.tup [.non, .int (im.length : Int)]) S := by
        simp [b__law_read_names_0, i1, szl]
        omega
      rw [eb]
end
end K71

set_option maxHeartbeats 4000000
/-! L11: the law's own reading: all names. -/
namespace K71
open PySem PySem.Spec PyProof.Rows L2 Pv
def prD (p : Str × Int) : D := .tup [.str p.1, .int p.2]
def prP (p : Str × Int) : PyData := .tuple [.str p.1, .int p.2]
theorem pyDs_prs {ps : List (Str × Int)} : pyDs (ps.map prD) = some (ps.map prP) := by
  induction ps with
  | nil => rfl
  | cons z zs ih => simp only [List.map_cons, pyDs, prD, pyD, prP, ih]
theorem lay_prs : ∀ {ps : List (Str × Int)}, (∀ p ∈ ps, PyData.strOk p.1 = true) → PyData.canLayAll0 (ps.map prP) = true
  | [], _ => rfl
  | z :: zs, h => by
    simp only [List.map_cons, PyData.canLayAll0, PyData.canLay0, prP]
    rw [h z List.mem_cons_self, lay_prs fun y hy => h y (List.mem_cons_of_mem _ hy)]
    rfl
theorem depth_prs : ∀ {ps : List (Str × Int)}, PyData.depthAll (ps.map prP) ≤ 1
  | [] => by simp [PyData.depthAll]
  | z :: zs => by
    simp only [List.map_cons, PyData.depthAll, PyData.depth, prP]
    have := depth_prs (ps := zs)
    omega
section
variable {n : Nat} {S0 S : Hs} {im : List Int} {k : Nat}
theorem neqnil_prs {a : Nat} {ps : List (Str × Int)} (hn : S[a]? = some (.lst (ps.map prD))) (h : ∀ p ∈ ps, PyData.strOk p.1 = true) : copG .ne (.ref a) (.lv []) S = .ok (.bl (!ps.isEmpty)) S := by
  rw [show copG .ne = gEq true from rfl]
  have hs : SeqAt.shaped (.list (ps.map prP)) = true := by
    have := depth_prs (ps := ps)
    simp [SeqAt.shaped, PyData.canLay0, PyData.depth, lay_prs h]
    omega
  simp only [gEq, eqS, pyT, pyD, lOf, hn, pyDs_prs, pyDs, hs, shaped_nil, and_self, if_true, eqv_nil]
  simp
/-- a turn of the law's names -/
theorem law_name (hn : 3 ≤ n) {ps : List (Str × Int)} (hps : ∀ p ∈ ps, PyData.strOk p.1 = true) (hl : ps.length < 100000) {m : D} {t u v w : Option D} (hz : im.length ≤ 1000000) :
    match nameM im (ps.map (·.1)) k with
    | .ok (z, k') => ∃ t' u' v', svs Γ (specs Γ (n - 1)) b__law_read_names_1 [some (.tup (im.map .int)), some (.int (k : Int)), some m, some (.ref S0.length), t, u, v, w] (S0 ++ [.lst (ps.map prD)]) = .nx [some (.tup (im.map .int)), some (.int (k' : Int)), some m, some (.ref S0.length), t, t', u', v'] (S0 ++ [.lst ((ps ++ [(z, (k : Int))]).map prD)])
    | .error e => svs Γ (specs Γ (n - 1)) b__law_read_names_1 [some (.tup (im.map .int)), some (.int (k : Int)), some m, some (.ref S0.length), t, u, v, w] (S0 ++ [.lst (ps.map prD)]) = .rt (.tup [.non, .int e]) (S0 ++ [.lst (ps.map prD)]) := by
  unfold nameM
  by_cases h : k < im.length
  · rw [if_pos h]
    have i0 : ¬ (im.length : Int) ≤ (k : Int) := by omega
    have a0 := im_at (S := S0 ++ [.lst (ps.map prD)]) h
    by_cases hm : 1 ≤ bAt im k ∧ bAt im k ≤ 60
    · rw [if_pos hm]
      have i1 := hm.1
      have i2 := hm.2
      have em : ((bAt im k).toNat : Int) = bAt im k := by omega
      have e60 : (((k : Int) + 1 + bAt im k) - ((k : Int) + 1)).toNat = (bAt im k).toNat := by omega
      have r1 := rng2 (S := S0 ++ [.lst (ps.map prD)]) (i := (k : Int) + 1) (j := (k : Int) + 1 + bAt im k) (by omega)
      rw [e60] at r1
      have lp := law_signs_loop (n := n) (S := S0 ++ [.lst (ps.map prD)]) (im := im) (by omega) (b := some (.int (k : Int))) (c := some m) (d := some (.ref S0.length)) (e := t) (sz := .int (bAt im k)) (bAt im k).toNat 0 (k + 1) [] ((k : Int) + 1) u (by omega) (by simp; omega)
      rw [Nat.zero_add, ← str_nil] at lp
      cases e : signsM im (bAt im k).toNat (k + 1) [] with
      | error x =>
        rw [e] at lp
        simp [b__law_read_names_1, i0, a0, i1, i2, szl, sv_for, r1, lp]
      | ok r =>
        rw [e] at lp
        obtain ⟨t1, lp⟩ := lp
        dsimp only
        have hr : r.length ≤ 60 := by
          rcases signsM_len _ e with ⟨h1, _⟩ | ⟨h1, rfl⟩
          · simp at h1; omega
          · simp
        have hzs : (⟨r.toArray⟩ : Str).length ≤ sizeLine := by
          rw [szl]
          simp [Str.length]
          omega
        have hok : PyData.strOk ⟨r.toArray⟩ = true := by
          refine Array.all_eq_true'.mpr fun c hc => ?_
          have := signsM_ok _ e (fun _ z => nomatch z) c (by simpa using hc)
          simp
          omega
        have ip := law_is_path_eq (n := n - 1) (S := S0 ++ [.lst (ps.map prD)]) (by omega) hzs hok
        have e1 := neqnil_prs (S := S0 ++ [.lst (ps.map prD)]) (a := S0.length) (ps := ps) (by simp) hps
        have e2 := append_ref (S := S0 ++ [.lst (ps.map prD)]) (n := S0.length) (y := .tup [.str ⟨r.toArray⟩, .int (k : Int)]) (xs := ps.map prD) (by simp) (by rw [szl]; simp; omega)
        have t2 := ty_ref (S := S0 ++ [.lst (ps.map prD)]) (n := S0.length) (xs := ps.map prD) (by simp)
        have es : (S0 ++ [O.lst (ps.map prD)]).set S0.length (O.lst (ps.map prD ++ [D.tup [D.str ⟨r.toArray⟩, D.int (k : Int)]])) = S0 ++ [O.lst ((ps ++ [((⟨r.toArray⟩ : Str), (k : Int))]).map prD)] := by
          simp [prD]
        rw [es] at e2
        have ek : ((k : Int) + 1 + bAt im k) = ((k + 1 + (bAt im k).toNat : Nat) : Int) := by omega
        cases hp : pathB ⟨r.toArray⟩ with
        | false =>
          simp [b__law_read_names_1, i0, a0, i1, i2, szl, sv_for, r1, lp, ip, hp]
        | true =>
          cases el : ps.getLast? with
          | none =>
            have en : ps.isEmpty = true := by rw [List.getLast?_eq_none_iff.mp el]; rfl
            rw [if_pos ⟨rfl, fun l hl => by rw [List.getLast?_map, el] at hl; cases hl⟩]
            refine ⟨t1, some (.int (bAt im k)), some (.str ⟨r.toArray⟩), ?_⟩
            rw [← ek]
            simp [b__law_read_names_1, i0, a0, i1, i2, szl, sv_for, r1, lp, ip, hp, e1, en, e2, t2]
          | some l =>
            have en : ps.isEmpty = false := by
              cases ps with
              | nil => cases el
              | cons a b => rfl
            have ei : gIdx (.ref S0.length) (.int (-1)) (S0 ++ [.lst (ps.map prD)]) = .ok (.tup [.str l.1, .int l.2]) (S0 ++ [.lst (ps.map prD)]) := idx_ref (xs := ps.map prD) (by simp) (atI_last (by rw [List.getLast?_map, el]; rfl))
            have ej : gIdx (.tup [.str l.1, .int l.2]) (.int 0) (S0 ++ [.lst (ps.map prD)]) = .ok (.str l.1) (S0 ++ [.lst (ps.map prD)]) := tup_at0 rfl
            cases hlt : strLt l.1 ⟨r.toArray⟩ with
            | true =>
              rw [if_pos ⟨rfl, fun x hx => by rw [List.getLast?_map, el] at hx; cases hx; exact hlt⟩]
              refine ⟨t1, some (.int (bAt im k)), some (.str ⟨r.toArray⟩), ?_⟩
              rw [← ek]
              simp [b__law_read_names_1, i0, a0, i1, i2, szl, sv_for, r1, lp, ip, hp, e1, en, e2, t2, ei, ej, le_str, hlt]
            | false =>
              rw [if_neg fun q => by rw [q.2 l.1 (by rw [List.getLast?_map, el]; rfl)] at hlt; cases hlt]
              simp [b__law_read_names_1, i0, a0, i1, i2, szl, sv_for, r1, lp, ip, hp, e1, en, e2, t2, ei, ej, le_str, hlt]
    · rw [if_neg hm]
      by_cases i1 : 1 ≤ bAt im k
      · have i2 : ¬ bAt im k ≤ 60 := fun z => hm ⟨i1, z⟩
        simp [b__law_read_names_1, i0, a0, i1, i2, szl]
      · simp [b__law_read_names_1, i0, a0, i1, szl]
  · rw [if_neg h]
    have i0 : (im.length : Int) ≤ (k : Int) := by omega
    simp [b__law_read_names_1, i0, szl]
end
end K71

set_option maxHeartbeats 4000000
/-! L12: the law's own reading: all names, and the rows. -/
namespace K71
open PySem PySem.Spec PyProof.Rows L2 Pv
section
variable {n : Nat} {S0 S : Hs} {im : List Int} {k : Nat}
theorem law_names_loop (hn : 3 ≤ n) {m : D} (hz : im.length ≤ 100000) : ∀ (f j k : Nat) (ps : List (Str × Int)) (t u v w : Option D), (∀ p ∈ ps, PyData.strOk p.1 = true) → ps.length + f ≤ 70000 →
    match namesM im f (ps.map (·.1)) (ps.map (·.2)) k with
    | .ok (nm', st', k') => ∃ (ps' : List (Str × Int)) (t' u' v' w' : Option D), nm' = ps'.map (·.1) ∧ st' = ps'.map (·.2) ∧ (∀ p ∈ ps', PyData.strOk p.1 = true) ∧ ps'.length = ps.length + f ∧ forGo (.rng 0 (j + f)) (.v 4) (svs Γ (specs Γ (n - 1)) b__law_read_names_1) f j [some (.tup (im.map .int)), some (.int (k : Int)), some m, some (.ref S0.length), t, u, v, w] (S0 ++ [.lst (ps.map prD)]) = .nx [some (.tup (im.map .int)), some (.int (k' : Int)), some m, some (.ref S0.length), t', u', v', w'] (S0 ++ [.lst (ps'.map prD)])
    | .error e => ∃ X, forGo (.rng 0 (j + f)) (.v 4) (svs Γ (specs Γ (n - 1)) b__law_read_names_1) f j [some (.tup (im.map .int)), some (.int (k : Int)), some m, some (.ref S0.length), t, u, v, w] (S0 ++ [.lst (ps.map prD)]) = .rt (.tup [.non, .int e]) (S0 ++ X)
  | 0, j, k, ps, t, u, v, w, h1, _ => by
    simp only [namesM, forGo, srcAt, Nat.add_zero, Nat.lt_irrefl, if_false]
    exact ⟨ps, t, u, v, w, rfl, rfl, h1, rfl, rfl⟩
  | f + 1, j, k, ps, t, u, v, w, h1, h2 => by
    simp only [namesM]
    have hj : j < j + (f + 1) := by omega
    simp only [forGo, srcAt, hj, if_true, putIt, List.set_cons_succ, List.set_cons_zero]
    have q := law_name (n := n) (S0 := S0) (im := im) (k := k) hn h1 (by omega) (m := m) (t := some (.int (0 + (j : Int)))) (u := u) (v := v) (w := w) (by omega)
    cases e : nameM im (ps.map (·.1)) k with
    | error x =>
      rw [e] at q
      rw [q]
      exact ⟨_, rfl⟩
    | ok p =>
      obtain ⟨z, k'⟩ := p
      rw [e] at q
      obtain ⟨o1, o2, _⟩ := nameM_ok e
      obtain ⟨u1, v1, w1, q⟩ := q
      rw [q]
      have ih := law_names_loop hn (m := m) hz f (j + 1) k' (ps ++ [(z, (k : Int))]) (some (.int (0 + (j : Int)))) u1 v1 w1 (fun y hy => by
        rcases List.mem_append.mp hy with hy | hy
        · exact h1 y hy
        · rw [List.mem_singleton.mp hy]; exact o1) (by simp; omega)
      rw [show j + 1 + f = j + (f + 1) by omega, List.map_append, List.map_append] at ih
      dsimp only
      simp only [List.map_cons, List.map_nil] at ih
      cases em : namesM im f (ps.map (·.1) ++ [z]) (ps.map (·.2) ++ [(k : Int)]) k' with
      | error x => rw [em] at ih; exact ih
      | ok p =>
        obtain ⟨nm', st', k2⟩ := p
        rw [em] at ih
        obtain ⟨ps', t', u', v', w', i1, i2, i3, i4, i5⟩ := ih
        refine ⟨ps', t', u', v', w', i1, i2, i3, ?_, i5⟩
        rw [i4]
        simp
        omega
theorem law_read_names_eq (hn : 4 ≤ n) {a : Int} (ha : 0 ≤ a ∧ a ≤ 65535) (hz : im.length ≤ 100000) :
    match namesM im a.toNat [] [] k with
    | .ok (nm', st', k') => ∃ ps' : List (Str × Int), nm' = ps'.map (·.1) ∧ st' = ps'.map (·.2) ∧ (∀ p ∈ ps', PyData.strOk p.1 = true) ∧ ps'.length = a.toNat ∧ hd (specs Γ n) i__law_read_names [.tup (im.map .int), .int (k : Int), .int a] S0 = .ok (.tup [.ref S0.length, .int (k' : Int)]) (S0 ++ [.lst (ps'.map prD)])
    | .error e => ∃ X, hd (specs Γ n) i__law_read_names [.tup (im.map .int), .int (k : Int), .int a] S0 = .ok (.tup [.non, .int e]) (S0 ++ X) := by
  rw [run__law_read_names (by omega)]
  have lp := law_names_loop (n := n) (S0 := S0) (im := im) (by omega) (m := .int a) hz a.toNat 0 k [] none none none none (by simp) (by simp; omega)
  rw [Nat.zero_add] at lp
  simp only [List.map_nil, List.length_nil, Nat.zero_add] at lp
  have r1 : -(2 ^ 62) ≤ a ∧ a < 2 ^ 62 := by omega
  cases e : namesM im a.toNat [] [] k with
  | error x =>
    rw [e] at lp
    obtain ⟨X, lp⟩ := lp
    refine ⟨X, ?_⟩
    simp [runFn, f__law_read_names, b__law_read_names, sv_for, rng1 r1, szl, lp]
  | ok p =>
    obtain ⟨nm', st', k'⟩ := p
    rw [e] at lp
    obtain ⟨ps', t', u', v', w', i1, i2, i3, i4, i5⟩ := lp
    refine ⟨ps', i1, i2, i3, i4, ?_⟩
    simp [runFn, f__law_read_names, b__law_read_names, sv_for, rng1 r1, szl, i5]
end
end K71

set_option maxHeartbeats 4000000
/-! L13: the law's own reading: the rows. -/
namespace K71
open PySem PySem.Spec PyProof.Rows L2 Pv
section
variable {n : Nat} {S0 S : Hs} {im : List Int} {k : Nat} {ps : List (Str × Int)} {U : List Str} {rows : Int} {a2 a3 a5 a6 a9 a10 a11 a12 a13 a14 : Option D}
theorem dn {x y z : D} : gIdx (.dv [Sum.inr "n", Sum.inr "t", Sum.inr "a"] [x, y, z]) (.str "n") S = .ok x S := by kernel_rfl
theorem dt {x y z : D} : gIdx (.dv [Sum.inr "n", Sum.inr "t", Sum.inr "a"] [x, y, z]) (.str "t") S = .ok y S := by kernel_rfl
theorem da {x y z : D} : gIdx (.dv [Sum.inr "n", Sum.inr "t", Sum.inr "a"] [x, y, z]) (.str "a") S = .ok z S := by kernel_rfl
theorem snt : (("n" : Str) == "t") = false := by decide +kernel
theorem sat : (("a" : Str) == "t") = false := by decide +kernel
theorem san : (("a" : Str) == "n") = false := by decide +kernel
theorem stn : (("t" : Str) == "n") = false := by decide +kernel
/-- the slots of the law's reading -/
def wR (im : List Int) (U : List Str) (k : Nat) (rows : Int) (p : Nat) (a2 a3 a5 a6 a9 a10 a11 a12 a13 a14 : Option D) : Ev := [some (.tup (im.map .int)), some (.lv (U.map .str)), a2, a3, some (.int (k : Int)), a5, a6, some (.int rows), some (.ref p), a9, a10, a11, a12, a13, a14]
def wS (S0 : Hs) (ps : List (Str × Int)) : Hs := S0 ++ [.lst (ps.map prD)]
theorem wS_at : (wS S0 ps)[S0.length]? = some (.lst (ps.map prD)) := by simp [wS]
theorem wlen : bltG .len [.ref S0.length] (wS S0 ps) = .ok (.int ps.length) (wS S0 ps) := by
  rw [len_ref wS_at, List.length_map]
theorem w_n (hn : 2 ≤ n) (hb : bytesOk im) (hU : U.length < 100000) :
    match pathM im (ps.map (·.1)) k with
    | .ok (z, k') => ∃ b10, svs Γ (specs Γ n) b__law_wrong_at_2 (wR im U k rows S0.length a2 a3 a5 a6 (some (.str "n")) a10 a11 a12 a13 a14) (wS S0 ps) = .nx (wR im (U ++ [z]) k' rows S0.length a2 a3 a5 a6 (some (.str "n")) b10 a11 a12 a13 a14) (wS S0 ps)
    | .error e => svs Γ (specs Γ n) b__law_wrong_at_2 (wR im U k rows S0.length a2 a3 a5 a6 (some (.str "n")) a10 a11 a12 a13 a14) (wS S0 ps) = .rt (.int e) (wS S0 ps) := by
  have q := law_number2 (n := n) (S := wS S0 ps) (im := im) (k := k) (most := (ps.length : Int) - 1) (by omega)
  unfold pathM
  rw [List.length_map]
  cases e : numM im 2 ((ps.length : Int) - 1) k with
  | error x =>
    rw [e, numD] at q
    simp [wR, b__law_wrong_at_2, snt, wlen, dn, q, sOf, isNo]
  | ok p =>
    obtain ⟨v, k1⟩ := p
    rw [e, numD] at q
    obtain ⟨l1, l2, l3, l4⟩ := numM_le e
    have := valM_ok hb k 2
    have hv : v.toNat < ps.length := by omega
    have e1 : gIdx (.ref S0.length) (.int v) (wS S0 ps) = .ok (prD ps[v.toNat]) (wS S0 ps) := by
      refine idx_ref wS_at ?_
      unfold atI ixN
      rw [List.length_map, if_pos (by omega), if_pos (by omega)]
      simp [hv]
    have e2 : gIdx (prD ps[v.toNat]) (.int 0) (wS S0 ps) = .ok (.str ps[v.toNat].1) (wS S0 ps) := tup_at0 rfl
    have e3 : (ps.map (·.1)).getD v.toNat ("" : Str) = ps[v.toNat].1 := by simp [hv]
    dsimp only
    rw [e3]
    refine ⟨some (.int v), ?_⟩
    have hl : U.length + 1 ≤ 16777216 := by omega
    simp [wR, b__law_wrong_at_2, snt, wlen, dn, q, sOf, isNo, e1, e2, szl, hl]
theorem w_t (hn : 2 ≤ n) (hU : U.length < 100000) :
    match numM im 3 1000000 k with
    | .ok (v, k') => ∃ b10, svs Γ (specs Γ n) b__law_wrong_at_2 (wR im U k rows S0.length a2 a3 a5 a6 (some (.str "t")) a10 a11 a12 a13 a14) (wS S0 ps) = .nx (wR im U k' rows S0.length a2 a3 a5 a6 (some (.str "t")) b10 a11 a12 a13 a14) (wS S0 ps)
    | .error e => svs Γ (specs Γ n) b__law_wrong_at_2 (wR im U k rows S0.length a2 a3 a5 a6 (some (.str "t")) a10 a11 a12 a13 a14) (wS S0 ps) = .rt (.int e) (wS S0 ps) := by
  have q := law_number3 (n := n) (S := wS S0 ps) (im := im) (k := k) (most := 1000000) (by omega)
  cases e : numM im 3 1000000 k with
  | error x =>
    rw [e, numD] at q
    simp [wR, b__law_wrong_at_2, wlen, dt, q, sOf, isNo]
  | ok p =>
    obtain ⟨v, k1⟩ := p
    rw [e, numD] at q
    refine ⟨some (.int v), ?_⟩
    have hl : U.length ≤ 16777216 := by omega
    simp [wR, b__law_wrong_at_2, stn, wlen, dt, q, sOf, isNo, szl, hl]
theorem w_a (hn : 2 ≤ n) (hU : U.length < 100000) :
    match numM im 2 (rows - 1) k with
    | .ok (v, k') => ∃ b10, svs Γ (specs Γ n) b__law_wrong_at_2 (wR im U k rows S0.length a2 a3 a5 a6 (some (.str "a")) a10 a11 a12 a13 a14) (wS S0 ps) = .nx (wR im U k' rows S0.length a2 a3 a5 a6 (some (.str "a")) b10 a11 a12 a13 a14) (wS S0 ps)
    | .error e => svs Γ (specs Γ n) b__law_wrong_at_2 (wR im U k rows S0.length a2 a3 a5 a6 (some (.str "a")) a10 a11 a12 a13 a14) (wS S0 ps) = .rt (.int e) (wS S0 ps) := by
  have q := law_number2 (n := n) (S := wS S0 ps) (im := im) (k := k) (most := rows - 1) (by omega)
  cases e : numM im 2 (rows - 1) k with
  | error x =>
    rw [e, numD] at q
    simp [wR, b__law_wrong_at_2, sat, wlen, da, q, sOf, isNo]
  | ok p =>
    obtain ⟨v, k1⟩ := p
    rw [e, numD] at q
    refine ⟨some (.int v), ?_⟩
    have hl : U.length ≤ 16777216 := by omega
    simp [wR, b__law_wrong_at_2, sat, san, wlen, da, q, sOf, isNo, szl, hl]
end
end K71

set_option maxHeartbeats 4000000
/-! L14: the law's own reading: a row. -/
namespace K71
open PySem PySem.Spec PyProof.Rows L2 Pv
section
variable {n : Nat} {S0 S : Hs} {im : List Int} {k : Nat} {ps : List (Str × Int)} {U : List Str} {rows : Int} {a2 a3 a5 a6 a9 a10 a11 a12 a13 a14 : Option D}
abbrev fTab : D := .lv [.lv [.str "n", .str "t", .str "a"], .lv [.str "n", .str "a"], .lv [.str "n"], .lv [.str "a"], .lv [], .lv []]
theorem fl0 : gIdx fTab (.int 0) S = .ok (.lv [.str "n", .str "t", .str "a"]) S := by kernel_rfl
theorem fl1 : gIdx fTab (.int 1) S = .ok (.lv [.str "n", .str "a"]) S := by kernel_rfl
theorem fl2 : gIdx fTab (.int 2) S = .ok (.lv [.str "n"]) S := by kernel_rfl
theorem fl3 : gIdx fTab (.int 3) S = .ok (.lv [.str "a"]) S := by kernel_rfl
theorem fl4 : gIdx fTab (.int 4) S = .ok (.lv []) S := by kernel_rfl
theorem fl5 : gIdx fTab (.int 5) S = .ok (.lv []) S := by kernel_rfl
theorem law_row (hn : 2 ≤ n) (hb : bytesOk im) (hU : U.length < 90000) (hk : k ≤ im.length) {j : Nat} (last : Bool) (hl : ((j : Int) == rows - 1) = last) :
    match rowM im (ps.map (·.1)) rows last k with
    | .ok (x, k') => ∃ b9 b10 b12, svs Γ (specs Γ n) b__law_wrong_at_3 (wR im U k rows S0.length (some (.int (j : Int))) a3 a5 a6 a9 a10 a11 a12 a13 a14) (wS S0 ps) = .nx (wR im (U ++ x.used) k' rows S0.length (some (.int (j : Int))) a3 a5 a6 b9 b10 a11 b12 a13 a14) (wS S0 ps)
    | .error e => svs Γ (specs Γ n) b__law_wrong_at_3 (wR im U k rows S0.length (some (.int (j : Int))) a3 a5 a6 a9 a10 a11 a12 a13 a14) (wS S0 ps) = .rt (.int e) (wS S0 ps) := by
  unfold rowM wR
  by_cases h : k < im.length
  · rw [if_pos h]
    have i0 : ¬ im.length ≤ k := by omega
    have i9 : ¬ im.length < k := by omega
    have a0 := im_at (S := wS S0 ps) h
    have hbk := bAt_ok hb k
    by_cases h6 : 6 ≤ bAt im k
    · rw [if_pos h6]
      have h5 : 5 < bAt im k := by omega
      simp [b__law_wrong_at_3, i0, i9, a0, h5]
    · rw [if_neg h6]
      have h5 : ¬ 5 < bAt im k := by omega
      by_cases hl3 : last = true ∧ bAt im k < 3
      · rw [if_pos hl3]
        obtain ⟨rfl, h3⟩ := hl3
        simp [b__law_wrong_at_3, i0, i9, a0, h5, hl, h3]
      · rw [if_neg hl3]
        by_cases g0 : bAt im k = 0
        · rw [if_pos g0]
          have hlast : last = false := by
            cases last
            · rfl
            · exact absurd ⟨rfl, by omega⟩ hl3
          subst hlast
          have q0 := w_n (n := n) (S0 := S0) (im := im) (k := k + 1) (ps := ps) (U := U) (rows := rows) (a2 := some (.int (j : Int))) (a3 := a3) (a5 := a5) (a6 := a6) (a10 := a10) (a11 := a11) (a12 := some (.int 0)) (a13 := a13) (a14 := a14) (by omega) hb (by omega)
          cases e0 : pathM im (ps.map (·.1)) (k + 1) with
          | error e =>
            rw [e0] at q0
            simp [wR] at q0
            simp [b__law_wrong_at_3, i0, a0, g0, hl, fl0, sv_for, forGo, srcAt, at1, putIt, szl, q0]
          | ok p0 =>
            obtain ⟨v0, k0⟩ := p0
            rw [e0] at q0
            obtain ⟨l0, -, -⟩ := pathM_le hb e0
            obtain ⟨c0, q0⟩ := q0
            simp [wR] at q0 ⊢
            have q1 := w_t (n := n) (S0 := S0) (im := im) (k := k0) (ps := ps) (U := (U ++ [v0])) (rows := rows) (a2 := some (.int (j : Int))) (a3 := a3) (a5 := a5) (a6 := a6) (a10 := c0) (a11 := a11) (a12 := some (.int 0)) (a13 := a13) (a14 := a14) (by omega) (by simp; omega)
            cases e1 : numM im 3 1000000 (k0) with
            | error e =>
              rw [e1] at q1
              simp [wR] at q1
              simp [b__law_wrong_at_3, i0, a0, g0, hl, fl0, sv_for, forGo, srcAt, at1, putIt, szl, q0, q1]
            | ok p1 =>
              obtain ⟨v1, k1⟩ := p1
              rw [e1] at q1
              obtain ⟨l1, -, -, -⟩ := numM_le e1
              obtain ⟨c1, q1⟩ := q1
              simp [wR] at q1 ⊢
              have q2 := w_a (n := n) (S0 := S0) (im := im) (k := k1) (ps := ps) (U := (U ++ [v0])) (rows := rows) (a2 := some (.int (j : Int))) (a3 := a3) (a5 := a5) (a6 := a6) (a10 := c1) (a11 := a11) (a12 := some (.int 0)) (a13 := a13) (a14 := a14) (by omega) (by simp; omega)
              cases e2 : numM im 2 (rows - 1) (k1) with
              | error e =>
                rw [e2] at q2
                simp [wR] at q2
                simp [b__law_wrong_at_3, i0, a0, g0, hl, fl0, sv_for, forGo, srcAt, at1, putIt, szl, q0, q1, q2]
              | ok p2 =>
                obtain ⟨v2, k2⟩ := p2
                rw [e2] at q2
                obtain ⟨l2, -, -, -⟩ := numM_le e2
                obtain ⟨c2, q2⟩ := q2
                simp [wR] at q2 ⊢
                refine ⟨some (.str "a"), c2, some (.int 0), ?_⟩
                simp only [Rw.used, List.append_nil]
                simp [b__law_wrong_at_3, i0, a0, g0, hl, fl0, sv_for, forGo, srcAt, at1, putIt, szl, q0, q1, q2]
        · rw [if_neg g0]
          by_cases g1 : bAt im k = 1
          · rw [if_pos g1]
            have hlast : last = false := by
              cases last
              · rfl
              · exact absurd ⟨rfl, by omega⟩ hl3
            subst hlast
            have q0 := w_n (n := n) (S0 := S0) (im := im) (k := k + 1) (ps := ps) (U := U) (rows := rows) (a2 := some (.int (j : Int))) (a3 := a3) (a5 := a5) (a6 := a6) (a10 := a10) (a11 := a11) (a12 := some (.int 1)) (a13 := a13) (a14 := a14) (by omega) hb (by omega)
            cases e0 : pathM im (ps.map (·.1)) (k + 1) with
            | error e =>
              rw [e0] at q0
              simp [wR] at q0
              simp [b__law_wrong_at_3, i0, a0, g1, hl, fl1, sv_for, forGo, srcAt, at1, putIt, szl, q0]
            | ok p0 =>
              obtain ⟨v0, k0⟩ := p0
              rw [e0] at q0
              obtain ⟨l0, -, -⟩ := pathM_le hb e0
              obtain ⟨c0, q0⟩ := q0
              simp [wR] at q0 ⊢
              have q1 := w_a (n := n) (S0 := S0) (im := im) (k := k0) (ps := ps) (U := (U ++ [v0])) (rows := rows) (a2 := some (.int (j : Int))) (a3 := a3) (a5 := a5) (a6 := a6) (a10 := c0) (a11 := a11) (a12 := some (.int 1)) (a13 := a13) (a14 := a14) (by omega) (by simp; omega)
              cases e1 : numM im 2 (rows - 1) (k0) with
              | error e =>
                rw [e1] at q1
                simp [wR] at q1
                simp [b__law_wrong_at_3, i0, a0, g1, hl, fl1, sv_for, forGo, srcAt, at1, putIt, szl, q0, q1]
              | ok p1 =>
                obtain ⟨v1, k1⟩ := p1
                rw [e1] at q1
                obtain ⟨l1, -, -, -⟩ := numM_le e1
                obtain ⟨c1, q1⟩ := q1
                simp [wR] at q1 ⊢
                refine ⟨some (.str "a"), c1, some (.int 1), ?_⟩
                simp only [Rw.used, List.append_nil]
                simp [b__law_wrong_at_3, i0, a0, g1, hl, fl1, sv_for, forGo, srcAt, at1, putIt, szl, q0, q1]
          · rw [if_neg g1]
            by_cases g2 : bAt im k = 2
            · rw [if_pos g2]
              have hlast : last = false := by
                cases last
                · rfl
                · exact absurd ⟨rfl, by omega⟩ hl3
              subst hlast
              have q0 := w_n (n := n) (S0 := S0) (im := im) (k := k + 1) (ps := ps) (U := U) (rows := rows) (a2 := some (.int (j : Int))) (a3 := a3) (a5 := a5) (a6 := a6) (a10 := a10) (a11 := a11) (a12 := some (.int 2)) (a13 := a13) (a14 := a14) (by omega) hb (by omega)
              cases e0 : pathM im (ps.map (·.1)) (k + 1) with
              | error e =>
                rw [e0] at q0
                simp [wR] at q0
                simp [b__law_wrong_at_3, i0, a0, g2, hl, fl2, sv_for, forGo, srcAt, at1, putIt, szl, q0]
              | ok p0 =>
                obtain ⟨v0, k0⟩ := p0
                rw [e0] at q0
                obtain ⟨l0, -, -⟩ := pathM_le hb e0
                obtain ⟨c0, q0⟩ := q0
                simp [wR] at q0 ⊢
                refine ⟨some (.str "n"), c0, some (.int 2), ?_⟩
                simp only [Rw.used, List.append_nil]
                simp [b__law_wrong_at_3, i0, a0, g2, hl, fl2, sv_for, forGo, srcAt, at1, putIt, szl, q0]
            · rw [if_neg g2]
              by_cases g3 : bAt im k = 3
              · rw [if_pos g3]
                have q0 := w_a (n := n) (S0 := S0) (im := im) (k := k + 1) (ps := ps) (U := U) (rows := rows) (a2 := some (.int (j : Int))) (a3 := a3) (a5 := a5) (a6 := a6) (a10 := a10) (a11 := a11) (a12 := some (.int 3)) (a13 := a13) (a14 := a14) (by omega) (by omega)
                cases e0 : numM im 2 (rows - 1) (k + 1) with
                | error e =>
                  rw [e0] at q0
                  simp [wR] at q0
                  cases last <;> simp [b__law_wrong_at_3, i0, a0, g3, hl, fl3, sv_for, forGo, srcAt, at1, putIt, szl, q0]
                | ok p0 =>
                  obtain ⟨v0, k0⟩ := p0
                  rw [e0] at q0
                  obtain ⟨l0, -, -, -⟩ := numM_le e0
                  obtain ⟨c0, q0⟩ := q0
                  simp [wR] at q0 ⊢
                  refine ⟨some (.str "a"), c0, some (.int 3), ?_⟩
                  simp only [Rw.used, List.append_nil]
                  cases last <;> simp [b__law_wrong_at_3, i0, a0, g3, hl, fl3, sv_for, forGo, srcAt, at1, putIt, szl, q0]
              · rw [if_neg g3]
                by_cases g4 : bAt im k = 4
                · rw [if_pos g4]
                  refine ⟨a9, a10, some (.int 4), ?_⟩
                  simp only [Rw.used, List.append_nil]
                  cases last <;> simp [b__law_wrong_at_3, i0, a0, g4, hl, fl4, sv_for, forGo, srcAt, at1, putIt, szl]
                · rw [if_neg g4]
                  have g5 : bAt im k = 5 := by omega
                  refine ⟨a9, a10, some (.int 5), ?_⟩
                  simp only [Rw.used, List.append_nil]
                  cases last <;> simp [b__law_wrong_at_3, i0, a0, g5, hl, fl5, sv_for, forGo, srcAt, at1, putIt, szl]
  · rw [if_neg h]
    have e : k = im.length := by omega
    subst e
    simp [b__law_wrong_at_3]
end
end K71

set_option maxHeartbeats 4000000
/-! L15: the law's own reading: all of it. -/
namespace K71
open PySem PySem.Spec PyProof.Rows L2 Pv
theorem usedM_nil : usedM [] = [] := rfl
theorem usedM_snoc {rs : List Rw} {x : Rw} : usedM (rs ++ [x]) = usedM rs ++ x.used := by simp [usedM]
theorem used_le {x : Rw} : x.used.length ≤ 1 := by cases x <;> simp [Rw.used]
theorem lostM_first {U : List Str} : ∀ ps : List (Str × Int), lostM U ps = match (ps.filter fun p => !decide (p.1 ∈ U)).map (·.2) with
    | [] => .ok ()
    | p :: _ => .error p
  | [] => rfl
  | (z, p) :: r => by
    unfold lostM
    by_cases h : z ∈ U
    · rw [if_pos h, lostM_first r]
      simp [h]
    · rw [if_neg h]
      simp [h]
theorem zip_fst_snd : ∀ ps : List (Str × Int), (ps.map (·.1)).zip (ps.map (·.2)) = ps
  | [] => rfl
  | p :: r => by simp [zip_fst_snd r]
section
variable {n : Nat} {S0 S : Hs} {im : List Int} {k : Nat} {ps : List (Str × Int)} {rows : Int} {a3 a5 a6 a11 a13 a14 : Option D}
theorem neqnil_ints {zs : List Int} : copG .ne (.lv (zs.map .int)) (.lv []) S = .ok (.bl (!zs.isEmpty)) S := by
  have h1 : ∀ zs : List Int, pyDs (zs.map .int) = some (zs.map .int) := by
    intro zs
    induction zs with
    | nil => rfl
    | cons z zs ih => simp only [List.map_cons, pyDs, pyD, ih]
  have h2 : ∀ zs : List Int, PyData.canLayAll0 (zs.map .int) = true := by
    intro zs
    induction zs with
    | nil => rfl
    | cons z zs ih => simp only [List.map_cons, PyData.canLayAll0, PyData.canLay0, ih]; rfl
  have h3 : ∀ zs : List Int, PyData.depthAll (zs.map .int) = 0 := by
    intro zs
    induction zs with
    | nil => rfl
    | cons z zs ih => simp only [List.map_cons, PyData.depthAll, PyData.depth, ih]; rfl
  have h4 : SeqAt.shaped (.list (zs.map .int)) = true := by
    simp [SeqAt.shaped, PyData.canLay0, PyData.depth, h2, h3]
  rw [show copG .ne = gEq true from rfl]
  simp only [gEq, eqS, pyT, pyD, h1, pyDs, h4, shaped_nil, and_self, if_true, eqv_nil]
  simp
theorem rowM_le {nm : List Str} {last : Bool} {x : Rw} {k' : Nat} (hb : bytesOk im) (_hk : k ≤ im.length) (h : rowM im nm rows last k = .ok (x, k')) : k' ≤ im.length := by
  unfold rowM at h
  repeat' (first | (cases h; done) | split at h)
  all_goals (injection h with h; injection h with h1 h2; subst h2; first | exact (numM_le (by assumption)).1 | exact (pathM_le hb (by assumption)).1 | omega)
theorem law_rows_loop (hn : 2 ≤ n) (hb : bytesOk im) : ∀ (f j k : Nat) (rs : List Rw) (pl : List Int) (a2 a9 a10 a12 : Option D), rs.length = j → (usedM rs).length ≤ j → j + f ≤ 80000 → k ≤ im.length →
    match rowsM im (ps.map (·.1)) rows f rs pl k with
    | .ok (rs', _, k') => (usedM rs').length ≤ j + f ∧ k' ≤ im.length ∧ ∃ b2 b9 b10 b12, forGo (.rng 0 (j + f)) (.v 2) (svs Γ (specs Γ n) b__law_wrong_at_3) f j (wR im (usedM rs) k rows S0.length a2 a3 a5 a6 a9 a10 a11 a12 a13 a14) (wS S0 ps) = .nx (wR im (usedM rs') k' rows S0.length b2 a3 a5 a6 b9 b10 a11 b12 a13 a14) (wS S0 ps)
    | .error e => forGo (.rng 0 (j + f)) (.v 2) (svs Γ (specs Γ n) b__law_wrong_at_3) f j (wR im (usedM rs) k rows S0.length a2 a3 a5 a6 a9 a10 a11 a12 a13 a14) (wS S0 ps) = .rt (.int e) (wS S0 ps)
  | 0, j, k, rs, pl, a2, a9, a10, a12, h1, h2, _, hk => by
    simp only [rowsM, forGo, srcAt, Nat.add_zero, Nat.lt_irrefl, if_false]
    exact ⟨h2, hk, a2, a9, a10, a12, rfl⟩
  | f + 1, j, k, rs, pl, a2, a9, a10, a12, h1, h2, h3, hk => by
    simp only [rowsM]
    have hj : j < j + (f + 1) := by omega
    simp only [forGo, srcAt, hj, if_true, putIt]
    rw [show (wR im (usedM rs) k rows S0.length a2 a3 a5 a6 a9 a10 a11 a12 a13 a14).set 2 (some (.int (0 + (j : Int)))) = wR im (usedM rs) k rows S0.length (some (.int (j : Int))) a3 a5 a6 a9 a10 a11 a12 a13 a14 by simp [wR]]
    have q := law_row (n := n) (S0 := S0) (im := im) (k := k) (ps := ps) (U := usedM rs) (rows := rows) (a3 := a3) (a5 := a5) (a6 := a6) (a9 := a9) (a10 := a10) (a11 := a11) (a12 := a12) (a13 := a13) (a14 := a14) hn hb (by omega) hk (j := j) ((rs.length : Int) == rows - 1) (by rw [h1])
    cases e : rowM im (ps.map (·.1)) rows ((rs.length : Int) == rows - 1) k with
    | error x =>
      rw [e] at q
      rw [q]
    | ok p =>
      obtain ⟨x, k'⟩ := p
      rw [e] at q
      obtain ⟨b9, b10, b12, q⟩ := q
      rw [q]
      have hx := used_le (x := x)
      have ek : k' ≤ im.length := rowM_le hb hk e
      have ih := law_rows_loop hn hb f (j + 1) k' (rs ++ [x]) (pl ++ [(k : Int)]) (some (.int (j : Int))) b9 b10 b12 (by simp; omega) (by rw [usedM_snoc]; simp; omega) (by omega) ek
      rw [show j + 1 + f = j + (f + 1) by omega, usedM_snoc] at ih
      dsimp only
      exact ih
def wrongD : Except Int Got → D
  | .ok _ => .non
  | .error e => .int e
theorem wrong_head (hn : 1 ≤ n) {d : Int} {b c e g h i j l m o p q : Option D} (hk : k ≤ im.length) : svs Γ (specs Γ n) b__law_wrong_at_4 [some (.tup (im.map .int)), b, c, e, some (.int (k : Int)), some (.int d), g, h, i, j, l, m, o, p, q] S =
    if k < im.length then (if bAt im k = d then .nx [some (.tup (im.map .int)), b, c, e, some (.int (k : Int)), some (.int d), g, h, i, j, l, m, o, p, q] S else .rt (.int k) S) else .rt (.int im.length) S := by
  by_cases h1 : k < im.length
  · rw [if_pos h1]
    have i0 : ¬ im.length ≤ k := by omega
    have i9 : ¬ im.length < k := by omega
    have a0 := im_at (S := S) h1
    by_cases h2 : bAt im k = d
    · simp [b__law_wrong_at_4, i0, a0, h2]
    · have h3 : (bAt im k == d) = false := by simpa using h2
      simp [b__law_wrong_at_4, i0, i9, a0, h2, h3]
  · rw [if_neg h1]
    have e : k = im.length := by omega
    subst e
    simp [b__law_wrong_at_4]
theorem namesM_le : ∀ {f : Nat} {nm nm' : List Str} {st st' : List Int} {k k' : Nat}, k ≤ im.length → namesM im f nm st k = .ok (nm', st', k') → k' ≤ im.length
  | 0, _, _, _, _, _, _, hk, h => by
    injection h with h
    injection h with _ h
    injection h with _ h
    omega
  | f + 1, nm, nm', st, st', k, k', hk, h => by
    unfold namesM at h
    cases e : nameM im nm k with
    | error x => rw [e] at h; cases h
    | ok p =>
      obtain ⟨z, k2⟩ := p
      rw [e] at h
      exact namesM_le (nameM_ok e).2.1 h
theorem lost_lc {Os : List Orc} {U : List Str} {b1 b2 b3 b4 b5 b6 b7 b8 b9 b10 b11 b12 b13 : Option D} (hl : ps.length ≤ 100000) :
    ev Γ Os (.lc false [13, 14] (.t [13, 14]) (.ex (.var 8)) (.some b__law_wrong_at_0) b__law_wrong_at_1) [b1, some (.lv (U.map .str)), b2, b3, b4, b5, b6, b7, some (.ref S0.length), b8, b9, b10, b11, b12, b13] (S0 ++ [O.lst (ps.map prD)]) = .ok (.lv (((ps.filter fun p => !decide (p.1 ∈ U)).map (·.2)).map .int)) (S0 ++ [O.lst (ps.map prD)]) := by
  have hs : (S0 ++ [O.lst (ps.map prD)])[S0.length]? = some (.lst (ps.map prD)) := by simp
  rw [ev_lc_mapif (xs := ps) (src := .one (.dy S0.length)) (S1 := S0 ++ [O.lst (ps.map prD)]) (fun p => Itm.d (prD p)) (fun p => !decide (p.1 ∈ U)) (fun p => D.int p.2) ?h1 (dyM hs) (by simp [fuelOf, len1]) (by rw [szl]; omega) ?h2]
  case h1 => simp [src_ref hs]
  case h2 =>
    intro p hp
    have e : copG .nin (.str p.1) (.lv (U.map .str)) (S0 ++ [O.lst (ps.map prD)]) = .ok (.bl (!decide (p.1 ∈ U))) (S0 ++ [O.lst (ps.map prD)]) := nin_strs (.inr rfl)
    refine ⟨_, rfl, ?_, fun _ => ?_⟩
    · simp [wipeE, b__law_wrong_at_0, e]
    · simp [wipeE, b__law_wrong_at_1]
  · simp
theorem wrong_head0 (hn : 1 ≤ n) {b c e g h i j l m o p q : Option D} : svs Γ (specs Γ n) b__law_wrong_at_4 [some (.tup (im.map .int)), b, c, e, some (.int 0), some (.int 75), g, h, i, j, l, m, o, p, q] S =
    if 0 < im.length then (if bAt im 0 = 75 then .nx [some (.tup (im.map .int)), b, c, e, some (.int 0), some (.int 75), g, h, i, j, l, m, o, p, q] S else .rt (.int 0) S) else .rt (.int im.length) S := wrong_head (k := 0) hn (Nat.zero_le _)
theorem wrong_head1 (hn : 1 ≤ n) (hk : 1 ≤ im.length) {b c e g h i j l m o p q : Option D} : svs Γ (specs Γ n) b__law_wrong_at_4 [some (.tup (im.map .int)), b, c, e, some (.int 1), some (.int 72), g, h, i, j, l, m, o, p, q] S =
    if 1 < im.length then (if bAt im 1 = 72 then .nx [some (.tup (im.map .int)), b, c, e, some (.int 1), some (.int 72), g, h, i, j, l, m, o, p, q] S else .rt (.int 1) S) else .rt (.int im.length) S := wrong_head (k := 1) hn hk
theorem wrong_head2 (hn : 1 ≤ n) (hk : 2 ≤ im.length) {b c e g h i j l m o p q : Option D} : svs Γ (specs Γ n) b__law_wrong_at_4 [some (.tup (im.map .int)), b, c, e, some (.int 2), some (.int 1), g, h, i, j, l, m, o, p, q] S =
    if 2 < im.length then (if bAt im 2 = 1 then .nx [some (.tup (im.map .int)), b, c, e, some (.int 2), some (.int 1), g, h, i, j, l, m, o, p, q] S else .rt (.int 2) S) else .rt (.int im.length) S := wrong_head (k := 2) hn hk
theorem wrong_at_eq (hn : 5 ≤ n) (hb : bytesOk im) (hz : im.length ≤ 100000) : ∃ X, hd (specs Γ n) i__law_wrong_at [.tup (im.map .int)] S0 = .ok (wrongD (parseM im)) (S0 ++ X) := by
  rw [run__law_wrong_at (by omega)]
  unfold parseM headM
  have hb0 := fun b c e g h i j l m o p q => wrong_head0 (S := S0) (im := im) (n := n - 1) (by omega) (b := b) (c := c) (e := e) (g := g) (h := h) (i := i) (j := j) (l := l) (m := m) (o := o) (p := p) (q := q)
  have hb1 := fun z b c e g h i j l m o p q => wrong_head1 (S := S0) (im := im) (n := n - 1) (by omega) z (b := b) (c := c) (e := e) (g := g) (h := h) (i := i) (j := j) (l := l) (m := m) (o := o) (p := p) (q := q)
  have hb2 := fun z b c e g h i j l m o p q => wrong_head2 (S := S0) (im := im) (n := n - 1) (by omega) z (b := b) (c := c) (e := e) (g := g) (h := h) (i := i) (j := j) (l := l) (m := m) (o := o) (p := p) (q := q)
  simp only [dueM]
  by_cases h0 : 0 < im.length
  · by_cases g0 : bAt im 0 = 75
    · by_cases h1 : 1 < im.length
      · by_cases g1 : bAt im 1 = 72
        · by_cases h2 : 2 < im.length
          · by_cases g2 : bAt im 2 = 1
            · simp only [h0, g0, h1, g1, h2, g2, if_true, Nat.zero_add]
              have q1 : hd (specs Γ (n - 1)) i__law_number [.tup (im.map .int), .int 3, .int 2, .int 65535] S0 = .ok (numD (numM im 2 65535 3)) S0 := law_number2 (k := 3) (by omega)
              have q2 : hd (specs Γ (n - 1)) i__law_number [.tup (im.map .int), .int 5, .int 2, .int 10000] S0 = .ok (numD (numM im 2 10000 5)) S0 := law_number2 (k := 5) (by omega)
              cases c1 : numM im 2 65535 3 with
              | error e =>
                rw [c1, numD] at q1
                refine ⟨[], ?_⟩
                simp [runFn, f__law_wrong_at, b__law_wrong_at, szl, sv_for, gEnum, src1, fuelOf, len1, forGo, srcAt, at1, putIt, hb0, h0, g0, hb1 (by omega), h1, g1, hb2 (by omega), h2, g2, wrongD, sOf, isNo, q1]
              | ok p1 =>
                obtain ⟨v1, k1⟩ := p1
                obtain ⟨l1, rfl, l3, l4⟩ := numM_le c1
                have p1 := valM_ok hb 3 2
                rw [c1, numD] at q1
                dsimp only
                cases c2 : numM im 2 10000 5 with
                | error e =>
                  rw [c2, numD] at q2
                  refine ⟨[], ?_⟩
                  simp [runFn, f__law_wrong_at, b__law_wrong_at, szl, sv_for, gEnum, src1, fuelOf, len1, forGo, srcAt, at1, putIt, hb0, h0, g0, hb1 (by omega), h1, g1, hb2 (by omega), h2, g2, wrongD, sOf, isNo, q1, q2]
                | ok p2 =>
                  obtain ⟨v2, k2⟩ := p2
                  obtain ⟨m1, rfl, m3, m4⟩ := numM_le c2
                  have p2 := valM_ok hb 5 2
                  rw [c2, numD] at q2
                  dsimp only
                  by_cases hz2 : v2 = 0
                  · rw [if_pos hz2]
                    refine ⟨[], ?_⟩
                    simp [runFn, f__law_wrong_at, b__law_wrong_at, szl, sv_for, gEnum, src1, fuelOf, len1, forGo, srcAt, at1, putIt, hb0, h0, g0, hb1 (by omega), h1, g1, hb2 (by omega), h2, g2, wrongD, sOf, isNo, q1, q2, hz2]
                  · rw [if_neg hz2]
                    have hz3 : (v2 == 0) = false := by simpa using hz2
                    have q3 := law_read_names_eq (n := n - 1) (S0 := S0) (im := im) (k := 7) (a := v1) (by omega) ⟨by omega, by omega⟩ hz
                    dsimp only
                    cases c3 : namesM im v1.toNat [] [] 7 with
                    | error e =>
                      rw [c3] at q3
                      obtain ⟨X, q3⟩ := q3
                      refine ⟨X, ?_⟩
                      simp at q3
                      simp [runFn, f__law_wrong_at, b__law_wrong_at, szl, sv_for, gEnum, src1, fuelOf, len1, forGo, srcAt, at1, putIt, hb0, h0, g0, hb1 (by omega), h1, g1, hb2 (by omega), h2, g2, wrongD, sOf, isNo, q1, q2, hz2, hz3, q3]
                    | ok p3 =>
                      obtain ⟨nm, st, k3⟩ := p3
                      rw [c3] at q3
                      obtain ⟨ps, rfl, rfl, o1, o2, q3⟩ := q3
                      have hk3 : k3 ≤ im.length := namesM_le (by omega) c3
                      simp at q3
                      dsimp only
                      have q4 := law_rows_loop (n := n - 1) (S0 := S0) (im := im) (ps := ps) (rows := v2) (a3 := none) (a5 := some (.int 1)) (a6 := some (.int v1)) (a11 := none) (a13 := none) (a14 := none) (by omega) hb v2.toNat 0 k3 [] [] none none none none rfl (by simp [usedM]) (by omega) hk3
                      rw [Nat.zero_add] at q4
                      have r2 := rng1 (S := S0 ++ [O.lst (ps.map prD)]) (j := v2) (by omega)
                      cases c4 : rowsM im (ps.map (·.1)) v2 v2.toNat [] [] k3 with
                      | error e =>
                        rw [c4] at q4
                        simp [wR, wS, usedM_nil] at q4
                        refine ⟨[O.lst (ps.map prD)], ?_⟩
                        simp [runFn, f__law_wrong_at, b__law_wrong_at, szl, sv_for, gEnum, src1, fuelOf, len1, forGo, srcAt, at1, putIt, hb0, h0, g0, hb1 (by omega), h1, g1, hb2 (by omega), h2, g2, wrongD, sOf, isNo, q1, q2, hz2, hz3, q3, r2, q4]
                      | ok p4 =>
                        obtain ⟨rs, pl, k4⟩ := p4
                        rw [c4] at q4
                        obtain ⟨u1, hk4, b2, b9, b10, b12, q4⟩ := q4
                        simp [wR, wS, usedM_nil] at q4
                        have q5 := law_number2 (n := n - 1) (S := S0 ++ [O.lst (ps.map prD)]) (im := im) (k := k4) (most := 65535) (by omega)
                        have q6 := law_sum_eq (n := n - 1) (S := S0 ++ [O.lst (ps.map prD)]) (im := im.take k4) (b := false) (by omega)
                        rw [rowD_t, List.map_take, ← cut_to] at q6
                        refine ⟨[O.lst (ps.map prD)], ?_⟩
                        unfold endM
                        dsimp only
                        cases c5 : numM im 2 65535 k4 with
                        | error e =>
                          rw [c5, numD] at q5
                          simp [runFn, f__law_wrong_at, b__law_wrong_at, szl, sv_for, gEnum, src1, fuelOf, len1, forGo, srcAt, at1, putIt, hb0, h0, g0, hb1 (by omega), h1, g1, hb2 (by omega), h2, g2, wrongD, sOf, isNo, q1, q2, hz2, hz3, q3, r2, q4, q5]
                        | ok p5 =>
                          obtain ⟨v5, k5⟩ := p5
                          rw [c5, numD] at q5
                          obtain ⟨w1, w2, -, -⟩ := numM_le c5
                          dsimp only
                          by_cases hv : v5 = sumM (im.take k4)
                          · rw [if_pos hv]
                            by_cases hl : k5 < im.length
                            · rw [if_pos hl]
                              simp [runFn, f__law_wrong_at, b__law_wrong_at, szl, sv_for, gEnum, src1, fuelOf, len1, forGo, srcAt, at1, putIt, hb0, h0, g0, hb1 (by omega), h1, g1, hb2 (by omega), h2, g2, wrongD, sOf, isNo, q1, q2, hz3, q3, r2, q4, q5, q6, hv, hl]
                            · rw [if_neg hl]
                              have ql : ev Γ (specs Γ (n - 1)) (.lc false [13, 14] (.t [13, 14]) (.ex (.var 8)) (.some b__law_wrong_at_0) b__law_wrong_at_1) [some (.tup (im.map .int)), some (.lv ((usedM rs).map .str)), b2, none, some (.int (k4 : Int)), some (.int 1), some (.int v1), some (.int v2), some (.ref S0.length), b9, some (.int (sumM (im.take k4))), some (.int (k5 : Int)), b12, none, none] (S0 ++ [O.lst (ps.map prD)]) = .ok (.lv (((ps.filter fun p => !decide (p.1 ∈ usedM rs)).map (·.2)).map .int)) (S0 ++ [O.lst (ps.map prD)]) := lost_lc (by omega)
                              rw [zip_fst_snd, lostM_first]
                              have qn := neqnil_ints (S := S0 ++ [O.lst (ps.map prD)]) (zs := (ps.filter fun p => !decide (p.1 ∈ usedM rs)).map (·.2))
                              cases ef : (ps.filter fun p => !decide (p.1 ∈ usedM rs)).map (·.2) with
                              | nil =>
                                rw [ef] at ql qn
                                simp at ql qn
                                simp [runFn, f__law_wrong_at, b__law_wrong_at, szl, sv_for, gEnum, src1, fuelOf, len1, forGo, srcAt, at1, putIt, hb0, h0, g0, hb1 (by omega), h1, g1, hb2 (by omega), h2, g2, wrongD, sOf, isNo, q1, q2, hz3, q3, r2, q4, q5, q6, hv, hl, ql, qn]
                              | cons x r =>
                                rw [ef] at ql qn
                                simp at ql qn
                                have qi : gIdx (.lv (.int x :: r.map .int)) (.int 0) (S0 ++ [O.lst (ps.map prD)]) = .ok (.int x) (S0 ++ [O.lst (ps.map prD)]) := by
                                  simp [gIdx, dOf, sOf, atI, ixN, oR]
                                simp [runFn, f__law_wrong_at, b__law_wrong_at, szl, sv_for, gEnum, src1, fuelOf, len1, forGo, srcAt, at1, putIt, hb0, h0, g0, hb1 (by omega), h1, g1, hb2 (by omega), h2, g2, wrongD, sOf, isNo, q1, q2, hz3, q3, r2, q4, q5, q6, hv, hl, ql, qn, qi]
                          · rw [if_neg hv]
                            have hv' : (v5 == sumM (im.take k4)) = false := by simpa using hv
                            simp [runFn, f__law_wrong_at, b__law_wrong_at, szl, sv_for, gEnum, src1, fuelOf, len1, forGo, srcAt, at1, putIt, hb0, h0, g0, hb1 (by omega), h1, g1, hb2 (by omega), h2, g2, wrongD, sOf, isNo, q1, q2, hz3, q3, r2, q4, q5, q6, hv, hv']
            · simp only [h0, g0, h1, g1, h2, g2, if_true, if_false, Nat.zero_add]
              refine ⟨[], ?_⟩
              simp [runFn, f__law_wrong_at, b__law_wrong_at, szl, sv_for, gEnum, src1, fuelOf, len1, forGo, srcAt, at1, putIt, hb0, h0, g0, hb1 (by omega), h1, g1, hb2 (by omega), h2, g2, wrongD]
          · simp only [h0, g0, h1, g1, h2, if_true, if_false, Nat.zero_add]
            refine ⟨[], ?_⟩
            simp [runFn, f__law_wrong_at, b__law_wrong_at, szl, sv_for, gEnum, src1, fuelOf, len1, forGo, srcAt, at1, putIt, hb0, h0, g0, hb1 (by omega), h1, g1, hb2 (by omega), h2, wrongD]
        · simp only [h0, g0, h1, g1, if_true, if_false, Nat.zero_add]
          refine ⟨[], ?_⟩
          simp [runFn, f__law_wrong_at, b__law_wrong_at, szl, sv_for, gEnum, src1, fuelOf, len1, forGo, srcAt, at1, putIt, hb0, h0, g0, hb1 (by omega), h1, g1, wrongD]
      · simp only [h0, g0, h1, if_true, if_false, Nat.zero_add]
        refine ⟨[], ?_⟩
        simp [runFn, f__law_wrong_at, b__law_wrong_at, szl, sv_for, gEnum, src1, fuelOf, len1, forGo, srcAt, at1, putIt, hb0, h0, g0, hb1 (by omega), h1, wrongD]
    · simp only [h0, g0, if_true, if_false]
      refine ⟨[], ?_⟩
      simp [runFn, f__law_wrong_at, b__law_wrong_at, szl, sv_for, gEnum, src1, fuelOf, len1, forGo, srcAt, at1, putIt, hb0, h0, g0, wrongD]
  · simp only [h0, if_false]
    refine ⟨[], ?_⟩
    simp [runFn, f__law_wrong_at, b__law_wrong_at, szl, sv_for, gEnum, src1, fuelOf, len1, forGo, srcAt, at1, putIt, hb0, h0, wrongD]
end
end K71

set_option maxHeartbeats 4000000
/-! L16: what is code; its moments. -/
namespace K71
open PySem PySem.Spec PyProof.Rows L2 Pv
def inR (a b i : Int) : Bool := decide (a ≤ i ∧ i ≤ b)
def Rw.ok (x : Rw) (size : Int) : Bool := match x with
  | .past m n a => pathB m && (inR 0 1000000 n && inR 0 (size - 1) a)
  | .got m a => pathB m && inR 0 (size - 1) a
  | .do_ m => pathB m
  | .go a => inR 0 (size - 1) a
  | .rest => true
  | .stop => true
def Rw.last (x : Rw) : Bool := match x with
  | .go _ => true
  | .rest => true
  | .stop => true
  | _ => false
def Rw.fits (x : Rw) : Bool := x.used.all fun z => decide (z.length ≤ sizeLine) && PyData.strOk z
def codeB (cs : List Rw) : Bool := decide (1 ≤ cs.length ∧ cs.length ≤ 10000) && (cs.all fun x => x.ok cs.length) && match cs.getLast? with
  | some x => x.last
  | none => false
section
variable {n : Nat} {S0 S : Hs}
theorem is_part_path {z : Str} {size : Int} (hn : 3 ≤ n) (hz : z.length ≤ sizeLine) : hd (specs Γ n) i_is_part [.str "path", .str z, .int size] S = .ok (.bl (pathB z)) S := by
  rw [run_is_part (by omega)]
  simp [runFn, f_is_part, b_is_part, is_path_eq (show 2 ≤ n - 1 by omega) hz]
theorem is_part_num {i size : Int} (hn : 3 ≤ n) : hd (specs Γ n) i_is_part [.str "number", .int i, .int size] S = .ok (.bl (inR 0 1000000 i)) S := by
  rw [run_is_part (by omega)]
  simp [runFn, f_is_part, b_is_part, c1, is_whole_int (show 1 ≤ n - 1 by omega), inR]
theorem is_part_at {i size : Int} (hn : 3 ≤ n) : hd (specs Γ n) i_is_part [.str "at", .int i, .int size] S = .ok (.bl (inR 0 (size - 1) i)) S := by
  rw [run_is_part (by omega)]
  simp [runFn, f_is_part, b_is_part, c2, c3, is_whole_int (show 1 ≤ n - 1 by omega), inR]
theorem zipM {a b : List D} {j : Nat} : srcAt S (.zip (.fx a) (.fx b)) j = some ((a.zip b)[j]?.map fun p => Itm.p p.1 p.2) := by
  rw [src_zip, List.getElem?_map]
theorem eq_tnil {d : D} {ds : List D} {ps : List PyData} (h : pyDs (d :: ds) = some ps) (hs : SeqAt.shaped (.tuple ps) = true) : copG .eq (.tup (d :: ds)) (.tup []) S = .ok (.bl false) S := by
  rw [show copG .eq = gEq false from rfl]
  have h2 : SeqAt.shaped (.tuple []) = true := by decide
  have h3 : PyData.eqv (.tuple ps) (.tuple []) = false := by
    cases ps with
    | nil =>
      simp only [pyDs] at h
      split at h
      · split at h <;> cases h
      · cases h
    | cons p ps => rfl
  have h4 : pyD (.tup (d :: ds)) = some (.tuple ps) := by simp only [pyD, h]
  have h5 : pyD (.tup []) = some (.tuple []) := rfl
  simp only [gEq, eqS, pyT, h4, h5, hs, h2, and_self, if_true, h3, Bool.false_eq_true, if_false]
theorem isi_t {ds : List D} : bltG .isi [.tup ds, .ty "tuple"] S = .ok (.bl true) S := by kernel_rfl
theorem isi_s {z : Str} : bltG .isi [.str z, .ty "str"] S = .ok (.bl true) S := is_str
theorem kb0 {ng : Bool} : gInTab ng u_FORMS (.str "past") S = .ok (.bl (!ng)) S := by cases ng <;> kernel_rfl
theorem kb1 {ng : Bool} : gInTab ng u_FORMS (.str "got") S = .ok (.bl (!ng)) S := by cases ng <;> kernel_rfl
theorem kb2 {ng : Bool} : gInTab ng u_FORMS (.str "do") S = .ok (.bl (!ng)) S := by cases ng <;> kernel_rfl
theorem kb3 {ng : Bool} : gInTab ng u_FORMS (.str "go") S = .ok (.bl (!ng)) S := by cases ng <;> kernel_rfl
theorem kb4 {ng : Bool} : gInTab ng u_FORMS (.str "rest") S = .ok (.bl (!ng)) S := by cases ng <;> kernel_rfl
theorem kb5 {ng : Bool} : gInTab ng u_FORMS (.str "stop") S = .ok (.bl (!ng)) S := by cases ng <;> kernel_rfl
theorem cut1 {α : Type} {x : α} {xs : List α} : Pv.cutD (x :: xs) (some 1) none = xs := cut_from (k := 1)
/-- the row's parts, one by one -/
theorem parts_lc {Os : List Orc} {size : Int} {d : D} {fs xs : List D} {g : D × D → Bool} (hz : xs.length ≤ 10) (he : ∀ p ∈ fs.zip xs, hd Os i_is_part [p.1, p.2, .int size] S = .ok (.bl (g p)) S) :
    ev Γ Os (.lc false [3, 4] (.t [3, 4]) (.zip (.cons (.var 2) (.cons (.sl false (.var 0) (.some (.int 1)) .no) .nil))) .no b_is_row_0) [some (.tup (d :: xs)), some (.int size), some (.tup fs), none, none] S = .ok (.lv ((fs.zip xs).map fun p => .bl (g p))) S := by
  rw [ev_lc_map (xs := fs.zip xs) (src := .zip (.fx fs) (.fx xs)) (S1 := S) (fun p => Itm.p p.1 p.2) (fun p => .bl (g p)) ?h1 (fun j => zipM) ?h2 ?h3 ?h4]
  case h1 => simp [gZip, src1, srcT, cut1]
  case h2 => simp [fuelOf, len1]; omega
  case h3 => rw [szl]; simp; omega
  case h4 =>
    intro p hp
    refine ⟨_, rfl, ?_⟩
    simp [wipeE, b_is_row_0, he p hp]
  · simp
theorem c3' : (("at" : Str) = "number") = False := eq_false (by decide +kernel)
theorem c4' : (("number" : Str) = "number") = True := eq_true rfl
theorem all0 : bltG .all [.lv []] S = .ok (.bl true) S := by kernel_rfl
theorem all1 {a : Bool} : bltG .all [.lv [.bl a]] S = .ok (.bl a) S := by cases a <;> kernel_rfl
theorem all2 {a b : Bool} : bltG .all [.lv [.bl a, .bl b]] S = .ok (.bl (a && b)) S := by cases a <;> cases b <;> kernel_rfl
theorem all3 {a b c : Bool} : bltG .all [.lv [.bl a, .bl b, .bl c]] S = .ok (.bl (a && (b && c))) S := by cases a <;> cases b <;> cases c <;> kernel_rfl
theorem strOk_lit {x : Str} (h : PyData.strOk x = true) : PyData.canLay0 (.str x) = true := h
theorem sk0 : PyData.strOk ("past" : Str) = true := by decide +kernel
theorem sk1 : PyData.strOk ("got" : Str) = true := by decide +kernel
theorem sk2 : PyData.strOk ("do" : Str) = true := by decide +kernel
theorem sk3 : PyData.strOk ("go" : Str) = true := by decide +kernel
theorem sk4 : PyData.strOk ("rest" : Str) = true := by decide +kernel
theorem sk5 : PyData.strOk ("stop" : Str) = true := by decide +kernel
theorem row_shape {x : Rw} (h : x.fits = true) : ∃ d ds ps, x.d = .tup (d :: ds) ∧ pyDs (d :: ds) = some ps ∧ SeqAt.shaped (.tuple ps) = true := by
  cases x <;> simp [Rw.fits, Rw.used] at h
  · exact ⟨_, _, _, rfl, rfl, by simp [SeqAt.shaped, PyData.canLay0, PyData.canLayAll0, PyData.depth, PyData.depthAll, sk0, h.2]⟩
  · exact ⟨_, _, _, rfl, rfl, by simp [SeqAt.shaped, PyData.canLay0, PyData.canLayAll0, PyData.depth, PyData.depthAll, sk1, h.2]⟩
  · exact ⟨_, _, _, rfl, rfl, by simp [SeqAt.shaped, PyData.canLay0, PyData.canLayAll0, PyData.depth, PyData.depthAll, sk2, h.2]⟩
  · exact ⟨_, _, _, rfl, rfl, by simp [SeqAt.shaped, PyData.canLay0, PyData.canLayAll0, PyData.depth, PyData.depthAll, sk3]⟩
  · exact ⟨_, _, _, rfl, rfl, by simp [SeqAt.shaped, PyData.canLay0, PyData.canLayAll0, PyData.depth, PyData.depthAll, sk4]⟩
  · exact ⟨_, _, _, rfl, rfl, by simp [SeqAt.shaped, PyData.canLay0, PyData.canLayAll0, PyData.depth, PyData.depthAll, sk5]⟩
theorem is_row_eq {x : Rw} {size : Int} (hn : 4 ≤ n) (hf : x.fits = true) : hd (specs Γ n) i_is_row [x.d, .int size] S = .ok (.bl (x.ok size)) S := by
  rw [run_is_row (by omega)]
  obtain ⟨d, ds, ps, e1, e2, e3⟩ := row_shape hf
  have et := eq_tnil (S := S) e2 e3
  rw [← e1] at et
  have ei : bltG .isi [x.d, .ty "tuple"] S = .ok (.bl true) S := by rw [e1]; exact isi_t
  cases x with
  | past m v a =>
    simp [Rw.fits, Rw.used] at hf
    have hp := parts_lc (S := S) (Os := specs Γ (n - 1)) (size := size) (d := .str "past") (fs := [.str "path", .str "number", .str "at"]) (xs := [.str m, .int v, .int a]) (g := fun p => match p.1, p.2 with
      | .str _, .str z => pathB z
      | .str f, .int i => if f = "number" then inR 0 1000000 i else inR 0 (size - 1) i
      | _, _ => false) (by simp) (by
      intro p hp
      simp at hp
      rcases hp with rfl | rfl | rfl
      · exact is_part_path (by omega) hf.1
      · exact is_part_num (by omega)
      · simp [c3', is_part_at (show 3 ≤ n - 1 by omega)])
    simp [c3', c4'] at hp
    rw [Rw.d] at et ei ⊢
    have e0 : gIdx (.tup [.str "past", .str m, .int v, .int a]) (.int 0) S = .ok (.str "past") S := tup_at0 rfl
    simp [runFn, f_is_row, b_is_row, et, ei, e0, szl, isi_s, kb0, form0, Rw.ok]
    rw [hp]
    simp [all0, all1, all2, all3]
  | got m a =>
    simp [Rw.fits, Rw.used] at hf
    have hp := parts_lc (S := S) (Os := specs Γ (n - 1)) (size := size) (d := .str "got") (fs := [.str "path", .str "at"]) (xs := [.str m, .int a]) (g := fun p => match p.1, p.2 with
      | .str _, .str z => pathB z
      | .str f, .int i => if f = "number" then inR 0 1000000 i else inR 0 (size - 1) i
      | _, _ => false) (by simp) (by
      intro p hp
      simp at hp
      rcases hp with rfl | rfl
      · exact is_part_path (by omega) hf.1
      · simp [c3', is_part_at (show 3 ≤ n - 1 by omega)])
    simp [c3', c4'] at hp
    rw [Rw.d] at et ei ⊢
    have e0 : gIdx (.tup [.str "got", .str m, .int a]) (.int 0) S = .ok (.str "got") S := tup_at0 rfl
    simp [runFn, f_is_row, b_is_row, et, ei, e0, szl, isi_s, kb1, form1, Rw.ok]
    rw [hp]
    simp [all0, all1, all2, all3]
  | do_ m =>
    simp [Rw.fits, Rw.used] at hf
    have hp := parts_lc (S := S) (Os := specs Γ (n - 1)) (size := size) (d := .str "do") (fs := [.str "path"]) (xs := [.str m]) (g := fun p => match p.1, p.2 with
      | .str _, .str z => pathB z
      | .str f, .int i => if f = "number" then inR 0 1000000 i else inR 0 (size - 1) i
      | _, _ => false) (by simp) (by
      intro p hp
      simp at hp
      subst hp
      exact is_part_path (by omega) hf.1)
    simp [c3', c4'] at hp
    rw [Rw.d] at et ei ⊢
    have e0 : gIdx (.tup [.str "do", .str m]) (.int 0) S = .ok (.str "do") S := tup_at0 rfl
    simp [runFn, f_is_row, b_is_row, et, ei, e0, szl, isi_s, kb2, form2, Rw.ok]
    rw [hp]
    simp [all0, all1, all2, all3]
  | go a =>
    have hp := parts_lc (S := S) (Os := specs Γ (n - 1)) (size := size) (d := .str "go") (fs := [.str "at"]) (xs := [.int a]) (g := fun p => match p.1, p.2 with
      | .str _, .str z => pathB z
      | .str f, .int i => if f = "number" then inR 0 1000000 i else inR 0 (size - 1) i
      | _, _ => false) (by simp) (by
      intro p hp
      simp at hp
      subst hp
      simp [c3', is_part_at (show 3 ≤ n - 1 by omega)])
    simp [c3', c4'] at hp
    rw [Rw.d] at et ei ⊢
    have e0 : gIdx (.tup [.str "go", .int a]) (.int 0) S = .ok (.str "go") S := tup_at0 rfl
    simp [runFn, f_is_row, b_is_row, et, ei, e0, szl, isi_s, kb3, form3, Rw.ok]
    rw [hp]
    simp [all0, all1, all2, all3]
  | rest =>
    have hp := parts_lc (S := S) (Os := specs Γ (n - 1)) (size := size) (d := .str "rest") (fs := []) (xs := []) (g := fun p => match p.1, p.2 with
      | .str _, .str z => pathB z
      | .str f, .int i => if f = "number" then inR 0 1000000 i else inR 0 (size - 1) i
      | _, _ => false) (by simp) (by
      intro p hp
      simp at hp)
    simp [c3', c4'] at hp
    rw [Rw.d] at et ei ⊢
    have e0 : gIdx (.tup [.str "rest"]) (.int 0) S = .ok (.str "rest") S := tup_at0 rfl
    simp [runFn, f_is_row, b_is_row, et, ei, e0, szl, isi_s, kb4, form4, Rw.ok]
    rw [hp]
    simp [all0, all1, all2, all3]
  | stop =>
    have hp := parts_lc (S := S) (Os := specs Γ (n - 1)) (size := size) (d := .str "stop") (fs := []) (xs := []) (g := fun p => match p.1, p.2 with
      | .str _, .str z => pathB z
      | .str f, .int i => if f = "number" then inR 0 1000000 i else inR 0 (size - 1) i
      | _, _ => false) (by simp) (by
      intro p hp
      simp at hp)
    simp [c3', c4'] at hp
    rw [Rw.d] at et ei ⊢
    have e0 : gIdx (.tup [.str "stop"]) (.int 0) S = .ok (.str "stop") S := tup_at0 rfl
    simp [runFn, f_is_row, b_is_row, et, ei, e0, szl, isi_s, kb5, form5, Rw.ok]
    rw [hp]
    simp [all0, all1, all2, all3]
end
end K71

set_option maxHeartbeats 4000000
/-! L17: images made. -/
namespace K71
open PySem PySem.Spec PyProof.Rows L2 Pv
def pairB (v : Int) : List Int := [v.fdiv 256, v.fmod 256]
def tripleB (v : Int) : List Int := [v.fdiv 65536, (v.fmod 65536).fdiv 256, (v.fmod 65536).fmod 256]
def nameBy (z : Str) : List Int := (z.length : Int) :: z.cps.toList.map fun (c : Nat) => (c : Int)
def Rw.kind (x : Rw) : Int := match x with
  | .past _ _ _ => 0
  | .got _ _ => 1
  | .do_ _ => 2
  | .go _ => 3
  | .rest => 4
  | .stop => 5
def Rw.by_ (nm : List Str) (x : Rw) : List Int := match x with
  | .past m v a => 0 :: (pairB (nm.idxOf m : Nat) ++ (tripleB v ++ pairB a))
  | .got m a => 1 :: (pairB (nm.idxOf m : Nat) ++ pairB a)
  | .do_ m => 2 :: pairB (nm.idxOf m : Nat)
  | .go a => 3 :: pairB a
  | .rest => [4]
  | .stop => [5]
def bodyM (nm : List Str) (cs : List Rw) : List Int := [75, 72, 1] ++ pairB nm.length ++ pairB cs.length ++ nm.flatMap nameBy ++ cs.flatMap (Rw.by_ nm)
def imgM (cs : List Rw) : List Int := bodyM (sSort (usedM cs)) cs ++ pairB (sumM (bodyM (sSort (usedM cs)) cs))
def okCs (z : Str) : Prop := ∀ c ∈ z.cps.toList, okS (c : Int) = true
section
variable {n : Nat} {S0 S : Hs}
theorem row_last (S : Hs) (x : Rw) : ∃ r, x.d = .tup r ∧ ∃ k, r[0]? = some (.str k) ∧ copG .in_ (.str k) v_LAST_WORDS S = .ok (.bl x.last) S := by
  cases x
  all_goals exact ⟨_, rfl, _, rfl, by kernel_rfl⟩
theorem isi_tt {ds : List D} : bltG .isi [.tup ds, .ty "tuple"] S = .ok (.bl true) S := isi_t
theorem is_code_eq {cs : List Rw} (hn : 5 ≤ n) (hz : cs.length ≤ sizeLine) (hf : ∀ x ∈ cs, x.fits = true) : hd (specs Γ n) i_is_code [.tup (cs.map Rw.d)] S = .ok (.bl (codeB cs)) S := by
  rw [run_is_code (by omega)]
  unfold codeB
  by_cases h1 : 1 ≤ cs.length
  · have i1 : (1 : Int) ≤ (cs.length : Int) := by omega
    by_cases h2 : cs.length ≤ 10000
    · have i2 : (cs.length : Int) ≤ 10000 := by omega
      have e1 := lcM (Γ := Γ) (Os := specs Γ (n - 1)) (ρ := [some (.tup (cs.map Rw.d)), none]) (S := S) (mt := false) (vs := [1]) (i := 1) (x := .var 0) (e := b_is_code_0) (xs := cs) (h_ := Rw.d) (d := .tup (cs.map Rw.d)) (fun x => .bl (x.ok cs.length)) (by simp) rfl hz (fun x hx => by
        simp [wipeE, b_is_code_0, is_row_eq (show 4 ≤ n - 1 by omega) (hf x hx)])
      rw [nwl_f] at e1
      cases el : cs.getLast? with
      | none => rw [List.getLast?_eq_none_iff] at el; rw [el] at h1; simp at h1
      | some x =>
        obtain ⟨r, f1, k, f2, f3⟩ := row_last S x
        have e2 : gIdx (.tup (cs.map Rw.d)) (.int (-1)) S = .ok x.d S := by
          simp only [gIdx, dOf, sOf]
          rw [atI_last (by rw [List.getLast?_map, el]; rfl)]
          rfl
        have e3 : gIdx x.d (.int 0) S = .ok (.str k) S := by rw [f1]; exact tup_at0 f2
        have ea : bltG .all [.lv (cs.map fun x => D.bl (x.ok cs.length))] S = .ok (.bl (cs.all fun x => x.ok cs.length)) S := all_map
        rw [decide_eq_true ⟨h1, h2⟩]
        generalize (cs.all fun x => x.ok cs.length) = b at ea ⊢
        simp [runFn, f_is_code, b_is_code, isi_tt, i1, i2, e1, ea, -all_map]
        cases b with
        | false => simp
        | true => simp [e2, e3, f3]
    · have i2 : ¬ (cs.length : Int) ≤ 10000 := by omega
      simp [runFn, f_is_code, b_is_code, isi_tt, i1, i2, h2]
  · have i1 : ¬ (1 : Int) ≤ (cs.length : Int) := by omega
    simp [runFn, f_is_code, b_is_code, isi_tt, i1, h1]
theorem need_code_ok {cs : List Rw} (hn : 6 ≤ n) (hz : cs.length ≤ sizeLine) (hf : ∀ x ∈ cs, x.fits = true) (hc : codeB cs = true) : hd (specs Γ n) i_need_code [.tup (cs.map Rw.d)] S = .ok .non S := by
  rw [run_need_code (by omega)]
  simp [runFn, f_need_code, b_need_code, is_code_eq (show 5 ≤ n - 1 by omega) hz hf, hc]
theorem strsD_map : ∀ zs : List Str, strsD (zs.map .str) = some zs
  | [] => rfl
  | z :: zs => by simp [strsD, strsD_map zs]
theorem intsD_map : ∀ zs : List Int, intsD (zs.map .int) = some zs
  | [] => rfl
  | z :: zs => by simp [intsD, intsD_map zs]
theorem moments_of_eq {cs : List Rw} (hn : 7 ≤ n) (hz : cs.length ≤ sizeLine) (hf : ∀ x ∈ cs, x.fits = true) (hc : codeB cs = true) (hu : (usedM cs).length < 64) : hd (specs Γ n) i_moments_of [.tup (cs.map Rw.d)] S = .ok (.tpx ((sSort (usedM cs)).map .str)) S := by
  rw [run_moments_of (by omega)]
  have e1 := lcM_if (Γ := Γ) (Os := specs Γ (n - 1)) (ρ := [some (.tup (cs.map Rw.d)), none]) (S := S) (mt := false) (vs := [1]) (i := 1) (x := .var 0) (c := b_moments_of_0) (e := b_moments_of_1) (xs := cs) (h_ := Rw.d) (d := .tup (cs.map Rw.d)) (fun x => !x.used.isEmpty) (fun x => D.str (x.used.headD "")) (by simp) rfl hz (fun x hx => by
    obtain ⟨r, e1, ⟨q, e2, e3⟩, e4⟩ := in_pgd S x
    rw [e1]
    refine ⟨?_, fun z => ?_⟩
    · simp [wipeE, b_moments_of_0, tup_at0 e2, szl, e3]
    · have z : x.used.isEmpty = false := by simpa using z
      simp [wipeE, b_moments_of_1, tup_at1 (e4 z)])
  rw [nwl_f, used_flat] at e1
  have e2 : gSset false (.lv ((usedM cs).map .str)) S = .ok (.lv ((sSort (usedM cs)).map .str)) S := by
    simp [gSset, sOf, strsD_map, hu]
  simp [runFn, f_moments_of, b_moments_of, need_code_ok (show 6 ≤ n - 1 by omega) hz hf hc, e1, e2]
theorem sIns_mem {x z : Str} : ∀ {l : List Str}, z ∈ sIns x l ↔ z = x ∨ z ∈ l
  | [] => by simp [sIns]
  | y :: r => by
    unfold sIns
    split
    · rename_i h
      subst h
      simp
    · split
      · simp
      · rw [List.mem_cons, sIns_mem, List.mem_cons]
        constructor
        · rintro (h | h | h)
          · exact .inr (.inl h)
          · exact .inl h
          · exact .inr (.inr h)
        · rintro (h | h | h)
          · exact .inr (.inl h)
          · exact .inl h
          · exact .inr (.inr h)
theorem sSort_mem {z : Str} : ∀ {l : List Str}, z ∈ sSort l ↔ z ∈ l
  | [] => by simp [sSort]
  | x :: r => by rw [sSort, sIns_mem, sSort_mem, List.mem_cons]
theorem sIns_len {x : Str} : ∀ {l : List Str}, (sIns x l).length ≤ l.length + 1
  | [] => by simp [sIns]
  | y :: r => by
    unfold sIns
    split
    · simp
    · split
      · simp
      · have := sIns_len (x := x) (l := r)
        simp
        omega
theorem sSort_len : ∀ {l : List Str}, (sSort l).length ≤ l.length
  | [] => by simp [sSort]
  | x :: r => by
    have := sSort_len (l := r)
    have := sIns_len (x := x) (l := sSort r)
    rw [sSort]
    simp
    omega
theorem sign_back {c : Nat} (h : okS (c : Int) = true) : ∃ i, bmtG .sindex (.str "abcdefghijklmnopqrstuvwxyz0123456789.") [.str ⟨#[c]⟩] S = .ok i S ∧ gIdx v_NUMBERS i S = .ok (.int (c : Int)) S := by
  rw [okS_mem] at h
  have h := of_decide_eq_true h
  unfold numsL at h
  simp only [List.mem_cons, List.not_mem_nil, or_false] at h
  have e : c = 97 ∨ c = 98 ∨ c = 99 ∨ c = 100 ∨ c = 101 ∨ c = 102 ∨ c = 103 ∨ c = 104 ∨ c = 105 ∨ c = 106 ∨ c = 107 ∨ c = 108 ∨ c = 109 ∨ c = 110 ∨ c = 111 ∨ c = 112 ∨ c = 113 ∨ c = 114 ∨ c = 115 ∨ c = 116 ∨ c = 117 ∨ c = 118 ∨ c = 119 ∨ c = 120 ∨ c = 121 ∨ c = 122 ∨ c = 48 ∨ c = 49 ∨ c = 50 ∨ c = 51 ∨ c = 52 ∨ c = 53 ∨ c = 54 ∨ c = 55 ∨ c = 56 ∨ c = 57 ∨ c = 46 := by omega
  rcases e with rfl | rfl | rfl | rfl | rfl | rfl | rfl | rfl | rfl | rfl | rfl | rfl | rfl | rfl | rfl | rfl | rfl | rfl | rfl | rfl | rfl | rfl | rfl | rfl | rfl | rfl | rfl | rfl | rfl | rfl | rfl | rfl | rfl | rfl | rfl | rfl | rfl
  · exact ⟨.int 0, by kernel_rfl, by kernel_rfl⟩
  · exact ⟨.int 1, by kernel_rfl, by kernel_rfl⟩
  · exact ⟨.int 2, by kernel_rfl, by kernel_rfl⟩
  · exact ⟨.int 3, by kernel_rfl, by kernel_rfl⟩
  · exact ⟨.int 4, by kernel_rfl, by kernel_rfl⟩
  · exact ⟨.int 5, by kernel_rfl, by kernel_rfl⟩
  · exact ⟨.int 6, by kernel_rfl, by kernel_rfl⟩
  · exact ⟨.int 7, by kernel_rfl, by kernel_rfl⟩
  · exact ⟨.int 8, by kernel_rfl, by kernel_rfl⟩
  · exact ⟨.int 9, by kernel_rfl, by kernel_rfl⟩
  · exact ⟨.int 10, by kernel_rfl, by kernel_rfl⟩
  · exact ⟨.int 11, by kernel_rfl, by kernel_rfl⟩
  · exact ⟨.int 12, by kernel_rfl, by kernel_rfl⟩
  · exact ⟨.int 13, by kernel_rfl, by kernel_rfl⟩
  · exact ⟨.int 14, by kernel_rfl, by kernel_rfl⟩
  · exact ⟨.int 15, by kernel_rfl, by kernel_rfl⟩
  · exact ⟨.int 16, by kernel_rfl, by kernel_rfl⟩
  · exact ⟨.int 17, by kernel_rfl, by kernel_rfl⟩
  · exact ⟨.int 18, by kernel_rfl, by kernel_rfl⟩
  · exact ⟨.int 19, by kernel_rfl, by kernel_rfl⟩
  · exact ⟨.int 20, by kernel_rfl, by kernel_rfl⟩
  · exact ⟨.int 21, by kernel_rfl, by kernel_rfl⟩
  · exact ⟨.int 22, by kernel_rfl, by kernel_rfl⟩
  · exact ⟨.int 23, by kernel_rfl, by kernel_rfl⟩
  · exact ⟨.int 24, by kernel_rfl, by kernel_rfl⟩
  · exact ⟨.int 25, by kernel_rfl, by kernel_rfl⟩
  · exact ⟨.int 26, by kernel_rfl, by kernel_rfl⟩
  · exact ⟨.int 27, by kernel_rfl, by kernel_rfl⟩
  · exact ⟨.int 28, by kernel_rfl, by kernel_rfl⟩
  · exact ⟨.int 29, by kernel_rfl, by kernel_rfl⟩
  · exact ⟨.int 30, by kernel_rfl, by kernel_rfl⟩
  · exact ⟨.int 31, by kernel_rfl, by kernel_rfl⟩
  · exact ⟨.int 32, by kernel_rfl, by kernel_rfl⟩
  · exact ⟨.int 33, by kernel_rfl, by kernel_rfl⟩
  · exact ⟨.int 34, by kernel_rfl, by kernel_rfl⟩
  · exact ⟨.int 35, by kernel_rfl, by kernel_rfl⟩
  · exact ⟨.int 36, by kernel_rfl, by kernel_rfl⟩
theorem name_bytes_eq {z : Str} (hn : 1 ≤ n) (hz : z.length ≤ 1000) (ho : okCs z) : hd (specs Γ n) i_name_bytes [.str z] S = .ok (.tpx ((nameBy z).map .int)) S := by
  rw [run_name_bytes hn]
  have e1 := lc_str (Γ := Γ) (Os := specs Γ (n - 1)) (ρ := [some (.str z), none]) (S := S) (mt := false) (vs := [1]) (i := 1) (x := .var 0) (e := b_name_bytes_0) (z := z) (fun c => .int (c : Int)) (by simp) (by rw [szl]; omega) (fun c hc => by
    obtain ⟨i, f1, f2⟩ := sign_back (S := S) (ho c hc)
    simp [wipeE, b_name_bytes_0, f1, f2])
  rw [nwl_f] at e1
  have hl : 1 + z.cps.size ≤ 16777216 := by
    have : z.length = z.cps.size := rfl
    omega
  simp [runFn, f_name_bytes, b_name_bytes, len_str (S := S) (show z.length ≤ sizeLine by rw [szl]; omega), szl, e1, nameBy, hl, Function.comp_def]
theorem ty_kinds : tyM S v_KINDS = some "tuple" := rfl
theorem ki0 : bmtG .tindex v_KINDS [.str "past"] S = .ok (.int 0) S := by kernel_rfl
theorem ki1 : bmtG .tindex v_KINDS [.str "got"] S = .ok (.int 1) S := by kernel_rfl
theorem ki2 : bmtG .tindex v_KINDS [.str "do"] S = .ok (.int 2) S := by kernel_rfl
theorem ki3 : bmtG .tindex v_KINDS [.str "go"] S = .ok (.int 3) S := by kernel_rfl
theorem ki4 : bmtG .tindex v_KINDS [.str "rest"] S = .ok (.int 4) S := by kernel_rfl
theorem ki5 : bmtG .tindex v_KINDS [.str "stop"] S = .ok (.int 5) S := by kernel_rfl
theorem tix {nm : List Str} {m : Str} (h : m ∈ nm) : bmtG .tindex (.tpx (nm.map .str)) [.str m] S = .ok (.int (nm.idxOf m : Nat)) S := by
  rw [show bmtG .tindex = gTIndex from rfl]
  simp only [gTIndex, strsD_map]
  rw [if_pos h]
theorem pair_of_eq {x : Int} (hn : 1 ≤ n) : hd (specs Γ n) i_pair_of [.int x] S = .ok (.tpx ((pairB x).map .int)) S := by
  rw [run_pair_of hn]
  simp [runFn, f_pair_of, b_pair_of, szl, pairB]
theorem triple_of_eq {x : Int} (hn : 2 ≤ n) : hd (specs Γ n) i_triple_of [.int x] S = .ok (.tpx ((tripleB x).map .int)) S := by
  rw [run_triple_of (by omega)]
  simp [runFn, f_triple_of, b_triple_of, szl, tripleB, gMul_int (i := 256) (j := 256) (.inr (by decide)), pair_of_eq (show 1 ≤ n - 1 by omega), pairB]
theorem row_bytes_eq {nm : List Str} {x : Rw} (hn : 3 ≤ n) (hu : ∀ m ∈ x.used, m ∈ nm) : hd (specs Γ n) i_row_bytes [x.d, .tpx (nm.map .str)] S = .ok (.tpx ((x.by_ nm).map .int)) S := by
  rw [run_row_bytes (by omega)]
  have hp := fun x => pair_of_eq (n := n - 1) (S := S) (x := x) (by omega)
  have ht := fun x => triple_of_eq (n := n - 1) (S := S) (x := x) (by omega)
  cases x with
  | past m v a =>
    have hm := tix (S := S) (hu m (by simp [Rw.used]))
    have e0 : gIdx (.tup [.str "past", .str m, .int v, .int a]) (.int 0) S = .ok (.str "past") S := tup_at0 rfl
    simp [Rw.d, runFn, f_row_bytes, b_row_bytes, e0, ty_kinds, ki0, szl, sv_for, form0, cut1, gZip, src1, srcT, fuelOf, len1, forGo, srcAt, at1, putIt, b_row_bytes_0, hm, hp, ht, c1, c2, c3, Rw.by_, pairB, tripleB]
  | got m a =>
    have hm := tix (S := S) (hu m (by simp [Rw.used]))
    have e0 : gIdx (.tup [.str "got", .str m, .int a]) (.int 0) S = .ok (.str "got") S := tup_at0 rfl
    simp [Rw.d, runFn, f_row_bytes, b_row_bytes, e0, ty_kinds, ki1, szl, sv_for, form1, cut1, gZip, src1, srcT, fuelOf, len1, forGo, srcAt, at1, putIt, b_row_bytes_0, hm, hp, ht, c1, c2, c3, Rw.by_, pairB, tripleB]
  | do_ m =>
    have hm := tix (S := S) (hu m (by simp [Rw.used]))
    have e0 : gIdx (.tup [.str "do", .str m]) (.int 0) S = .ok (.str "do") S := tup_at0 rfl
    simp [Rw.d, runFn, f_row_bytes, b_row_bytes, e0, ty_kinds, ki2, szl, sv_for, form2, cut1, gZip, src1, srcT, fuelOf, len1, forGo, srcAt, at1, putIt, b_row_bytes_0, hm, hp, ht, c1, c2, c3, Rw.by_, pairB, tripleB]
  | go a =>
    have e0 : gIdx (.tup [.str "go", .int a]) (.int 0) S = .ok (.str "go") S := tup_at0 rfl
    simp [Rw.d, runFn, f_row_bytes, b_row_bytes, e0, ty_kinds, ki3, szl, sv_for, form3, cut1, gZip, src1, srcT, fuelOf, len1, forGo, srcAt, at1, putIt, b_row_bytes_0, hp, ht, c1, c2, c3, Rw.by_, pairB, tripleB]
  | rest =>
    have e0 : gIdx (.tup [.str "rest"]) (.int 0) S = .ok (.str "rest") S := tup_at0 rfl
    simp [Rw.d, runFn, f_row_bytes, b_row_bytes, e0, ty_kinds, ki4, szl, sv_for, form4, cut1, gZip, src1, srcT, fuelOf, len1, forGo, srcAt, at1, putIt, b_row_bytes_0, hp, ht, c1, c2, c3, Rw.by_, pairB, tripleB]
  | stop =>
    have e0 : gIdx (.tup [.str "stop"]) (.int 0) S = .ok (.str "stop") S := tup_at0 rfl
    simp [Rw.d, runFn, f_row_bytes, b_row_bytes, e0, ty_kinds, ki5, szl, sv_for, form5, cut1, gZip, src1, srcT, fuelOf, len1, forGo, srcAt, at1, putIt, b_row_bytes_0, hp, ht, c1, c2, c3, Rw.by_, pairB, tripleB]
end
end K71

set_option maxHeartbeats 4000000
/-! L18: the program's image. -/
namespace K71
open PySem PySem.Spec PyProof.Rows L2 Pv
theorem nameBy_len {z : Str} : (nameBy z).length = z.length + 1 := by simp [nameBy, Str.length]
theorem by_len {nm : List Str} {x : Rw} : (x.by_ nm).length ≤ 8 := by cases x <;> simp [Rw.by_, pairB, tripleB]
theorem flatMap_le {α : Type} {f : α → List Int} {m : Nat} : ∀ {l : List α}, (∀ x ∈ l, (f x).length ≤ m) → (l.flatMap f).length ≤ l.length * m
  | [], _ => by simp
  | x :: r, h => by
    have h1 := h x List.mem_cons_self
    have h2 := flatMap_le (l := r) (f := f) (m := m) fun y hy => h y (List.mem_cons_of_mem _ hy)
    rw [List.flatMap_cons, List.length_append, List.length_cons, Nat.succ_mul]
    omega
section
variable {n : Nat} {S0 S : Hs}
theorem extend_tpx {a : Nat} {xs zs : List D} (h : S[a]? = some (.lst xs)) (hl : xs.length + zs.length ≤ sizeLine) : bmtG .extend (.ref a) [.tpx zs] S = .ok .non (S.set a (.lst (xs ++ zs))) := by
  rw [show bmtG .extend = gExtend from rfl]
  simp [gExtend, mL, h, hl]
/-- a list that a loop makes longer -/
theorem grow_loop {α : Type} {xs : List α} {h_ : α → D} {f : α → List Int} {i : Nat} {body : Ev → Hs → SR} {pre : List Int} {src : Src} (T : List Int → Hs) (R_ : Option D → Ev) (hR : ∀ u d, (R_ u).set i (some d) = R_ (some d)) (hs : ∀ S j, srcAt S src j = some (xs[j]?.map fun x => Itm.d (h_ x)))
    (hb : ∀ x ∈ xs, ∀ (acc : List Int), acc.length ≤ pre.length + (xs.flatMap f).length → body (R_ (some (h_ x))) (T acc) = .nx (R_ (some (h_ x))) (T (acc ++ f x))) {fu : Nat} (hf : xs.length ≤ fu) {u0 : Option D} :
    ∃ u, forGo src (.v i) body fu 0 (R_ u0) (T pre) = .nx (R_ u) (T (pre ++ xs.flatMap f)) := by
  obtain ⟨ρ', S', e, u, rfl, rfl⟩ := forGo_nx (src := src) (tg := .v i) (body := body) (ρ := R_ u0) (S := T pre) (items := xs.map fun x => Itm.d (h_ x))
    (fun j ρ S => ∃ u, ρ = R_ u ∧ S = T (pre ++ (xs.take j).flatMap f)) (fun j ρ S _ => by rw [hs, List.getElem?_map])
    (by
      rintro j it ρ S e ⟨u, rfl, rfl⟩
      rw [List.getElem?_map] at e
      cases ex : xs[j]? with
      | none => rw [ex] at e; cases e
      | some x =>
        rw [ex] at e
        cases e
        obtain ⟨hj, hx⟩ := List.getElem?_eq_some_iff.mp ex
        refine ⟨_, _, _, rfl, ?_, some (h_ x), rfl, rfl⟩
        rw [hR, hb x (List.mem_of_getElem? ex) _ ?_]
        · rw [List.take_succ_eq_append_getElem hj, hx, List.flatMap_append, List.append_assoc]
          simp
        · rw [List.length_append]
          have h2 : xs.flatMap f = (xs.take j).flatMap f ++ (xs.drop j).flatMap f := by rw [← List.flatMap_append, List.take_append_drop]
          rw [h2, List.length_append]
          omega)
    (f := fu) ⟨u0, rfl, by simp⟩ (by simpa using hf)
  refine ⟨u, ?_⟩
  rw [e]
  simp
def tS (S0 : Hs) (acc : List Int) : Hs := S0 ++ [.lst (acc.map .int)]
theorem tS_at {acc : List Int} : (tS S0 acc)[S0.length]? = some (.lst (acc.map .int)) := by simp [tS]
theorem tS_set {acc bs : List Int} : (tS S0 acc).set S0.length (.lst (acc.map .int ++ bs.map .int)) = tS S0 (acc ++ bs) := by simp [tS]
theorem image_of_eq {cs : List Rw} (hn : 8 ≤ n) (hz : cs.length ≤ 10000) (hf : ∀ x ∈ cs, x.fits = true) (hc : codeB cs = true) (hu : (usedM cs).length < 64) (ho : ∀ z ∈ usedM cs, z.length ≤ 100 ∧ okCs z) :
    ∃ X, hd (specs Γ n) i_image_of [.tup (cs.map Rw.d)] S0 = .ok (.tup ((imgM cs).map .int)) (S0 ++ X) := by
  rw [run_image_of (by omega)]
  have em := moments_of_eq (n := n - 1) (S := S0) (cs := cs) (by omega) (by rw [szl]; omega) hf hc hu
  have hnm : (sSort (usedM cs)).length ≤ 64 := by have := sSort_len (l := usedM cs); omega
  have hno : ∀ z ∈ sSort (usedM cs), z.length ≤ 100 ∧ okCs z := fun z hz => ho z (sSort_mem.mp hz)
  have hmu : ∀ x ∈ cs, ∀ m ∈ x.used, m ∈ sSort (usedM cs) := fun x hx m hm => sSort_mem.mpr (List.mem_flatMap.mpr ⟨x, hx, hm⟩)
  unfold imgM
  generalize sSort (usedM cs) = nm at *
  have hp := fun x S => pair_of_eq (n := n - 1) (S := S) (x := x) (by omega)
  have pl : ∀ v, (pairB v).length = 2 := fun v => rfl
  have b1 := flatMap_le (f := nameBy) (m := 101) (l := nm) fun z hz => by rw [nameBy_len]; have := (hno z hz).1; omega
  have b2 := flatMap_le (f := Rw.by_ nm) (m := 8) (l := cs) fun x _ => by_len
  have b3 : nm.length * 101 ≤ 64 * 101 := Nat.mul_le_mul_right _ hnm
  have b4 : cs.length * 8 ≤ 10000 * 8 := Nat.mul_le_mul_right _ hz
  obtain ⟨u1, l1⟩ := grow_loop (xs := nm) (h_ := D.str) (f := nameBy) (i := 3) (body := svs Γ (specs Γ (n - 1)) b_image_of_1) (pre := [75, 72, 1] ++ pairB nm.length ++ pairB cs.length) (src := .one (.fx (nm.map .str))) (tS S0) (fun u => [some (.tup (cs.map Rw.d)), some (.tpx (nm.map .str)), some (.ref S0.length), u, none]) (fun _ _ => rfl) (fun S j => fxM j)
    (fun z hz acc ha => by
      have e1 := name_bytes_eq (n := n - 1) (S := tS S0 acc) (z := z) (by omega) (by have := (hno z hz).1; omega) (hno z hz).2
      have e2 := extend_tpx (zs := (nameBy z).map .int) (tS_at (S0 := S0) (acc := acc)) (by
        have := (hno z hz).1
        rw [szl, List.length_map, List.length_map, nameBy_len]
        simp only [List.length_append, pl, List.length_cons, List.length_nil] at ha
        omega)
      rw [tS_set] at e2
      simp [b_image_of_1, e1, e2, ty_ref tS_at])
    (fu := nm.length) (Nat.le_refl _) (u0 := none)
  obtain ⟨u2, l2⟩ := grow_loop (xs := cs) (h_ := Rw.d) (f := Rw.by_ nm) (i := 4) (body := svs Γ (specs Γ (n - 1)) b_image_of_0) (pre := [75, 72, 1] ++ pairB nm.length ++ pairB cs.length ++ nm.flatMap nameBy) (src := .one (.fx (cs.map Rw.d))) (tS S0) (fun u => [some (.tup (cs.map Rw.d)), some (.tpx (nm.map .str)), some (.ref S0.length), u1, u]) (fun _ _ => rfl) (fun S j => fxM j)
    (fun x hx acc ha => by
      have e1 := row_bytes_eq (n := n - 1) (S := tS S0 acc) (nm := nm) (x := x) (by omega) (hmu x hx)
      have e2 := extend_tpx (zs := (x.by_ nm).map .int) (tS_at (S0 := S0) (acc := acc)) (by
        have := by_len (nm := nm) (x := x)
        rw [szl, List.length_map, List.length_map]
        simp only [List.length_append, pl, List.length_cons, List.length_nil] at ha
        omega)
      rw [tS_set] at e2
      simp [b_image_of_0, e1, e2, ty_ref tS_at])
    (fu := cs.length) (Nat.le_refl _) (u0 := none)
  have el : S0 ++ [O.lst (D.int 75 :: D.int 72 :: D.int 1 :: ((pairB nm.length).map .int ++ (pairB cs.length).map .int))] = tS S0 ([75, 72, 1] ++ pairB nm.length ++ pairB cs.length) := by
    simp [tS]
  have e5 := sum_over_ref (n := n - 1) (by omega) (tS_at (S0 := S0) (acc := bodyM nm cs))
  have e6 := tupl_ref (tS_at (S0 := S0) (acc := bodyM nm cs))
  have e7 : (bodyM nm cs).length + 2 ≤ 16777216 := by
    simp only [bodyM, List.length_append, pl, List.length_cons, List.length_nil]
    omega
  rw [show [75, 72, 1] ++ pairB nm.length ++ pairB cs.length ++ nm.flatMap nameBy ++ cs.flatMap (Rw.by_ nm) = bodyM nm cs from rfl] at l2
  refine ⟨[.lst ((bodyM nm cs).map .int)], ?_⟩
  rw [show S0 ++ [O.lst ((bodyM nm cs).map .int)] = tS S0 (bodyM nm cs) from rfl]
  generalize [75, 72, 1] ++ pairB nm.length ++ pairB cs.length = A at el l1 l2
  generalize A ++ nm.flatMap nameBy = B at l1 l2
  simp [runFn, f_image_of, b_image_of, em, hp, szl, pl, v_HEAD, sv_for, el, l1, l2, e5, e6, e7]
end
end K71

set_option maxHeartbeats 4000000
/-! L19: the law's own image: rows. -/
namespace K71
open PySem PySem.Spec PyProof.Rows L2 Pv
/-- a list of integers at p, behind S0 -/
structure FL (S0 S : Hs) (p : Nat) (acc : List Int) : Prop where
  le : S0.length ≤ p
  at_ : S[p]? = some (.lst (acc.map .int))
  ex : ∃ X, S = S0 ++ X
section
variable {n : Nat} {S0 S : Hs} {p : Nat} {acc bs : List Int}
theorem FL.app (h : FL S0 S p acc) : FL S0 (S.set p (.lst (acc.map .int ++ bs.map .int))) p (acc ++ bs) := by
  obtain ⟨X, hX⟩ := h.ex
  have hl : p < S.length := (List.getElem?_eq_some_iff.mp h.at_).1
  refine ⟨h.le, by rw [List.getElem?_set_self hl, List.map_append], X.set (p - S0.length) (.lst (acc.map .int ++ bs.map .int)), ?_⟩
  rw [hX, List.set_append, if_neg (by have := h.le; omega)]
theorem FL.new (h : FL S0 S p acc) : FL S0 (S ++ [.lst (bs.map .int)]) S.length bs := by
  obtain ⟨X, hX⟩ := h.ex
  refine ⟨?_, by simp, X ++ [.lst (bs.map .int)], by rw [hX, List.append_assoc]⟩
  rw [hX]
  simp
theorem addm_ref (h : FL S0 S p acc) (hl : acc.length + bs.length ≤ sizeLine) : bopG .addm (.ref p) (.lv (bs.map .int)) S = .ok (.ref S.length) (S ++ [.lst ((acc ++ bs).map .int)]) := by
  rw [show bopG .addm = gAddm from rfl]
  simp [gAddm, lOf, h.at_, hl]
theorem addm_lv {as : List Int} (hl : as.length + bs.length ≤ sizeLine) : bopG .addm (.lv (as.map .int)) (.lv (bs.map .int)) S = .ok (.ref S.length) (S ++ [.lst ((as ++ bs).map .int)]) := by
  rw [show bopG .addm = gAddm from rfl]
  simp [gAddm, lOf, hl]
theorem add_ref (h : FL S0 S p acc) (hl : acc.length + bs.length ≤ sizeLine) : bopG .add (.ref p) (.lv (bs.map .int)) S = .ok (.lv ((acc ++ bs).map .int)) S := by
  rw [show bopG .add = gAdd from rfl]
  simp [gAdd, sOf, lOf, h.at_, hl]
theorem app_fl {b : Int} (h : FL S0 S p acc) (hl : acc.length < sizeLine) : bmtG .append (.ref p) [.int b] S = .ok .non (S.set p (.lst (acc.map .int ++ [b].map .int))) := append_ref h.at_ (by simpa using hl)
theorem idxV_strs {m : Str} : ∀ {nm : List Str}, m ∈ nm → idxV (.str m) (nm.map .str) = some (nm.idxOf m)
  | [], h => by cases h
  | x :: r, h => by
    rw [List.map_cons, idxV, show eqV (.str x) (.str m) = (x == m) from rfl, List.idxOf_cons]
    cases hx : x == m with
    | true => simp
    | false =>
      have hm : m ∈ r := by
        rcases List.mem_cons.mp h with h | h
        · subst h
          rw [beq_self_eq_true] at hx
          cases hx
        · exact h
      simp [idxV_strs hm]
theorem lix {nm : List Str} {m : Str} (h : m ∈ nm) : bmtG .index (.lv (nm.map .str)) [.str m] S = .ok (.int (nm.idxOf m : Nat)) S := by
  rw [show bmtG .index = gIndex from rfl]
  simp only [gIndex, sOf, fv, fvs_strs, idxV_strs h]
theorem law_pair_B {v : Int} (hn : 1 ≤ n) : hd (specs Γ n) i__law_pair [.int v] S = .ok (.lv ((pairB v).map .int)) S := law_pair_eq hn
theorem tup_last {r : List D} {d : D} (h : r.getLast? = some d) : gIdx (.tup r) (.int (-1)) S = .ok d S := by
  simp only [gIdx, dOf, sOf]
  rw [atI_last h]
  rfl
theorem li0 : bmtG .index (.lv [.str "past", .str "got", .str "do", .str "go", .str "rest", .str "stop"]) [.str "past"] S = .ok (.int 0) S := by kernel_rfl
theorem ip0 : copG .in_ (.str "past") (.lv [.str "past", .str "got", .str "do"]) S = .ok (.bl true) S := by kernel_rfl
theorem iq0 : copG .in_ (.str "past") (.lv [.str "past", .str "got", .str "go"]) S = .ok (.bl true) S := by kernel_rfl
theorem li1 : bmtG .index (.lv [.str "past", .str "got", .str "do", .str "go", .str "rest", .str "stop"]) [.str "got"] S = .ok (.int 1) S := by kernel_rfl
theorem ip1 : copG .in_ (.str "got") (.lv [.str "past", .str "got", .str "do"]) S = .ok (.bl true) S := by kernel_rfl
theorem iq1 : copG .in_ (.str "got") (.lv [.str "past", .str "got", .str "go"]) S = .ok (.bl true) S := by kernel_rfl
theorem sp1 : (("got" : Str) == "past") = false := by decide +kernel
theorem li2 : bmtG .index (.lv [.str "past", .str "got", .str "do", .str "go", .str "rest", .str "stop"]) [.str "do"] S = .ok (.int 2) S := by kernel_rfl
theorem ip2 : copG .in_ (.str "do") (.lv [.str "past", .str "got", .str "do"]) S = .ok (.bl true) S := by kernel_rfl
theorem iq2 : copG .in_ (.str "do") (.lv [.str "past", .str "got", .str "go"]) S = .ok (.bl false) S := by kernel_rfl
theorem sp2 : (("do" : Str) == "past") = false := by decide +kernel
theorem li3 : bmtG .index (.lv [.str "past", .str "got", .str "do", .str "go", .str "rest", .str "stop"]) [.str "go"] S = .ok (.int 3) S := by kernel_rfl
theorem ip3 : copG .in_ (.str "go") (.lv [.str "past", .str "got", .str "do"]) S = .ok (.bl false) S := by kernel_rfl
theorem iq3 : copG .in_ (.str "go") (.lv [.str "past", .str "got", .str "go"]) S = .ok (.bl true) S := by kernel_rfl
theorem sp3 : (("go" : Str) == "past") = false := by decide +kernel
theorem li4 : bmtG .index (.lv [.str "past", .str "got", .str "do", .str "go", .str "rest", .str "stop"]) [.str "rest"] S = .ok (.int 4) S := by kernel_rfl
theorem ip4 : copG .in_ (.str "rest") (.lv [.str "past", .str "got", .str "do"]) S = .ok (.bl false) S := by kernel_rfl
theorem iq4 : copG .in_ (.str "rest") (.lv [.str "past", .str "got", .str "go"]) S = .ok (.bl false) S := by kernel_rfl
theorem sp4 : (("rest" : Str) == "past") = false := by decide +kernel
theorem li5 : bmtG .index (.lv [.str "past", .str "got", .str "do", .str "go", .str "rest", .str "stop"]) [.str "stop"] S = .ok (.int 5) S := by kernel_rfl
theorem ip5 : copG .in_ (.str "stop") (.lv [.str "past", .str "got", .str "do"]) S = .ok (.bl false) S := by kernel_rfl
theorem iq5 : copG .in_ (.str "stop") (.lv [.str "past", .str "got", .str "go"]) S = .ok (.bl false) S := by kernel_rfl
theorem sp5 : (("stop" : Str) == "past") = false := by decide +kernel
abbrev kindsD : D := .lv [.str "past", .str "got", .str "do", .str "go", .str "rest", .str "stop"]
theorem law_img_row {nm : List Str} {x : Rw} {c : D} {a b e : Option D} (hn : 2 ≤ n) (h : FL S0 S p acc) (hl : acc.length < 1000000) (hu : ∀ m ∈ x.used, m ∈ nm) :
    ∃ p' S', svs Γ (specs Γ n) b__law_image_0 [some c, some (.lv (nm.map .str)), some (.ref p), a, some kindsD, some x.d, b, e] S = .nx [some c, some (.lv (nm.map .str)), some (.ref p'), a, some kindsD, some x.d, b, e] S' ∧ FL S0 S' p' (acc ++ x.by_ nm) := by
  have pl : ∀ v, (pairB v).length = 2 := fun v => rfl
  have hp := fun v S => law_pair_B (n := n) (S := S) (v := v) (by omega)
  cases x with
  | past m v a =>
    have e0 : ∀ S, gIdx (.tup [.str "past", .str m, .int v, .int a]) (.int 0) S = .ok (.str "past") S := fun S => tup_at0 rfl
    have hm := fun S => lix (S := S) (hu m (by simp [Rw.used]))
    have e1 : ∀ S, gIdx (.tup [.str "past", .str m, .int v, .int a]) (.int 1) S = .ok (.str m) S := fun S => tup_at1 rfl
    have e2 : ∀ S, gIdx (.tup [.str "past", .str m, .int v, .int a]) (.int (-1)) S = .ok (.int a) S := fun S => tup_last rfl
    have e3 : ∀ S, gIdx (.tup [.str "past", .str m, .int v, .int a]) (.int 2) S = .ok (.int v) S := fun S => tup_at (i := 2) rfl
    have a1 := app_fl (b := 0) h (by rw [szl]; omega)
    have t1 := ty_ref h.at_
    have h1 := h.app (bs := [0])
    generalize S.set p (.lst (acc.map .int ++ [0].map .int)) = S1 at a1 h1
    have a2 := addm_ref (bs := pairB (nm.idxOf m : Nat)) h1 (by rw [szl, pl]; simp; omega)
    have h2 := h1.new (bs := acc ++ [0] ++ pairB (nm.idxOf m : Nat))
    generalize S1 ++ [.lst ((acc ++ [0] ++ pairB (nm.idxOf m : Nat)).map .int)] = S2 at a2 h2
    generalize S1.length = p2 at a2 h2
    have a3 := add_ref (bs := [v.fdiv 65536]) h2 (by rw [szl]; simp [pl]; omega)
    have a4 := addm_lv (S := S2) (as := acc ++ [0] ++ pairB (nm.idxOf m : Nat) ++ [v.fdiv 65536]) (bs := pairB (v.fmod 65536)) (by rw [szl]; simp [pl]; omega)
    have h3 := h2.new (bs := acc ++ [0] ++ pairB (nm.idxOf m : Nat) ++ [v.fdiv 65536] ++ pairB (v.fmod 65536))
    generalize S2 ++ [.lst ((acc ++ [0] ++ pairB (nm.idxOf m : Nat) ++ [v.fdiv 65536] ++ pairB (v.fmod 65536)).map .int)] = S3 at a4 h3
    generalize S2.length = p3 at a4 h3
    have a5 := addm_ref (bs := pairB a) h3 (by rw [szl]; simp [pl]; omega)
    have h5 := h3.new (bs := acc ++ [0] ++ pairB (nm.idxOf m : Nat) ++ [v.fdiv 65536] ++ pairB (v.fmod 65536) ++ pairB a)
    generalize S3 ++ [.lst ((acc ++ [0] ++ pairB (nm.idxOf m : Nat) ++ [v.fdiv 65536] ++ pairB (v.fmod 65536) ++ pairB a).map .int)] = S5 at a5 h5
    generalize S3.length = p5 at a5 h5
    refine ⟨p5, S5, ?_, by simpa [Rw.by_, tripleB, pairB] using h5⟩
    generalize (acc ++ [0] ++ pairB (nm.idxOf m : Nat) ++ [v.fdiv 65536]).map D.int = L at a3 a4
    simp only [List.map_cons, List.map_nil] at a3
    simp [Rw.d, b__law_image_0, szl, e0, a1, t1, li0, ip0, iq0, hp, hm, e1, a2, a3, a4, e3, a5, e2]
  | got m a =>
    have e0 : ∀ S, gIdx (.tup [.str "got", .str m, .int a]) (.int 0) S = .ok (.str "got") S := fun S => tup_at0 rfl
    have hm := fun S => lix (S := S) (hu m (by simp [Rw.used]))
    have e1 : ∀ S, gIdx (.tup [.str "got", .str m, .int a]) (.int 1) S = .ok (.str m) S := fun S => tup_at1 rfl
    have e2 : ∀ S, gIdx (.tup [.str "got", .str m, .int a]) (.int (-1)) S = .ok (.int a) S := fun S => tup_last rfl
    have a1 := app_fl (b := 1) h (by rw [szl]; omega)
    have t1 := ty_ref h.at_
    have h1 := h.app (bs := [1])
    generalize S.set p (.lst (acc.map .int ++ [1].map .int)) = S1 at a1 h1
    have a2 := addm_ref (bs := pairB (nm.idxOf m : Nat)) h1 (by rw [szl, pl]; simp; omega)
    have h2 := h1.new (bs := acc ++ [1] ++ pairB (nm.idxOf m : Nat))
    generalize S1 ++ [.lst ((acc ++ [1] ++ pairB (nm.idxOf m : Nat)).map .int)] = S2 at a2 h2
    generalize S1.length = p2 at a2 h2
    have a3 := addm_ref (bs := pairB a) h2 (by rw [szl]; simp [pl]; omega)
    have h3 := h2.new (bs := acc ++ [1] ++ pairB (nm.idxOf m : Nat) ++ pairB a)
    generalize S2 ++ [.lst ((acc ++ [1] ++ pairB (nm.idxOf m : Nat) ++ pairB a).map .int)] = S3 at a3 h3
    generalize S2.length = p3 at a3 h3
    refine ⟨p3, S3, ?_, by simpa [Rw.by_, tripleB, pairB] using h3⟩
    simp [Rw.d, b__law_image_0, szl, e0, a1, t1, li1, ip1, iq1, hp, hm, e1, a2, a3, e2, sp1]
  | do_ m =>
    have e0 : ∀ S, gIdx (.tup [.str "do", .str m]) (.int 0) S = .ok (.str "do") S := fun S => tup_at0 rfl
    have hm := fun S => lix (S := S) (hu m (by simp [Rw.used]))
    have e1 : ∀ S, gIdx (.tup [.str "do", .str m]) (.int 1) S = .ok (.str m) S := fun S => tup_at1 rfl
    have a1 := app_fl (b := 2) h (by rw [szl]; omega)
    have t1 := ty_ref h.at_
    have h1 := h.app (bs := [2])
    generalize S.set p (.lst (acc.map .int ++ [2].map .int)) = S1 at a1 h1
    have a2 := addm_ref (bs := pairB (nm.idxOf m : Nat)) h1 (by rw [szl, pl]; simp; omega)
    have h2 := h1.new (bs := acc ++ [2] ++ pairB (nm.idxOf m : Nat))
    generalize S1 ++ [.lst ((acc ++ [2] ++ pairB (nm.idxOf m : Nat)).map .int)] = S2 at a2 h2
    generalize S1.length = p2 at a2 h2
    refine ⟨p2, S2, ?_, by simpa [Rw.by_, tripleB, pairB] using h2⟩
    simp [Rw.d, b__law_image_0, szl, e0, a1, t1, li2, ip2, iq2, hp, hm, e1, a2, sp2]
  | go a =>
    have e0 : ∀ S, gIdx (.tup [.str "go", .int a]) (.int 0) S = .ok (.str "go") S := fun S => tup_at0 rfl
    have e2 : ∀ S, gIdx (.tup [.str "go", .int a]) (.int (-1)) S = .ok (.int a) S := fun S => tup_last rfl
    have a1 := app_fl (b := 3) h (by rw [szl]; omega)
    have t1 := ty_ref h.at_
    have h1 := h.app (bs := [3])
    generalize S.set p (.lst (acc.map .int ++ [3].map .int)) = S1 at a1 h1
    have a2 := addm_ref (bs := pairB a) h1 (by rw [szl]; simp [pl]; omega)
    have h2 := h1.new (bs := acc ++ [3] ++ pairB a)
    generalize S1 ++ [.lst ((acc ++ [3] ++ pairB a).map .int)] = S2 at a2 h2
    generalize S1.length = p2 at a2 h2
    refine ⟨p2, S2, ?_, by simpa [Rw.by_, tripleB, pairB] using h2⟩
    simp [Rw.d, b__law_image_0, szl, e0, a1, t1, li3, ip3, iq3, hp, a2, e2, sp3]
  | rest =>
    have e0 : ∀ S, gIdx (.tup [.str "rest"]) (.int 0) S = .ok (.str "rest") S := fun S => tup_at0 rfl
    have a1 := app_fl (b := 4) h (by rw [szl]; omega)
    have t1 := ty_ref h.at_
    have h1 := h.app (bs := [4])
    generalize S.set p (.lst (acc.map .int ++ [4].map .int)) = S1 at a1 h1
    refine ⟨p, S1, ?_, by simpa [Rw.by_, tripleB, pairB] using h1⟩
    simp [Rw.d, b__law_image_0, szl, e0, a1, t1, li4, ip4, iq4, hp, sp4]
  | stop =>
    have e0 : ∀ S, gIdx (.tup [.str "stop"]) (.int 0) S = .ok (.str "stop") S := fun S => tup_at0 rfl
    have a1 := app_fl (b := 5) h (by rw [szl]; omega)
    have t1 := ty_ref h.at_
    have h1 := h.app (bs := [5])
    generalize S.set p (.lst (acc.map .int ++ [5].map .int)) = S1 at a1 h1
    refine ⟨p, S1, ?_, by simpa [Rw.by_, tripleB, pairB] using h1⟩
    simp [Rw.d, b__law_image_0, szl, e0, a1, t1, li5, ip5, iq5, hp, sp5]
end
end K71

set_option maxHeartbeats 4000000
/-! L20: the law's own image. -/
namespace K71
open PySem PySem.Spec PyProof.Rows L2 Pv
theorem filter_range {c : Nat} : ∀ {n : Nat}, c < n → (List.range n).filter (fun i => decide (i = c)) = [c]
  | 0, h => by omega
  | n + 1, h => by
    rw [List.range_succ, List.filter_append]
    by_cases e : n = c
    · subst e
      have : (List.range n).filter (fun i => decide (i = n)) = [] := by
        rw [List.filter_eq_nil_iff]
        intro i hi
        have := List.mem_range.mp hi
        simp
        omega
      rw [this]
      simp
    · rw [filter_range (by omega)]
      simp [e]
theorem str1_inj {a b : Nat} : ((⟨#[a]⟩ : Str) == ⟨#[b]⟩) = decide (a = b) := by
  by_cases h : a = b
  · subst h
    simp
  · rw [decide_eq_false h, beq_eq_false_iff_ne]
    intro e
    injection e with e
    injection e with e
    injection e with e
    exact h e
section
variable {n : Nat} {S0 S : Hs} {p : Nat} {acc bs : List Int}
theorem sign_num {c : Nat} {b1 b2 b3 b4 b5 b6 b7 : Option D} (hn : 1 ≤ n) (hc : okS (c : Int) = true) : ev Γ (specs Γ n) (.lc false [7] (.v 7) (.rng (.cons (.int 123) .nil)) (.some b__law_image_1) b__law_image_2) [b1, b2, b3, b4, b5, b6, some (.str ⟨#[c]⟩), b7] S = .ok (.lv [.int (c : Int)]) S := by
  have hc' := of_decide_eq_true hc
  rw [ev_lc_mapif (xs := List.range 123) (src := .rng 0 123) (S1 := S) (fun (i : Nat) => Itm.d (.int (0 + (i : Int)))) (fun i => decide (i = c)) (fun i => D.int (i : Int)) ?h1 (fun j => by rw [src_rng, List.getElem?_map]) (by simp) (by rw [szl]; simp) ?h2]
  case h1 => simp [rng1 (S := S) (j := 123) (by decide)]
  case h2 =>
    intro i hi
    refine ⟨_, rfl, ?_, fun _ => ?_⟩
    · have ez : (0 : Int) + (i : Int) = (i : Int) := by omega
      rw [ez]
      cases ho : okS (i : Int) with
      | true =>
        have es := law_sign_ok (n := n) (S := S) hn ho
        rw [Int.toNat_natCast] at es
        simp [wipeE, b__law_image_1, es]
        rw [str1_inj]
      | false =>
        have es := law_sign_no (n := n) (S := S) hn ho
        have hne : ¬ i = c := fun e => by subst e; rw [ho] at hc; cases hc
        have hs : (("" : Str) == ⟨#[c]⟩) = false := by
          rw [str_nil, beq_eq_false_iff_ne]
          intro e
          injection e with e
          injection e with e
          cases e
        simp [wipeE, b__law_image_1, es, hne]
        simpa using hs
    · simp [wipeE, b__law_image_2]
  · rw [nwl_f, filter_range (by omega)]
    rfl
theorem law_sign_loop {z : Str} {b1 b2 b4 b5 : Option D} (hn : 1 ≤ n) (h : FL S0 S p acc) (hl : acc.length + z.length < 1000000) (ho : okCs z) {u v : Option D} : ∃ S' u' , forGo (.str z) (.v 6) (svs Γ (specs Γ n) b__law_image_3) z.cps.size 0 [b1, b2, some (.ref p), some (.str z), b4, b5, u, v] S = .nx [b1, b2, some (.ref p), some (.str z), b4, b5, u', v] S' ∧ FL S0 S' p (acc ++ z.cps.toList.map fun (c : Nat) => (c : Int)) := by
  obtain ⟨ρ', S', e, u, rfl, hF⟩ := forGo_nx (src := .str z) (tg := .v 6) (body := svs Γ (specs Γ n) b__law_image_3) (ρ := [b1, b2, some (.ref p), some (.str z), b4, b5, u, v]) (S := S) (items := z.cps.toList.map fun c => Itm.d (.str ⟨#[c]⟩))
    (fun j ρ S => ∃ u, ρ = [b1, b2, some (.ref p), some (.str z), b4, b5, u, v] ∧ FL S0 S p (acc ++ (z.cps.toList.take j).map fun (c : Nat) => (c : Int))) (fun j ρ S _ => src_str)
    (by
      rintro j it ρ S e ⟨u, rfl, hF⟩
      rw [List.getElem?_map] at e
      cases ex : z.cps.toList[j]? with
      | none => rw [ex] at e; cases e
      | some c =>
        rw [ex] at e
        cases e
        obtain ⟨hj, hx⟩ := List.getElem?_eq_some_iff.mp ex
        have hc := ho c (List.mem_of_getElem? ex)
        have a1 := app_fl (b := (c : Int)) hF (by
          rw [szl]
          simp only [List.length_append, List.length_map, List.length_take]
          have : z.length = z.cps.toList.length := by simp [Str.length]
          omega)
        have h1 := hF.app (bs := [(c : Int)])
        have t1 := ty_ref hF.at_
        have e0 : gIdx (.lv [.int (c : Int)]) (.int 0) S = .ok (.int (c : Int)) S := by simp [gIdx, dOf, sOf, atI, ixN, oR]
        generalize S.set p (.lst ((acc ++ (z.cps.toList.take j).map fun (c : Nat) => (c : Int)).map .int ++ [(c : Int)].map .int)) = S1 at a1 h1
        refine ⟨_, [b1, b2, some (.ref p), some (.str z), b4, b5, some (.str ⟨#[c]⟩), v], S1, rfl, ?_, some (.str ⟨#[c]⟩), rfl, ?_⟩
        · simp [b__law_image_3, t1, sign_num hn hc, e0, a1]
        · rw [List.take_succ_eq_append_getElem hj, hx, List.map_append, ← List.append_assoc]
          exact h1)
    (f := z.cps.size) ⟨u, rfl, by simpa using h⟩ (by simp)
  refine ⟨S', u, e, ?_⟩
  rw [List.length_map, List.take_length] at hF
  exact hF
theorem law_name_img {z : Str} {b1 b2 b4 b5 : Option D} (hn : 1 ≤ n) (h : FL S0 S p acc) (hl : acc.length + z.length < 900000) (ho : okCs z) {u v : Option D} : ∃ S' u', svs Γ (specs Γ n) b__law_image_4 [b1, b2, some (.ref p), some (.str z), b4, b5, u, v] S = .nx [b1, b2, some (.ref p), some (.str z), b4, b5, u', v] S' ∧ FL S0 S' p (acc ++ nameBy z) := by
  have a1 := app_fl (b := (z.length : Int)) h (by rw [szl]; omega)
  have t1 := ty_ref h.at_
  have h1 := h.app (bs := [(z.length : Int)])
  generalize S.set p (.lst (acc.map .int ++ [(z.length : Int)].map .int)) = S1 at a1 h1
  obtain ⟨S', u', e, hF⟩ := law_sign_loop (b1 := b1) (b2 := b2) (b4 := b4) (b5 := b5) (u := u) (v := v) hn h1 (by simp; omega) ho
  refine ⟨S', u', ?_, by simpa [nameBy] using hF⟩
  simp [b__law_image_4, len_str (S := S) (show z.length ≤ sizeLine by rw [szl]; omega), a1, t1, sv_for, gSrc, fuelOf, e]
theorem law_sum_gen {d : D} {src : Src} {xs : List Int} (hn : 1 ≤ n) (hs : gSrc d S = .ok src S) (hsrc : ∀ j, srcAt S src j = some ((xs.map D.int).map Itm.d)[j]?) (hf : xs.length ≤ fuelOf S src) : hd (specs Γ n) i__law_sum [d] S = .ok (.int (sumM xs)) S := by
  rw [run__law_sum hn]
  simp [runFn, f__law_sum, b__law_sum, sv_for, hs]
  obtain ⟨ρ', S', e, t, rfl, rfl⟩ := forGo_nx (src := src) (tg := .v 2) (body := svs Γ (specs Γ (n - 1)) b__law_sum_0) (ρ := [some d, some (.int 0), none]) (S := S) (items := (xs.map D.int).map Itm.d)
    (fun j ρ S' => ∃ u, ρ = [some d, some (.int (sumM (xs.take j))), u] ∧ S' = S) (by rintro j ρ S' ⟨u, rfl, rfl⟩; exact hsrc j)
    (by
      rintro j it ρ S' e ⟨u, rfl, rfl⟩
      rw [List.getElem?_map, List.getElem?_map] at e
      cases ex : xs[j]? with
      | none => rw [ex] at e; cases e
      | some x =>
        rw [ex] at e
        cases e
        have hj : j < xs.length := (List.getElem?_eq_some_iff.mp ex).1
        refine ⟨_, _, _, rfl, ?_, some (.int x), rfl, rfl⟩
        simp [b__law_sum_0, gMul_int (j := 31) (.inr (by decide)), gMod_int (j := 65521) (by decide)]
        rw [List.take_succ_eq_append_getElem hj, (List.getElem?_eq_some_iff.mp ex).2, sumM, sumM, List.foldl_append]
        rfl)
    (f := fuelOf S src) ⟨none, rfl, rfl⟩ (by simpa using hf)
  rw [e]
  simp
theorem law_sum_ref {a : Nat} {xs : List Int} (hn : 1 ≤ n) (h : S[a]? = some (.lst (xs.map .int))) : hd (specs Γ n) i__law_sum [.ref a] S = .ok (.int (sumM xs)) S :=
  law_sum_gen hn (src_ref h) (fun j => src_dy h) (by simp [fuelOf, len1, h])
theorem in_pgdL (S : Hs) (x : Rw) : ∃ r, x.d = .tup r ∧ (∃ k, r[0]? = some (.str k) ∧ copG .in_ (.str k) (.lv [.str "past", .str "got", .str "do"]) S = .ok (.bl (!x.used.isEmpty)) S) ∧ (x.used.isEmpty = false → r[1]? = some (.str (x.used.headD ""))) := by
  cases x
  · exact ⟨_, rfl, ⟨_, rfl, by kernel_rfl⟩, fun _ => rfl⟩
  · exact ⟨_, rfl, ⟨_, rfl, by kernel_rfl⟩, fun _ => rfl⟩
  · exact ⟨_, rfl, ⟨_, rfl, by kernel_rfl⟩, fun _ => rfl⟩
  · exact ⟨_, rfl, ⟨_, rfl, by kernel_rfl⟩, fun h => by cases h⟩
  · exact ⟨_, rfl, ⟨_, rfl, by kernel_rfl⟩, fun h => by cases h⟩
  · exact ⟨_, rfl, ⟨_, rfl, by kernel_rfl⟩, fun h => by cases h⟩
/-- .. as a loop over FL -/
theorem fl_loop {α : Type} {xs : List α} {h_ : α → D} {f : α → List Int} {i : Nat} {body : Ev → Hs → SR} {src : Src} (R_ : Nat → Option D → Option D → Ev) (hR : ∀ p u v d, (R_ p u v).set i (some d) = R_ p (some d) v) (hs : ∀ S j, srcAt S src j = some (xs[j]?.map fun x => Itm.d (h_ x)))
    (hb : ∀ x ∈ xs, ∀ (p : Nat) (acc : List Int) (S : Hs) (v : Option D), FL S0 S p acc → acc.length ≤ bs.length + (xs.flatMap f).length → ∃ p' S' v', body (R_ p (some (h_ x)) v) S = .nx (R_ p' (some (h_ x)) v') S' ∧ FL S0 S' p' (acc ++ f x)) {fu : Nat} (hf : xs.length ≤ fu) {u0 v0 : Option D} (h : FL S0 S p bs) :
    ∃ p' u v S', forGo src (.v i) body fu 0 (R_ p u0 v0) S = .nx (R_ p' u v) S' ∧ FL S0 S' p' (bs ++ xs.flatMap f) := by
  obtain ⟨ρ', S', e, p', u, v, rfl, hF⟩ := forGo_nx (src := src) (tg := .v i) (body := body) (ρ := R_ p u0 v0) (S := S) (items := xs.map fun x => Itm.d (h_ x))
    (fun j ρ S => ∃ p u v, ρ = R_ p u v ∧ FL S0 S p (bs ++ (xs.take j).flatMap f)) (fun j ρ S _ => by rw [hs, List.getElem?_map])
    (by
      rintro j it ρ S e ⟨p, u, v, rfl, hF⟩
      rw [List.getElem?_map] at e
      cases ex : xs[j]? with
      | none => rw [ex] at e; cases e
      | some x =>
        rw [ex] at e
        cases e
        obtain ⟨hj, hx⟩ := List.getElem?_eq_some_iff.mp ex
        obtain ⟨p', S', v', e1, h1⟩ := hb x (List.mem_of_getElem? ex) p _ S v hF (by
          rw [List.length_append]
          have h2 : xs.flatMap f = (xs.take j).flatMap f ++ (xs.drop j).flatMap f := by rw [← List.flatMap_append, List.take_append_drop]
          rw [h2, List.length_append]
          omega)
        refine ⟨_, _, S', rfl, ?_, p', some (h_ x), v', rfl, ?_⟩
        · rw [hR, e1]
        · rw [List.take_succ_eq_append_getElem hj, hx, List.flatMap_append, ← List.append_assoc]
          simpa using h1)
    (f := fu) ⟨p, u0, v0, rfl, by simpa using h⟩ (by simpa using hf)
  refine ⟨p', u, v, S', e, ?_⟩
  simpa using hF
theorem law_image_eq {cs : List Rw} (hn : 4 ≤ n) (hz : cs.length ≤ 10000) (hu : (usedM cs).length < 64) (ho : ∀ z ∈ usedM cs, z.length ≤ 100 ∧ okCs z) :
    ∃ X, hd (specs Γ n) i__law_image [.tup (cs.map Rw.d)] S0 = .ok (.tup ((imgM cs).map .int)) (S0 ++ X) := by
  rw [run__law_image (by omega)]
  have e1 := lcM_if (Γ := Γ) (Os := specs Γ (n - 1)) (ρ := [some (.tup (cs.map Rw.d)), none, none, none, none, none, none, none]) (S := S0) (mt := false) (vs := [5]) (i := 5) (x := .var 0) (c := b__law_image_5) (e := b__law_image_6) (xs := cs) (h_ := Rw.d) (d := .tup (cs.map Rw.d)) (fun x => !x.used.isEmpty) (fun x => D.str (x.used.headD "")) (by simp) rfl (by rw [szl]; omega) (fun x hx => by
    obtain ⟨r, e1, ⟨q, e2, e3⟩, e4⟩ := in_pgdL S0 x
    rw [e1]
    refine ⟨?_, fun z => ?_⟩
    · simp [wipeE, b__law_image_5, tup_at0 e2, szl, e3]
    · have z : x.used.isEmpty = false := by simpa using z
      simp [wipeE, b__law_image_6, tup_at1 (e4 z)])
  rw [nwl_f, used_flat] at e1
  have e2 : gSset false (.lv ((usedM cs).map .str)) S0 = .ok (.lv ((sSort (usedM cs)).map .str)) S0 := by
    simp [gSset, sOf, strsD_map, hu]
  have hnm : (sSort (usedM cs)).length ≤ 64 := by have := sSort_len (l := usedM cs); omega
  have hno : ∀ z ∈ sSort (usedM cs), z.length ≤ 100 ∧ okCs z := fun z hz => ho z (sSort_mem.mp hz)
  have hmu : ∀ x ∈ cs, ∀ m ∈ x.used, m ∈ sSort (usedM cs) := fun x hx m hm => sSort_mem.mpr (List.mem_flatMap.mpr ⟨x, hx, hm⟩)
  unfold imgM
  generalize sSort (usedM cs) = nm at *
  have hp := fun v S => law_pair_B (n := n - 1) (S := S) (v := v) (by omega)
  have pl : ∀ v, (pairB v).length = 2 := fun v => rfl
  have b1 := flatMap_le (f := nameBy) (m := 101) (l := nm) fun z hz => by rw [nameBy_len]; have := (hno z hz).1; omega
  have b2 := flatMap_le (f := Rw.by_ nm) (m := 8) (l := cs) fun x _ => by_len
  have b3 : nm.length * 101 ≤ 64 * 101 := Nat.mul_le_mul_right _ hnm
  have b4 : cs.length * 8 ≤ 10000 * 8 := Nat.mul_le_mul_right _ hz
  have a1 := addm_lv (S := S0) (as := [75, 72, 1] ++ pairB nm.length) (bs := pairB cs.length) (by rw [szl]; simp [pl])
  have h0 : FL S0 (S0 ++ [.lst (([75, 72, 1] ++ pairB nm.length ++ pairB cs.length).map .int)]) S0.length ([75, 72, 1] ++ pairB nm.length ++ pairB cs.length) := ⟨Nat.le_refl _, by simp, _, rfl⟩
  generalize S0 ++ [.lst (([75, 72, 1] ++ pairB nm.length ++ pairB cs.length).map .int)] = S1 at a1 h0
  obtain ⟨p1, u1, v1, S2, l1, h1⟩ := fl_loop (S0 := S0) (xs := nm) (h_ := D.str) (f := nameBy) (i := 3) (body := svs Γ (specs Γ (n - 1)) b__law_image_4) (src := .one (.fx (nm.map .str))) (fun p u v => [some (.tup (cs.map Rw.d)), some (.lv (nm.map .str)), some (.ref p), u, none, none, v, none]) (fun _ _ _ _ => rfl) (fun S j => fxM j)
    (fun z hz p acc S v hF ha => by
      have hl : acc.length + z.length < 900000 := by
        have := (hno z hz).1
        simp only [List.length_append, pl, List.length_cons, List.length_nil] at ha
        omega
      obtain ⟨S', u', e, hF'⟩ := law_name_img (n := n - 1) (z := z) (b1 := some (.tup (cs.map Rw.d))) (b2 := some (.lv (nm.map .str))) (b4 := none) (b5 := none) (u := v) (v := none) (by omega) hF hl (hno z hz).2
      exact ⟨p, S', u', e, hF'⟩)
    (fu := nm.length) (Nat.le_refl _) (u0 := none) (v0 := none) h0
  obtain ⟨p2, u2, v2, S3, l2, h2⟩ := fl_loop (S0 := S0) (xs := cs) (h_ := Rw.d) (f := Rw.by_ nm) (i := 5) (body := svs Γ (specs Γ (n - 1)) b__law_image_0) (src := .one (.fx (cs.map Rw.d))) (fun p u v => [some (.tup (cs.map Rw.d)), some (.lv (nm.map .str)), some (.ref p), u1, some kindsD, u, v1, v]) (fun _ _ _ _ => rfl) (fun S j => fxM j)
    (fun x hx p acc S v hF ha => by
      have hl : acc.length < 1000000 := by
        simp only [List.length_append, pl, List.length_cons, List.length_nil] at ha
        omega
      obtain ⟨p', S', e, hF'⟩ := law_img_row (n := n - 1) (nm := nm) (x := x) (c := .tup (cs.map Rw.d)) (a := u1) (b := v1) (e := v) (by omega) hF hl (hmu x hx)
      exact ⟨p', S', v, e, hF'⟩)
    (fu := cs.length) (Nat.le_refl _) (u0 := none) (v0 := none) h1
  rw [show [75, 72, 1] ++ pairB nm.length ++ pairB cs.length ++ nm.flatMap nameBy ++ cs.flatMap (Rw.by_ nm) = bodyM nm cs from rfl] at h2
  have e5 := law_sum_ref (n := n - 1) (by omega) h2.at_
  have e7 : (bodyM nm cs).length + 2 ≤ sizeLine := by
    rw [szl]
    simp only [bodyM, List.length_append, pl, List.length_cons, List.length_nil]
    omega
  have e8 := add_ref (bs := pairB (sumM (bodyM nm cs))) h2 (by simpa [pl] using e7)
  obtain ⟨X, hX⟩ := h2.ex
  refine ⟨X, ?_⟩
  rw [← hX]
  simp only [List.map_append, List.map_cons, List.map_nil, List.cons_append, List.nil_append] at a1 e8
  simp [runFn, f__law_image, b__law_image, e1, e2, hp, szl, pl, a1, sv_for, l1, l2, e5, e8]
end
end K71

set_option maxHeartbeats 4000000
/-! L21: what is read is what was written: from the reading to the image. -/
namespace K71
open PySem PySem.Spec PyProof.Rows L2 Pv
theorem fdiv_fmod {h l : Int} (hl : 0 ≤ l ∧ l < 256) : (h * 256 + l).fdiv 256 = h ∧ (h * 256 + l).fmod 256 = l := by
  rw [Int.fdiv_eq_ediv_of_nonneg _ (by omega), Int.fmod_eq_emod_of_nonneg _ (by omega)]
  omega
theorem pair_back {h l : Int} (hl : 0 ≤ l ∧ l < 256) : pairB (h * 256 + l) = [h, l] := by
  obtain ⟨e1, e2⟩ := fdiv_fmod (h := h) hl
  simp [pairB, e1, e2]
theorem triple_back {g h l : Int} (hh : 0 ≤ h ∧ h < 256) (hl : 0 ≤ l ∧ l < 256) : tripleB ((g * 256 + h) * 256 + l) = [g, h, l] := by
  have e1 : ((g * 256 + h) * 256 + l).fdiv 65536 = g := by
    rw [Int.fdiv_eq_ediv_of_nonneg _ (by omega)]
    omega
  have e2 : ((g * 256 + h) * 256 + l).fmod 65536 = h * 256 + l := by
    rw [Int.fmod_eq_emod_of_nonneg _ (by omega)]
    omega
  obtain ⟨e3, e4⟩ := fdiv_fmod (h := h) hl
  simp only [tripleB, e1, e2, e3, e4]
section
variable {im : List Int} {k : Nat} {nm : List Str} {rows : Int}
theorem take_b (h : k < im.length) : im.take (k + 1) = im.take k ++ [bAt im k] := by
  rw [List.take_succ_eq_append_getElem h]
  simp [bAt, h]
theorem take_num2 {most v : Int} {k' : Nat} (hb : bytesOk im) (h : numM im 2 most k = .ok (v, k')) : im.take k' = im.take k ++ pairB v ∧ 0 ≤ v ∧ v ≤ most ∧ v < 65536 := by
  have hl : k + 2 ≤ im.length := by
    have := numM_le h
    omega
  obtain ⟨_, rfl, rfl, l4⟩ := numM_le h
  have b0 := bAt_ok hb k
  have b1 := bAt_ok hb (k + 1)
  rw [val2] at l4 ⊢
  rw [pair_back b1, take_b (k := k + 1) (by omega), take_b (by omega), List.append_assoc]
  exact ⟨rfl, by omega, l4, by omega⟩
theorem take_num3 {most v : Int} {k' : Nat} (hb : bytesOk im) (h : numM im 3 most k = .ok (v, k')) : im.take k' = im.take k ++ tripleB v ∧ 0 ≤ v ∧ v ≤ most := by
  have hl : k + 3 ≤ im.length := by
    have := numM_le h
    omega
  obtain ⟨_, rfl, rfl, l4⟩ := numM_le h
  have b0 := bAt_ok hb k
  have b1 := bAt_ok hb (k + 1)
  have b2 := bAt_ok hb (k + 2)
  rw [val3] at l4 ⊢
  rw [triple_back b1 b2, take_b (k := k + 2) (by omega), take_b (k := k + 1) (by omega), take_b (by omega), List.append_assoc, List.append_assoc]
  exact ⟨rfl, by omega, l4⟩
theorem take_signs : ∀ (f : Nat) {pos : Nat} {acc r : List Nat}, signsM im f pos acc = .ok r → ∃ s : List Nat, r = acc ++ s ∧ s.length = f ∧ im.take (pos + f) = im.take pos ++ s.map (fun (c : Nat) => (c : Int)) ∧ ∀ c ∈ s, okS (c : Int) = true
  | 0, _, _, _, h => by
    injection h with h
    exact ⟨[], by simp [h], rfl, by simp, by simp⟩
  | f + 1, pos, acc, r, h => by
    unfold signsM at h
    split at h
    · split at h
      · rename_i h1 h2
        obtain ⟨s, e1, e2, e3, e4⟩ := take_signs f h
        have h3 := of_decide_eq_true h2
        have e5 : ((bAt im pos).toNat : Int) = bAt im pos := by omega
        refine ⟨(bAt im pos).toNat :: s, by rw [e1, List.append_assoc]; rfl, by simp [e2], ?_, ?_⟩
        · rw [show pos + (f + 1) = pos + 1 + f by omega, e3, take_b h1, List.append_assoc, List.map_cons, e5]
          rfl
        · intro c hc
          rcases List.mem_cons.mp hc with rfl | hc
          · rw [e5]; exact h2
          · exact e4 c hc
      · cases h
    · cases h
theorem take_name {z : Str} {k' : Nat} (h : nameM im nm k = .ok (z, k')) : im.take k' = im.take k ++ nameBy z ∧ okCs z ∧ z.length ≤ 60 ∧ pathB z = true ∧ (∀ l, nm.getLast? = some l → sLt l z) ∧ k + 2 ≤ k' := by
  unfold nameM at h
  split at h
  · split at h
    · rename_i h1 h2
      cases e : signsM im (bAt im k).toNat (k + 1) [] with
      | error x => rw [e] at h; cases h
      | ok r =>
        rw [e] at h
        dsimp only at h
        split at h
        · rename_i h3
          injection h with h
          injection h with h4 h5
          subst h4
          subst h5
          obtain ⟨s, e1, e2, e3, e4⟩ := take_signs _ e
          rw [List.nil_append] at e1
          subst e1
          have el : ((⟨r.toArray⟩ : Str).length : Int) = bAt im k := by
            simp [Str.length, e2]
            omega
          refine ⟨?_, ?_, ?_, h3.1, fun l hl => of_decide_eq_true (h3.2 l hl), by omega⟩
          · rw [e3, take_b h1, List.append_assoc, nameBy, el]
            simp
          · intro c hc
            exact e4 c (by simpa using hc)
          · have := h2.2
            omega
        · cases h
    · cases h
  · cases h
theorem take_names : ∀ (f : Nat) {k : Nat} {nm nm' : List Str} {st st' : List Int} {k' : Nat}, namesM im f nm st k = .ok (nm', st', k') → nm.Pairwise sLt → ∃ s : List Str, nm' = nm ++ s ∧ s.length = f ∧ im.take k' = im.take k ++ s.flatMap nameBy ∧ (∀ z ∈ s, okCs z ∧ z.length ≤ 60 ∧ pathB z = true) ∧ nm'.Pairwise sLt ∧ (∃ t, st' = st ++ t ∧ t.length = f) ∧ k ≤ k'
  | 0, k, nm, nm', st, st', k', h, hp => by
    injection h with h
    injection h with h1 h2
    injection h2 with h2 h3
    subst h1; subst h2; subst h3
    exact ⟨[], by simp, rfl, by simp, by simp, hp, ⟨[], by simp, rfl⟩, by omega⟩
  | f + 1, k, nm, nm', st, st', k', h, hp => by
    unfold namesM at h
    cases e : nameM im nm k with
    | error x => rw [e] at h; cases h
    | ok p =>
      obtain ⟨z, k2⟩ := p
      rw [e] at h
      obtain ⟨n1, n2, n3, n4, n5, n6⟩ := take_name e
      have hp2 : (nm ++ [z]).Pairwise sLt := by
        rw [List.pairwise_append]
        refine ⟨hp, by simp, fun a ha b hb => ?_⟩
        rw [List.mem_singleton.mp hb]
        cases el : nm.getLast? with
        | none => rw [List.getLast?_eq_none_iff] at el; subst el; cases ha
        | some l =>
          have hlz := n5 l el
          obtain ⟨ini, rfl⟩ := List.getLast?_eq_some_iff.mp el
          rcases List.mem_append.mp ha with ha | ha
          · exact sLt_trans ((List.pairwise_append.mp hp).2.2 a ha l (by simp)) hlz
          · rw [List.mem_singleton.mp ha]; exact hlz
      obtain ⟨s, e1, e2, e3, e4, e5, ⟨t, e6, e7⟩, e8⟩ := take_names f h hp2
      refine ⟨z :: s, by rw [e1, List.append_assoc]; rfl, by simp [e2], ?_, ?_, e5, ⟨k :: t, by rw [e6, List.append_assoc]; rfl, by simp [e7]⟩, by omega⟩
      · rw [e3, n1, List.append_assoc, List.flatMap_cons]
      · intro y hy
        rcases List.mem_cons.mp hy with rfl | hy
        · exact ⟨n2, n3, n4⟩
        · exact e4 y hy
theorem idx_nodup {i : Nat} {z : Str} (hn : nm.Nodup) (h : nm[i]? = some z) : nm.idxOf z = i := by
  obtain ⟨hi, he⟩ := List.getElem?_eq_some_iff.mp h
  have hz : z ∈ nm := List.mem_of_getElem? h
  have hj := List.idxOf_lt_length_of_mem hz
  have e := List.getElem_idxOf hj
  exact (List.getElem_inj hn).mp (e.trans he.symm)
theorem up_nodup {l : List Str} (h : l.Pairwise sLt) : l.Nodup := by
  refine List.Pairwise.imp ?_ h
  intro a b hab e
  subst e
  exact sLt_irr _ hab
theorem take_path {z : Str} {k' : Nat} (hb : bytesOk im) (hn : nm.Nodup) (h : pathM im nm k = .ok (z, k')) : im.take k' = im.take k ++ pairB (nm.idxOf z : Nat) ∧ z ∈ nm ∧ k' = k + 2 := by
  obtain ⟨l1, l2, i, e1, e2⟩ := pathM_le hb h
  subst l2
  have b1 := bAt_ok hb (k + 1)
  have hi := idx_nodup hn e1
  rw [hi, ← e2, val2, pair_back b1, take_b (k := k + 1) (by omega), take_b (by omega), List.append_assoc]
  exact ⟨rfl, List.mem_of_getElem? e1, rfl⟩
theorem take_row {last : Bool} {x : Rw} {k' : Nat} (hb : bytesOk im) (hn : nm.Nodup) (hp : ∀ z ∈ nm, pathB z = true) (h : rowM im nm rows last k = .ok (x, k')) :
    im.take k' = im.take k ++ x.by_ nm ∧ (∀ m ∈ x.used, m ∈ nm) ∧ x.ok rows = true ∧ (last = true → x.last = true) ∧ k + 1 + 2 * x.used.length ≤ k' := by
  unfold rowM at h
  split at h
  · rename_i h0
    have hk := take_b h0
    split at h
    · cases h
    · rename_i h6
      split at h
      · cases h
      · rename_i hl3
        split at h
        · rename_i g0
          split at h
          · cases h
          · rename_i m k1 e1
            split at h
            · cases h
            · rename_i v k2 e2
              split at h
              · cases h
              · rename_i a k3 e3
                injection h with h
                injection h with h1 h2
                subst h1
                subst h2
                obtain ⟨p1, p2, p3⟩ := take_path hb hn e1
                obtain ⟨q1, q2, q3⟩ := take_num3 hb e2
                obtain ⟨r1, r2, r3, r4⟩ := take_num2 hb e3
                obtain ⟨_, l2, _, _⟩ := numM_le e2
                obtain ⟨_, l3, _, _⟩ := numM_le e3
                refine ⟨?_, ?_, ?_, fun z => absurd ⟨z, by omega⟩ hl3, ?_⟩
                · rw [r1, q1, p1, hk, g0]
                  simp [Rw.by_]
                · intro m' hm'
                  simp [Rw.used] at hm'
                  subst hm'
                  exact p2
                · simp only [Rw.ok, inR, hp m p2, Bool.true_and, Bool.and_eq_true, decide_eq_true_eq]
                  omega
                · simp [Rw.used]
                  omega
        · split at h
          · rename_i g0 g1
            split at h
            · cases h
            · rename_i m k1 e1
              split at h
              · cases h
              · rename_i a k3 e3
                injection h with h
                injection h with h1 h2
                subst h1
                subst h2
                obtain ⟨p1, p2, p3⟩ := take_path hb hn e1
                obtain ⟨r1, r2, r3, r4⟩ := take_num2 hb e3
                obtain ⟨_, l3, _, _⟩ := numM_le e3
                refine ⟨?_, ?_, ?_, fun z => absurd ⟨z, by omega⟩ hl3, ?_⟩
                · rw [r1, p1, hk, g1]
                  simp [Rw.by_]
                · intro m' hm'
                  simp [Rw.used] at hm'
                  subst hm'
                  exact p2
                · simp only [Rw.ok, inR, hp m p2, Bool.true_and, decide_eq_true_eq]
                  omega
                · simp [Rw.used]
                  omega
          · split at h
            · rename_i g0 g1 g2
              split at h
              · cases h
              · rename_i m k1 e1
                injection h with h
                injection h with h1 h2
                subst h1
                subst h2
                obtain ⟨p1, p2, p3⟩ := take_path hb hn e1
                refine ⟨?_, ?_, ?_, fun z => absurd ⟨z, by omega⟩ hl3, ?_⟩
                · rw [p1, hk, g2]
                  simp [Rw.by_]
                · intro m' hm'
                  simp [Rw.used] at hm'
                  subst hm'
                  exact p2
                · simp only [Rw.ok, hp m p2]
                · simp [Rw.used]
                  omega
            · split at h
              · rename_i g0 g1 g2 g3
                split at h
                · cases h
                · rename_i a k1 e3
                  injection h with h
                  injection h with h1 h2
                  subst h1
                  subst h2
                  obtain ⟨r1, r2, r3, r4⟩ := take_num2 hb e3
                  obtain ⟨_, l3, _, _⟩ := numM_le e3
                  refine ⟨?_, by simp [Rw.used], ?_, fun _ => rfl, ?_⟩
                  · rw [r1, hk, g3]
                    simp [Rw.by_]
                  · simp only [Rw.ok, inR, decide_eq_true_eq]
                    omega
                  · simp [Rw.used]
                    omega
              · split at h
                · rename_i g0 g1 g2 g3 g4
                  injection h with h
                  injection h with h1 h2
                  subst h1
                  subst h2
                  refine ⟨?_, by simp [Rw.used], rfl, fun _ => rfl, by simp [Rw.used]⟩
                  rw [hk, g4]
                  rfl
                · rename_i g0 g1 g2 g3 g4
                  injection h with h
                  injection h with h1 h2
                  subst h1
                  subst h2
                  have g5 : bAt im k = 5 := by have := bAt_ok hb k; omega
                  refine ⟨?_, by simp [Rw.used], rfl, fun _ => rfl, by simp [Rw.used]⟩
                  rw [hk, g5]
                  rfl
  · cases h
theorem take_rows (hb : bytesOk im) (hn : nm.Nodup) (hp : ∀ z ∈ nm, pathB z = true) : ∀ (f : Nat) {k : Nat} {rs rs' : List Rw} {pl pl' : List Int} {k' : Nat}, rowsM im nm rows f rs pl k = .ok (rs', pl', k') → ∃ s : List Rw, rs' = rs ++ s ∧ s.length = f ∧ im.take k' = im.take k ++ s.flatMap (Rw.by_ nm) ∧ (∀ x ∈ s, (∀ m ∈ x.used, m ∈ nm) ∧ x.ok rows = true) ∧ ((rs.length : Int) + f = rows → 0 < f → ∃ x, s.getLast? = some x ∧ x.last = true) ∧ k + 2 * (usedM s).length + f ≤ k' ∧ ∃ q, pl' = pl ++ q ∧ q.length = f
  | 0, k, rs, rs', pl, pl', k', h => by
    injection h with h
    injection h with h1 h2
    injection h2 with h2 h3
    subst h1; subst h2; subst h3
    exact ⟨[], by simp, rfl, by simp, by simp, fun _ z => absurd z (by omega), by simp [usedM], [], by simp, rfl⟩
  | f + 1, k, rs, rs', pl, pl', k', h => by
    unfold rowsM at h
    cases e : rowM im nm rows ((rs.length : Int) == rows - 1) k with
    | error x => rw [e] at h; cases h
    | ok p =>
      obtain ⟨x, k2⟩ := p
      rw [e] at h
      obtain ⟨n1, n2, n3, n4, n5⟩ := take_row hb hn hp e
      obtain ⟨s, e1, e2, e3, e4, e5, e6, q, e7, e8⟩ := take_rows hb hn hp f h
      refine ⟨x :: s, by rw [e1, List.append_assoc]; rfl, by simp [e2], ?_, ?_, ?_, ?_, k :: q, by rw [e7, List.append_assoc]; rfl, by simp [e8]⟩
      · rw [e3, n1, List.append_assoc, List.flatMap_cons]
      · intro y hy
        rcases List.mem_cons.mp hy with rfl | hy
        · exact ⟨n2, n3⟩
        · exact e4 y hy
      · intro hl _
        cases s with
        | nil =>
          have hf : f = 0 := e2.symm
          subst hf
          refine ⟨x, rfl, n4 ?_⟩
          rw [beq_iff_eq]
          omega
        | cons y s =>
          obtain ⟨z, z1, z2⟩ := e5 (by simp; omega) (by simp at e2; omega)
          exact ⟨z, by rw [List.getLast?_cons_cons]; exact z1, z2⟩
      · have : usedM (x :: s) = x.used ++ usedM s := by simp [usedM]
        rw [this, List.length_append]
        omega
theorem lostM_all {U : List Str} : ∀ {ps : List (Str × Int)} {u : Unit}, lostM U ps = .ok u → ∀ p ∈ ps, p.1 ∈ U
  | [], _, _, p, hp => nomatch hp
  | (z, q) :: r, _, h, p, hp => by
    unfold lostM at h
    split at h
    · rename_i hz
      rcases List.mem_cons.mp hp with rfl | hp
      · exact hz
      · exact lostM_all h p hp
    · cases h
theorem head_take {a b : Int} (hb : bytesOk im) (h : headM im = .ok (a, b)) : im.take 7 = [75, 72, 1] ++ pairB a ++ pairB b := by
  unfold headM at h
  simp only [dueM] at h
  by_cases h0 : 0 < im.length
  · by_cases g0 : bAt im 0 = 75
    · by_cases h1 : 1 < im.length
      · by_cases g1 : bAt im 1 = 72
        · by_cases h2 : 2 < im.length
          · by_cases g2 : bAt im 2 = 1
            · simp only [h0, g0, h1, g1, h2, g2, if_true, Nat.zero_add] at h
              cases c1 : numM im 2 65535 3 with
              | error e => rw [c1] at h; cases h
              | ok p1 =>
                obtain ⟨v1, k1⟩ := p1
                rw [c1] at h
                dsimp only at h
                cases c2 : numM im 2 10000 5 with
                | error e => rw [c2] at h; cases h
                | ok p2 =>
                  obtain ⟨v2, k2⟩ := p2
                  rw [c2] at h
                  dsimp only at h
                  split at h
                  · cases h
                  · injection h with h
                    injection h with e1 e2
                    subst e1
                    subst e2
                    obtain ⟨r1, _⟩ := take_num2 hb c1
                    obtain ⟨r2, _⟩ := take_num2 hb c2
                    obtain ⟨_, rfl, _, _⟩ := numM_le c1
                    obtain ⟨_, rfl, _, _⟩ := numM_le c2
                    have r2 : im.take 7 = im.take 5 ++ pairB v2 := r2
                    have r1 : im.take 5 = im.take 3 ++ pairB v1 := r1
                    have t3 : im.take 3 = [75, 72, 1] := by
                      rw [take_b h2, take_b h1, take_b h0, g0, g1, g2]
                      rfl
                    rw [r2, r1, t3]
            · simp [h0, g0, h1, g1, h2, g2] at h
          · simp [h0, g0, h1, g1, h2] at h
        · simp [h0, g0, h1, g1] at h
      · simp [h0, g0, h1] at h
    · simp [h0, g0] at h
  · simp [h0] at h
theorem used_len : ∀ rs : List Rw, (usedM rs).length ≤ rs.length
  | [] => Nat.le_refl 0
  | x :: r => by
    have h1 := used_le (x := x)
    have h2 := used_len r
    have : usedM (x :: r) = x.used ++ usedM r := by simp [usedM]
    rw [this, List.length_append, List.length_cons]
    omega
/-- what is read is what was written -/
theorem parse_back {g : Got} (hb : bytesOk im) (h : parseM im = .ok g) : imgM g.rs = im ∧ codeB g.rs = true ∧ (∀ z ∈ usedM g.rs, okCs z ∧ z.length ≤ 60 ∧ pathB z = true) ∧ 3 * (usedM g.rs).length + 9 ≤ im.length ∧ g.rs.length ≤ 10000 := by
  unfold parseM at h
  cases e1 : headM im with
  | error x => rw [e1] at h; cases h
  | ok p =>
    obtain ⟨a, b⟩ := p
    rw [e1] at h
    obtain ⟨a1, a2, b1, b2⟩ := headM_ok hb e1
    dsimp only at h
    cases e2 : namesM im a.toNat [] [] 7 with
    | error x => rw [e2] at h; cases h
    | ok p =>
      obtain ⟨nm, st, k⟩ := p
      rw [e2] at h
      dsimp only at h
      cases e3 : rowsM im nm b b.toNat [] [] k with
      | error x => rw [e3] at h; cases h
      | ok p =>
        obtain ⟨rs, pl, k2⟩ := p
        rw [e3] at h
        dsimp only at h
        cases e4 : endM im nm st rs k2 with
        | error x => rw [e4] at h; cases h
        | ok u =>
          rw [e4] at h
          injection h with h
          subst h
          dsimp only
          obtain ⟨s, n1, n2, n3, n4, n5, ⟨t, n6, n7⟩, n8⟩ := take_names _ e2 List.Pairwise.nil
          rw [List.nil_append] at n1
          subst n1
          have hnd := up_nodup n5
          obtain ⟨s, m1, m2, m3, m4, m5, m6, q, m7, m8⟩ := take_rows hb hnd (fun z hz => (n4 z hz).2.2) _ e3
          rw [List.nil_append] at m1
          subst m1
          have hh := head_take hb e1
          unfold endM at e4
          cases e5 : numM im 2 65535 k2 with
          | error x => rw [e5] at e4; cases e4
          | ok p =>
            obtain ⟨v, k3⟩ := p
            rw [e5] at e4
            dsimp only at e4
            split at e4
            · rename_i hv
              split at e4
              · cases e4
              · rename_i hl
                obtain ⟨r1, r2, r3, r4⟩ := take_num2 hb e5
                obtain ⟨l1, l2, _, _⟩ := numM_le e5
                have h3 : k3 = im.length := by omega
                rw [h3, List.take_length] at r1
                rw [List.nil_append] at n6
                subst n6
                have hall : ∀ z ∈ nm, z ∈ usedM rs := fun z hz => by
                  obtain ⟨j, hj, rfl⟩ := List.mem_iff_getElem.mp hz
                  have hj2 : j < st.length := by omega
                  have hz2 : (nm[j], st[j]) ∈ nm.zip st := by
                    refine List.mem_iff_getElem.mpr ⟨j, by rw [List.length_zip]; omega, by rw [List.getElem_zip]⟩
                  exact lostM_all e4 _ hz2
                have hus : ∀ z ∈ usedM rs, z ∈ nm := fun z hz => by
                  obtain ⟨x, hx, hz⟩ := List.mem_flatMap.mp hz
                  exact (m4 x hx).1 z hz
                have hs : sSort (usedM rs) = nm := up_unique (sSort_up _) n5 fun z => by
                  rw [sSort_mem]
                  exact ⟨hus z, hall z⟩
                have ea : (nm.length : Int) = a := by omega
                have eb : (rs.length : Int) = b := by omega
                have hbody : bodyM nm rs = im.take k2 := by
                  rw [m3, n3, hh, bodyM, ea, eb]
                have hul : (usedM rs).length ≤ rs.length := used_len rs
                refine ⟨?_, ?_, fun z hz => n4 z (hus z hz), ?_, by omega⟩
                · rw [imgM, hs, hbody, ← hv, ← r1]
                · obtain ⟨x, x1, x2⟩ := m5 (by simp; omega) (by omega)
                  unfold codeB
                  rw [x1]
                  simp only [Bool.and_eq_true, decide_eq_true_eq, x2, and_true, List.all_eq_true]
                  refine ⟨by omega, fun y hy => ?_⟩
                  rw [eb]
                  exact (m4 y hy).2
                · omega
            · cases e4
end
end K71

set_option maxHeartbeats 4000000
/-! L22: from the image to the reading. -/
namespace K71
open PySem PySem.Spec PyProof.Rows L2 Pv
/-- l stands at k -/
def Has (im : List Int) (k : Nat) (l : List Int) : Prop := ∃ r, im.drop k = l ++ r
section
variable {im : List Int} {k : Nat} {nm : List Str} {rows : Int}
theorem Has.app {a b : List Int} (h : Has im k (a ++ b)) : Has im k a ∧ Has im (k + a.length) b := by
  obtain ⟨r, h⟩ := h
  refine ⟨⟨b ++ r, by rw [h, List.append_assoc]⟩, r, ?_⟩
  rw [← List.drop_drop, h, List.append_assoc, List.drop_left]
theorem Has.cons {x : Int} {l : List Int} (h : Has im k (x :: l)) : k < im.length ∧ bAt im k = x ∧ Has im (k + 1) l := by
  obtain ⟨r, h⟩ := h
  have hk : k < im.length := by
    have := congrArg List.length h
    simp at this
    omega
  rw [List.drop_eq_getElem_cons hk, List.cons_append] at h
  injection h with h1 h2
  exact ⟨hk, by simp [bAt, hk, h1], r, h2⟩
theorem pairB_nn {v : Int} (h : 0 ≤ v) : (v.fdiv 256) * 256 + v.fmod 256 = v ∧ 0 ≤ v.fdiv 256 := by
  rw [Int.fdiv_eq_ediv_of_nonneg _ (by omega), Int.fmod_eq_emod_of_nonneg _ (by omega)]
  omega
theorem num2_fwd {v most : Int} (h : Has im k (pairB v)) (hv : 0 ≤ v) (hm : v ≤ most) : numM im 2 most k = .ok (v, k + 2) := by
  obtain ⟨a1, a2, a3⟩ := h.cons
  obtain ⟨b1, b2, b3⟩ := a3.cons
  unfold numM
  rw [if_neg (by omega), val2, a2, b2, (pairB_nn hv).1, if_pos hm]
theorem num3_fwd {v most : Int} (h : Has im k (tripleB v)) (hv : 0 ≤ v) (hm : v ≤ most) : numM im 3 most k = .ok (v, k + 3) := by
  obtain ⟨a1, a2, a3⟩ := h.cons
  obtain ⟨b1, b2, b3⟩ := a3.cons
  obtain ⟨c1, c2, c3⟩ := b3.cons
  have e : (v.fdiv 65536 * 256 + (v.fmod 65536).fdiv 256) * 256 + (v.fmod 65536).fmod 256 = v := by
    rw [Int.fdiv_eq_ediv_of_nonneg _ (by omega), Int.fmod_eq_emod_of_nonneg _ (by omega), Int.fdiv_eq_ediv_of_nonneg _ (by omega), Int.fmod_eq_emod_of_nonneg _ (by omega)]
    omega
  unfold numM
  rw [if_neg (by omega), val3, a2, b2, c2, e, if_pos hm]
theorem signs_fwd : ∀ (s : List Nat) {pos : Nat} {acc : List Nat}, Has im pos (s.map fun (c : Nat) => (c : Int)) → (∀ c ∈ s, okS (c : Int) = true) → signsM im s.length pos acc = .ok (acc ++ s)
  | [], _, _, _, _ => by simp [signsM]
  | c :: s, pos, acc, h, ho => by
    obtain ⟨a1, a2, a3⟩ := h.cons
    simp only [List.length_cons, signsM]
    rw [if_pos a1, a2, if_pos (ho c List.mem_cons_self), signs_fwd s a3 fun d hd => ho d (List.mem_cons_of_mem _ hd)]
    simp
theorem path_pos {z : Str} (h : pathB z = true) : 1 ≤ z.length ∧ z.length ≤ 60 := by
  unfold pathB at h
  simp only [Bool.and_eq_true, decide_eq_true_eq] at h
  obtain ⟨h1, h2⟩ := h
  refine ⟨?_, h1⟩
  cases e : Txt.split z "." with
  | nil => rw [e] at h2; cases h2
  | cons p ps =>
    rw [e] at h2
    simp only [Bool.and_eq_true] at h2
    have hp := h2.1
    unfold nameB at hp
    simp only [Bool.and_eq_true, decide_eq_true_eq] at hp
    have := part_short (x := z) (y := ".") (a := p) (by rw [e]; exact List.mem_cons_self)
    omega
theorem name_fwd {z : Str} (h : Has im k (nameBy z)) (ho : okCs z) (hp : pathB z = true) (hl : ∀ l, nm.getLast? = some l → sLt l z) : nameM im nm k = .ok (z, k + (nameBy z).length) := by
  obtain ⟨p1, p2⟩ := path_pos hp
  obtain ⟨a1, a2, a3⟩ := h.cons
  have e1 : bAt im k = (z.length : Int) := a2
  have e2 : ((z.length : Int)).toNat = z.cps.toList.length := by simp [Str.length]
  have es := signs_fwd z.cps.toList (acc := []) a3 ho
  unfold nameM
  rw [if_pos a1, e1, if_pos (by omega), e2, es]
  have ez : (⟨([] ++ z.cps.toList).toArray⟩ : Str) = z := by simp
  dsimp only
  rw [ez, if_pos ⟨hp, fun l h => decide_eq_true (hl l h)⟩, nameBy_len]
  congr 2
  simp [Str.length]
  omega
theorem names_fwd : ∀ (s : List Str) {k : Nat} {nm : List Str} {st : List Int}, Has im k (s.flatMap nameBy) → (∀ z ∈ s, okCs z ∧ pathB z = true) → (nm ++ s).Pairwise sLt → ∃ st', namesM im s.length nm st k = .ok (nm ++ s, st', k + (s.flatMap nameBy).length) ∧ st'.length = st.length + s.length
  | [], k, nm, st, _, _, _ => ⟨st, by simp [namesM], by simp⟩
  | z :: s, k, nm, st, h, ho, hp => by
    rw [List.flatMap_cons] at h
    obtain ⟨h1, h2⟩ := h.app
    obtain ⟨o1, o2⟩ := ho z List.mem_cons_self
    have e := name_fwd (nm := nm) h1 o1 o2 fun l hl => by
      obtain ⟨ini, rfl⟩ := List.getLast?_eq_some_iff.mp hl
      exact (List.pairwise_append.mp hp).2.2 l (by simp) z List.mem_cons_self
    obtain ⟨st', f1, f2⟩ := names_fwd s (nm := nm ++ [z]) (st := st ++ [(k : Int)]) h2 (fun y hy => ho y (List.mem_cons_of_mem _ hy)) (by rw [List.append_assoc]; exact hp)
    refine ⟨st', ?_, by rw [f2]; simp; omega⟩
    simp only [List.length_cons, namesM, e]
    rw [f1, List.append_assoc, List.flatMap_cons, List.length_append, Nat.add_assoc]
    rfl
theorem path_fwd {m : Str} (h : Has im k (pairB (nm.idxOf m : Nat))) (hm : m ∈ nm) : pathM im nm k = .ok (m, k + 2) := by
  have hi := List.idxOf_lt_length_of_mem hm
  unfold pathM
  rw [num2_fwd h (by omega) (by omega)]
  simp [hi]
theorem row_fwd {x : Rw} {last : Bool} (h : Has im k (x.by_ nm)) (hu : ∀ m ∈ x.used, m ∈ nm) (hx : x.ok rows = true) (hl : last = true → x.last = true) : rowM im nm rows last k = .ok (x, k + (x.by_ nm).length) := by
  cases x with
  | past m v a =>
    obtain ⟨a1, a2, a3⟩ := h.cons
    obtain ⟨b1, b2⟩ := a3.app
    obtain ⟨c1, c2⟩ := b2.app
    simp only [Rw.ok, inR, Bool.and_eq_true, decide_eq_true_eq] at hx
    have hlast : ¬ last = true := fun z => by have := hl z; cases this
    have e1 := path_fwd b1 (hu m (by simp [Rw.used]))
    have e2 := num3_fwd c1 hx.2.1.1 hx.2.1.2
    have e3 := num2_fwd c2 hx.2.2.1 hx.2.2.2
    have e2 : numM im 3 1000000 (k + 1 + 2) = .ok (v, k + 6) := e2
    have e3 : numM im 2 (rows - 1) (k + 6) = .ok (a, k + 8) := e3
    unfold rowM
    rw [if_pos a1, a2, if_neg (by omega), if_neg (fun z => hlast z.1), if_pos rfl, e1]
    dsimp only
    rw [e2]
    dsimp only
    rw [e3]
    rfl
  | got m a =>
    obtain ⟨a1, a2, a3⟩ := h.cons
    obtain ⟨b1, b2⟩ := a3.app
    simp only [Rw.ok, inR, Bool.and_eq_true, decide_eq_true_eq] at hx
    have hlast : ¬ last = true := fun z => by have := hl z; cases this
    have e1 := path_fwd b1 (hu m (by simp [Rw.used]))
    have e3 := num2_fwd b2 hx.2.1 hx.2.2
    have e3 : numM im 2 (rows - 1) (k + 1 + 2) = .ok (a, k + 5) := e3
    unfold rowM
    rw [if_pos a1, a2, if_neg (by omega), if_neg (fun z => hlast z.1), if_neg (by omega), if_pos rfl, e1]
    dsimp only
    rw [e3]
    rfl
  | do_ m =>
    obtain ⟨a1, a2, a3⟩ := h.cons
    have hlast : ¬ last = true := fun z => by have := hl z; cases this
    have e1 := path_fwd a3 (hu m (by simp [Rw.used]))
    unfold rowM
    rw [if_pos a1, a2, if_neg (by omega), if_neg (fun z => hlast z.1), if_neg (by omega), if_neg (by omega), if_pos rfl, e1]
    rfl
  | go a =>
    obtain ⟨a1, a2, a3⟩ := h.cons
    simp only [Rw.ok, inR, decide_eq_true_eq] at hx
    have e3 := num2_fwd a3 hx.1 hx.2
    unfold rowM
    rw [if_pos a1, a2, if_neg (by omega), if_neg (by omega), if_neg (by omega), if_neg (by omega), if_neg (by omega), if_pos rfl, e3]
    rfl
  | rest =>
    obtain ⟨a1, a2, a3⟩ := h.cons
    unfold rowM
    rw [if_pos a1, a2, if_neg (by omega), if_neg (by omega), if_neg (by omega), if_neg (by omega), if_neg (by omega), if_neg (by omega), if_pos rfl]
    rfl
  | stop =>
    obtain ⟨a1, a2, a3⟩ := h.cons
    unfold rowM
    rw [if_pos a1, a2, if_neg (by omega), if_neg (by omega), if_neg (by omega), if_neg (by omega), if_neg (by omega), if_neg (by omega), if_neg (by omega)]
    rfl
theorem rows_fwd : ∀ (s : List Rw) {k : Nat} {rs : List Rw} {pl : List Int}, Has im k (s.flatMap (Rw.by_ nm)) → (∀ x ∈ s, (∀ m ∈ x.used, m ∈ nm) ∧ x.ok rows = true) → ((rs.length : Int) + s.length = rows) → (∀ x, s.getLast? = some x → x.last = true) → ∃ pl', rowsM im nm rows s.length rs pl k = .ok (rs ++ s, pl', k + (s.flatMap (Rw.by_ nm)).length)
  | [], k, rs, pl, _, _, _, _ => ⟨pl, by simp [rowsM]⟩
  | x :: s, k, rs, pl, h, ho, hr, hl => by
    rw [List.flatMap_cons] at h
    obtain ⟨h1, h2⟩ := h.app
    obtain ⟨o1, o2⟩ := ho x List.mem_cons_self
    have e := row_fwd (last := ((rs.length : Int) == rows - 1)) h1 o1 o2 fun z => by
      have z := beq_iff_eq.mp z
      have hs : s = [] := by
        cases s with
        | nil => rfl
        | cons y s => simp only [List.length_cons] at hr; omega
      subst hs
      exact hl x rfl
    obtain ⟨pl', f1⟩ := rows_fwd s (rs := rs ++ [x]) (pl := pl ++ [(k : Int)]) h2 (fun y hy => ho y (List.mem_cons_of_mem _ hy)) (by simp at hr ⊢; omega) (fun y hy => hl y (by
      cases s with
      | nil => cases hy
      | cons z s => rw [List.getLast?_cons_cons]; exact hy))
    refine ⟨pl', ?_⟩
    simp only [List.length_cons, rowsM, e]
    rw [f1, List.append_assoc, List.flatMap_cons, List.length_append, Nat.add_assoc]
    rfl
theorem sumM_range (xs : List Int) : 0 ≤ sumM xs ∧ sumM xs < 65521 := by
  unfold sumM
  have key : ∀ (xs : List Int) (f : Int), 0 ≤ f ∧ f < 65521 → 0 ≤ xs.foldl sumStep f ∧ xs.foldl sumStep f < 65521 := by
    intro xs
    induction xs with
    | nil => intro f h; exact h
    | cons x xs ih =>
      intro f h
      rw [List.foldl_cons]
      refine ih _ ?_
      unfold sumStep
      rw [Int.fmod_eq_emod_of_nonneg _ (by omega)]
      omega
  exact key xs 0 (by omega)
theorem lostM_ok {U : List Str} : ∀ {ps : List (Str × Int)}, (∀ p ∈ ps, p.1 ∈ U) → lostM U ps = .ok ()
  | [], _ => rfl
  | (z, q) :: r, h => by
    unfold lostM
    rw [if_pos (h _ List.mem_cons_self), lostM_ok fun p hp => h p (List.mem_cons_of_mem _ hp)]
theorem ok_path {x : Rw} {size : Int} (h : x.ok size = true) : ∀ m ∈ x.used, pathB m = true := by
  intro m hm
  cases x <;> simp only [Rw.used, List.mem_singleton, List.not_mem_nil] at hm
  all_goals subst hm
  all_goals simp only [Rw.ok, Bool.and_eq_true] at h
  all_goals first | exact h.1 | exact h
theorem codeB_parts {cs : List Rw} (h : codeB cs = true) : 1 ≤ cs.length ∧ cs.length ≤ 10000 ∧ (∀ x ∈ cs, x.ok cs.length = true) ∧ (∀ x, cs.getLast? = some x → x.last = true) := by
  unfold codeB at h
  simp only [Bool.and_eq_true, decide_eq_true_eq, List.all_eq_true] at h
  obtain ⟨⟨⟨h1, h2⟩, h3⟩, h4⟩ := h
  refine ⟨h1, h2, h3, fun x hx => ?_⟩
  rw [hx] at h4
  exact h4
/-- what was written is read -/
theorem parse_img {cs : List Rw} (hc : codeB cs = true) (hu : (usedM cs).length < 64) (ho : ∀ z ∈ usedM cs, okCs z) : ∃ g, parseM (imgM cs) = .ok g ∧ g.rs = cs := by
  obtain ⟨c1, c2, c3, c4⟩ := codeB_parts hc
  have hnm : (sSort (usedM cs)).length ≤ 64 := by have := sSort_len (l := usedM cs); omega
  have hno : ∀ z ∈ sSort (usedM cs), okCs z ∧ pathB z = true := fun z hz => by
    have hz := sSort_mem.mp hz
    refine ⟨ho z hz, ?_⟩
    obtain ⟨x, hx, hm⟩ := List.mem_flatMap.mp hz
    exact ok_path (c3 x hx) z hm
  have hmu : ∀ x ∈ cs, ∀ m ∈ x.used, m ∈ sSort (usedM cs) := fun x hx m hm => sSort_mem.mpr (List.mem_flatMap.mpr ⟨x, hx, hm⟩)
  have hup := sSort_up (usedM cs)
  have hback : ∀ z ∈ sSort (usedM cs), z ∈ usedM cs := fun z hz => sSort_mem.mp hz
  have hS := sumM_range (bodyM (sSort (usedM cs)) cs)
  unfold imgM
  generalize sSort (usedM cs) = nm at *
  have h0 : Has (bodyM nm cs ++ pairB (sumM (bodyM nm cs))) 0 (75 :: 72 :: 1 :: (pairB nm.length ++ (pairB cs.length ++ (nm.flatMap nameBy ++ (cs.flatMap (Rw.by_ nm) ++ pairB (sumM (bodyM nm cs))))))) := ⟨[], by simp [bodyM]⟩
  have hl : (bodyM nm cs ++ pairB (sumM (bodyM nm cs))).length = (bodyM nm cs).length + 2 := by
    rw [List.length_append]
    rfl
  have ht : (bodyM nm cs ++ pairB (sumM (bodyM nm cs))).take (bodyM nm cs).length = bodyM nm cs := List.take_left
  have hb : (bodyM nm cs).length = 7 + (nm.flatMap nameBy).length + (cs.flatMap (Rw.by_ nm)).length := by
    simp only [bodyM, List.length_append, List.length_cons, List.length_nil, pairB]
  generalize bodyM nm cs ++ pairB (sumM (bodyM nm cs)) = im at *
  obtain ⟨a1, a2, a3⟩ := h0.cons
  obtain ⟨b1, b2, b3⟩ := a3.cons
  obtain ⟨d1, d2, d3⟩ := b3.cons
  obtain ⟨f1, f2⟩ := d3.app
  obtain ⟨g1, g2⟩ := f2.app
  obtain ⟨i1, i2⟩ := g2.app
  obtain ⟨j1, j2⟩ := i2.app
  have e1 : numM im 2 65535 3 = .ok ((nm.length : Int), 5) := num2_fwd f1 (by omega) (by omega)
  have e2 : numM im 2 10000 5 = .ok ((cs.length : Int), 7) := num2_fwd g1 (by omega) (by omega)
  have eh : headM im = .ok ((nm.length : Int), (cs.length : Int)) := by
    unfold headM
    simp only [dueM]
    rw [if_pos a1, if_pos a2, if_pos (show 0 + 1 < im.length from b1), if_pos (show bAt im (0 + 1) = 72 from b2), if_pos (show 0 + 1 + 1 < im.length from d1), if_pos (show bAt im (0 + 1 + 1) = 1 from d2)]
    dsimp only
    rw [e1]
    dsimp only
    rw [e2]
    dsimp only
    rw [if_neg (by omega)]
  have i1 : Has im 7 (nm.flatMap nameBy) := i1
  obtain ⟨st', e3, e4⟩ := names_fwd nm (nm := []) (st := []) i1 hno (by simpa using hup)
  rw [List.nil_append] at e3
  have j1 : Has im (7 + (nm.flatMap nameBy).length) (cs.flatMap (Rw.by_ nm)) := j1
  obtain ⟨pl', e5⟩ := rows_fwd cs (rs := []) (pl := []) (rows := (cs.length : Int)) j1 (fun x hx => ⟨hmu x hx, c3 x hx⟩) (by simp) c4
  rw [List.nil_append] at e5
  have j2 : Has im (7 + (nm.flatMap nameBy).length + (cs.flatMap (Rw.by_ nm)).length) (pairB (sumM (bodyM nm cs))) := j2
  rw [← hb] at e5 j2
  have e6 := num2_fwd (most := 65535) j2 hS.1 (by omega)
  have ee : endM im nm st' cs (bodyM nm cs).length = .ok () := by
    unfold endM
    rw [e6]
    dsimp only
    rw [ht, if_pos rfl, if_neg (by omega)]
    refine lostM_ok fun p hp => hback _ (List.of_mem_zip hp).1
  refine ⟨⟨nm, st', cs, pl'⟩, ?_, rfl⟩
  unfold parseM
  rw [eh]
  dsimp only
  rw [show ((nm.length : Int)).toNat = nm.length by omega, e3]
  dsimp only
  rw [show ((cs.length : Int)).toNat = cs.length by omega, e5]
  dsimp only
  rw [ee]
end
end K71

set_option maxHeartbeats 4000000
/-! L23: what the sum tells. -/
namespace K71
open PySem PySem.Spec PyProof.Rows L2 Pv
def inP (f : Int) : Prop := 0 ≤ f ∧ f < 65521
theorem step_in (f x : Int) : inP (sumStep f x) := by
  unfold inP sumStep
  rw [Int.fmod_eq_emod_of_nonneg _ (by omega)]
  omega
theorem step_inj {f g x : Int} (hf : inP f) (hg : inP g) (h : sumStep f x = sumStep g x) : f = g := by
  unfold inP at hf hg
  unfold sumStep at h
  rw [Int.fmod_eq_emod_of_nonneg _ (by omega), Int.fmod_eq_emod_of_nonneg _ (by omega)] at h
  omega
theorem fold_inj : ∀ (q : List Int) {f g : Int}, inP f → inP g → q.foldl sumStep f = q.foldl sumStep g → f = g
  | [], _, _, _, _, h => h
  | x :: q, f, g, hf, hg, h => step_inj hf hg (fold_inj q (step_in f x) (step_in g x) h)
theorem fold_in (q : List Int) {f : Int} (hf : inP f) : inP (q.foldl sumStep f) := by
  induction q generalizing f with
  | nil => exact hf
  | cons x q ih => exact ih (step_in f x)
theorem sum_one {p q : List Int} {x y : Int} (hx : 0 ≤ x ∧ x < 256) (hy : 0 ≤ y ∧ y < 256) (h : sumM (p ++ x :: q) = sumM (p ++ y :: q)) : x = y := by
  unfold sumM at h
  rw [List.foldl_append, List.foldl_append, List.foldl_cons, List.foldl_cons] at h
  have h := fold_inj q (step_in _ x) (step_in _ y) h
  unfold sumStep at h
  rw [Int.fmod_eq_emod_of_nonneg _ (by omega), Int.fmod_eq_emod_of_nonneg _ (by omega)] at h
  omega
theorem sum_two {p q : List Int} {x y : Int} (hx : 0 ≤ x ∧ x < 256) (hy : 0 ≤ y ∧ y < 256) (h : sumM (p ++ x :: y :: q) = sumM (p ++ y :: x :: q)) : x = y := by
  unfold sumM at h
  rw [List.foldl_append, List.foldl_append, List.foldl_cons, List.foldl_cons, List.foldl_cons, List.foldl_cons] at h
  have h := fold_inj q (step_in _ y) (step_in _ x) h
  unfold sumStep at h
  rw [Int.fmod_eq_emod_of_nonneg _ (by omega), Int.fmod_eq_emod_of_nonneg _ (by omega), Int.fmod_eq_emod_of_nonneg _ (by omega), Int.fmod_eq_emod_of_nonneg _ (by omega)] at h
  omega
theorem pairB_inj {v w : Int} (hv : 0 ≤ v) (hw : 0 ≤ w) (h : pairB v = pairB w) : v = w := by
  have e1 := (pairB_nn hv).1
  have e2 := (pairB_nn hw).1
  unfold pairB at h
  injection h with h1 h2
  injection h2 with h2 _
  rw [h1, h2] at e1
  omega
/-- a row with its sum -/
def Summed (im : List Int) : Prop := ∃ b, im = b ++ pairB (sumM b)
theorem summed_of {im : List Int} {g : Got} (hb : bytesOk im) (h : parseM im = .ok g) : Summed im := ⟨_, (parse_back hb h).1.symm⟩
theorem one_changed {p q : List Int} {x y : Int} (hx : 0 ≤ x ∧ x < 256) (hy : 0 ≤ y ∧ y < 256) (h1 : Summed (p ++ x :: q)) (h2 : Summed (p ++ y :: q)) : x = y := by
  obtain ⟨b, e1⟩ := h1
  obtain ⟨c, e2⟩ := h2
  have hl : b.length = c.length := by
    have l1 := congrArg List.length e1
    have l2 := congrArg List.length e2
    simp only [List.length_append, List.length_cons, pairB, List.length_nil] at l1 l2
    omega
  by_cases hp : p.length < b.length
  · -- in the body
    obtain ⟨x', t, rfl⟩ : ∃ x' t, b = p ++ x' :: t := by
      have ht : b.take p.length = p := by
        have := congrArg (List.take p.length) e1
        rw [List.take_left, List.take_append_of_le_length (by omega)] at this
        exact this.symm
      refine ⟨b[p.length], b.drop (p.length + 1), ?_⟩
      have := List.take_append_drop p.length b
      rw [ht, List.drop_eq_getElem_cons hp] at this
      exact this.symm
    obtain ⟨y', t', rfl⟩ : ∃ x' t, c = p ++ x' :: t := by
      have ht : c.take p.length = p := by
        have := congrArg (List.take p.length) e2
        rw [List.take_left, List.take_append_of_le_length (by omega)] at this
        exact this.symm
      refine ⟨c[p.length]'(by omega), c.drop (p.length + 1), ?_⟩
      have := List.take_append_drop p.length c
      rw [ht, List.drop_eq_getElem_cons (by omega)] at this
      exact this.symm
    rw [List.append_assoc] at e1 e2
    have e1 := List.append_cancel_left e1
    have e2 := List.append_cancel_left e2
    rw [List.cons_append] at e1 e2
    injection e1 with e3 e4
    injection e2 with e5 e6
    subst e3
    subst e5
    have e7 : t ++ pairB (sumM (p ++ x :: t)) = t' ++ pairB (sumM (p ++ y :: t')) := e4.symm.trans e6
    obtain ⟨e8, e9⟩ := List.append_inj' e7 rfl
    subst e8
    exact sum_one hx hy (pairB_inj (sumM_range _).1 (sumM_range _).1 e9)
  · have hb1 : b = (p ++ x :: q).take b.length := by rw [e1, List.take_left]
    have hb2 : c = (p ++ y :: q).take c.length := by rw [e2, List.take_left]
    rw [List.take_append_of_le_length (by omega)] at hb1 hb2
    have hbc : b = c := by rw [hb1, hb2, hl]
    subst hbc
    have e3 := e1.trans e2.symm
    have e3 := List.append_cancel_left e3
    injection e3
theorem two_changed {p q : List Int} {x y : Int} (hx : 0 ≤ x ∧ x < 256) (hy : 0 ≤ y ∧ y < 256) (h1 : Summed (p ++ x :: y :: q)) (h2 : Summed (p ++ y :: x :: q)) : x = y := by
  obtain ⟨b, e1⟩ := h1
  obtain ⟨c, e2⟩ := h2
  have hl : b.length = c.length := by
    have l1 := congrArg List.length e1
    have l2 := congrArg List.length e2
    simp only [List.length_append, List.length_cons, pairB, List.length_nil] at l1 l2
    omega
  have hS1 := sumM_range b
  have hS2 := sumM_range c
  by_cases hp : p.length < b.length
  · obtain ⟨x', t, rfl⟩ : ∃ x' t, b = p ++ x' :: t := by
      have ht : b.take p.length = p := by
        have := congrArg (List.take p.length) e1
        rw [List.take_left, List.take_append_of_le_length (by omega)] at this
        exact this.symm
      refine ⟨b[p.length], b.drop (p.length + 1), ?_⟩
      have := List.take_append_drop p.length b
      rw [ht, List.drop_eq_getElem_cons hp] at this
      exact this.symm
    obtain ⟨y', t', rfl⟩ : ∃ x' t, c = p ++ x' :: t := by
      have ht : c.take p.length = p := by
        have := congrArg (List.take p.length) e2
        rw [List.take_left, List.take_append_of_le_length (by omega)] at this
        exact this.symm
      refine ⟨c[p.length]'(by omega), c.drop (p.length + 1), ?_⟩
      have := List.take_append_drop p.length c
      rw [ht, List.drop_eq_getElem_cons (by omega)] at this
      exact this.symm
    rw [List.append_assoc] at e1 e2
    have e1 := List.append_cancel_left e1
    have e2 := List.append_cancel_left e2
    rw [List.cons_append] at e1 e2
    injection e1 with e3 e4
    injection e2 with e5 e6
    subst e3
    subst e5
    cases t with
    | nil =>
      have ht' : t' = [] := by
        simp only [List.length_append, List.length_cons, List.length_nil] at hl
        exact List.eq_nil_of_length_eq_zero (by omega)
      subst ht'
      -- the pair's first integer was exchanged with the body's last
      simp only [List.nil_append, pairB] at e4 e6
      injection e4 with f1 f2
      injection e6 with g1 g2
      have hq : [(sumM (p ++ [x])).fmod 256] = [(sumM (p ++ [y])).fmod 256] := f2.symm.trans g2
      injection hq with hq _
      have n1 := (pairB_nn hS1.1).1
      have n2 := (pairB_nn hS2.1).1
      have k1 : sumM (p ++ [x]) = sumStep (sumM p) x := by unfold sumM; rw [List.foldl_append]; rfl
      have k2 : sumM (p ++ [y]) = sumStep (sumM p) y := by unfold sumM; rw [List.foldl_append]; rfl
      rw [← f1] at n1
      rw [← g1] at n2
      rw [hq] at n1
      generalize (sumM (p ++ [y])).fmod 256 = lo at n1 n2
      rw [k1] at n1
      rw [k2] at n2
      unfold sumStep at n1 n2
      rw [Int.fmod_eq_emod_of_nonneg _ (by omega)] at n1 n2
      omega
    | cons z t =>
      rw [List.cons_append] at e4
      injection e4 with f1 f2
      subst f1
      cases t' with
      | nil => simp only [List.length_append, List.length_cons, List.length_nil] at hl; omega
      | cons z' t' =>
        rw [List.cons_append] at e6
        injection e6 with g1 g2
        subst g1
        obtain ⟨e8, e9⟩ := List.append_inj' (f2.symm.trans g2) rfl
        subst e8
        exact sum_two hx hy (pairB_inj hS1.1 hS2.1 e9)
  · have hb1 : b = (p ++ x :: y :: q).take b.length := by rw [e1, List.take_left]
    have hb2 : c = (p ++ y :: x :: q).take c.length := by rw [e2, List.take_left]
    rw [List.take_append_of_le_length (by omega)] at hb1 hb2
    have hbc : b = c := by rw [hb1, hb2, hl]
    subst hbc
    have e3 := List.append_cancel_left (e1.trans e2.symm)
    injection e3
end K71

set_option maxHeartbeats 4000000
/-! L24: the law's draws. -/
namespace K71
open PySem PySem.Spec PyProof.Rows L2 Pv
def penK : List Key := [Sum.inr "cells", Sum.inr "at", Sum.inr "digits", Sum.inr "count", Sum.inr "fold"]
def penO (cells : List Int) (k : Nat) (digits count fold : Int) : O := .dk penK [.lv (cells.map .int), .int (k : Int), .int digits, .int count, .int fold]
/-- a pen at a, that has drawn at most C times -/
def PenAt (S : Hs) (a : Nat) (C : Nat) : Prop := ∃ cells k digits count fold, S[a]? = some (penO cells k digits count fold) ∧ 0 ≤ digits ∧ 0 ≤ count ∧ count ≤ (C : Int) ∧ 0 ≤ fold ∧ fold < 2147482951
/-- all but the object at a stays -/
def Fr_ (a : Nat) (S S' : Hs) : Prop := S.length ≤ S'.length ∧ ∀ j, j < S.length → j ≠ a → S'[j]? = S[j]?
theorem Fr_.refl (a : Nat) (S : Hs) : Fr_ a S S := ⟨Nat.le_refl _, fun _ _ _ => rfl⟩
theorem Fr_.trans {a : Nat} {S S1 S2 : Hs} (h : Fr_ a S S1) (k : Fr_ a S1 S2) : Fr_ a S S2 := ⟨Nat.le_trans h.1 k.1, fun j hj hn => by rw [k.2 j (Nat.lt_of_lt_of_le hj h.1) hn, h.2 j hj hn]⟩
theorem Fr_.app (a : Nat) (S X : Hs) : Fr_ a S (S ++ X) := ⟨by simp, fun j hj _ => by rw [List.getElem?_append_left hj]⟩
theorem Fr_.set (a : Nat) (S : Hs) (o : O) : Fr_ a S (S.set a o) := ⟨by simp, fun j hj hn => by rw [List.getElem?_set_ne (Ne.symm hn)]⟩
theorem PenAt.lt {S : Hs} {a C : Nat} (h : PenAt S a C) : a < S.length := by
  obtain ⟨_, _, _, _, _, e, _⟩ := h
  exact (List.getElem?_eq_some_iff.mp e).1
theorem PenAt.app {S : Hs} {a C : Nat} (h : PenAt S a C) (X : Hs) : PenAt (S ++ X) a C := by
  obtain ⟨c, k, d, n, f, e, r⟩ := h
  exact ⟨c, k, d, n, f, by rw [List.getElem?_append_left (List.getElem?_eq_some_iff.mp e).1]; exact e, r⟩
theorem PenAt.mono {S : Hs} {a C C' : Nat} (h : PenAt S a C) (hc : C ≤ C') : PenAt S a C' := by
  obtain ⟨c, k, d, n, f, e, h1, h2, h3, r⟩ := h
  exact ⟨c, k, d, n, f, e, h1, h2, by omega, r⟩
theorem PenAt.other {S : Hs} {a C j : Nat} (h : PenAt S a C) (o : O) (hj : j ≠ a) : PenAt (S.set j o) a C := by
  obtain ⟨c, k, d, n, f, e, r⟩ := h
  exact ⟨c, k, d, n, f, by rw [List.getElem?_set_ne hj]; exact e, r⟩
section
variable {n : Nat} {S : Hs} {a : Nat} {cells : List Int} {k : Nat} {digits count fold : Int}
theorem pen_get (h : S[a]? = some (penO cells k digits count fold)) :
    gIdx (.ref a) (.str "cells") S = .ok (.lv (cells.map .int)) S ∧ gIdx (.ref a) (.str "at") S = .ok (.int k) S ∧ gIdx (.ref a) (.str "digits") S = .ok (.int digits) S ∧ gIdx (.ref a) (.str "count") S = .ok (.int count) S ∧ gIdx (.ref a) (.str "fold") S = .ok (.int fold) S := by
  simp only [gIdx, dOf, h, penO, keyD]
  refine ⟨?_, ?_, ?_, ?_, ?_⟩ <;> kernel_rfl
theorem pen_put (h : S[a]? = some (penO cells k digits count fold)) (k' : Nat) (d' c' f' : Int) :
    gPutI (.ref a) (.str "at") (.int (k' : Int)) S = some (S.set a (penO cells k' digits count fold)) ∧ gPutI (.ref a) (.str "digits") (.int d') S = some (S.set a (penO cells k d' count fold)) ∧ gPutI (.ref a) (.str "count") (.int c') S = some (S.set a (penO cells k digits c' fold)) ∧ gPutI (.ref a) (.str "fold") (.int f') S = some (S.set a (penO cells k digits count f')) := by
  simp only [gPutI, mL, mD, h, penO, keyD, List.length_cons, List.length_nil, szl]
  refine ⟨?_, ?_, ?_, ?_⟩
  all_goals rw [if_pos (by omega)]
  all_goals refine congrArg (fun o => some (S.set a o)) ?_
  all_goals kernel_rfl
theorem pgS (hlt : a < S.length) : (∀ cells k d c f, gIdx (.ref a) (.str "cells") (S.set a (penO cells k d c f)) = .ok (.lv (cells.map .int)) (S.set a (penO cells k d c f))) ∧ (∀ cells k d c f, gIdx (.ref a) (.str "at") (S.set a (penO cells k d c f)) = .ok (.int (k : Int)) (S.set a (penO cells k d c f))) ∧ (∀ cells k d c f, gIdx (.ref a) (.str "digits") (S.set a (penO cells k d c f)) = .ok (.int d) (S.set a (penO cells k d c f))) ∧ (∀ cells k d c f, gIdx (.ref a) (.str "count") (S.set a (penO cells k d c f)) = .ok (.int c) (S.set a (penO cells k d c f))) ∧ (∀ cells k d c f, gIdx (.ref a) (.str "fold") (S.set a (penO cells k d c f)) = .ok (.int f) (S.set a (penO cells k d c f))) := by
  refine ⟨?_, ?_, ?_, ?_, ?_⟩ <;> intro cells k d c f
  · exact (pen_get (List.getElem?_set_self hlt)).1
  · exact (pen_get (List.getElem?_set_self hlt)).2.1
  · exact (pen_get (List.getElem?_set_self hlt)).2.2.1
  · exact (pen_get (List.getElem?_set_self hlt)).2.2.2.1
  · exact (pen_get (List.getElem?_set_self hlt)).2.2.2.2
theorem ppS (hlt : a < S.length) : (∀ cells k d c f (k' : Nat), gPutI (.ref a) (.str "at") (.int (k' : Int)) (S.set a (penO cells k d c f)) = some (S.set a (penO cells k' d c f))) ∧ (∀ cells k d c f d', gPutI (.ref a) (.str "digits") (.int d') (S.set a (penO cells k d c f)) = some (S.set a (penO cells k d' c f))) ∧ (∀ cells k d c f c', gPutI (.ref a) (.str "count") (.int c') (S.set a (penO cells k d c f)) = some (S.set a (penO cells k d c' f))) ∧ (∀ cells k d c f f', gPutI (.ref a) (.str "fold") (.int f') (S.set a (penO cells k d c f)) = some (S.set a (penO cells k d c f'))) := by
  refine ⟨?_, ?_, ?_, ?_⟩
  · intro cells k d c f k'
    rw [(pen_put (List.getElem?_set_self hlt) k' 0 0 0).1, List.set_set]
  · intro cells k d c f k'
    rw [(pen_put (List.getElem?_set_self hlt) 0 k' 0 0).2.1, List.set_set]
  · intro cells k d c f k'
    rw [(pen_put (List.getElem?_set_self hlt) 0 0 k' 0).2.2.1, List.set_set]
  · intro cells k d c f k'
    rw [(pen_put (List.getElem?_set_self hlt) 0 0 0 k').2.2.2, List.set_set]
theorem pow18 : bopG .pow (.int 10) (.int 18) S = .ok (.int 1000000000000000000) S := by kernel_rfl
theorem fmod_rng {x m : Int} (h : 0 < m) : 0 ≤ x.fmod m ∧ x.fmod m < m := by
  rw [Int.fmod_eq_emod_of_nonneg _ (by omega)]
  exact ⟨Int.emod_nonneg _ (by omega), Int.emod_lt_of_pos _ h⟩
theorem law_draw_eq {many : Int} {C : Nat} (hn : 1 ≤ n) (h : PenAt S a C) (hm : 0 < many ∧ many < 1000000000) (hC : C < 1000000000) :
    ∃ d S', hd (specs Γ n) i__law_draw [.ref a, .int many] S = .ok (.int d) S' ∧ 0 ≤ d ∧ d < many ∧ PenAt S' a (C + 1) ∧ Fr_ a S S' := by
  rw [run__law_draw hn]
  have hlt := h.lt
  obtain ⟨cells, k, digits, count, fold, hS, hd0, hc0, hc1, hf0, hf1⟩ := h
  obtain ⟨g1, g2, g3, g4, g5⟩ := pen_get hS
  obtain ⟨_, _, q3, _⟩ := pen_put hS 0 0 (count + 1) 0
  obtain ⟨r1, r2, r3, r4, r5⟩ := pgS (S := S) hlt
  obtain ⟨s1, s2, s3, s4⟩ := ppS (S := S) hlt
  have fr := fun o => Fr_.set a S o
  have pe : ∀ k d f, 0 ≤ d → 0 ≤ f ∧ f < 2147482951 → PenAt (S.set a (penO cells k d (count + 1) f)) a (C + 1) := fun k d f h1 h2 => ⟨cells, k, d, count + 1, f, List.getElem?_set_self hlt, h1, by omega, by omega, h2.1, h2.2⟩
  have m1 : many ≠ 0 := by omega
  have mm := fun x S => gMod_int (S := S) (i := x) (j := many) m1
  have mp := fun x => fmod_rng (x := x) hm.1
  have md := fun x S => gFdiv_int (S := S) (i := x) (j := many) ⟨m1, by omega⟩
  have mk := fun x S => gMul_int (S := S) (i := x) (j := 7919) (.inr (by decide))
  have m128 := fun x S => gFdiv_int (S := S) (i := x) (j := 128) ⟨by decide, by decide⟩
  have mM := fun x S => gMod_int (S := S) (i := x) (j := 2305843009213693951) (by decide)
  have mF := fun x S => gMod_int (S := S) (i := x) (j := 2147482951) (by decide)
  have m7 := fun S => gMul_int (S := S) (i := fold) (j := 70157) (.inr (by decide))
  have mw : ∀ f, 0 ≤ f ∧ f < 2147482951 → ∃ B, ∀ S, bopG .pow (.int (f + (count + 1) * 7919 + 97)) (.int 17) S = .ok (.int B) S := fun f hf => ⟨_, fun S => gPow_int (S := S) (i := f + (count + 1) * 7919 + 97) (j := 17) ⟨by decide, by decide, by omega⟩⟩
  by_cases hA : digits = 0 ∧ k < cells.length
  · obtain ⟨rfl, hk⟩ := hA
    have hk' : (k : Int) < (cells.length : Int) := by omega
    have ec : ∀ S, gIdx (.lv (cells.map .int)) (.int (k : Int)) S = .ok (.int cells[k]) S := by
      intro S
      simp [gIdx, dOf, sOf, atI, ixN, hk, oR]
    have ek : ∀ d c f, gPutI (.ref a) (.str "at") (.int ((k : Int) + 1)) (S.set a (penO cells k d c f)) = some (S.set a (penO cells (k + 1) d c f)) := fun d c f => s1 cells k d c f (k + 1)
    by_cases h18 : 1000000000000000000 ≤ cells[k]
    · by_cases hz : 1000000000000000000 < cells[k]
      · refine ⟨_, _, ?_, (mp (cells[k] - 1000000000000000000)).1, (mp (cells[k] - 1000000000000000000)).2, pe (k + 1) ((cells[k] - 1000000000000000000).fdiv many) fold (by rw [Int.fdiv_eq_ediv_of_nonneg _ (by omega)]; exact Int.ediv_nonneg (by omega) (by omega)) ⟨hf0, hf1⟩, fr _⟩
        simp [runFn, f__law_draw, b__law_draw, g4, q3, r1, r2, r3, r4, r5, hk', ec, ek, s2, s3, s4, pow18, h18, hz, mm, md]
      · obtain ⟨B, hB⟩ := mw fold ⟨hf0, hf1⟩
        refine ⟨_, _, ?_, (mp ((B.fmod 2305843009213693951).fdiv 128)).1, (mp ((B.fmod 2305843009213693951).fdiv 128)).2, pe (k + 1) (cells[k] - 1000000000000000000) fold (by omega) ⟨hf0, hf1⟩, fr _⟩
        simp [runFn, f__law_draw, b__law_draw, g4, q3, r1, r2, r3, r4, r5, hk', ec, ek, s2, s3, s4, pow18, h18, hz, mm, md, mk, m128, mM, hB]
    · have mf := mF (fold * 70157 + cells[k])
      have hf := fmod_rng (x := fold * 70157 + cells[k]) (m := 2147482951) (by omega)
      obtain ⟨B, hB⟩ := mw _ hf
      generalize (fold * 70157 + cells[k]).fmod 2147482951 = f' at mf hf hB
      refine ⟨_, _, ?_, (mp ((B.fmod 2305843009213693951).fdiv 128)).1, (mp ((B.fmod 2305843009213693951).fdiv 128)).2, pe (k + 1) 0 f' (by omega) hf, fr _⟩
      simp [runFn, f__law_draw, b__law_draw, g4, q3, r1, r2, r3, r4, r5, hk', ec, ek, s2, s3, s4, pow18, h18, mm, md, mk, m128, mM, m7, mf, hB]
  · have hA' : (digits == 0 && decide ((k : Int) < (cells.length : Int))) = false := by
      cases h1 : digits == 0 with
      | false => rfl
      | true =>
        have h1 := beq_iff_eq.mp h1
        have : ¬ (k : Int) < (cells.length : Int) := by omega
        simp [this]
    by_cases hd : 0 < digits
    · have hd0 : (digits == 0) = false := by rw [beq_eq_false_iff_ne]; omega
      refine ⟨_, _, ?_, (mp digits).1, (mp digits).2, pe k (digits.fdiv many) fold (by rw [Int.fdiv_eq_ediv_of_nonneg _ (by omega)]; exact Int.ediv_nonneg (by omega) (by omega)) ⟨hf0, hf1⟩, fr _⟩
      simp [runFn, f__law_draw, b__law_draw, g4, q3, r1, r2, r3, r4, r5, hd0, hd, s2, s3, s4, mm, md]
    · have hd0 : digits = 0 := by omega
      subst hd0
      have hk : ¬ (k : Int) < (cells.length : Int) := by omega
      obtain ⟨B, hB⟩ := mw fold ⟨hf0, hf1⟩
      refine ⟨_, _, ?_, (mp ((B.fmod 2305843009213693951).fdiv 128)).1, (mp ((B.fmod 2305843009213693951).fdiv 128)).2, pe k 0 fold (by omega) ⟨hf0, hf1⟩, fr _⟩
      simp [runFn, f__law_draw, b__law_draw, g4, q3, r1, r2, r3, r4, r5, hk, s2, s3, s4, mm, md, mk, m128, mM, hB]
end
end K71

set_option maxHeartbeats 4000000
/-! L25: what the law picks and draws. -/
namespace K71
open PySem PySem.Spec PyProof.Rows L2 Pv
theorem Fr_.far {a p : Nat} {S0 S : Hs} (h : Fr_ a S0 S) (hp : S0.length ≤ p) (o : O) : Fr_ a S0 (S.set p o) := ⟨by simpa using h.1, fun j hj hn => by rw [List.getElem?_set_ne (by omega)]; exact h.2 j hj hn⟩
theorem Fr_.more {a : Nat} {S0 S : Hs} (h : Fr_ a S0 S) (X : Hs) : Fr_ a S0 (S ++ X) := h.trans (Fr_.app a S X)
section
variable {n : Nat} {S S0 : Hs} {a C : Nat}
theorem lv_at {ds : List D} {i : Nat} {d : D} (h : ds[i]? = some d) : gIdx (.lv ds) (.int (i : Int)) S = .ok d S := by
  have hi := (List.getElem?_eq_some_iff.mp h).1
  simp only [gIdx, dOf, sOf, atI, ixN]
  rw [if_pos (by omega), if_pos (by omega)]
  simp [h]
theorem law_pick_eq {ds : List D} (hn : 2 ≤ n) (h : PenAt S a C) (h1 : 0 < ds.length) (h2 : ds.length < 1000) (hC : C < 1000000000) :
    ∃ x ∈ ds, ∃ S', hd (specs Γ n) i__law_pick [.ref a, .lv ds] S = .ok x S' ∧ PenAt S' a (C + 1) ∧ Fr_ a S S' := by
  rw [run__law_pick (by omega)]
  obtain ⟨d, S', e, d0, d1, hp, hf⟩ := law_draw_eq (n := n - 1) (S := S) (many := (ds.length : Int)) (by omega) h ⟨by omega, by omega⟩ hC
  have hi : d.toNat < ds.length := by omega
  refine ⟨ds[d.toNat], List.getElem_mem hi, S', ?_, hp, hf⟩
  have ei := lv_at (S := S') (List.getElem?_eq_getElem hi)
  rw [show ((d.toNat : Nat) : Int) = d by omega] at ei
  simp [runFn, f__law_pick, b__law_pick, e, ei]
theorem law_pen_eq {ns : List Int} (hn : 1 ≤ n) : ∃ S', hd (specs Γ n) i__law_pen [.rl (ns.map .int)] [] = .ok (.ref 0) S' ∧ PenAt S' 0 0 := by
  rw [run__law_pen hn]
  obtain ⟨ρ', S', e, t, f, rfl, rfl, hf⟩ := forGo_nx (src := .one (.fx (ns.map .int))) (tg := .v 2) (body := svs Γ (specs Γ (n - 1)) b__law_pen_0) (ρ := [some (.rl (ns.map .int)), some (.int 59), none]) (S := []) (items := (ns.map D.int).map Itm.d)
    (fun j ρ S' => ∃ u f, ρ = [some (.rl (ns.map .int)), some (.int f), u] ∧ S' = [] ∧ 0 ≤ f ∧ f < 2147482951) (by rintro j ρ S' ⟨u, f, rfl, rfl, _⟩; exact src_fx)
    (by
      rintro j it ρ S' e ⟨u, f, rfl, rfl, hf⟩
      rw [List.getElem?_map, List.getElem?_map] at e
      cases ex : ns[j]? with
      | none => rw [ex] at e; cases e
      | some x =>
        rw [ex] at e
        cases e
        refine ⟨_, _, _, rfl, ?_, some (.int x), (f * 163 + x).fmod 1000000513, rfl, rfl, (fmod_rng (by omega)).1, Int.lt_trans (fmod_rng (by omega)).2 (by omega)⟩
        simp [b__law_pen_0, gMul_int (j := 163) (.inr (by decide)), gMod_int (j := 1000000513) (by decide)])
    (f := ns.length) ⟨none, 59, rfl, rfl, by omega, by omega⟩ (by simp)
  refine ⟨[penO ns 0 0 0 f], ?_, ns, 0, 0, 0, f, rfl, by omega, by omega, by omega, hf.1, hf.2⟩
  simp [runFn, f__law_pen, b__law_pen, sv_for, e, penO, penK]
end
end K71

set_option maxHeartbeats 4000000
/-! L26: the law's drawn code. -/
namespace K71
open PySem PySem.Spec PyProof.Rows L2 Pv
def M4 : List Str := ["a", "b.begin", "c", "e0.end"]
def Rw.good (x : Rw) (size : Int) : Prop := match x with
  | .past m v t => m ∈ M4 ∧ 0 ≤ v ∧ v < 5 ∧ 0 ≤ t ∧ t < size
  | .got m t => m ∈ M4 ∧ 0 ≤ t ∧ t < size
  | .do_ m => m ∈ M4
  | .go t => 0 ≤ t ∧ t < size
  | .rest => True
  | .stop => True
section
variable {n : Nat} {S S0 : Hs} {a C : Nat}
abbrev MD : List D := [.str "a", .str "b.begin", .str "c", .str "e0.end"]
theorem dk0 {x y z u v : D} : gIdx (.dv [Sum.inr "past", Sum.inr "got", Sum.inr "do", Sum.inr "go", Sum.inr "rest"] [x, y, z, u, v]) (.str "past") S = .ok x S := by kernel_rfl
theorem dk1 {x y z u v : D} : gIdx (.dv [Sum.inr "past", Sum.inr "got", Sum.inr "do", Sum.inr "go", Sum.inr "rest"] [x, y, z, u, v]) (.str "got") S = .ok y S := by kernel_rfl
theorem dk2 {x y z u v : D} : gIdx (.dv [Sum.inr "past", Sum.inr "got", Sum.inr "do", Sum.inr "go", Sum.inr "rest"] [x, y, z, u, v]) (.str "do") S = .ok z S := by kernel_rfl
theorem dk3 {x y z u v : D} : gIdx (.dv [Sum.inr "past", Sum.inr "got", Sum.inr "do", Sum.inr "go", Sum.inr "rest"] [x, y, z, u, v]) (.str "go") S = .ok u S := by kernel_rfl
theorem dk4 {x y z u v : D} : gIdx (.dv [Sum.inr "past", Sum.inr "got", Sum.inr "do", Sum.inr "go", Sum.inr "rest"] [x, y, z, u, v]) (.str "rest") S = .ok v S := by kernel_rfl
theorem nd0 : (("past" : Str) == "do") = false := by decide +kernel
theorem nd1 : (("got" : Str) == "do") = false := by decide +kernel
theorem nd3 : (("go" : Str) == "do") = false := by decide +kernel
theorem nd4 : (("rest" : Str) == "do") = false := by decide +kernel
theorem cut3 : Pv.cutD MD none (some 3) = [.str "a", .str "b.begin", .str "c"] := cut_to (k := 3)
theorem mem_MD {x : D} (h : x ∈ MD) : ∃ m, x = .str m ∧ m ∈ M4 := by
  simp only [List.mem_cons, List.not_mem_nil, or_false] at h
  rcases h with rfl | rfl | rfl | rfl
  all_goals exact ⟨_, rfl, by simp [M4]⟩
theorem mem_M3 {x : D} (h : x ∈ ([.str "a", .str "b.begin", .str "c"] : List D)) : ∃ m, x = .str m ∧ m ∈ M4 := by
  simp only [List.mem_cons, List.not_mem_nil, or_false] at h
  rcases h with rfl | rfl | rfl
  all_goals exact ⟨_, rfl, by simp [M4]⟩
theorem law_code_row {size : Int} {j p : Nat} {rs : List Rw} {w : D} {u6 u7 u8 u9 u10 : Option D} (hn : 3 ≤ n) (hs : 2 ≤ size ∧ size ≤ 10) (hj : (j : Int) < size - 1) (h : PenAt S a C) (hC : C < 100000) (hp : S[p]? = some (.lst (rs.map Rw.d))) (hpa : p ≠ a) (hrs : rs.length < 1000) (hfr : Fr_ a S0 S) (hp0 : S0.length ≤ p) :
    ∃ x S' v6 v7 v8 v9, svs Γ (specs Γ n) b__law_some_code_0 [some (.ref a), some w, some (.ref p), some (.int (j : Int)), some (.lv MD), some (.int size), u6, u7, u8, u9, u10] S = .nx [some (.ref a), some w, some (.ref p), some (.int (j : Int)), some (.lv MD), some (.int size), v6, v7, v8, v9, u10] S' ∧ S'[p]? = some (.lst ((rs ++ [x]).map Rw.d)) ∧ x.good size ∧ PenAt S' a (C + 6) ∧ Fr_ a S0 S' := by
  obtain ⟨k, hk, S1, e1, p1, f1⟩ := law_pick_eq (n := n) (S := S) (ds := [.str "past", .str "past", .str "got", .str "do", .str "do", .str "go", .str "rest"]) (by omega) h (by simp) (by simp) (by omega)
  obtain ⟨d1, S2, e2, d10, d11, p2, f2⟩ := law_draw_eq (n := n) (S := S1) (many := 3) (by omega) p1 (by omega) (by omega)
  obtain ⟨d2, S3, e3, d20, d21, p3, f3⟩ := law_draw_eq (n := n) (S := S2) (many := 8) (by omega) p2 (by omega) (by omega)
  have hm1 : 0 < size ∧ size < 1000000000 := by omega
  have hpl : p < S.length := (List.getElem?_eq_some_iff.mp hp).1
  generalize hah : (if (j : Int) + 1 + d1 < size - 1 then (j : Int) + 1 + d1 else size - 1) = ahead
  have ha : 0 ≤ ahead ∧ ahead < size := by
    rw [← hah]
    split <;> omega
  simp only [List.mem_cons, List.not_mem_nil, or_false] at hk
  by_cases h8 : 0 < d2
  · rcases hk with rfl | rfl | rfl | rfl | rfl | rfl | rfl
    · obtain ⟨mm, hmm, S5, e5, p5, f5⟩ := law_pick_eq (n := n) (S := S3) (ds := MD) (by omega) p3 (by simp) (by simp) (by omega)
      obtain ⟨m, rfl, hm⟩ := mem_MD hmm
      obtain ⟨d5, S6, e6, d50, d51, p6, f6⟩ := law_draw_eq (n := n) (S := S5) (many := 5) (by omega) p5 (by omega) (by omega)
      have F := f1.trans (f2.trans (f3.trans (f5.trans f6)))
      have hp6 : S6[p]? = some (.lst (rs.map Rw.d)) := by rw [F.2 p hpl hpa]; exact hp
      have ap := append_ref (y := Rw.d (.past m d5 ahead)) hp6 (by rw [szl, List.length_map]; omega)
      have ty := ty_ref (show S5[p]? = some (.lst (rs.map Rw.d)) by rw [(f1.trans (f2.trans (f3.trans f5))).2 p hpl hpa]; exact hp)
      refine ⟨.past m d5 ahead, S6.set p (.lst (rs.map Rw.d ++ [Rw.d (.past m d5 ahead)])), some (.int ahead), some (.str m), some (.str "past"), some (.int ahead), ?_, ?_, ⟨hm, d50, d51, by omega, by omega⟩, (p6.mono (by omega)).other _ hpa, (hfr.trans F).far hp0 _⟩
      · simp only [Rw.d] at ap
        simp [b__law_some_code_0, e1, e2, hah, e3, h8, e5, e6, szl, dk0, nd0, ty, ap, Rw.d]
      · rw [List.getElem?_set_self (Nat.lt_of_lt_of_le hpl F.1), List.map_append]
        rfl
    · obtain ⟨mm, hmm, S5, e5, p5, f5⟩ := law_pick_eq (n := n) (S := S3) (ds := MD) (by omega) p3 (by simp) (by simp) (by omega)
      obtain ⟨m, rfl, hm⟩ := mem_MD hmm
      obtain ⟨d5, S6, e6, d50, d51, p6, f6⟩ := law_draw_eq (n := n) (S := S5) (many := 5) (by omega) p5 (by omega) (by omega)
      have F := f1.trans (f2.trans (f3.trans (f5.trans f6)))
      have hp6 : S6[p]? = some (.lst (rs.map Rw.d)) := by rw [F.2 p hpl hpa]; exact hp
      have ap := append_ref (y := Rw.d (.past m d5 ahead)) hp6 (by rw [szl, List.length_map]; omega)
      have ty := ty_ref (show S5[p]? = some (.lst (rs.map Rw.d)) by rw [(f1.trans (f2.trans (f3.trans f5))).2 p hpl hpa]; exact hp)
      refine ⟨.past m d5 ahead, S6.set p (.lst (rs.map Rw.d ++ [Rw.d (.past m d5 ahead)])), some (.int ahead), some (.str m), some (.str "past"), some (.int ahead), ?_, ?_, ⟨hm, d50, d51, by omega, by omega⟩, (p6.mono (by omega)).other _ hpa, (hfr.trans F).far hp0 _⟩
      · simp only [Rw.d] at ap
        simp [b__law_some_code_0, e1, e2, hah, e3, h8, e5, e6, szl, dk0, nd0, ty, ap, Rw.d]
      · rw [List.getElem?_set_self (Nat.lt_of_lt_of_le hpl F.1), List.map_append]
        rfl
    · obtain ⟨mm, hmm, S5, e5, p5, f5⟩ := law_pick_eq (n := n) (S := S3) (ds := MD) (by omega) p3 (by simp) (by simp) (by omega)
      obtain ⟨m, rfl, hm⟩ := mem_MD hmm
      obtain ⟨d5, S6, e6, d50, d51, p6, f6⟩ := law_draw_eq (n := n) (S := S5) (many := 5) (by omega) p5 (by omega) (by omega)
      have F := f1.trans (f2.trans (f3.trans (f5.trans f6)))
      have hp6 : S6[p]? = some (.lst (rs.map Rw.d)) := by rw [F.2 p hpl hpa]; exact hp
      have ap := append_ref (y := Rw.d (.got m ahead)) hp6 (by rw [szl, List.length_map]; omega)
      have ty := ty_ref (show S5[p]? = some (.lst (rs.map Rw.d)) by rw [(f1.trans (f2.trans (f3.trans f5))).2 p hpl hpa]; exact hp)
      refine ⟨.got m ahead, S6.set p (.lst (rs.map Rw.d ++ [Rw.d (.got m ahead)])), some (.int ahead), some (.str m), some (.str "got"), some (.int ahead), ?_, ?_, ⟨hm, by omega, by omega⟩, (p6.mono (by omega)).other _ hpa, (hfr.trans F).far hp0 _⟩
      · simp only [Rw.d] at ap
        simp [b__law_some_code_0, e1, e2, hah, e3, h8, e5, e6, szl, dk1, nd1, ty, ap, Rw.d]
      · rw [List.getElem?_set_self (Nat.lt_of_lt_of_le hpl F.1), List.map_append]
        rfl
    · obtain ⟨mm, hmm, S5, e5, p5, f5⟩ := law_pick_eq (n := n) (S := S3) (ds := [.str "a", .str "b.begin", .str "c"]) (by omega) p3 (by simp) (by simp) (by omega)
      obtain ⟨m, rfl, hm⟩ := mem_M3 hmm
      obtain ⟨d5, S6, e6, d50, d51, p6, f6⟩ := law_draw_eq (n := n) (S := S5) (many := 5) (by omega) p5 (by omega) (by omega)
      have F := f1.trans (f2.trans (f3.trans (f5.trans f6)))
      have hp6 : S6[p]? = some (.lst (rs.map Rw.d)) := by rw [F.2 p hpl hpa]; exact hp
      have ap := append_ref (y := Rw.d (.do_ m)) hp6 (by rw [szl, List.length_map]; omega)
      have ty := ty_ref (show S5[p]? = some (.lst (rs.map Rw.d)) by rw [(f1.trans (f2.trans (f3.trans f5))).2 p hpl hpa]; exact hp)
      refine ⟨.do_ m, S6.set p (.lst (rs.map Rw.d ++ [Rw.d (.do_ m)])), some (.int ahead), some (.str m), some (.str "do"), some (.int ahead), ?_, ?_, hm, (p6.mono (by omega)).other _ hpa, (hfr.trans F).far hp0 _⟩
      · simp only [Rw.d] at ap
        simp [b__law_some_code_0, e1, e2, hah, e3, h8, e5, e6, szl, dk2, cut3, ty, ap, Rw.d]
      · rw [List.getElem?_set_self (Nat.lt_of_lt_of_le hpl F.1), List.map_append]
        rfl
    · obtain ⟨mm, hmm, S5, e5, p5, f5⟩ := law_pick_eq (n := n) (S := S3) (ds := [.str "a", .str "b.begin", .str "c"]) (by omega) p3 (by simp) (by simp) (by omega)
      obtain ⟨m, rfl, hm⟩ := mem_M3 hmm
      obtain ⟨d5, S6, e6, d50, d51, p6, f6⟩ := law_draw_eq (n := n) (S := S5) (many := 5) (by omega) p5 (by omega) (by omega)
      have F := f1.trans (f2.trans (f3.trans (f5.trans f6)))
      have hp6 : S6[p]? = some (.lst (rs.map Rw.d)) := by rw [F.2 p hpl hpa]; exact hp
      have ap := append_ref (y := Rw.d (.do_ m)) hp6 (by rw [szl, List.length_map]; omega)
      have ty := ty_ref (show S5[p]? = some (.lst (rs.map Rw.d)) by rw [(f1.trans (f2.trans (f3.trans f5))).2 p hpl hpa]; exact hp)
      refine ⟨.do_ m, S6.set p (.lst (rs.map Rw.d ++ [Rw.d (.do_ m)])), some (.int ahead), some (.str m), some (.str "do"), some (.int ahead), ?_, ?_, hm, (p6.mono (by omega)).other _ hpa, (hfr.trans F).far hp0 _⟩
      · simp only [Rw.d] at ap
        simp [b__law_some_code_0, e1, e2, hah, e3, h8, e5, e6, szl, dk2, cut3, ty, ap, Rw.d]
      · rw [List.getElem?_set_self (Nat.lt_of_lt_of_le hpl F.1), List.map_append]
        rfl
    · obtain ⟨mm, hmm, S5, e5, p5, f5⟩ := law_pick_eq (n := n) (S := S3) (ds := MD) (by omega) p3 (by simp) (by simp) (by omega)
      obtain ⟨m, rfl, hm⟩ := mem_MD hmm
      obtain ⟨d5, S6, e6, d50, d51, p6, f6⟩ := law_draw_eq (n := n) (S := S5) (many := 5) (by omega) p5 (by omega) (by omega)
      have F := f1.trans (f2.trans (f3.trans (f5.trans f6)))
      have hp6 : S6[p]? = some (.lst (rs.map Rw.d)) := by rw [F.2 p hpl hpa]; exact hp
      have ap := append_ref (y := Rw.d (.go ahead)) hp6 (by rw [szl, List.length_map]; omega)
      have ty := ty_ref (show S5[p]? = some (.lst (rs.map Rw.d)) by rw [(f1.trans (f2.trans (f3.trans f5))).2 p hpl hpa]; exact hp)
      refine ⟨.go ahead, S6.set p (.lst (rs.map Rw.d ++ [Rw.d (.go ahead)])), some (.int ahead), some (.str m), some (.str "go"), some (.int ahead), ?_, ?_, ⟨by omega, by omega⟩, (p6.mono (by omega)).other _ hpa, (hfr.trans F).far hp0 _⟩
      · simp only [Rw.d] at ap
        simp [b__law_some_code_0, e1, e2, hah, e3, h8, e5, e6, szl, dk3, nd3, ty, ap, Rw.d]
      · rw [List.getElem?_set_self (Nat.lt_of_lt_of_le hpl F.1), List.map_append]
        rfl
    · obtain ⟨mm, hmm, S5, e5, p5, f5⟩ := law_pick_eq (n := n) (S := S3) (ds := MD) (by omega) p3 (by simp) (by simp) (by omega)
      obtain ⟨m, rfl, hm⟩ := mem_MD hmm
      obtain ⟨d5, S6, e6, d50, d51, p6, f6⟩ := law_draw_eq (n := n) (S := S5) (many := 5) (by omega) p5 (by omega) (by omega)
      have F := f1.trans (f2.trans (f3.trans (f5.trans f6)))
      have hp6 : S6[p]? = some (.lst (rs.map Rw.d)) := by rw [F.2 p hpl hpa]; exact hp
      have ap := append_ref (y := Rw.d (.rest)) hp6 (by rw [szl, List.length_map]; omega)
      have ty := ty_ref (show S5[p]? = some (.lst (rs.map Rw.d)) by rw [(f1.trans (f2.trans (f3.trans f5))).2 p hpl hpa]; exact hp)
      refine ⟨.rest, S6.set p (.lst (rs.map Rw.d ++ [Rw.d (.rest)])), some (.int ahead), some (.str m), some (.str "rest"), some (.int ahead), ?_, ?_, trivial, (p6.mono (by omega)).other _ hpa, (hfr.trans F).far hp0 _⟩
      · simp only [Rw.d] at ap
        simp [b__law_some_code_0, e1, e2, hah, e3, h8, e5, e6, szl, dk4, nd4, ty, ap, Rw.d]
      · rw [List.getElem?_set_self (Nat.lt_of_lt_of_le hpl F.1), List.map_append]
        rfl
  · obtain ⟨d3, S4, e4, d30, d31, p4, f4⟩ := law_draw_eq (n := n) (S := S3) (many := size) (by omega) p3 hm1 (by omega)
    rcases hk with rfl | rfl | rfl | rfl | rfl | rfl | rfl
    · obtain ⟨mm, hmm, S5, e5, p5, f5⟩ := law_pick_eq (n := n) (S := S4) (ds := MD) (by omega) p4 (by simp) (by simp) (by omega)
      obtain ⟨m, rfl, hm⟩ := mem_MD hmm
      obtain ⟨d5, S6, e6, d50, d51, p6, f6⟩ := law_draw_eq (n := n) (S := S5) (many := 5) (by omega) p5 (by omega) (by omega)
      have F := f1.trans (f2.trans (f3.trans (f4.trans (f5.trans f6))))
      have hp6 : S6[p]? = some (.lst (rs.map Rw.d)) := by rw [F.2 p hpl hpa]; exact hp
      have ap := append_ref (y := Rw.d (.past m d5 d3)) hp6 (by rw [szl, List.length_map]; omega)
      have ty := ty_ref (show S5[p]? = some (.lst (rs.map Rw.d)) by rw [(f1.trans (f2.trans (f3.trans (f4.trans f5)))).2 p hpl hpa]; exact hp)
      refine ⟨.past m d5 d3, S6.set p (.lst (rs.map Rw.d ++ [Rw.d (.past m d5 d3)])), some (.int d3), some (.str m), some (.str "past"), some (.int ahead), ?_, ?_, ⟨hm, d50, d51, by omega, by omega⟩, (p6.mono (by omega)).other _ hpa, (hfr.trans F).far hp0 _⟩
      · simp only [Rw.d] at ap
        simp [b__law_some_code_0, e1, e2, hah, e3, h8, e5, e6, szl, dk0, nd0, ty, ap, e4, Rw.d]
      · rw [List.getElem?_set_self (Nat.lt_of_lt_of_le hpl F.1), List.map_append]
        rfl
    · obtain ⟨mm, hmm, S5, e5, p5, f5⟩ := law_pick_eq (n := n) (S := S4) (ds := MD) (by omega) p4 (by simp) (by simp) (by omega)
      obtain ⟨m, rfl, hm⟩ := mem_MD hmm
      obtain ⟨d5, S6, e6, d50, d51, p6, f6⟩ := law_draw_eq (n := n) (S := S5) (many := 5) (by omega) p5 (by omega) (by omega)
      have F := f1.trans (f2.trans (f3.trans (f4.trans (f5.trans f6))))
      have hp6 : S6[p]? = some (.lst (rs.map Rw.d)) := by rw [F.2 p hpl hpa]; exact hp
      have ap := append_ref (y := Rw.d (.past m d5 d3)) hp6 (by rw [szl, List.length_map]; omega)
      have ty := ty_ref (show S5[p]? = some (.lst (rs.map Rw.d)) by rw [(f1.trans (f2.trans (f3.trans (f4.trans f5)))).2 p hpl hpa]; exact hp)
      refine ⟨.past m d5 d3, S6.set p (.lst (rs.map Rw.d ++ [Rw.d (.past m d5 d3)])), some (.int d3), some (.str m), some (.str "past"), some (.int ahead), ?_, ?_, ⟨hm, d50, d51, by omega, by omega⟩, (p6.mono (by omega)).other _ hpa, (hfr.trans F).far hp0 _⟩
      · simp only [Rw.d] at ap
        simp [b__law_some_code_0, e1, e2, hah, e3, h8, e5, e6, szl, dk0, nd0, ty, ap, e4, Rw.d]
      · rw [List.getElem?_set_self (Nat.lt_of_lt_of_le hpl F.1), List.map_append]
        rfl
    · obtain ⟨mm, hmm, S5, e5, p5, f5⟩ := law_pick_eq (n := n) (S := S4) (ds := MD) (by omega) p4 (by simp) (by simp) (by omega)
      obtain ⟨m, rfl, hm⟩ := mem_MD hmm
      obtain ⟨d5, S6, e6, d50, d51, p6, f6⟩ := law_draw_eq (n := n) (S := S5) (many := 5) (by omega) p5 (by omega) (by omega)
      have F := f1.trans (f2.trans (f3.trans (f4.trans (f5.trans f6))))
      have hp6 : S6[p]? = some (.lst (rs.map Rw.d)) := by rw [F.2 p hpl hpa]; exact hp
      have ap := append_ref (y := Rw.d (.got m d3)) hp6 (by rw [szl, List.length_map]; omega)
      have ty := ty_ref (show S5[p]? = some (.lst (rs.map Rw.d)) by rw [(f1.trans (f2.trans (f3.trans (f4.trans f5)))).2 p hpl hpa]; exact hp)
      refine ⟨.got m d3, S6.set p (.lst (rs.map Rw.d ++ [Rw.d (.got m d3)])), some (.int d3), some (.str m), some (.str "got"), some (.int ahead), ?_, ?_, ⟨hm, by omega, by omega⟩, (p6.mono (by omega)).other _ hpa, (hfr.trans F).far hp0 _⟩
      · simp only [Rw.d] at ap
        simp [b__law_some_code_0, e1, e2, hah, e3, h8, e5, e6, szl, dk1, nd1, ty, ap, e4, Rw.d]
      · rw [List.getElem?_set_self (Nat.lt_of_lt_of_le hpl F.1), List.map_append]
        rfl
    · obtain ⟨mm, hmm, S5, e5, p5, f5⟩ := law_pick_eq (n := n) (S := S4) (ds := [.str "a", .str "b.begin", .str "c"]) (by omega) p4 (by simp) (by simp) (by omega)
      obtain ⟨m, rfl, hm⟩ := mem_M3 hmm
      obtain ⟨d5, S6, e6, d50, d51, p6, f6⟩ := law_draw_eq (n := n) (S := S5) (many := 5) (by omega) p5 (by omega) (by omega)
      have F := f1.trans (f2.trans (f3.trans (f4.trans (f5.trans f6))))
      have hp6 : S6[p]? = some (.lst (rs.map Rw.d)) := by rw [F.2 p hpl hpa]; exact hp
      have ap := append_ref (y := Rw.d (.do_ m)) hp6 (by rw [szl, List.length_map]; omega)
      have ty := ty_ref (show S5[p]? = some (.lst (rs.map Rw.d)) by rw [(f1.trans (f2.trans (f3.trans (f4.trans f5)))).2 p hpl hpa]; exact hp)
      refine ⟨.do_ m, S6.set p (.lst (rs.map Rw.d ++ [Rw.d (.do_ m)])), some (.int d3), some (.str m), some (.str "do"), some (.int ahead), ?_, ?_, hm, (p6.mono (by omega)).other _ hpa, (hfr.trans F).far hp0 _⟩
      · simp only [Rw.d] at ap
        simp [b__law_some_code_0, e1, e2, hah, e3, h8, e5, e6, szl, dk2, cut3, ty, ap, e4, Rw.d]
      · rw [List.getElem?_set_self (Nat.lt_of_lt_of_le hpl F.1), List.map_append]
        rfl
    · obtain ⟨mm, hmm, S5, e5, p5, f5⟩ := law_pick_eq (n := n) (S := S4) (ds := [.str "a", .str "b.begin", .str "c"]) (by omega) p4 (by simp) (by simp) (by omega)
      obtain ⟨m, rfl, hm⟩ := mem_M3 hmm
      obtain ⟨d5, S6, e6, d50, d51, p6, f6⟩ := law_draw_eq (n := n) (S := S5) (many := 5) (by omega) p5 (by omega) (by omega)
      have F := f1.trans (f2.trans (f3.trans (f4.trans (f5.trans f6))))
      have hp6 : S6[p]? = some (.lst (rs.map Rw.d)) := by rw [F.2 p hpl hpa]; exact hp
      have ap := append_ref (y := Rw.d (.do_ m)) hp6 (by rw [szl, List.length_map]; omega)
      have ty := ty_ref (show S5[p]? = some (.lst (rs.map Rw.d)) by rw [(f1.trans (f2.trans (f3.trans (f4.trans f5)))).2 p hpl hpa]; exact hp)
      refine ⟨.do_ m, S6.set p (.lst (rs.map Rw.d ++ [Rw.d (.do_ m)])), some (.int d3), some (.str m), some (.str "do"), some (.int ahead), ?_, ?_, hm, (p6.mono (by omega)).other _ hpa, (hfr.trans F).far hp0 _⟩
      · simp only [Rw.d] at ap
        simp [b__law_some_code_0, e1, e2, hah, e3, h8, e5, e6, szl, dk2, cut3, ty, ap, e4, Rw.d]
      · rw [List.getElem?_set_self (Nat.lt_of_lt_of_le hpl F.1), List.map_append]
        rfl
    · obtain ⟨mm, hmm, S5, e5, p5, f5⟩ := law_pick_eq (n := n) (S := S4) (ds := MD) (by omega) p4 (by simp) (by simp) (by omega)
      obtain ⟨m, rfl, hm⟩ := mem_MD hmm
      obtain ⟨d5, S6, e6, d50, d51, p6, f6⟩ := law_draw_eq (n := n) (S := S5) (many := 5) (by omega) p5 (by omega) (by omega)
      have F := f1.trans (f2.trans (f3.trans (f4.trans (f5.trans f6))))
      have hp6 : S6[p]? = some (.lst (rs.map Rw.d)) := by rw [F.2 p hpl hpa]; exact hp
      have ap := append_ref (y := Rw.d (.go ahead)) hp6 (by rw [szl, List.length_map]; omega)
      have ty := ty_ref (show S5[p]? = some (.lst (rs.map Rw.d)) by rw [(f1.trans (f2.trans (f3.trans (f4.trans f5)))).2 p hpl hpa]; exact hp)
      refine ⟨.go ahead, S6.set p (.lst (rs.map Rw.d ++ [Rw.d (.go ahead)])), some (.int d3), some (.str m), some (.str "go"), some (.int ahead), ?_, ?_, ⟨by omega, by omega⟩, (p6.mono (by omega)).other _ hpa, (hfr.trans F).far hp0 _⟩
      · simp only [Rw.d] at ap
        simp [b__law_some_code_0, e1, e2, hah, e3, h8, e5, e6, szl, dk3, nd3, ty, ap, e4, Rw.d]
      · rw [List.getElem?_set_self (Nat.lt_of_lt_of_le hpl F.1), List.map_append]
        rfl
    · obtain ⟨mm, hmm, S5, e5, p5, f5⟩ := law_pick_eq (n := n) (S := S4) (ds := MD) (by omega) p4 (by simp) (by simp) (by omega)
      obtain ⟨m, rfl, hm⟩ := mem_MD hmm
      obtain ⟨d5, S6, e6, d50, d51, p6, f6⟩ := law_draw_eq (n := n) (S := S5) (many := 5) (by omega) p5 (by omega) (by omega)
      have F := f1.trans (f2.trans (f3.trans (f4.trans (f5.trans f6))))
      have hp6 : S6[p]? = some (.lst (rs.map Rw.d)) := by rw [F.2 p hpl hpa]; exact hp
      have ap := append_ref (y := Rw.d (.rest)) hp6 (by rw [szl, List.length_map]; omega)
      have ty := ty_ref (show S5[p]? = some (.lst (rs.map Rw.d)) by rw [(f1.trans (f2.trans (f3.trans (f4.trans f5)))).2 p hpl hpa]; exact hp)
      refine ⟨.rest, S6.set p (.lst (rs.map Rw.d ++ [Rw.d (.rest)])), some (.int d3), some (.str m), some (.str "rest"), some (.int ahead), ?_, ?_, trivial, (p6.mono (by omega)).other _ hpa, (hfr.trans F).far hp0 _⟩
      · simp only [Rw.d] at ap
        simp [b__law_some_code_0, e1, e2, hah, e3, h8, e5, e6, szl, dk4, nd4, ty, ap, e4, Rw.d]
      · rw [List.getElem?_set_self (Nat.lt_of_lt_of_le hpl F.1), List.map_append]
        rfl
end
end K71

set_option maxHeartbeats 4000000
/-! L27: the law's drawn code: all of it. -/
namespace K71
open PySem PySem.Spec PyProof.Rows L2 Pv
def goodCs (cs : List Rw) : Prop := 2 ≤ cs.length ∧ cs.length ≤ 10 ∧ (∀ x ∈ cs, x.good cs.length) ∧ ∃ x, cs.getLast? = some x ∧ (x = .rest ∨ x = .stop)
abbrev worksD : D := .lv [.tup [.str "e0.end", .str "a", .int 1, .int 2]]
section
variable {n : Nat} {S S0 : Hs} {a C : Nat}
theorem add_ref_lv {p : Nat} {xs ys : List D} (h : S[p]? = some (.lst xs)) (hl : xs.length + ys.length ≤ sizeLine) : bopG .add (.ref p) (.lv ys) S = .ok (.lv (xs ++ ys)) S := by
  rw [show bopG .add = gAdd from rfl]
  simp [gAdd, sOf, lOf, h, hl]
theorem law_some_code_eq (hn : 4 ≤ n) (h : PenAt S a C) (hC : C < 90000) :
    ∃ cs S', hd (specs Γ n) i__law_some_code [.ref a, worksD] S = .ok (.tup (cs.map Rw.d)) S' ∧ goodCs cs ∧ PenAt S' a (C + 100) ∧ Fr_ a S S' := by
  rw [run__law_some_code (by omega)]
  obtain ⟨d0, S1, e0, d00, d01, p0, f0⟩ := law_draw_eq (n := n - 1) (S := S) (many := 9) (by omega) h (by omega) (by omega)
  have e1 : ∀ ρ2, ev Γ (specs Γ (n - 1)) (.lc false [10] (.v 10) (.ex (.var 1)) .no b__law_some_code_1) [some (.ref a), some worksD, ρ2, none, none, none, none, none, none, none, none] S = .ok (.lv [.str "e0.end"]) S := by
    intro ρ2
    rw [lc_fx (fun _ => .str "e0.end") (d := worksD) (ds := [.tup [.str "e0.end", .str "a", .int 1, .int 2]]) (by simp) rfl (by rw [szl]; simp) (fun y hy => by
      rw [List.mem_singleton.mp hy]
      have := tup_at0 (S := S) (r := [.str "e0.end", .str "a", .int 1, .int 2]) (d := .str "e0.end") rfl
      simp [wipeE, b__law_some_code_1, this])]
    rfl
  have hp1 : PenAt (S1 ++ [.lst []]) a (C + 1) := p0.app _
  have hat : (S1 ++ [O.lst []])[S1.length]? = some (.lst (([] : List Rw).map Rw.d)) := by simp
  have hpa : S1.length ≠ a := by have := p0.lt; omega
  have hfr : Fr_ a S (S1 ++ [O.lst []]) := f0.more _
  have hp0 : S.length ≤ S1.length := f0.1
  have hsz : (2 + d0 - 1).toNat = (1 + d0).toNat := by omega
  have hnt : ((1 + d0).toNat : Int) = 1 + d0 := by omega
  generalize hS2 : S1 ++ [O.lst []] = S2 at hp1 hat hfr
  obtain ⟨ρ', S3, el, rs, u3, u6, u7, u8, u9, rfl, g1, g2, g3, g4, g5⟩ := forGo_nx (src := .rng 0 (1 + d0).toNat) (tg := .v 3) (body := svs Γ (specs Γ (n - 1)) b__law_some_code_0) (ρ := [some (.ref a), some worksD, some (.ref S1.length), none, some (.lv MD), some (.int (2 + d0)), none, none, none, none, none]) (S := S2) (items := (List.range (1 + d0).toNat).map fun (i : Nat) => Itm.d (.int (0 + (i : Int))))
    (fun j ρ T => ∃ (rs : List Rw) (u3 u6 u7 u8 u9 : Option D), ρ = [some (.ref a), some worksD, some (.ref S1.length), u3, some (.lv MD), some (.int (2 + d0)), u6, u7, u8, u9, none] ∧ T[S1.length]? = some (.lst (rs.map Rw.d)) ∧ rs.length = j ∧ (∀ x ∈ rs, x.good (2 + d0)) ∧ PenAt T a (C + 1 + 6 * j) ∧ Fr_ a S T) (fun j ρ T _ => src_rng)
    (by
      rintro j it ρ T e ⟨rs, u3, u6, u7, u8, u9, rfl, g1, g2, g3, g4, g5⟩
      rw [List.getElem?_map] at e
      by_cases hj : j < (1 + d0).toNat
      · rw [List.getElem?_range hj] at e
        cases e
        obtain ⟨x, S', v6, v7, v8, v9, r1, r2, r3, r4, r5⟩ := law_code_row (n := n - 1) (S := T) (S0 := S) (a := a) (C := C + 1 + 6 * j) (size := 2 + d0) (j := j) (p := S1.length) (rs := rs) (w := worksD) (u6 := u6) (u7 := u7) (u8 := u8) (u9 := u9) (u10 := none) (by omega) (by omega) (by omega) g4 (by omega) g1 hpa (by omega) g5 hp0
        refine ⟨_, _, S', rfl, ?_, rs ++ [x], some (.int (j : Int)), v6, v7, v8, v9, rfl, r2, by simp [g2], ?_, by rw [show C + 1 + 6 * (j + 1) = C + 1 + 6 * j + 6 by omega]; exact r4, r5⟩
        · rw [← r1]
          simp
        · intro y hy
          rcases List.mem_append.mp hy with hy | hy
          · exact g3 y hy
          · rw [List.mem_singleton.mp hy]; exact r3
      · rw [List.getElem?_eq_none (by simp; omega)] at e
        cases e)
    (f := (1 + d0).toNat) ⟨[], none, none, none, none, none, rfl, hat, rfl, by simp, by simpa using hp1, hfr⟩ (by simp)
  simp only [List.length_map, List.length_range] at g2 g4
  obtain ⟨l, hl, S4, e4, p4, f4⟩ := law_pick_eq (n := n - 1) (S := S3) (ds := [.tup [.str "rest"], .tup [.str "rest"], .tup [.str "stop"]]) (by omega) g4 (by simp) (by simp) (by omega)
  have hl2 : ∃ x : Rw, l = x.d ∧ (x = .rest ∨ x = .stop) := by
    simp only [List.mem_cons, List.not_mem_nil, or_false] at hl
    rcases hl with rfl | rfl | rfl
    · exact ⟨.rest, rfl, .inl rfl⟩
    · exact ⟨.rest, rfl, .inl rfl⟩
    · exact ⟨.stop, rfl, .inr rfl⟩
  obtain ⟨x, rfl, hx⟩ := hl2
  have hS3l : S1.length < S3.length := (List.getElem?_eq_some_iff.mp g1).1
  have g1' : S4[S1.length]? = some (.lst (rs.map Rw.d)) := by rw [f4.2 _ hS3l hpa]; exact g1
  have ea := add_ref_lv (ys := [x.d]) g1' (by rw [szl]; simp; omega)
  have hcl : ((rs ++ [x]).length : Int) = 2 + d0 := by simp; omega
  refine ⟨rs ++ [x], S4, ?_, ⟨by simp; omega, by simp; omega, ?_, x, by simp, hx⟩, p4.mono (by omega), g5.trans f4⟩
  · simp [runFn, f__law_some_code, b__law_some_code, e0, e1, szl, sv_for, rng1 (j := 2 + d0 - 1) (by omega), hsz, hS2, el, e4, ea]
  · intro y hy
    rw [hcl]
    rcases List.mem_append.mp hy with hy | hy
    · exact g3 y hy
    · rw [List.mem_singleton.mp hy]
      rcases hx with rfl | rfl <;> trivial
end
end K71

set_option maxHeartbeats 4000000
/-! L28: the law's bent images. -/
namespace K71
open PySem PySem.Spec PyProof.Rows L2 Pv
/-- a body, cut in two -/
def stTake : Nat → Sts → Sts
  | 0, _ => .nil
  | _ + 1, .nil => .nil
  | n + 1, .cons s t => .cons s (stTake n t)
def stDrop : Nat → Sts → Sts
  | 0, t => t
  | _ + 1, .nil => .nil
  | n + 1, .cons _ t => stDrop n t
theorem svs_cut {Γ : Tx} {Os : List Orc} : ∀ (n : Nat) (b : Sts) (ρ : Ev) (S : Hs), svs Γ Os b ρ S = an (svs Γ Os (stDrop n b)) (svs Γ Os (stTake n b) ρ S) .mk
  | 0, b, ρ, S => by simp [stTake, stDrop]
  | n + 1, .nil, ρ, S => by simp [stTake, stDrop]
  | n + 1, .cons s t, ρ, S => by
    simp only [stTake, stDrop, svs_cons]
    cases h : sv Γ Os s ρ S with
    | nx ρ1 S1 => rw [andThen_nx, andThen_nx]; exact svs_cut n t ρ1 S1
    | rt d S1 => rfl
    | bk ρ1 S1 => rfl
    | ct ρ1 S1 => rfl
    | exc x fs ρ1 S1 => rfl
    | stuck => rfl
section
variable {n : Nat} {S S0 : Hs} {a C p : Nat} {im : List Int}
theorem cut_m2 {xs : List D} (h : 2 ≤ xs.length) : Pv.cutD xs none (some (-2)) = xs.take (xs.length - 2) := by
  have h1 : ((-2 : Int) + (xs.length : Int)).toNat = xs.length - 2 := by omega
  simp [Pv.cutD, HT.sIx, h1]
theorem sl_ref {xs : List D} {mt : Bool} {lo hi : Option Int} (h : S[p]? = some (.lst xs)) : gSl mt (.ref p) lo hi S = nwl mt (Pv.cutD xs lo hi) S := by
  simp [gSl, sOf, h]
theorem bytes_pair {v : Int} (h : 0 ≤ v ∧ v < 65536) : bytesOk (pairB v) := by
  intro x hx
  simp only [pairB, List.mem_cons, List.not_mem_nil, or_false] at hx
  rw [Int.fdiv_eq_ediv_of_nonneg _ (by omega), Int.fmod_eq_emod_of_nonneg _ (by omega)] at hx
  rcases hx with rfl | rfl <;> omega
theorem bytes_app {xs ys : List Int} (h : bytesOk xs) (k : bytesOk ys) : bytesOk (xs ++ ys) := fun x hx => by
  rcases List.mem_append.mp hx with hx | hx
  · exact h x hx
  · exact k x hx
theorem bytes_take {xs : List Int} (h : bytesOk xs) (k : Nat) : bytesOk (xs.take k) := fun x hx => h x (List.mem_of_mem_take hx)
/-- the second half: perhaps the sum made right -/
theorem bent_tail {bs : List Int} {img : D} {u v : Option D} (hn : 3 ≤ n) (h : PenAt S a C) (hC : C < 90000) (hb : bytesOk bs) (hp : S[p]? = some (.lst (bs.map .int))) (hpa : p ≠ a) (hl : bs.length < 100000) (hfr : Fr_ a S0 S) (hp0 : S0.length ≤ p) :
    ∃ bs' S', outR (svs Γ (specs Γ n) (stDrop 3 b__law_bent) [some (.ref a), some img, u, some (.ref p), v] S) = .ok (.tup (bs'.map .int)) S' ∧ bytesOk bs' ∧ bs'.length = bs.length ∧ PenAt S' a (C + 1) ∧ Fr_ a S0 S' := by
  obtain ⟨d, S1, e, d0, d1, p1, f1⟩ := law_draw_eq (n := n) (S := S) (many := 2) (by omega) h (by omega) (by omega)
  have hpl : p < S.length := (List.getElem?_eq_some_iff.mp hp).1
  have hp1 : S1[p]? = some (.lst (bs.map .int)) := by rw [f1.2 p hpl hpa]; exact hp
  have hlen := len_ref hp1
  rw [List.length_map] at hlen
  have ht := tupl_ref hp1
  by_cases h1 : d = 0 ∧ 2 < bs.length
  · obtain ⟨rfl, h2⟩ := h1
    have h2' : (2 : Int) < (bs.length : Int) := by omega
    have hs : ∀ mt, gSl mt (.ref p) none (some (-2)) S1 = nwl mt ((bs.take (bs.length - 2)).map .int) S1 := by
      intro mt
      rw [sl_ref hp1, cut_m2 (by simp; omega), List.length_map, List.map_take]
    have hsum := law_sum_gen (n := n) (S := S1) (d := .lv ((bs.take (bs.length - 2)).map .int)) (src := .one (.fx ((bs.take (bs.length - 2)).map .int))) (xs := bs.take (bs.length - 2)) (by omega) rfl (fun j => src_fx) (by simp)
    have hr := sumM_range (bs.take (bs.length - 2))
    have hpr := law_pair_B (n := n) (S := S1) (v := sumM (bs.take (bs.length - 2))) (by omega)
    have ha := addm_lv (S := S1) (as := bs.take (bs.length - 2)) (bs := pairB (sumM (bs.take (bs.length - 2)))) (by rw [szl]; simp [pairB]; omega)
    have ht2 := tupl_ref (S := S1 ++ [.lst ((bs.take (bs.length - 2) ++ pairB (sumM (bs.take (bs.length - 2)))).map .int)]) (n := S1.length) (xs := (bs.take (bs.length - 2) ++ pairB (sumM (bs.take (bs.length - 2)))).map .int) (by simp)
    refine ⟨bs.take (bs.length - 2) ++ pairB (sumM (bs.take (bs.length - 2))), S1 ++ [.lst ((bs.take (bs.length - 2) ++ pairB (sumM (bs.take (bs.length - 2)))).map .int)], ?_, bytes_app (bytes_take hb _) (bytes_pair (by omega)), ?_, p1.app _, (hfr.trans f1).more _⟩
    · generalize bs.take (bs.length - 2) ++ pairB (sumM (bs.take (bs.length - 2))) = res at ha ht2
      generalize bs.take (bs.length - 2) = cut at hs hsum hr hpr ha
      simp [stDrop, b__law_bent, e, hlen, h2', hs, hsum, hpr, ha, ht2]
    · simp [pairB]
      omega
  · have hc : (d == 0 && decide ((2 : Int) < (bs.length : Int))) = false := by
      cases hd : d == 0 with
      | false => rfl
      | true =>
        have hd := beq_iff_eq.mp hd
        have : ¬ (2 : Int) < (bs.length : Int) := by omega
        simp [this]
    refine ⟨bs, S1, ?_, hb, rfl, p1, hfr.trans f1⟩
    by_cases hd : d = 0
    · have : ¬ (2 : Int) < (bs.length : Int) := by omega
      simp [stDrop, b__law_bent, e, hlen, hd, this, ht]
    · have hd' : (d == 0) = false := by simpa using hd
      simp [stDrop, b__law_bent, e, hlen, hd', ht]
end
end K71

set_option maxHeartbeats 4000000
/-! L29: the law's bent images: all of it. -/
namespace K71
open PySem PySem.Spec PyProof.Rows L2 Pv
section
variable {n : Nat} {S S0 : Hs} {a C p : Nat} {im : List Int}
theorem bytes_set {xs : List Int} {k : Nat} {x : Int} (h : bytesOk xs) (hx : 0 ≤ x ∧ x < 256) : bytesOk (xs.set k x) := fun y hy => by
  rcases List.mem_or_eq_of_mem_set hy with hy | rfl
  · exact h y hy
  · exact hx
theorem bytes_erase {xs : List Int} {k : Nat} (h : bytesOk xs) : bytesOk (xs.eraseIdx k) := fun y hy => h y (List.mem_of_mem_eraseIdx hy)
theorem erase_map : ∀ (xs : List Int) (k : Nat), (xs.map D.int).eraseIdx k = (xs.eraseIdx k).map D.int
  | [], _ => rfl
  | _ :: _, 0 => rfl
  | x :: r, k + 1 => by
    simp only [List.map_cons, List.eraseIdx_cons_succ, erase_map r k]
theorem put_ref {xs : List D} {i : Int} {v : D} (h : S[p]? = some (.lst xs)) (hi : 0 ≤ i ∧ i < xs.length) : gPutI (.ref p) (.int i) v S = some (S.set p (.lst (xs.set i.toNat v))) := by
  simp only [gPutI, mL, h, ixN]
  rw [if_pos hi.1, if_pos hi.2]
theorem pop_ref {xs : List D} {i : Int} {y : D} (h : S[p]? = some (.lst xs)) (hi : 0 ≤ i ∧ i < xs.length) (hl : xs.length < 1000000) (hy : xs[i.toNat]? = some y) : bmtG .pop (.ref p) [.int i] S = .ok y (S.set p (.lst (xs.eraseIdx i.toNat))) := by
  rw [show bmtG .pop = gPop from rfl]
  simp only [gPop, mL, h]
  rw [if_pos (by omega), seqIndex_of hi.1 hi.2]
  simp [hy]
theorem insert_ref {xs : List D} {i : Int} {y : D} (h : S[p]? = some (.lst xs)) (hi : 0 ≤ i ∧ i < xs.length) (hl : xs.length < 1000000) : bmtG .insert (.ref p) [.int i, y] S = .ok .non (S.set p (.lst (xs.take i.toNat ++ [y] ++ xs.drop i.toNat))) := by
  rw [show bmtG .insert = gInsert from rfl]
  simp only [gInsert, mL, h]
  rw [if_pos (by rw [szl]; omega)]
theorem law_bent_eq (hn : 5 ≤ n) (h : PenAt S a C) (hC : C < 80000) (hb : bytesOk im) (h1 : 0 < im.length) (h2 : im.length < 90000) :
    ∃ bs S', hd (specs Γ n) i__law_bent [.ref a, .tup (im.map .int)] S = .ok (.tup (bs.map .int)) S' ∧ bytesOk bs ∧ bs.length ≤ im.length + 1 ∧ PenAt S' a (C + 4) ∧ Fr_ a S S' := by
  rw [run__law_bent (by omega)]
  obtain ⟨k, S1, e1, k0, k1, p1, f1⟩ := law_draw_eq (n := n - 1) (S := S ++ [.lst (im.map .int)]) (many := (im.length : Int)) (by omega) (h.app _) (by omega) (by omega)
  obtain ⟨w, S2, e2, w0, w1, p2, f2⟩ := law_draw_eq (n := n - 1) (S := S1) (many := 5) (by omega) p1 (by omega) (by omega)
  have hpa : S.length ≠ a := by have := h.lt; omega
  have hat : S2[S.length]? = some (.lst (im.map .int)) := by
    have f := f1.trans f2
    rw [f.2 S.length (by simp) hpa]
    simp
  have hfr : Fr_ a S S2 := (Fr_.app a S _).trans (f1.trans f2)
  have hpl : S.length < S2.length := (List.getElem?_eq_some_iff.mp hat).1
  have hkn : k.toNat < im.length := by omega
  have kk : 0 ≤ k ∧ k < ((im.map D.int).length : Int) := by simp; omega
  -- the first half, and what is behind it
  suffices key : ∃ (bs : List Int) (p : Nat) (S3 : Hs), svs Γ (specs Γ (n - 1)) (stTake 3 b__law_bent) [some (.ref a), some (.tup (im.map .int)), none, none, none] S = .nx [some (.ref a), some (.tup (im.map .int)), some (.int w), some (.ref p), some (.int k)] S3 ∧ bytesOk bs ∧ bs.length ≤ im.length + 1 ∧ S3[p]? = some (.lst (bs.map .int)) ∧ p ≠ a ∧ S.length ≤ p ∧ PenAt S3 a (C + 3) ∧ Fr_ a S S3 by
    obtain ⟨bs, p, S3, g1, g2, g3, g4, g5, g6, g7, g8⟩ := key
    obtain ⟨bs', S4, t1, t2, t3, t4, t5⟩ := bent_tail (n := n - 1) (S := S3) (S0 := S) (a := a) (C := C + 3) (p := p) (bs := bs) (img := .tup (im.map .int)) (u := some (.int w)) (v := some (.int k)) (by omega) g7 (by omega) g2 g4 g5 (by omega) g8 g6
    refine ⟨bs', S4, ?_, t2, by omega, t4, t5⟩
    rw [← t1]
    simp only [runFn, f__law_bent, List.length_cons, List.length_nil, if_true, List.map_cons, List.map_nil]
    rw [svs_cut 3]
    show outR (an _ (svs Γ (specs Γ (n - 1)) (stTake 3 b__law_bent) [some (.ref a), some (.tup (im.map .int)), none, none, none] S) .mk) = _
    rw [g1, andThen_nx]
  have ei : gIdx (.ref S.length) (.int k) S2 = .ok (.int (bAt im k.toNat)) S2 := by
    refine idx_ref hat ?_
    unfold atI ixN
    rw [if_pos kk.1, if_pos kk.2]
    simp [bAt, hkn]
  have hbk := bAt_ok hb k.toNat
  by_cases c1 : w < 2
  · obtain ⟨x, hx, S3, e3, p3, f3⟩ := law_pick_eq (n := n - 1) (S := S2) (ds := [.int ((bAt im k.toNat + 1).fmod 256), .int ((bAt im k.toNat + 255).fmod 256), .int 0, .int 5, .int 46, .int 97, .int 255]) (by omega) p2 (by simp) (by simp) (by omega)
    have hx2 : ∃ y, x = .int y ∧ 0 ≤ y ∧ y < 256 := by
      have q1 := fmod_rng (x := bAt im k.toNat + 1) (m := 256) (by omega)
      have q2 := fmod_rng (x := bAt im k.toNat + 255) (m := 256) (by omega)
      simp only [List.mem_cons, List.not_mem_nil, or_false] at hx
      rcases hx with rfl | rfl | rfl | rfl | rfl | rfl | rfl
      · exact ⟨_, rfl, q1⟩
      · exact ⟨_, rfl, q2⟩
      all_goals exact ⟨_, rfl, by omega, by omega⟩
    obtain ⟨y, rfl, hy⟩ := hx2
    have hat3 : S3[S.length]? = some (.lst (im.map .int)) := by rw [f3.2 _ hpl hpa]; exact hat
    have ep := put_ref (v := .int y) hat3 kk
    rw [← List.map_set] at ep
    have hl3 : S.length < S3.length := (List.getElem?_eq_some_iff.mp hat3).1
    refine ⟨im.set k.toNat y, S.length, S3.set S.length (.lst ((im.set k.toNat y).map .int)), ?_, bytes_set hb hy, by simp, List.getElem?_set_self hl3, hpa, Nat.le_refl _, p3.other _ hpa, (hfr.trans f3).far (Nat.le_refl _) _⟩
    simp [stTake, b__law_bent, e1, e2, c1, ei, e3, ep, szl]
  · by_cases c2 : w = 2
    · subst c2
      have ep := pop_ref (y := .int (bAt im k.toNat)) hat kk (by simp; omega) (by simp [bAt, hkn])
      have ty := ty_ref hat
      have em : (im.map D.int).eraseIdx k.toNat = (im.eraseIdx k.toNat).map D.int := erase_map _ _
      rw [em] at ep
      refine ⟨im.eraseIdx k.toNat, S.length, S2.set S.length (.lst ((im.eraseIdx k.toNat).map .int)), ?_, bytes_erase hb, by rw [List.length_eraseIdx]; split <;> omega, List.getElem?_set_self hpl, hpa, Nat.le_refl _, (p2.other _ hpa).mono (by omega), hfr.far (Nat.le_refl _) _⟩
      simp [stTake, b__law_bent, e1, e2, ty, ep]
    · have c2' : (w == 2) = false := by simpa using c2
      by_cases c3 : w = 3
      · subst c3
        obtain ⟨x, hx, S3, e3, p3, f3⟩ := law_pick_eq (n := n - 1) (S := S2) (ds := [.int 0, .int 1, .int 97, .int 255]) (by omega) p2 (by simp) (by simp) (by omega)
        have hx2 : ∃ y, x = .int y ∧ 0 ≤ y ∧ y < 256 := by
          simp only [List.mem_cons, List.not_mem_nil, or_false] at hx
          rcases hx with rfl | rfl | rfl | rfl
          all_goals exact ⟨_, rfl, by omega, by omega⟩
        obtain ⟨y, rfl, hy⟩ := hx2
        have hat3 : S3[S.length]? = some (.lst (im.map .int)) := by rw [f3.2 _ hpl hpa]; exact hat
        have hl3 : S.length < S3.length := (List.getElem?_eq_some_iff.mp hat3).1
        have ep := insert_ref (y := .int y) hat3 kk (by simp; omega)
        have ty := ty_ref hat
        have em : (im.map D.int).take k.toNat ++ [.int y] ++ (im.map D.int).drop k.toNat = (im.take k.toNat ++ [y] ++ im.drop k.toNat).map D.int := by
          rw [List.map_append, List.map_append, List.map_take, List.map_drop]
          rfl
        rw [em] at ep
        have hb2 : bytesOk (im.take k.toNat ++ [y] ++ im.drop k.toNat) := bytes_app (bytes_app (bytes_take hb _) (fun z hz => by rw [List.mem_singleton.mp hz]; exact hy)) (fun z hz => hb z (List.mem_of_mem_drop hz))
        have hln : (im.take k.toNat ++ [y] ++ im.drop k.toNat).length ≤ im.length + 1 := by simp; omega
        generalize im.take k.toNat ++ [y] ++ im.drop k.toNat = bs at ep hb2 hln
        refine ⟨bs, S.length, S3.set S.length (.lst (bs.map .int)), ?_, hb2, hln, List.getElem?_set_self hl3, hpa, Nat.le_refl _, p3.other _ hpa, (hfr.trans f3).far (Nat.le_refl _) _⟩
        simp [stTake, b__law_bent, e1, e2, ty, e3, ep, szl]
      · have c3' : (w == 3) = false := by simpa using c3
        have es : gSl true (.ref S.length) none (some k) S2 = .ok (.ref S2.length) (S2 ++ [.lst ((im.take k.toNat).map .int)]) := by
          rw [sl_ref hat]
          have : Pv.cutD (im.map D.int) none (some k) = (im.take k.toNat).map .int := by
            have ek : k = ((k.toNat : Nat) : Int) := by omega
            generalize k.toNat = j at ek
            subst ek
            rw [cut_to, List.map_take]
          rw [this]
          rfl
        refine ⟨im.take k.toNat, S2.length, S2 ++ [.lst ((im.take k.toNat).map .int)], ?_, bytes_take hb _, by simp; omega, by simp, by have := p2.lt; omega, hfr.1, (p2.app _).mono (by omega), hfr.more _⟩
        simp [stTake, b__law_bent, e1, e2, c1, c2', c3', es]
end
end K71

set_option maxHeartbeats 4000000
/-! L30: equal values, faults. -/
namespace K71
open PySem PySem.Spec PyProof.Rows L2 Pv
def scalB : D → Bool
  | .non => true
  | .bl _ => true
  | .int _ => true
  | .str _ => true
  | _ => false
/-- plain values, so many rows within one another -/
def eqOk : Nat → D → Prop
  | 0, d => scalB d = true
  | m + 1, d => scalB d = true ∨ (∃ ds, d = .tup ds ∧ ds.length ≤ sizeLine ∧ ∀ x ∈ ds, eqOk m x) ∨ (∃ ds, d = .lv ds ∧ ds.length ≤ sizeLine ∧ ∀ x ∈ ds, eqOk m x)
section
variable {n : Nat} {S S0 : Hs}
theorem scal_eq {d : D} (h : scalB d = true) : copG .eq d d S = .ok (.bl true) S := by
  cases d <;> simp only [scalB] at h <;> try cases h
  · rfl
  · rw [gEq_bl, beq_self_eq_true]
  · rw [gEq_int, beq_self_eq_true]
  · rw [gEq_str, beq_self_eq_true]
theorem scal_isi {d : D} (h : scalB d = true) : bltG .isi [d, .tup [.ty "tuple", .ty "list"]] S = .ok (.bl false) S := by
  cases d <;> simp only [scalB] at h <;> try cases h
  all_goals kernel_rfl
theorem scal_bool {d : D} (h : scalB d = true) : ∃ b, bltG .isi [d, .ty "bool"] S = .ok (.bl b) S := by
  cases d <;> simp only [scalB] at h <;> try cases h
  · exact ⟨false, by kernel_rfl⟩
  · exact ⟨true, by kernel_rfl⟩
  · exact ⟨false, by kernel_rfl⟩
  · exact ⟨false, by kernel_rfl⟩
theorem isi_tl {ds : List D} : bltG .isi [.tup ds, .tup [.ty "tuple", .ty "list"]] S = .ok (.bl true) S := by kernel_rfl
theorem isi_ll {ds : List D} : bltG .isi [.lv ds, .tup [.ty "tuple", .ty "list"]] S = .ok (.bl true) S := by kernel_rfl
theorem isi_lt {ds : List D} : bltG .isi [.lv ds, .ty "tuple"] S = .ok (.bl false) S := by kernel_rfl
theorem all_true {α : Type} {xs : List α} : bltG .all [.lv (xs.map fun _ => .bl true)] S = .ok (.bl true) S := by
  rw [all_map (p := fun _ => true)]
  simp
theorem zip_self_mem {ds : List D} {p : D × D} (h : p ∈ ds.zip ds) : p.1 = p.2 ∧ p.1 ∈ ds := by
  obtain ⟨i, hi, e⟩ := List.mem_iff_getElem.mp h
  rw [List.getElem_zip] at e
  subst e
  exact ⟨rfl, List.getElem_mem _⟩
/-- the rows' items, one by one -/
theorem eq_lc {Os : List Orc} {d d' : D} {src : Src} {ds : List D} (hz : gZip [d, d'] S = .ok src S) (hs : ∀ j, srcAt S src j = some ((ds.zip ds)[j]?.map fun p => Itm.p p.1 p.2)) (hf : ds.length ≤ fuelOf S src) (hl : ds.length ≤ sizeLine) (he : ∀ x ∈ ds, hd Os i__law_equal [x, x] S = .ok (.bl true) S) :
    ev Γ Os (.lc false [2, 3] (.t [2, 3]) (.zip (.cons (.var 0) (.cons (.var 1) .nil))) .no b__law_equal_0) [some d, some d', none, none] S = .ok (.lv ((ds.zip ds).map fun _ => .bl true)) S := by
  rw [ev_lc_map (xs := ds.zip ds) (src := src) (S1 := S) (fun p => Itm.p p.1 p.2) (fun _ => .bl true) ?h1 hs ?h2 ?h3 ?h4]
  case h1 => simp [hz]
  case h2 => rw [List.length_zip]; omega
  case h3 => rw [List.length_zip]; omega
  case h4 =>
    intro p hp
    obtain ⟨e, hm⟩ := zip_self_mem hp
    refine ⟨_, rfl, ?_⟩
    have := he p.1 hm
    rw [← e]
    simp [wipeE, b__law_equal_0, this]
  · simp
theorem law_equal_refl : ∀ (m : Nat) (d : D), eqOk m d → ∀ n, m + 1 ≤ n → hd (specs Γ n) i__law_equal [d, d] S = .ok (.bl true) S := by
  have scal : ∀ (d : D) (n : Nat), scalB d = true → 1 ≤ n → hd (specs Γ n) i__law_equal [d, d] S = .ok (.bl true) S := by
    intro d n h hn
    rw [run__law_equal hn]
    obtain ⟨b, hb⟩ := scal_bool (S := S) h
    simp [runFn, f__law_equal, b__law_equal, szl, scal_isi h, hb, scal_eq h]
  intro m
  induction m with
  | zero => exact fun d h n hn => scal d n h hn
  | succ m ih =>
    rintro d (h | ⟨ds, rfl, hl, h⟩ | ⟨ds, rfl, hl, h⟩) n hn
    · exact scal d n h (by omega)
    · rw [run__law_equal (by omega)]
      have e := eq_lc (S := S) (Os := specs Γ (n - 1)) (d := .tup ds) (d' := .tup ds) (src := .zip (.fx ds) (.fx ds)) (ds := ds) rfl (fun j => zipM) (by simp [fuelOf, len1]) hl (fun x hx => ih x (h x hx) (n - 1) (by omega))
      simp [runFn, f__law_equal, b__law_equal, szl, isi_tl, isi_t, e, all_true, -all_map]
    · rw [run__law_equal (by omega)]
      have e := eq_lc (S := S) (Os := specs Γ (n - 1)) (d := .lv ds) (d' := .lv ds) (src := .zip (.fx ds) (.fx ds)) (ds := ds) rfl (fun j => zipM) (by simp [fuelOf, len1]) hl (fun x hx => ih x (h x hx) (n - 1) (by omega))
      simp [runFn, f__law_equal, b__law_equal, szl, isi_ll, isi_lt, e, all_true, -all_map]
/-- a list that may be written, and the same items -/
theorem law_equal_ref {q m : Nat} {ds : List D} (hq : S[q]? = some (.lst ds)) (hl : ds.length ≤ sizeLine) (h : ∀ x ∈ ds, eqOk m x) (hn : m + 2 ≤ n) : hd (specs Γ n) i__law_equal [.ref q, .lv ds] S = .ok (.bl true) S := by
  rw [run__law_equal (by omega)]
  have e := eq_lc (S := S) (Os := specs Γ (n - 1)) (d := .ref q) (d' := .lv ds) (src := .zip (.dy q) (.fx ds)) (ds := ds) (by simp [gZip, src1, hq]) (fun j => by
    rw [← zipM (S := S)]
    simp [srcAt, at1, hq]) (by simp [fuelOf, len1, hq]) hl (fun x hx => law_equal_refl m x (h x hx) (n - 1) (by omega))
  have i1 : bltG .isi [.ref q, .tup [.ty "tuple", .ty "list"]] S = .ok (.bl true) S := by
    rw [show bltG .isi = gIsi from rfl]
    simp only [gIsi, tyD, hq]
    kernel_rfl
  have i2 : bltG .isi [.ref q, .ty "tuple"] S = .ok (.bl false) S := by
    rw [show bltG .isi = gIsi from rfl]
    simp only [gIsi, tyD, hq]
    kernel_rfl
  simp [runFn, f__law_equal, b__law_equal, szl, i1, i2, isi_ll, isi_lt, len_ref hq, e, all_true, -all_map]
theorem eqOk_ints {xs : List Int} (h : xs.length ≤ sizeLine) : eqOk 1 (.tup (xs.map .int)) := .inr (.inl ⟨_, rfl, by simpa using h, fun x hx => by
  obtain ⟨i, _, rfl⟩ := List.mem_map.mp hx
  rfl⟩)
theorem eqOk_code {cs : List Rw} (h : cs.length ≤ sizeLine) : eqOk 2 (.tup (cs.map Rw.d)) := .inr (.inl ⟨_, rfl, by simpa using h, fun x hx => by
  obtain ⟨r, _, rfl⟩ := List.mem_map.mp hx
  cases r
  all_goals exact .inr (.inl ⟨_, rfl, by rw [szl]; simp, fun y hy => by
    simp only [List.mem_cons, List.not_mem_nil, or_false] at hy
    first
      | (rcases hy with rfl | rfl | rfl | rfl <;> rfl)
      | (rcases hy with rfl | rfl | rfl <;> rfl)
      | (rcases hy with rfl | rfl <;> rfl)
      | (subst hy; rfl)⟩)⟩)
theorem law_same_bl {b : Bool} (hn : 1 ≤ n) : hd (specs Γ n) i__law_same [.bl b, .bl b] S = .ok (.bl true) S := by
  rw [run__law_same hn]
  have i1 : bltG .isi [.bl b, .ty "tuple"] S = .ok (.bl false) S := by kernel_rfl
  cases b <;> simp [runFn, f__law_same, b__law_same, i1, isNo, isBo]
theorem law_same_int {i : Int} (hn : 1 ≤ n) : hd (specs Γ n) i__law_same [.int i, .int i] S = .ok (.bl true) S := by
  rw [run__law_same hn]
  have i1 : bltG .isi [.int i, .ty "tuple"] S = .ok (.bl false) S := by kernel_rfl
  simp [runFn, f__law_same, b__law_same, i1, isNo, isBo, isi_int, isi_int_bool]
theorem specs_tail : ∀ n, (specs Γ n).tail = specs Γ (n - 1)
  | 0 => rfl
  | n + 1 => rfl
theorem specs_length : ∀ n, (specs Γ n).length = n
  | 0 => rfl
  | n + 1 => by
    show (_ :: specs Γ n).length = _
    rw [List.length_cons, specs_length n]
theorem fault_ok {th : Hs → R D} {v : D} {S' : Hs} (h : th S = .ok v S') : specF g__law_fault.cs g__law_fault.tb th S = .ok .non S' := by
  unfold specF
  rw [h]
theorem fault_bn {th : Hs → R D} {e : Int} {S' : Hs} (h : th S = .exc "BadNumber" (badAt e) S') : specF g__law_fault.cs g__law_fault.tb th S = .ok (.tup [.str "BadNumber", .str "place", .int e]) S' := by
  unfold specF
  rw [h]
  kernel_rfl
theorem fault_br {th : Hs → R D} {w : Str} {r : D} {S' : Hs} (h : th S = .exc "BadRow" [("row", r), ("what", .str w)] S') : specF g__law_fault.cs g__law_fault.tb th S = .ok (.tup [.str "BadRow", .str w, r]) S' := by
  unfold specF
  rw [h]
  kernel_rfl
end
end K71

set_option maxHeartbeats 4000000
/-! L31: values that are none. -/
namespace K71
open PySem PySem.Spec PyProof.Rows L2 Pv
def odds : List D := [.non, .int 5, .tup [.int 256], .tup [.int (-1)], .tup [.bl true], .str "ab", .lv [.non], .tup [.int 75, .str "72"]]
section
variable {n : Nat} {S S0 : Hs}
theorem odd_sum (k : Nat) : ∀ d ∈ odds, hd (specs Γ (k + 8)) i_sum_of [d] S = .exc "BadRow" [("row", d), ("what", .str "row")] S := by
  intro d hd
  simp only [odds, List.mem_cons, List.not_mem_nil, or_false] at hd
  rcases hd with rfl | rfl | rfl | rfl | rfl | rfl | rfl | rfl
  all_goals kernel_rfl
theorem odd_read (k : Nat) : ∀ d ∈ odds, hd (specs Γ (k + 8)) i_image_read [d] S = .exc "BadRow" [("row", d), ("what", .str "image")] S := by
  intro d hd
  simp only [odds, List.mem_cons, List.not_mem_nil, or_false] at hd
  rcases hd with rfl | rfl | rfl | rfl | rfl | rfl | rfl | rfl
  all_goals kernel_rfl
theorem odd_of (k : Nat) : ∀ d ∈ odds, hd (specs Γ (k + 8)) i_image_of [d] S = .exc "BadRow" [("row", d), ("what", .str "code")] S := by
  intro d hd
  simp only [odds, List.mem_cons, List.not_mem_nil, or_false] at hd
  rcases hd with rfl | rfl | rfl | rfl | rfl | rfl | rfl | rfl
  all_goals kernel_rfl
theorem odd_is (k : Nat) : ∀ d ∈ odds, hd (specs Γ (k + 8)) i_is_image [d] S = .ok (.bl false) S := by
  intro d hd
  simp only [odds, List.mem_cons, List.not_mem_nil, or_false] at hd
  rcases hd with rfl | rfl | rfl | rfl | rfl | rfl | rfl | rfl
  all_goals kernel_rfl
theorem odd_eqOk : ∀ d ∈ odds, eqOk 1 d := by
  intro d hd
  simp only [odds, List.mem_cons, List.not_mem_nil, or_false] at hd
  rcases hd with rfl | rfl | rfl | rfl | rfl | rfl | rfl | rfl
  · exact .inl rfl
  · exact .inl rfl
  · exact .inr (.inl ⟨_, rfl, by rw [szl]; simp, fun y hy => by simp only [List.mem_cons, List.not_mem_nil, or_false] at hy; subst hy; rfl⟩)
  · exact .inr (.inl ⟨_, rfl, by rw [szl]; simp, fun y hy => by simp only [List.mem_cons, List.not_mem_nil, or_false] at hy; subst hy; rfl⟩)
  · exact .inr (.inl ⟨_, rfl, by rw [szl]; simp, fun y hy => by simp only [List.mem_cons, List.not_mem_nil, or_false] at hy; subst hy; rfl⟩)
  · exact .inl rfl
  · exact .inr (.inr ⟨_, rfl, by rw [szl]; simp, fun y hy => by simp only [List.mem_cons, List.not_mem_nil, or_false] at hy; subst hy; rfl⟩)
  · exact .inr (.inl ⟨_, rfl, by rw [szl]; simp, fun y hy => by simp only [List.mem_cons, List.not_mem_nil, or_false] at hy; rcases hy with rfl | rfl <;> rfl⟩)
theorem odd_isnt {d : D} (h : d ∈ odds) : isNo d = true ∨ isNo d = false := by cases isNo d <;> simp
/-- the last two things that the law asks -/
theorem last_read (k : Nat) : ∃ S', hd (specs Γ (k + 12)) i_image_read [.tup []] S = .exc "BadNumber" (badAt 0) S' := by
  obtain ⟨X, e⟩ := image_read_eq (n := k + 12) (S0 := S) (im := []) (b := false) (by omega) (by simp) (fun x hx => nomatch hx)
  exact ⟨_, e⟩
end
end K71

set_option maxHeartbeats 4000000
/-! L32: the law's lap: its code. -/
namespace K71
open PySem PySem.Spec PyProof.Rows L2 Pv
def M5 : List Str := ["a", "b.begin", "c", "e0.end", "start"]
/-- drawn code -/
structure VC (cs : List Rw) : Prop where
  ok : codeB cs = true
  used : ∀ z ∈ usedM cs, z ∈ M5
  len : cs.length ≤ 11
theorem m5_ok : ∀ z ∈ M5, z.length ≤ 7 ∧ PyData.strOk z = true ∧ okCs z ∧ pathB z = true := by
  intro z hz
  have h : (decide (z.length ≤ 7) && PyData.strOk z && (z.cps.toList.all fun c => okS (c : Int)) && pathB z) = true := by
    revert z
    have : (M5.all fun z => decide (z.length ≤ 7) && PyData.strOk z && (z.cps.toList.all fun c => okS (c : Int)) && pathB z) = true := by decide +kernel
    exact List.all_eq_true.mp this
  simp only [Bool.and_eq_true, decide_eq_true_eq] at h
  obtain ⟨⟨⟨h1, h2⟩, h3⟩, h4⟩ := h
  exact ⟨h1, h2, fun c hc => List.all_eq_true.mp h3 c hc, h4⟩
theorem used_mem {cs : List Rw} {x : Rw} {m : Str} (hx : x ∈ cs) (hm : m ∈ x.used) : m ∈ usedM cs := List.mem_flatMap.mpr ⟨x, hx, hm⟩
section
variable {cs : List Rw}
theorem VC.fits (h : VC cs) : ∀ x ∈ cs, x.fits = true := fun x hx => by
  unfold Rw.fits
  rw [List.all_eq_true]
  intro z hz
  obtain ⟨h1, h2, _⟩ := m5_ok z (h.used z (used_mem hx hz))
  rw [h2]
  have : z.length ≤ sizeLine := by rw [szl]; omega
  simp [this]
theorem VC.u (h : VC cs) : (usedM cs).length < 64 := by
  have := used_len cs
  have := h.len
  omega
theorem VC.names (h : VC cs) : ∀ z ∈ usedM cs, z.length ≤ 100 ∧ okCs z := fun z hz => by
  obtain ⟨h1, _, h3, _⟩ := m5_ok z (h.used z hz)
  exact ⟨by omega, h3⟩
theorem bytes_fm {α : Type} {f : α → List Int} : ∀ {l : List α}, (∀ x ∈ l, bytesOk (f x)) → bytesOk (l.flatMap f)
  | [], _ => fun x hx => nomatch hx
  | x :: r, h => by
    rw [List.flatMap_cons]
    exact bytes_app (h x List.mem_cons_self) (bytes_fm fun y hy => h y (List.mem_cons_of_mem _ hy))
theorem bytes_cons {x : Int} {l : List Int} (h : 0 ≤ x ∧ x < 256) (k : bytesOk l) : bytesOk (x :: l) := fun y hy => by
  rcases List.mem_cons.mp hy with rfl | hy
  · exact h
  · exact k y hy
theorem bytes_nil : bytesOk [] := fun x hx => nomatch hx
theorem bytes_triple {v : Int} (h : 0 ≤ v ∧ v ≤ 1000000) : bytesOk (tripleB v) := by
  intro x hx
  simp only [tripleB, List.mem_cons, List.not_mem_nil, or_false] at hx
  rw [Int.fdiv_eq_ediv_of_nonneg _ (by omega), Int.fmod_eq_emod_of_nonneg _ (by omega), Int.fdiv_eq_ediv_of_nonneg _ (by omega), Int.fmod_eq_emod_of_nonneg _ (by omega)] at hx
  rcases hx with rfl | rfl | rfl <;> omega
theorem bytes_name {z : Str} (h : z.length ≤ 100) (ho : okCs z) : bytesOk (nameBy z) := by
  refine bytes_cons (by omega) fun x hx => ?_
  obtain ⟨c, hc, rfl⟩ := List.mem_map.mp hx
  have := of_decide_eq_true (ho c hc)
  omega
theorem bytes_by {nm : List Str} {x : Rw} {size : Int} (hn : nm.length ≤ 1000) (hs : size ≤ 10000) (hu : ∀ m ∈ x.used, m ∈ nm) (h : x.ok size = true) : bytesOk (x.by_ nm) := by
  have hi : ∀ m ∈ x.used, bytesOk (pairB (nm.idxOf m : Nat)) := fun m hm => by
    have := List.idxOf_lt_length_of_mem (hu m hm)
    exact bytes_pair (by omega)
  cases x with
  | past m v a =>
    simp only [Rw.ok, inR, Bool.and_eq_true, decide_eq_true_eq] at h
    exact bytes_cons (by omega) (bytes_app (hi m (by simp [Rw.used])) (bytes_app (bytes_triple (by omega)) (bytes_pair (by omega))))
  | got m a =>
    simp only [Rw.ok, inR, Bool.and_eq_true, decide_eq_true_eq] at h
    exact bytes_cons (by omega) (bytes_app (hi m (by simp [Rw.used])) (bytes_pair (by omega)))
  | do_ m => exact bytes_cons (by omega) (hi m (by simp [Rw.used]))
  | go a =>
    simp only [Rw.ok, inR, decide_eq_true_eq] at h
    exact bytes_cons (by omega) (bytes_pair (by omega))
  | rest => exact bytes_cons (by omega) bytes_nil
  | stop => exact bytes_cons (by omega) bytes_nil
theorem VC.image (h : VC cs) : bytesOk (imgM cs) ∧ 9 ≤ (imgM cs).length ∧ (imgM cs).length ≤ 185 := by
  obtain ⟨c1, c2, c3, c4⟩ := codeB_parts h.ok
  have hlen := h.len
  have hul := used_len cs
  have hnm := sSort_len (l := usedM cs)
  have hno : ∀ z ∈ sSort (usedM cs), z.length ≤ 7 ∧ okCs z := fun z hz => by
    obtain ⟨h1, _, h3, _⟩ := m5_ok z (h.used z (sSort_mem.mp hz))
    exact ⟨h1, h3⟩
  have hmu : ∀ x ∈ cs, ∀ m ∈ x.used, m ∈ sSort (usedM cs) := fun x hx m hm => sSort_mem.mpr (used_mem hx hm)
  have hS := sumM_range (bodyM (sSort (usedM cs)) cs)
  unfold imgM
  generalize sSort (usedM cs) = nm at *
  have pl : ∀ v, (pairB v).length = 2 := fun v => rfl
  have b1 := flatMap_le (f := nameBy) (m := 8) (l := nm) fun z hz => by rw [nameBy_len]; have := (hno z hz).1; omega
  have b2 := flatMap_le (f := Rw.by_ nm) (m := 8) (l := cs) fun x _ => by_len
  have hbody : bytesOk (bodyM nm cs) := by
    unfold bodyM
    refine bytes_app (bytes_app (bytes_app (bytes_app ?_ (bytes_pair (by omega))) (bytes_pair (by omega))) (bytes_fm fun z hz => bytes_name (by have := (hno z hz).1; omega) (hno z hz).2)) (bytes_fm fun x hx => bytes_by (by omega) (by omega) (hmu x hx) (c3 x hx))
    exact bytes_cons (by omega) (bytes_cons (by omega) (bytes_cons (by omega) bytes_nil))
  refine ⟨bytes_app hbody (bytes_pair (by omega)), ?_, ?_⟩
  · simp only [bodyM, List.length_append, pl, List.length_cons, List.length_nil]
    omega
  · simp only [bodyM, List.length_append, pl, List.length_cons, List.length_nil]
    omega
end
/-- a row, one further -/
def Rw.bump (x : Rw) : Rw := match x with
  | .past m v a => .past m v (a + 1)
  | .got m a => .got m (a + 1)
  | .go a => .go (a + 1)
  | x => x
theorem good_ok {x : Rw} {size : Int} (h : x.good size) : x.ok size = true := by
  have m4 : ∀ m ∈ M4, pathB m = true := fun m hm => (m5_ok m (by simp only [M4, List.mem_cons, List.not_mem_nil, or_false] at hm; rcases hm with rfl | rfl | rfl | rfl <;> simp [M5])).2.2.2
  cases x with
  | past m v a =>
    obtain ⟨h1, h2, h3, h4, h5⟩ := h
    simp only [Rw.ok, inR, m4 m h1, Bool.true_and, Bool.and_eq_true, decide_eq_true_eq]
    omega
  | got m a =>
    obtain ⟨h1, h4, h5⟩ := h
    simp only [Rw.ok, inR, m4 m h1, Bool.true_and, decide_eq_true_eq]
    omega
  | do_ m => exact m4 m h
  | go a =>
    obtain ⟨h4, h5⟩ := h
    simp only [Rw.ok, inR, decide_eq_true_eq]
    omega
  | rest => rfl
  | stop => rfl
theorem m4_5 {m : Str} (hm : m ∈ M4) : m ∈ M5 := by
  simp only [M4, List.mem_cons, List.not_mem_nil, or_false] at hm
  rcases hm with rfl | rfl | rfl | rfl <;> simp [M5]
theorem good_used {x : Rw} {size : Int} (h : x.good size) : ∀ m ∈ x.used, m ∈ M5 := by
  intro m hm
  cases x with
  | past m' v a =>
    simp only [Rw.used, List.mem_singleton] at hm
    subst hm
    exact m4_5 h.1
  | got m' a =>
    simp only [Rw.used, List.mem_singleton] at hm
    subst hm
    exact m4_5 h.1
  | do_ m' =>
    simp only [Rw.used, List.mem_singleton] at hm
    subst hm
    exact m4_5 h
  | go a => cases hm
  | rest => cases hm
  | stop => cases hm
theorem vc_good {cs : List Rw} (h : goodCs cs) : VC cs := by
  obtain ⟨h1, h2, h3, x, h4, h5⟩ := h
  refine ⟨?_, fun z hz => ?_, by omega⟩
  · unfold codeB
    rw [h4]
    simp only [Bool.and_eq_true, decide_eq_true_eq, List.all_eq_true]
    refine ⟨⟨by omega, fun y hy => good_ok (h3 y hy)⟩, ?_⟩
    rcases h5 with rfl | rfl <;> rfl
  · obtain ⟨y, hy, hz⟩ := List.mem_flatMap.mp hz
    exact good_used (h3 y hy) z hz
theorem bump_good {x : Rw} {size : Int} (h : x.good size) : x.bump.ok (size + 1) = true ∧ ∀ m ∈ x.bump.used, m ∈ M5 := by
  have m4 : ∀ m ∈ M4, pathB m = true := fun m hm => (m5_ok m (m4_5 hm)).2.2.2
  have hu := good_used h
  cases x with
  | past m v a =>
    obtain ⟨h1, h2, h3, h4, h5⟩ := h
    refine ⟨?_, hu⟩
    simp only [Rw.bump, Rw.ok, inR, m4 m h1, Bool.true_and, Bool.and_eq_true, decide_eq_true_eq]
    omega
  | got m a =>
    obtain ⟨h1, h4, h5⟩ := h
    refine ⟨?_, hu⟩
    simp only [Rw.bump, Rw.ok, inR, m4 m h1, Bool.true_and, decide_eq_true_eq]
    omega
  | do_ m => exact ⟨m4 m h, hu⟩
  | go a =>
    obtain ⟨h4, h5⟩ := h
    refine ⟨?_, hu⟩
    simp only [Rw.bump, Rw.ok, inR, decide_eq_true_eq]
    omega
  | rest => exact ⟨rfl, hu⟩
  | stop => exact ⟨rfl, hu⟩
theorem vc_more {cs : List Rw} {v : Int} (h : goodCs cs) (hv : 0 ≤ v ∧ v ≤ 1000000) : VC (.past "start" v 0 :: cs.map Rw.bump) := by
  obtain ⟨h1, h2, h3, x, h4, h5⟩ := h
  have hst : pathB "start" = true := (m5_ok "start" (by simp [M5])).2.2.2
  have hl : (((Rw.past "start" v 0 :: cs.map Rw.bump).length : Nat) : Int) = (cs.length : Int) + 1 := by simp
  refine ⟨?_, fun z hz => ?_, by simp; omega⟩
  · unfold codeB
    have hlast : (Rw.past "start" v 0 :: cs.map Rw.bump).getLast? = some x.bump := by
      cases cs with
      | nil => simp at h1
      | cons y r => rw [List.map_cons, List.getLast?_cons_cons, ← List.map_cons, List.getLast?_map, h4]; rfl
    rw [hlast, hl]
    simp only [Bool.and_eq_true, decide_eq_true_eq, List.all_eq_true]
    refine ⟨⟨by simp; omega, fun y hy => ?_⟩, ?_⟩
    · rcases List.mem_cons.mp hy with rfl | hy
      · simp only [Rw.ok, inR, hst, Bool.true_and, Bool.and_eq_true, decide_eq_true_eq]
        omega
      · obtain ⟨q, hq, rfl⟩ := List.mem_map.mp hy
        exact (bump_good (h3 q hq)).1
    · rcases h5 with rfl | rfl <;> rfl
  · obtain ⟨y, hy, hz⟩ := List.mem_flatMap.mp hz
    rcases List.mem_cons.mp hy with rfl | hy
    · simp only [Rw.used, List.mem_singleton] at hz
      subst hz
      simp [M5]
    · obtain ⟨q, hq, rfl⟩ := List.mem_map.mp hy
      exact (bump_good (h3 q hq)).2 z hz
end K71

set_option maxHeartbeats 4000000
/-! L33: the law's lap: code and image. -/
namespace K71
open PySem PySem.Spec PyProof.Rows L2 Pv
section
variable {n : Nat} {S S0 : Hs} {a C : Nat} {cs : List Rw} {s lap c3 c4 c5 c6 c7 c8 c9 c10 c11 c12 c13 c14 : Option D}
theorem bump_ev {x : Rw} {Os : List Orc} {ρ : Ev} (h : ρ[14]? = some (some x.d)) : ev Γ Os b_law_2 ρ S = .ok x.bump.d S := by
  have hv : ev Γ Os (.var 14) ρ S = .ok x.d S := by rw [ev_var, h]
  cases x with
  | past m v t =>
    have e0 : gIdx (.tup [.str "past", .str m, .int v, .int t]) (.int 0) S = .ok (.str "past") S := tup_at0 rfl
    have e1 : gIdx (.tup [.str "past", .str m, .int v, .int t]) (.int (-1)) S = .ok (.int t) S := tup_last rfl
    have e2 : Pv.cutD [D.str "past", .str m, .int v, .int t] none (some (-1)) = [.str "past", .str m, .int v] := by kernel_rfl
    rw [Rw.d] at hv
    simp [b_law_2, hv, e0, e1, e2, iq0, szl, Rw.bump, Rw.d, -ev_var]
  | got m t =>
    have e0 : gIdx (.tup [.str "got", .str m, .int t]) (.int 0) S = .ok (.str "got") S := tup_at0 rfl
    have e1 : gIdx (.tup [.str "got", .str m, .int t]) (.int (-1)) S = .ok (.int t) S := tup_last rfl
    have e2 : Pv.cutD [D.str "got", .str m, .int t] none (some (-1)) = [.str "got", .str m] := by kernel_rfl
    rw [Rw.d] at hv
    simp [b_law_2, hv, e0, e1, e2, iq1, szl, Rw.bump, Rw.d, -ev_var]
  | do_ m =>
    have e0 : gIdx (.tup [.str "do", .str m]) (.int 0) S = .ok (.str "do") S := tup_at0 rfl
    rw [Rw.d] at hv
    simp [b_law_2, hv, e0, iq2, szl, Rw.bump, Rw.d, -ev_var]
  | go t =>
    have e0 : gIdx (.tup [.str "go", .int t]) (.int 0) S = .ok (.str "go") S := tup_at0 rfl
    have e1 : gIdx (.tup [.str "go", .int t]) (.int (-1)) S = .ok (.int t) S := tup_last rfl
    have e2 : Pv.cutD [D.str "go", .int t] none (some (-1)) = [.str "go"] := by kernel_rfl
    rw [Rw.d] at hv
    simp [b_law_2, hv, e0, e1, e2, iq3, szl, Rw.bump, Rw.d, -ev_var]
  | rest =>
    have e0 : gIdx (.tup [.str "rest"]) (.int 0) S = .ok (.str "rest") S := tup_at0 rfl
    rw [Rw.d] at hv
    simp [b_law_2, hv, e0, iq4, szl, Rw.bump, Rw.d, -ev_var]
  | stop =>
    have e0 : gIdx (.tup [.str "stop"]) (.int 0) S = .ok (.str "stop") S := tup_at0 rfl
    rw [Rw.d] at hv
    simp [b_law_2, hv, e0, iq5, szl, Rw.bump, Rw.d, -ev_var]
/-- the slots of the law -/
abbrev lR (s : Option D) (a : Nat) (lap c3 c4 c5 c6 c7 c8 c9 c10 c11 c12 c13 c14 : Option D) : Ev := [s, some (.ref a), lap, c3, c4, c5, c6, c7, c8, c9, c10, c11, c12, c13, c14]
theorem seg_A (hn : 5 ≤ n) (h : PenAt S a C) (hC : C < 50000) :
    ∃ cs S', svs Γ (specs Γ n) (stTake 2 b_law_3) (lR s a lap c3 c4 c5 c6 c7 c8 c9 c10 c11 c12 c13 c14) S = .nx (lR s a lap (some (.tup (cs.map Rw.d))) c4 c5 c6 c7 c8 c9 c10 c11 c12 c13 c14) S' ∧ VC cs ∧ PenAt S' a (C + 102) := by
  obtain ⟨cs, S1, e1, g1, p1, f1⟩ := law_some_code_eq (n := n) (S := S) (by omega) h (by omega)
  obtain ⟨d, S2, e2, d0, d1, p2, f2⟩ := law_draw_eq (n := n) (S := S1) (many := 3) (by omega) p1 (by omega) (by omega)
  by_cases hd : d = 0
  · subst hd
    obtain ⟨x, hx, S3, e3, p3, f3⟩ := law_pick_eq (n := n) (S := S2) (ds := [.int 255, .int 256, .int 65535, .int 65536, .int 1000000]) (by omega) p2 (by simp) (by simp) (by omega)
    have hx2 : ∃ v, x = .int v ∧ 0 ≤ v ∧ v ≤ 1000000 := by
      simp only [List.mem_cons, List.not_mem_nil, or_false] at hx
      rcases hx with rfl | rfl | rfl | rfl | rfl
      all_goals exact ⟨_, rfl, by omega, by omega⟩
    obtain ⟨v, rfl, hv⟩ := hx2
    have hl := g1.2.1
    have elc : ev Γ (specs Γ n) (.lc false [14] (.v 14) (.ex (.var 3)) .no b_law_2) (lR s a lap (some (.tup (cs.map Rw.d))) c4 c5 c6 c7 c8 c9 c10 c11 c12 c13 c14) S3 = .ok (.lv ((cs.map Rw.bump).map Rw.d)) S3 := by
      rw [lcM (xs := cs) (h_ := Rw.d) (d := .tup (cs.map Rw.d)) (fun x => x.bump.d) (by simp) rfl (by rw [szl]; omega) (fun y hy => bump_ev (by simp [wipeE]))]
      simp
    refine ⟨.past "start" v 0 :: cs.map Rw.bump, S3, ?_, vc_more g1 hv, p3.mono (by omega)⟩
    have hl2 : 1 + cs.length ≤ 16777216 := by omega
    simp [stTake, b_law_3, e1, e2, e3, szl]
    rw [elc]
    simp [szl, hl2, Rw.d]
  · have hd' : (d == 0) = false := by simpa using hd
    refine ⟨cs, S2, ?_, vc_good g1, p2.mono (by omega)⟩
    simp [stTake, b_law_3, e1, e2, szl, hd']
/-- the image, by the program and by the law, read again -/
theorem seg_B (hn : 14 ≤ n) (h : PenAt S a C) (hC : C < 60000) (hv : VC cs) :
    ∃ S', svs Γ (specs Γ n) (stTake 2 (stDrop 2 b_law_3)) (lR s a lap (some (.tup (cs.map Rw.d))) c4 c5 c6 c7 c8 c9 c10 c11 c12 c13 c14) S = .nx (lR s a lap (some (.tup (cs.map Rw.d))) (some (.tup ((imgM cs).map .int))) c5 c6 c7 c8 c9 c10 c11 c12 c13 c14) S' ∧ PenAt S' a (C + 1) := by
  obtain ⟨hb, hl1, hl2⟩ := hv.image
  have hlen := hv.len
  have hzs : (imgM cs).length ≤ sizeLine := by rw [szl]; omega
  obtain ⟨X1, e1⟩ := image_of_eq (n := n) (S0 := S) (cs := cs) (by omega) (by omega) hv.fits hv.ok hv.u hv.names
  obtain ⟨X2, e2⟩ := law_image_eq (n := n) (S0 := S ++ X1) (cs := cs) (by omega) (by omega) hv.u hv.names
  have e3 := law_equal_refl (S := S ++ X1 ++ X2) 1 (.tup ((imgM cs).map .int)) (eqOk_ints hzs) n (by omega)
  obtain ⟨g, hg, hgr⟩ := parse_img hv.ok hv.u fun z hz => (hv.names z hz).2
  obtain ⟨X3, e4⟩ := is_image_eq (n := n) (S0 := S ++ X1 ++ X2) (im := imgM cs) (by omega) hzs hb
  rw [hg] at e4
  have p3 : PenAt (S ++ X1 ++ X2 ++ X3) a C := ((h.app X1).app X2).app X3
  obtain ⟨x, hx, S4, e5, p4, f4⟩ := law_pick_eq (n := n) (S := S ++ X1 ++ X2 ++ X3) (ds := [.tup ((imgM cs).map .int), .lv ((imgM cs).map .int)]) (by omega) p3 (by simp) (by simp) (by omega)
  have hx2 : ∃ b, x = rowD b (imgM cs) := by
    simp only [List.mem_cons, List.not_mem_nil, or_false] at hx
    rcases hx with rfl | rfl
    · exact ⟨false, rfl⟩
    · exact ⟨true, rfl⟩
  obtain ⟨b, rfl⟩ := hx2
  have e6 := image_read_eq (n := n) (S0 := S4) (im := imgM cs) (b := b) (by omega) hzs hb
  rw [hg] at e6
  obtain ⟨X5, e6⟩ := e6
  rw [hgr] at e6
  have e7 := law_equal_refl (S := S4 ++ X5) 2 (.tup (cs.map Rw.d)) (eqOk_code (by rw [szl]; omega)) n (by omega)
  have e8 := is_image_lst (n := n) (S := S4 ++ X5) (im := imgM cs) (by omega)
  rw [rowD_l] at e8
  rw [rowD_t] at e4
  refine ⟨S4 ++ X5, ?_, p4.app X5⟩
  generalize S ++ X1 ++ X2 ++ X3 = S3 at *
  generalize S ++ X1 ++ X2 = S2 at *
  generalize S ++ X1 = S1 at *
  generalize S4 ++ X5 = S5 at *
  simp [stTake, stDrop, b_law_3, e1, e2, e3, e4, e5, e6, e7, e8, szl, isBo]
end
end K71

set_option maxHeartbeats 4000000
/-! L34: the law's lap: bent images. -/
namespace K71
open PySem PySem.Spec PyProof.Rows L2 Pv
theorem pyDs_ints : ∀ zs : List Int, pyDs (zs.map .int) = some (zs.map .int)
  | [] => rfl
  | z :: zs => by simp only [List.map_cons, pyDs, pyD, pyDs_ints zs]
theorem lay_ints : ∀ zs : List Int, PyData.canLayAll0 (zs.map .int) = true
  | [] => rfl
  | z :: zs => by simp only [List.map_cons, PyData.canLayAll0, PyData.canLay0, lay_ints zs]; rfl
theorem depth_ints : ∀ zs : List Int, PyData.depthAll (zs.map .int) = 0
  | [] => rfl
  | z :: zs => by simp only [List.map_cons, PyData.depthAll, PyData.depth, depth_ints zs]; rfl
theorem eqv_ints : ∀ xs ys : List Int, PyData.eqvAll (xs.map .int) (ys.map .int) = decide (xs = ys)
  | [], [] => rfl
  | [], _ :: _ => by simp [PyData.eqvAll]
  | _ :: _, [] => by simp [PyData.eqvAll]
  | x :: xs, y :: ys => by
    simp only [List.map_cons, PyData.eqvAll, eqv_ints xs ys, PyData.eqv]
    by_cases h1 : x = y
    · subst h1
      simp
    · have : (x == y) = false := by simpa using h1
      simp [h1, this]
section
variable {n : Nat} {S S0 : Hs} {a C : Nat} {im : List Int} {s lap c3 c4 c5 c6 c7 c8 c9 c10 c11 c12 c13 c14 : Option D}
theorem ne_ints {xs ys : List Int} : copG .ne (.tup (xs.map .int)) (.tup (ys.map .int)) S = .ok (.bl (!decide (xs = ys))) S := by
  have h4 : ∀ zs : List Int, SeqAt.shaped (.tuple (zs.map .int)) = true := fun zs => by
    simp [SeqAt.shaped, PyData.canLay0, PyData.depth, lay_ints, depth_ints]
  rw [show copG .ne = gEq true from rfl]
  simp only [gEq, eqS, pyT, pyD, pyDs_ints, h4, and_self, if_true, PyData.eqv, eqv_ints]
theorem fits_of {x : Rw} (h : ∀ m ∈ x.used, m.length ≤ 60 ∧ okCs m) : x.fits = true := by
  unfold Rw.fits
  rw [List.all_eq_true]
  intro z hz
  obtain ⟨h1, h2⟩ := h z hz
  have h3 : PyData.strOk z = true := Array.all_eq_true'.mpr fun c hc => by
    have := of_decide_eq_true (h2 c (by simpa using hc))
    simp
    omega
  have h4 : z.length ≤ sizeLine := by rw [szl]; omega
  simp [h3, h4]
/-- what is read can be written -/
theorem image_back {g : Got} (hn : 8 ≤ n) (hb : bytesOk im) (hl : im.length ≤ 190) (h : parseM im = .ok g) : ∃ X, hd (specs Γ n) i_image_of [.tup (g.rs.map Rw.d)] S0 = .ok (.tup (im.map .int)) (S0 ++ X) := by
  obtain ⟨h1, h2, h3, h4, h5⟩ := parse_back hb h
  obtain ⟨X, e⟩ := image_of_eq (n := n) (S0 := S0) (cs := g.rs) hn h5 (fun x hx => fits_of fun m hm => by
    obtain ⟨q1, q2, _⟩ := h3 m (used_mem hx hm)
    exact ⟨q2, q1⟩) h2 (by omega) (fun z hz => by
    obtain ⟨q1, q2, _⟩ := h3 z hz
    exact ⟨by omega, q1⟩)
  exact ⟨X, by rw [e, h1]⟩
theorem bent_turn (hn : 15 ≤ n) (h : PenAt S a C) (hC : C < 70000) (hb : bytesOk im) (hl1 : 9 ≤ im.length) (hl2 : im.length ≤ 185) :
    ∃ d11 d12 d13 S', svs Γ (specs Γ n) b_law_1 (lR s a lap c3 (some (.tup (im.map .int))) c5 c6 c7 c8 c9 c10 c11 c12 c13 c14) S = .nx (lR s a lap c3 (some (.tup (im.map .int))) c5 c6 c7 c8 c9 c10 d11 d12 d13 c14) S' ∧ PenAt S' a (C + 4) := by
  obtain ⟨bs, S1, e1, b1, b2, p1, _⟩ := law_bent_eq (n := n) (S := S) (im := im) (by omega) h (by omega) hb (by omega) (by omega)
  obtain ⟨X2, e2⟩ := wrong_at_eq (n := n) (S0 := S1) (im := bs) (by omega) b1 (by omega)
  have hzs : bs.length ≤ sizeLine := by rw [szl]; omega
  obtain ⟨X3, e3⟩ := is_image_eq (n := n) (S0 := S1 ++ X2) (im := bs) (by omega) hzs b1
  rw [rowD_t] at e3
  have e5 := image_read_eq (n := n - 1) (S0 := S1 ++ X2 ++ X3) (im := bs) (b := false) (by omega) hzs b1
  rw [rowD_t] at e5
  cases hp : parseM bs with
  | error x =>
    rw [hp] at e2 e3 e5
    obtain ⟨X5, e5⟩ := e5
    have e4 := law_same_bl (n := n) (S := S1 ++ X2 ++ X3) (b := false) (by omega)
    have e7 := law_equal_refl (S := S1 ++ X2 ++ X3 ++ X5) 1 (.tup [.str "BadNumber", .str "place", .int x]) (.inr (.inl ⟨_, rfl, by rw [szl]; simp, fun y hy => by
      simp only [List.mem_cons, List.not_mem_nil, or_false] at hy
      rcases hy with rfl | rfl | rfl <;> rfl⟩)) n (by omega)
    have p5 : PenAt (S1 ++ X2 ++ X3 ++ X5) a (C + 4) := ((p1.app X2).app X3).app X5
    generalize S1 ++ X2 ++ X3 ++ X5 = S5 at *
    generalize S1 ++ X2 ++ X3 = S3 at *
    generalize S1 ++ X2 = S2 at *
    have e6 : ev Γ (specs Γ n) (.lam l__law_fault (.cal i_image_read 0 (.cons (.var 11) .nil))) (lR s a lap c3 (some (.tup (im.map .int))) c5 c6 c7 c8 c9 c10 (some (.tup (bs.map .int))) (some (.int x)) c13 c14) S3 = .ok (.tup [.str "BadNumber", .str "place", .int x]) S5 := by
      rw [el__law_fault, specs_length, specs_tail, if_neg (by omega)]
      refine fault_bn ?_
      simp [e5]
    refine ⟨some (.tup (bs.map .int)), some (.int x), some (.tup [.str "BadNumber", .str "place", .int x]), S5, ?_, p5⟩
    simp [b_law_1, e1, e2, wrongD, e3, isNo, e4, e6, e7, szl, -el__law_fault]
  | ok g =>
    rw [hp] at e2 e3 e5
    obtain ⟨X5, e5⟩ := e5
    have e4 := law_same_bl (n := n) (S := S1 ++ X2 ++ X3) (b := true) (by omega)
    have e7 := law_equal_refl (S := S1 ++ X2 ++ X3 ++ X5) 0 .non rfl n (by omega)
    have e8 := image_read_eq (n := n) (S0 := S1 ++ X2 ++ X3 ++ X5) (im := bs) (b := false) (by omega) hzs b1
    rw [rowD_t, hp] at e8
    obtain ⟨X8, e8⟩ := e8
    obtain ⟨X9, e9⟩ := image_back (n := n) (S0 := S1 ++ X2 ++ X3 ++ X5 ++ X8) (im := bs) (by omega) b1 (by omega) hp
    have e10 := ne_ints (S := S1 ++ X2 ++ X3 ++ X5 ++ X8 ++ X9) (xs := bs) (ys := bs)
    have p5 : PenAt (S1 ++ X2 ++ X3 ++ X5 ++ X8 ++ X9) a (C + 4) := ((((p1.app X2).app X3).app X5).app X8).app X9
    generalize S1 ++ X2 ++ X3 ++ X5 ++ X8 ++ X9 = S9 at *
    generalize S1 ++ X2 ++ X3 ++ X5 ++ X8 = S8 at *
    generalize S1 ++ X2 ++ X3 ++ X5 = S5 at *
    generalize S1 ++ X2 ++ X3 = S3 at *
    generalize S1 ++ X2 = S2 at *
    have e6 : ev Γ (specs Γ n) (.lam l__law_fault (.cal i_image_read 0 (.cons (.var 11) .nil))) (lR s a lap c3 (some (.tup (im.map .int))) c5 c6 c7 c8 c9 c10 (some (.tup (bs.map .int))) (some .non) c13 c14) S3 = .ok .non S5 := by
      rw [el__law_fault, specs_length, specs_tail, if_neg (by omega)]
      refine fault_ok (v := .tup (g.rs.map Rw.d)) ?_
      simp [e5]
    refine ⟨some (.tup (bs.map .int)), some .non, some .non, S9, ?_, p5⟩
    simp [b_law_1, e1, e2, wrongD, e3, isNo, e4, e6, e7, e8, e9, e10, szl, -el__law_fault]
/-- six of them -/
theorem seg_C (hn : 15 ≤ n) (h : PenAt S a C) (hC : C < 60000) (hb : bytesOk im) (hl1 : 9 ≤ im.length) (hl2 : im.length ≤ 185) :
    ∃ d5 d11 d12 d13 S', svs Γ (specs Γ n) (stTake 1 (stDrop 4 b_law_3)) (lR s a lap c3 (some (.tup (im.map .int))) c5 c6 c7 c8 c9 c10 c11 c12 c13 c14) S = .nx (lR s a lap c3 (some (.tup (im.map .int))) d5 c6 c7 c8 c9 c10 d11 d12 d13 c14) S' ∧ PenAt S' a (C + 24) := by
  obtain ⟨ρ', S3, el, d5, d11, d12, d13, rfl, g4⟩ := forGo_nx (src := .rng 0 6) (tg := .v 5) (body := svs Γ (specs Γ n) b_law_1) (ρ := lR s a lap c3 (some (.tup (im.map .int))) c5 c6 c7 c8 c9 c10 c11 c12 c13 c14) (S := S) (items := (List.range 6).map fun (i : Nat) => Itm.d (.int (0 + (i : Int))))
    (fun j ρ T => ∃ d5 d11 d12 d13, ρ = lR s a lap c3 (some (.tup (im.map .int))) d5 c6 c7 c8 c9 c10 d11 d12 d13 c14 ∧ PenAt T a (C + 4 * j)) (fun j ρ T _ => src_rng)
    (by
      rintro j it ρ T e ⟨d5, d11, d12, d13, rfl, g4⟩
      rw [List.getElem?_map] at e
      by_cases hj : j < 6
      · rw [List.getElem?_range hj] at e
        cases e
        obtain ⟨e11, e12, e13, S', r1, r2⟩ := bent_turn (n := n) (S := T) (C := C + 4 * j) (im := im) (s := s) (a := a) (lap := lap) (c3 := c3) (c5 := some (.int (0 + (j : Int)))) (c6 := c6) (c7 := c7) (c8 := c8) (c9 := c9) (c10 := c10) (c11 := d11) (c12 := d12) (c13 := d13) (c14 := c14) hn g4 (by omega) hb hl1 hl2
        exact ⟨_, _, S', rfl, r1, some (.int (0 + (j : Int))), e11, e12, e13, rfl, by rw [show C + 4 * (j + 1) = C + 4 * j + 4 by omega]; exact r2⟩
      · rw [List.getElem?_eq_none (by simp; omega)] at e
        cases e)
    (f := 6) ⟨c5, c11, c12, c13, rfl, by simpa using h⟩ (by simp)
  simp only [List.length_map, List.length_range] at g4
  refine ⟨d5, d11, d12, d13, S3, ?_, g4.mono (by omega)⟩
  simp [stTake, stDrop, b_law_3, sv_for, rng1 (j := 6) (by decide), el]
end
end K71

set_option maxHeartbeats 4000000
/-! L35: the law's lap: one integer changed, two exchanged. -/
namespace K71
open PySem PySem.Spec PyProof.Rows L2 Pv
section
variable {n : Nat} {S S0 : Hs} {a C : Nat} {im : List Int} {s lap c3 c4 c5 c6 c7 c8 c9 c10 c11 c12 c13 c14 : Option D}
theorem cut_mid {α : Type} {xs : List α} {k j : Nat} (h : k + j ≤ xs.length) : Pv.cutD xs (some (k : Int)) (some ((k : Int) + (j : Int))) = (xs.drop k).take j := by
  have h1 : ¬ ((k : Int) < 0) := by omega
  have h2 : ¬ ((k : Int) + (j : Int) < 0) := by omega
  have h3 : ((k : Int) + (j : Int)).toNat = k + j := by omega
  simp only [Pv.cutD, HT.sIx, h1, h2, if_false, Int.toNat_natCast, h3]
  rw [Nat.min_eq_left h, Nat.min_eq_left (show k ≤ xs.length by omega), Nat.add_sub_cancel_left]
theorem cut_from1 {α : Type} {xs : List α} {k : Nat} : Pv.cutD xs (some ((k : Int) + 1)) none = xs.drop (k + 1) := cut_from (k := k + 1)
theorem cut_from2 {α : Type} {xs : List α} {k : Nat} : Pv.cutD xs (some ((k : Int) + 2)) none = xs.drop (k + 2) := cut_from (k := k + 2)
theorem no_image {xs : List Int} (hn : 9 ≤ n) (hz : xs.length ≤ 1000) (hb : bytesOk xs) (h : ¬ Summed xs) : ∃ X, hd (specs Γ n) i_is_image [.tup (xs.map .int)] S0 = .ok (.bl false) (S0 ++ X) := by
  obtain ⟨X, e⟩ := is_image_eq (n := n) (S0 := S0) (im := xs) hn (by rw [szl]; omega) hb
  rw [rowD_t] at e
  cases hp : parseM xs with
  | error x => rw [hp] at e; exact ⟨X, e⟩
  | ok g => exact absurd (summed_of hb hp) h
theorem im_split {k : Nat} (hk : k < im.length) : im = im.take k ++ bAt im k :: im.drop (k + 1) := by
  have e := List.take_append_drop k im
  rw [List.drop_eq_getElem_cons hk] at e
  have e2 : bAt im k = im[k] := by simp [bAt, hk]
  rw [e2]
  exact e.symm
def otherM (im : List Int) (k : Nat) (y : Int) : List Int := im.take k ++ ([y] ++ im.drop (k + 1))
theorem seg_D1 (hn : 15 ≤ n) (h : PenAt S a C) (hC : C < 70000) (hl1 : 9 ≤ im.length) (hl2 : im.length ≤ 185) :
    ∃ (k : Nat) (y : Int) (S' : Hs), svs Γ (specs Γ n) (stTake 2 (stDrop 5 b_law_3)) (lR s a lap c3 (some (.tup (im.map .int))) c5 c6 c7 c8 c9 c10 c11 c12 c13 c14) S = .nx (lR s a lap c3 (some (.tup (im.map .int))) c5 (some (.int (k : Int))) (some (.tup ((otherM im k y).map .int))) c8 c9 c10 c11 c12 c13 c14) S' ∧ PenAt S' a (C + 2) ∧ k < im.length ∧ 0 ≤ y ∧ y < 256 := by
  obtain ⟨ki, S1, e1, k0, k1, p1, _⟩ := law_draw_eq (n := n) (S := S) (many := (im.length : Int)) (by omega) h (by omega) (by omega)
  obtain ⟨k, rfl⟩ : ∃ k : Nat, ki = k := ⟨ki.toNat, by omega⟩
  have hk : k < im.length := by omega
  obtain ⟨d, S2, e2, d0, d1, p2, _⟩ := law_draw_eq (n := n) (S := S1) (many := 254) (by omega) p1 (by omega) (by omega)
  have ex := im_at (S := S1) hk
  have hy := fmod_rng (x := bAt im k + 1 + d) (m := 256) (by omega)
  have em : bopG .mod (.int (bAt im k + 1 + d)) (.int 256) S2 = .ok (.int ((bAt im k + 1 + d).fmod 256)) S2 := gMod_int (by decide)
  generalize (bAt im k + 1 + d).fmod 256 = y at hy em
  have et : Pv.cutD (im.map D.int) none (some (k : Int)) = (im.take k).map .int := by rw [cut_to, List.map_take]
  have ef : Pv.cutD (im.map D.int) (some ((k : Int) + 1)) none = (im.drop (k + 1)).map .int := by rw [cut_from1, List.map_drop]
  have z1 : (im.take k).length + 1 ≤ 16777216 := by simp; omega
  have z2 : (im.take k).length + 1 + (im.drop (k + 1)).length ≤ 16777216 := by simp; omega
  refine ⟨k, y, S2, ?_, p2.mono (by omega), hk, hy⟩
  unfold otherM
  generalize im.take k = pre at et z1 z2
  generalize im.drop (k + 1) = post at ef z2
  simp [stTake, stDrop, b_law_3, e1, e2, ex, em, et, ef, szl, z1, z2, -gMod_256]
theorem seg_D2 {k : Nat} {y : Int} (hn : 15 ≤ n) (hb : bytesOk im) (hl2 : im.length ≤ 185) (hs : Summed im) (hk : k < im.length) (hy : 0 ≤ y ∧ y < 256) :
    ∃ X, svs Γ (specs Γ n) (stTake 1 (stDrop 7 b_law_3)) (lR s a lap c3 (some (.tup (im.map .int))) c5 c6 (some (.tup ((otherM im k y).map .int))) c8 c9 c10 c11 c12 c13 c14) S = .nx (lR s a lap c3 (some (.tup (im.map .int))) c5 c6 (some (.tup ((otherM im k y).map .int))) c8 c9 c10 c11 c12 c13 c14) (S ++ X) := by
  have hx := bAt_ok hb k
  have him := im_split hk
  have hbo : bytesOk (otherM im k y) := bytes_app (bytes_take hb k) (bytes_app (fun z hz => by rw [List.mem_singleton.mp hz]; exact hy) (fun z hz => hb z (List.mem_of_mem_drop hz)))
  have hlo : (otherM im k y).length ≤ 1000 := by simp [otherM]; omega
  have en := ne_ints (S := S) (xs := otherM im k y) (ys := im)
  by_cases he : otherM im k y = im
  · rw [decide_eq_true he] at en
    refine ⟨[], ?_⟩
    generalize otherM im k y = oth at en
    simp [stTake, stDrop, b_law_3, en]
  · rw [decide_eq_false he] at en
    have hns : ¬ Summed (otherM im k y) := fun hsum => he (by
      have hs' := hs
      rw [him] at hs'
      have := one_changed hx hy hs' hsum
      rw [← this]
      exact him.symm)
    obtain ⟨X, ei⟩ := no_image (n := n) (S0 := S) (by omega) hlo hbo hns
    refine ⟨X, ?_⟩
    generalize otherM im k y = oth at en ei
    simp [stTake, stDrop, b_law_3, en, ei]
theorem seg_D3 {k : Nat} (hn : 15 ≤ n) (hb : bytesOk im) (hl2 : im.length ≤ 185) (hs : Summed im) (hk : k < im.length) :
    ∃ X, svs Γ (specs Γ n) (stTake 1 (stDrop 8 b_law_3)) (lR s a lap c3 (some (.tup (im.map .int))) c5 (some (.int (k : Int))) c7 c8 c9 c10 c11 c12 c13 c14) S = .nx (lR s a lap c3 (some (.tup (im.map .int))) c5 (some (.int (k : Int))) c7 c8 c9 c10 c11 c12 c13 c14) (S ++ X) := by
  by_cases h1 : k + 1 < im.length
  · have i1 : (k : Int) + 1 < (im.length : Int) := by omega
    have e0 := im_at (S := S) hk
    have e1 := im_at1 (S := S) h1
    by_cases hxy : bAt im k = bAt im (k + 1)
    · refine ⟨[], ?_⟩
      simp [stTake, stDrop, b_law_3, i1, e0, e1, hxy]
    · have hxy' : (bAt im k == bAt im (k + 1)) = false := by simpa using hxy
      have hsp : im = im.take k ++ bAt im k :: bAt im (k + 1) :: im.drop (k + 2) := by
        have e := List.take_append_drop k im
        rw [List.drop_eq_getElem_cons hk, List.drop_eq_getElem_cons h1] at e
        have e2 : bAt im k = im[k] := by simp [bAt, hk]
        have e3 : bAt im (k + 1) = im[k + 1] := by simp [bAt, h1]
        rw [e2, e3]
        exact e.symm
      have et : Pv.cutD (im.map D.int) none (some (k : Int)) = (im.take k).map .int := by rw [cut_to, List.map_take]
      have ef : Pv.cutD (im.map D.int) (some ((k : Int) + 2)) none = (im.drop (k + 2)).map .int := by rw [cut_from2, List.map_drop]
      have emid : Pv.cutD (im.map D.int) (some (k : Int)) (some ((k : Int) + 2)) = [.int (bAt im k), .int (bAt im (k + 1))] := by
        have := cut_mid (xs := im.map D.int) (k := k) (j := 2) (by simp; omega)
        rw [show ((k : Int) + ((2 : Nat) : Int)) = (k : Int) + 2 by omega] at this
        rw [this, ← List.map_drop, List.drop_eq_getElem_cons hk, List.drop_eq_getElem_cons h1]
        have e2 : bAt im k = im[k] := by simp [bAt, hk]
        have e3 : bAt im (k + 1) = im[k + 1] := by simp [bAt, h1]
        rw [e2, e3]
        rfl
      have z1 : (im.take k).length + 2 ≤ 16777216 := by simp; omega
      have z2 : (im.take k).length + 2 + (im.drop (k + 2)).length ≤ 16777216 := by simp; omega
      have hx := bAt_ok hb k
      have hz := bAt_ok hb (k + 1)
      have hbo : bytesOk (im.take k ++ bAt im (k + 1) :: bAt im k :: im.drop (k + 2)) := bytes_app (bytes_take hb k) (bytes_cons hz (bytes_cons hx fun z hz => hb z (List.mem_of_mem_drop hz)))
      have hlo : (im.take k ++ bAt im (k + 1) :: bAt im k :: im.drop (k + 2)).length ≤ 1000 := by simp; omega
      have hns : ¬ Summed (im.take k ++ bAt im (k + 1) :: bAt im k :: im.drop (k + 2)) := fun hsum => hxy (by
        have hs' := hs
        rw [hsp] at hs'
        exact two_changed hx hz hs' hsum)
      obtain ⟨X, ei⟩ := no_image (n := n) (S0 := S) (by omega) hlo hbo hns
      refine ⟨X, ?_⟩
      generalize im.take k = pre at *
      generalize im.drop (k + 2) = post at *
      have er : ∀ x y S, gRev false (.tup [.int x, .int y]) S = .ok (.tup [.int y, .int x]) S := fun _ _ _ => rfl
      simp only [List.map_append, List.map_cons] at ei
      simp [stTake, stDrop, b_law_3, i1, e0, e1, hxy, hxy', et, ef, emid, er, szl, z1, z2, ei]
  · have i1 : ¬ (k : Int) + 1 < (im.length : Int) := by omega
    refine ⟨[], ?_⟩
    simp [stTake, stDrop, b_law_3, i1]
end
end K71

set_option maxHeartbeats 4000000
/-! L36: the law's lap: sums, and values that are none. -/
namespace K71
open PySem PySem.Spec PyProof.Rows L2 Pv
section
variable {n : Nat} {S S0 : Hs} {a C : Nat} {im : List Int} {s lap c3 c4 c5 c6 c7 c8 c9 c10 c11 c12 c13 c14 : Option D}
theorem draw_lc {m : Nat} (hn : 1 ≤ n) : ∀ (f i C : Nat) (xs : List Int) (S : Hs), PenAt S a C → C + f < 100000 → i + f = m → xs.length + f ≤ 1000 →
    ∃ ys S', cGo (.rng 0 m) (.v 5) none (ev Γ (specs Γ n) b_law_0) (lR s a lap c3 c4 none c6 c7 c8 c9 c10 c11 c12 c13 c14) f i (xs.map .int) S = .ok ((xs ++ ys).map .int) S' ∧ bytesOk ys ∧ ys.length = f ∧ PenAt S' a (C + f)
  | 0, i, C, xs, S, h, _, hi, _ => by
    refine ⟨[], S, ?_, bytes_nil, rfl, h⟩
    have : ¬ i < m := by omega
    simp [cGo, srcAt, this]
  | f + 1, i, C, xs, S, h, hC, hi, hx => by
    obtain ⟨d, S1, e1, d0, d1, p1, _⟩ := law_draw_eq (n := n) (S := S) (many := 256) (by omega) h (by omega) (by omega)
    obtain ⟨ys, S', e2, y1, y2, p2⟩ := draw_lc (m := m) hn f (i + 1) (C + 1) (xs ++ [d]) S1 p1 (by omega) (by omega) (by simp; omega)
    refine ⟨d :: ys, S', ?_, bytes_cons ⟨d0, d1⟩ y1, by simp [y2], p2.mono (by omega)⟩
    have hi' : i < m := by omega
    have el : xs.length < 16777216 := by omega
    simp only [List.map_append, List.map_cons, List.map_nil, List.append_assoc, List.cons_append, List.nil_append] at e2 ⊢
    rw [← e2]
    have eb : ev Γ (specs Γ n) b_law_0 (lR s a lap c3 c4 (some (.int (0 + (i : Int)))) c6 c7 c8 c9 c10 c11 c12 c13 c14) S = .ok (.int d) S1 := by
      simp [b_law_0, e1]
    simp only [cGo, srcAt, hi', if_true, putIt]
    rw [show (lR s a lap c3 c4 none c6 c7 c8 c9 c10 c11 c12 c13 c14).set 5 (some (D.int (0 + (i : Int)))) = lR s a lap c3 c4 (some (.int (0 + (i : Int)))) c6 c7 c8 c9 c10 c11 c12 c13 c14 from rfl]
    simp only [R.bind, eb, R.nox, if_true]
    rw [if_pos (by rw [szl, List.length_map]; omega)]
theorem seg_E (hn : 15 ≤ n) (h : PenAt S a C) (hC : C < 70000) :
    ∃ d8 S', svs Γ (specs Γ n) (stTake 2 (stDrop 9 b_law_3)) (lR s a lap c3 c4 c5 c6 c7 c8 c9 c10 c11 c12 c13 c14) S = .nx (lR s a lap c3 c4 c5 c6 c7 d8 c9 c10 c11 c12 c13 c14) S' ∧ PenAt S' a (C + 10) := by
  obtain ⟨m, S1, e1, m0, m1, p1, _⟩ := law_draw_eq (n := n) (S := S) (many := 9) (by omega) h (by omega) (by omega)
  obtain ⟨ys, S2, e2, y1, y2, p2⟩ := draw_lc (n := n) (a := a) (m := m.toNat) (s := s) (lap := lap) (c3 := c3) (c4 := c4) (c6 := c6) (c7 := c7) (c8 := c8) (c9 := c9) (c10 := c10) (c11 := c11) (c12 := c12) (c13 := c13) (c14 := c14) (by omega) m.toNat 0 (C + 1) [] S1 p1 (by omega) (by omega) (by simp; omega)
  rw [List.nil_append] at e2
  have hz : ys.length ≤ sizeLine := by rw [szl]; omega
  have q1 := sum_of_row (n := n) (S := S2) (im := ys) (b := true) (by omega) hz y1
  have q2 := sum_of_row (n := n) (S := S2) (im := ys) (b := false) (by omega) hz y1
  have q3 := law_sum_eq (n := n) (S := S2) (im := ys) (b := true) (by omega)
  have q5 := law_same_int (n := n) (S := S2) (i := sumM ys) (by omega)
  rw [rowD_l] at q1 q3
  rw [rowD_t] at q2
  have r1 := rng1 (S := S1) (j := m) (by omega)
  refine ⟨some (.lv (ys.map .int)), S2, ?_, p2.mono (by omega)⟩
  simp only [List.map_nil] at e2
  simp [stTake, stDrop, b_law_3, ev_lc, e1, r1, wipeE, evo, e2, q1, q2, q3, q5]
theorem lam_br {k : Nat} {d : D} {w : Str} {c : Ex} {ρ : Ev} (he : ev Γ (specs Γ (k + 8)) c ρ S = .exc "BadRow" [("row", d), ("what", .str w)] S) : ev Γ (specs Γ (k + 9)) (.lam l__law_fault c) ρ S = .ok (.tup [.str "BadRow", .str w, d]) S := by
  rw [el__law_fault, specs_length, specs_tail, if_neg (by omega)]
  exact fault_br he
theorem seg_F {k : Nat} (h : PenAt S a C) (hC : C < 70000) :
    ∃ d9 d10 S', svs Γ (specs Γ (k + 9)) (stDrop 11 b_law_3) (lR s a lap c3 c4 c5 c6 c7 c8 c9 c10 c11 c12 c13 c14) S = .nx (lR s a lap c3 c4 c5 c6 c7 c8 d9 d10 c11 c12 c13 c14) S' ∧ PenAt S' a (C + 1) := by
  obtain ⟨d, hd, S1, e1, p1, _⟩ := law_pick_eq (n := k + 9) (S := S) (ds := odds) (by omega) h (by simp [odds]) (by simp [odds]) (by omega)
  have o1 := fun S => odd_sum (S := S) k d hd
  have o2 := fun S => odd_read (S := S) k d hd
  have o3 := fun S => odd_of (S := S) k d hd
  have o4 := fun S => odd_is (S := S) (k + 1) d hd
  have oe := odd_eqOk d hd
  have tk_ : ∀ w : Str, eqOk 2 (.tup [.str "BadRow", .str w, d]) := fun w => .inr (.inl ⟨_, rfl, by rw [szl]; simp, fun y hy => by
    simp only [List.mem_cons, List.not_mem_nil, or_false] at hy
    rcases hy with rfl | rfl | rfl
    · exact .inl rfl
    · exact .inl rfl
    · exact oe⟩)
  unfold odds at e1
  clear hd
  have t1 : (S1 ++ [O.lst [.tup [.str "BadRow", .str "row", d]]])[S1.length]? = some (.lst [.tup [.str "BadRow", .str "row", d]]) := by simp
  have a1 := append_ref (y := .tup [.str "BadRow", .str "image", d]) t1 (by rw [szl]; simp)
  have y1 := ty_ref t1
  have p2 : PenAt (S1 ++ [O.lst [.tup [.str "BadRow", .str "row", d]]]) a (C + 1) := p1.app _
  have hne : S1.length ≠ a := by have := p1.lt; omega
  have hl2 : S1.length < (S1 ++ [O.lst [.tup [.str "BadRow", .str "row", d]]]).length := by simp
  generalize hS2 : S1 ++ [O.lst [.tup [.str "BadRow", .str "row", d]]] = S2 at t1 a1 y1 p2 hl2
  have t2 : (S2.set S1.length (.lst ([.tup [.str "BadRow", .str "row", d]] ++ [.tup [.str "BadRow", .str "image", d]])))[S1.length]? = some (.lst ([.tup [.str "BadRow", .str "row", d]] ++ [.tup [.str "BadRow", .str "image", d]])) := List.getElem?_set_self hl2
  have p3 := p2.other (.lst ([.tup [.str "BadRow", .str "row", d]] ++ [.tup [.str "BadRow", .str "image", d]])) hne
  have hl3 : S1.length < (S2.set S1.length (O.lst ([.tup [.str "BadRow", .str "row", d]] ++ [.tup [.str "BadRow", .str "image", d]]))).length := by simpa using hl2
  have a2 := append_ref (y := .tup [.str "BadRow", .str "code", d]) t2 (by rw [szl]; simp)
  have y2 := ty_ref t2
  generalize S2.set S1.length (.lst ([.tup [.str "BadRow", .str "row", d]] ++ [.tup [.str "BadRow", .str "image", d]])) = S3 at a1 t2 p3 a2 y2 hl3
  have t3 : (S3.set S1.length (.lst (([.tup [.str "BadRow", .str "row", d]] ++ [.tup [.str "BadRow", .str "image", d]]) ++ [.tup [.str "BadRow", .str "code", d]])))[S1.length]? = some (.lst (([.tup [.str "BadRow", .str "row", d]] ++ [.tup [.str "BadRow", .str "image", d]]) ++ [.tup [.str "BadRow", .str "code", d]])) := List.getElem?_set_self hl3
  have p4 := p3.other (.lst (([.tup [.str "BadRow", .str "row", d]] ++ [.tup [.str "BadRow", .str "image", d]]) ++ [.tup [.str "BadRow", .str "code", d]])) hne
  generalize S3.set S1.length (.lst (([.tup [.str "BadRow", .str "row", d]] ++ [.tup [.str "BadRow", .str "image", d]]) ++ [.tup [.str "BadRow", .str "code", d]])) = S4 at a2 t3 p4
  have q := law_equal_ref (n := k + 9) (S := S4) (q := S1.length) (m := 2) t3 (by rw [szl]; simp) (fun x hx => by
    simp only [List.mem_append, List.mem_cons, List.not_mem_nil, or_false] at hx
    rcases hx with (rfl | rfl) | rfl
    · exact tk_ _
    · exact tk_ _
    · exact tk_ _) (by omega)
  simp only [List.cons_append, List.nil_append] at q
  have l1 : ev Γ (specs Γ (k + 9)) (.lam l__law_fault (.cal i_sum_of 0 (.cons (.var 9) .nil))) (lR s a lap c3 c4 c5 c6 c7 c8 (some d) c10 c11 c12 c13 c14) S1 = .ok (.tup [.str "BadRow", .str "row", d]) S1 := lam_br (by simp [o1])
  have l2 : ev Γ (specs Γ (k + 9)) (.lam l__law_fault (.cal i_image_read 0 (.cons (.var 9) .nil))) (lR s a lap c3 c4 c5 c6 c7 c8 (some d) (some (.ref S1.length)) c11 c12 c13 c14) S2 = .ok (.tup [.str "BadRow", .str "image", d]) S2 := lam_br (by simp [o2])
  have l3 : ev Γ (specs Γ (k + 9)) (.lam l__law_fault (.cal i_image_of 0 (.cons (.var 9) .nil))) (lR s a lap c3 c4 c5 c6 c7 c8 (some d) (some (.ref S1.length)) c11 c12 c13 c14) S3 = .ok (.tup [.str "BadRow", .str "code", d]) S3 := lam_br (by simp [o3])
  refine ⟨some d, some (.ref S1.length), S4, ?_, p4⟩
  simp [stDrop, b_law_3, szl, e1, l1, hS2, y1, l2, a1, y2, l3, a2, q, o4, isBo, -el__law_fault]
end
end K71

set_option maxHeartbeats 4000000
/-! L37: the law. -/
namespace K71
open PySem PySem.Spec PyProof.Rows L2 Pv
theorem cut_nx {Os : List Orc} {k : Nat} {b : Sts} {ρ ρ' : Ev} {S S' : Hs} (h : svs Γ Os (stTake k b) ρ S = .nx ρ' S') : svs Γ Os b ρ S = svs Γ Os (stDrop k b) ρ' S' := by
  rw [svs_cut k, h, andThen_nx]
theorem drop_drop (i j : Nat) (b : Sts) : stDrop j (stDrop i b) = stDrop (i + j) b := by
  induction i generalizing b with
  | zero => rw [Nat.zero_add]; rfl
  | succ i ih =>
    cases b with
    | nil =>
      rw [show i + 1 + j = (i + j) + 1 by omega]
      cases j <;> rfl
    | cons s t =>
      rw [show i + 1 + j = (i + j) + 1 by omega]
      exact ih t
section
variable {S S0 : Hs} {a C : Nat} {s lap c3 c4 c5 c6 c7 c8 c9 c10 c11 c12 c13 c14 : Option D}
theorem lap_eq {k : Nat} (h : PenAt S a C) (hC : C < 40000) :
    ∃ d3 d4 d5 d6 d7 d8 d9 d10 d11 d12 d13 S', svs Γ (specs Γ (k + 15)) b_law_3 (lR s a lap c3 c4 c5 c6 c7 c8 c9 c10 c11 c12 c13 c14) S = .nx (lR s a lap d3 d4 d5 d6 d7 d8 d9 d10 d11 d12 d13 c14) S' ∧ PenAt S' a (C + 140) := by
  obtain ⟨cs, S1, e1, v1, p1⟩ := seg_A (n := k + 15) (S := S) (s := s) (a := a) (lap := lap) (c3 := c3) (c4 := c4) (c5 := c5) (c6 := c6) (c7 := c7) (c8 := c8) (c9 := c9) (c10 := c10) (c11 := c11) (c12 := c12) (c13 := c13) (c14 := c14) (by omega) h (by omega)
  obtain ⟨hb, hl1, hl2⟩ := v1.image
  have hs : Summed (imgM cs) := ⟨_, rfl⟩
  obtain ⟨S2, e2, p2⟩ := seg_B (n := k + 15) (S := S1) (cs := cs) (s := s) (a := a) (lap := lap) (c4 := c4) (c5 := c5) (c6 := c6) (c7 := c7) (c8 := c8) (c9 := c9) (c10 := c10) (c11 := c11) (c12 := c12) (c13 := c13) (c14 := c14) (by omega) p1 (by omega) v1
  obtain ⟨d5, d11, d12, d13, S3, e3, p3⟩ := seg_C (n := k + 15) (S := S2) (im := imgM cs) (s := s) (a := a) (lap := lap) (c3 := some (.tup (cs.map Rw.d))) (c5 := c5) (c6 := c6) (c7 := c7) (c8 := c8) (c9 := c9) (c10 := c10) (c11 := c11) (c12 := c12) (c13 := c13) (c14 := c14) (by omega) p2 (by omega) hb hl1 hl2
  obtain ⟨q, y, S4, e4, p4, hq, hy1, hy2⟩ := seg_D1 (n := k + 15) (S := S3) (im := imgM cs) (s := s) (a := a) (lap := lap) (c3 := some (.tup (cs.map Rw.d))) (c5 := d5) (c6 := c6) (c7 := c7) (c8 := c8) (c9 := c9) (c10 := c10) (c11 := d11) (c12 := d12) (c13 := d13) (c14 := c14) (by omega) p3 (by omega) hl1 hl2
  obtain ⟨X5, e5⟩ := seg_D2 (n := k + 15) (S := S4) (im := imgM cs) (k := q) (y := y) (s := s) (a := a) (lap := lap) (c3 := some (.tup (cs.map Rw.d))) (c5 := d5) (c6 := some (.int (q : Int))) (c8 := c8) (c9 := c9) (c10 := c10) (c11 := d11) (c12 := d12) (c13 := d13) (c14 := c14) (by omega) hb hl2 hs hq ⟨hy1, hy2⟩
  obtain ⟨X6, e6⟩ := seg_D3 (n := k + 15) (S := S4 ++ X5) (im := imgM cs) (k := q) (s := s) (a := a) (lap := lap) (c3 := some (.tup (cs.map Rw.d))) (c5 := d5) (c7 := some (.tup ((otherM (imgM cs) q y).map .int))) (c8 := c8) (c9 := c9) (c10 := c10) (c11 := d11) (c12 := d12) (c13 := d13) (c14 := c14) (by omega) hb hl2 hs hq
  have p6 := (p4.app X5).app X6
  obtain ⟨d8, S7, e7, p7⟩ := seg_E (n := k + 15) (S := S4 ++ X5 ++ X6) (s := s) (a := a) (lap := lap) (c3 := some (.tup (cs.map Rw.d))) (c4 := some (.tup ((imgM cs).map .int))) (c5 := d5) (c6 := some (.int (q : Int))) (c7 := some (.tup ((otherM (imgM cs) q y).map .int))) (c8 := c8) (c9 := c9) (c10 := c10) (c11 := d11) (c12 := d12) (c13 := d13) (c14 := c14) (by omega) p6 (by omega)
  obtain ⟨d9, d10, S8, e8, p8⟩ := seg_F (k := k + 6) (S := S7) (s := s) (a := a) (lap := lap) (c3 := some (.tup (cs.map Rw.d))) (c4 := some (.tup ((imgM cs).map .int))) (c5 := d5) (c6 := some (.int (q : Int))) (c7 := some (.tup ((otherM (imgM cs) q y).map .int))) (c8 := d8) (c9 := c9) (c10 := c10) (c11 := d11) (c12 := d12) (c13 := d13) (c14 := c14) p7 (by omega)
  have E := cut_nx e1
  rw [cut_nx e2, drop_drop, cut_nx e3, drop_drop, cut_nx e4, drop_drop, cut_nx e5, drop_drop, cut_nx e6, drop_drop, cut_nx e7, drop_drop] at E
  exact ⟨_, _, _, _, _, _, _, _, _, _, _, S8, E.trans e8, p8.mono (by omega)⟩
theorem stop_code : ∃ X, hd (specs Γ 20) i_image_of [.tup [.tup [.str "stop"]]] S = .ok (.tup ((imgM [.stop]).map .int)) (S ++ X) := by
  exact image_of_eq (n := 20) (S0 := S) (cs := [.stop]) (by omega) (by simp) (by intro x hx; rw [List.mem_singleton.mp hx]; rfl) (by decide +kernel) (by decide +kernel) (by intro z hz; exact absurd hz (by simp [usedM, Rw.used]))
theorem stop_img : (imgM [.stop]).take 8 = [75, 72, 1, 0, 0, 0, 1, 5] := by decide +kernel
theorem eq_a : copG .eq (.tup [.str "BadNumber", .str "place", .int 0]) (.tup [.str "BadNumber", .str "place", .int 0]) S = .ok (.bl true) S := by kernel_rfl
theorem eq_b : copG .eq (.tup [.int 75, .int 72, .int 1, .int 0, .int 0, .int 0, .int 1, .int 5]) (.tup [.int 75, .int 72, .int 1, .int 0, .int 0, .int 0, .int 1, .int 5]) S = .ok (.bl true) S := by kernel_rfl
end
theorem law_true (ns : List Int) : ∃ S, hd (specs Γ 21) i_law [.rl (ns.map .int)] [] = .ok (.bl true) S := by
  rw [run_law (by omega)]
  obtain ⟨S1, e1, p1⟩ := law_pen_eq (n := 20) (ns := ns) (by omega)
  obtain ⟨ρ', S2, e2, d2, d3, d4, d5, d6, d7, d8, d9, d10, d11, d12, d13, rfl, p2⟩ := forGo_nx (src := .rng 0 4) (tg := .v 2) (body := svs Γ (specs Γ 20) b_law_3) (ρ := lR (some (.rl (ns.map .int))) 0 none none none none none none none none none none none none none) (S := S1) (items := (List.range 4).map fun (i : Nat) => Itm.d (.int (0 + (i : Int))))
    (fun j ρ T => ∃ d2 d3 d4 d5 d6 d7 d8 d9 d10 d11 d12 d13, ρ = lR (some (.rl (ns.map .int))) 0 d2 d3 d4 d5 d6 d7 d8 d9 d10 d11 d12 d13 none ∧ PenAt T 0 (140 * j)) (fun j ρ T _ => src_rng)
    (by
      rintro j it ρ T e ⟨d2, d3, d4, d5, d6, d7, d8, d9, d10, d11, d12, d13, rfl, g⟩
      rw [List.getElem?_map] at e
      by_cases hj : j < 4
      · rw [List.getElem?_range hj] at e
        cases e
        obtain ⟨f3, f4, f5, f6, f7, f8, f9, f10, f11, f12, f13, S', r1, r2⟩ := lap_eq (k := 5) (S := T) (s := some (.rl (ns.map .int))) (a := 0) (C := 140 * j) (lap := some (.int (0 + (j : Int)))) (c3 := d3) (c4 := d4) (c5 := d5) (c6 := d6) (c7 := d7) (c8 := d8) (c9 := d9) (c10 := d10) (c11 := d11) (c12 := d12) (c13 := d13) (c14 := none) g (by omega)
        exact ⟨_, _, S', rfl, r1, some (.int (0 + (j : Int))), f3, f4, f5, f6, f7, f8, f9, f10, f11, f12, f13, rfl, by rw [show 140 * (j + 1) = 140 * j + 140 by omega]; exact r2⟩
      · rw [List.getElem?_eq_none (by simp; omega)] at e
        cases e)
    (f := 4) ⟨none, none, none, none, none, none, none, none, none, none, none, none, rfl, p1⟩ (by simp)
  obtain ⟨S3, e3⟩ := last_read (S := S2) 7
  have e4 : ev Γ (specs Γ 20) (.lam l__law_fault (.cal i_image_read 0 (.cons (.tup false .nil) .nil))) (lR (some (.rl (ns.map .int))) 0 d2 d3 d4 d5 d6 d7 d8 d9 d10 d11 d12 d13 none) S2 = .ok (.tup [.str "BadNumber", .str "place", .int 0]) S3 := by
    rw [el__law_fault, specs_length, specs_tail, if_neg (by omega)]
    refine fault_bn ?_
    simp [szl, e3]
  obtain ⟨X4, e5⟩ := stop_code (S := S3)
  have e6 : Pv.cutD ((imgM [.stop]).map D.int) none (some 8) = [.int 75, .int 72, .int 1, .int 0, .int 0, .int 0, .int 1, .int 5] := by
    have := cut_to (xs := (imgM [.stop]).map D.int) (k := 8)
    rw [show ((8 : Nat) : Int) = 8 from rfl] at this
    rw [this, ← List.map_take, stop_img]
    rfl
  refine ⟨S3 ++ X4, ?_⟩
  generalize (imgM [.stop]).map D.int = L at e5 e6
  generalize S3 ++ X4 = S4 at e5
  simp [runFn, f_law, b_law, e1, sv_for, rng1 (S := S1) (j := 4) (by decide), e2, e4, eq_a, szl, e5, e6, eq_b, -el__law_fault]
end K71

set_option maxHeartbeats 0
namespace K71
open PySem PySem.Spec PyProof.Rows L2 Pv
abbrev depth : Nat := 20
theorem plain : ∀ ns : List Int, ns.length ≤ 63 → (∀ z ∈ ns, Builtin.Int.intBits z ≤ 1048576) → ∃ S, hd (specs Γ (depth + 1)) 0 [.rl (ns.map .int)] [] = .ok (.bl true) S := fun ns _ _ => law_true ns
end K71
open PySem PySem.W PySem.Calls PyProof.Rows
theorem PySem.Challenge.cw_kepthours_k71_whole_images_holds : PySem.Challenge.rw_kepthours_k71_whole_images.Holds := by
  w_on; o_law
  refine HandSHeadRun.head_any (r := OpenLaw.row PySem.Challenge.rw_kepthours_k71_whole_images) (q := view (OpenLaw.row PySem.Challenge.rw_kepthours_k71_whole_images).prog [70]) (H := K71.hk) (ob := K71.ob) (M := 6000) (loose := K71.loose) (d := HandSHeadRun.topDef (OpenLaw.row PySem.Challenge.rw_kepthours_k71_whole_images).prog 70) (kwd := []) K71.ob_eq
    (by kernel_rfl) (fun s => by kernel_rfl) K71.run (by kernel_rfl) (by kernel_rfl) (by kernel_rfl) (by rfl) (by first | assumption | decide +kernel) (by decide +kernel) ⟨rfl, rfl, rfl, rfl, rfl, by decide +kernel⟩ ?hw ?hc
  case hw => w_witness2
  case hc =>
    refine LamX.walk_ofTsE (l := PySem.Challenge.rw_kepthours_k71_whole_images) (n := 63) (k := 2 * (K71.depth + 1) + 1) (x := "script") (CX := fun w => L2.CX PySem.Challenge.pw_kepthours_k71_whole_images w) rfl (by decide) (by kernel_rfl) ⟨rfl, by decide, by decide⟩ ?F (fun _ _ _ _ _ ⟨_, _, _, _, _, _, _, _, _, _, _, _, z⟩ => z)
    intro w mg fa h Y G hmg0
    have hmg : mg ("law" : PySem.Str) = some (.ref fa) := by
      have e : (HandSHeadRun.topDef (OpenLaw.row PySem.Challenge.rw_kepthours_k71_whole_images).prog 70).name = ("law" : PySem.Str) := by kernel_rfl
      rw [← e]
      exact hmg0
    exact Pv.law_at (t := K71.txt) (l := PySem.Challenge.rw_kepthours_k71_whole_images) K71.ok (f := 0) rfl rfl rfl rfl K71.plain w mg fa h Y G hmg
