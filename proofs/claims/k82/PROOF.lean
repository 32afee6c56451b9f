import PyProof.Rows.All
import Wide.All
import OpenK.AllK
import Wide.FinOn
import HandS.ForMost
import HandS.TupAny
import HandS.WideBits
import HandS.Wide
import HandS.IsInst
import HandS.Flow
import HandS.Style
import HandS.WordsExc
import HandS.TupMul
import HandS.ForSpec
import HandS.Exc
import HandS.ExcOwn
import OpenK.KMore
import KE.GoesMore
import KE.GoesEnum
import HandS.Iter
import HandS.Zip
import KE.KTupSum
import PyProof.EqAt
import PyProof.EqKinds
import PyProof.TupleCall
import KE.KSuper
import KE.KExcSuper
import HandS.ExcInit
import HandS.ExcSuper
import PySem.Challenge.RW_throwntrue_k82_whole_numbers
set_option Elab.async false
set_option linter.all false
set_option maxRecDepth 100000
namespace Zb
open PySem L2

inductive D where
  | non | bl (b : Bool) | int (i : Int) | str (s : Str) | ty (n : String) | adr (n : Nat) | tup (ds : List D) | ro (ns : List Int)
  deriving Inhabited
inductive OB where
  | lst (ds : List D) | dct (kvs : List (Key × D))
  deriving Inhabited
abbrev Sto := List OB
abbrev Sl := List (Option D)
inductive Res (α : Type) where
  | bad | ok (a : α) (l : Sto) | exc (C : Addr) (fs : List (Str × D)) (l : Sto)
def Res.bind {α β : Type} (r : Res α) (k : α → Sto → Res β) : Res β := match r with
  | .bad => .bad
  | .ok a l => k a l
  | .exc C fs l => .exc C fs l

/-- a list of ints that is read only and is none of the store's -/
def SqS (K : PySem.W.Frag) (ρ : List Addr) (H : Hp) (a : Addr) (xs : List V) : Prop :=
  (∃ ob, H a = some (.frz ob (.lst xs))) ∨
    ∃ (o : Obj) (its : Array Value) (n : Nat), K.lookup a = some o ∧ o.cls = .type "list" ∧ o.dict = none ∧ o.data = .seq its n ∧ its.size ≤ sizeLine ∧ Vals xs its.toList
theorem SqS.sq {K : PySem.W.Frag} {ρ : List Addr} {H : Hp} {a : Addr} {xs : List V} (h : SqS K ρ H a xs) : SqL K H a xs := by
  rcases h with ⟨ob, h⟩ | h
  · exact .inl (.inr ⟨ob, h⟩)
  · exact .inr h
mutual
def Rw (K : PySem.W.Frag) (ρ : List Addr) (H : Hp) : D → V → Prop
  | .non, v => v = .non
  | .bl b, v => v = .bl b
  | .int i, v => v = .int i
  | .str s, v => v = .str s
  | .ty n, v => v = .ty n
  | .adr n, v => ∃ a, ρ[n]? = some a ∧ v = .ref a
  | .tup ds, v => ∃ a vs, v = .ref a ∧ SqT K H a vs ∧ Rws K ρ H ds vs
  | .ro ns, v => ∃ a, v = .ref a ∧ SqS K ρ H a (ns.map V.int)
def Rws (K : PySem.W.Frag) (ρ : List Addr) (H : Hp) : List D → List V → Prop
  | [], vs => vs = []
  | d :: ds, vs => ∃ v r, vs = v :: r ∧ Rw K ρ H d v ∧ Rws K ρ H ds r
end

section
variable {K : PySem.W.Frag} {ρ ρ' : List Addr} {H H' : Hp}
def Tk (K : PySem.W.Frag) (H H' : Hp) : Prop := ∀ a xs, SqT K H a xs → SqT K H' a xs
theorem Tk.refl : Tk K H H := fun _ _ h => h
structure Mn (K : PySem.W.Frag) (ρ : List Addr) (H : Hp) (ρ' : List Addr) (H' : Hp) : Prop where
  px : ∀ (n : Nat) (a : Addr), ρ[n]? = some a → ρ'[n]? = some a
  tk : Tk K H H'
  ss : ∀ a xs, SqS K ρ H a xs → SqS K ρ' H' a xs
mutual
theorem Rw.mono (m : Mn K ρ H ρ' H') : ∀ (d : D) (v : V), Rw K ρ H d v → Rw K ρ' H' d v
  | .non, _, h => by simpa [Rw] using h
  | .bl _, _, h => by simpa [Rw] using h
  | .int _, _, h => by simpa [Rw] using h
  | .str _, _, h => by simpa [Rw] using h
  | .ty _, _, h => by simpa [Rw] using h
  | .adr n, v, h => by
    simp only [Rw] at h ⊢
    obtain ⟨a, e, h⟩ := h
    exact ⟨a, m.px n a e, h⟩
  | .tup ds, v, h => by
    simp only [Rw] at h ⊢
    obtain ⟨a, vs, e, h, r⟩ := h
    exact ⟨a, vs, e, m.tk a vs h, Rws.mono m ds vs r⟩
  | .ro ns, v, h => by
    simp only [Rw] at h ⊢
    obtain ⟨a, e, h⟩ := h
    exact ⟨a, e, m.ss a _ h⟩
theorem Rws.mono (m : Mn K ρ H ρ' H') : ∀ (ds : List D) (vs : List V), Rws K ρ H ds vs → Rws K ρ' H' ds vs
  | [], _, h => by simpa [Rws] using h
  | d :: ds, vs, h => by
    simp only [Rws] at h ⊢
    obtain ⟨v, r, e, h1, h2⟩ := h
    exact ⟨v, r, e, Rw.mono m d v h1, Rws.mono m ds r h2⟩
end
theorem Rws.length : ∀ {ds : List D} {vs : List V}, Rws K ρ H ds vs → vs.length = ds.length
  | [], _, h => by simp only [Rws] at h; subst h; rfl
  | d :: ds, _, h => by
    simp only [Rws] at h
    obtain ⟨v, r, e, _, h2⟩ := h
    subst e
    simp [Rws.length h2]
theorem Rws.get : ∀ {ds : List D} {vs : List V} {i : Nat} {d : D}, Rws K ρ H ds vs → ds[i]? = some d → ∃ v, vs[i]? = some v ∧ Rw K ρ H d v
  | [], _, _, _, h, e => by simp at e
  | d :: ds, _, 0, _, h, e => by
    simp only [Rws] at h
    obtain ⟨v, r, rfl, h1, h2⟩ := h
    simp at e; subst e
    exact ⟨v, rfl, h1⟩
  | d :: ds, _, i + 1, _, h, e => by
    simp only [Rws] at h
    obtain ⟨v, r, rfl, h1, h2⟩ := h
    obtain ⟨u, a, b⟩ := Rws.get (i := i) h2 (by simpa using e)
    exact ⟨u, by simpa using a, b⟩
theorem Rws.getV : ∀ {ds : List D} {vs : List V} {i : Nat} {v : V}, Rws K ρ H ds vs → vs[i]? = some v → ∃ d, ds[i]? = some d ∧ Rw K ρ H d v := fun {ds vs i v} h e => by
  have hl := Rws.length h
  have hi : i < ds.length := by rw [← hl]; exact (List.getElem?_eq_some_iff.mp e).1
  obtain ⟨u, a, b⟩ := Rws.get h (List.getElem?_eq_getElem hi)
  rw [e] at a; cases a
  exact ⟨_, List.getElem?_eq_getElem hi, b⟩
theorem Rws.nil : Rws K ρ H [] [] := by simp [Rws]
theorem Rws.cons {d : D} {v : V} {ds : List D} {vs : List V} (a : Rw K ρ H d v) (b : Rws K ρ H ds vs) : Rws K ρ H (d :: ds) (v :: vs) := by
  simp only [Rws]; exact ⟨v, vs, rfl, a, b⟩
theorem Rws.app : ∀ {ds es : List D} {vs us : List V}, Rws K ρ H ds vs → Rws K ρ H es us → Rws K ρ H (ds ++ es) (vs ++ us)
  | [], _, _, _, h, q => by simp only [Rws] at h; subst h; exact q
  | d :: ds, _, _, _, h, q => by
    simp only [Rws] at h
    obtain ⟨v, r, rfl, h1, h2⟩ := h
    exact Rws.cons h1 (Rws.app h2 q)
theorem Rws.one {d : D} {v : V} (a : Rw K ρ H d v) : Rws K ρ H [d] [v] := Rws.cons a Rws.nil
theorem Rws.take : ∀ {ds : List D} {vs : List V} (n : Nat), Rws K ρ H ds vs → Rws K ρ H (ds.take n) (vs.take n)
  | _, _, 0, _ => by simp [Rws]
  | [], _, n + 1, h => by simp only [Rws] at h; subst h; simp [Rws]
  | d :: ds, _, n + 1, h => by
    simp only [Rws] at h
    obtain ⟨v, r, rfl, h1, h2⟩ := h
    exact Rws.cons h1 (Rws.take n h2)
theorem Rws.drop : ∀ {ds : List D} {vs : List V} (n : Nat), Rws K ρ H ds vs → Rws K ρ H (ds.drop n) (vs.drop n)
  | _, _, 0, h => h
  | [], _, n + 1, h => by simp only [Rws] at h; subst h; simp [Rws]
  | d :: ds, _, n + 1, h => by
    simp only [Rws] at h
    obtain ⟨v, r, rfl, h1, h2⟩ := h
    exact Rws.drop n h2
theorem Rws.set {d : D} {v : V} (a : Rw K ρ H d v) : ∀ {ds : List D} {vs : List V} (n : Nat), Rws K ρ H ds vs → Rws K ρ H (ds.set n d) (vs.set n v)
  | [], _, n, h => by simp only [Rws] at h; subst h; simp [Rws]
  | e :: ds, _, 0, h => by
    simp only [Rws] at h
    obtain ⟨u, r, rfl, h1, h2⟩ := h
    exact Rws.cons a h2
  | e :: ds, _, n + 1, h => by
    simp only [Rws] at h
    obtain ⟨u, r, rfl, h1, h2⟩ := h
    exact Rws.cons h1 (Rws.set a n h2)
theorem Rws.rev {ds : List D} {vs : List V} (h : Rws K ρ H ds vs) : Rws K ρ H ds.reverse vs.reverse := by
  induction ds generalizing vs with
  | nil => simp only [Rws] at h; subst h; simp [Rws]
  | cons d ds ih =>
    simp only [Rws] at h
    obtain ⟨u, r, rfl, h1, h2⟩ := h
    rw [List.reverse_cons, List.reverse_cons]
    exact Rws.app (ih h2) (Rws.one h1)
theorem Rws.rep {ds : List D} {vs : List V} (h : Rws K ρ H ds vs) : ∀ k : Nat, Rws K ρ H (List.replicate k ds).flatten (List.replicate k vs).flatten
  | 0 => by simp [Rws]
  | k + 1 => by
    rw [List.replicate_succ, List.replicate_succ, List.flatten_cons, List.flatten_cons]
    exact Rws.app h (Rws.rep h k)
theorem Rws.nil_iff {ds : List D} {vs : List V} (h : Rws K ρ H ds vs) : vs = [] ↔ ds = [] := by
  have := Rws.length h
  constructor <;> intro e <;> subst e
  · exact List.eq_nil_of_length_eq_zero (by simpa using this.symm)
  · exact List.eq_nil_of_length_eq_zero (by simpa using this)

/-! ### the store -/
def Ow (K : PySem.W.Frag) (ρ : List Addr) (H : Hp) : OB → Addr → Prop
  | .lst ds, a => ∃ vs, H a = some (.lst vs) ∧ Rws K ρ H ds vs
  | .dct kvs, a => ∃ kv, H a = some (.dK kv) ∧ kv.map (·.1) = kvs.map (·.1) ∧ Rws K ρ H (kvs.map (·.2)) (kv.map (·.2))
structure Own (K : PySem.W.Frag) (ρ : List Addr) (l : Sto) (H : Hp) : Prop where
  nd : ρ.Nodup
  len : ρ.length = l.length
  at_ : ∀ (n : Nat) (o : OB) (a : Addr), l[n]? = some o → ρ[n]? = some a → Ow K ρ H o a
structure Step (ρ : List Addr) (H : Hp) (ρ' : List Addr) (H' : Hp) : Prop where
  pre : ∃ t, ρ' = ρ ++ t
  keep : ∀ a o, H a = some o → a ∉ ρ → H' a = some o
  new : ∀ a, a ∈ ρ' → a ∉ ρ → H a = none
theorem Step.refl : Step ρ H ρ H := ⟨⟨[], by simp⟩, fun _ _ h _ => h, fun a h n => absurd h n⟩
theorem Step.trans {ρ1 ρ2 ρ3 : List Addr} {H1 H2 H3 : Hp} (a : Step ρ1 H1 ρ2 H2) (b : Step ρ2 H2 ρ3 H3) : Step ρ1 H1 ρ3 H3 := by
  obtain ⟨t, rfl⟩ := a.pre
  obtain ⟨u, rfl⟩ := b.pre
  refine ⟨⟨t ++ u, by simp⟩, fun x o h n => ?_, fun x h n => ?_⟩
  · refine b.keep x o (a.keep x o h n) fun q => ?_
    rcases List.mem_append.mp q with q | q
    · exact n q
    · have := a.new x (List.mem_append_right _ q) n
      rw [h] at this; cases this
  · by_cases q : x ∈ ρ1 ++ t
    · exact a.new x q n
    · have := b.new x h q
      cases e : H1 x with
      | none => rfl
      | some o =>
        have := a.keep x o e n
        simp_all
theorem Step.px (s : Step ρ H ρ' H') : ∀ (n : Nat) (a : Addr), ρ[n]? = some a → ρ'[n]? = some a := fun n a e => by
  obtain ⟨t, rfl⟩ := s.pre
  rw [List.getElem?_append_left (List.getElem?_eq_some_iff.mp e).1]; exact e
theorem Own.mem {l : Sto} (o : Own K ρ l H) {a : Addr} (h : a ∈ ρ) : ∃ ob, Ow K ρ H ob a := by
  obtain ⟨n, hn⟩ := List.getElem?_of_mem h
  have hl : n < l.length := by rw [← o.len]; exact (List.getElem?_eq_some_iff.mp hn).1
  exact ⟨_, o.at_ n _ a (List.getElem?_eq_getElem hl) hn⟩
def stO : HO → Prop
  | .lst _ => True | .dK _ => True | _ => False
theorem Own.some_ {l : Sto} (o : Own K ρ l H) {a : Addr} (h : a ∈ ρ) : ∃ u, H a = some u ∧ stO u := by
  obtain ⟨ob, q⟩ := o.mem h
  cases ob with
  | lst ds => obtain ⟨vs, e, _⟩ := q; exact ⟨_, e, trivial⟩
  | dct ds => obtain ⟨vs, e, _⟩ := q; exact ⟨_, e, trivial⟩
theorem Step.tk {l : Sto} (s : Step ρ H ρ' H') (o : Own K ρ l H) : Tk K H H' := fun a xs h => by
  have na : ∀ u, H a = some u → ¬ stO u → a ∉ ρ := fun u hu hn q => by
    obtain ⟨u', e, st⟩ := o.some_ q
    rw [hu] at e; cases e
    exact hn st
  rcases h with (h | ⟨ob, h⟩) | h
  · exact .inl (.inl (s.keep _ _ h (na _ h (fun q => q))))
  · exact .inl (.inr ⟨ob, s.keep _ _ h (na _ h (fun q => q))⟩)
  · exact .inr h
theorem Step.mn {l : Sto} (s : Step ρ H ρ' H') (o : Own K ρ l H) : Mn K ρ H ρ' H' := ⟨s.px, s.tk o, fun a xs h => by
  rcases h with ⟨ob, h⟩ | h
  · refine .inl ⟨ob, s.keep _ _ h fun q => ?_⟩
    obtain ⟨u', e, st⟩ := o.some_ q
    rw [h] at e; cases e
    exact st
  · exact .inr h⟩
theorem Step.rw {l : Sto} (s : Step ρ H ρ' H') (o : Own K ρ l H) {d : D} {v : V} (h : Rw K ρ H d v) : Rw K ρ' H' d v := Rw.mono (s.mn o) d v h
theorem Step.rws {l : Sto} (s : Step ρ H ρ' H') (o : Own K ρ l H) {d : List D} {v : List V} (h : Rws K ρ H d v) : Rws K ρ' H' d v := Rws.mono (s.mn o) d v h

/-! ### slots -/
structure Slt (K : PySem.W.Frag) (ρ : List Addr) (H : Hp) (σ : L2.St) (g : Sl) : Prop where
  len : σ.length = g.length
  at_ : ∀ (i : Nat) (d : D), g[i]? = some (some d) → ∃ v, σ[i]? = some (some v) ∧ Rw K ρ H d v
theorem Slt.step {l : Sto} {σ : L2.St} {g : Sl} (h : Slt K ρ H σ g) (s : Step ρ H ρ' H') (o : Own K ρ l H) : Slt K ρ' H' σ g :=
  ⟨h.len, fun i d e => let ⟨v, a, b⟩ := h.at_ i d e; ⟨v, a, s.rw o b⟩⟩
theorem Slt.set {σ : L2.St} {g : Sl} {d : D} {v : V} (h : Slt K ρ H σ g) (i : Nat) (r : Rw K ρ H d v) : Slt K ρ H (σ.set i (some v)) (g.set i (some d)) := by
  refine ⟨by simp [h.len], fun j e hj => ?_⟩
  by_cases q : i = j
  · subst q
    have hi : i < g.length := by
      have := (List.getElem?_eq_some_iff.mp hj).1
      simpa using this
    rw [List.getElem?_set_self hi] at hj
    cases hj
    exact ⟨v, by rw [List.getElem?_set_self (by rw [h.len]; exact hi)], r⟩
  · rw [List.getElem?_set_ne q] at hj
    obtain ⟨u, a, b⟩ := h.at_ j e hj
    exact ⟨u, by rw [List.getElem?_set_ne q]; exact a, b⟩

/-! ### what is reached -/
def Post {α β : Type} (K : PySem.W.Frag) (E : XK) (ρ : List Addr) (H : Hp) (rel : List Addr → Hp → α → β → Prop) (r : Res α) (Q : β → Hp → Prop) : Prop := match r with
  | .bad => False
  | .ok a l' => ∀ ρ' H' b, Step ρ H ρ' H' → Own K ρ' l' H' → rel ρ' H' a b → Q b H'
  | .exc C fs l' => ∀ ρ' H' dd vs, Step ρ H ρ' H' → Own K ρ' l' H' → H' dd = some (.xd vs) → vs.map (·.1) = fs.map (·.1) → Rws K ρ' H' (fs.map (·.2)) (vs.map (·.2)) → E (.ref C) (some dd) H'
theorem Post.bind {α β γ δ : Type} {E : XK} {rel : List Addr → Hp → α → γ → Prop} {rel2 : List Addr → Hp → β → δ → Prop} {r : Res α} {k : α → Sto → Res β} {Q : δ → Hp → Prop} {Q1 : γ → Hp → Prop}
    (h : Post K E ρ H rel2 (r.bind k) Q)
    (hk : ∀ a l1 ρ1 H1 b, r = .ok a l1 → Step ρ H ρ1 H1 → Own K ρ1 l1 H1 → rel ρ1 H1 a b → Post K E ρ1 H1 rel2 (k a l1) Q → Q1 b H1) : Post K E ρ H rel r Q1 := by
  cases r with
  | bad => exact h
  | exc C fs l' => exact h
  | ok a l1 =>
    intro ρ1 H1 b s o rl
    refine hk a l1 ρ1 H1 b rfl s o rl ?_
    have h' : Post K E ρ H rel2 (k a l1) Q := h
    cases e : k a l1 with
    | bad => rw [e] at h'; exact h'
    | ok a2 l2 => rw [e] at h'; exact fun ρ' H' b' s' o' r' => h' ρ' H' b' (s.trans s') o' r'
    | exc C fs l2 => rw [e] at h'; exact fun ρ' H' dd vs s' o' e1 e2 e3 => h' ρ' H' dd vs (s.trans s') o' e1 e2 e3
abbrev rD (K : PySem.W.Frag) : List Addr → Hp → D → V → Prop := fun ρ H d v => Rw K ρ H d v
abbrev rDs (K : PySem.W.Frag) : List Addr → Hp → List D → List V → Prop := fun ρ H d v => Rws K ρ H d v
abbrev rB {α : Type} : List Addr → Hp → α → α → Prop := fun _ _ d v => d = v
end

/-! ### judgements -/
abbrev DE := Sl → Sto → Res D
abbrev DEs := Sl → Sto → Res (List D)
abbrev DB := Sl → Sto → Res Bool
abbrev DO := Sl → Sto → Res (Option Int)
section
variable (K : PySem.W.Frag) (E : XK)
def teOf (f : DE) : TE := fun σ H Q => ∃ ρ l g, Own K ρ l H ∧ Slt K ρ H σ g ∧ Post K E ρ H (rD K) (f g l) Q
def taOf (f : DEs) : TA := fun σ H Q => ∃ ρ l g, Own K ρ l H ∧ Slt K ρ H σ g ∧ Post K E ρ H (rDs K) (f g l) Q
def ttOf (f : DB) : TT := fun σ H Q => ∃ ρ l g, Own K ρ l H ∧ Slt K ρ H σ g ∧ Post K E ρ H rB (f g l) Q
def toOf (f : DO) : TO := fun σ H Q => ∃ ρ l g, Own K ρ l H ∧ Slt K ρ H σ g ∧ Post K E ρ H rB (f g l) Q
end
structure AE (X : Cx) (E : XK) (e : Expr) (f : DE) : Prop where
  pe : PE X e (teOf X.K E f)
structure AA (X : Cx) (E : XK) (es : List Expr) (f : DEs) : Prop where
  pa : PA X es (taOf X.K E f)
structure AT (X : Cx) (E : XK) (e : Expr) (f : DB) : Prop where
  pt : PT X e (ttOf X.K E f)
theorem PE.imp {X : Cx} {e : Expr} {t u : TE} (h : PE X e t) (q : ∀ σ H Q, u σ H Q → t σ H Q) : PE X e u := ⟨fun pins s σ H Q I k => h.run pins s σ H Q I (q σ H Q k)⟩
theorem PA.imp {X : Cx} {e : List Expr} {t u : TA} (h : PA X e t) (q : ∀ σ H Q, u σ H Q → t σ H Q) : PA X e u := ⟨fun pos pins s σ H Q I k => h.run pos pins s σ H Q I (q σ H Q k)⟩
theorem PT.imp {X : Cx} {e : Expr} {t u : TT} (h : PT X e t) (q : ∀ σ H Q, u σ H Q → t σ H Q) : PT X e u := ⟨fun pins s σ H Q I k => h.run pins s σ H Q I (q σ H Q k)⟩

section
variable {X : Cx} {E : XK} {a b c e : Expr} {es : List Expr} {fa fb fc f : DE} {fs : DEs} {pos : Pos}
theorem Post.here {α β : Type} {K : PySem.W.Frag} {ρ : List Addr} {l : Sto} {H : Hp} {rel : List Addr → Hp → α → β → Prop} {x : α} {y : β} {Q : β → Hp → Prop} (h : Post K E ρ H rel (.ok x l) Q) (o : Own K ρ l H) (r : rel ρ H x y) : Q y H := h ρ H y Step.refl o r

/-- a name -/
def dV (i : Nat) : DE := fun g l => match g[i]? with
  | some (some d) => .ok d l
  | _ => .bad
theorem ae_var {i : Nat} (h : PE X e (tVar i)) : AE X E e (dV i) := ⟨PE.imp h fun σ H Q ⟨ρ, l, g, o, s, p⟩ => by
  unfold dV at p
  cases hg : g[i]? with
  | none => rw [hg] at p; exact p.elim
  | some q =>
    cases q with
    | none => rw [hg] at p; exact p.elim
    | some d =>
      rw [hg] at p
      obtain ⟨v, hv, r⟩ := s.at_ i d hg
      exact ⟨v, hv, p.here o r⟩⟩
/-- constants -/
def dC (d : D) : DE := fun _ l => .ok d l
def isC : D → V → Prop
  | .non, v => v = .non
  | .bl b, v => v = .bl b
  | .int b, v => v = .int b
  | .str b, v => v = .str b
  | .ty b, v => v = .ty b
  | _, _ => False
theorem ae_c {d : D} {v : V} (hd : isC d v) (h : PE X e (tC v)) : AE X E e (dC d) := ⟨PE.imp h fun σ H Q ⟨ρ, l, g, o, s, p⟩ => by
  refine Post.here p o ?_
  cases d <;> simp_all [isC, Rw]⟩
theorem ae_int {i : Int} {j p} : AE X E (.Constant (.int i) j p) (dC (.int i)) := ae_c (v := .int i) rfl pe_int
theorem ae_bl {i : Bool} {j p} : AE X E (.Constant (.bool i) j p) (dC (.bl i)) := ae_c (v := .bl i) rfl pe_bl
theorem ae_str {i : Str} {j p} : AE X E (.Constant (.str i) j p) (dC (.str i)) := ae_c (v := .str i) rfl pe_str
theorem ae_non {j p} : AE X E (.Constant .none j p) (dC .non) := ae_c (v := .non) rfl pe_non

/-- argument lists -/
def dNil : DEs := fun _ l => .ok [] l
def dCons (f : DE) (fs : DEs) : DEs := fun g l => (f g l).bind fun d l1 => (fs g l1).bind fun ds l2 => .ok (d :: ds) l2
theorem aa_nil : AA X E [] dNil := ⟨PA.imp pa_nil fun σ H Q ⟨ρ, l, g, o, s, p⟩ => Post.here p o Rws.nil⟩
theorem aa_cons (ha : AE X E e f) (hr : AA X E es fs) (hs : starEach (e :: es) X.env = (false, eval e X.env) :: starEach es X.env := by rfl) : AA X E (e :: es) (dCons f fs) :=
  ⟨PA.imp (pa_cons ha.pe hr.pa hs) fun σ H Q ⟨ρ, l, g, o, s, p⟩ => by
    refine ⟨ρ, l, g, o, s, Post.bind p fun x l1 ρ1 H1 v e1 s1 o1 r1 p1 => ?_⟩
    refine ⟨ρ1, l1, g, o1, s.step s1 o, Post.bind p1 fun ds l2 ρ2 H2 vs e2 s2 o2 r2 p2 => ?_⟩
    exact Post.here p2 o2 (Rws.cons (s2.rw o1 r1) r2)⟩

/-- two operands -/
def dOp (h : D → D → Sto → Res D) (fa fb : DE) : DE := fun g l => (fa g l).bind fun x l1 => (fb g l1).bind fun y l2 => h x y l2
def OpS (K : PySem.W.Frag) (E : XK) (r : R2) (h : D → D → Sto → Res D) : Prop := ∀ ρ l H dx dy x y Q, Own K ρ l H → Rw K ρ H dx x → Rw K ρ H dy y → Post K E ρ H (rD K) (h dx dy l) Q → r x y H Q
theorem ae_op2 {r : R2} {h : D → D → Sto → Res D} (hp : PE X e (tOp r (teOf X.K E fa) (teOf X.K E fb))) (hs : OpS X.K E r h) : AE X E e (dOp h fa fb) :=
  ⟨PE.imp hp fun σ H Q ⟨ρ, l, g, o, s, p⟩ => by
    refine ⟨ρ, l, g, o, s, Post.bind p fun x l1 ρ1 H1 v e1 s1 o1 r1 p1 => ?_⟩
    refine ⟨ρ1, l1, g, o1, s.step s1 o, Post.bind p1 fun y l2 ρ2 H2 u e2 s2 o2 r2 p2 => ?_⟩
    exact hs ρ2 l2 H2 x y v u Q o2 (s2.rw o1 r1) r2 p2⟩
end
end Zb

set_option Elab.async false
set_option linter.all false
set_option maxRecDepth 100000
namespace Zb
open PySem L2
section
variable {K : PySem.W.Frag} {E : XK} {ρ : List Addr} {l : Sto} {H : Hp} {p : Addr}
/-! ### new objects -/
theorem px_app {t : List Addr} : ∀ (n : Nat) (a : Addr), ρ[n]? = some a → (ρ ++ t)[n]? = some a := fun n a e => by
  rw [List.getElem?_append_left (List.getElem?_eq_some_iff.mp e).1]; exact e
theorem Own.nop (o : Own K ρ l H) (hp : H p = none) : p ∉ ρ := fun q => by
  obtain ⟨xs, e, _⟩ := o.some_ q
  rw [hp] at e; cases e
theorem Ow.mono {ρ' : List Addr} {H' : Hp} {o : OB} {a : Addr} (m : Mn K ρ H ρ' H') (k : ∀ u, H a = some u → H' a = some u) (h : Ow K ρ H o a) : Ow K ρ' H' o a := by
  cases o with
  | lst ds => obtain ⟨vs, e, r⟩ := h; exact ⟨vs, k _ e, Rws.mono m _ _ r⟩
  | dct ds => obtain ⟨vs, e, q, r⟩ := h; exact ⟨vs, k _ e, q, Rws.mono m _ _ r⟩
theorem step_upd {u : HO} (hp : H p = none) : Step ρ H ρ (upd H p u) := ⟨⟨[], by simp⟩, fun a v e _ => by rw [upd_ne (ne_of_none e hp)]; exact e, fun a h n => absurd h n⟩
theorem Own.newT {xs : List V} (o : Own K ρ l H) (hp : H p = none) : Own K ρ l (upd H p (.tup xs)) ∧ Step ρ H ρ (upd H p (.tup xs)) := by
  have st : Step ρ H ρ (upd H p (.tup xs)) := step_upd hp
  exact ⟨⟨o.nd, o.len, fun n ob a e1 e2 => Ow.mono (st.mn o) (fun u e => by rw [upd_ne (ne_of_none e hp)]; exact e) (o.at_ n ob a e1 e2)⟩, st⟩
theorem step_app {u : HO} (hp : H p = none) : Step ρ H (ρ ++ [p]) (upd H p u) := ⟨⟨[p], rfl⟩, fun a v e _ => by rw [upd_ne (ne_of_none e hp)]; exact e, fun a h n => by
  rcases List.mem_append.mp h with h | h
  · exact absurd h n
  · simp at h; subst h; exact hp⟩
theorem Own.newO {u : HO} {ob : OB} (o : Own K ρ l H) (hp : H p = none) (w : Mn K ρ H (ρ ++ [p]) (upd H p u) → Ow K (ρ ++ [p]) (upd H p u) ob p) : Own K (ρ ++ [p]) (l ++ [ob]) (upd H p u) ∧ Step ρ H (ρ ++ [p]) (upd H p u) := by
  have st : Step ρ H (ρ ++ [p]) (upd H p u) := step_app hp
  refine ⟨⟨?_, by simp [o.len], fun n ob' a e1 e2 => ?_⟩, st⟩
  · rw [List.nodup_append]
    refine ⟨o.nd, by simp, fun a ha b hb => ?_⟩
    simp at hb; subst hb
    exact fun q => o.nop hp (q ▸ ha)
  · by_cases hn : n < l.length
    · rw [List.getElem?_append_left hn] at e1
      rw [List.getElem?_append_left (by rw [o.len]; exact hn)] at e2
      exact Ow.mono (st.mn o) (fun v e => by rw [upd_ne (ne_of_none e hp)]; exact e) (o.at_ n ob' a e1 e2)
    · have h1 := (List.getElem?_eq_some_iff.mp e1).1
      have hn' : n = l.length := by simp at h1; omega
      subst hn'
      have e3 : (ρ ++ [p])[l.length]? = some p := by rw [← o.len]; simp
      rw [e3] at e2; cases e2
      have e4 : (l ++ [ob])[l.length]? = some ob := by simp
      rw [e4] at e1; cases e1
      exact w (st.mn o)
theorem Own.newL {xs : List V} {ds : List D} (o : Own K ρ l H) (hp : H p = none) (r : Rws K ρ H ds xs) : Own K (ρ ++ [p]) (l ++ [.lst ds]) (upd H p (.lst xs)) ∧ Step ρ H (ρ ++ [p]) (upd H p (.lst xs)) :=
  o.newO hp fun m => ⟨xs, upd_same, Rws.mono m _ _ r⟩
/-- an object of the store is written -/
theorem Own.setO {n : Nat} {a : Addr} {u : HO} {ob : OB} {old : OB} (o : Own K ρ l H) (hn : ρ[n]? = some a) (ho : l[n]? = some old) (w : Mn K ρ H ρ (upd H a u) → Ow K ρ (upd H a u) ob a) :
    Own K ρ (l.set n ob) (upd H a u) ∧ Step ρ H ρ (upd H a u) := by
  have ha : a ∈ ρ := List.mem_of_getElem? hn
  have st : Step ρ H ρ (upd H a u) := ⟨⟨[], by simp⟩, fun b v e nb => by rw [upd_ne (fun q => nb (by rw [q]; exact ha))]; exact e, fun b h nb => absurd h nb⟩
  refine ⟨⟨o.nd, by simp [o.len], fun m ob' b e1 e2 => ?_⟩, st⟩
  by_cases q : n = m
  · subst q
    rw [hn] at e2; cases e2
    rw [List.getElem?_set_self (List.getElem?_eq_some_iff.mp ho).1] at e1
    cases e1
    exact w (st.mn o)
  · rw [List.getElem?_set_ne q] at e1
    have nb : b ≠ a := fun z => by
      subst z
      obtain ⟨h1, g1⟩ := List.getElem?_eq_some_iff.mp hn
      obtain ⟨h2, g2⟩ := List.getElem?_eq_some_iff.mp e2
      exact q ((List.getElem_inj o.nd).mp (g1.trans g2.symm))
    exact Ow.mono (st.mn o) (fun v e => by rw [upd_ne nb]; exact e) (o.at_ m ob' b e1 e2)
theorem Own.set {n : Nat} {a : Addr} {xs : List V} {ds : List D} {old : OB} (o : Own K ρ l H) (hn : ρ[n]? = some a) (ho : l[n]? = some old) (r : Rws K ρ H ds xs) :
    Own K ρ (l.set n (.lst ds)) (upd H a (.lst xs)) ∧ Step ρ H ρ (upd H a (.lst xs)) := o.setO hn ho fun m => ⟨xs, upd_same, Rws.mono m _ _ r⟩
theorem Own.lst {n : Nat} {ds : List D} {v : V} (o : Own K ρ l H) (r : Rw K ρ H (.adr n) v) (h : l[n]? = some (.lst ds)) : ∃ a vs, v = .ref a ∧ ρ[n]? = some a ∧ H a = some (.lst vs) ∧ Rws K ρ H ds vs := by
  simp only [Rw] at r
  obtain ⟨a, e, rfl⟩ := r
  obtain ⟨vs, h1, h2⟩ := o.at_ n _ a h e
  exact ⟨a, vs, rfl, e, h1, h2⟩
theorem Rw.tup_ {ds : List D} {v : V} (r : Rw K ρ H (.tup ds) v) : ∃ a vs, v = .ref a ∧ SqT K H a vs ∧ Rws K ρ H ds vs := by simpa [Rw] using r
theorem Rw.int_ {i : Int} {v : V} (r : Rw K ρ H (.int i) v) : v = .int i := by simpa [Rw] using r
theorem Rw.bl_ {i : Bool} {v : V} (r : Rw K ρ H (.bl i) v) : v = .bl i := by simpa [Rw] using r
theorem Rw.str_ {i : Str} {v : V} (r : Rw K ρ H (.str i) v) : v = .str i := by simpa [Rw] using r
theorem Rw.non_ {v : V} (r : Rw K ρ H .non v) : v = .non := by simpa [Rw] using r
theorem Rw.ty_ {n : String} {v : V} (r : Rw K ρ H (.ty n) v) : v = .ty n := by simpa [Rw] using r
theorem rw_int {i : Int} : Rw K ρ H (.int i) (.int i) := by simp [Rw]
theorem rw_bl {i : Bool} : Rw K ρ H (.bl i) (.bl i) := by simp [Rw]
theorem rw_str {i : Str} : Rw K ρ H (.str i) (.str i) := by simp [Rw]
theorem rw_non : Rw K ρ H .non .non := by simp [Rw]
theorem rw_tup {a : Addr} {vs : List V} {ds : List D} (h : SqT K H a vs) (r : Rws K ρ H ds vs) : Rw K ρ H (.tup ds) (.ref a) := by simp only [Rw]; exact ⟨a, vs, rfl, h, r⟩
theorem rw_adr {a : Addr} {n : Nat} (h : ρ[n]? = some a) : Rw K ρ H (.adr n) (.ref a) := by simp only [Rw]; exact ⟨a, h, rfl⟩

/-! ### a tuple, a list made: what is reached -/
theorem Post.mkT {Q : VK} {ds : List D} {vs : List V} (o : Own K ρ l H) (r : Rws K ρ H ds vs) (h : Post K E ρ H (rD K) (.ok (.tup ds) l) Q) (hp : H p = none) : Q (.ref p) (upd H p (.tup vs)) := by
  obtain ⟨o1, s1⟩ := o.newT (xs := vs) hp
  exact h ρ _ _ s1 o1 (rw_tup (SqT.of upd_same) (s1.rws o r))
theorem Post.mkL {Q : VK} {ds : List D} {vs : List V} (o : Own K ρ l H) (r : Rws K ρ H ds vs) (h : Post K E ρ H (rD K) (.ok (.adr l.length) (l ++ [.lst ds])) Q) (hp : H p = none) : Q (.ref p) (upd H p (.lst vs)) := by
  obtain ⟨o1, s1⟩ := o.newL hp r
  exact h _ _ _ s1 o1 (rw_adr (by rw [← o.len]; simp))
end

def small (n : Nat) : Bool := decide (n ≤ 16777216)
theorem small_le {n : Nat} (h : small n = true) : n ≤ sizeLine := by
  have := of_decide_eq_true h
  rw [sizeLine_eq]; exact this
theorem small_lt {n : Nat} (h : small (n + 1) = true) : n < sizeLine := by
  have := of_decide_eq_true h
  rw [sizeLine_eq]; omega

/-! ### displays -/
def dTup (fs : DEs) : DE := fun g l => (fs g l).bind fun ds l1 => if small ds.length then .ok (.tup ds) l1 else .bad
def dLst (fs : DEs) : DE := fun g l => (fs g l).bind fun ds l1 => if small ds.length then .ok (.adr l1.length) (l1 ++ [.lst ds]) else .bad
section
variable {X : Cx} {E : XK} {a b c e : Expr} {es : List Expr} {fa fb fc f : DE} {fs : DEs} {pos : Pos}
theorem Post.ite {α β : Type} {K : PySem.W.Frag} {ρ : List Addr} {H : Hp} {rel : List Addr → Hp → α → β → Prop} {c : Bool} {r : Res α} {Q : β → Hp → Prop} (h : Post K E ρ H rel (if c then r else .bad) Q) : c = true ∧ Post K E ρ H rel r Q := by
  cases c with
  | true => exact ⟨rfl, by simpa using h⟩
  | false => exact absurd (show Post K E ρ H rel .bad Q by simpa using h) (fun z => z)
theorem ae_tup {x1} (h : AA X E es fs) : AE X E (.Tuple es x1 pos) (dTup fs) := ⟨PE.imp (pe_tup h.pa) fun σ H Q ⟨ρ, l, g, o, s, p⟩ => by
  refine ⟨ρ, l, g, o, s, Post.bind p fun ds l1 ρ1 H1 vs e1 s1 o1 r1 p1 => ?_⟩
  obtain ⟨hc, p1⟩ := p1.ite
  refine ⟨by rw [r1.length]; exact small_le hc, fun q hq => Post.mkT o1 r1 p1 hq⟩⟩
theorem ae_lst (h : AA X E es fs) : AE X E (.List es pos) (dLst fs) := ⟨PE.imp (pe_lst h.pa) fun σ H Q ⟨ρ, l, g, o, s, p⟩ => by
  refine ⟨ρ, l, g, o, s, Post.bind p fun ds l1 ρ1 H1 vs e1 s1 o1 r1 p1 => ?_⟩
  obtain ⟨hc, p1⟩ := p1.ite
  refine ⟨by rw [r1.length]; exact small_le hc, fun q hq => Post.mkL o1 r1 p1 hq⟩⟩

/-! ### arithmetic -/
def mulOk (i j : Int) : Bool := decide (i.natAbs.log2 + j.natAbs.log2 < 1000000)
def divOk (j : Int) : Bool := decide (0 < j) && decide (j.natAbs.log2 < 9000)
def hAdd : D → D → Sto → Res D
  | .int i, .int j, l => .ok (.int (i + j)) l
  | .tup xs, .tup ys, l => if small (xs.length + ys.length) then .ok (.tup (xs ++ ys)) l else .bad
  | .str i, .str j, l => if small (i.length + j.length) then .ok (.str (i ++ j)) l else .bad
  | .adr n, .adr m, l => match l[n]?, l[m]? with
    | some (.lst xs), some (.lst ys) => if small (xs.length + ys.length) then .ok (.adr l.length) (l ++ [.lst (xs ++ ys)]) else .bad
    | _, _ => .bad
  | _, _, _ => .bad
def rAddA (K : PySem.W.Frag) : R2 := fun x y H Q => (rI0 (fun i j => .int (i + j)) x y H Q ∨ rCatA K x y H Q) ∨ ((∃ i j, x = .str i ∧ y = .str j ∧ i.length + j.length ≤ sizeLine ∧ Q (.str (i ++ j)) H) ∨ rCat x y H Q)
theorem op_addA : OpR X (binaryOp .Add) (rAddA X.K) := OpR.or (OpR.or op_add op_catA) (OpR.or op_add_str op_cat)
theorem hs_add : OpS X.K E (rAddA X.K) hAdd := fun ρ l H dx dy x y Q o rx ry p => by
  cases dx with
  | int i =>
    cases dy with
    | int j => rw [rx.int_, ry.int_]; exact .inl (.inl ⟨i, j, rfl, rfl, p.here o rw_int⟩)
    | _ => exact p.elim
  | tup xs =>
    cases dy with
    | tup ys =>
      obtain ⟨hc, p⟩ := Post.ite p
      obtain ⟨a, vs, rfl, t1, r1⟩ := rx.tup_
      obtain ⟨b, us, rfl, t2, r2⟩ := ry.tup_
      refine .inl (.inr ⟨a, b, vs, us, rfl, rfl, t1, t2, by rw [r1.length, r2.length]; exact small_le hc, fun e => ?_, fun e1 e2 => ?_, fun e1 e2 q hq => ?_⟩)
      · have := r1.nil_iff.mp e
        subst this
        exact p.here o ry
      · have := r2.nil_iff.mp e2
        subst this
        rw [List.append_nil] at p
        exact p.here o rx
      · exact Post.mkT o (r1.app r2) p hq
    | _ => exact p.elim
  | str i =>
    cases dy with
    | str j =>
      obtain ⟨hc, p⟩ := Post.ite p
      rw [rx.str_, ry.str_]
      exact .inr (.inl ⟨i, j, rfl, rfl, small_le hc, p.here o rw_str⟩)
    | _ => exact p.elim
  | adr n =>
    cases dy with
    | adr m =>
      simp only [hAdd] at p
      split at p
      · rename_i xs ys e1 e2
        obtain ⟨hc, p⟩ := Post.ite p
        obtain ⟨a, vs, rfl, _, h1, r1⟩ := o.lst rx e1
        obtain ⟨b, us, rfl, _, h2, r2⟩ := o.lst ry e2
        exact .inr (.inr ⟨a, b, vs, us, rfl, rfl, h1, h2, by rw [r1.length, r2.length]; exact small_le hc, fun q hq => Post.mkL o (r1.app r2) p hq⟩)
      · exact p.elim
    | _ => exact p.elim
  | _ => exact p.elim
theorem ae_add (ha : AE X E a fa) (hb : AE X E b fb) : AE X E (.BinOp a .Add b pos) (dOp hAdd fa fb) := ae_op2 (pe_op op_addA ha.pe hb.pe) hs_add
def hInt (c : Int → Int → Bool) (f : Int → Int → Int) : D → D → Sto → Res D
  | .int i, .int j, l => if c i j then .ok (.int (f i j)) l else .bad
  | _, _, _ => .bad
theorem hs_int {C : Int → Int → Prop} {c : Int → Int → Bool} {f : Int → Int → Int} (hc : ∀ i j, c i j = true → C i j) : OpS X.K E (rI C fun i j => .int (f i j)) (hInt c f) := fun ρ l H dx dy x y Q o rx ry p => by
  cases dx with
  | int i =>
    cases dy with
    | int j =>
      obtain ⟨h, p⟩ := Post.ite p
      rw [rx.int_, ry.int_]
      exact ⟨i, j, rfl, rfl, hc i j h, p.here o rw_int⟩
    | _ => exact p.elim
  | _ => exact p.elim
def yes2 (_ _ : Int) : Bool := true
theorem rI_of {g : Int → Int → V} {f : Value → Value → Sem Value} (h : OpR X f (rI0 g)) : OpR X f (rI (fun _ _ => True) g) := fun pins s σ H x y v u Q I rx ry ⟨i, j, e1, e2, _, q⟩ => h pins s σ H x y v u Q I rx ry ⟨i, j, e1, e2, q⟩
theorem ae_sub (ha : AE X E a fa) (hb : AE X E b fb) : AE X E (.BinOp a .Sub b pos) (dOp (hInt yes2 fun i j => i - j) fa fb) := ae_op2 (pe_op (rI_of op_sub) ha.pe hb.pe) (hs_int fun _ _ _ => trivial)
theorem ae_mod (ha : AE X E a fa) (hb : AE X E b fb) : AE X E (.BinOp a .Mod b pos) (dOp (hInt (fun _ j => decide (j ≠ 0)) Int.fmod) fa fb) := ae_op2 (pe_op op_modN ha.pe hb.pe) (hs_int fun _ _ h => of_decide_eq_true h)
theorem ae_div (ha : AE X E a fa) (hb : AE X E b fb) : AE X E (.BinOp a .FloorDiv b pos) (dOp (hInt (fun _ j => divOk j) fun i j => i / j) fa fb) := ae_op2 (pe_op op_fdivW ha.pe hb.pe) (hs_int fun _ j h => by
  unfold divOk at h
  rw [Bool.and_eq_true] at h
  exact ⟨of_decide_eq_true h.1, of_decide_eq_true h.2⟩)
def powOk (i j : Int) : Bool := decide (0 ≤ j) && decide (j ≤ 1000000) && decide (i.natAbs < 2 ^ 64)
theorem ae_pow (ha : AE X E a fa) (hb : AE X E b fb) : AE X E (.BinOp a .Pow b pos) (dOp (hInt powOk fun i j => i ^ j.toNat) fa fb) := ae_op2 (pe_op op_pow ha.pe hb.pe) (hs_int fun i j h => by
  unfold powOk at h
  rw [Bool.and_eq_true, Bool.and_eq_true] at h
  exact ⟨of_decide_eq_true h.1.1, of_decide_eq_true h.1.2, of_decide_eq_true h.2⟩)
theorem ae_shl (ha : AE X E a fa) (hb : AE X E b fb) : AE X E (.BinOp a .LShift b pos) (dOp (hInt powOk fun i j => i * 2 ^ j.toNat) fa fb) := ae_op2 (pe_op op_shl ha.pe hb.pe) (hs_int fun i j h => by
  unfold powOk at h
  rw [Bool.and_eq_true, Bool.and_eq_true] at h
  exact ⟨of_decide_eq_true h.1.1, of_decide_eq_true h.1.2, of_decide_eq_true h.2⟩)
theorem ae_shr (ha : AE X E a fa) (hb : AE X E b fb) : AE X E (.BinOp a .RShift b pos) (dOp (hInt (fun _ j => decide (0 ≤ j)) fun i j => i / 2 ^ j.toNat) fa fb) := ae_op2 (pe_op op_shr ha.pe hb.pe) (hs_int fun i j h => of_decide_eq_true h)
theorem ae_band (ha : AE X E a fa) (hb : AE X E b fb) : AE X E (.BinOp a .BitAnd b pos) (dOp (hInt yes2 Builtin.bitAnd) fa fb) := ae_op2 (pe_op (rI_of op_and) ha.pe hb.pe) (hs_int fun _ _ _ => trivial)

/-- an int that is no great one -/
def mid (i : Int) : Bool := decide (i.natAbs ≤ 1000000000000)
theorem mid_ {i : Int} (h : mid i = true) : -(2 ^ 62) < i ∧ i < 2 ^ 62 := by
  have h := of_decide_eq_true h
  omega
/-- a * b: ints, a list times an int -/
def hMul : D → D → Sto → Res D
  | .int i, .int j, l => if mulOk i j then .ok (.int (i * j)) l else .bad
  | .adr n, .int k, l => match l[n]? with
    | some (.lst xs) => if small (xs.length * k.toNat) && mid k then .ok (.adr l.length) (l ++ [.lst (List.replicate k.toNat xs).flatten]) else .bad
    | _ => .bad
  | _, _, _ => .bad
def rMulA : R2 := fun x y H Q => rI CMulW (fun i j => .int (i * j)) x y H Q ∨ rRep x y H Q
theorem op_mulA : OpR X (binaryOp .Mult) rMulA := OpR.or op_mulW op_rep
theorem hs_mul : OpS X.K E rMulA hMul := fun ρ l H dx dy x y Q o rx ry p => by
  cases dx with
  | int i =>
    cases dy with
    | int j =>
      obtain ⟨h, p⟩ := Post.ite p
      rw [rx.int_, ry.int_]
      exact .inl ⟨i, j, rfl, rfl, (by unfold CMulW; exact of_decide_eq_true h), p.here o rw_int⟩
    | _ => exact p.elim
  | adr n =>
    cases dy with
    | int k =>
      simp only [hMul] at p
      split at p
      · rename_i xs e1
        obtain ⟨hc, p⟩ := Post.ite p
        rw [Bool.and_eq_true] at hc
        obtain ⟨a, vs, rfl, _, h1, r1⟩ := o.lst rx e1
        rw [ry.int_]
        have b1 := (mid_ hc.2).2
        have b2 := (mid_ hc.2).1
        exact .inr ⟨a, k, vs, rfl, rfl, h1, by omega, by omega, by rw [r1.length]; exact small_le hc.1, fun q hq => Post.mkL o (r1.rep _) p hq⟩
      · exact p.elim
    | _ => exact p.elim
  | _ => exact p.elim
theorem ae_mul (ha : AE X E a fa) (hb : AE X E b fb) : AE X E (.BinOp a .Mult b pos) (dOp hMul fa fb) := ae_op2 (pe_op op_mulA ha.pe hb.pe) hs_mul

/-! ### one operand -/
def dUn (h : D → Sto → Res D) (fa : DE) : DE := fun g l => (fa g l).bind fun x l1 => h x l1
def hNeg : D → Sto → Res D
  | .int i, l => .ok (.int (-i)) l
  | _, _ => .bad
theorem ae_neg (ha : AE X E a fa) : AE X E (.UnaryOp .USub a pos) (dUn hNeg fa) := ⟨PE.imp (pe_un un_neg ha.pe) fun σ H Q ⟨ρ, l, g, o, s, p⟩ => by
  refine ⟨ρ, l, g, o, s, Post.bind p fun x l1 ρ1 H1 v e1 s1 o1 r1 p1 => ?_⟩
  cases x with
  | int i => rw [r1.int_]; exact ⟨i, rfl, p1.here o1 rw_int⟩
  | _ => exact p1.elim⟩
end
end Zb

set_option Elab.async false
set_option linter.all false
set_option maxRecDepth 100000
namespace Zb
open PySem L2
/-! ### data as data -/
mutual
def py : D → PyData
  | .non => .none | .bl b => .bool b | .int i => .int i | .str s => .str s | .ty _ => .none | .adr _ => .none | .ro _ => .none
  | .tup ds => .tuple (pys ds)
def pys : List D → List PyData
  | [] => []
  | d :: ds => py d :: pys ds
end
mutual
def pu : D → Bool
  | .ty _ => false | .adr _ => false | .ro _ => false | .tup ds => pus ds | _ => true
def pus : List D → Bool
  | [] => true
  | d :: ds => pu d && pus ds
end
def sh (d : D) : Bool := pu d && SeqAt.shaped (py d)
mutual
theorem dp_of {K : PySem.W.Frag} {ρ : List Addr} {H : Hp} : ∀ (d : D) (v : V), pu d = true → Rw K ρ H d v → Dp K H v (py d)
  | .non, v, _, r => by rw [r.non_]; exact .non
  | .bl b, v, _, r => by rw [r.bl_]; exact .bl b
  | .int b, v, _, r => by rw [r.int_]; exact .int b
  | .str b, v, _, r => by rw [r.str_]; exact .str b
  | .ty _, _, h, _ => by simp [pu] at h
  | .adr _, _, h, _ => by simp [pu] at h
  | .ro _, _, h, _ => by simp [pu] at h
  | .tup ds, v, h, r => by
    obtain ⟨a, vs, rfl, t, q⟩ := r.tup_
    exact .tup t (dps_of ds vs (by simpa [pu] using h) q)
theorem dps_of {K : PySem.W.Frag} {ρ : List Addr} {H : Hp} : ∀ (ds : List D) (vs : List V), pus ds = true → Rws K ρ H ds vs → DpAll K H vs (pys ds)
  | [], vs, _, r => by simp only [Rws] at r; subst r; exact .nil
  | d :: ds, vs, h, r => by
    simp only [Rws] at r
    obtain ⟨v, u, rfl, r1, r2⟩ := r
    simp only [pus, Bool.and_eq_true] at h
    exact .cons (dp_of d v h.1 r1) (dps_of ds u h.2 r2)
end
def fv : D → V
  | .non => .non | .bl b => .bl b | .int i => .int i | .str s => .str s | .ty n => .ty n | _ => .ref 0
def flatD : D → Bool
  | .non => true | .bl _ => true | .int _ => true | .str _ => true | _ => false
section
variable {K : PySem.W.Frag} {ρ : List Addr} {H : Hp}
theorem fv_of {d : D} {v : V} (h : flatD d = true) (r : Rw K ρ H d v) : v = fv d ∧ flatV v = true := by
  cases d with
  | non => rw [r.non_]; exact ⟨rfl, rfl⟩
  | bl b => rw [r.bl_]; exact ⟨rfl, rfl⟩
  | int b => rw [r.int_]; exact ⟨rfl, rfl⟩
  | str b => rw [r.str_]; exact ⟨rfl, rfl⟩
  | _ => cases h
theorem fvs_of : ∀ {ds : List D} {vs : List V}, ds.all flatD = true → Rws K ρ H ds vs → vs = ds.map fv ∧ vs.all flatV = true
  | [], vs, _, r => by simp only [Rws] at r; subst r; exact ⟨rfl, rfl⟩
  | d :: ds, vs, h, r => by
    simp only [Rws] at r
    obtain ⟨v, u, rfl, r1, r2⟩ := r
    rw [List.all_cons, Bool.and_eq_true] at h
    obtain ⟨e1, e2⟩ := fv_of h.1 r1
    obtain ⟨e3, e4⟩ := fvs_of h.2 r2
    exact ⟨by rw [e1, e3]; rfl, by rw [List.all_cons, e2, e4]; rfl⟩
end
def hEq : D → D → Sto → Res D
  | .int i, .int j, l => .ok (.bl (decide (i = j))) l
  | .str i, .str j, l => .ok (.bl (decide (i = j))) l
  | .bl i, .bl j, l => .ok (.bl (decide (i = j))) l
  | dx, dy, l => if sh dx && sh dy then .ok (.bl (PyData.eqv (py dx) (py dy))) l else .bad
def hNe : D → D → Sto → Res D
  | .int i, .int j, l => .ok (.bl (!decide (i = j))) l
  | .str i, .str j, l => .ok (.bl (!decide (i = j))) l
  | .bl i, .bl j, l => .ok (.bl (!decide (i = j))) l
  | dx, dy, l => if sh dx && sh dy then .ok (.bl (!PyData.eqv (py dx) (py dy))) l else .bad
section
variable {X : Cx} {E : XK} {a b c e : Expr} {es : List Expr} {fa fb fc f : DE} {fs : DEs} {ba bb : DB} {pos : Pos} {rest : List Expr}
def rEqA (K : PySem.W.Frag) : R2 := fun x y H Q => rEq x y H Q ∨ rEqD K x y H Q
def rNeA (K : PySem.W.Frag) : R2 := fun x y H Q => rNe x y H Q ∨ rNeD K x y H Q
theorem deep_of {K : PySem.W.Frag} {ρ : List Addr} {H : Hp} {dx dy : D} {x y : V} (hc : (sh dx && sh dy) = true) (rx : Rw K ρ H dx x) (ry : Rw K ρ H dy y) :
    Dp K H x (py dx) ∧ Dp K H y (py dy) ∧ SeqAt.shaped (py dx) = true ∧ SeqAt.shaped (py dy) = true := by
  simp only [sh, Bool.and_eq_true] at hc
  exact ⟨dp_of dx x hc.1.1 rx, dp_of dy y hc.2.1 ry, hc.1.2, hc.2.2⟩
theorem dc_int {i j : Int} : decide (V.int i = V.int j) = decide (i = j) := by simp
theorem dc_str {i j : Str} : decide (V.str i = V.str j) = decide (i = j) := by simp
theorem dc_bl {i j : Bool} : decide (V.bl i = V.bl j) = decide (i = j) := by simp
theorem hs_eq : OpS X.K E (rEqA X.K) hEq := fun ρ l H dx dy x y Q o rx ry p => by
  unfold hEq at p
  split at p
  · rw [rx.int_, ry.int_]
    refine .inl ⟨rfl, ?_⟩
    rw [dc_int]
    exact p.here o rw_bl
  · rw [rx.str_, ry.str_]
    refine .inl ⟨rfl, ?_⟩
    rw [dc_str]
    exact p.here o rw_bl
  · rw [rx.bl_, ry.bl_]
    refine .inl ⟨rfl, ?_⟩
    rw [dc_bl]
    exact p.here o rw_bl
  · obtain ⟨hc, p⟩ := Post.ite p
    obtain ⟨h1, h2, h3, h4⟩ := deep_of hc rx ry
    exact .inr ⟨_, _, h1, h2, h3, h4, p.here o rw_bl⟩
theorem hs_ne : OpS X.K E (rNeA X.K) hNe := fun ρ l H dx dy x y Q o rx ry p => by
  unfold hNe at p
  split at p
  · rw [rx.int_, ry.int_]
    refine .inl ⟨rfl, ?_⟩
    rw [dc_int]
    exact p.here o rw_bl
  · rw [rx.str_, ry.str_]
    refine .inl ⟨rfl, ?_⟩
    rw [dc_str]
    exact p.here o rw_bl
  · rw [rx.bl_, ry.bl_]
    refine .inl ⟨rfl, ?_⟩
    rw [dc_bl]
    exact p.here o rw_bl
  · obtain ⟨hc, p⟩ := Post.ite p
    obtain ⟨h1, h2, h3, h4⟩ := deep_of hc rx ry
    exact .inr ⟨_, _, h1, h2, h3, h4, p.here o rw_bl⟩
theorem ae_eq (hu : X.A.units + 64 < cLine) (ha : AE X E a fa) (hb : AE X E b fb) : AE X E (.Compare a [.Eq] [b] pos) (dOp hEq fa fb) := ae_op2 (pe_cmpR (OpR.or op_eq (op_eqD hu)) ha.pe hb.pe (nomark _)) hs_eq
theorem ae_ne (hu : X.A.units + 64 < cLine) (ha : AE X E a fa) (hb : AE X E b fb) : AE X E (.Compare a [.NotEq] [b] pos) (dOp hNe fa fb) := ae_op2 (pe_cmpR (OpR.or op_ne (op_neD hu)) ha.pe hb.pe (nomark _)) hs_ne
def hCmp (f : Int → Int → Bool) : D → D → Sto → Res D
  | .int i, .int j, l => .ok (.bl (f i j)) l
  | _, _, _ => .bad
theorem hs_cmp {f : Int → Int → Bool} : OpS X.K E (rI0 fun i j => .bl (f i j)) (hCmp f) := fun ρ l H dx dy x y Q o rx ry p => by
  unfold hCmp at p
  split at p
  · rw [rx.int_, ry.int_]
    exact ⟨_, _, rfl, rfl, p.here o rw_bl⟩
  · exact p.elim
theorem ae_lt (ha : AE X E a fa) (hb : AE X E b fb) : AE X E (.Compare a [.Lt] [b] pos) (dOp (hCmp fun i j => decide (i < j)) fa fb) := ae_op2 (pe_cmpR op_lt ha.pe hb.pe (nomark _)) hs_cmp
theorem ae_le (ha : AE X E a fa) (hb : AE X E b fb) : AE X E (.Compare a [.LtE] [b] pos) (dOp (hCmp fun i j => decide (i ≤ j)) fa fb) := ae_op2 (pe_cmpR op_le ha.pe hb.pe (nomark _)) hs_cmp
theorem ae_gt (ha : AE X E a fa) (hb : AE X E b fb) : AE X E (.Compare a [.Gt] [b] pos) (dOp (hCmp fun i j => decide (j < i)) fa fb) := ae_op2 (pe_cmpR op_gt ha.pe hb.pe (nomark _)) hs_cmp
theorem ae_ge (ha : AE X E a fa) (hb : AE X E b fb) : AE X E (.Compare a [.GtE] [b] pos) (dOp (hCmp fun i j => decide (j ≤ i)) fa fb) := ae_op2 (pe_cmpR op_ge ha.pe hb.pe (nomark _)) hs_cmp
/-- is None -/
def isN : D → Bool
  | .non => true | _ => false
def hIsN : D → D → Sto → Res D
  | x, .non, l => .ok (.bl (isN x)) l
  | _, _, _ => .bad
def hNotN : D → D → Sto → Res D
  | x, .non, l => .ok (.bl (!isN x)) l
  | _, _, _ => .bad
theorem isN_of {K : PySem.W.Frag} {ρ : List Addr} {H : Hp} {d : D} {v : V} (r : Rw K ρ H d v) : decide (v = .non) = isN d := by
  cases d with
  | non => rw [r.non_]; rfl
  | bl b => rw [r.bl_]; rfl
  | int b => rw [r.int_]; rfl
  | str b => rw [r.str_]; rfl
  | ty b => rw [r.ty_]; rfl
  | adr n => simp only [Rw] at r; obtain ⟨a, _, rfl⟩ := r; rfl
  | ro n => simp only [Rw] at r; obtain ⟨a, rfl, _⟩ := r; rfl
  | tup ds => obtain ⟨a, _, rfl, _⟩ := r.tup_; rfl
theorem ae_isN (ha : AE X E a fa) (hb : AE X E b fb) : AE X E (.Compare a [.Is] [b] pos) (dOp hIsN fa fb) := ae_op2 (pe_cmpR op_isN ha.pe hb.pe (nomark _)) fun ρ l H dx dy x y Q o rx ry p => by
  unfold hIsN at p
  split at p
  · rw [ry.non_]
    exact ⟨rfl, by rw [isN_of rx]; exact p.here o rw_bl⟩
  · exact p.elim
theorem ae_notN (ha : AE X E a fa) (hb : AE X E b fb) : AE X E (.Compare a [.IsNot] [b] pos) (dOp hNotN fa fb) := ae_op2 (pe_cmpR op_notN ha.pe hb.pe (nomark _)) fun ρ l H dx dy x y Q o rx ry p => by
  unfold hNotN at p
  split at p
  · rw [ry.non_]
    exact ⟨rfl, by rw [isN_of rx]; exact p.here o rw_bl⟩
  · exact p.elim
/-- in, not in: of flat things in a list, a tuple -/
def itemsOf (y : D) (l : Sto) : Option (List D) := match y with
  | .tup ds => some ds
  | .adr n => match l[n]? with
    | some (.lst ds) => some ds
    | _ => none
  | _ => none
def hIn (neg : Bool) (x y : D) (l : Sto) : Res D := match itemsOf y l with
  | some ds => if flatD x && ds.all flatD then .ok (.bl (if neg then !inV (fv x) (ds.map fv) else inV (fv x) (ds.map fv))) l else .bad
  | none => .bad
theorem items_of {K : PySem.W.Frag} {ρ : List Addr} {H : Hp} {l : Sto} {d : D} {v : V} {ds : List D} (o : Own K ρ l H) (r : Rw K ρ H d v) (h : itemsOf d l = some ds) :
    ∃ p vs, v = .ref p ∧ (SqL K H p vs ∨ SqT K H p vs) ∧ Rws K ρ H ds vs := by
  cases d with
  | tup es =>
    have e : es = ds := Option.some.inj h
    subst e
    obtain ⟨a, vs, rfl, t, q⟩ := r.tup_
    exact ⟨a, vs, rfl, .inr t, q⟩
  | adr n =>
    unfold itemsOf at h
    simp only at h
    split at h
    · rename_i es e1
      cases h
      obtain ⟨a, vs, rfl, _, h1, r1⟩ := o.lst r e1
      exact ⟨a, vs, rfl, .inl (SqL.of h1), r1⟩
    · cases h
  | _ => cases h
theorem hs_in {neg : Bool} : OpS X.K E (rIn X.K neg) (hIn neg) := fun ρ l H dx dy x y Q o rx ry p => by
  unfold hIn at p
  split at p
  · rename_i ds e
    obtain ⟨hc, p⟩ := Post.ite p
    rw [Bool.and_eq_true] at hc
    obtain ⟨a, vs, rfl, sq, r⟩ := items_of o ry e
    obtain ⟨e1, e2⟩ := fv_of hc.1 rx
    obtain ⟨e3, e4⟩ := fvs_of hc.2 r
    refine ⟨a, vs, rfl, sq, e2, e4, ?_⟩
    rw [e1, e3]
    exact p.here o rw_bl
  · exact p.elim
theorem ae_in (ha : AE X E a fa) (hb : AE X E b fb) (hm : behindInMarks .In b = false := by rfl) : AE X E (.Compare a [.In] [b] pos) (dOp (hIn false) fa fb) := ae_op2 (pe_cmpR op_in_seq ha.pe hb.pe hm) hs_in
theorem ae_notIn (ha : AE X E a fa) (hb : AE X E b fb) (hm : behindInMarks .NotIn b = false := by rfl) : AE X E (.Compare a [.NotIn] [b] pos) (dOp (hIn true) fa fb) := ae_op2 (pe_cmpR op_notIn_seq ha.pe hb.pe hm) hs_in

/-! ### truth -/
def tru : D → Sto → Option Bool
  | .non, _ => some false
  | .bl b, _ => some b
  | .int i, _ => some (i != 0)
  | .str y, _ => if small y.length then some ((y.length : Int) != 0) else none
  | .tup ds, _ => some (!ds.isEmpty)
  | .adr n, l => match l[n]? with
    | some (.lst ds) => some (!ds.isEmpty)
    | _ => none
  | _, _ => none
theorem emp_of {K : PySem.W.Frag} {ρ : List Addr} {H : Hp} {ds : List D} {vs : List V} (r : Rws K ρ H ds vs) : vs.isEmpty = ds.isEmpty := by
  have := r.length
  cases vs <;> cases ds <;> simp_all
theorem tru_of {K : PySem.W.Frag} {ρ : List Addr} {H : Hp} {l : Sto} {d : D} {v : V} {k : Bool} (o : Own K ρ l H) (r : Rw K ρ H d v) (h : tru d l = some k) : TruV K v H k := by
  cases d with
  | non => rw [r.non_]; exact (Option.some.inj h).symm
  | bl b => rw [r.bl_]; exact (Option.some.inj h).symm
  | int b => rw [r.int_]; exact (Option.some.inj h).symm
  | str b =>
    rw [r.str_]
    simp only [tru] at h
    split at h
    · rename_i hs; exact ⟨small_le hs, (Option.some.inj h).symm⟩
    · cases h
  | ty b => cases h
  | ro b => cases h
  | adr n =>
    simp only [tru] at h
    split at h
    · rename_i es e1
      obtain ⟨a, vs, rfl, _, h1, r1⟩ := o.lst r e1
      exact .inl ⟨vs, SqL.of h1, by rw [emp_of r1]; exact (Option.some.inj h).symm⟩
    · cases h
  | tup ds =>
    obtain ⟨a, vs, rfl, t, q⟩ := r.tup_
    exact .inr (.inl ⟨vs, t, by rw [emp_of q]; exact (Option.some.inj h).symm⟩)
def dTru (f : DE) : DB := fun g l => (f g l).bind fun d l1 => match tru d l1 with
  | some k => .ok k l1
  | none => .bad
theorem at_val (h : AE X E e f) (he : ∀ whole, isTrue e X.env whole = (do let v ← whole; standAt e.pos; holding [v] (truthy v)) := by intro _; rfl) : AT X E e (dTru f) := ⟨PT.imp (pt_truth h.pe he) fun σ H Q ⟨ρ, l, g, o, s, p⟩ => by
  refine ⟨ρ, l, g, o, s, Post.bind p fun x l1 ρ1 H1 v e1 s1 o1 r1 p1 => ?_⟩
  split at p1
  · rename_i k hk
    exact ⟨k, tru_of o1 r1 hk, p1.here o1 rfl⟩
  · exact p1.elim⟩
/-- and, or, not as tests -/
structure AW (X : Cx) (E : XK) (e : Expr) (f : DB) : Prop where
  pw : PW X e (ttOf X.K E f)
theorem PW.imp {X : Cx} {e : Expr} {t u : TT} (h : PW X e t) (q : ∀ σ H Q, u σ H Q → t σ H Q) : PW X e u := ⟨fun wh pins s σ H Q I k => h.run wh pins s σ H Q I (q σ H Q k)⟩
def dAnd (f h : DB) : DB := fun g l => (f g l).bind fun b l1 => if b = true then h g l1 else .ok false l1
def dOr (f h : DB) : DB := fun g l => (f g l).bind fun b l1 => if b = true then .ok true l1 else h g l1
def dNot (f : DB) : DB := fun g l => (f g l).bind fun b l1 => .ok (!b) l1
theorem aw_and1 (h : AT X E a ba) : AW X E (.BoolOp .And [a] pos) ba := ⟨pw_and1 h.pt⟩
theorem aw_or1 (h : AT X E a ba) : AW X E (.BoolOp .Or [a] pos) ba := ⟨pw_or1 h.pt⟩
theorem aw_and (h : AT X E a ba) (k : AW X E (.BoolOp .And (b :: rest) pos) bb) : AW X E (.BoolOp .And (a :: b :: rest) pos) (dAnd ba bb) := ⟨PW.imp (pw_and h.pt k.pw) fun σ H Q ⟨ρ, l, g, o, s, p⟩ => by
  refine ⟨ρ, l, g, o, s, Post.bind p fun x l1 ρ1 H1 v e1 s1 o1 r1 p1 => ?_⟩
  cases r1
  cases x with
  | true => exact ⟨ρ1, l1, g, o1, s.step s1 o, p1⟩
  | false => exact p1.here o1 rfl⟩
theorem aw_or (h : AT X E a ba) (k : AW X E (.BoolOp .Or (b :: rest) pos) bb) : AW X E (.BoolOp .Or (a :: b :: rest) pos) (dOr ba bb) := ⟨PW.imp (pw_or h.pt k.pw) fun σ H Q ⟨ρ, l, g, o, s, p⟩ => by
  refine ⟨ρ, l, g, o, s, Post.bind p fun x l1 ρ1 H1 v e1 s1 o1 r1 p1 => ?_⟩
  cases r1
  cases x with
  | false => exact ⟨ρ1, l1, g, o1, s.step s1 o, p1⟩
  | true => exact p1.here o1 rfl⟩
theorem at_w (h : AW X E e ba) : AT X E e ba := ⟨h.pw.pt⟩
theorem at_not (h : AT X E a ba) : AT X E (.UnaryOp .Not a pos) (dNot ba) := ⟨PT.imp (pt_not h.pt) fun σ H Q ⟨ρ, l, g, o, s, p⟩ => by
  refine ⟨ρ, l, g, o, s, Post.bind p fun x l1 ρ1 H1 v e1 s1 o1 r1 p1 => ?_⟩
  cases r1
  exact p1.here o1 rfl⟩
/-- .. as values -/
def dIfE (c : DB) (f h : DE) : DE := fun g l => (c g l).bind fun b l1 => if b = true then f g l1 else h g l1
theorem ae_if (h : AT X E c ba) (h1 : AE X E a fa) (h2 : AE X E b fb) : AE X E (.IfExp c a b pos) (dIfE ba fa fb) := ⟨PE.imp (pe_ifExp h.pt h1.pe h2.pe) fun σ H Q ⟨ρ, l, g, o, s, p⟩ => by
  refine ⟨ρ, l, g, o, s, Post.bind p fun x l1 ρ1 H1 v e1 s1 o1 r1 p1 => ?_⟩
  cases r1
  cases x with
  | false => exact ⟨ρ1, l1, g, o1, s.step s1 o, p1⟩
  | true => exact ⟨ρ1, l1, g, o1, s.step s1 o, p1⟩⟩
def dAndV (f h : DE) : DE := fun g l => (f g l).bind fun b l1 => match b with
  | .bl true => h g l1
  | .bl false => .ok (.bl false) l1
  | _ => .bad
def dOrV (f h : DE) : DE := fun g l => (f g l).bind fun b l1 => match b with
  | .bl false => h g l1
  | .bl true => .ok (.bl true) l1
  | _ => .bad
theorem ae_one {op} (h : AE X E a fa) : AE X E (.BoolOp op [a] pos) fa := ⟨pe_one h.pe⟩
theorem ae_and (h : AE X E a fa) (k : AE X E (.BoolOp .And (b :: rest) pos) fb) : AE X E (.BoolOp .And (a :: b :: rest) pos) (dAndV fa fb) := ⟨PE.imp (pe_and h.pe k.pe) fun σ H Q ⟨ρ, l, g, o, s, p⟩ => by
  refine ⟨ρ, l, g, o, s, Post.bind p fun x l1 ρ1 H1 v e1 s1 o1 r1 p1 => ?_⟩
  split at p1
  · rw [r1.bl_]; exact ⟨true, rfl, ⟨ρ1, l1, g, o1, s.step s1 o, p1⟩⟩
  · rw [r1.bl_]; exact ⟨false, rfl, p1.here o1 rw_bl⟩
  · exact p1.elim⟩
theorem ae_or (h : AE X E a fa) (k : AE X E (.BoolOp .Or (b :: rest) pos) fb) : AE X E (.BoolOp .Or (a :: b :: rest) pos) (dOrV fa fb) := ⟨PE.imp (pe_or h.pe k.pe) fun σ H Q ⟨ρ, l, g, o, s, p⟩ => by
  refine ⟨ρ, l, g, o, s, Post.bind p fun x l1 ρ1 H1 v e1 s1 o1 r1 p1 => ?_⟩
  split at p1
  · rw [r1.bl_]; exact ⟨false, rfl, ⟨ρ1, l1, g, o1, s.step s1 o, p1⟩⟩
  · rw [r1.bl_]; exact ⟨true, rfl, p1.here o1 rw_bl⟩
  · exact p1.elim⟩
def dNotV (f : DE) : DE := fun g l => (f g l).bind fun b l1 => match b with
  | .bl k => .ok (.bl (!k)) l1
  | _ => .bad
theorem ae_not (h : AE X E a fa) : AE X E (.UnaryOp .Not a pos) (dNotV fa) := ⟨PE.imp (pe_not h.pe) fun σ H Q ⟨ρ, l, g, o, s, p⟩ => by
  refine ⟨ρ, l, g, o, s, Post.bind p fun x l1 ρ1 H1 v e1 s1 o1 r1 p1 => ?_⟩
  split at p1
  · rw [r1.bl_]; exact ⟨_, rfl, p1.here o1 rw_bl⟩
  · exact p1.elim⟩
/-- a < b < c -/
def dChain (h1 h2 : D → D → Sto → Res D) (fa fb fc : DE) : DE := fun g l => (fa g l).bind fun x l1 => (fb g l1).bind fun y l2 => (h1 x y l2).bind fun z l3 => match z with
  | .bl true => (fc g l3).bind fun w l4 => h2 y w l4
  | .bl false => .ok (.bl false) l3
  | _ => .bad
theorem chain_of {K : PySem.W.Frag} {r r' : R2} {h1 h2 : D → D → Sto → Res D} (s1 : OpS K E r h1) (s2 : OpS K E r' h2) {σ H Q} (h : teOf K E (dChain h1 h2 fa fb fc) σ H Q) : tChain r r' (teOf K E fa) (teOf K E fb) (teOf K E fc) σ H Q := by
  obtain ⟨ρ, l, g, o, s, p⟩ := h
  refine ⟨ρ, l, g, o, s, Post.bind p fun x l1 ρ1 H1 v e1 st1 o1 r1 p1 => ?_⟩
  refine ⟨ρ1, l1, g, o1, s.step st1 o, Post.bind p1 fun y l2 ρ2 H2 u e2 st2 o2 r2 p2 => ?_⟩
  refine s1 ρ2 l2 H2 x y v u _ o2 (st2.rw o1 r1) r2 (Post.bind p2 fun z l3 ρ3 H3 zv e3 st3 o3 r3 p3 => ?_)
  have s2' := (s.step st1 o).step st2 o1
  split at p3
  · rw [r3.bl_]
    refine ⟨true, rfl, ?_⟩
    refine ⟨ρ3, l3, g, o3, s2'.step st3 o2, Post.bind p3 fun w l4 ρ4 H4 wv e4 st4 o4 r4 p4 => ?_⟩
    exact s2 ρ4 l4 H4 y w u wv Q o4 (st4.rw o3 (st3.rw o2 r2)) r4 p4
  · rw [r3.bl_]
    exact ⟨false, rfl, p3.here o3 rw_bl⟩
  · exact p3.elim
theorem ae_chain {op op' : CmpOp} {r r' : R2} {h1 h2 : D → D → Sto → Res D} (ho : OpR X (compareOp op) r) (ho' : OpR X (compareOp op') r') (s1 : OpS X.K E r h1) (s2 : OpS X.K E r' h2) (ha : AE X E a fa) (hb : AE X E b fb) (hc : AE X E c fc) (hm : lastMarks [op, op'] [b, c] = false := by rfl) :
    AE X E (.Compare a [op, op'] [b, c] pos) (dChain h1 h2 fa fb fc) := ⟨PE.imp (pe_chain ho ho' ha.pe hb.pe hc.pe hm) fun σ H Q h => chain_of s1 s2 h⟩
end
end Zb

set_option Elab.async false
set_option linter.all false
set_option maxRecDepth 100000
namespace Zb
open PySem L2
section
variable {X : Cx} {E : XK} {a b c e : Expr} {es : List Expr} {fa fb fc f : DE} {fs : DEs} {ba bb : DB} {pos p2 : Pos} {rest : List Expr}
/-! ### subscripts -/
def okO (o : Option D) (l : Sto) : Res D := match o with
  | some d => .ok d l
  | none => .bad
def hIx : D → D → Sto → Res D
  | .tup ds, .int i, l => okO (atI ds i) l
  | .adr n, .int i, l => match l[n]? with
    | some (.lst ds) => okO (atI ds i) l
    | _ => .bad
  | .str z, .int i, l => if small z.length then okO ((atI z.cps.toList i).map fun c => .str ⟨#[c]⟩) l else .bad
  | _, _, _ => .bad
theorem at_rws {K : PySem.W.Frag} {ρ : List Addr} {H : Hp} {ds : List D} {vs : List V} {i : Int} {d : D} (r : Rws K ρ H ds vs) (h : atI ds i = some d) : ∃ v, atI vs i = some v ∧ Rw K ρ H d v := by
  unfold atI at h ⊢
  rw [r.length]
  cases q : ixN ds.length i with
  | none => rw [q] at h; cases h
  | some j =>
    rw [q] at h
    exact r.get h
theorem Post.okO_ {K : PySem.W.Frag} {ρ : List Addr} {l : Sto} {H : Hp} {o : Option D} {Q : VK} (h : Post K E ρ H (rD K) (okO o l) Q) : ∃ d, o = some d ∧ Post K E ρ H (rD K) (.ok d l) Q := by
  cases o with
  | none => exact h.elim
  | some d => exact ⟨d, rfl, h⟩
theorem hs_ix : OpS X.K E (rIx X.K) hIx := fun ρ l H dx dy x y Q o rx ry p => by
  unfold hIx at p
  split at p
  · obtain ⟨d, e, p⟩ := p.okO_
    obtain ⟨q, vs, rfl, t, r⟩ := rx.tup_
    obtain ⟨v, e2, r2⟩ := at_rws r e
    rw [ry.int_]
    exact .inr (.inl ⟨q, vs, _, v, rfl, rfl, t, e2, p.here o r2⟩)
  · split at p
    · rename_i es e1
      obtain ⟨d, e, p⟩ := p.okO_
      obtain ⟨q, vs, rfl, _, h1, r⟩ := o.lst rx e1
      obtain ⟨v, e2, r2⟩ := at_rws r e
      rw [ry.int_]
      exact .inl ⟨q, vs, _, v, rfl, rfl, SqL.of h1, e2, p.here o r2⟩
    · exact p.elim
  · rename_i z i
    obtain ⟨hc, p⟩ := Post.ite p
    obtain ⟨d, e, p⟩ := p.okO_
    cases q : atI z.cps.toList i with
    | none => rw [q] at e; cases e
    | some c =>
      rw [q] at e
      cases e
      rw [rx.str_, ry.int_]
      exact .inr (.inr ⟨z, i, c, rfl, rfl, small_le hc, q, p.here o rw_str⟩)
  · exact p.elim
theorem ae_ix (ha : AE X E a fa) (hb : AE X E b fb) (hs : PlainIx b := by intro _ _; rfl) : AE X E (.Subscript a b pos) (dOp hIx fa fb) := ae_op2 (pe_ix ix_seq ha.pe hb.pe hs) hs_ix

/-! ### slices -/
def cutG {α : Type} (xs : List α) (lo hi : Option Int) : List α := (xs.drop (HT.sIx xs.length 0 lo)).take (HT.sIx xs.length xs.length hi - HT.sIx xs.length 0 lo)
theorem cut_rws {K : PySem.W.Frag} {ρ : List Addr} {H : Hp} {ds : List D} {vs : List V} (r : Rws K ρ H ds vs) (lo hi : Option Int) : Rws K ρ H (cutG ds lo hi) (cutV vs lo hi) := by
  unfold cutG cutV
  rw [r.length]
  exact (r.drop _).take _
theorem cut_map {α : Type} (g : Int → α) (ns : List Int) (lo hi : Option Int) : (cutG ns lo hi).map g = cutG (ns.map g) lo hi := by
  unfold cutG
  rw [List.length_map, List.map_take, List.map_drop]
theorem rws_ints {K : PySem.W.Frag} {ρ : List Addr} {H : Hp} : ∀ ns : List Int, Rws K ρ H (ns.map D.int) (ns.map V.int)
  | [] => Rws.nil
  | n :: ns => Rws.cons rw_int (rws_ints ns)
def hSl : D → Option Int → Option Int → Sto → Res D
  | .tup ds, lo, hi, l => .ok (.tup (cutG ds lo hi)) l
  | .adr n, lo, hi, l => match l[n]? with
    | some (.lst ds) => .ok (.adr l.length) (l ++ [.lst (cutG ds lo hi)])
    | _ => .bad
  | .ro ns, lo, hi, l => .ok (.adr l.length) (l ++ [.lst ((cutG ns lo hi).map D.int)])
  | _, _, _, _ => .bad
def rSlZ (K : PySem.W.Frag) : V → Option Int → Option Int → Hp → VK → Prop := fun x lo hi H Q => rSlL K x lo hi H Q ∨ rSlA K x lo hi H Q
theorem sl_any : SlR X (rSlZ X.K) := SlR.or sl_list sl_tupA
theorem whole_cut {α : Type} {xs : List α} {lo hi : Option Int} (h : HT.sIx xs.length 0 lo = 0 ∧ HT.sIx xs.length xs.length hi = xs.length) : cutG xs lo hi = xs := by
  unfold cutG
  rw [h.1, h.2]; simp
theorem sl_ok {K : PySem.W.Frag} {ρ : List Addr} {l : Sto} {H : Hp} {d : D} {x : V} {lo hi : Option Int} {Q : VK} (o : Own K ρ l H) (r : Rw K ρ H d x) (p : Post K E ρ H (rD K) (hSl d lo hi l) Q) : rSlZ K x lo hi H Q := by
  unfold hSl at p
  split at p
  · obtain ⟨a, vs, rfl, t, q⟩ := r.tup_
    refine .inr ⟨a, vs, rfl, t, fun e => ?_, fun _ z hz => Post.mkT o (cut_rws q _ _) p hz⟩
    rw [q.length] at e
    rw [whole_cut e] at p
    exact p.here o r
  · split at p
    · rename_i es e1
      obtain ⟨a, vs, rfl, _, h1, q⟩ := o.lst r e1
      exact .inl ⟨a, vs, rfl, SqL.of h1, fun z hz => Post.mkL o (cut_rws q _ _) p hz⟩
    · exact p.elim
  · simp only [Rw] at r
    obtain ⟨a, rfl, sq⟩ := r
    refine .inl ⟨a, _, rfl, sq.sq, fun z hz => ?_⟩
    rw [cut_map] at p
    exact Post.mkL o (cut_rws (rws_ints _) _ _) p hz
  · exact p.elim
structure AO (X : Cx) (E : XK) (e : Option Expr) (f : DO) : Prop where
  po : PO X e (toOf X.K E f)
def dONone : DO := fun _ l => .ok none l
def dOSome (f : DE) : DO := fun g l => (f g l).bind fun d l1 => match d with
  | .int i => .ok (some i) l1
  | _ => .bad
theorem PO.imp {X : Cx} {e : Option Expr} {t u : TO} (h : PO X e t) (q : ∀ σ H Q, u σ H Q → t σ H Q) : PO X e u := ⟨fun pins s σ H Q I k => h.run pins s σ H Q I (q σ H Q k)⟩
theorem ao_none : AO X E none dONone := ⟨PO.imp po_none fun σ H Q ⟨ρ, l, g, o, s, p⟩ => p.here o rfl⟩
theorem ao_some (h : AE X E e f) : AO X E (some e) (dOSome f) := ⟨PO.imp (po_some h.pe) fun σ H Q ⟨ρ, l, g, o, s, p⟩ => by
  refine ⟨ρ, l, g, o, s, Post.bind p fun x l1 ρ1 H1 v e1 s1 o1 r1 p1 => ?_⟩
  split at p1
  · rw [r1.int_]; exact ⟨_, rfl, p1.here o1 rfl⟩
  · exact p1.elim⟩
def dSl (f : DE) (lo hi : DO) : DE := fun g l => (f g l).bind fun d l1 => (lo g l1).bind fun i l2 => (hi g l2).bind fun j l3 => hSl d i j l3
theorem ae_sl {lo hi : Option Expr} {fl fh : DO} (he : AE X E e f) (hl : AO X E lo fl) (hh : AO X E hi fh) : AE X E (.Subscript e (.Slice lo hi none p2) pos) (dSl f fl fh) := ⟨PE.imp (pe_slice sl_any he.pe hl.po hh.po) fun σ H Q ⟨ρ, l, g, o, s, p⟩ => by
  refine ⟨ρ, l, g, o, s, Post.bind p fun x l1 ρ1 H1 v e1 s1 o1 r1 p1 => ?_⟩
  refine ⟨ρ1, l1, g, o1, s.step s1 o, Post.bind p1 fun y l2 ρ2 H2 u e2 s2 o2 r2 p2 => ?_⟩
  cases r2
  refine ⟨ρ2, l2, g, o2, (s.step s1 o).step s2 o1, Post.bind p2 fun z l3 ρ3 H3 w e3 s3 o3 r3 p3 => ?_⟩
  cases r3
  exact sl_ok o3 (s3.rw o2 (s2.rw o1 r1)) p3⟩
/-- xs[::-1] of a list -/
def hRev : D → Sto → Res D
  | .adr n, l => match l[n]? with
    | some (.lst ds) => .ok (.adr l.length) (l ++ [.lst ds.reverse])
    | _ => .bad
  | _, _ => .bad
theorem ae_rev {k : Nat} {p1 p2 p3 : Pos} (he : AE X E e f) : AE X E (.Subscript e (.Slice none none (some (.UnaryOp .USub (.Constant (.int 1) k p1) p2)) p3) pos) (dUn hRev f) := ⟨PE.imp (pe_revL he.pe) fun σ H Q ⟨ρ, l, g, o, s, p⟩ => by
  refine ⟨ρ, l, g, o, s, Post.bind p fun x l1 ρ1 H1 v e1 s1 o1 r1 p1 => ?_⟩
  unfold hRev at p1
  split at p1
  · split at p1
    · rename_i es e1
      obtain ⟨a, vs, rfl, _, h1, q⟩ := o1.lst r1 e1
      exact ⟨a, vs, rfl, SqL.of h1, fun z hz => Post.mkL o1 q.rev p1 hz⟩
    · exact p1.elim
  · exact p1.elim⟩

/-! ### built-in functions -/
def dCB (h : List D → Sto → Res D) (fs : DEs) : DE := fun g l => (fs g l).bind fun ds l1 => h ds l1
def CbS (K : PySem.W.Frag) (E : XK) (r : List V → Hp → VK → Prop) (h : List D → Sto → Res D) : Prop := ∀ ρ l H ds vs Q, Own K ρ l H → Rws K ρ H ds vs → Post K E ρ H (rD K) (h ds l) Q → r vs H Q
theorem ae_cb {r : List V → Hp → VK → Prop} {h : List D → Sto → Res D} (hp : PE X e (tCB r (taOf X.K E fs))) (hs : CbS X.K E r h) : AE X E e (dCB h fs) := ⟨PE.imp hp fun σ H Q ⟨ρ, l, g, o, s, p⟩ => by
  refine ⟨ρ, l, g, o, s, Post.bind p fun x l1 ρ1 H1 v e1 s1 o1 r1 p1 => ?_⟩
  exact hs ρ1 l1 H1 x v Q o1 r1 p1⟩
theorem Rws.one_ {K : PySem.W.Frag} {ρ : List Addr} {H : Hp} {d : D} {vs : List V} (r : Rws K ρ H [d] vs) : ∃ v, vs = [v] ∧ Rw K ρ H d v := by
  simp only [Rws] at r
  obtain ⟨v, u, rfl, r1, rfl⟩ := r
  exact ⟨v, rfl, r1⟩
theorem Rws.two_ {K : PySem.W.Frag} {ρ : List Addr} {H : Hp} {d d' : D} {vs : List V} (r : Rws K ρ H [d, d'] vs) : ∃ v v', vs = [v, v'] ∧ Rw K ρ H d v ∧ Rw K ρ H d' v' := by
  simp only [Rws] at r
  obtain ⟨v, u, rfl, r1, v', u', rfl, r2, rfl⟩ := r
  exact ⟨v, v', rfl, r1, r2⟩
def hLen : List D → Sto → Res D
  | [.tup ds], l => .ok (.int ds.length) l
  | [.adr n], l => match l[n]? with
    | some (.lst ds) => .ok (.int ds.length) l
    | _ => .bad
  | [.ro ns], l => .ok (.int ns.length) l
  | [.str z], l => if small z.length then .ok (.int z.length) l else .bad
  | _, _ => .bad
theorem cs_len : CbS X.K E (fun xs H Q => ∃ x n, xs = [x] ∧ LenV X.K x H n ∧ Q (.int n) H) hLen := fun ρ l H ds vs Q o r p => by
  unfold hLen at p
  split at p
  · obtain ⟨v, rfl, w1⟩ := r.one_
    obtain ⟨a, us, rfl, t, q⟩ := w1.tup_
    exact ⟨_, _, rfl, .inr ⟨us, t, q.length.symm⟩, p.here o rw_int⟩
  · obtain ⟨v, rfl, w1⟩ := r.one_
    split at p
    · rename_i es e1
      obtain ⟨a, us, rfl, _, h1, q⟩ := o.lst w1 e1
      exact ⟨_, _, rfl, .inl ⟨us, SqL.of h1, q.length.symm⟩, p.here o rw_int⟩
    · exact p.elim
  · obtain ⟨v, rfl, w1⟩ := r.one_
    simp only [Rw] at w1
    obtain ⟨a, rfl, sq⟩ := w1
    exact ⟨_, _, rfl, .inl ⟨_, sq.sq, by simp⟩, p.here o rw_int⟩
  · obtain ⟨v, rfl, w1⟩ := r.one_
    obtain ⟨hc, p⟩ := Post.ite p
    rw [w1.str_]
    exact ⟨_, _, rfl, ⟨small_le hc, rfl⟩, p.here o rw_int⟩
  · exact p.elim
theorem ae_len {p : Pos} (hg : Gl X "len") (hm : X.mg "len" = none) (ha : AA X E (e :: es) fs) (he : starEach (e :: es) X.env = (false, eval e X.env) :: starEach es X.env := by rfl) (hpl : (backTo pos (starEach es X.env)).any (·.1) = false := by rfl) : AE X E (.Call (.Name "len" p) (e :: es) [] pos) (dCB hLen fs) := ae_cb (pe_callB call_len hg hm PySem.boot_len ha.pa (he := he) (hpl := hpl)) cs_len
def hAbs : List D → Sto → Res D
  | [.int i], l => .ok (.int (if i < 0 then -i else i)) l
  | _, _ => .bad
theorem ae_abs {p : Pos} (hg : Gl X "abs") (hm : X.mg "abs" = none) (ha : AA X E (e :: es) fs) (he : starEach (e :: es) X.env = (false, eval e X.env) :: starEach es X.env := by rfl) (hpl : (backTo pos (starEach es X.env)).any (·.1) = false := by rfl) : AE X E (.Call (.Name "abs" p) (e :: es) [] pos) (dCB hAbs fs) := ae_cb (pe_callB call_abs hg hm (by decide +kernel) ha.pa (he := he) (hpl := hpl)) fun ρ l H ds vs Q o r p => by
  unfold hAbs at p
  split at p
  · obtain ⟨v, rfl, w1⟩ := r.one_
    rw [w1.int_]
    exact ⟨_, rfl, p.here o rw_int⟩
  · exact p.elim
def hInt1 : List D → Sto → Res D
  | [.int i], l => .ok (.int i) l
  | [.bl b], l => .ok (.int (if b then 1 else 0)) l
  | _, _ => .bad
theorem ae_int1 {p : Pos} (hg : Gl X "int") (hm : X.mg "int" = none) (ha : AA X E (e :: es) fs) (he : starEach (e :: es) X.env = (false, eval e X.env) :: starEach es X.env := by rfl) (hpl : (backTo pos (starEach es X.env)).any (·.1) = false := by rfl) : AE X E (.Call (.Name "int" p) (e :: es) [] pos) (dCB hInt1 fs) := ae_cb (pe_callTy call_int1 hg hm (by decide +kernel) ha.pa (he := he) (hpl := hpl)) fun ρ l H ds vs Q o r p => by
  unfold hInt1 at p
  split at p
  · obtain ⟨v, rfl, w1⟩ := r.one_
    rw [w1.int_]
    exact .inl ⟨_, rfl, p.here o rw_int⟩
  · obtain ⟨v, rfl, w1⟩ := r.one_
    rw [w1.bl_]
    exact .inr ⟨_, rfl, p.here o rw_int⟩
  · exact p.elim
def hMax2 : List D → Sto → Res D
  | [.int i, .int j], l => .ok (.int (if j > i then j else i)) l
  | _, _ => .bad
def hMin2 : List D → Sto → Res D
  | [.int i, .int j], l => .ok (.int (if j < i then j else i)) l
  | _, _ => .bad
theorem ae_max2 {p : Pos} (hc : X.calm = true) (hg : Gl X "max") (hm : X.mg "max" = none) (ha : AA X E (e :: es) fs) (he : starEach (e :: es) X.env = (false, eval e X.env) :: starEach es X.env := by rfl) (hpl : (backTo pos (starEach es X.env)).any (·.1) = false := by rfl) : AE X E (.Call (.Name "max" p) (e :: es) [] pos) (dCB hMax2 fs) := ae_cb (pe_callB (call_max2 hc) hg hm (by decide +kernel) ha.pa (he := he) (hpl := hpl)) fun ρ l H ds vs Q o r p => by
  unfold hMax2 at p
  split at p
  · obtain ⟨v, v', rfl, w1, w2⟩ := r.two_
    rw [w1.int_, w2.int_]
    exact ⟨_, _, rfl, p.here o rw_int⟩
  · exact p.elim
theorem ae_min2 {p : Pos} (hc : X.calm = true) (hg : Gl X "min") (hm : X.mg "min" = none) (ha : AA X E (e :: es) fs) (he : starEach (e :: es) X.env = (false, eval e X.env) :: starEach es X.env := by rfl) (hpl : (backTo pos (starEach es X.env)).any (·.1) = false := by rfl) : AE X E (.Call (.Name "min" p) (e :: es) [] pos) (dCB hMin2 fs) := ae_cb (pe_callB (call_min2 hc) hg hm (by decide +kernel) ha.pa (he := he) (hpl := hpl)) fun ρ l H ds vs Q o r p => by
  unfold hMin2 at p
  split at p
  · obtain ⟨v, v', rfl, w1, w2⟩ := r.two_
    rw [w1.int_, w2.int_]
    exact ⟨_, _, rfl, p.here o rw_int⟩
  · exact p.elim
/-- sum of a list of ints -/
def intsOf : List D → Option (List Int)
  | [] => some []
  | .int i :: r => (intsOf r).map (i :: ·)
  | _ => none
theorem ints_rws {K : PySem.W.Frag} {ρ : List Addr} {H : Hp} : ∀ {ds : List D} {vs : List V} {ns : List Int}, intsOf ds = some ns → Rws K ρ H ds vs → vs = ns.map V.int
  | [], vs, ns, h, r => by simp only [Rws] at r; cases h; subst r; rfl
  | .int i :: ds, vs, ns, h, r => by
    simp only [Rws] at r
    obtain ⟨v, u, rfl, r1, r2⟩ := r
    simp only [intsOf] at h
    cases q : intsOf ds with
    | none => rw [q] at h; cases h
    | some ms =>
      rw [q] at h; cases h
      rw [r1.int_, ints_rws q r2]; rfl
  | .non :: _, _, _, h, _ => by cases h
  | .bl _ :: _, _, _, h, _ => by cases h
  | .str _ :: _, _, _, h, _ => by cases h
  | .ty _ :: _, _, _, h, _ => by cases h
  | .adr _ :: _, _, _, h, _ => by cases h
  | .tup _ :: _, _, _, h, _ => by cases h
  | .ro _ :: _, _, _, h, _ => by cases h
def hSumL : List D → Sto → Res D
  | [.adr n], l => match l[n]? with
    | some (.lst ds) => match intsOf ds with
      | some ns => .ok (.int ns.sum) l
      | none => .bad
    | _ => .bad
  | _, _ => .bad
theorem ae_sumL {p : Pos} (hc : X.calm = true) (hg : Gl X "sum") (hm : X.mg "sum" = none) (ha : AA X E (e :: es) fs) (he : starEach (e :: es) X.env = (false, eval e X.env) :: starEach es X.env := by rfl) (hpl : (backTo pos (starEach es X.env)).any (·.1) = false := by rfl) : AE X E (.Call (.Name "sum" p) (e :: es) [] pos) (dCB hSumL fs) := ae_cb (pe_callB (cr_sum hc) hg hm (by decide +kernel) ha.pa (he := he) (hpl := hpl)) fun ρ l H ds vs Q o r p => by
  unfold hSumL at p
  split at p
  · obtain ⟨v, rfl, w1⟩ := r.one_
    split at p
    · rename_i es e1
      obtain ⟨a, us, rfl, _, h1, q⟩ := o.lst w1 e1
      split at p
      · rename_i ns e2
        have e3 := ints_rws e2 q
        subst e3
        exact ⟨a, ns, rfl, SqL.of h1, p.here o rw_int⟩
      · exact p.elim
    · exact p.elim
  · exact p.elim
/-- tuple(..), list(..) -/
def hTupOf : List D → Sto → Res D
  | [.tup ds], l => .ok (.tup ds) l
  | [.adr n], l => match l[n]? with
    | some (.lst ds) => .ok (.tup ds) l
    | _ => .bad
  | _, _ => .bad
def hLstOf : List D → Sto → Res D
  | [.tup ds], l => .ok (.adr l.length) (l ++ [.lst ds])
  | [.adr n], l => match l[n]? with
    | some (.lst ds) => .ok (.adr l.length) (l ++ [.lst ds])
    | _ => .bad
  | _, _ => .bad
theorem ae_tupOf {p : Pos} (hg : Gl X "tuple") (hm : X.mg "tuple" = none) (ha : AA X E (e :: es) fs) (he : starEach (e :: es) X.env = (false, eval e X.env) :: starEach es X.env := by rfl) (hpl : (backTo pos (starEach es X.env)).any (·.1) = false := by rfl) : AE X E (.Call (.Name "tuple" p) (e :: es) [] pos) (dCB hTupOf fs) := ae_cb (pe_callTy call_tuple_of hg hm (by decide +kernel) ha.pa (he := he) (hpl := hpl)) fun ρ l H ds vs Q o r p => by
  unfold hTupOf at p
  split at p
  · obtain ⟨v, rfl, w1⟩ := r.one_
    obtain ⟨a, us, rfl, t, q⟩ := w1.tup_
    exact ⟨a, us, rfl, .inr ⟨t, p.here o w1⟩⟩
  · obtain ⟨v, rfl, w1⟩ := r.one_
    split at p
    · rename_i es e1
      obtain ⟨a, us, rfl, _, h1, q⟩ := o.lst w1 e1
      exact ⟨a, us, rfl, .inl ⟨SqL.of h1, fun z hz => Post.mkT o q p hz⟩⟩
    · exact p.elim
  · exact p.elim
theorem ae_lstOf {p : Pos} (hg : Gl X "list") (hm : X.mg "list" = none) (ha : AA X E (e :: es) fs) (he : starEach (e :: es) X.env = (false, eval e X.env) :: starEach es X.env := by rfl) (hpl : (backTo pos (starEach es X.env)).any (·.1) = false := by rfl) : AE X E (.Call (.Name "list" p) (e :: es) [] pos) (dCB hLstOf fs) := ae_cb (pe_callTy call_list_of hg hm (by decide +kernel) ha.pa (he := he) (hpl := hpl)) fun ρ l H ds vs Q o r p => by
  unfold hLstOf at p
  split at p
  · obtain ⟨v, rfl, w1⟩ := r.one_
    obtain ⟨a, us, rfl, t, q⟩ := w1.tup_
    exact ⟨a, us, rfl, .inr t, fun z hz => Post.mkL o q p hz⟩
  · obtain ⟨v, rfl, w1⟩ := r.one_
    split at p
    · rename_i es e1
      obtain ⟨a, us, rfl, _, h1, q⟩ := o.lst w1 e1
      exact ⟨a, us, rfl, .inl (SqL.of h1), fun z hz => Post.mkL o q p hz⟩
    · exact p.elim
  · exact p.elim
/-! ### isinstance -/
def tyD : D → Sto → Option String
  | .non, _ => some "NoneType" | .bl _, _ => some "bool" | .int _, _ => some "int" | .str _, _ => some "str"
  | .tup _, _ => some "tuple"
  | .adr n, l => match l[n]? with
    | some (.lst _) => some "list"
    | some (.dct _) => some "dict"
    | none => none
  | .ro _, _ => some "list"
  | .ty _, _ => none
theorem ty_of {K : PySem.W.Frag} {ρ : List Addr} {l : Sto} {H : Hp} {d : D} {v : V} {t : String} (o : Own K ρ l H) (r : Rw K ρ H d v) (h : tyD d l = some t) : TyX K H v (.type t) := by
  cases d with
  | non => cases h; rw [r.non_]; exact .base .non
  | bl b => cases h; rw [r.bl_]; exact .base (.bl b)
  | int b => cases h; rw [r.int_]; exact .base (.int b)
  | str b => cases h; rw [r.str_]; exact .base (.str b)
  | ty b => cases h
  | ro ns =>
    cases h
    simp only [Rw] at r
    obtain ⟨a, rfl, ⟨ob, e⟩ | ⟨ob, its, n, e, c, _⟩⟩ := r
    · exact .base (.frz e)
    · exact .kList e c
  | tup ds =>
    cases h
    obtain ⟨a, us, rfl, t, q⟩ := r.tup_
    rcases t with (t | ⟨ob, t⟩) | ⟨ob, its, n, e, c, _⟩
    · exact .base (.tup t)
    · exact .fTuple t
    · exact .kTuple e c
  | adr n =>
    simp only [Rw] at r
    obtain ⟨a, ha, rfl⟩ := r
    simp only [tyD] at h
    split at h
    · rename_i ds e1
      cases h
      obtain ⟨vs, h1, _⟩ := o.at_ n _ a e1 ha
      exact .base (.lst h1)
    · rename_i ds e1
      cases h
      obtain ⟨vs, h1, _⟩ := o.at_ n _ a e1 ha
      exact .base (.dK h1)
    · cases h
def hIsi1 : List D → Sto → Res D
  | [x, .ty t], l => match tyD x l with
    | some s => match kitB s t with
      | some b => .ok (.bl b) l
      | none => .bad
    | none => .bad
  | _, _ => .bad
theorem cls_of {t : String} : ClsV (.ty t) (.type t) := .ty t
theorem ae_isi {p : Pos} (hg : Gl X "isinstance") (hm : X.mg "isinstance" = none) (ha : AA X E (e :: es) fs) (he : starEach (e :: es) X.env = (false, eval e X.env) :: starEach es X.env := by rfl) (hpl : (backTo pos (starEach es X.env)).any (·.1) = false := by rfl) : AE X E (.Call (.Name "isinstance" p) (e :: es) [] pos) (dCB hIsi1 fs) := ae_cb (pe_callB call_isi hg hm (by decide +kernel) ha.pa (he := he) (hpl := hpl)) fun ρ l H ds vs Q o r p => by
  unfold hIsi1 at p
  split at p
  · obtain ⟨v, v', rfl, w1, w2⟩ := r.two_
    split at p
    · rename_i s e1
      split at p
      · rename_i b e2
        rw [w2.ty_]
        exact ⟨v, _, _, _, b, rfl, cls_of, ty_of o w1 e1, kit_ty e2, p.here o rw_bl⟩
      · exact p.elim
    · exact p.elim
  · exact p.elim
def hIsi2 (t u : String) : D → Sto → Res D := fun x l => match tyD x l with
  | some s => match kitB s t, kitB s u with
    | some b, some c => .ok (.bl (b || c)) l
    | _, _ => .bad
  | none => .bad
theorem ae_isi2 {p px : Pos} {k : Nat} {t u : String} {x1 x2 : Expr} (hg : Gl X "isinstance") (hm : X.mg "isinstance" = none) (ha : AE X E e f) (h1 : PE X x1 (tC (.ty t))) (h2 : PE X x2 (tC (.ty u)))
    (q1 : starEach [e, .Tuple [x1, x2] k px] X.env = (false, eval e X.env) :: starEach [.Tuple [x1, x2] k px] X.env := by rfl)
    (q2 : starEach [x1, x2] X.env = (false, eval x1 X.env) :: starEach [x2] X.env := by rfl) (q3 : starEach [x2] X.env = (false, eval x2 X.env) :: starEach [] X.env := by rfl)
    (q4 : starEach [.Tuple [x1, x2] k px] X.env = (false, eval (.Tuple [x1, x2] k px) X.env) :: starEach [] X.env := by rfl) (q5 : (backTo pos (starEach [.Tuple [x1, x2] k px] X.env)).any (·.1) = false := by rfl) :
    AE X E (.Call (.Name "isinstance" p) [e, .Tuple [x1, x2] k px] [] pos) (dUn (hIsi2 t u) f) :=
  ⟨PE.imp (pe_callB call_isiT hg hm (by decide +kernel) (pa_cons ha.pe (pa_cons (pe_tup (pa_cons h1 (pa_cons h2 pa_nil q3) q2)) pa_nil q4) q1) (he := q1) (hpl := q5)) fun σ H Q ⟨ρ, l, g, o, s, p⟩ => by
    refine ⟨ρ, l, g, o, s, Post.bind p fun x l1 ρ1 H1 v e1 s1 o1 r1 p1 => ?_⟩
    refine ⟨by show 2 ≤ sizeLine; rw [sizeLine_eq]; decide, fun z hz => ?_⟩
    unfold hIsi2 at p1
    split at p1
    · rename_i ts e2
      split at p1
      · rename_i b c e3 e4
        have st : Step ρ1 H1 ρ1 (upd H1 z (.tup [.ty t, .ty u])) := step_upd hz
        have o2 := (o1.newT (xs := [.ty t, .ty u]) hz).1
        refine ⟨v, z, [.ty t, .ty u], .type ts, [.type t, .type u], b || c, rfl, upd_same, .cons cls_of (.cons cls_of .nil), ty_of o2 (st.rw o1 r1) e2, ?_, ?_⟩
        · refine kitAny_cons (kit_ty e3) (fun hb => ?_) (fun hb => by rw [hb]; rfl)
          refine kitAny_cons (kit_ty e4) (fun hc => ?_) (fun hc => by rw [hc, Bool.or_true])
          rw [hb, hc]; exact kitAny_nil
        · exact p1 ρ1 _ _ st o2 rw_bl
      · exact p1.elim
    · exact p1.elim⟩
end
end Zb

set_option Elab.async false
set_option linter.all false
set_option maxRecDepth 100000
namespace Zb
open PySem L2
/-! ### methods of lists -/
def isL (d : D) (l : Sto) : Bool := match d with
  | .adr n => match l[n]? with
    | some (.lst _) => true
    | _ => false
  | _ => false
def dMe (h : D → List D → Sto → Res D) (fo : DE) (fs : DEs) : DE := fun g l => (fo g l).bind fun x l1 => if isL x l1 then (fs g l1).bind fun ds l2 => h x ds l2 else .bad
def dMe0 (h : D → List D → Sto → Res D) (fo : DE) : DE := fun g l => (fo g l).bind fun x l1 => if isL x l1 then h x [] l1 else .bad
def MtS (K : PySem.W.Frag) (E : XK) (r : V → List V → Hp → VK → Prop) (h : D → List D → Sto → Res D) : Prop := ∀ ρ l H dx ds x vs Q, Own K ρ l H → Rw K ρ H dx x → Rws K ρ H ds vs → Post K E ρ H (rD K) (h dx ds l) Q → r x vs H Q
section
variable {X : Cx} {E : XK} {a b c e o : Expr} {es : List Expr} {fa fb fc f fo : DE} {fs : DEs} {ba bb : DB} {pos p2 apos : Pos} {rest : List Expr}
theorem isL_ty {K : PySem.W.Frag} {ρ : List Addr} {l : Sto} {H : Hp} {d : D} {v : V} (ow : Own K ρ l H) (r : Rw K ρ H d v) (h : isL d l = true) : tyV K "list" v H := by
  unfold isL at h
  split at h
  · split at h
    · rename_i ds e1
      obtain ⟨a, vs, rfl, _, h1, _⟩ := ow.lst r e1
      exact .inl ⟨rfl, vs, SqL.of h1⟩
    · cases h
  · cases h
theorem ae_me {r : V → List V → Hp → VK → Prop} {h : D → List D → Sto → Res D} (hp : PE X e (tBM X.K "list" r (teOf X.K E fo) (taOf X.K E fs))) (hs : MtS X.K E r h) : AE X E e (dMe h fo fs) := ⟨PE.imp hp fun σ H Q ⟨ρ, l, g, ow, s, p⟩ => by
  refine ⟨ρ, l, g, ow, s, Post.bind p fun x l1 ρ1 H1 v e1 s1 o1 r1 p1 => ?_⟩
  obtain ⟨hc, p1⟩ := Post.ite p1
  refine ⟨isL_ty o1 r1 hc, ⟨ρ1, l1, g, o1, s.step s1 ow, Post.bind p1 fun y l2 ρ2 H2 u e2 s2 o2 r2 p2 => ?_⟩⟩
  exact hs ρ2 l2 H2 x y v u Q o2 (s2.rw o1 r1) r2 p2⟩
theorem ae_me0 {r : V → List V → Hp → VK → Prop} {h : D → List D → Sto → Res D} (hp : PE X e (tBM0 X.K "list" r (teOf X.K E fo))) (hs : MtS X.K E r h) : AE X E e (dMe0 h fo) := ⟨PE.imp hp fun σ H Q ⟨ρ, l, g, ow, s, p⟩ => by
  refine ⟨ρ, l, g, ow, s, Post.bind p fun x l1 ρ1 H1 v e1 s1 o1 r1 p1 => ?_⟩
  obtain ⟨hc, p1⟩ := Post.ite p1
  exact ⟨isL_ty o1 r1 hc, hs ρ1 l1 H1 x [] v [] Q o1 r1 Rws.nil p1⟩⟩
def hApp : D → List D → Sto → Res D
  | .adr n, [d], l => match l[n]? with
    | some (.lst ds) => if small (ds.length + 1) then .ok .non (l.set n (.lst (ds ++ [d]))) else .bad
    | _ => .bad
  | _, _, _ => .bad
theorem Post.wr {K : PySem.W.Frag} {ρ : List Addr} {l : Sto} {H : Hp} {n : Nat} {q : Addr} {old : OB} {ds : List D} {vs : List V} {d : D} {v : V} {Q : VK} (ow : Own K ρ l H) (hn : ρ[n]? = some q) (ho : l[n]? = some old) (r : Rws K ρ H ds vs) (rv : Rw K ρ H d v) (p : Post K E ρ H (rD K) (.ok d (l.set n (.lst ds))) Q) : Q v (upd H q (.lst vs)) := by
  obtain ⟨o1, s1⟩ := ow.set hn ho r
  exact p ρ _ _ s1 o1 (s1.rw ow rv)
theorem ms_app : MtS X.K E rAppend hApp := fun ρ l H dx ds x vs Q ow rx r p => by
  unfold hApp at p
  split at p
  · split at p
    · rename_i es e1
      obtain ⟨hc, p⟩ := Post.ite p
      obtain ⟨q, us, rfl, hn, h1, r1⟩ := ow.lst rx e1
      obtain ⟨v, rfl, w1⟩ := r.one_
      exact ⟨q, us, v, rfl, rfl, h1, by rw [r1.length]; exact small_lt hc, Post.wr ow hn e1 (r1.app (Rws.one w1)) rw_non p⟩
    · exact p.elim
  · exact p.elim
def hPop : D → List D → Sto → Res D
  | .adr n, [], l => match l[n]? with
    | some (.lst ds) => match ds[ds.length - 1]? with
      | some d => .ok d (l.set n (.lst ds.dropLast))
      | none => .bad
    | _ => .bad
  | _, _, _ => .bad
theorem Rws.dropLast {K : PySem.W.Frag} {ρ : List Addr} {H : Hp} {ds : List D} {vs : List V} (r : Rws K ρ H ds vs) : Rws K ρ H ds.dropLast vs.dropLast := by
  rw [List.dropLast_eq_take, List.dropLast_eq_take, r.length]
  exact r.take _
theorem ms_pop : MtS X.K E rPop hPop := fun ρ l H dx ds x vs Q ow rx r p => by
  unfold hPop at p
  split at p
  · split at p
    · rename_i es e1
      split at p
      · rename_i d e2
        obtain ⟨q, us, rfl, hn, h1, r1⟩ := ow.lst rx e1
        obtain ⟨v, e3, r2⟩ := r1.get e2
        simp only [Rws] at r
        exact ⟨q, us, v, rfl, r, h1, by rw [r1.length]; exact e3, Post.wr ow hn e1 r1.dropLast r2 p⟩
      · exact p.elim
    · exact p.elim
  · exact p.elim
/-- extend by a list or a tuple -/
def hExt : D → List D → Sto → Res D
  | .adr n, [y], l => match l[n]?, itemsOf y l with
    | some (.lst ds), some es => if small (ds.length + es.length) then .ok .non (l.set n (.lst (ds ++ es))) else .bad
    | _, _ => .bad
  | _, _, _ => .bad
end
section
open PySem PySem.Spec PyProof.Rows
theorem ext_tup (a b : Addr) (xs ys : Array Value) (m k : Nat) (dd : Option Addr) (sl : Array (Option Value))
    (c0 : ¬ (!xs.isEmpty && Builtin.List.listTooLong (xs.size + ys.size)) = true) (c1 : xs.size ≤ sizeLine) (c2 : xs.size + ys.size ≤ sizeLine + 1) :
    Meets (Builtin.«list.extend» ⟨[.ref a, .ref b], []⟩) (fun _ R s => (s.heap.get? a = some { cls := .type "list", dict := none, data := .seq xs m, slots := #[] } ∧
      s.heap.get? b = some { cls := .type "tuple", dict := dd, data := .seq ys k, slots := sl }) ∧ R (.ok (.ret Value.none)) { s with heap := s.heap.update a (Obj.mapSeq fun z => z ++ ys), toks := s.toks }) := .of_wp fun prog w A R s hh => by
  obtain ⟨hp, g, d, tk, os⟩ := s
  obtain ⟨⟨ha, hb⟩, hh⟩ := hh
  have q1 := AutoSeq1.idx_int
  have q2 := AutoSeq1.sub_tuple_tuple
  have q3 := AutoSeq1.sub_list_list
  have q4 := AutoSeq1.sub_tuple_list
  have q5 := AutoSeq1.sub_list_tuple
  have q6 : (xs ++ ys).size ≤ sizeLine + 1 := by
    rw [Array.size_append]
    exact c2
  wp_walk using (wpAny_updateSeq ha rfl (hz := c1) (_hz' := q6)), wpAny_loadPart' ha, wpAny_loadPart' hb
  exact ⟨_, rfl, hh⟩
variable {X : Cx} {E : XK}
def rExtT (K : PySem.W.Frag) : V → List V → Hp → VK → Prop := fun x vs H Q => ∃ l b xs zs, x = .ref l ∧ vs = [.ref b] ∧ H l = some (.lst xs) ∧ SqT K H b zs ∧ xs.length + zs.length ≤ sizeLine ∧ Q .non (upd H l (.lst (xs ++ zs)))
theorem mt_extT : MtM X "list.extend" (rExtT X.K) := by
  intro pins s σ H x vs v us Q I rx rv hh
  obtain ⟨a, b, xs, zs, rfl, rfl, hA, hB, hz, q⟩ := hh
  cases rx
  obtain ⟨u, rfl, ru⟩ := rv.one
  cases ru
  obtain ⟨z1, i1, m, r1, l1, e1⟩ := I.lstM hA
  obtain ⟨i2, r2, ⟨⟨cc, dd, dt, sl⟩, e2, ec, k, ed⟩, z2⟩ := I.tuple hB
  simp only at ec ed
  subst ec ed
  have l2 := r2.length
  have n1 : i1.toArray.size + i2.toArray.size ≤ sizeLine := by
    simp only [List.size_toArray]
    omega
  have n2 : ¬ (!i1.toArray.isEmpty && Builtin.List.listTooLong (i1.toArray.size + i2.toArray.size)) = true := by
    rw [notLongL n1]
    simp
  refine call_meets F.slot_list_extend ⟨_, e1, rfl⟩ F.entry_list_extend (F.args_list_extend_2 _ _) (ext_tup a b i1.toArray i2.toArray m k dd sl n2 (by simp only [List.size_toArray]; omega) (by omega)) ⟨⟨e1, e2⟩, ?_⟩
  exact ⟨.non, _, I.lset (its' := i1 ++ i2) hA e1 (by simp) (r1.append r2) (by rw [List.length_append]; omega), rfl, q⟩
def rExtA (K : PySem.W.Frag) : V → List V → Hp → VK → Prop := fun x vs H Q => rExtend x vs H Q ∨ rExtT K x vs H Q
theorem mt_extA : MtM X "list.extend" (rExtA X.K) := fun pins s σ H x vs v us Q I rx rv hh => hh.elim (fun z => mt_extend pins s σ H x vs v us Q I rx rv z) fun z => mt_extT pins s σ H x vs v us Q I rx rv z
theorem ms_ext : MtS X.K E (rExtA X.K) hExt := fun ρ l H dx ds x vs Q ow rx r p => by
  unfold hExt at p
  split at p
  · rename_i n y
    split at p
    · rename_i es fs e1 e2
      obtain ⟨hc, p⟩ := Post.ite p
      obtain ⟨q, us, rfl, hn, h1, r1⟩ := ow.lst rx e1
      obtain ⟨v, rfl, w1⟩ := r.one_
      cases y with
      | tup ys =>
        obtain ⟨b, zs, rfl, t, r2⟩ := w1.tup_
        have ee : ys = fs := Option.some.inj e2
        subst ee
        exact .inr ⟨q, b, us, zs, rfl, rfl, h1, t, by rw [r1.length, r2.length]; exact small_le hc, Post.wr ow hn e1 (r1.app r2) rw_non p⟩
      | adr m =>
        simp only [itemsOf] at e2
        split at e2
        · rename_i ys e3
          cases e2
          obtain ⟨b, zs, rfl, _, h2, r2⟩ := ow.lst w1 e3
          exact .inl ⟨q, b, us, zs, rfl, rfl, h1, h2, by rw [r1.length, r2.length]; exact small_le hc, Post.wr ow hn e1 (r1.app r2) rw_non p⟩
        · cases e2
      | _ => cases e2
    · exact p.elim
  · exact p.elim
end

/-! ### promises -/
section
variable {K : PySem.W.Frag} {E : XK} {ρ : List Addr} {l : Sto} {H H' : Hp}
mutual
theorem Rw.pure_ {ρ' : List Addr} (t : Tk K H H') : ∀ (d : D) (v : V), pu d = true → Rw K ρ H d v → Rw K ρ' H' d v
  | .non, _, _, h => by simpa [Rw] using h
  | .bl _, _, _, h => by simpa [Rw] using h
  | .int _, _, _, h => by simpa [Rw] using h
  | .str _, _, _, h => by simpa [Rw] using h
  | .ty _, _, p, _ => by simp [pu] at p
  | .adr _, _, p, _ => by simp [pu] at p
  | .ro _, _, p, _ => by simp [pu] at p
  | .tup ds, v, p, h => by
    obtain ⟨a, vs, rfl, q, r⟩ := h.tup_
    exact rw_tup (t a vs q) (Rws.pure_ t ds vs (by simpa [pu] using p) r)
theorem Rws.pure_ {ρ' : List Addr} (t : Tk K H H') : ∀ (ds : List D) (vs : List V), pus ds = true → Rws K ρ H ds vs → Rws K ρ' H' ds vs
  | [], vs, _, h => by simpa [Rws] using h
  | d :: ds, vs, p, h => by
    simp only [Rws] at h
    obtain ⟨v, u, rfl, r1, r2⟩ := h
    simp only [pus, Bool.and_eq_true] at p
    exact Rws.cons (Rw.pure_ t d v p.1 r1) (Rws.pure_ t ds u p.2 r2)
end
theorem same_step (s : Same H H') : Step ρ H ρ H' := ⟨⟨[], by simp⟩, fun a o e _ => s a o e, fun a h n => absurd h n⟩
theorem Own.same (o : Own K ρ l H) (s : Same H H') : Own K ρ l H' := ⟨o.nd, o.len, fun n ob a e1 e2 => Ow.mono ((same_step s).mn o) (fun u e => s a u e) (o.at_ n ob a e1 e2)⟩
theorem Own.newS {p : Addr} {ob : OB} (o : Own K ρ l H) (hp : H p = none) (s : Same H H') (w : Ow K (ρ ++ [p]) H' ob p) : Own K (ρ ++ [p]) (l ++ [ob]) H' := by
  have st : Step ρ H (ρ ++ [p]) H' := ⟨⟨[p], rfl⟩, fun a o e _ => s a o e, fun a h n => by
    rcases List.mem_append.mp h with h | h
    · exact absurd h n
    · simp at h; subst h; exact hp⟩
  refine ⟨?_, by simp [o.len], fun n ob' a e1 e2 => ?_⟩
  · rw [List.nodup_append]
    refine ⟨o.nd, by simp, fun a ha b hb => ?_⟩
    simp at hb; subst hb
    exact fun q => o.nop hp (q ▸ ha)
  · by_cases hn : n < l.length
    · rw [List.getElem?_append_left hn] at e1
      rw [List.getElem?_append_left (by rw [o.len]; exact hn)] at e2
      exact Ow.mono (st.mn o) (fun v e => s a v e) (o.at_ n ob' a e1 e2)
    · have h1 := (List.getElem?_eq_some_iff.mp e1).1
      have hn' : n = l.length := by simp at h1; omega
      subst hn'
      have e3 : (ρ ++ [p])[l.length]? = some p := by rw [← o.len]; simp
      rw [e3] at e2; cases e2
      have e4 : (l ++ [ob])[l.length]? = some ob := by simp
      rw [e4] at e1; cases e1
      exact w
theorem Own.nil : Own K [] [] H := ⟨List.nodup_nil, rfl, fun n o a h _ => by simp at h⟩
theorem Step.same (s : Step [] H ρ H') : Same H H' := fun a o e => s.keep a o e (by simp)
end
def spD (K : PySem.W.Frag) (n : Nat) (m : List D → Sto → Res D) : Sp := fun vs H Q E => ∃ ρ l ds, Own K ρ l H ∧ Rws K ρ H ds vs ∧ ds.length = n ∧ Post K E ρ H (rD K) (m ds l) Q
/-- pure data in, pure data out -/
def spP (K : PySem.W.Frag) (n : Nat) (pf : List D → Option D) : Sp := fun vs H Q _ => ∃ ds d, Rws K [] H ds vs ∧ ds.length = n ∧ pf ds = some d ∧ ∀ v H', Same H H' → Rw K [] H' d v → Q v H'
/-- pure data in, a new list of pure data out -/
def spL (K : PySem.W.Frag) (n : Nat) (lf : List D → Option (List D)) : Sp := fun vs H Q _ => ∃ ds xs, Rws K [] H ds vs ∧ ds.length = n ∧ lf ds = some xs ∧ ∀ p us H', H p = none → Same H H' → H' p = some (.lst us) → Rws K [] H' xs us → Q (.ref p) H'
def Res.nox {α : Type} : Res α → Res α
  | .exc _ _ _ => .bad
  | r => r
def dCall (n : Nat) (m : List D → Sto → Res D) (fs : DEs) : DE := fun g l => (fs g l).bind fun ds l1 => if ds.length == n then (m ds l1).nox else .bad
def dCallP (n : Nat) (pf : List D → Option D) (fs : DEs) : DE := fun g l => (fs g l).bind fun ds l1 => if pus ds && ds.length == n then okO ((pf ds).bind fun d => if pu d then some d else none) l1 else .bad
def dCallL (n : Nat) (lf : List D → Option (List D)) (fs : DEs) : DE := fun g l => (fs g l).bind fun ds l1 => if pus ds && ds.length == n then (match lf ds with
  | some xs => if pus xs then .ok (.adr l1.length) (l1 ++ [.lst xs]) else .bad
  | none => .bad) else .bad
section
variable {X : Cx} {E : XK} {e : Expr} {es : List Expr} {fs : DEs} {pos p : Pos} {k n : Nat} {f : Addr} {fd : FuncData} {ps : List Str} {x : Str}
theorem call_of {m : List D → Sto → Res D} {σ H Q} (h : teOf X.K E (dCall n m fs) σ H Q) : tCall (spD X.K n m) [] E0 (taOf X.K E fs) σ H Q := by
  obtain ⟨ρ, l, g, ow, s, p⟩ := h
  refine ⟨ρ, l, g, ow, s, Post.bind p fun ds l1 ρ1 H1 vs e1 s1 o1 r1 p1 => ?_⟩
  obtain ⟨hc, p1⟩ := Post.ite p1
  rw [List.append_nil]
  refine ⟨ρ1, l1, ds, o1, r1, by simpa using hc, ?_⟩
  cases q : m ds l1 with
  | bad => rw [q] at p1; exact p1
  | ok a l2 => rw [q] at p1; exact p1
  | exc C gs l2 => rw [q] at p1; exact p1.elim
theorem callP_of {pf : List D → Option D} {σ H Q} (h : teOf X.K E (dCallP n pf fs) σ H Q) : tCall (spP X.K n pf) [] E0 (taOf X.K E fs) σ H Q := by
  obtain ⟨ρ, l, g, ow, s, p⟩ := h
  refine ⟨ρ, l, g, ow, s, Post.bind p fun ds l1 ρ1 H1 vs e1 s1 o1 r1 p1 => ?_⟩
  obtain ⟨hc, p1⟩ := Post.ite p1
  rw [Bool.and_eq_true] at hc
  obtain ⟨d, e2, p1⟩ := p1.okO_
  obtain ⟨d', e3, e4⟩ := Option.bind_eq_some_iff.mp e2
  split at e4
  · rename_i hp
    cases e4
    rw [List.append_nil]
    exact ⟨ds, d, Rws.pure_ Tk.refl ds vs hc.1 r1, by simpa using hc.2, e3, fun v H' sm r => p1 ρ1 H' v (same_step sm) (o1.same sm) (Rw.pure_ Tk.refl d v hp r)⟩
  · cases e4
theorem callL_of {lf : List D → Option (List D)} {σ H Q} (h : teOf X.K E (dCallL n lf fs) σ H Q) : tCall (spL X.K n lf) [] E0 (taOf X.K E fs) σ H Q := by
  obtain ⟨ρ, l, g, ow, s, p⟩ := h
  refine ⟨ρ, l, g, ow, s, Post.bind p fun ds l1 ρ1 H1 vs e1 s1 o1 r1 p1 => ?_⟩
  obtain ⟨hc, p1⟩ := Post.ite p1
  rw [Bool.and_eq_true] at hc
  split at p1
  · rename_i xs e2
    obtain ⟨hp, p1⟩ := Post.ite p1
    rw [List.append_nil]
    refine ⟨ds, xs, Rws.pure_ Tk.refl ds vs hc.1 r1, by simpa using hc.2, e2, fun z us H' hz sm hu r => ?_⟩
    have st : Step ρ1 H1 (ρ1 ++ [z]) H' := ⟨⟨[z], rfl⟩, fun a ob q _ => sm a ob q, fun a ha hn => by
      rcases List.mem_append.mp ha with ha | ha
      · exact absurd ha hn
      · simp at ha; subst ha; exact hz⟩
    have px : ∀ (i : Nat) (a : Addr), ρ1[i]? = some a → (ρ1 ++ [z])[i]? = some a := px_app
    exact p1 _ _ _ st (o1.newS hz sm ⟨us, hu, Rws.pure_ Tk.refl xs us hp r⟩) (rw_adr (by rw [← o1.len]; simp))
  · exact p1.elim
end
end Zb

set_option Elab.async false
set_option linter.all false
set_option maxRecDepth 100000
namespace Zb
open PySem L2
/-! ### statements -/
inductive Out where
  | bad | nx (g : Sl) (l : Sto) | rt (d : D) (l : Sto) | bk (g : Sl) (l : Sto) | ct (g : Sl) (l : Sto) | ex (C : Addr) (fs : List (Str × D)) (l : Sto)
abbrev DS := Sl → Sto → Out
def Res.out {α : Type} (r : Res α) (k : α → Sto → Out) : Out := match r with
  | .bad => .bad
  | .ok a l => k a l
  | .exc C fs l => .ex C fs l
section
variable (K : PySem.W.Frag) (E : XK)
def OutP (ρ : List Addr) (H : Hp) (D : Ends) (r : Out) : Prop := match r with
  | .bad => False
  | .nx g l => ∀ ρ' H' σ', Step ρ H ρ' H' → Own K ρ' l H' → Slt K ρ' H' σ' g → D.nx σ' H'
  | .bk g l => ∀ ρ' H' σ', Step ρ H ρ' H' → Own K ρ' l H' → Slt K ρ' H' σ' g → D.bk σ' H'
  | .ct g l => ∀ ρ' H' σ', Step ρ H ρ' H' → Own K ρ' l H' → Slt K ρ' H' σ' g → D.ct σ' H'
  | .rt d l => ∀ ρ' H' v, Step ρ H ρ' H' → Own K ρ' l H' → Rw K ρ' H' d v → D.rt v H'
  | .ex C fs l => ∀ ρ' H' dd vs, Step ρ H ρ' H' → Own K ρ' l H' → H' dd = some (.xd vs) → vs.map (·.1) = fs.map (·.1) → Rws K ρ' H' (fs.map (·.2)) (vs.map (·.2)) → E (.ref C) (some dd) H'
def tsOf (f : DS) : TS := fun D σ H => ∃ ρ l g, Own K ρ l H ∧ Slt K ρ H σ g ∧ OutP K E ρ H D (f g l)
end
structure AS (X : Cx) (E : XK) (st : Stmt) (f : DS) : Prop where
  ps : PS X st (tsOf X.K E f)
structure ASs (X : Cx) (E : XK) (st : List Stmt) (f : DS) : Prop where
  pss : PSs X st (tsOf X.K E f)
theorem PS.imp {X : Cx} {e : Stmt} {t u : TS} (h : PS X e t) (q : ∀ D σ H, u D σ H → t D σ H) : PS X e u := ⟨fun pins s σ H D I k => h.run pins s σ H D I (q D σ H k)⟩
theorem PSs.imp {X : Cx} {e : List Stmt} {t u : TS} (h : PSs X e t) (q : ∀ D σ H, u D σ H → t D σ H) : PSs X e u := ⟨fun pins s σ H D I k => h.run pins s σ H D I (q D σ H k)⟩
section
variable {K : PySem.W.Frag} {E : XK} {ρ ρ1 : List Addr} {H H1 : Hp} {D : Ends}
theorem OutP.step {r : Out} (h : OutP K E ρ H D r) (s : Step ρ H ρ1 H1) : OutP K E ρ1 H1 D r := by
  cases r with
  | bad => exact h
  | nx g l => exact fun ρ' H' σ' s' o q => h ρ' H' σ' (s.trans s') o q
  | bk g l => exact fun ρ' H' σ' s' o q => h ρ' H' σ' (s.trans s') o q
  | ct g l => exact fun ρ' H' σ' s' o q => h ρ' H' σ' (s.trans s') o q
  | rt d l => exact fun ρ' H' v s' o q => h ρ' H' v (s.trans s') o q
  | ex C fs l => exact fun ρ' H' dd vs s' o a b c => h ρ' H' dd vs (s.trans s') o a b c
theorem OutP.of {α β : Type} {rel : List Addr → Hp → α → β → Prop} {r : Res α} {k : α → Sto → Out} {Q : β → Hp → Prop} (h : OutP K E ρ H D (r.out k))
    (hk : ∀ a l1 ρ1 H1 b, r = .ok a l1 → Step ρ H ρ1 H1 → Own K ρ1 l1 H1 → rel ρ1 H1 a b → OutP K E ρ1 H1 D (k a l1) → Q b H1) : Post K E ρ H rel r Q := by
  cases r with
  | bad => exact h
  | ok a l1 => exact fun ρ1 H1 b s o q => hk a l1 ρ1 H1 b rfl s o q (OutP.step (show OutP K E ρ H D (k a l1) from h) s)
  | exc C fs l1 => exact h
theorem OutP.ite {c : Bool} {r : Out} (h : OutP K E ρ H D (if c then r else .bad)) : c = true ∧ OutP K E ρ H D r := by
  cases c with
  | true => exact ⟨rfl, by simpa using h⟩
  | false => exact absurd (show OutP K E ρ H D .bad by simpa using h) (fun z => z)
end
/-! the small ones -/
def sNx : DS := fun g l => .nx g l
def sSeq (f h : DS) : DS := fun g l => match f g l with
  | .nx g1 l1 => h g1 l1
  | r => r
def sExpr (f : DE) : DS := fun g l => (f g l).out fun _ l1 => .nx g l1
def sRet (f : DE) : DS := fun g l => (f g l).out fun d l1 => .rt d l1
def sRetN : DS := fun _ l => .rt .non l
def sIf (c : DB) (f h : DS) : DS := fun g l => (c g l).out fun b l1 => if b = true then f g l1 else h g l1
def sBk : DS := fun g l => .bk g l
def sCt : DS := fun g l => .ct g l
def sSet (i : Nat) (f : DE) : DS := fun g l => (f g l).out fun d l1 => .nx (g.set i (some d)) l1
section
variable {X : Cx} {E : XK} {st : Stmt} {rest : List Stmt} {t u : DS} {e a b c : Expr} {f fa fb fc : DE} {pos pos' : Pos} {ba : DB} {body orelse : List Stmt}
theorem as_nil : ASs X E [] sNx := ⟨PSs.imp pss_nil fun D σ H ⟨ρ, l, g, o, s, p⟩ => p ρ H σ Step.refl o s⟩
theorem as_pass : AS X E (.Pass pos) sNx := ⟨PS.imp ps_pass fun D σ H ⟨ρ, l, g, o, s, p⟩ => p ρ H σ Step.refl o s⟩
theorem as_break : AS X E (.Break pos) sBk := ⟨PS.imp ps_break fun D σ H ⟨ρ, l, g, o, s, p⟩ => p ρ H σ Step.refl o s⟩
theorem as_cont : AS X E (.Continue pos) sCt := ⟨PS.imp ps_continue fun D σ H ⟨ρ, l, g, o, s, p⟩ => p ρ H σ Step.refl o s⟩
theorem as_one (h : AS X E st t) : ASs X E [st] t := ⟨pss_one h.ps⟩
theorem as_cons (h : AS X E st t) (k : ASs X E rest u) : ASs X E (st :: rest) (sSeq t u) := ⟨PSs.imp (pss_cons h.ps k.pss) fun D σ H ⟨ρ, l, g, o, s, p⟩ => by
  refine ⟨ρ, l, g, o, s, ?_⟩
  unfold sSeq at p
  cases q : t g l with
  | bad => rw [q] at p; exact p.elim
  | nx g1 l1 =>
    rw [q] at p
    exact fun ρ' H' σ' s' o' z => ⟨ρ', l1, g1, o', z, p.step s'⟩
  | rt d l1 => rw [q] at p; exact p
  | bk g1 l1 => rw [q] at p; exact p
  | ct g1 l1 => rw [q] at p; exact p
  | ex C fs l1 => rw [q] at p; exact p⟩
theorem as_expr (h : AE X E e f) (hs : swapsWith e none pos.line X.env = pure false := by rfl) : AS X E (.Expr e pos) (sExpr f) := ⟨PS.imp (ps_expr h.pe hs) fun D σ H ⟨ρ, l, g, o, s, p⟩ =>
  ⟨ρ, l, g, o, s, OutP.of (rel := rD X.K) p fun d l1 ρ1 H1 v e1 s1 o1 r1 p1 => p1 ρ1 H1 σ Step.refl o1 (s.step s1 o)⟩⟩
theorem as_ret (h : AE X E e f) : AS X E (.Return (some e) pos) (sRet f) := ⟨PS.imp (ps_ret h.pe) fun D σ H ⟨ρ, l, g, o, s, p⟩ =>
  ⟨ρ, l, g, o, s, OutP.of (rel := rD X.K) p fun d l1 ρ1 H1 v e1 s1 o1 r1 p1 => p1 ρ1 H1 v Step.refl o1 r1⟩⟩
theorem as_retN : AS X E (.Return none pos) sRetN := ⟨PS.imp ps_retN fun D σ H ⟨ρ, l, g, o, s, p⟩ => p ρ H .non Step.refl o rw_non⟩
theorem as_if (h : AT X E c ba) (h1 : ASs X E body t) (h2 : ASs X E orelse u) : AS X E (.If c body orelse pos) (sIf ba t u) := ⟨PS.imp (ps_if h.pt h1.pss h2.pss) fun D σ H ⟨ρ, l, g, o, s, p⟩ =>
  ⟨ρ, l, g, o, s, OutP.of (rel := rB) p fun d l1 ρ1 H1 v e1 s1 o1 r1 p1 => by
    cases r1
    cases d with
    | true => exact ⟨ρ1, l1, g, o1, s.step s1 o, p1⟩
    | false => exact ⟨ρ1, l1, g, o1, s.step s1 o, p1⟩⟩⟩
theorem as_set {i : Nat} {x : Str} (hN : X.N.Nodup) (hi : X.N[i]? = some x) (hx : Loc X.env.scope x) (h : AE X E e f) (hs : swapsWith e (some (.Name x pos')) pos.line X.env = pure false := by rfl)
    (hf : X.fn x = true ∨ X.env.scope.names.lookup x = some .local := by first | exact .inl rfl | exact .inr rfl | assumption) : AS X E (.Assign [.Name x pos'] e pos) (sSet i f) := ⟨PS.imp (ps_set hN hi hx h.pe hs hf) fun D σ H ⟨ρ, l, g, o, s, p⟩ =>
  ⟨ρ, l, g, o, s, OutP.of (rel := rD X.K) p fun d l1 ρ1 H1 v e1 s1 o1 r1 p1 => p1 ρ1 H1 _ Step.refl o1 ((s.step s1 o).set i r1)⟩⟩
/-! targets -/
def tgOf (K : PySem.W.Frag) (f : D → Sto → Sl → Option Sl) : TG := fun v σ H Q => ∃ ρ l g d, Own K ρ l H ∧ Slt K ρ H σ g ∧ Rw K ρ H d v ∧ match f d l g with
  | some g' => ∀ σ', Slt K ρ H σ' g' → Q σ' H
  | none => False
def setsD : List Nat → List D → Sl → Option Sl
  | [], [], g => some g
  | i :: is, d :: ds, g => setsD is ds (g.set i (some d))
  | _, _, _ => none
def tgsOf (K : PySem.W.Frag) (is : List Nat) : TGs := fun vs σ H Q => ∃ ρ l g ds, Own K ρ l H ∧ Slt K ρ H σ g ∧ Rws K ρ H ds vs ∧ match setsD is ds g with
  | some g' => ∀ σ', Slt K ρ H σ' g' → Q σ' H
  | none => False
structure AG (X : Cx) (tg : Expr) (f : D → Sto → Sl → Option Sl) : Prop where
  pg : PG X tg (tgOf X.K f)
structure AGs (X : Cx) (tgs : List Expr) (is : List Nat) : Prop where
  pgs : PGs X tgs (tgsOf X.K is)
theorem PG.imp {X : Cx} {e : Expr} {t u : TG} (h : PG X e t) (q : ∀ v σ H Q, u v σ H Q → t v σ H Q) : PG X e u := ⟨fun pins s σ H v w Q I r k => h.run pins s σ H v w Q I r (q v σ H Q k)⟩
theorem PGs.imp {X : Cx} {e : List Expr} {t u : TGs} (h : PGs X e t) (q : ∀ v σ H Q, u v σ H Q → t v σ H Q) : PGs X e u := ⟨fun pins s σ H v w Q I r k => h.run pins s σ H v w Q I r (q v σ H Q k)⟩
def gN (i : Nat) : D → Sto → Sl → Option Sl := fun d _ g => some (g.set i (some d))
def gT (is : List Nat) : D → Sto → Sl → Option Sl := fun d _ g => match d with
  | .tup ds => setsD is ds g
  | _ => none
theorem ag_name {i : Nat} {x : Str} (hN : X.N.Nodup) (hi : X.N[i]? = some x) (hx : Loc X.env.scope x) (hf : X.fn x = true ∨ X.env.scope.names.lookup x = some .local := by first | exact .inl rfl | exact .inr rfl | assumption) : AG X (.Name x pos) (gN i) :=
  ⟨PG.imp (pg_name hN hi hx hf) fun v σ H Q ⟨ρ, l, g, d, o, s, r, p⟩ => p _ (s.set i r)⟩
theorem ags_nil : AGs X [] [] := ⟨PGs.imp pgs_nil fun vs σ H Q ⟨ρ, l, g, ds, o, s, r, p⟩ => by
  cases ds with
  | nil => simp only [Rws] at r; exact ⟨r, p _ s⟩
  | cons d ds => exact p.elim⟩
theorem ags_cons {x : Str} {i : Nat} {es : List Expr} {is : List Nat} (hN : X.N.Nodup) (hi : X.N[i]? = some x) (hx : Loc X.env.scope x) (k : AGs X es is)
    (hf : X.fn x = true ∨ X.env.scope.names.lookup x = some .local := by first | exact .inl rfl | exact .inr rfl | assumption)
    (hs : (assignEach (.Name x pos :: es) X.env).map (·.2) = assign (.Name x pos) X.env :: (assignEach es X.env).map (·.2) := by rfl) : AGs X (.Name x pos :: es) (i :: is) :=
  ⟨PGs.imp (pgs_cons (pg_name hN hi hx hf) k.pgs hs) fun vs σ H Q ⟨ρ, l, g, ds, o, s, r, p⟩ => by
    cases ds with
    | nil => exact p.elim
    | cons d ds =>
      simp only [Rws] at r
      obtain ⟨v, u, rfl, r1, r2⟩ := r
      exact ⟨v, u, rfl, ρ, l, g.set i (some d), ds, o, s.set i r1, r2, p⟩⟩
theorem setsD_len : ∀ {is : List Nat} {ds : List D} {g g' : Sl}, setsD is ds g = some g' → ds.length = is.length
  | [], [], _, _, _ => rfl
  | i :: is, d :: ds, g, g', h => by
    have := setsD_len (is := is) (ds := ds) h
    simp [this]
  | [], _ :: _, _, _, h => by cases h
  | _ :: _, [], _, _, h => by cases h
theorem ag_tup {es : List Expr} {k : Nat} {is : List Nat} (hc : X.calm = true) (h : AGs X es is)
    (hn : (assignEach es X.env).length = is.length := by rfl) (hst : (assignEach es X.env).findIdx? (·.1) = none := by rfl) : AG X (.Tuple es k pos) (gT is) := ⟨PG.imp (pg_tup hc h.pgs hn hst) fun v σ H Q ⟨ρ, l, g, d, o, s, r, p⟩ => by
  cases d with
  | tup ds =>
    obtain ⟨a, vs, rfl, t, q⟩ := r.tup_
    have hl : ds.length = is.length := by
      cases z : setsD is ds g with
      | none => simp only [gT, z] at p
      | some g' => exact setsD_len z
    exact ⟨a, vs, rfl, t, by rw [q.length, hl], ρ, l, g, ds, o, s, q, p⟩
  | _ => exact p.elim⟩
def sAsg (gt : D → Sto → Sl → Option Sl) (f : DE) : DS := fun g l => (f g l).out fun d l1 => match gt d l1 g with
  | some g' => .nx g' l1
  | none => .bad
theorem as_asg {tg : Expr} {gt : D → Sto → Sl → Option Sl} (he : AE X E e f) (hg : AG X tg gt) (hs : swapsWithSole [tg] e pos.line X.env = pure false := by rfl) (hw : swappedStores [tg] e X.env = pure none := by rfl)
    (h1 : (assignEach [tg] X.env).map (·.2) = [assign tg X.env] := by rfl) : AS X E (.Assign [tg] e pos) (sAsg gt f) := ⟨PS.imp (ps_asg he.pe hg.pg hs hw h1) fun D σ H ⟨ρ, l, g, o, s, p⟩ =>
  ⟨ρ, l, g, o, s, OutP.of (rel := rD X.K) p fun d l1 ρ1 H1 v e1 s1 o1 r1 p1 => ⟨ρ1, l1, g, d, o1, s.step s1 o, r1, by
    cases q : gt d l1 g with
    | none => rw [q] at p1; exact p1
    | some g' => rw [q] at p1; exact fun σ' z => p1 ρ1 H1 σ' Step.refl o1 z⟩⟩⟩
/-- a, b = x, y -/
def sPar (i j : Nat) (fs : DEs) : DS := fun g l => (fs g l).out fun ds l1 => match ds with
  | [d, d'] => .nx ((g.set i (some d)).set j (some d')) l1
  | _ => .bad
def sPar3 (i j k : Nat) (fs : DEs) : DS := fun g l => (fs g l).out fun ds l1 => match ds with
  | [d, d', d''] => .nx (((g.set i (some d)).set j (some d')).set k (some d'')) l1
  | _ => .bad
theorem par_of {i j : Nat} {fs : DEs} {D σ H} (h : tsOf X.K E (sPar i j fs) D σ H) : tPar i j (taOf X.K E fs) D σ H := by
  obtain ⟨ρ, l, g, o, s, p⟩ := h
  refine ⟨ρ, l, g, o, s, OutP.of (rel := rDs X.K) p fun ds l1 ρ1 H1 vs e1 s1 o1 r1 p1 => ?_⟩
  split at p1
  · obtain ⟨v, v', rfl, w1, w2⟩ := r1.two_
    exact ⟨v, v', rfl, p1 ρ1 H1 _ Step.refl o1 (((s.step s1 o).set i w1).set j w2)⟩
  · exact p1.elim
theorem as_par {i j : Nat} {x y : Str} {px py pt : Pos} {kt k2 pt2} {fs : DEs} (hc : X.calm = true) (hN : X.N.Nodup) (hi : X.N[i]? = some x) (hj : X.N[j]? = some y) (hij : i ≠ j)
    (hx : X.env.scope.names.lookup x = some .local) (hy : X.env.scope.names.lookup y = some .local) (ha : AA X E [a, b] fs)
    (hw : swappedStores [.Tuple [.Name x px, .Name y py] kt pt] (.Tuple [a, b] k2 pt2) X.env = pure (some [x, y]))
    (hs : swapsWithSole [.Tuple [.Name x px, .Name y py] kt pt] (.Tuple [a, b] k2 pt2) pos.line X.env = pure false := by rfl) :
    AS X E (.Assign [.Tuple [.Name x px, .Name y py] kt pt] (.Tuple [a, b] k2 pt2) pos) (sPar i j fs) := ⟨PS.imp (ps_par hc hN hi hj hij hx hy ha.pa hw hs) fun D σ H h => par_of h⟩
theorem Rws.three_ {K : PySem.W.Frag} {ρ : List Addr} {H : Hp} {d d' d'' : D} {vs : List V} (r : Rws K ρ H [d, d', d''] vs) : ∃ v v' v'', vs = [v, v', v''] ∧ Rw K ρ H d v ∧ Rw K ρ H d' v' ∧ Rw K ρ H d'' v'' := by
  simp only [Rws] at r
  obtain ⟨v, u, rfl, r1, v', u', rfl, r2, v'', u'', rfl, r3, rfl⟩ := r
  exact ⟨v, v', v'', rfl, r1, r2, r3⟩
theorem par3_of {i j k : Nat} {fs : DEs} {D σ H} (h : tsOf X.K E (sPar3 i j k fs) D σ H) : tPar3 i j k (taOf X.K E fs) D σ H := by
  obtain ⟨ρ, l, g, o, s, p⟩ := h
  refine ⟨ρ, l, g, o, s, OutP.of (rel := rDs X.K) p fun ds l1 ρ1 H1 vs e1 s1 o1 r1 p1 => ?_⟩
  split at p1
  · obtain ⟨v, v', v'', rfl, w1, w2, w3⟩ := r1.three_
    exact ⟨v, v', v'', rfl, p1 ρ1 H1 _ Step.refl o1 ((((s.step s1 o).set i w1).set j w2).set k w3)⟩
  · exact p1.elim
/-- xs[i] = e -/
def hSetL : D → D → D → Sto → Option Sto
  | .adr n, .int i, d, l => match l[n]? with
    | some (.lst ds) => match ixN ds.length i with
      | some j => some (l.set n (.lst (ds.set j d)))
      | none => none
    | _ => none
  | _, _, _, _ => none
def sSub (fo fi f : DE) : DS := fun g l => (f g l).out fun d l1 => (fo g l1).out fun x l2 => (fi g l2).out fun y l3 => match hSetL x y d l3 with
  | some l4 => .nx g l4
  | none => .bad
theorem setL_of {K : PySem.W.Frag} {ρ : List Addr} {l l' : Sto} {H : Hp} {dx dy d : D} {x y v : V} {Q : Hp → Prop} (o : Own K ρ l H) (rx : Rw K ρ H dx x) (ry : Rw K ρ H dy y) (rv : Rw K ρ H d v) (h : hSetL dx dy d l = some l')
    (q : ∀ H', Step ρ H ρ H' → Own K ρ l' H' → Q H') : rSetL x y v H Q := by
  unfold hSetL at h
  split at h
  · split at h
    · rename_i es e1
      split at h
      · rename_i j e2
        cases h
        obtain ⟨a, us, rfl, hn, h1, r1⟩ := o.lst rx e1
        obtain ⟨o1, s1⟩ := o.set hn e1 (r1.set rv j)
        rw [ry.int_]
        exact ⟨a, us, _, j, rfl, rfl, h1, by rw [r1.length]; exact e2, q _ s1 o1⟩
      · cases h
    · cases h
  · cases h
theorem as_sub {oo ii : Expr} {fo fi : DE} (he : AE X E e f) (ho : AE X E oo fo) (hi : AE X E ii fi)
    (ha : ∀ v, assign (.Subscript oo ii pos') X.env v = (do
      let ov ← holding [v] (eval oo X.env)
      let iv ← holding [v, ov] (eval ii X.env)
      standAt pos'
      holding [v, ov, iv] (setItem ov iv v)
      release [v, ov, iv] []) := by intro _; rfl)
    (hs : swapsWithSole [.Subscript oo ii pos'] e pos.line X.env = pure false := by rfl) (hw : swappedStores [.Subscript oo ii pos'] e X.env = pure none := by rfl)
    (h1 : (assignEach [.Subscript oo ii pos'] X.env).map (·.2) = [assign (.Subscript oo ii pos') X.env] := by rfl) :
    AS X E (.Assign [.Subscript oo ii pos'] e pos) (sSub fo fi f) := ⟨PS.imp (ps_asg he.pe (pg_sub ho.pe hi.pe set_list ha) hs hw h1) fun D σ H ⟨ρ, l, g, o, s, p⟩ =>
  ⟨ρ, l, g, o, s, OutP.of (rel := rD X.K) p fun d l1 ρ1 H1 v e1 s1 o1 r1 p1 =>
    ⟨ρ1, l1, g, o1, s.step s1 o, OutP.of (rel := rD X.K) p1 fun x l2 ρ2 H2 xv e2 s2 o2 r2 p2 =>
      ⟨ρ2, l2, g, o2, (s.step s1 o).step s2 o1, OutP.of (rel := rD X.K) p2 fun y l3 ρ3 H3 yv e3 s3 o3 r3 p3 => by
        cases q : hSetL x y d l3 with
        | none => rw [q] at p3; exact p3.elim
        | some l4 =>
          rw [q] at p3
          exact setL_of o3 (s3.rw o2 r2) r3 (s3.rw o2 (s2.rw o1 r1)) q fun H' s4 o4 => p3 ρ3 H' σ s4 o4 ((((s.step s1 o).step s2 o1).step s3 o2).step s4 o3)⟩⟩⟩⟩
/-- x += e of a name, by an operator's abstract function -/
def sAug (i : Nat) (h : D → D → Sto → Res D) (f : DE) : DS := fun g l => match g[i]? with
  | some (some x) => (f g l).out fun y l1 => (h x y l1).out fun z l2 => .nx (g.set i (some z)) l2
  | _ => .bad
theorem as_aug {i : Nat} {x : Str} {op : Operator} {r : R2} {h : D → D → Sto → Res D} (hN : X.N.Nodup) (hi : X.N[i]? = some x) (hx : Loc X.env.scope x) (ho : PIp X op r) (hs : OpS X.K E r h) (he : AE X E e f)
    (hf : X.fn x = true ∨ X.env.scope.names.lookup x = some .local := by first | exact .inl rfl | exact .inr rfl | assumption) : AS X E (.AugAssign (.Name x pos') op e pos) (sAug i h f) := ⟨PS.imp (ps_aug hN hi hx he.pe ho hf) fun D σ H ⟨ρ, l, g, o, s, p⟩ => by
  unfold sAug at p
  split at p
  · rename_i d hd
    obtain ⟨v, hv, r0⟩ := s.at_ i d hd
    refine ⟨v, hv, ρ, l, g, o, s, OutP.of (rel := rD X.K) p fun y l1 ρ1 H1 u e1 s1 o1 r1 p1 => ?_⟩
    refine hs ρ1 l1 H1 d y v u _ o1 (s1.rw o r0) r1 (OutP.of (rel := rD X.K) p1 fun z l2 ρ2 H2 w e2 s2 o2 r2 p2 => ?_)
    exact p2 ρ2 H2 _ Step.refl o2 (((s.step s1 o).step s2 o1).set i r2)
  · exact p.elim⟩
theorem pip_of {op : Operator} {r : R2} (h : OpR X (inplaceOp op) r) : PIp X op r := fun pins s σ H x y v u Q I rx ry q => h pins s σ H x y v u Q I rx ry q
theorem hs_int0 {f : Int → Int → Int} : OpS X.K E (rI0 fun i j => .int (f i j)) (hInt yes2 f) := fun ρ l H dx dy x y Q o rx ry p => by
  unfold hInt at p
  split at p
  · obtain ⟨_, p⟩ := Post.ite p
    rw [rx.int_, ry.int_]
    exact ⟨_, _, rfl, rfl, p.here o rw_int⟩
  · exact p.elim
/-- xs[i] += e -/
def rGetL (K : PySem.W.Frag) : V → V → Hp → VK → Prop := fun x y H Q => ∃ p xs i v, x = .ref p ∧ y = .int i ∧ SqL K H p xs ∧ 0 ≤ i ∧ i < 2 ^ 62 ∧ xs[i.toNat]? = some v ∧ Q v H
theorem get_list : PGet X (rGetL X.K) := fun pins s σ H o i ov iv Q I ro ri h => by
  obtain ⟨p, xs, k, v, rfl, rfl, hq, h0, h1, he, q⟩ := h
  cases ro
  obtain ⟨t, rfl⟩ := ri
  obtain ⟨its, r, pl, hz⟩ := I.list hq
  obtain ⟨w, ew, rw'⟩ := r.get he
  exact wpAny_getItem_list pl.isList h0 (by omega) (by simpa using ew) ⟨v, H, I, rw', q⟩
def hGetL : D → D → Sto → Res D
  | .adr n, .int i, l => match l[n]? with
    | some (.lst ds) => if decide (0 ≤ i) && mid i then okO ds[i.toNat]? l else .bad
    | _ => .bad
  | _, _, _ => .bad
theorem hs_getL : OpS X.K E (rGetL X.K) hGetL := fun ρ l H dx dy x y Q o rx ry p => by
  unfold hGetL at p
  split at p
  · split at p
    · rename_i es e1
      obtain ⟨hc, p⟩ := Post.ite p
      rw [Bool.and_eq_true] at hc
      obtain ⟨d, e, p⟩ := p.okO_
      obtain ⟨a, us, rfl, hn, h1, r1⟩ := o.lst rx e1
      obtain ⟨v, e3, r2⟩ := r1.get e
      rw [ry.int_]
      exact ⟨a, us, _, v, rfl, rfl, SqL.of h1, of_decide_eq_true hc.1, (mid_ hc.2).2, e3, p.here o r2⟩
    · exact p.elim
  · exact p.elim
def sAugS (h : D → D → Sto → Res D) (fo fi f : DE) : DS := fun g l => (fo g l).out fun x l1 => (fi g l1).out fun y l2 => (hGetL x y l2).out fun z l3 => (f g l3).out fun w l4 => (h z w l4).out fun n l5 => match hSetL x y n l5 with
  | some l6 => .nx g l6
  | none => .bad
theorem as_augS {oo ii : Expr} {fo fi : DE} {op : Operator} {r : R2} {h : D → D → Sto → Res D} {tpos : Pos} (ho : AE X E oo fo) (hi : AE X E ii fi) (he : AE X E e f) (hp : PIp X op r) (hs : OpS X.K E r h)
    (ha : ∀ ov iv new, augStore ii ov iv new = (do holding [new, ov, iv] (setItem ov iv new); release [new, ov, iv] []; pure .next) := by intros; rfl) : AS X E (.AugAssign (.Subscript oo ii tpos) op e pos) (sAugS h fo fi f) := ⟨PS.imp (ps_augS ho.pe hi.pe get_list he.pe hp set_list ha) fun D σ H ⟨ρ, l, g, o, s, p⟩ => by
  refine ⟨ρ, l, g, o, s, OutP.of (rel := rD X.K) p fun x l1 ρ1 H1 xv e1 s1 o1 r1 p1 => ?_⟩
  have t1 := s.step s1 o
  refine ⟨ρ1, l1, g, o1, t1, OutP.of (rel := rD X.K) p1 fun y l2 ρ2 H2 yv e2 s2 o2 r2 p2 => ?_⟩
  have t2 := t1.step s2 o1
  refine hs_getL (E := E) ρ2 l2 H2 x y xv yv _ o2 (s2.rw o1 r1) r2 (OutP.of (rel := rD X.K) p2 fun z l3 ρ3 H3 zv e3 s3 o3 r3 p3 => ?_)
  have t3 := t2.step s3 o2
  refine ⟨ρ3, l3, g, o3, t3, OutP.of (rel := rD X.K) p3 fun w l4 ρ4 H4 wv e4 s4 o4 r4 p4 => ?_⟩
  have t4 := t3.step s4 o3
  refine hs ρ4 l4 H4 z w zv wv _ o4 (s4.rw o3 r3) r4 (OutP.of (rel := rD X.K) p4 fun n l5 ρ5 H5 nv e5 s5 o5 r5 p5 => ?_)
  have t5 := t4.step s5 o4
  cases q : hSetL x y n l5 with
  | none => rw [q] at p5; exact p5.elim
  | some l6 =>
    rw [q] at p5
    have x5 : Rw X.K ρ5 H5 x xv := s5.rw o4 (s4.rw o3 (s3.rw o2 (s2.rw o1 r1)))
    have y5 : Rw X.K ρ5 H5 y yv := s5.rw o4 (s4.rw o3 (s3.rw o2 r2))
    exact setL_of o5 x5 y5 r5 q fun H' s6 o6 => p5 ρ5 H' σ s6 o6 (t5.step s6 o5)⟩
/-! while -/
def sWhile : Nat → DB → DS → DS
  | 0, _, _ => fun _ _ => .bad
  | n + 1, c, b => fun g l => (c g l).out fun k l1 => if k = true then (match b g l1 with
    | .nx g2 l2 => sWhile n c b g2 l2
    | .ct g2 l2 => sWhile n c b g2 l2
    | .bk g2 l2 => .nx g2 l2
    | r => r) else .nx g l1
theorem as_while {n : Nat} (hp : PassesOwn (model X.prog X.w) X.A X.env X.xe) (hc : AT X E c ba) (hb : ASs X E body t) : AS X E (.While c body [] pos) (sWhile n ba t) := ⟨PS.imp (ps_while hp hc.pt hb.pss) fun D σ H h => by
  refine ⟨fun m σ H => tsOf X.K E (sWhile m ba t) D σ H, ⟨n, h⟩, fun m σ H w => ?_⟩
  obtain ⟨ρ, l, g, o, s, p⟩ := w
  cases m with
  | zero => exact p.elim
  | succ m =>
    refine ⟨ρ, l, g, o, s, OutP.of (rel := rB) p fun k l1 ρ1 H1 b e1 s1 o1 r1 p1 => ?_⟩
    cases r1
    cases k with
    | false => exact p1 ρ1 H1 σ Step.refl o1 (s.step s1 o)
    | true =>
      rw [if_pos rfl] at p1 ⊢
      refine ⟨fun σ' H' => tsOf X.K E (sWhile m ba t) D σ' H', fun σ' H' z => ⟨m, Nat.lt_succ_self _, z⟩, ρ1, l1, g, o1, s.step s1 o, ?_⟩
      cases q : t g l1 with
      | bad => rw [q] at p1; exact p1.elim
      | nx g2 l2 => rw [q] at p1; exact fun ρ' H' σ' s' o' z => ⟨ρ', l2, g2, o', z, OutP.step p1 s'⟩
      | ct g2 l2 => rw [q] at p1; exact fun ρ' H' σ' s' o' z => ⟨ρ', l2, g2, o', z, OutP.step p1 s'⟩
      | bk g2 l2 => rw [q] at p1; exact fun ρ' H' σ' s' o' z => p1 ρ' H' σ' s' o' z
      | rt d l2 => rw [q] at p1; exact p1
      | ex C fs l2 => rw [q] at p1; exact p1⟩
end
end Zb

set_option Elab.async false
set_option linter.all false
set_option maxRecDepth 100000
namespace Zb
open PySem L2
/-! ### what is walked -/
structure ItD where
  ds : List D
  src : Option Nat
def ItD.ok (it : ItD) (l : Sto) : Prop := match it.src with
  | none => True
  | some n => l[n]? = some (.lst it.ds)
structure JR (K : PySem.W.Frag) (ρ0 : List Addr) (H0 : Hp) (it : ItD) (J : It) : Prop where
  go : ∀ i ρ l H, i < it.ds.length → Own K ρ l H → Step ρ0 H0 ρ H → it.ok l → J.go i H
  yld : ∀ i ρ l H x H', i < it.ds.length → Own K ρ l H → Step ρ0 H0 ρ H → it.ok l → J.yld i H x H' → ∃ d, it.ds[i]? = some d ∧ Own K ρ l H' ∧ Step ρ H ρ H' ∧ Rw K ρ H' d x
  stop : ∀ ρ l H, Own K ρ l H → Step ρ0 H0 ρ H → it.ok l → J.stop it.ds.length H
abbrev DI := Sl → Sto → Res ItD
def iOf (K : PySem.W.Frag) (E : XK) (fi : DI) : TI := fun σ H R => ∃ ρ l g, Own K ρ l H ∧ Slt K ρ H σ g ∧ Post K E ρ H (fun ρ H it J => JR K ρ H it J) (fi g l) R
structure AI (X : Cx) (E : XK) (tg iter : Expr) (fi : DI) : Prop where
  pi : PI X tg iter (iOf X.K E fi)
theorem PI.imp {X : Cx} {tg e : Expr} {t u : TI} (h : PI X tg e t) (q : ∀ σ H R, u σ H R → t σ H R) : PI X tg e u := ⟨fun pins s σ H R I k => h.run pins s σ H R I (q σ H R k)⟩
theorem PI.or {X : Cx} {tg e : Expr} {t u : TI} (h : PI X tg e t) (k : PI X tg e u) : PI X tg e (fun σ H R => t σ H R ∨ u σ H R) := ⟨fun pins s σ H R I z => z.elim (h.run pins s σ H R I) (k.run pins s σ H R I)⟩
section
variable {X : Cx} {E : XK} {tg e a b c : Expr} {es : List Expr} {f : DE} {fs : DEs} {pos p : Pos}
def signs (z : Str) : List D := z.cps.toList.map fun c => .str ⟨#[c]⟩
def dIt (f : DE) : DI := fun g l => (f g l).bind fun d l1 => match d with
  | .tup ds => .ok ⟨ds, none⟩ l1
  | .adr n => match l1[n]? with
    | some (.lst ds) => .ok ⟨ds, some n⟩ l1
    | _ => .bad
  | .ro ns => .ok ⟨ns.map D.int, none⟩ l1
  | .str z => .ok ⟨signs z, none⟩ l1
  | _ => .bad
theorem jr_tup {K : PySem.W.Frag} {ρ0 : List Addr} {l0 : Sto} {H0 : Hp} {q : Addr} {vs : List V} {ds : List D} (o0 : Own K ρ0 l0 H0) (t : SqT K H0 q vs) (r : Rws K ρ0 H0 ds vs) : JR K ρ0 H0 ⟨ds, none⟩ (Itt K q) where
  go := fun i ρ l H hi o s _ => by
    have t1 := s.tk o0 _ _ t
    have hl : i < vs.length := by rw [r.length]; exact hi
    exact ⟨vs, vs[i], t1, List.getElem?_eq_getElem hl⟩
  yld := fun i ρ l H x H' hi o s _ y => by
    obtain ⟨rfl, y⟩ := y
    have t1 := s.tk o0 _ _ t
    obtain ⟨d, e1, e2⟩ := (s.rws o0 r).getV (y vs t1)
    exact ⟨d, e1, o, Step.refl, e2⟩
  stop := fun ρ l H o s _ => ⟨vs, s.tk o0 _ _ t, by rw [r.length]; exact Nat.le_refl _⟩
theorem jr_lst {K : PySem.W.Frag} {ρ0 : List Addr} {l0 : Sto} {H0 : Hp} {q : Addr} {n : Nat} {ds : List D} (o0 : Own K ρ0 l0 H0) (hn : ρ0[n]? = some q) : JR K ρ0 H0 ⟨ds, some n⟩ (Itl K q) where
  go := fun i ρ l H hi o s k => by
    have k : l[n]? = some (.lst ds) := k
    obtain ⟨vs, h1, r⟩ := o.at_ n _ q k (s.px n q hn)
    have hl : i < vs.length := by rw [r.length]; exact hi
    exact ⟨vs, vs[i], SqL.of h1, List.getElem?_eq_getElem hl⟩
  yld := fun i ρ l H x H' hi o s k y => by
    obtain ⟨rfl, y⟩ := y
    have k : l[n]? = some (.lst ds) := k
    obtain ⟨vs, h1, r⟩ := o.at_ n _ q k (s.px n q hn)
    obtain ⟨d, e1, e2⟩ := r.getV (y vs (SqL.of h1))
    exact ⟨d, e1, o, Step.refl, e2⟩
  stop := fun ρ l H o s k => by
    have k : l[n]? = some (.lst ds) := k
    obtain ⟨vs, h1, r⟩ := o.at_ n _ q k (s.px n q hn)
    exact ⟨vs, SqL.of h1, by rw [r.length]; exact Nat.le_refl _⟩
theorem jr_ro {K : PySem.W.Frag} {ρ0 : List Addr} {l0 : Sto} {H0 : Hp} {q : Addr} {ns : List Int} (o0 : Own K ρ0 l0 H0) (t : SqS K ρ0 H0 q (ns.map V.int)) : JR K ρ0 H0 ⟨ns.map D.int, none⟩ (Itl K q) where
  go := fun i ρ l H hi o s _ => by
    have t1 := ((s.mn o0).ss _ _ t).sq
    have hl : i < (ns.map V.int).length := by simpa using hi
    exact ⟨_, (ns.map V.int)[i], t1, List.getElem?_eq_getElem hl⟩
  yld := fun i ρ l H x H' hi o s _ y => by
    obtain ⟨rfl, y⟩ := y
    have t1 := ((s.mn o0).ss _ _ t).sq
    obtain ⟨d, e1, e2⟩ := (rws_ints (K := K) (ρ := ρ) (H := H') ns).getV (y _ t1)
    exact ⟨d, e1, o, Step.refl, e2⟩
  stop := fun ρ l H o s _ => ⟨_, ((s.mn o0).ss _ _ t).sq, by simp⟩
theorem jr_str {K : PySem.W.Frag} {ρ0 : List Addr} {H0 : Hp} {z : Str} : JR K ρ0 H0 ⟨signs z, none⟩ (Its z) where
  go := fun i ρ l H hi o s _ => by simpa [signs, Its] using hi
  yld := fun i ρ l H x H' hi o s _ y => by
    obtain ⟨rfl, c, e, rfl⟩ := y
    exact ⟨.str ⟨#[c]⟩, by simp [signs, e], o, Step.refl, rw_str⟩
  stop := fun ρ l H o s _ => by simp [signs, Its]
theorem ai_of (h : AE X E e f) : AI X E tg e (dIt f) := ⟨PI.imp (PI.or (pi_list h.pe) (PI.or (pi_tup h.pe) (pi_str h.pe))) fun σ H R ⟨ρ, l, g, o, s, p⟩ => by
  unfold dIt at p
  cases q : f g l with
  | bad => rw [q] at p; exact p.elim
  | exc C fs l1 =>
    rw [q] at p
    exact .inl ⟨ρ, l, g, o, s, by rw [q]; exact p⟩
  | ok d l1 =>
    rw [q] at p
    simp only [Res.bind] at p
    have go : ∀ (Q : V → Hp → Prop), (∀ ρ1 H1 v, Step ρ H ρ1 H1 → Own X.K ρ1 l1 H1 → Rw X.K ρ1 H1 d v → Q v H1) → teOf X.K E f σ H Q := fun Q k => ⟨ρ, l, g, o, s, by rw [q]; exact k⟩
    split at p
    · refine .inr (.inl (go _ fun ρ1 H1 v s1 o1 r1 => ?_))
      obtain ⟨a, vs, rfl, t, r⟩ := r1.tup_
      exact ⟨a, rfl, ⟨vs, t⟩, p ρ1 H1 _ s1 o1 (jr_tup o1 t r)⟩
    · split at p
      · rename_i n _ ds e1
        refine .inl (go _ fun ρ1 H1 v s1 o1 r1 => ?_)
        obtain ⟨a, vs, rfl, hn, h1, r⟩ := o1.lst r1 e1
        exact ⟨a, rfl, ⟨vs, SqL.of h1⟩, p ρ1 H1 _ s1 o1 (jr_lst o1 hn)⟩
      · exact p.elim
    · refine .inl (go _ fun ρ1 H1 v s1 o1 r1 => ?_)
      simp only [Rw] at r1
      obtain ⟨a, rfl, t⟩ := r1
      exact ⟨a, rfl, ⟨_, t.sq⟩, p ρ1 H1 _ s1 o1 (jr_ro o1 t)⟩
    · refine .inr (.inr (go _ fun ρ1 H1 v s1 o1 r1 => ?_))
      rw [r1.str_]
      exact ⟨_, rfl, p ρ1 H1 _ s1 o1 jr_str⟩
    · exact p.elim⟩
/-! ranges -/
def in62 (i : Int) : Bool := mid i
theorem in62_ {i : Int} (h : in62 i = true) : -(2 ^ 62) ≤ i ∧ i < 2 ^ 62 := by
  have := mid_ h
  exact ⟨Int.le_of_lt this.1, this.2⟩
def rng (lo : Int) (n : Nat) : List D := (List.range n).map fun i => .int (lo + (i : Nat))
def rngC (lo c : Int) (n : Nat) : List D := (List.range n).map fun i => .int (lo + (i : Nat) * c)
theorem jr_rng {K : PySem.W.Frag} {ρ0 : List Addr} {H0 : Hp} {lo : Int} {n : Nat} : JR K ρ0 H0 ⟨rng lo n, none⟩ (Itr lo n) where
  go := fun i ρ l H hi o s _ => by simpa [rng, Itr] using hi
  yld := fun i ρ l H x H' hi o s _ y => by
    obtain ⟨rfl, rfl⟩ := y
    have hi' : i < n := by simpa [rng] using hi
    exact ⟨.int (lo + i), by simp [rng, hi'], o, Step.refl, rw_int⟩
  stop := fun ρ l H o s _ => by simp [rng, Itr]
theorem jr_rngC {K : PySem.W.Frag} {ρ0 : List Addr} {H0 : Hp} {lo c : Int} {n : Nat} : JR K ρ0 H0 ⟨rngC lo c n, none⟩ (Itc lo c n) where
  go := fun i ρ l H hi o s _ => by simpa [rngC, Itc] using hi
  yld := fun i ρ l H x H' hi o s _ y => by
    obtain ⟨rfl, rfl⟩ := y
    have hi' : i < n := by simpa [rngC] using hi
    exact ⟨.int (lo + (i : Nat) * c), by simp [rngC, hi'], o, Step.refl, rw_int⟩
  stop := fun ρ l H o s _ => by simp [rngC, Itc]
def dRng1 (fs : DEs) : DI := fun g l => (fs g l).bind fun ds l1 => match ds with
  | [.int j] => if in62 j then .ok ⟨rng 0 j.toNat, none⟩ l1 else .bad
  | _ => .bad
def dRng2 (fs : DEs) : DI := fun g l => (fs g l).bind fun ds l1 => match ds with
  | [.int i, .int j] => if in62 i && in62 j then .ok ⟨rng i (j - i).toNat, none⟩ l1 else .bad
  | _ => .bad
theorem ai_range1 (hg : Gl X "range") (hm : X.mg "range" = none) (ha : AA X E [a] fs) (hs : starEach [a] X.env = [(false, eval a X.env)] := by rfl) : AI X E tg (.Call (.Name "range" p) [a] [] pos) (dRng1 fs) := ⟨PI.imp (pi_range1 hg hm ha.pa hs) fun σ H R ⟨ρ, l, g, o, s, pp⟩ => by
  refine ⟨ρ, l, g, o, s, ?_⟩
  unfold dRng1 at pp
  refine Post.bind pp fun ds l1 ρ1 H1 vs e1 s1 o1 r1 p1 => ?_
  split at p1
  · obtain ⟨hc, p1⟩ := Post.ite p1
    obtain ⟨v, rfl, w⟩ := r1.one_
    rw [w.int_]
    exact ⟨_, rfl, (in62_ hc).1, (in62_ hc).2, p1.here o1 jr_rng⟩
  · exact p1.elim⟩
theorem ai_range2 (hg : Gl X "range") (hm : X.mg "range" = none) (ha : AA X E [a, b] fs) (hs : starEach [a, b] X.env = [(false, eval a X.env), (false, eval b X.env)] := by rfl) (hs2 : starEach [b] X.env = [(false, eval b X.env)] := by rfl) : AI X E tg (.Call (.Name "range" p) [a, b] [] pos) (dRng2 fs) := ⟨PI.imp (pi_range2 hg hm ha.pa hs hs2) fun σ H R ⟨ρ, l, g, o, s, pp⟩ => by
  refine ⟨ρ, l, g, o, s, ?_⟩
  unfold dRng2 at pp
  refine Post.bind pp fun ds l1 ρ1 H1 vs e1 s1 o1 r1 p1 => ?_
  split at p1
  · obtain ⟨hc, p1⟩ := Post.ite p1
    obtain ⟨v, v', rfl, w, w'⟩ := r1.two_
    rw [Bool.and_eq_true] at hc
    rw [w.int_, w'.int_]
    exact ⟨_, _, rfl, ⟨(in62_ hc.1).1, (in62_ hc.1).2, (in62_ hc.2).1, (in62_ hc.2).2⟩, p1.here o1 jr_rng⟩
  · exact p1.elim⟩
end
/-! ### for -/
open Classical in
noncomputable def sForL (it : ItD) (gt : D → Sto → Sl → Option Sl) (b : DS) : List D → DS
  | [] => fun g l => if it.ok l then .nx g l else .bad
  | d :: r => fun g l => if it.ok l then (match gt d l g with
    | none => .bad
    | some g1 => match b g1 l with
      | .nx g2 l2 => sForL it gt b r g2 l2
      | .ct g2 l2 => sForL it gt b r g2 l2
      | .bk g2 l2 => .nx g2 l2
      | q => q) else .bad
noncomputable def sFor (fi : DI) (gt : D → Sto → Sl → Option Sl) (b : DS) : DS := fun g l => (fi g l).out fun it l1 => sForL it gt b it.ds g l1
section
variable {X : Cx} {E : XK} {tg e a b c iter : Expr} {es : List Expr} {f : DE} {fs : DEs} {pos p : Pos} {body : List Stmt} {t : DS} {fi : DI} {gt : D → Sto → Sl → Option Sl}
theorem forL_ok {K : PySem.W.Frag} {it : ItD} {ds : List D} {g : Sl} {l : Sto} {ρ : List Addr} {H : Hp} {D : Ends} (p : OutP K E ρ H D (sForL it gt t ds g l)) : it.ok l := by
  cases ds with
  | nil =>
    simp only [sForL] at p
    split at p
    · assumption
    · exact p.elim
  | cons d r =>
    simp only [sForL] at p
    split at p
    · assumption
    · exact p.elim
theorem as_for (hp : PassesOwn (model X.prog X.w) X.A X.env X.xe) (hc : X.calm = true) (hi : AI X E tg iter fi) (hg : AG X tg gt) (hb : ASs X E body t) (hs : ∀ x, foldedSetIterable iter X.env x = pure x := by intro _; rfl) :
    AS X E (.For tg iter body [] pos) (sFor fi gt t) := ⟨PS.imp (ps_for hp hc hi.pi hg.pg hb.pss hs) fun D σ H ⟨ρ, l, g, o, s, p⟩ => by
  refine ⟨ρ, l, g, o, s, OutP.of (rel := fun ρ H it J => JR X.K ρ H it J) p fun it l1 ρ1 H1 J e1 s1 o1 jr p1 => ?_⟩
  refine ⟨fun i m σ H => m = it.ds.length - i ∧ i ≤ it.ds.length ∧ ∃ ρ l g, Step ρ1 H1 ρ H ∧ Own X.K ρ l H ∧ Slt X.K ρ H σ g ∧ OutP X.K E ρ H D (sForL it gt t (it.ds.drop i) g l),
    ⟨_, rfl, Nat.zero_le _, ρ1, l1, g, Step.refl, o1, s.step s1 o, by rw [List.drop_zero]; exact p1⟩, ?_⟩
  rintro i m σ' H' ⟨rfl, hi, ρ', l', g', st, o', s', p'⟩
  have ok := forL_ok p'
  by_cases hlt : i < it.ds.length
  · refine .inr ⟨jr.go i ρ' l' H' hlt o' st ok, fun σ H => ∃ ρ l g, Step ρ1 H1 ρ H ∧ Own X.K ρ l H ∧ Slt X.K ρ H σ g ∧ OutP X.K E ρ H D (sForL it gt t (it.ds.drop (i + 1)) g l),
      fun σ2 H2 z => ⟨it.ds.length - (i + 1), by omega, rfl, hlt, z⟩, fun x H2 y => ?_⟩
    obtain ⟨d, ed, o2, s2, r2⟩ := jr.yld i ρ' l' H' x H2 hlt o' st ok y
    rw [List.drop_eq_getElem_cons hlt] at p'
    have eg : it.ds[i] = d := by
      rw [List.getElem?_eq_getElem hlt] at ed
      exact Option.some.inj ed
    rw [eg] at p'
    simp only [sForL, if_pos ok] at p'
    have p2 := p'.step s2
    refine ⟨ρ', l', g', d, o2, s'.step s2 o', r2, ?_⟩
    cases q : gt d l' g' with
    | none => rw [q] at p2; exact p2.elim
    | some g1 =>
      rw [q] at p2
      refine fun σ3 z => ⟨ρ', l', g1, o2, z, ?_⟩
      have st2 := st.trans s2
      simp only at p2
      cases qb : t g1 l' with
      | bad => rw [qb] at p2; exact p2.elim
      | nx g2 l2 => rw [qb] at p2; exact fun ρ3 H3 σ4 s3 o3 z3 => ⟨ρ3, l2, g2, st2.trans s3, o3, z3, OutP.step p2 s3⟩
      | ct g2 l2 => rw [qb] at p2; exact fun ρ3 H3 σ4 s3 o3 z3 => ⟨ρ3, l2, g2, st2.trans s3, o3, z3, OutP.step p2 s3⟩
      | bk g2 l2 => rw [qb] at p2; exact fun ρ3 H3 σ4 s3 o3 z3 => p2 ρ3 H3 σ4 s3 o3 z3
      | rt d2 l2 => rw [qb] at p2; exact p2
      | ex C gs l2 => rw [qb] at p2; exact p2
  · have e : i = it.ds.length := by omega
    subst e
    rw [List.drop_length] at p'
    simp only [sForL, if_pos ok] at p'
    exact .inl ⟨jr.stop ρ' l' H' o' st ok, p' ρ' H' σ' Step.refl o' s'⟩⟩
end
end Zb

set_option Elab.async false
set_option linter.all false
set_option maxRecDepth 100000
namespace Zb
open PySem L2
/-! ### list comprehensions -/
section
variable {K : PySem.W.Frag} {ρ : List Addr} {l : Sto} {H : Hp}
theorem Own.add {p : Addr} {ob : OB} (o : Own K ρ l H) (hp : p ∉ ρ) (m : Mn K ρ H (ρ ++ [p]) H) (w : Ow K (ρ ++ [p]) H ob p) : Own K (ρ ++ [p]) (l ++ [ob]) H := by
  refine ⟨?_, by simp [o.len], fun n ob' a e1 e2 => ?_⟩
  · rw [List.nodup_append]
    refine ⟨o.nd, by simp, fun a ha b hb => ?_⟩
    simp at hb; subst hb
    exact fun q => hp (q ▸ ha)
  · by_cases hn : n < l.length
    · rw [List.getElem?_append_left hn] at e1
      rw [List.getElem?_append_left (by rw [o.len]; exact hn)] at e2
      exact Ow.mono m (fun v e => e) (o.at_ n ob' a e1 e2)
    · have h1 := (List.getElem?_eq_some_iff.mp e1).1
      have hn' : n = l.length := by simp at h1; omega
      subst hn'
      have e3 : (ρ ++ [p])[l.length]? = some p := by rw [← o.len]; simp
      rw [e3] at e2; cases e2
      have e4 : (l ++ [ob])[l.length]? = some ob := by simp
      rw [e4] at e1; cases e1
      exact w
theorem mn_out {p : Addr} {xs ys : List V} (hp : H p = some (.lst xs)) : Mn K ρ H ρ (upd H p (.lst ys)) := by
  have ne : ∀ a u, H a = some u → (∀ zs, u ≠ .lst zs) → a ≠ p := fun a u e n q => by
    subst q
    rw [hp] at e; cases e
    exact n xs rfl
  refine ⟨fun _ _ h => h, fun a zs h => ?_, fun a zs h => ?_⟩
  · rcases h with (h | ⟨ob, h⟩) | h
    · exact .inl (.inl (by rw [upd_ne (ne a _ h (fun _ q => by cases q))]; exact h))
    · exact .inl (.inr ⟨ob, by rw [upd_ne (ne a _ h (fun _ q => by cases q))]; exact h⟩)
    · exact .inr h
  · rcases h with ⟨ob, h⟩ | h
    · exact .inl ⟨ob, by rw [upd_ne (ne a _ h (fun _ q => by cases q))]; exact h⟩
    · exact .inr h
theorem Own.out {p : Addr} {xs ys : List V} (o : Own K ρ l H) (hn : p ∉ ρ) (hp : H p = some (.lst xs)) : Own K ρ l (upd H p (.lst ys)) :=
  ⟨o.nd, o.len, fun n ob a e1 e2 => Ow.mono (mn_out hp) (fun v e => by rw [upd_ne (fun q => hn (by rw [← q]; exact List.mem_of_getElem? e2))]; exact e) (o.at_ n ob a e1 e2)⟩
theorem Slt.mn {ρ' : List Addr} {H' : Hp} {σ : L2.St} {g : Sl} (h : Slt K ρ H σ g) (m : Mn K ρ H ρ' H') : Slt K ρ' H' σ g := ⟨h.len, fun i d e => let ⟨v, a, b⟩ := h.at_ i d e; ⟨v, a, Rw.mono m d v b⟩⟩
end
def wipeD (g : Sl) : List Nat → Sl
  | [] => g
  | v :: vs => (wipeD g vs).set v none
theorem Slt.wipe {K : PySem.W.Frag} {ρ : List Addr} {H : Hp} {σ : L2.St} {g : Sl} (h : Slt K ρ H σ g) : ∀ vs, Slt K ρ H (L2.wipe σ vs) (wipeD g vs)
  | [] => h
  | v :: vs => by
    have ih := Slt.wipe h vs
    refine ⟨by simp [L2.wipe, wipeD, ih.len], fun i d e => ?_⟩
    by_cases q : v = i
    · subst q
      have hv : v < (wipeD g vs).length := by
        have := (List.getElem?_eq_some_iff.mp e).1
        simpa [wipeD] using this
      simp [wipeD, hv] at e
    · simp only [wipeD, List.getElem?_set_ne q] at e
      obtain ⟨u, a, b⟩ := ih.at_ i d e
      exact ⟨u, by simp only [L2.wipe, List.getElem?_set_ne q]; exact a, b⟩
theorem wipe_set_in {x : Option V} {i : Nat} : ∀ {vs : List Nat} {σ : L2.St}, i ∈ vs → L2.wipe (σ.set i x) vs = L2.wipe σ vs
  | v :: vs, σ, h => by
    by_cases q : i ∈ vs
    · simp only [L2.wipe, wipe_set_in q]
    · have e : i = v := by
        rcases List.mem_cons.mp h with h | h
        · exact h
        · exact absurd h q
      subst e
      have : ∀ (vs : List Nat) (σ : L2.St), i ∉ vs → L2.wipe (σ.set i x) vs = (L2.wipe σ vs).set i x := by
        intro vs
        induction vs with
        | nil => intro σ _; rfl
        | cons w ws ih =>
          intro σ hn
          have n1 : i ≠ w := fun z => hn (by rw [z]; exact List.mem_cons_self)
          have n2 : i ∉ ws := fun z => hn (List.mem_cons_of_mem _ z)
          simp only [L2.wipe, ih σ n2]
          exact List.set_comm _ _ n1
      simp only [L2.wipe, this vs σ q, List.set_set]
theorem wipe_wipe (σ : L2.St) : ∀ vs ws : List Nat, (∀ v ∈ ws, v ∈ vs) → L2.wipe (L2.wipe σ ws) vs = L2.wipe σ vs
  | vs, [], _ => rfl
  | vs, w :: ws, h => by
    simp only [L2.wipe]
    rw [wipe_set_in (h w List.mem_cons_self)]
    exact wipe_wipe σ vs ws fun v hv => h v (List.mem_cons_of_mem _ hv)
theorem wipe_self (σ : L2.St) (vs : List Nat) : L2.wipe (L2.wipe σ vs) vs = L2.wipe σ vs := wipe_wipe σ vs vs fun _ h => h
open Classical in
noncomputable def lcL (it : ItD) (gt : D → Sto → Sl → Option Sl) (ct : DB) (fe : DE) (gw : Sl) : List D → Sto → List D → Res (List D)
  | [], l, acc => if it.ok l then .ok acc l else .bad
  | d :: r, l, acc => if it.ok l then (match gt d l gw with
    | none => .bad
    | some g1 => (ct g1 l).nox.bind fun b l1 => if b = true then (fe g1 l1).nox.bind fun y l2 => if small (acc.length + 1) then lcL it gt ct fe gw r l2 (acc ++ [y]) else .bad else lcL it gt ct fe gw r l1 acc) else .bad
noncomputable def dLc (fi : DI) (gt : D → Sto → Sl → Option Sl) (ct : DB) (fe : DE) (vs : List Nat) : DE := fun g l => (fi g l).bind fun it l1 => (lcL it gt ct fe (wipeD g vs) it.ds l1 []).bind fun acc l2 => .ok (.adr l2.length) (l2 ++ [.lst acc])
/-- a target that is wiped again -/
structure AGw (tg : TG) (K : PySem.W.Frag) (vs : List Nat) (gt : D → Sto → Sl → Option Sl) : Prop where
  go : ∀ ρ l g σ H d v g', Own K ρ l H → Slt K ρ H σ g → Rw K ρ H d v → gt d l g = some g' → ∀ Q : L2.St → Hp → Prop, (∀ σ', Slt K ρ H σ' g' → L2.wipe σ' vs = L2.wipe σ vs → Q σ' H) → tg v σ H Q
theorem agw_name {K : PySem.W.Frag} {i : Nat} {vs : List Nat} (h : i ∈ vs) : AGw (gName i) K vs (gN i) := ⟨fun ρ l g σ H d v g' o s r e Q q => by
  cases e
  exact q _ (s.set i r) (wipe_set_in h)⟩
theorem agw_two {K : PySem.W.Frag} {i j : Nat} {vs : List Nat} (h : i ∈ vs) (k : j ∈ vs) : AGw (gTup K 2 (gCons (gName i) (gCons (gName j) gNil))) K vs (gT [i, j]) := ⟨fun ρ l g σ H d v g' o s r e Q q => by
  cases d with
  | tup ds =>
    obtain ⟨a, us, rfl, t, w⟩ := r.tup_
    simp only [gT] at e
    match ds, e, w with
    | [x, y], e, w =>
      obtain ⟨v1, v2, rfl, w1, w2⟩ := w.two_
      cases e
      refine ⟨a, _, rfl, t, rfl, v1, _, rfl, v2, _, rfl, rfl, ?_⟩
      exact q _ ((s.set i w1).set j w2) (by rw [wipe_set_in k, wipe_set_in h])
    | [], e, _ => cases e
    | [_], e, _ => cases e
    | _ :: _ :: _ :: _, e, _ => cases e
  | _ => cases e⟩
theorem agw_three {K : PySem.W.Frag} {i j m : Nat} {vs : List Nat} (h : i ∈ vs) (k : j ∈ vs) (h3 : m ∈ vs) : AGw (gTup K 3 (gCons (gName i) (gCons (gName j) (gCons (gName m) gNil)))) K vs (gT [i, j, m]) := ⟨fun ρ l g σ H d v g' o s r e Q q => by
  cases d with
  | tup ds =>
    obtain ⟨a, us, rfl, t, w⟩ := r.tup_
    simp only [gT] at e
    match ds, e, w with
    | [x, y, z], e, w =>
      obtain ⟨v1, v2, v3, rfl, w1, w2, w3⟩ := w.three_
      cases e
      refine ⟨a, _, rfl, t, rfl, v1, _, rfl, v2, _, rfl, v3, _, rfl, rfl, ?_⟩
      exact q _ (((s.set i w1).set j w2).set m w3) (by rw [wipe_set_in h3, wipe_set_in k, wipe_set_in h])
    | [], e, _ => cases e
    | [_], e, _ => cases e
    | [_, _], e, _ => cases e
    | _ :: _ :: _ :: _ :: _, e, _ => cases e
  | _ => cases e⟩
section
variable {X : Cx} {E : XK} {K : PySem.W.Frag} {tg : TG} {vs : List Nat} {gt : D → Sto → Sl → Option Sl} {fi : DI} {ct : DB} {fe : DE}
theorem lcL_ok {it : ItD} {ds : List D} {gw : Sl} {l : Sto} {acc : List D} {α : Type} {k : List D → Sto → Res α} (p : (lcL it gt ct fe gw ds l acc).bind k ≠ .bad) : it.ok l := by
  cases ds with
  | nil =>
    simp only [lcL] at p
    split at p
    · assumption
    · exact absurd rfl p
  | cons d r =>
    simp only [lcL] at p
    split at p
    · assumption
    · exact absurd rfl p
theorem Post.ne {α β : Type} {ρ : List Addr} {H : Hp} {rel : List Addr → Hp → α → β → Prop} {r : Res α} {Q : β → Hp → Prop} (p : Post K E ρ H rel r Q) : r ≠ .bad := fun e => by rw [e] at p; exact p
theorem lc_of (ag : AGw tg K vs gt) {σ H Q} (h : teOf K E (dLc fi gt ct fe vs) σ H Q) : tLc (iOf K E fi) tg (ttOf K E0 ct) (teOf K E0 fe) vs σ H Q := by
  obtain ⟨ρ, l, g, o, s, p⟩ := h
  refine ⟨ρ, l, g, o, s, Post.bind p fun it l1 ρ1 H1 J e1 s1 o1 jr p1 => ?_⟩
  intro Dl hD
  have nD : Dl ∉ ρ1 := o1.nop hD
  have sw := (s.step s1 o).wipe vs
  have up0 : Step ρ1 H1 ρ1 (upd H1 Dl (.lst [])) := step_upd hD
  refine ⟨fun i m H => m = it.ds.length - i ∧ i ≤ it.ds.length ∧ ∃ ρ l acc av, Step ρ1 H1 ρ H ∧ Own K ρ l H ∧ Slt K ρ H (L2.wipe σ vs) (wipeD g vs) ∧ Dl ∉ ρ ∧ H Dl = some (.lst av) ∧ Rws K ρ H acc av ∧
      Post K E ρ1 H1 (rD K) ((lcL it gt ct fe (wipeD g vs) (it.ds.drop i) l acc).bind fun acc l2 => .ok (.adr l2.length) (l2 ++ [.lst acc])) Q,
    ⟨_, rfl, Nat.zero_le _, ρ1, l1, [], [], up0, ⟨o1.nd, o1.len, fun n ob a q1 q2 => Ow.mono (up0.mn o1) (fun u e => by rw [upd_ne (ne_of_none e hD)]; exact e) (o1.at_ n ob a q1 q2)⟩, sw.step up0 o1, nD, upd_same, Rws.nil, by rw [List.drop_zero]; exact p1⟩, ?_⟩
  rintro i m H2 ⟨rfl, hi, ρ2, l2, acc, av, st, o2, s2, nD2, hD2, ra, p2⟩
  have ok := lcL_ok (Post.ne p2)
  by_cases hlt : i < it.ds.length
  · refine .inr ⟨jr.go i ρ2 l2 H2 hlt o2 st ok, fun H => ∃ ρ l acc av, Step ρ1 H1 ρ H ∧ Own K ρ l H ∧ Slt K ρ H (L2.wipe σ vs) (wipeD g vs) ∧ Dl ∉ ρ ∧ H Dl = some (.lst av) ∧ Rws K ρ H acc av ∧
      Post K E ρ1 H1 (rD K) ((lcL it gt ct fe (wipeD g vs) (it.ds.drop (i + 1)) l acc).bind fun acc l2 => .ok (.adr l2.length) (l2 ++ [.lst acc])) Q, fun H' z => ⟨_, by omega, rfl, hlt, z⟩, fun x H3 y => ?_⟩
    obtain ⟨d, ed, o3, st3, r3⟩ := jr.yld i ρ2 l2 H2 x H3 hlt o2 st ok y
    rw [List.drop_eq_getElem_cons hlt] at p2
    have eg : it.ds[i] = d := by
      rw [List.getElem?_eq_getElem hlt] at ed
      exact Option.some.inj ed
    rw [eg] at p2
    simp only [lcL, if_pos ok] at p2
    have hD3 : H3 Dl = some (.lst av) := st3.keep _ _ hD2 nD2
    have s3 := s2.step st3 o2
    have ra3 := st3.rws o2 ra
    cases q : gt d l2 (wipeD g vs) with
    | none => rw [q] at p2; exact p2.elim
    | some g1 =>
      rw [q] at p2
      simp only at p2
      refine ag.go ρ2 l2 _ _ H3 d x g1 o3 s3 r3 q _ fun σ4 s4 hw => ⟨by rw [hw, wipe_self], ρ2, l2, g1, o3, s4, ?_⟩
      cases qc : ct g1 l2 with
      | bad => rw [qc] at p2; exact p2.elim
      | exc C fs l3 => rw [qc] at p2; exact p2.elim
      | ok b l3 =>
        rw [qc] at p2
        simp only [Res.nox, Res.bind] at p2
        intro ρ4 H4 b' st4 o4 eb
        cases eb
        have nD4 : Dl ∉ ρ4 := fun z => by
          have := st4.new Dl z nD2
          rw [hD3] at this; cases this
        have hD4 : H4 Dl = some (.lst av) := st4.keep _ _ hD3 nD2
        have s5 := s4.step st4 o3
        have ra4 := st4.rws o3 ra3
        cases b with
        | false =>
          rw [if_neg Bool.false_ne_true] at p2 ⊢
          exact ⟨ρ4, l3, acc, av, (st.trans st3).trans st4, o4, s3.step st4 o3, nD4, hD4, ra4, p2⟩
        | true =>
          rw [if_pos rfl] at p2 ⊢
          refine ⟨ρ4, l3, g1, o4, s5, ?_⟩
          cases qe : fe g1 l3 with
          | bad => rw [qe] at p2; exact p2.elim
          | exc C fs l4 => rw [qe] at p2; exact p2.elim
          | ok y l4 =>
            rw [qe] at p2
            simp only [Res.nox, Res.bind] at p2
            intro ρ5 H5 yv st5 o5 r5
            by_cases hs : small (acc.length + 1) = true
            · rw [if_pos hs] at p2
              have nD5 : Dl ∉ ρ5 := fun z => by
                have := st5.new Dl z nD4
                rw [hD4] at this; cases this
              have hD5 : H5 Dl = some (.lst av) := st5.keep _ _ hD4 nD4
              have m5 : Mn K ρ5 H5 ρ5 (upd H5 Dl (.lst (av ++ [yv]))) := mn_out hD5
              have ra5 := st5.rws o4 ra4
              have stF := ((st.trans st3).trans st4).trans st5
              refine ⟨av, hD5, by rw [ra5.length]; exact small_lt hs, ρ5, l4, acc ++ [y], av ++ [yv], ⟨stF.pre, fun a ob e n => ?_, stF.new⟩, o5.out nD5 hD5, ((s3.step st4 o3).step st5 o4).mn m5, nD5, upd_same, Rws.mono m5 _ _ (ra5.app (Rws.one r5)), p2⟩
              rw [upd_ne (fun z => by rw [z, hD] at e; cases e)]
              exact stF.keep a ob e n
            · rw [if_neg hs] at p2
              exact p2.elim
  · have e : i = it.ds.length := by omega
    subst e
    rw [List.drop_length] at p2
    simp only [lcL, if_pos ok, Res.bind] at p2
    refine .inl ⟨jr.stop ρ2 l2 H2 o2 st ok, ?_⟩
    have m2 : Mn K ρ2 H2 (ρ2 ++ [Dl]) H2 := ⟨px_app, Tk.refl, fun _ _ h => h⟩
    have o3 : Own K (ρ2 ++ [Dl]) (l2 ++ [.lst acc]) H2 := o2.add nD2 m2 ⟨av, hD2, Rws.mono m2 _ _ ra⟩
    obtain ⟨t, ht⟩ := st.pre
    refine p2 (ρ2 ++ [Dl]) H2 _ ⟨⟨t ++ [Dl], by rw [ht]; simp⟩, st.keep, fun a ha hn => ?_⟩ o3 (rw_adr (by rw [← o2.len]; simp))
    rcases List.mem_append.mp ha with ha | ha
    · exact st.new a ha hn
    · simp at ha; subst ha; exact hD
theorem ae_lc {elt tg' iter : Expr} {ifs : List Expr} {scope : Scope} {own : List (Str × Nat)} {pos : Pos} (hc : X.calm = true) (hN : X.N.Nodup) (hi : AI X E tg' iter fi) (ok : BlkOk X.N X.env.scope scope own)
    (hg : ∀ (s : Shared) (H : Hp) (C : Addr) (cl : List (Str × Addr)) (fp : List Addr), PG (X.blk s H scope (compEnvC scope cl C X.env) fp) tg' tg)
    (ht : ∀ (s : Shared) (H : Hp) (C : Addr) (cl : List (Str × Addr)) (fp : List Addr), PTs (X.blk s H scope (compEnvC scope cl C X.env) fp) ifs (ttOf X.K E0 ct))
    (he : ∀ (s : Shared) (H : Hp) (C : Addr) (cl : List (Str × Addr)) (fp : List Addr), AE (X.blk s H scope (compEnvC scope cl C X.env) fp) E0 elt fe)
    (ag : AGw tg X.K (own.map (·.2)) gt) (hs : ∀ x, foldedSetIterable iter X.env x = pure x := by intro _; rfl) :
    AE X E (.ListComp elt [⟨tg', iter, ifs, 0⟩] scope pos) (dLc fi gt ct fe (own.map (·.2))) := ⟨PE.imp (pe_lc hc hN hi.pi ok hg ht (fun s H C cl fp => (he s H C cl fp).pe) hs) fun σ H Q h => lc_of ag h⟩
theorem as_setLc {i : Nat} {y : Str} {py : Pos} {elt tg' iter : Expr} {ifs : List Expr} {scope : Scope} {own : List (Str × Nat)} {pos spos : Pos} (hc : X.calm = true) (hN : X.N.Nodup) (hy : X.N[i]? = some y) (hyl : X.env.scope.names.lookup y = some .local)
    (hsw : swapsWith (.ListComp elt [⟨tg', iter, ifs, 0⟩] scope pos) (some (.Name y py)) spos.line X.env = pure true) (hi : AI X E tg' iter fi) (ok : BlkOk X.N X.env.scope scope own)
    (hg : ∀ (s : Shared) (H : Hp) (C : Addr) (cl : List (Str × Addr)) (fp : List Addr), PG (X.blk s H scope (compEnvC scope cl C X.env) fp) tg' tg)
    (ht : ∀ (s : Shared) (H : Hp) (C : Addr) (cl : List (Str × Addr)) (fp : List Addr), PTs (X.blk s H scope (compEnvC scope cl C X.env) fp) ifs (ttOf X.K E0 ct))
    (he : ∀ (s : Shared) (H : Hp) (C : Addr) (cl : List (Str × Addr)) (fp : List Addr), AE (X.blk s H scope (compEnvC scope cl C X.env) fp) E0 elt fe)
    (ag : AGw tg X.K (own.map (·.2)) gt) (hs : ∀ x, foldedSetIterable iter X.env x = pure x := by intro _; rfl) :
    AS X E (.Assign [.Name y py] (.ListComp elt [⟨tg', iter, ifs, 0⟩] scope pos) spos) (sSet i (dLc fi gt ct fe (own.map (·.2)))) := ⟨PS.imp (ps_setLc hc hN hy hyl hsw hi.pi ok hg ht (fun s H C cl fp => (he s H C cl fp).pe) hs) fun D σ H ⟨ρ, l, g, o, s, p⟩ =>
      lc_of ag ⟨ρ, l, g, o, s, OutP.of (rel := rD X.K) p fun d l1 ρ1 H1 v e1 s1 o1 r1 p1 => p1 ρ1 H1 _ Step.refl o1 ((s.step s1 o).set i r1)⟩⟩
/-- no test -/
def dYes : DB := fun _ l => .ok true l
theorem pts_none : PTs X [] (ttOf X.K E0 dYes) := ⟨fun pins s σ H Q I h => by
  obtain ⟨ρ, l, g, o, sl, p⟩ := h
  exact pts_nil.run pins s σ H Q I (Post.here p o rfl)⟩
theorem pts_one_ {c : Expr} {b : DB} (h : AT X E0 c b) : PTs X [c] (ttOf X.K E0 b) := pts_one h.pt
end
end Zb

set_option Elab.async false
set_option linter.all false
set_option maxRecDepth 100000
namespace Zb
open PySem L2 PySem.Spec PyProof.Rows
/-! ### defs -/
def startD (n : Nat) (ds : List D) : Sl := ds.map some ++ List.replicate (n - ds.length) none
/-- what a def whose body is den hands back; nothing is raised -/
def runB (n : Nat) (den : DS) : List D → Sto → Res D := fun ds l => match den (startD n ds) l with
  | .rt d l' => .ok d l'
  | .nx _ l' => .ok .non l'
  | _ => .bad
theorem slt_start {K : PySem.W.Frag} {ρ : List Addr} {H : Hp} {N : List Str} {ds : List D} {vs : List V} (r : Rws K ρ H ds vs) : Slt K ρ H (L2.start N vs) (startD N.length ds) := by
  have hl := r.length
  refine ⟨by simp [L2.start, startD, hl], fun i d e => ?_⟩
  unfold startD at e
  unfold L2.start
  by_cases h : i < ds.length
  · rw [List.getElem?_append_left (by simpa using h), List.getElem?_map] at e
    rw [List.getElem?_append_left (by simpa [hl] using h), List.getElem?_map]
    cases q : ds[i]? with
    | none => rw [q] at e; cases e
    | some d' =>
      rw [q] at e
      have e' : d' = d := by simpa using e
      subst e'
      obtain ⟨v, a, b⟩ := r.get q
      exact ⟨v, by rw [a]; rfl, b⟩
  · rw [List.getElem?_append_right (by simpa using h)] at e
    exact absurd e (by
      intro q
      have := List.getElem?_eq_some_iff.mp q
      obtain ⟨h1, h2⟩ := this
      simp at h2)
section
variable {P : Program} {w : World} {K : PySem.W.Frag} {mg : Str → Option Value} {base : Heap} {k n : Nat} {f : Addr} {fd : FuncData} {ps N : List Str} {x qual : Str} {st : Stmt}
theorem ok_body {den : DS} (F : Fun K x qual st f fd) (S : FnScope N ps (defScope st))
    (hb : ∀ (cdv : Value) (A : Around) (outer : List Env) (s : Shared) (H : Hp) (E : XK), Room k (A.deeper (envOfC qual (defScope st) s.heap.objs.size f cdv)) →
      ASs (cxOf CX0 P w K mg base N qual (defScope st) f cdv A outer s H E).nox E0 (defBody st) den) : FnOk P w K mg base CX0 (k + 1) f fd ps (spD K ps.length (runB N.length den)) := by
  refine F.ok S (fun vs H Q E h => ?_) (fun cdv A outer s H vs Q E hr h => ?_)
  · obtain ⟨ρ, l, ds, o, r, hl, _⟩ := h
    rw [r.length, hl]
  · obtain ⟨ρ, l, ds, o, r, hl, p⟩ := h
    refine ⟨_, (hb cdv A outer s H E hr).pss, ρ, l, startD N.length ds, o, slt_start r, ?_⟩
    unfold runB at p
    cases q : den (startD N.length ds) l with
    | bad => rw [q] at p; exact p
    | nx g l' => rw [q] at p; exact fun ρ' H' σ' s' o' _ => p ρ' H' .non s' o' rw_non
    | rt d l' => rw [q] at p; exact fun ρ' H' v s' o' r' => p ρ' H' v s' o' r'
    | bk g l' => rw [q] at p; exact p.elim
    | ct g l' => rw [q] at p; exact p.elim
    | ex C gs l' => rw [q] at p; exact p.elim
/-! other promises out of it -/
theorem imp_D {CX : CXT} {m m' : List D → Sto → Res D} (F : FnOk P w K mg base CX k f fd ps (spD K n m)) (h : ∀ ds l, ds.length = n → m' ds l ≠ .bad → m ds l = m' ds l) : FnOk P w K mg base CX k f fd ps (spD K n m') :=
  F.imp fun vs H Q E ⟨ρ, l, ds, o, r, hl, p⟩ => ⟨ρ, l, ds, o, r, hl, by rw [h ds l hl (Post.ne p)]; exact p⟩
theorem imp_P {CX : CXT} {m : List D → Sto → Res D} {pf : List D → Option D} (F : FnOk P w K mg base CX k f fd ps (spD K n m)) (h : ∀ ds d, ds.length = n → pf ds = some d → ∃ l', m ds [] = .ok d l' ∧ pu d = true) : FnOk P w K mg base CX k f fd ps (spP K n pf) :=
  F.imp fun vs H Q E ⟨ds, d, r, hl, e, q⟩ => ⟨[], [], ds, Own.nil, r, hl, by
    obtain ⟨l', e2, hp⟩ := h ds d hl e
    rw [e2]
    exact fun ρ' H' v s o r' => q v H' s.same (Rw.pure_ Tk.refl d v hp r')⟩
theorem imp_L {CX : CXT} {m : List D → Sto → Res D} {lf : List D → Option (List D)} (F : FnOk P w K mg base CX k f fd ps (spD K n m)) (h : ∀ ds xs, ds.length = n → lf ds = some xs → ∃ l' j, m ds [] = .ok (.adr j) l' ∧ l'[j]? = some (.lst xs) ∧ pus xs = true) : FnOk P w K mg base CX k f fd ps (spL K n lf) :=
  F.imp fun vs H Q E ⟨ds, xs, r, hl, e, q⟩ => ⟨[], [], ds, Own.nil, r, hl, by
    obtain ⟨l', j, e2, e3, hp⟩ := h ds xs hl e
    rw [e2]
    intro ρ' H' v s o r'
    simp only [Rw] at r'
    obtain ⟨a, ha, rfl⟩ := r'
    obtain ⟨us, h1, r2⟩ := o.at_ j _ a e3 ha
    exact q a us H' (s.new a (List.mem_of_getElem? ha) (by simp)) s.same h1 (Rws.pure_ Tk.refl xs us hp r2)⟩
end
/-! what is left in the store behind a call may be forgotten -/
mutual
def clD (n : Nat) : D → Bool
  | .adr m => decide (m < n)
  | .tup ds => clDs n ds
  | _ => true
def clDs (n : Nat) : List D → Bool
  | [] => true
  | d :: ds => clD n d && clDs n ds
end
def clO (n : Nat) : OB → Bool
  | .lst ds => clDs n ds
  | .dct kvs => clDs n (kvs.map (·.2))
section
variable {K : PySem.W.Frag} {ρ t : List Addr} {l : Sto} {H : Hp}
mutual
theorem Rw.cl : ∀ (d : D) (v : V), clD ρ.length d = true → Rw K (ρ ++ t) H d v → Rw K ρ H d v
  | .non, _, _, h => by simpa [Rw] using h
  | .bl _, _, _, h => by simpa [Rw] using h
  | .int _, _, _, h => by simpa [Rw] using h
  | .str _, _, _, h => by simpa [Rw] using h
  | .ty _, _, _, h => by simpa [Rw] using h
  | .ro _, _, _, h => by
    simp only [Rw] at h ⊢
    exact h
  | .adr m, v, c, h => by
    simp only [Rw] at h ⊢
    obtain ⟨a, e, rfl⟩ := h
    have hm : m < ρ.length := by simpa [clD] using c
    rw [List.getElem?_append_left hm] at e
    exact ⟨a, e, rfl⟩
  | .tup ds, v, c, h => by
    obtain ⟨a, vs, rfl, q, r⟩ := h.tup_
    exact rw_tup q (Rws.cl ds vs (by simpa [clD] using c) r)
theorem Rws.cl : ∀ (ds : List D) (vs : List V), clDs ρ.length ds = true → Rws K (ρ ++ t) H ds vs → Rws K ρ H ds vs
  | [], _, _, h => by simpa [Rws] using h
  | d :: ds, vs, c, h => by
    simp only [Rws] at h
    obtain ⟨v, u, rfl, r1, r2⟩ := h
    simp only [clDs, Bool.and_eq_true] at c
    exact Rws.cons (Rw.cl d v c.1 r1) (Rws.cl ds u c.2 r2)
end
theorem Ow.cl {o : OB} {a : Addr} (c : clO ρ.length o = true) (h : Ow K (ρ ++ t) H o a) : Ow K ρ H o a := by
  cases o with
  | lst ds => obtain ⟨vs, e, r⟩ := h; exact ⟨vs, e, Rws.cl _ _ c r⟩
  | dct ds => obtain ⟨vs, e, q, r⟩ := h; exact ⟨vs, e, q, Rws.cl _ _ c r⟩
variable {P : Program} {w : World} {mg : Str → Option Value} {base : Heap} {k n : Nat} {f : Addr} {fd : FuncData} {ps : List Str}
theorem imp_S {CX : CXT} {m m' : List D → Sto → Res D} (F : FnOk P w K mg base CX k f fd ps (spD K n m))
    (h : ∀ ds l, ds.length = n → m' ds l ≠ .bad → ∃ d l2 junk, m' ds l = .ok d l2 ∧ m ds l = .ok d (l2 ++ junk) ∧ l2.length = l.length ∧ clD l.length d = true ∧ ∀ o ∈ l2, clO l.length o = true) : FnOk P w K mg base CX k f fd ps (spD K n m') :=
  F.imp fun vs H Q E ⟨ρ, l, ds, o, r, hl, p⟩ => ⟨ρ, l, ds, o, r, hl, by
    obtain ⟨d, l2, junk, e1, e2, e3, e4, e5⟩ := h ds l hl (Post.ne p)
    rw [e1] at p
    rw [e2]
    intro ρ' H' v s o' r'
    obtain ⟨t, rfl⟩ := s.pre
    have hρ : ρ.length = l.length := o.len
    refine p ρ H' v ⟨⟨[], by simp⟩, s.keep, fun a h n => absurd h n⟩ ⟨o.nd, by rw [hρ, e3], fun i ob a q1 q2 => ?_⟩ (Rw.cl d v (by rw [hρ]; exact e4) r')
    have hi : i < l2.length := (List.getElem?_eq_some_iff.mp q1).1
    refine Ow.cl (t := t) (by rw [hρ]; exact e5 ob (List.mem_of_getElem? q1)) (o'.at_ i ob a (by rw [List.getElem?_append_left hi]; exact q1) (by rw [List.getElem?_append_left (List.getElem?_eq_some_iff.mp q2).1]; exact q2))⟩
end
end Zb

set_option Elab.async false
set_option linter.all false
set_option maxRecDepth 100000
namespace Zb
open PySem L2 PySem.Spec PyProof.Rows
/-- a def of the module that keeps a promise -/
structure Has (CX : CXT) (P : Program) (w : World) (K : PySem.W.Frag) (mg : Str → Option Value) (base : Heap) (x : Str) (k : Nat) (ps : List Str) (sp : Sp) : Prop where
  ex : ∃ (f : Addr) (fd : FuncData), mg x = some (.ref f) ∧ PySem.W.keepIn K (.ref f) = true ∧ Binds K fd ps [] ∧ FnOk P w K mg base CX k f fd ps sp
section
variable {P : Program} {w : World} {K : PySem.W.Frag} {mg : Str → Option Value} {base : Heap} {x : Str} {k n : Nat} {ps : List Str}
theorem Has.mono {CX : CXT} {j : Nat} {sp : Sp} (h : Has CX P w K mg base x j ps sp) (l : j ≤ k) : Has CX P w K mg base x k ps sp :=
  let ⟨f, fd, a, b, c, d⟩ := h.ex; ⟨f, fd, a, b, c, d.mono l⟩
theorem Has.toD {CX : CXT} {m m' : List D → Sto → Res D} (h : Has CX P w K mg base x k ps (spD K n m)) (q : ∀ ds l, ds.length = n → m' ds l ≠ .bad → m ds l = m' ds l) : Has CX P w K mg base x k ps (spD K n m') :=
  let ⟨f, fd, a, b, c, d⟩ := h.ex; ⟨f, fd, a, b, c, imp_D d q⟩
theorem Has.toP {CX : CXT} {m : List D → Sto → Res D} {pf : List D → Option D} (h : Has CX P w K mg base x k ps (spD K n m)) (q : ∀ ds d, ds.length = n → pf ds = some d → ∃ l', m ds [] = .ok d l' ∧ pu d = true) : Has CX P w K mg base x k ps (spP K n pf) :=
  let ⟨f, fd, a, b, c, d⟩ := h.ex; ⟨f, fd, a, b, c, imp_P d q⟩
theorem Has.toL {CX : CXT} {m : List D → Sto → Res D} {lf : List D → Option (List D)} (h : Has CX P w K mg base x k ps (spD K n m)) (q : ∀ ds xs, ds.length = n → lf ds = some xs → ∃ l' j, m ds [] = .ok (.adr j) l' ∧ l'[j]? = some (.lst xs) ∧ pus xs = true) : Has CX P w K mg base x k ps (spL K n lf) :=
  let ⟨f, fd, a, b, c, d⟩ := h.ex; ⟨f, fd, a, b, c, imp_L d q⟩
theorem Has.toS {CX : CXT} {m m' : List D → Sto → Res D} (h : Has CX P w K mg base x k ps (spD K n m))
    (q : ∀ ds l, ds.length = n → m' ds l ≠ .bad → ∃ d l2 junk, m' ds l = .ok d l2 ∧ m ds l = .ok d (l2 ++ junk) ∧ l2.length = l.length ∧ clD l.length d = true ∧ ∀ o ∈ l2, clO l.length o = true) : Has CX P w K mg base x k ps (spD K n m') :=
  let ⟨f, fd, a, b, c, d⟩ := h.ex; ⟨f, fd, a, b, c, imp_S d q⟩
end
section
variable {X : Cx} {E : XK} {e : Expr} {es : List Expr} {fs : DEs} {pos p : Pos} {x : Str} {k n : Nat} {ps : List Str}
theorem ae_callD {CX : CXT} {m : List D → Sto → Res D} (h : Has CX X.prog X.w X.K X.mg X.base x k ps (spD X.K n m)) (hr : Room k X.A) (hg : Gl X x) (ha : AA X E (e :: es) fs) (hx : Passes CX X E0 := by first | exact pass0 | exact passL) (hdb : (x == ("__debug__" : Str)) = false := by decide)
    (he : starEach (e :: es) X.env = (false, eval e X.env) :: starEach es X.env := by rfl) (hpl : (backTo pos (starEach es X.env)).any (·.1) = false := by rfl) : AE X E (.Call (.Name x p) (e :: es) [] pos) (dCall n m fs) := by
  obtain ⟨f, fd, a, b, c, d⟩ := h.ex
  exact ⟨PE.imp (pe_call d hr hg a b c .nil hx ha.pa (hdb := hdb) (he := he) (hpl := hpl)) fun σ H Q h => call_of h⟩
theorem ae_callP {CX : CXT} {pf : List D → Option D} (h : Has CX X.prog X.w X.K X.mg X.base x k ps (spP X.K n pf)) (hr : Room k X.A) (hg : Gl X x) (ha : AA X E (e :: es) fs) (hx : Passes CX X E0 := by first | exact pass0 | exact passL) (hdb : (x == ("__debug__" : Str)) = false := by decide)
    (he : starEach (e :: es) X.env = (false, eval e X.env) :: starEach es X.env := by rfl) (hpl : (backTo pos (starEach es X.env)).any (·.1) = false := by rfl) : AE X E (.Call (.Name x p) (e :: es) [] pos) (dCallP n pf fs) := by
  obtain ⟨f, fd, a, b, c, d⟩ := h.ex
  exact ⟨PE.imp (pe_call d hr hg a b c .nil hx ha.pa (hdb := hdb) (he := he) (hpl := hpl)) fun σ H Q h => callP_of h⟩
theorem ae_callL {CX : CXT} {lf : List D → Option (List D)} (h : Has CX X.prog X.w X.K X.mg X.base x k ps (spL X.K n lf)) (hr : Room k X.A) (hg : Gl X x) (ha : AA X E (e :: es) fs) (hx : Passes CX X E0 := by first | exact pass0 | exact passL) (hdb : (x == ("__debug__" : Str)) = false := by decide)
    (he : starEach (e :: es) X.env = (false, eval e X.env) :: starEach es X.env := by rfl) (hpl : (backTo pos (starEach es X.env)).any (·.1) = false := by rfl) : AE X E (.Call (.Name x p) (e :: es) [] pos) (dCallL n lf fs) := by
  obtain ⟨f, fd, a, b, c, d⟩ := h.ex
  exact ⟨PE.imp (pe_call d hr hg a b c .nil hx ha.pa (hdb := hdb) (he := he) (hpl := hpl)) fun σ H Q h => callL_of h⟩
end
/-- the number of turns that a while may take at the most -/
def fuel : Nat := 1000000000
end Zb

set_option Elab.async false
set_option linter.all false
set_option maxRecDepth 100000
namespace Zb
open PySem L2 PySem.Spec PyProof.Rows
/-! ### dicts whose keys are ints and texts -/
def keyD : D → Option Key
  | .int i => some (.inl i)
  | .str s => some (.inr s)
  | _ => none
def valD (kvs : List (Key × D)) (k : Key) : Option D := (kvs.find? fun kv => decide (kv.1 = k)).map (·.2)
section
variable {K : PySem.W.Frag} {ρ : List Addr} {l : Sto} {H : Hp} {E : XK}
theorem val_rel : ∀ {kvs : List (Key × D)} {kv : List (Key × V)} (k : Key), kv.map (·.1) = kvs.map (·.1) → Rws K ρ H (kvs.map (·.2)) (kv.map (·.2)) →
    (valD kvs k = none → valV kv k = none) ∧ ∀ d, valD kvs k = some d → ∃ v, valV kv k = some v ∧ Rw K ρ H d v
  | [], [], k, _, _ => ⟨fun _ => rfl, fun d h => by cases h⟩
  | [], _ :: _, k, h, _ => by simp at h
  | _ :: _, [], k, h, _ => by simp at h
  | (k1, d1) :: kvs, (k2, v2) :: kv, k, h, r => by
    simp only [List.map_cons, List.cons.injEq] at h
    obtain ⟨e, h⟩ := h
    subst e
    simp only [List.map_cons, Rws] at r
    obtain ⟨v, u, ev, r1, r2⟩ := r
    simp only [List.cons.injEq] at ev
    obtain ⟨rfl, rfl⟩ := ev
    have ih := val_rel (kvs := kvs) (kv := kv) k h r2
    unfold valD valV at ih ⊢
    by_cases q : k2 = k
    · subst q
      simp only [List.find?_cons, decide_true, Option.map_some]
      exact ⟨(fun z => by cases z), (fun d z => by cases z; exact ⟨_, rfl, r1⟩)⟩
    · simp only [List.find?_cons, decide_eq_false q]
      exact ih
theorem Own.dct {n : Nat} {ds : List (Key × D)} {v : V} (o : Own K ρ l H) (r : Rw K ρ H (.adr n) v) (h : l[n]? = some (.dct ds)) :
    ∃ a kv, v = .ref a ∧ ρ[n]? = some a ∧ H a = some (.dK kv) ∧ kv.map (·.1) = ds.map (·.1) ∧ Rws K ρ H (ds.map (·.2)) (kv.map (·.2)) := by
  simp only [Rw] at r
  obtain ⟨a, e, rfl⟩ := r
  obtain ⟨vs, h1, h2, h3⟩ := o.at_ n _ a h e
  exact ⟨a, vs, rfl, e, h1, h2, h3⟩
theorem key_rel {d : D} {k : Key} {v : V} (h : keyD d = some k) (r : Rw K ρ H d v) : v = kV k := by
  cases d with
  | int i => cases h; rw [r.int_]; rfl
  | str i => cases h; rw [r.str_]; rfl
  | _ => cases h
end
def hDIn (neg : Bool) (y x : D) (l : Sto) : Res D := match x, keyD y with
  | .adr n, some k => match l[n]? with
    | some (.dct kvs) => .ok (.bl (if neg then !(valD kvs k).isSome else (valD kvs k).isSome)) l
    | _ => .bad
  | _, _ => .bad
def hDGet (x y : D) (l : Sto) : Res D := match x, keyD y with
  | .adr n, some k => match l[n]? with
    | some (.dct kvs) => okO (valD kvs k) l
    | _ => .bad
  | _, _ => .bad
section
variable {X : Cx} {E : XK} {a b e : Expr} {fa fb : DE} {pos : Pos}
theorem some_rel {kvs : List (Key × D)} {kv : List (Key × V)} {K : PySem.W.Frag} {ρ : List Addr} {H : Hp} {k : Key} (h : kv.map (·.1) = kvs.map (·.1)) (r : Rws K ρ H (kvs.map (·.2)) (kv.map (·.2))) : (valV kv k).isSome = (valD kvs k).isSome := by
  obtain ⟨h1, h2⟩ := val_rel k h r
  cases q : valD kvs k with
  | none => rw [h1 q]; rfl
  | some d => obtain ⟨v, e, _⟩ := h2 d q; rw [e]; rfl
theorem ae_din (hu : X.A.units + 1 < cLine) (ha : AE X E a fa) (hb : AE X E b fb) (hm : behindInMarks .In b = false := by rfl) : AE X E (.Compare a [.In] [b] pos) (dOp (hDIn false) fa fb) := ⟨PE.imp (pe_cmp (pc_din hu ha.pe hb.pe) hm) fun σ H Q ⟨ρ, l, g, o, s, p⟩ => by
  refine ⟨ρ, l, g, o, s, Post.bind p fun y l1 ρ1 H1 v e1 s1 o1 r1 p1 => ?_⟩
  refine ⟨ρ1, l1, g, o1, s.step s1 o, Post.bind p1 fun x l2 ρ2 H2 u e2 s2 o2 r2 p2 => ?_⟩
  unfold hDIn at p2
  split at p2
  · rename_i n k hk
    split at p2
    · rename_i kvs e3
      obtain ⟨q, kv, rfl, _, h1, h2, h3⟩ := o2.dct r2 e3
      refine ⟨q, valV kv k, rfl, ?_, ?_⟩
      · rw [key_rel hk (s2.rw o1 r1)]; exact DGet.k h1
      · rw [some_rel h2 h3]; exact p2.here o2 rw_bl
    · exact p2.elim
  · exact p2.elim⟩
theorem ae_dnotin (hu : X.A.units + 1 < cLine) (ha : AE X E a fa) (hb : AE X E b fb) (hm : behindInMarks .NotIn b = false := by rfl) : AE X E (.Compare a [.NotIn] [b] pos) (dOp (hDIn true) fa fb) := ⟨PE.imp (pe_cmp (pc_dnotin hu ha.pe hb.pe) hm) fun σ H Q ⟨ρ, l, g, o, s, p⟩ => by
  refine ⟨ρ, l, g, o, s, Post.bind p fun y l1 ρ1 H1 v e1 s1 o1 r1 p1 => ?_⟩
  refine ⟨ρ1, l1, g, o1, s.step s1 o, Post.bind p1 fun x l2 ρ2 H2 u e2 s2 o2 r2 p2 => ?_⟩
  unfold hDIn at p2
  split at p2
  · rename_i n k hk
    split at p2
    · rename_i kvs e3
      obtain ⟨q, kv, rfl, _, h1, h2, h3⟩ := o2.dct r2 e3
      refine ⟨q, valV kv k, rfl, ?_, ?_⟩
      · rw [key_rel hk (s2.rw o1 r1)]; exact DGet.k h1
      · rw [some_rel h2 h3]; exact p2.here o2 rw_bl
    · exact p2.elim
  · exact p2.elim⟩
theorem ae_dget (hu : X.A.units + 1 < cLine) (ha : AE X E a fa) (hb : AE X E b fb) (hs : NoSl b := by intro _ _; rfl) : AE X E (.Subscript a b pos) (dOp hDGet fa fb) := ⟨PE.imp (pe_dget hu ha.pe hb.pe hs) fun σ H Q ⟨ρ, l, g, o, s, p⟩ => by
  refine ⟨ρ, l, g, o, s, Post.bind p fun x l1 ρ1 H1 v e1 s1 o1 r1 p1 => ?_⟩
  refine ⟨ρ1, l1, g, o1, s.step s1 o, Post.bind p1 fun y l2 ρ2 H2 u e2 s2 o2 r2 p2 => ?_⟩
  unfold hDGet at p2
  split at p2
  · rename_i n k hk
    split at p2
    · rename_i kvs e3
      obtain ⟨q, kv, rfl, _, h1, h2, h3⟩ := o2.dct (s2.rw o1 r1) e3
      obtain ⟨d, e4, p2⟩ := p2.okO_
      obtain ⟨v, e5, r5⟩ := (val_rel k h2 h3).2 d e4
      refine ⟨q, v, rfl, ?_, p2.here o2 r5⟩
      rw [key_rel hk r2, ← e5]; exact DGet.k h1
    · exact p2.elim
  · exact p2.elim⟩
/-- a display of written texts and ints -/
def dDct (cs : List (Str × Int)) : DE := fun _ l => .ok (.adr l.length) (l ++ [.dct (cs.map fun c => (.inr c.1, .int c.2))])
theorem putK_new {kvs : List (Key × V)} {k : Key} {v : V} (h : k ∉ kvs.map (·.1)) : putK kvs k v = kvs ++ [(k, v)] := by
  unfold putK
  rw [if_neg]
  intro q
  obtain ⟨kv, hm, e⟩ := List.any_eq_true.mp q
  exact h (List.mem_map.mpr ⟨kv, hm, of_decide_eq_true e⟩)
theorem merge_new : ∀ (more kvs : List (Key × V)), ((kvs ++ more).map (·.1)).Nodup → mergeK kvs more = kvs ++ more
  | [], kvs, _ => by simp [mergeK]
  | m :: more, kvs, h => by
    have h1 : m.1 ∉ kvs.map (·.1) := by
      intro q
      rw [List.map_append, List.nodup_append] at h
      exact h.2.2 m.1 q m.1 (by simp) rfl
    show mergeK (putK kvs m.1 m.2) more = _
    rw [putK_new h1, merge_new more _ (by simpa using h)]
    simp
theorem pairs_c : ∀ (cs : List (Str × Int)) (σ : L2.St) (H : Hp) (Q : List (V × V) → Hp → Prop), Q (cs.map fun c => (.str c.1, .int c.2)) H → tPairs (cs.map fun c => (tC (.str c.1), tC (.int c.2))) σ H Q
  | [], _, _, _, h => h
  | c :: cs, σ, H, Q, h => pairs_c cs σ H (fun ps H3 => Q ((.str c.1, .int c.2) :: ps) H3) h
theorem rws_c {K : PySem.W.Frag} {ρ : List Addr} {H : Hp} : ∀ cs : List (Str × Int), Rws K ρ H (cs.map fun c => .int c.2) (cs.map fun c => .int c.2)
  | [] => Rws.nil
  | c :: cs => Rws.cons rw_int (rws_c cs)
theorem ae_dct {cs : List (Str × Int)} (h : PE X e (tDisp (cs.map fun c => (tC (.str c.1), tC (.int c.2))))) (nd : (cs.map (·.1)).Nodup) (hl : cs.length ≤ 15) : AE X E e (dDct cs) := ⟨PE.imp h fun σ H Q ⟨ρ, l, g, o, s, p⟩ => by
  intro q hq
  refine pairs_c cs σ _ _ ⟨upd_same, cs.map (fun c => (Sum.inr c.1, V.int c.2)), by simp [kV], by simpa using hl, ?_⟩
  have nd2 : ((cs.map (fun c => ((Sum.inr c.1 : Key), V.int c.2))).map (·.1)).Nodup := by
    rw [List.map_map]
    have e : ((fun x : Key × V => x.1) ∘ fun c : Str × Int => ((Sum.inr c.1 : Key), V.int c.2)) = (fun s : Str => (Sum.inr s : Key)) ∘ (·.1) := rfl
    rw [e, ← List.map_map]
    exact List.Pairwise.map _ (fun a b h q => h (Sum.inr.inj q)) nd
  rw [merge_new _ [] (by simpa using nd2), List.nil_append]
  have up : upd (upd H q (.dK [])) q (.dK (cs.map fun c => ((Sum.inr c.1 : Key), V.int c.2))) = upd H q (.dK (cs.map fun c => ((Sum.inr c.1 : Key), V.int c.2))) := upd_upd
  rw [up]
  obtain ⟨o1, s1⟩ := o.newO (u := .dK (cs.map fun c => ((Sum.inr c.1 : Key), V.int c.2))) (ob := .dct (cs.map fun c => (.inr c.1, .int c.2))) hq fun m => ⟨_, upd_same, by simp, by
    rw [List.map_map, List.map_map]
    exact rws_c cs⟩
  exact p _ _ _ s1 o1 (rw_adr (by rw [← o.len]; simp))⟩
end
end Zb

set_option Elab.async false
set_option linter.all false
set_option maxRecDepth 100000
namespace Zb
open PySem L2 PySem.Spec PyProof.Rows
/-! ### calls with a jug, with lists that are read, with a new list -/
inductive Kd where
  | P | L
structure Jug where
  f : Int
  gs : List Int
def Jug.ob (q : Nat) (J : Jug) : OB := .lst [.int J.f, .adr q]
def Jug.gob (J : Jug) : OB := .lst (J.gs.map D.int)
def insOne : Kd → D → Sto → Option D
  | .P, d, _ => if pu d then some d else none
  | .L, .adr n, l => match l[n]? with
    | some (.lst xs) => if pus xs then some (.tup xs) else none
    | _ => none
  | .L, _, _ => none
def ins : List Kd → List D → Sto → Option (List D)
  | [], [], _ => some []
  | k :: ks, d :: ds, l => match insOne k d l with
    | some e => (ins ks ds l).map (e :: ·)
    | none => none
  | _, _, _ => none
def idx : List Kd → List D → List Nat
  | .L :: ks, .adr n :: ds => n :: idx ks ds
  | _ :: ks, _ :: ds => idx ks ds
  | _, _ => []
def smA : List Kd → Nat → List D → List D
  | .L :: ks, k, _ :: ds => .adr k :: smA ks (k + 1) ds
  | .P :: ks, k, d :: ds => d :: smA ks k ds
  | _, _, _ => []
def smL : List Kd → List D → List OB
  | .L :: ks, .tup xs :: ds => .lst xs :: smL ks ds
  | .P :: ks, _ :: ds => smL ks ds
  | _, _ => []
def resK (rl : Bool) (d : D) (l : Sto) : Res D := match rl, d with
  | false, d => if pu d then .ok d l else .bad
  | true, .tup xs => if pus xs then .ok (.adr l.length) (l ++ [.lst xs]) else .bad
  | _, _ => .bad
def getJ (l : Sto) (w : Nat) : Option (Nat × Jug) := match l[w]? with
  | some (.lst [.int f, .adr q]) => match l[q]? with
    | some (.lst gs) => (intsOf gs).map fun ns => (q, ⟨f, ns⟩)
    | _ => none
  | _ => none
def putJ (l : Sto) (w q : Nat) (J : Jug) : Sto := (l.set w (J.ob q)).set q J.gob
def callF (ks : List Kd) (rl : Bool) (f : List D → Option D) (ds : List D) (l : Sto) : Res D := match ins ks ds l with
  | some es => if (idx ks ds).Nodup then (match f es with
    | some d => resK rl d l
    | none => .bad) else .bad
  | none => .bad
def callJ (ks : List Kd) (rl : Bool) (j : Jug → List D → Option (D × Jug)) (ds : List D) (l : Sto) : Res D := match ds with
  | .adr w :: ds => (match getJ l w with
    | some (q, J) => (match ins ks ds l with
      | some es => if (w :: q :: idx ks ds).Nodup then (match j J es with
        | some (d, J') => resK rl d (putJ l w q J')
        | none => .bad) else .bad
      | none => .bad)
    | none => .bad)
  | _ => .bad
/-- what the def hands back in its own small store -/
def outK (rl : Bool) (b : Nat) (d d' : D) (L : Sto) : Prop := match rl with
  | false => d' = d
  | true => ∃ xs k, d = .tup xs ∧ d' = .adr k ∧ L[k]? = some (.lst xs) ∧ b ≤ k

section
variable {K : PySem.W.Frag} {E : XK} {ρ : List Addr} {l : Sto} {H H' : Hp}
theorem nodup_inj {ρ : List Addr} (h : ρ.Nodup) {i j : Nat} (hi : i < ρ.length) (hj : j < ρ.length) (e : ρ[i] = ρ[j]) : i = j := by
  have := List.pairwise_iff_getElem.mp h
  rcases Nat.lt_trichotomy i j with q | q | q
  · exact absurd e (this i j hi hj q)
  · exact q
  · exact absurd e.symm (this j i hj hi q)
def adrs (ρ : List Addr) (is : List Nat) : List Addr := is.map fun n => ρ.getD n 0
theorem adrs_get {is : List Nat} {j n : Nat} (h : is[j]? = some n) (b : n < ρ.length) : ∃ a, ρ[n]? = some a ∧ (adrs ρ is)[j]? = some a := by
  refine ⟨ρ[n], List.getElem?_eq_getElem b, ?_⟩
  simp [adrs, h, List.getD_eq_getElem?_getD, List.getElem?_eq_getElem b]
theorem adrs_nodup {is : List Nat} (h : is.Nodup) (b : ∀ n ∈ is, n < ρ.length) (nd : ρ.Nodup) : (adrs ρ is).Nodup := by
  induction is with
  | nil => simp [adrs]
  | cons i is ih =>
    simp only [List.nodup_cons] at h
    have ih' := ih h.2 (fun n hn => b n (List.mem_cons_of_mem _ hn))
    have e : adrs ρ (i :: is) = ρ.getD i 0 :: adrs ρ is := rfl
    rw [e, List.nodup_cons]
    refine ⟨fun hm => h.1 ?_, ih'⟩
    obtain ⟨n, hn, e⟩ := List.mem_map.mp hm
    have b1 := b i List.mem_cons_self
    have b2 := b n (List.mem_cons_of_mem _ hn)
    simp only [List.getD_eq_getElem?_getD, List.getElem?_eq_getElem b1, List.getElem?_eq_getElem b2, Option.getD_some] at e
    have := nodup_inj nd b2 b1 e
    subst this; exact hn
theorem adrs_mem {is : List Nat} {a : Addr} (b : ∀ n ∈ is, n < ρ.length) (h : a ∈ adrs ρ is) : a ∈ ρ := by
  obtain ⟨n, hn, e⟩ := List.mem_map.mp h
  have b1 := b n hn
  simp only [List.getD_eq_getElem?_getD, List.getElem?_eq_getElem b1, Option.getD_some] at e
  subst e; exact List.getElem_mem _
theorem frame {is : List Nat} {t : List Addr} {l2 : Sto} (o : Own K ρ l H) (b : ∀ n ∈ is, n < ρ.length) (s : Step (adrs ρ is) H (adrs ρ is ++ t) H') (hl : l2.length = l.length)
    (same : ∀ n, n ∉ is → l2[n]? = l[n]?) (new : ∀ (j n : Nat) (ob : OB) (a : Addr), is[j]? = some n → l2[n]? = some ob → ρ[n]? = some a → Mn K ρ H ρ H' → Ow K ρ H' ob a) : Own K ρ l2 H' ∧ Step ρ H ρ H' := by
  have st : Step ρ H ρ H' := ⟨⟨[], by simp⟩, fun a u e hn => s.keep a u e fun q => hn (adrs_mem b q), fun a h n => absurd h n⟩
  refine ⟨⟨o.nd, by rw [o.len, hl], fun n ob a e1 e2 => ?_⟩, st⟩
  by_cases q : n ∈ is
  · obtain ⟨j, hj⟩ := List.getElem?_of_mem q
    exact new j n ob a hj e1 e2 (st.mn o)
  · rw [same n q] at e1
    refine Ow.mono (st.mn o) (fun u e => s.keep a u e fun hm => ?_) (o.at_ n ob a e1 e2)
    obtain ⟨m, hm1, hm2⟩ := List.mem_map.mp hm
    have b1 := b m hm1
    simp only [List.getD_eq_getElem?_getD, List.getElem?_eq_getElem b1, Option.getD_some] at hm2
    obtain ⟨b2, e3⟩ := List.getElem?_eq_some_iff.mp e2
    rw [← e3] at hm2
    have := nodup_inj o.nd b1 b2 hm2
    subst this; exact q hm1
theorem ins_inv {ks : List Kd} {k : Kd} {ds es : List D} (h : ins (k :: ks) ds l = some es) : ∃ d ds' e es', ds = d :: ds' ∧ insOne k d l = some e ∧ ins ks ds' l = some es' ∧ es = e :: es' := by
  cases ds with
  | nil => simp [ins] at h
  | cons d ds =>
    simp only [ins] at h
    cases q : insOne k d l with
    | none => rw [q] at h; cases h
    | some e =>
      rw [q] at h
      cases q2 : ins ks ds l with
      | none => rw [q2] at h; cases h
      | some es' => rw [q2] at h; cases h; exact ⟨d, ds, e, es', rfl, q, q2, rfl⟩
theorem insP {d e : D} (h : insOne .P d l = some e) : pu d = true ∧ e = d := by
  simp only [insOne] at h
  split at h
  · cases h; exact ⟨by assumption, rfl⟩
  · cases h
theorem insL {d e : D} (h : insOne .L d l = some e) : ∃ n xs, d = .adr n ∧ l[n]? = some (.lst xs) ∧ pus xs = true ∧ e = .tup xs := by
  cases d with
  | adr n =>
    simp only [insOne] at h
    split at h
    · split at h
      · cases h; exact ⟨n, _, rfl, by assumption, by assumption, rfl⟩
      · cases h
    · cases h
  | _ => simp [insOne] at h
theorem ins_nil {ds es : List D} (h : ins [] ds l = some es) : ds = [] ∧ es = [] := by
  cases ds with
  | nil => simp [ins] at h; exact ⟨rfl, h⟩
  | cons d ds => simp [ins] at h
theorem idx_lt (o : Own K ρ l H) : ∀ {ks : List Kd} {ds es : List D}, ins ks ds l = some es → ∀ n ∈ idx ks ds, n < ρ.length
  | [], _, _, h, n, hn => by obtain ⟨rfl, rfl⟩ := ins_nil h; simp [idx] at hn
  | .P :: ks, _, _, h, n, hn => by
    obtain ⟨d, ds, e, es, rfl, h1, h2, rfl⟩ := ins_inv h
    exact idx_lt o h2 n (by simpa [idx] using hn)
  | .L :: ks, _, _, h, n, hn => by
    obtain ⟨d, ds, e, es, rfl, h1, h2, rfl⟩ := ins_inv h
    obtain ⟨m, xs, rfl, h3, h4, rfl⟩ := insL h1
    simp only [idx, List.mem_cons] at hn
    rcases hn with rfl | hn
    · rw [o.len]; exact (List.getElem?_eq_some_iff.mp h3).1
    · exact idx_lt o h2 n hn
theorem smL_len (k : Nat) : ∀ {ks : List Kd} {ds es : List D}, ins ks ds l = some es → (smL ks es).length = (idx ks ds).length ∧ (smA ks k es).length = ks.length
  | [], _, _, h => by obtain ⟨rfl, rfl⟩ := ins_nil h; simp [idx, smL, smA]
  | .P :: ks, _, _, h => by
    obtain ⟨d, ds, e, es, rfl, h1, h2, rfl⟩ := ins_inv h
    have := smL_len k h2
    simpa [idx, smL, smA] using this
  | .L :: ks, _, _, h => by
    obtain ⟨d, ds, e, es, rfl, h1, h2, rfl⟩ := ins_inv h
    obtain ⟨m, xs, rfl, h3, h4, rfl⟩ := insL h1
    have := smL_len (k + 1) h2
    simpa [idx, smL, smA] using this
/-- the arguments, told in the small store -/
theorem sm_args (o : Own K ρ l H) (m : Tk K H H') : ∀ {ks : List Kd} {ds es : List D} {vs : List V} (p : List Addr), ins ks ds l = some es → Rws K ρ H ds vs → Rws K (p ++ adrs ρ (idx ks ds)) H' (smA ks p.length es) vs
  | [], _, _, _, p, h, r => by obtain ⟨rfl, rfl⟩ := ins_nil h; simp only [Rws] at r; subst r; simp [smA, Rws]
  | .P :: ks, _, _, vs, p, h, r => by
    obtain ⟨d, ds, e, es, rfl, h1, h2, rfl⟩ := ins_inv h
    obtain ⟨pd, rfl⟩ := insP h1
    simp only [Rws] at r
    obtain ⟨v, us, rfl, r1, r2⟩ := r
    exact Rws.cons (Rw.pure_ m e v pd r1) (sm_args o m p h2 r2)
  | .L :: ks, _, _, vs, p, h, r => by
    obtain ⟨d, ds, e, es, rfl, h1, h2, rfl⟩ := ins_inv h
    obtain ⟨n, xs, rfl, h3, h4, rfl⟩ := insL h1
    simp only [Rws] at r
    obtain ⟨v, us, rfl, r1, r2⟩ := r
    simp only [Rw] at r1
    obtain ⟨a, ha, rfl⟩ := r1
    have hn : n < ρ.length := (List.getElem?_eq_some_iff.mp ha).1
    have e1 : ρ.getD n 0 = a := by rw [List.getD_eq_getElem?_getD, ha]; rfl
    have e2 : p ++ adrs ρ (idx (.L :: ks) (.adr n :: ds)) = (p ++ [a]) ++ adrs ρ (idx ks ds) := by simp only [idx, adrs, List.map_cons, e1]; simp
    rw [e2]
    refine Rws.cons (rw_adr (by simp)) ?_
    have := sm_args o m (p ++ [a]) h2 r2
    simpa using this
/-- the lists, told in any store -/
theorem sm_lists {is : List Nat} (o : Own K ρ l H) (m : Tk K H H') (ρ' : List Addr) (keep : ∀ n ∈ is, ∀ a, ρ[n]? = some a → ∀ u, H a = some u → H' a = some u) : ∀ {ks : List Kd} {ds es : List D}, ins ks ds l = some es → (∀ n ∈ idx ks ds, n ∈ is) →
    ∀ (j : Nat) (ob : OB) (a : Addr), (smL ks es)[j]? = some ob → (adrs ρ (idx ks ds))[j]? = some a → Ow K ρ' H' ob a
  | [], _, _, h, _, j, ob, a, e1, _ => by obtain ⟨rfl, rfl⟩ := ins_nil h; simp [smL] at e1
  | .P :: ks, _, _, h, hs, j, ob, a, e1, e2 => by
    obtain ⟨d, ds, e, es, rfl, h1, h2, rfl⟩ := ins_inv h
    exact sm_lists o m ρ' keep h2 (by simpa [idx] using hs) j ob a (by simpa [smL] using e1) (by simpa [idx] using e2)
  | .L :: ks, _, _, h, hs, j, ob, a, e1, e2 => by
    obtain ⟨d, ds, e, es, rfl, h1, h2, rfl⟩ := ins_inv h
    obtain ⟨n, xs, rfl, h3, h4, rfl⟩ := insL h1
    have hn : n < ρ.length := by rw [o.len]; exact (List.getElem?_eq_some_iff.mp h3).1
    have e3 : adrs ρ (idx (.L :: ks) (.adr n :: ds)) = ρ[n] :: adrs ρ (idx ks ds) := by simp [idx, adrs, List.getElem?_eq_getElem hn]
    rw [e3] at e2
    simp only [idx, List.mem_cons, forall_eq_or_imp] at hs
    cases j with
    | zero =>
      simp only [smL, List.getElem?_cons_zero, Option.some.injEq] at e1 e2
      subst e1; subst e2
      obtain ⟨us, q1, q2⟩ := o.at_ n _ _ h3 (List.getElem?_eq_getElem hn)
      exact ⟨us, keep n hs.1 _ (List.getElem?_eq_getElem hn) _ q1, Rws.pure_ m xs us h4 q2⟩
    | succ j => exact sm_lists o m ρ' keep h2 hs.2 j ob a (by simpa [smL] using e1) (by simpa using e2)
end
end Zb

set_option Elab.async false
set_option linter.all false
set_option maxRecDepth 100000
namespace Zb
open PySem L2 PySem.Spec PyProof.Rows
section
variable {K : PySem.W.Frag} {E : XK} {ρ : List Addr} {l : Sto} {H H' : Hp}
theorem finish {rl : Bool} {b : Nat} {d d' : D} {v : V} {ρs ρ' : List Addr} {L l2 : Sto} {Q : VK} (o : Own K ρ l H) (o2 : Own K ρ l2 H') (st : Step ρ H ρ H') (o' : Own K ρ' L H') (s : Step ρs H ρ' H') (hout : outK rl b d d' L) (hb : ρs.length ≤ b)
    (r : Rw K ρ' H' d' v) (p : Post K E ρ H (rD K) (resK rl d l2) Q) : Q v H' := by
  cases rl with
  | false =>
    cases hout
    simp only [resK] at p
    obtain ⟨pd, p⟩ := Post.ite p
    exact p ρ H' v st o2 (Rw.pure_ Tk.refl _ v pd r)
  | true =>
    obtain ⟨xs, k, rfl, rfl, e, hk⟩ := hout
    simp only [resK] at p
    obtain ⟨pd, p⟩ := Post.ite p
    simp only [Rw] at r
    obtain ⟨a, ha, rfl⟩ := r
    obtain ⟨us, h1, r2⟩ := o'.at_ k _ a e ha
    have hns : a ∉ ρs := fun q => by
      obtain ⟨j, hj⟩ := List.getElem?_of_mem q
      have hj2 := s.px j a hj
      have hj1 := (List.getElem?_eq_some_iff.mp hj).1
      obtain ⟨b1, e1⟩ := List.getElem?_eq_some_iff.mp hj2
      obtain ⟨b2, e2⟩ := List.getElem?_eq_some_iff.mp ha
      have := nodup_inj o'.nd b1 b2 (e1.trans e2.symm)
      omega
    have hnew := s.new a (List.mem_of_getElem? ha) hns
    have hna := o.nop hnew
    have m : Mn K ρ H' (ρ ++ [a]) H' := ⟨fun n b h => px_app n b h, Tk.refl, fun _ _ h => h⟩
    refine p (ρ ++ [a]) H' _ ⟨⟨[a], rfl⟩, st.keep, fun b hb hn => ?_⟩ (o2.add hna m ⟨us, h1, Rws.pure_ Tk.refl xs us pd r2⟩) (rw_adr (by rw [← o2.len]; simp))
    rcases List.mem_append.mp hb with hb | hb
    · exact absurd hb hn
    · simp at hb; subst hb; exact hnew
theorem ints_map : ∀ {ds : List D} {ns : List Int}, intsOf ds = some ns → ds = ns.map D.int
  | [], _, h => by simp [intsOf] at h; subst h; rfl
  | .int i :: ds, _, h => by
    simp only [intsOf] at h
    cases q : intsOf ds with
    | none => rw [q] at h; cases h
    | some ns' => rw [q] at h; cases h; rw [ints_map q]; rfl
  | .non :: _, _, h => by simp [intsOf] at h
  | .bl _ :: _, _, h => by simp [intsOf] at h
  | .str _ :: _, _, h => by simp [intsOf] at h
  | .ty _ :: _, _, h => by simp [intsOf] at h
  | .adr _ :: _, _, h => by simp [intsOf] at h
  | .ro _ :: _, _, h => by simp [intsOf] at h
  | .tup _ :: _, _, h => by simp [intsOf] at h
theorem pus_int : ∀ ns : List Int, pus (ns.map D.int) = true
  | [] => rfl
  | n :: ns => by simp [pus, pu, pus_int ns]
theorem getJ_inv {w q : Nat} {J : Jug} (h : getJ l w = some (q, J)) : l[w]? = some (J.ob q) ∧ l[q]? = some J.gob := by
  unfold getJ at h
  split at h
  · split at h
    · rename_i _ f q' e1 _ gs e2
      cases z : intsOf gs with
      | none => rw [z] at h; cases h
      | some ns =>
        rw [z] at h
        cases h
        exact ⟨e1, by rw [e2, ints_map z]; rfl⟩
    · cases h
  · cases h
theorem smL_get : ∀ {ks : List Kd} {ds es : List D}, ins ks ds l = some es → ∀ (j n : Nat), (idx ks ds)[j]? = some n → ∃ xs, l[n]? = some (.lst xs) ∧ (smL ks es)[j]? = some (.lst xs) ∧ pus xs = true
  | [], _, _, h, j, n, e => by obtain ⟨rfl, rfl⟩ := ins_nil h; simp [idx] at e
  | .P :: ks, _, _, h, j, n, e => by
    obtain ⟨d, ds, e', es, rfl, h1, h2, rfl⟩ := ins_inv h
    exact smL_get h2 j n (by simpa [idx] using e)
  | .L :: ks, _, _, h, j, n, e => by
    obtain ⟨d, ds, e', es, rfl, h1, h2, rfl⟩ := ins_inv h
    obtain ⟨m, xs, rfl, h3, h4, rfl⟩ := insL h1
    cases j with
    | zero => simp only [idx, List.getElem?_cons_zero, Option.some.injEq] at e; subst e; exact ⟨xs, h3, rfl, h4⟩
    | succ j => exact smL_get h2 j n (by simpa [idx] using e)
variable {P : Program} {w : World} {mg : Str → Option Value} {base : Heap} {k n : Nat} {f : Addr} {fd : FuncData} {ps : List Str}
theorem imp_F {CX : CXT} {m : List D → Sto → Res D} {ks : List Kd} {rl : Bool} {pf : List D → Option D} (F : FnOk P w K mg base CX k f fd ps (spD K ks.length m))
    (q : ∀ es d, es.length = ks.length → pf es = some d → ∃ d' junk, m (smA ks 0 es) (smL ks es) = .ok d' (smL ks es ++ junk) ∧ outK rl (smL ks es).length d d' (smL ks es ++ junk)) : FnOk P w K mg base CX k f fd ps (spD K ks.length (callF ks rl pf)) :=
  F.imp fun vs H Q E ⟨ρ, l, ds, o, r, hl, p⟩ => by
    unfold callF at p
    split at p
    · rename_i es he
      split at p
      · rename_i nd
        split at p
        · rename_i d hd
          have hb := idx_lt o he
          obtain ⟨sl, sa⟩ := smL_len 0 he
          have hes : es.length = ks.length := by
            have : ∀ {ks : List Kd} {ds es : List D}, ins ks ds l = some es → es.length = ks.length := by
              intro ks
              induction ks with
              | nil => intro ds es h; obtain ⟨rfl, rfl⟩ := ins_nil h; rfl
              | cons k ks ih => intro ds es h; obtain ⟨d, ds, e', es, rfl, h1, h2, rfl⟩ := ins_inv h; simp [ih h2]
            exact this he
          obtain ⟨d', junk, e1, e2⟩ := q es d hes hd
          have own : Own K (adrs ρ (idx ks ds)) (smL ks es) H := ⟨adrs_nodup nd hb o.nd, by rw [sl]; simp [adrs], fun n ob a h1 h2 =>
            sm_lists (is := idx ks ds) o Tk.refl _ (fun _ _ _ _ u hu => hu) he (fun _ h => h) n ob a h1 h2⟩
          refine ⟨adrs ρ (idx ks ds), smL ks es, smA ks 0 es, own, by simpa using sm_args o Tk.refl [] he r, sa, ?_⟩
          rw [e1]
          intro ρ' H' v s o' r'
          obtain ⟨t, rfl⟩ := s.pre
          have fr := frame (l2 := l) o hb s rfl (fun _ _ => rfl) fun j n ob a h1 h2 h3 m => by
            obtain ⟨xs, g1, g2, g3⟩ := smL_get he j n h1
            rw [g1] at h2; cases h2
            have hj : j < (smL ks es).length := (List.getElem?_eq_some_iff.mp g2).1
            obtain ⟨a', h4, h5⟩ := adrs_get (ρ := ρ) h1 (hb n (List.mem_of_getElem? h1))
            rw [h3] at h4; cases h4
            obtain ⟨us, u1, u2⟩ := o'.at_ j _ a (by rw [List.getElem?_append_left hj]; exact g2) (by rw [List.getElem?_append_left (List.getElem?_eq_some_iff.mp h5).1]; exact h5)
            exact ⟨us, u1, Rws.pure_ Tk.refl xs us g3 u2⟩
          exact finish o fr.1 fr.2 o' s e2 (by rw [sl]; simp [adrs]) r' p
        · exact p.elim
      · exact p.elim
    · exact p.elim
theorem ins_len {ks : List Kd} : ∀ {ds es : List D}, ins ks ds l = some es → es.length = ks.length := by
  induction ks with
  | nil => intro ds es h; obtain ⟨rfl, rfl⟩ := ins_nil h; rfl
  | cons k ks ih => intro ds es h; obtain ⟨d, ds, e', es, rfl, h1, h2, rfl⟩ := ins_inv h; simp [ih h2]
theorem imp_J {CX : CXT} {m : List D → Sto → Res D} {ks : List Kd} {rl : Bool} {pj : Jug → List D → Option (D × Jug)} (F : FnOk P w K mg base CX k f fd ps (spD K (ks.length + 1) m))
    (q : ∀ J es d J', es.length = ks.length → pj J es = some (d, J') → ∃ d' junk, m (.adr 0 :: smA ks 2 es) (J.ob 1 :: J.gob :: smL ks es) = .ok d' (J'.ob 1 :: J'.gob :: (smL ks es ++ junk)) ∧ outK rl (2 + (smL ks es).length) d d' (J'.ob 1 :: J'.gob :: (smL ks es ++ junk))) : FnOk P w K mg base CX k f fd ps (spD K (ks.length + 1) (callJ ks rl pj)) :=
  F.imp fun vs H Q E ⟨ρ, l, ds, o, r, hl, p⟩ => by
    unfold callJ at p
    split at p
    · rename_i wi ds
      split at p
      · rename_i qi J hJ
        split at p
        · rename_i es he
          split at p
          · rename_i nd
            split at p
            · rename_i d J' hd
              obtain ⟨gw, gq⟩ := getJ_inv hJ
              have hb := idx_lt o he
              obtain ⟨sl, sa⟩ := smL_len 2 he
              obtain ⟨d', junk, e1, e2⟩ := q J es d J' (ins_len he) hd
              have bw : wi < ρ.length := by rw [o.len]; exact (List.getElem?_eq_some_iff.mp gw).1
              have bq : qi < ρ.length := by rw [o.len]; exact (List.getElem?_eq_some_iff.mp gq).1
              have ew := List.getElem?_eq_getElem bw
              have eq := List.getElem?_eq_getElem bq
              have hball : ∀ n ∈ wi :: qi :: idx ks ds, n < ρ.length := by
                intro n hn
                simp only [List.mem_cons] at hn
                rcases hn with rfl | rfl | hn
                · exact bw
                · exact bq
                · exact hb n hn
              have ea : adrs ρ (wi :: qi :: idx ks ds) = [ρ[wi], ρ[qi]] ++ adrs ρ (idx ks ds) := by simp [adrs, ew, eq]
              simp only [Rws] at r
              obtain ⟨v, us, rfl, r1, r2⟩ := r
              simp only [Rw] at r1
              obtain ⟨a1, h1, rfl⟩ := r1
              rw [ew] at h1; cases h1
              have own : Own K (adrs ρ (wi :: qi :: idx ks ds)) (J.ob 1 :: J.gob :: smL ks es) H := ⟨adrs_nodup nd hball o.nd, by simp [sl, adrs], fun n ob a h1 h2 => by
                rw [ea] at h2 ⊢
                match n, h1, h2 with
                | 0, h1, h2 =>
                  simp at h1 h2; subst h1; subst h2
                  obtain ⟨vs, u1, u2⟩ := o.at_ wi _ _ gw ew
                  obtain ⟨v1, v2, rfl, w1, w2⟩ := u2.two_
                  refine ⟨_, u1, Rws.cons (by simpa [Rw] using w1) (Rws.one ?_)⟩
                  simp only [Rw] at w2
                  obtain ⟨b, hb1, rfl⟩ := w2
                  rw [eq] at hb1; cases hb1
                  exact rw_adr (by simp)
                | 1, h1, h2 =>
                  simp at h1 h2; subst h1; subst h2
                  obtain ⟨vs, u1, u2⟩ := o.at_ qi _ _ gq eq
                  exact ⟨_, u1, Rws.pure_ Tk.refl _ _ (pus_int _) u2⟩
                | n + 2, h1, h2 =>
                  exact sm_lists (is := idx ks ds) o Tk.refl _ (fun _ _ _ _ u hu => hu) he (fun _ h => h) n ob a (by simpa using h1) (by simpa using h2)⟩
              refine ⟨_, _, .adr 0 :: smA ks 2 es, own, ?_, by simp [sa], ?_⟩
              · rw [ea]
                refine Rws.cons (rw_adr (by simp)) ?_
                exact sm_args o Tk.refl [_, _] he r2
              · rw [e1]
                intro ρ' H' v s o' r'
                obtain ⟨t, rfl⟩ := s.pre
                simp only [List.nodup_cons, List.mem_cons, not_or] at nd
                have lw : wi < l.length := (List.getElem?_eq_some_iff.mp gw).1
                have lq : qi < l.length := (List.getElem?_eq_some_iff.mp gq).1
                have fr := frame (l2 := putJ l wi qi J') o hball s (by simp [putJ]) (fun n hn => by
                  simp only [List.mem_cons, not_or] at hn
                  simp only [putJ]
                  rw [List.getElem?_set_ne (fun z => hn.2.1 z.symm), List.getElem?_set_ne (fun z => hn.1 z.symm)]) fun j n ob a h1 h2 h3 m => by
                  match j, h1 with
                  | 0, h1 =>
                    simp at h1; subst h1
                    have h2' : putJ l wi qi J' = (l.set qi J'.gob).set wi (J'.ob qi) := by simp only [putJ]; rw [List.set_comm]; exact nd.1.1
                    rw [h2', List.getElem?_set_self (by simpa using lw)] at h2
                    cases h2
                    rw [ew] at h3; cases h3
                    obtain ⟨vs, u1, u2⟩ := o'.at_ 0 (J'.ob 1) ρ[wi] rfl (by rw [ea]; rfl)
                    obtain ⟨v1, v2, rfl, w1, w2⟩ := u2.two_
                    refine ⟨_, u1, Rws.cons (by simpa [Rw] using w1) (Rws.one ?_)⟩
                    simp only [Rw] at w2
                    obtain ⟨b, hb1, rfl⟩ := w2
                    rw [ea] at hb1
                    simp at hb1; subst hb1
                    exact rw_adr eq
                  | 1, h1 =>
                    simp at h1; subst h1
                    simp only [putJ] at h2
                    rw [List.getElem?_set_self (by simpa using lq)] at h2
                    cases h2
                    rw [eq] at h3; cases h3
                    obtain ⟨vs, u1, u2⟩ := o'.at_ 1 J'.gob ρ[qi] rfl (by rw [ea]; rfl)
                    exact ⟨_, u1, Rws.pure_ Tk.refl _ _ (pus_int _) u2⟩
                  | j + 2, h1 =>
                    have h1' : (idx ks ds)[j]? = some n := by simpa using h1
                    have hmem := List.mem_of_getElem? h1'
                    obtain ⟨xs, g1, g2, g3⟩ := smL_get he j n h1'
                    simp only [putJ] at h2
                    rw [List.getElem?_set_ne (fun z : qi = n => nd.2.1 (z ▸ hmem)), List.getElem?_set_ne (fun z : wi = n => nd.1.2 (z ▸ hmem)), g1] at h2
                    cases h2
                    have hj : j < (smL ks es).length := (List.getElem?_eq_some_iff.mp g2).1
                    obtain ⟨a', h4, h5⟩ := adrs_get (ρ := ρ) h1' (hb n hmem)
                    rw [h3] at h4; cases h4
                    have hj2 : j < (adrs ρ (idx ks ds)).length := (List.getElem?_eq_some_iff.mp h5).1
                    obtain ⟨us, u1, u2⟩ := o'.at_ (j + 2) _ a (by simp only [List.getElem?_cons_succ]; rw [List.getElem?_append_left hj]; exact g2) (by
                      rw [ea]
                      show ((ρ[qi] :: (adrs ρ (idx ks ds))) ++ t)[j + 1]? = some a
                      show ((adrs ρ (idx ks ds)) ++ t)[j]? = some a
                      rw [List.getElem?_append_left hj2]; exact h5)
                    exact ⟨us, u1, Rws.pure_ Tk.refl xs us g3 u2⟩
                exact finish o fr.1 fr.2 o' s e2 (by rw [ea]; simp [sl, adrs]; omega) r' p
            · exact p.elim
          · exact p.elim
        · exact p.elim
      · exact p.elim
    · exact p.elim
variable {x : Str}
theorem Has.toF {CX : CXT} {m : List D → Sto → Res D} {ks : List Kd} {rl : Bool} {pf : List D → Option D} (h : Has CX P w K mg base x k ps (spD K ks.length m))
    (q : ∀ es d, es.length = ks.length → pf es = some d → ∃ d' junk, m (smA ks 0 es) (smL ks es) = .ok d' (smL ks es ++ junk) ∧ outK rl (smL ks es).length d d' (smL ks es ++ junk)) : Has CX P w K mg base x k ps (spD K ks.length (callF ks rl pf)) :=
  let ⟨f, fd, a, b, c, d⟩ := h.ex; ⟨f, fd, a, b, c, imp_F d q⟩
theorem Has.toJ {CX : CXT} {m : List D → Sto → Res D} {ks : List Kd} {rl : Bool} {pj : Jug → List D → Option (D × Jug)} (h : Has CX P w K mg base x k ps (spD K (ks.length + 1) m))
    (q : ∀ J es d J', es.length = ks.length → pj J es = some (d, J') → ∃ d' junk, m (.adr 0 :: smA ks 2 es) (J.ob 1 :: J.gob :: smL ks es) = .ok d' (J'.ob 1 :: J'.gob :: (smL ks es ++ junk)) ∧ outK rl (2 + (smL ks es).length) d d' (J'.ob 1 :: J'.gob :: (smL ks es ++ junk))) : Has CX P w K mg base x k ps (spD K (ks.length + 1) (callJ ks rl pj)) :=
  let ⟨f, fd, a, b, c, d⟩ := h.ex; ⟨f, fd, a, b, c, imp_J d q⟩
end
end Zb

set_option Elab.async false
set_option linter.all false
set_option maxRecDepth 100000
set_option maxHeartbeats 4000000
namespace Zb
open PySem L2 PySem.Spec PyProof.Rows
/-! ### a tuple times any int -/
theorem tuple_mul1 (l : Addr) (items : Array Value) (n : Nat) (dd : Option Addr) (sl : Array (Option Value)) (x : Int) (u : Tok) (c0 : (decide (x < -(2 ^ 63)) || decide (x ≥ 2 ^ 63)) = false) (c1 : (items.isEmpty || x == 1) = true) :
    Meets (Builtin.«tuple.__mul__» ⟨[.ref l, .int x u], []⟩) (fun _ R s => s.heap.get? l = some { cls := .type "tuple", dict := dd, data := .seq items n, slots := sl } ∧ R (.ok (.ret (Value.ref l))) s) :=
  .of_wp fun prog w A R s h => by
    obtain ⟨hp, g, d, tk, os⟩ := s
    obtain ⟨hl, h⟩ := h
    have f1 := AutoSeq1.idx_int
    wp_walk using wpAny_loadPart' hl
    repeat (first
      | (refine wpAny_ite_false (decide_eq_false (by rw [c0]; exact Bool.false_ne_true)) ?_; wp_walk using wpAny_loadPart' hl)
      | (refine wpAny_ite_true (decide_eq_true (by rw [c1])) ?_; wp_walk using wpAny_loadPart' hl))
    exact ⟨_, rfl, h⟩
theorem tuple_mul0 (l : Addr) (items : Array Value) (n : Nat) (dd : Option Addr) (sl : Array (Option Value)) (x : Int) (u : Tok) (c0 : (decide (x < -(2 ^ 63)) || decide (x ≥ 2 ^ 63)) = false) (c1 : (items.isEmpty || x == 1) = false) (c2 : (decide (x ≤ 0) || items.isEmpty) = true) :
    Meets (Builtin.«tuple.__mul__» ⟨[.ref l, .int x u], []⟩) (fun _ R s => s.heap.get? l = some { cls := .type "tuple", dict := dd, data := .seq items n, slots := sl } ∧
      R (.ok (.ret (Value.ref s.heap.objs.size))) { s with heap := s.heap.push { cls := Value.type "tuple", data := Data.seq #[] }, toks := s.toks }) :=
  .of_wp fun prog w A R s h => by
    obtain ⟨hp, g, d, tk, os⟩ := s
    obtain ⟨hl, h⟩ := h
    have f1 := AutoSeq1.idx_int
    wp_walk using wpAny_loadPart' hl
    repeat (first
      | (refine wpAny_ite_false (decide_eq_false (by rw [c0]; exact Bool.false_ne_true)) ?_; wp_walk using wpAny_loadPart' hl)
      | (refine wpAny_ite_false (decide_eq_false (by rw [c1]; exact Bool.false_ne_true)) ?_; wp_walk using wpAny_loadPart' hl)
      | (refine wpAny_ite_true (decide_eq_true (by rw [c2])) ?_; wp_walk using wpAny_loadPart' hl))
    exact ⟨_, rfl, h⟩
def rRepA (K : PySem.W.Frag) : R2 := fun x y H Q => ∃ l k xs, x = .ref l ∧ y = .int k ∧ SqT K H l xs ∧ -(2 ^ 62) < k ∧ k < 2 ^ 62 ∧ xs.length * k.toNat ≤ sizeLine ∧ ((xs.isEmpty || k == 1) = true → Q (.ref l) H) ∧
  ((xs.isEmpty || k == 1) = false → ∀ p, H p = none → Q (.ref p) (upd H p (.tup (List.replicate k.toNat xs).flatten)))
section
variable {X : Cx}
theorem op_repA : OpR X (binaryOp .Mult) (rRepA X.K) := by
  intro pins s σ H x y v u Q I rx ry h
  obtain ⟨l, k, xs, rfl, rfl, hT, h1, h2, hz, q1, q2⟩ := h
  cases rx
  obtain ⟨t, rfl⟩ := ry
  obtain ⟨its, r, ⟨⟨cls, dd, data, sl⟩, ho, hc, n, hd⟩, hs⟩ := I.tuple hT
  simp only at hc hd
  subst hc hd
  have hle : its.length = xs.length := r.length.symm
  have hi : its.toArray.isEmpty = xs.isEmpty := by
    cases its with
    | nil => cases xs with
      | nil => rfl
      | cons a b => cases hle
    | cons a b => cases xs with
      | nil => cases hle
      | cons a b => rfl
  have hsz0 : its.toArray.size = xs.length := by rw [List.size_toArray, hle]
  have c0 : (decide (k < -(2 ^ 63)) || decide (k ≥ 2 ^ 63)) = false := by
    rw [decide_eq_false (by omega), decide_eq_false (by omega)] <;> rfl
  cases c : (xs.isEmpty || k == 1) with
  | true =>
    have c1 : (its.toArray.isEmpty || k == 1) = true := by rw [hi]; exact c
    refine wpAny_binaryOp_repeat_ref (T := "tuple") (U := "int") (by decide) ⟨_, ho, rfl⟩ (fun s' => typeIs_int s' k t) noFill_tuple_mul F.fills_int_mul F.slot_int_rmul repeat_tuple F.slot_int_index.lookup
      (call_meets F.slot_int_rmul (typeIs_int s k t) F.entry_int_rmul (F.args_int_rmul_2 _ _) (int_rmul_tuple k t l its.toArray n dd sl)
        ⟨ho, rfl, ⟨_, ho, rfl⟩, call_meets F.slot_tuple_mul ⟨_, ho, rfl⟩ F.entry_tuple_mul (F.args_tuple_mul_2 _ _) (tuple_mul1 l its.toArray n dd sl k t c0 c1) ⟨ho, ?_⟩⟩)
    exact ⟨.ref l, _, I, rfl, q1 c⟩
  | false =>
    have c1 : (its.toArray.isEmpty || k == 1) = false := by rw [hi]; exact c
    have hx : xs.isEmpty = false := by
      cases e : xs.isEmpty with
      | true => rw [e] at c; cases c
      | false => rfl
    have hk1 : k ≠ 1 := fun e => by rw [e, hx] at c; cases c
    by_cases hk : k ≤ 0
    · have c2 : (decide (k ≤ 0) || its.toArray.isEmpty) = true := by rw [decide_eq_true hk]; rfl
      refine wpAny_binaryOp_repeat_ref (T := "tuple") (U := "int") (by decide) ⟨_, ho, rfl⟩ (fun s' => typeIs_int s' k t) noFill_tuple_mul F.fills_int_mul F.slot_int_rmul repeat_tuple F.slot_int_index.lookup
        (call_meets F.slot_int_rmul (typeIs_int s k t) F.entry_int_rmul (F.args_int_rmul_2 _ _) (int_rmul_tuple k t l its.toArray n dd sl)
          ⟨ho, rfl, ⟨_, ho, rfl⟩, call_meets F.slot_tuple_mul ⟨_, ho, rfl⟩ F.entry_tuple_mul (F.args_tuple_mul_2 _ _) (tuple_mul0 l its.toArray n dd sl k t c0 c1 c2) ⟨ho, ?_⟩⟩)
      have e0 : (List.replicate k.toNat xs).flatten = [] := by
        have : k.toNat = 0 := by omega
        rw [this]; rfl
      have q := q2 c
      rw [e0] at q
      refine ⟨.ref s.heap.objs.size, _, I.laid (t' := s.toks) (o := .tup []) (fun b ob q => Heap.get?_push_of_some _ q) (Nat.le_refl _) ?_, rfl, q _ (I.hok.fresh (Nat.le_refl _))⟩
      exact ⟨by rw [sizeLine_eq]; exact Nat.zero_le _, [], .nil, IsTup.new _ _⟩
    · have hm : ((its.toArray.size : Nat) : Int) * k ≤ 16777216 := by
        rw [hsz0]
        have : ((xs.length : Nat) : Int) * k = ((xs.length * k.toNat : Nat) : Int) := by
          rw [Int.natCast_mul, Int.toNat_of_nonneg (by omega)]
        rw [this]
        rw [sizeLine_eq] at hz
        omega
      have flen : (List.replicate k.toNat its).flatten.length ≤ sizeLine := by
        rw [PyProof.Rows.lm_len_rep_flat, hle, Nat.mul_comm]
        exact hz
      have c2 : (decide (k ≤ 0) || its.toArray.isEmpty) = false := by
        rw [hi, hx, Bool.or_false]
        exact decide_eq_false (by omega)
      have c4 : Builtin.Tuple.tupleTooMany (((its.toArray.size : Nat) : Int) * k) = false := by
        unfold Builtin.Tuple.tupleTooMany
        rw [sizeLine_eq]
        exact decide_eq_false (by omega)
      refine wpAny_binaryOp_repeat_ref (T := "tuple") (U := "int") (by decide) ⟨_, ho, rfl⟩ (fun s' => typeIs_int s' k t) noFill_tuple_mul F.fills_int_mul F.slot_int_rmul repeat_tuple F.slot_int_index.lookup
        (call_meets F.slot_int_rmul (typeIs_int s k t) F.entry_int_rmul (F.args_int_rmul_2 _ _) (int_rmul_tuple k t l its.toArray n dd sl)
          ⟨ho, rfl, ⟨_, ho, rfl⟩, call_meets F.slot_tuple_mul ⟨_, ho, rfl⟩ F.entry_tuple_mul (F.args_tuple_mul_2 _ _) (tuple_mulW l its.toArray n dd sl k t c0 c1 c2 (by omega) c4 (by rw [size_rep, List.size_toArray]; exact flen)) ⟨ho, ?_⟩⟩)
      rw [size_rep]
      refine ⟨.ref s.heap.objs.size, _, I.laid (t' := s.toks) (o := .tup (List.replicate k.toNat xs).flatten) (fun b ob q => Heap.get?_push_of_some _ q) (Nat.le_refl _) ?_, rfl, q2 c _ (I.hok.fresh (Nat.le_refl _))⟩
      exact ⟨by rw [PyProof.Rows.lm_len_rep_flat, Nat.mul_comm]; exact hz, _, r.rep k.toNat, IsTup.new _ _⟩
end
/-- a * b: ints, a list or a tuple times an int -/
def hMulT : D → D → Sto → Res D
  | .tup xs, .int k, l => if small (xs.length * k.toNat) && mid k then .ok (.tup (List.replicate k.toNat xs).flatten) l else .bad
  | x, y, l => hMul x y l
section
variable {X : Cx} {E : XK} {a b e : Expr} {fa fb : DE} {pos : Pos}
def rMulT (K : PySem.W.Frag) : R2 := fun x y H Q => rMulA x y H Q ∨ rRepA K x y H Q
theorem flat_nil {α : Type} : ∀ k : Nat, (List.replicate k ([] : List α)).flatten = []
  | 0 => rfl
  | k + 1 => by rw [List.replicate_succ, List.flatten_cons, flat_nil k]; rfl
theorem hs_mulT : OpS X.K E (rMulT X.K) hMulT := fun ρ l H dx dy x y Q o rx ry p => by
  unfold hMulT at p
  split at p
  · rename_i xs k
    obtain ⟨hc, p⟩ := Post.ite p
    rw [Bool.and_eq_true] at hc
    obtain ⟨a, vs, rfl, t, r⟩ := rx.tup_
    have b1 := (mid_ hc.2).2
    have b2 := (mid_ hc.2).1
    rw [ry.int_]
    refine .inr ⟨a, k, vs, rfl, rfl, t, b2, b1, by rw [r.length]; exact small_le hc.1, fun c => ?_, fun c q hq => ?_⟩
    · refine Post.here p o (rw_tup t ?_)
      rw [Bool.or_eq_true] at c
      rcases c with c | c
      · have e1 : vs = [] := by simpa using c
        have e2 := r.nil_iff.mp e1
        subst e1; subst e2
        rw [flat_nil]; exact Rws.nil
      · have e1 : k = 1 := by simpa using c
        subst e1
        have : (List.replicate (1 : Int).toNat xs).flatten = xs := by
          show (List.replicate 1 xs).flatten = xs
          simp
        rw [this]; exact r
    · exact Post.mkT o (r.rep _) p hq
  · exact .inl (hs_mul ρ l H dx dy x y Q o rx ry p)
theorem ae_mulT (ha : AE X E a fa) (hb : AE X E b fb) : AE X E (.BinOp a .Mult b pos) (dOp hMulT fa fb) := ae_op2 (pe_op (OpR.or op_mulA op_repA) ha.pe hb.pe) hs_mulT
end
end Zb

set_option Elab.async false
set_option linter.all false
set_option maxRecDepth 100000
namespace Zb
open PySem L2 PySem.Spec PyProof.Rows
theorem ae_gl {X : Cx} {E : XK} {d : D} {v : V} {x : Str} {pos : Pos} (hd : isC d v) (hg : Gl X x) (h : ∃ u, X.mg x = some u ∧ RelV v u) (hn : (x == ("__debug__" : Str)) = false := by decide) : AE X E (.Name x pos) (dC d) := by
  obtain ⟨u, hm, r⟩ := h
  exact ae_c hd (pe_glob hg hm r hn)
theorem _root_.L2.Room.units1 {k : Nat} {A : Around} (r : Room k A) : A.units + 1 < cLine := by have := r.un; omega
/-! ### comparisons as tests -/
def dBl (f : DE) : DB := fun g l => (f g l).bind fun d l1 => match d with
  | .bl k => .ok k l1
  | _ => .bad
section
variable {X : Cx} {E : XK} {a b c e : Expr} {fa fb fc f : DE} {pos : Pos}
theorem bl_of {K : PySem.W.Frag} {σ H Q} (h : ttOf K E (dBl f) σ H Q) : teOf K E f σ H (fun x H' => ∃ k, x = .bl k ∧ Q k H') := by
  obtain ⟨ρ, l, g, o, s, p⟩ := h
  refine ⟨ρ, l, g, o, s, Post.bind p fun d l1 ρ1 H1 v e1 s1 o1 r1 p1 => ?_⟩
  cases d with
  | bl k => rw [r1.bl_]; exact ⟨k, rfl, p1.here o1 rfl⟩
  | _ => exact p1.elim
theorem op2_of {K : PySem.W.Frag} {r : R2} {h : D → D → Sto → Res D} (hs : OpS K E r h) {σ H Q} (w : teOf K E (dOp h fa fb) σ H Q) : tOp r (teOf K E fa) (teOf K E fb) σ H Q := by
  obtain ⟨ρ, l, g, o, s, p⟩ := w
  refine ⟨ρ, l, g, o, s, Post.bind p fun x l1 ρ1 H1 v e1 s1 o1 r1 p1 => ?_⟩
  refine ⟨ρ1, l1, g, o1, s.step s1 o, Post.bind p1 fun y l2 ρ2 H2 u e2 s2 o2 r2 p2 => ?_⟩
  exact hs ρ2 l2 H2 x y v u Q o2 (s2.rw o1 r1) r2 p2
theorem at_cmp {op : CmpOp} {r : R2} {h : D → D → Sto → Res D} (ho : OpR X (compareOp op) r) (hs : OpS X.K E r h) (ha : AE X E a fa) (hb : AE X E b fb) (hm : behindInMarks op b = false) : AT X E (.Compare a [op] [b] pos) (dBl (dOp h fa fb)) :=
  ⟨PT.imp (pt_cmpR ho ha.pe hb.pe hm) fun σ H Q w => op2_of hs (bl_of w)⟩
theorem at_eq (hu : X.A.units + 64 < cLine) (ha : AE X E a fa) (hb : AE X E b fb) : AT X E (.Compare a [.Eq] [b] pos) (dBl (dOp hEq fa fb)) := at_cmp (OpR.or op_eq (op_eqD hu)) hs_eq ha hb (nomark _)
theorem at_ne (hu : X.A.units + 64 < cLine) (ha : AE X E a fa) (hb : AE X E b fb) : AT X E (.Compare a [.NotEq] [b] pos) (dBl (dOp hNe fa fb)) := at_cmp (OpR.or op_ne (op_neD hu)) hs_ne ha hb (nomark _)
theorem at_lt (ha : AE X E a fa) (hb : AE X E b fb) : AT X E (.Compare a [.Lt] [b] pos) (dBl (dOp (hCmp fun i j => decide (i < j)) fa fb)) := at_cmp op_lt hs_cmp ha hb (nomark _)
theorem at_le (ha : AE X E a fa) (hb : AE X E b fb) : AT X E (.Compare a [.LtE] [b] pos) (dBl (dOp (hCmp fun i j => decide (i ≤ j)) fa fb)) := at_cmp op_le hs_cmp ha hb (nomark _)
theorem at_gt (ha : AE X E a fa) (hb : AE X E b fb) : AT X E (.Compare a [.Gt] [b] pos) (dBl (dOp (hCmp fun i j => decide (j < i)) fa fb)) := at_cmp op_gt hs_cmp ha hb (nomark _)
theorem at_ge (ha : AE X E a fa) (hb : AE X E b fb) : AT X E (.Compare a [.GtE] [b] pos) (dBl (dOp (hCmp fun i j => decide (j ≤ i)) fa fb)) := at_cmp op_ge hs_cmp ha hb (nomark _)
theorem at_in (ha : AE X E a fa) (hb : AE X E b fb) (hm : behindInMarks .In b = false := by rfl) : AT X E (.Compare a [.In] [b] pos) (dBl (dOp (hIn false) fa fb)) := at_cmp op_in_seq hs_in ha hb hm
theorem at_notIn (ha : AE X E a fa) (hb : AE X E b fb) (hm : behindInMarks .NotIn b = false := by rfl) : AT X E (.Compare a [.NotIn] [b] pos) (dBl (dOp (hIn true) fa fb)) := at_cmp op_notIn_seq hs_in ha hb hm
theorem hs_isN : OpS X.K E (fun x y H Q => y = .non ∧ Q (.bl (decide (x = .non))) H) hIsN := fun ρ l H dx dy x y Q o rx ry p => by
  unfold hIsN at p
  split at p
  · exact ⟨ry.non_, by rw [isN_of rx]; exact p.here o rw_bl⟩
  · exact p.elim
theorem hs_notN : OpS X.K E (fun x y H Q => y = .non ∧ Q (.bl (!decide (x = .non))) H) hNotN := fun ρ l H dx dy x y Q o rx ry p => by
  unfold hNotN at p
  split at p
  · exact ⟨ry.non_, by rw [isN_of rx]; exact p.here o rw_bl⟩
  · exact p.elim
theorem at_isN (ha : AE X E a fa) (hb : AE X E b fb) : AT X E (.Compare a [.Is] [b] pos) (dBl (dOp hIsN fa fb)) := at_cmp op_isN hs_isN ha hb (nomark _)
theorem at_notN (ha : AE X E a fa) (hb : AE X E b fb) : AT X E (.Compare a [.IsNot] [b] pos) (dBl (dOp hNotN fa fb)) := at_cmp op_notN hs_notN ha hb (nomark _)
theorem din_of {K : PySem.W.Frag} {σ H Q} (w : teOf K E (dOp (hDIn false) fa fb) σ H Q) : tDIn (teOf K E fa) (teOf K E fb) σ H Q := by
  obtain ⟨ρ, l, g, o, s, p⟩ := w
  refine ⟨ρ, l, g, o, s, Post.bind p fun y l1 ρ1 H1 v e1 s1 o1 r1 p1 => ?_⟩
  refine ⟨ρ1, l1, g, o1, s.step s1 o, Post.bind p1 fun x l2 ρ2 H2 u e2 s2 o2 r2 p2 => ?_⟩
  unfold hDIn at p2
  split at p2
  · rename_i n k hk
    split at p2
    · rename_i kvs e3
      obtain ⟨q, kv, rfl, _, h1, h2, h3⟩ := o2.dct r2 e3
      refine ⟨q, valV kv k, rfl, ?_, ?_⟩
      · rw [key_rel hk (s2.rw o1 r1)]; exact DGet.k h1
      · rw [some_rel h2 h3]; exact p2.here o2 rw_bl
    · exact p2.elim
  · exact p2.elim
theorem dnotin_of {K : PySem.W.Frag} {σ H Q} (w : teOf K E (dOp (hDIn true) fa fb) σ H Q) : tDNotIn (teOf K E fa) (teOf K E fb) σ H Q := by
  obtain ⟨ρ, l, g, o, s, p⟩ := w
  refine ⟨ρ, l, g, o, s, Post.bind p fun y l1 ρ1 H1 v e1 s1 o1 r1 p1 => ?_⟩
  refine ⟨ρ1, l1, g, o1, s.step s1 o, Post.bind p1 fun x l2 ρ2 H2 u e2 s2 o2 r2 p2 => ?_⟩
  unfold hDIn at p2
  split at p2
  · rename_i n k hk
    split at p2
    · rename_i kvs e3
      obtain ⟨q, kv, rfl, _, h1, h2, h3⟩ := o2.dct r2 e3
      refine ⟨q, valV kv k, rfl, ?_, ?_⟩
      · rw [key_rel hk (s2.rw o1 r1)]; exact DGet.k h1
      · rw [some_rel h2 h3]; exact p2.here o2 rw_bl
    · exact p2.elim
  · exact p2.elim
theorem at_din (hu : X.A.units + 1 < cLine) (ha : AE X E a fa) (hb : AE X E b fb) (hm : behindInMarks .In b = false := by rfl) : AT X E (.Compare a [.In] [b] pos) (dBl (dOp (hDIn false) fa fb)) :=
  ⟨PT.imp (pt_cmp (pc_din hu ha.pe hb.pe) hm) fun σ H Q w => din_of (bl_of w)⟩
theorem at_dnotin (hu : X.A.units + 1 < cLine) (ha : AE X E a fa) (hb : AE X E b fb) (hm : behindInMarks .NotIn b = false := by rfl) : AT X E (.Compare a [.NotIn] [b] pos) (dBl (dOp (hDIn true) fa fb)) :=
  ⟨PT.imp (pt_cmp (pc_dnotin hu ha.pe hb.pe) hm) fun σ H Q w => dnotin_of (bl_of w)⟩
theorem pe_at {e : Expr} {t : TE} (h : PT X e (tTest t)) {h2 : teOf X.K E f = t} : AT X E e (dBl f) := ⟨PT.imp h fun σ H Q w => by rw [← h2]; exact bl_of w⟩
theorem at_chain {op op' : CmpOp} {r r' : R2} {h1 h2 : D → D → Sto → Res D} (ho : OpR X (compareOp op) r) (ho' : OpR X (compareOp op') r') (s1 : OpS X.K E r h1) (s2 : OpS X.K E r' h2) (ha : AE X E a fa) (hb : AE X E b fb) (hc : AE X E c fc) (hm : lastMarks [op, op'] [b, c] = false := by rfl) :
    AT X E (.Compare a [op, op'] [b, c] pos) (dBl (dChain h1 h2 fa fb fc)) := ⟨PT.imp (pt_chain ho ho' ha.pe hb.pe hc.pe hm) fun σ H Q h => chain_of s1 s2 (bl_of h)⟩
/-! ### comprehensions, the slots told ahead -/
variable {i : Nat} {y : Str} {py : Pos} {elt tg' iter : Expr} {ifs : List Expr} {scope : Scope} {own : List (Str × Nat)} {vs : List Nat} {spos : Pos} {fi : DI} {gt : D → Sto → Sl → Option Sl} {ct : DB} {fe : DE} {tg : TG}
theorem ae_lcv (own : List (Str × Nat)) (hv : own.map (·.2) = vs) (hc : X.calm = true) (hN : X.N.Nodup) (hi : AI X E tg' iter fi) (ok : BlkOk X.N X.env.scope scope own)
    (hg : ∀ (s : Shared) (H : Hp) (C : Addr) (cl : List (Str × Addr)) (fp : List Addr), PG (X.blk s H scope (compEnvC scope cl C X.env) fp) tg' tg)
    (ht : ∀ (s : Shared) (H : Hp) (C : Addr) (cl : List (Str × Addr)) (fp : List Addr), PTs (X.blk s H scope (compEnvC scope cl C X.env) fp) ifs (ttOf X.K E0 ct))
    (he : ∀ (s : Shared) (H : Hp) (C : Addr) (cl : List (Str × Addr)) (fp : List Addr), AE (X.blk s H scope (compEnvC scope cl C X.env) fp) E0 elt fe)
    (ag : AGw tg X.K vs gt) (hs : ∀ x, foldedSetIterable iter X.env x = pure x := by intro _; rfl) :
    AE X E (.ListComp elt [⟨tg', iter, ifs, 0⟩] scope pos) (dLc fi gt ct fe vs) := by
  subst hv
  exact ae_lc hc hN hi ok hg ht he ag hs
theorem as_setLcv (own : List (Str × Nat)) (hv : own.map (·.2) = vs) (hc : X.calm = true) (hN : X.N.Nodup) (hy : X.N[i]? = some y) (hyl : X.env.scope.names.lookup y = some .local)
    (hsw : swapsWith (.ListComp elt [⟨tg', iter, ifs, 0⟩] scope pos) (some (.Name y py)) spos.line X.env = pure true) (hi : AI X E tg' iter fi) (ok : BlkOk X.N X.env.scope scope own)
    (hg : ∀ (s : Shared) (H : Hp) (C : Addr) (cl : List (Str × Addr)) (fp : List Addr), PG (X.blk s H scope (compEnvC scope cl C X.env) fp) tg' tg)
    (ht : ∀ (s : Shared) (H : Hp) (C : Addr) (cl : List (Str × Addr)) (fp : List Addr), PTs (X.blk s H scope (compEnvC scope cl C X.env) fp) ifs (ttOf X.K E0 ct))
    (he : ∀ (s : Shared) (H : Hp) (C : Addr) (cl : List (Str × Addr)) (fp : List Addr), AE (X.blk s H scope (compEnvC scope cl C X.env) fp) E0 elt fe)
    (ag : AGw tg X.K vs gt) (hs : ∀ x, foldedSetIterable iter X.env x = pure x := by intro _; rfl) :
    AS X E (.Assign [.Name y py] (.ListComp elt [⟨tg', iter, ifs, 0⟩] scope pos) spos) (sSet i (dLc fi gt ct fe vs)) := by
  subst hv
  exact as_setLc hc hN hy hyl hsw hi ok hg ht he ag hs
/-! ### methods of lists -/
variable {es : List Expr} {o : Expr} {fo : DE} {fs : DEs} {apos cpos : Pos}
theorem ae_append (ho : AE X E o fo) (ha : AA X E (e :: es) fs) (hbase : attributeBase o "append" X.env (eval o X.env) = eval o X.env := by rfl)
    (hfew : ((backTo cpos (starEach (e :: es) X.env)).all (fun x => !x.1) && (backToKw cpos (keywordEach [] X.env)).all (fun x => x.1.isSome)
      && decide ((e :: es).length + ([] : List Keyword).length + (if ([] : List Keyword).isEmpty then 0 else 1) < 30)) = true := by rfl)
    (hline : (apos.endLine == cpos.line) = true := by rfl) (hs : starEach (e :: es) X.env = (false, eval e X.env) :: starEach es X.env := by rfl) (hplain : (backTo cpos (starEach es X.env)).any (·.1) = false := by rfl) :
    AE X E (.Call (.Attribute o "append" apos) (e :: es) [] cpos) (dMe hApp fo fs) := ae_me (pe_bm PySem.F.plainAttrs_list PySem.F.slot_list_append PySem.F.type_list_append mt_append ho.pe ha.pa hbase hfew hline hs hplain) ms_app
theorem ae_extend (ho : AE X E o fo) (ha : AA X E (e :: es) fs) (hbase : attributeBase o "extend" X.env (eval o X.env) = eval o X.env := by rfl)
    (hfew : ((backTo cpos (starEach (e :: es) X.env)).all (fun x => !x.1) && (backToKw cpos (keywordEach [] X.env)).all (fun x => x.1.isSome)
      && decide ((e :: es).length + ([] : List Keyword).length + (if ([] : List Keyword).isEmpty then 0 else 1) < 30)) = true := by rfl)
    (hline : (apos.endLine == cpos.line) = true := by rfl) (hs : starEach (e :: es) X.env = (false, eval e X.env) :: starEach es X.env := by rfl) (hplain : (backTo cpos (starEach es X.env)).any (·.1) = false := by rfl) :
    AE X E (.Call (.Attribute o "extend" apos) (e :: es) [] cpos) (dMe hExt fo fs) := ae_me (pe_bm PySem.F.plainAttrs_list PySem.F.slot_list_extend PySem.F.type_list_extend mt_extA ho.pe ha.pa hbase hfew hline hs hplain) ms_ext
theorem ae_pop (ho : AE X E o fo) (hbase : attributeBase o "pop" X.env (eval o X.env) = eval o X.env := by rfl) (hline : (apos.endLine == cpos.line) = true := by rfl) :
    AE X E (.Call (.Attribute o "pop" apos) [] [] cpos) (dMe0 hPop fo) := ae_me0 (pe_bm0 PySem.F.plainAttrs_list PySem.F.slot_list_pop PySem.F.type_list_pop mt_pop ho.pe hbase hline) ms_pop
end
end Zb

set_option Elab.async false
set_option linter.all false
set_option maxRecDepth 100000
namespace Zb
open PySem L2 PySem.Spec PyProof.Rows
/-! ### defs that raise -/
def runX (n : Nat) (den : DS) : List D → Sto → Res D := fun ds l => match den (startD n ds) l with
  | .rt d l' => .ok d l'
  | .nx _ l' => .ok .non l'
  | .ex C fs l' => .exc C fs l'
  | _ => .bad
section
variable {P : Program} {w : World} {K : PySem.W.Frag} {mg : Str → Option Value} {base : Heap} {k n : Nat} {f : Addr} {fd : FuncData} {ps N : List Str} {x qual : Str} {st : Stmt}
theorem ok_bodyX {den : DS} (F : Fun K x qual st f fd) (S : FnScope N ps (defScope st))
    (hb : ∀ (cdv : Value) (A : Around) (outer : List Env) (s : Shared) (H : Hp) (E : XK), Room k (A.deeper (envOfC qual (defScope st) s.heap.objs.size f cdv)) →
      ASs (cxOf (L2.CX P w) P w K mg base N qual (defScope st) f cdv A outer s H E) E (defBody st) den) : FnOk P w K mg base (L2.CX P w) (k + 1) f fd ps (spD K ps.length (runX N.length den)) := by
  refine F.okX S (fun vs H Q E h => ?_) (fun cdv A outer s H vs Q E hr h => ?_)
  · obtain ⟨ρ, l, ds, o, r, hl, _⟩ := h
    rw [r.length, hl]
  · obtain ⟨ρ, l, ds, o, r, hl, p⟩ := h
    refine ⟨_, (hb cdv A outer s H E hr).pss, ρ, l, startD N.length ds, o, slt_start r, ?_⟩
    unfold runX at p
    cases q : den (startD N.length ds) l with
    | bad => rw [q] at p; exact p
    | nx g l' => rw [q] at p; exact fun ρ' H' σ' s' o' _ => p ρ' H' .non s' o' rw_non
    | rt d l' => rw [q] at p; exact fun ρ' H' v s' o' r' => p ρ' H' v s' o' r'
    | bk g l' => rw [q] at p; exact p.elim
    | ct g l' => rw [q] at p; exact p.elim
    | ex C gs l' => rw [q] at p; exact p
end
section
variable {X : Cx} {E : XK} {e : Expr} {es : List Expr} {fs : DEs} {pos p : Pos} {x : Str} {k n : Nat} {ps : List Str}
/-! ### calls that may raise -/
def dCallX (n : Nat) (m : List D → Sto → Res D) (fs : DEs) : DE := fun g l => (fs g l).bind fun ds l1 => if ds.length == n then m ds l1 else .bad
theorem callX_of {m : List D → Sto → Res D} {σ H Q} (h : teOf X.K E (dCallX n m fs) σ H Q) : tCall (spD X.K n m) [] E (taOf X.K E fs) σ H Q := by
  obtain ⟨ρ, l, g, o, s, q⟩ := h
  refine ⟨ρ, l, g, o, s, Post.bind q fun ds l1 ρ1 H1 vs e1 s1 o1 r1 q1 => ?_⟩
  obtain ⟨hc, q1⟩ := Post.ite q1
  rw [List.append_nil]
  exact ⟨ρ1, l1, ds, o1, r1, by simpa using hc, q1⟩
theorem passX (tk : Takes X (fun c d _ H => E c d H)) : Passes (L2.CX X.prog X.w) X E := passes_call tk fun _ _ _ _ h => h
theorem ae_callX {CX : CXT} {m : List D → Sto → Res D} (h : Has CX X.prog X.w X.K X.mg X.base x k ps (spD X.K n m)) (hx : Passes CX X E) (hr : Room k X.A) (hg : Gl X x) (ha : AA X E (e :: es) fs) (hdb : (x == ("__debug__" : Str)) = false := by decide)
    (he : starEach (e :: es) X.env = (false, eval e X.env) :: starEach es X.env := by rfl) (hpl : (backTo pos (starEach es X.env)).any (·.1) = false := by rfl) : AE X E (.Call (.Name x p) (e :: es) [] pos) (dCallX n m fs) := by
  obtain ⟨f, fd, a, b, c, d⟩ := h.ex
  exact ⟨PE.imp (pe_call d hr hg a b c .nil hx ha.pa (hdb := hdb) (he := he) (hpl := hpl)) fun σ H Q h => callX_of h⟩
/-! ### calls by keywords alone -/
/-- the def binds its keywords ks so: g, gD put them in the parameters' order -/
structure HasK (CX : CXT) (P : Program) (w : World) (K : PySem.W.Frag) (mg : Str → Option Value) (base : Heap) (x : Str) (k : Nat) (ps ks : List Str) (gD : List D → List D) (sp : Sp) : Prop where
  ex : ∃ (f : Addr) (fd : FuncData) (g : List Value → List Value → List Value) (gV : List V → List V → List V), mg x = some (.ref f) ∧ PySem.W.keepIn K (.ref f) = true ∧ KBinds K fd ps ks g gV ∧ (∀ ρ H ds vs, Rws K ρ H ds vs → Rws K ρ H (gD ds) (gV [] vs)) ∧ FnOk P w K mg base CX k f fd ps sp
structure AK (X : Cx) (E : XK) (kws : List Keyword) (fs : DEs) : Prop where
  pk : PK X kws (taOf X.K E fs)
theorem ak_nil : AK X E [] dNil := ⟨⟨fun pos pins s σ H Q I ⟨ρ, l, g, o, sl, p⟩ => pk_nil.run pos pins s σ H Q I (Post.here p o Rws.nil)⟩⟩
theorem ak_cons {nm : Option Str} {kpos : Pos} {kws : List Keyword} {f : DE} (ha : AE X E e f) (hr : AK X E kws fs) : AK X E (⟨nm, e, kpos⟩ :: kws) (dCons f fs) :=
  ⟨⟨fun pos pins s σ H Q I ⟨ρ, l, g, o, sl, p⟩ => (pk_cons ha.pe hr.pk).run pos pins s σ H Q I (by
    refine ⟨ρ, l, g, o, sl, Post.bind p fun x l1 ρ1 H1 v e1 s1 o1 r1 p1 => ?_⟩
    refine ⟨ρ1, l1, g, o1, sl.step s1 o, Post.bind p1 fun ds l2 ρ2 H2 vs e2 s2 o2 r2 p2 => ?_⟩
    exact Post.here p2 o2 (Rws.cons (s2.rw o1 r1) r2))⟩⟩
def dCallKX (n : Nat) (gD : List D → List D) (m : List D → Sto → Res D) (fs : DEs) : DE := fun g l => (fs g l).bind fun ds l1 => if (gD ds).length == n then m (gD ds) l1 else .bad
theorem pe_callK0 {CX : CXT} {f : Addr} {fd : FuncData} {sp : Sp} {ks : List Str} {g : List Value → List Value → List Value} {gV : List V → List V → List V} {kws : List Keyword} {tk : TA} (F : FnOk X.prog X.w X.K X.mg X.base CX k f fd ps sp) (hr : Room k X.A) (hg : Gl X x) (hm : X.mg x = some (.ref f)) (hk : PySem.W.keepIn X.K (.ref f) = true) (hb : KBinds X.K fd ps ks g gV) (hx : Passes CX X E)
    (hkw : PK X kws tk) (hall : (backToKw pos (keywordEach kws X.env)).all (·.1.isSome) = true := by rfl) (hks : (backToKw pos (keywordEach kws X.env)).filterMap (·.1) = ks := by rfl)
    (hdb : (x == ("__debug__" : Str)) = false := by decide)
    (hpl : ((backTo pos (starEach [] X.env)).any (·.1) || (backToKw pos (keywordEach kws X.env)).any (·.1.isNone)) = false := by rfl) :
    PE X (.Call (.Name x p) [] kws pos) (tCallK sp gV E tNil tk) := by
  refine ⟨fun pins s σ H Q I h => ?_⟩
  refine wpAny_Call_Name_kw (ld_glob I hg hm ?_ hdb)
  refine PySem.W.callWith_KW0 (h₀ := X.base) I.ok.mod.kin hk hall ?_ hpl
  refine thn (hkw.run pos pins s σ H _ I h) fun ws s2 ⟨zs, H2, I2, rz, q2⟩ => ⟨I2.kIn, ?_⟩
  rw [hks]
  exact run_fnk F hr hb hx I2 .nil rz q2
theorem ae_callKX {CX : CXT} {ks : List Str} {gD : List D → List D} {kws : List Keyword} {m : List D → Sto → Res D} (h : HasK CX X.prog X.w X.K X.mg X.base x k ps ks gD (spD X.K n m)) (hx : Passes CX X E) (hr : Room k X.A) (hg : Gl X x) (ha : AK X E kws fs)
    (hall : (backToKw pos (keywordEach kws X.env)).all (·.1.isSome) = true := by rfl) (hks : (backToKw pos (keywordEach kws X.env)).filterMap (·.1) = ks := by rfl)
    (hdb : (x == ("__debug__" : Str)) = false := by decide)
    (hpl : ((backTo pos (starEach [] X.env)).any (·.1) || (backToKw pos (keywordEach kws X.env)).any (·.1.isNone)) = false := by rfl) :
    AE X E (.Call (.Name x p) [] kws pos) (dCallKX n gD m fs) := by
  obtain ⟨f, fd, g, gV, a, b, c, d, F⟩ := h.ex
  refine ⟨PE.imp (pe_callK0 F hr hg a b c hx ha.pk hall hks hdb hpl) fun σ H Q h => ?_⟩
  obtain ⟨ρ, l, gg, o, s, q⟩ := h
  refine ⟨ρ, l, gg, o, s, Post.bind q fun ds l1 ρ1 H1 vs e1 s1 o1 r1 q1 => ?_⟩
  obtain ⟨hc, q1⟩ := Post.ite q1
  exact ⟨ρ1, l1, gD ds, o1, d _ _ _ _ r1, by simpa using hc, q1⟩
end
end Zb

set_option Elab.async false
set_option linter.all false
set_option maxRecDepth 100000
namespace Zb
open PySem L2 PySem.Spec PyProof.Rows
/-! ### what a def computes, read off its run in a small store -/
open Classical in
noncomputable def cutK (rl : Bool) (b : Nat) (d' : D) (L : Sto) : Option D := match rl, d' with
  | false, d' => some d'
  | true, .adr k => if b ≤ k then (match L[k]? with
    | some (.lst xs) => some (.tup xs)
    | _ => none) else none
  | _, _ => none
open Classical in
noncomputable def pfOf (run : List D → Sto → Res D) (ks : List Kd) (rl : Bool) : List D → Option D := fun es => match run (smA ks 0 es) (smL ks es) with
  | .ok d' L => if L.take (smL ks es).length = smL ks es then cutK rl (smL ks es).length d' L else none
  | _ => none
open Classical in
noncomputable def pjOf (run : List D → Sto → Res D) (ks : List Kd) (rl : Bool) : Jug → List D → Option (D × Jug) := fun J es => match run (.adr 0 :: smA ks 2 es) (J.ob 1 :: J.gob :: smL ks es) with
  | .ok d' L => if h : ∃ J' : Jug, L.take (2 + (smL ks es).length) = J'.ob 1 :: J'.gob :: smL ks es then (cutK rl (2 + (smL ks es).length) d' L).map fun d => (d, h.choose) else none
  | _ => none
theorem cutK_out {rl : Bool} {b : Nat} {d d' : D} {L : Sto} (h : cutK rl b d' L = some d) : outK rl b d d' L := by
  cases rl with
  | false => simp only [cutK, Option.some.injEq] at h; exact h
  | true =>
    cases d' with
    | adr k =>
      simp only [cutK] at h
      split at h
      · split at h
        · rename_i hk _ xs e
          cases h
          exact ⟨xs, k, rfl, rfl, e, hk⟩
        · cases h
      · cases h
    | _ => simp [cutK] at h
theorem take_app {α : Type} {L t : List α} {n : Nat} (h : L.take n = t) : L = t ++ L.drop n := by rw [← h, List.take_append_drop]
section
variable {CX : CXT} {P : Program} {w : World} {K : PySem.W.Frag} {mg : Str → Option Value} {base : Heap} {x : Str} {k : Nat} {ps : List Str} {m : List D → Sto → Res D} {ks : List Kd} {rl : Bool}
theorem Has.toFo (h : Has CX P w K mg base x k ps (spD K ks.length m)) : Has CX P w K mg base x k ps (spD K ks.length (callF ks rl (pfOf m ks rl))) := h.toF fun es d _ e => by
  unfold pfOf at e
  split at e
  · rename_i d' L e1
    split at e
    · rename_i e2
      refine ⟨d', L.drop (smL ks es).length, ?_, ?_⟩
      · rw [e1, ← take_app e2]
      · rw [← take_app e2]; exact cutK_out e
    · cases e
  · cases e
theorem Has.toJo (h : Has CX P w K mg base x k ps (spD K (ks.length + 1) m)) : Has CX P w K mg base x k ps (spD K (ks.length + 1) (callJ ks rl (pjOf m ks rl))) := h.toJ fun J es d J' _ e => by
  unfold pjOf at e
  split at e
  · rename_i d' L e1
    split at e
    · rename_i e2
      cases q : cutK rl (2 + (smL ks es).length) d' L with
      | none => rw [q] at e; cases e
      | some d0 =>
        rw [q] at e
        cases e
        have e3 := e2.choose_spec
        have e4 := take_app e3
        refine ⟨d', L.drop (2 + (smL ks es).length), ?_, ?_⟩
        · rw [e1]
          exact congrArg (Res.ok d') (by simpa using e4)
        · have := cutK_out q
          rw [e4] at this
          simpa using this
    · cases e
  · cases e
end
theorem Jug.ob_inj {J J' : Jug} (h : J.ob 1 = J'.ob 1) (h2 : J.gob = J'.gob) : J = J' := by
  cases J with
  | mk f gs =>
    cases J' with
    | mk f' gs' =>
      simp only [Jug.ob, Jug.gob, OB.lst.injEq, List.cons.injEq, D.int.injEq, and_true] at h h2
      subst h
      have : gs = gs' := by
        have hi : Function.Injective D.int := fun a b e => by cases e; rfl
        exact List.map_inj_right (fun a b e => by cases e; rfl) |>.mp h2
      subst this; rfl
section
variable {run : List D → Sto → Res D} {ks : List Kd} {rl : Bool}
/-- a call, by the run in the small store -/
theorem callF_p {ds es : List D} {l junk : Sto} {d : D} (h1 : ins ks ds l = some es) (h2 : (idx ks ds).Nodup) (h3 : run (smA ks 0 es) (smL ks es) = .ok d (smL ks es ++ junk)) (h4 : pu d = true) :
    callF ks false (pfOf run ks false) ds l = .ok d l := by
  unfold callF pfOf
  rw [h1]
  simp [h2, h3, cutK, resK, h4]
theorem callF_l {ds es xs : List D} {l junk : Sto} {j : Nat} (h1 : ins ks ds l = some es) (h2 : (idx ks ds).Nodup) (h3 : run (smA ks 0 es) (smL ks es) = .ok (.adr j) (smL ks es ++ junk)) (hj : (smL ks es).length ≤ j) (h4 : (smL ks es ++ junk)[j]? = some (.lst xs)) (h5 : pus xs = true) :
    callF ks true (pfOf run ks true) ds l = .ok (.adr l.length) (l ++ [.lst xs]) := by
  unfold callF pfOf
  rw [h1]
  simp [h2, h3, cutK, resK, hj, h4, h5]
theorem callJ_p {w q : Nat} {ds es : List D} {l junk : Sto} {d : D} {J J' : Jug} (h0 : getJ l w = some (q, J)) (h1 : ins ks ds l = some es) (h2 : (w :: q :: idx ks ds).Nodup)
    (h3 : run (.adr 0 :: smA ks 2 es) (J.ob 1 :: J.gob :: smL ks es) = .ok d (J'.ob 1 :: J'.gob :: (smL ks es ++ junk))) (h4 : pu d = true) :
    callJ ks false (pjOf run ks false) (.adr w :: ds) l = .ok d (putJ l w q J') := by
  unfold callJ pjOf
  simp only [h0, h1, h3]
  have e : List.take (2 + (smL ks es).length) (J'.ob 1 :: J'.gob :: (smL ks es ++ junk)) = J'.ob 1 :: J'.gob :: smL ks es := by
    rw [Nat.add_comm 2, List.take_succ_cons, List.take_succ_cons, List.take_left']; rfl
  have hx : ∃ J'' : Jug, List.take (2 + (smL ks es).length) (J'.ob 1 :: J'.gob :: (smL ks es ++ junk)) = J''.ob 1 :: J''.gob :: smL ks es := ⟨J', e⟩
  have ej : hx.choose = J' := by
    have this := e.symm.trans hx.choose_spec
    simp only [List.cons.injEq, and_true] at this
    exact (Jug.ob_inj this.1 this.2).symm
  rw [if_pos h2, dif_pos hx]
  simp only [cutK, Option.map_some, ej, resK, h4, if_true]
theorem callJ_l {w q : Nat} {ds es xs : List D} {l junk : Sto} {j : Nat} {J J' : Jug} (h0 : getJ l w = some (q, J)) (h1 : ins ks ds l = some es) (h2 : (w :: q :: idx ks ds).Nodup)
    (h3 : run (.adr 0 :: smA ks 2 es) (J.ob 1 :: J.gob :: smL ks es) = .ok (.adr j) (J'.ob 1 :: J'.gob :: (smL ks es ++ junk))) (hj : 2 + (smL ks es).length ≤ j) (h4 : (J'.ob 1 :: J'.gob :: (smL ks es ++ junk))[j]? = some (.lst xs)) (h5 : pus xs = true) :
    callJ ks true (pjOf run ks true) (.adr w :: ds) l = .ok (.adr (putJ l w q J').length) (putJ l w q J' ++ [.lst xs]) := by
  unfold callJ pjOf
  simp only [h0, h1, h3]
  have e : List.take (2 + (smL ks es).length) (J'.ob 1 :: J'.gob :: (smL ks es ++ junk)) = J'.ob 1 :: J'.gob :: smL ks es := by
    rw [Nat.add_comm 2, List.take_succ_cons, List.take_succ_cons, List.take_left']; rfl
  have hx : ∃ J'' : Jug, List.take (2 + (smL ks es).length) (J'.ob 1 :: J'.gob :: (smL ks es ++ junk)) = J''.ob 1 :: J''.gob :: smL ks es := ⟨J', e⟩
  have ej : hx.choose = J' := by
    have this := e.symm.trans hx.choose_spec
    simp only [List.cons.injEq, and_true] at this
    exact (Jug.ob_inj this.1 this.2).symm
  rw [if_pos h2, dif_pos hx]
  simp only [cutK, if_pos hj, h4, Option.map_some, ej, resK, h5, if_true]
end
/-! ### written texts -/
theorem chars_inj : ∀ {a b : List Char}, a.map Char.toNat = b.map Char.toNat → a = b
  | [], [], _ => rfl
  | [], _ :: _, h => by simp at h
  | _ :: _, [], h => by simp at h
  | x :: a, y :: b, h => by
    simp only [List.map_cons, List.cons.injEq] at h
    rw [chars_inj h.2]
    have : x = y := Char.ext (UInt32.toNat_inj.mp h.1)
    rw [this]
@[simp] theorem ofString_inj {a b : String} : (Str.ofString a = Str.ofString b) ↔ a = b := by
  constructor
  · intro h
    rw [Str.ofString_eq_toList, Str.ofString_eq_toList] at h
    have h1 : (a.toList.map Char.toNat).toArray = (b.toList.map Char.toNat).toArray := congrArg Str.cps h
    have h2 := chars_inj (List.toArray_inj h1)
    exact String.toList_inj.mp h2
  · rintro rfl; rfl
example : (("throw" : Str) = "set") = False := by simp
end Zb

set_option Elab.async false
set_option linter.all false
set_option maxRecDepth 100000
namespace Zb
open PySem L2 PySem.Spec PyProof.Rows
/-! ### what a run computes, by rewriting: only what is run next is looked at -/
section
variable {α β : Type}
@[simp] theorem bind_ok (a : α) (l : Sto) (k : α → Sto → Res β) : (Res.ok a l).bind k = k a l := rfl
@[simp] theorem bind_bad (k : α → Sto → Res β) : (Res.bad : Res α).bind k = .bad := rfl
@[simp] theorem bind_exc (C : Addr) (fs : List (Str × D)) (l : Sto) (k : α → Sto → Res β) : (Res.exc C fs l : Res α).bind k = .exc C fs l := rfl
@[simp] theorem out_ok (a : α) (l : Sto) (k : α → Sto → Out) : (Res.ok a l).out k = k a l := rfl
@[simp] theorem out_bad (k : α → Sto → Out) : (Res.bad : Res α).out k = .bad := rfl
@[simp] theorem out_exc (C : Addr) (fs : List (Str × D)) (l : Sto) (k : α → Sto → Out) : (Res.exc C fs l : Res α).out k = .ex C fs l := rfl
@[simp] theorem nox_ok (a : α) (l : Sto) : (Res.ok a l).nox = .ok a l := rfl
@[simp] theorem nox_bad : (Res.bad : Res α).nox = .bad := rfl
end
def Out.seq (r : Out) (h : DS) : Out := match r with
  | .nx g1 l1 => h g1 l1
  | r => r
@[simp] theorem sSeq_e (f h : DS) (g : Sl) (l : Sto) : sSeq f h g l = (f g l).seq h := rfl
@[simp] theorem seq_nx (g : Sl) (l : Sto) (h : DS) : (Out.nx g l).seq h = h g l := rfl
@[simp] theorem seq_bad (h : DS) : Out.bad.seq h = .bad := rfl
@[simp] theorem seq_rt (d : D) (l : Sto) (h : DS) : (Out.rt d l).seq h = .rt d l := rfl
@[simp] theorem seq_bk (g : Sl) (l : Sto) (h : DS) : (Out.bk g l).seq h = .bk g l := rfl
@[simp] theorem seq_ct (g : Sl) (l : Sto) (h : DS) : (Out.ct g l).seq h = .ct g l := rfl
@[simp] theorem seq_ex (C : Addr) (fs : List (Str × D)) (l : Sto) (h : DS) : (Out.ex C fs l).seq h = .ex C fs l := rfl
def Out.toB (r : Out) : Res D := match r with
  | .rt d l' => .ok d l'
  | .nx _ l' => .ok .non l'
  | _ => .bad
@[simp] theorem toB_rt (d : D) (l : Sto) : (Out.rt d l).toB = .ok d l := rfl
@[simp] theorem toB_nx (g : Sl) (l : Sto) : (Out.nx g l).toB = .ok .non l := rfl
@[simp] theorem toB_bad : Out.bad.toB = .bad := rfl
@[simp] theorem runB_e (n : Nat) (den : DS) (ds : List D) (l : Sto) : runB n den ds l = (den (startD n ds) l).toB := rfl
def Out.toX (r : Out) : Res D := match r with
  | .rt d l' => .ok d l'
  | .nx _ l' => .ok .non l'
  | .ex C fs l' => .exc C fs l'
  | _ => .bad
@[simp] theorem toX_rt (d : D) (l : Sto) : (Out.rt d l).toX = .ok d l := rfl
@[simp] theorem toX_nx (g : Sl) (l : Sto) : (Out.nx g l).toX = .ok .non l := rfl
@[simp] theorem toX_ex (C : Addr) (fs : List (Str × D)) (l : Sto) : (Out.ex C fs l).toX = .exc C fs l := rfl
@[simp] theorem runX_e (n : Nat) (den : DS) (ds : List D) (l : Sto) : runX n den ds l = (den (startD n ds) l).toX := rfl
@[simp] theorem startD_nil (n : Nat) : startD n [] = List.replicate n none := rfl
@[simp] theorem startD_cons (n : Nat) (d : D) (ds : List D) : startD (n + 1) (d :: ds) = some d :: startD n ds := by simp [startD]
@[simp] theorem small_e (n : Nat) : small n = decide (n ≤ 16777216) := rfl
@[simp] theorem sRetN_e (g : Sl) (l : Sto) : sRetN g l = .rt .non l := rfl
@[simp] theorem mid_nat (n : Nat) : mid (n : Int) = decide (n ≤ 1000000000000) := by simp [mid]
@[simp] theorem in62_e (i : Int) : in62 i = mid i := rfl
@[simp] theorem mid_lit (n : Nat) : mid (no_index (OfNat.ofNat n)) = decide (OfNat.ofNat n ≤ 1000000000000) := mid_nat n
@[simp] theorem mid_0 : mid 0 = true := rfl
@[simp] theorem mid_1 : mid 1 = true := rfl
/-! operators -/
section
variable (l : Sto) (i j : Int) (xs ys : List D) (n m : Nat) (s t : Str) (b c : Bool) (x : D)
@[simp] theorem okO_some : okO (some x) l = .ok x l := rfl
@[simp] theorem okO_none : okO none l = .bad := rfl
@[simp] theorem hAdd_int : hAdd (.int i) (.int j) l = .ok (.int (i + j)) l := rfl
@[simp] theorem hAdd_tup : hAdd (.tup xs) (.tup ys) l = if small (xs.length + ys.length) then .ok (.tup (xs ++ ys)) l else .bad := rfl
@[simp] theorem hAdd_adr : hAdd (.adr n) (.adr m) l = (match l[n]?, l[m]? with
    | some (.lst xs), some (.lst ys) => if small (xs.length + ys.length) then .ok (.adr l.length) (l ++ [.lst (xs ++ ys)]) else .bad
    | _, _ => .bad) := rfl
@[simp] theorem hInt_int (c : Int → Int → Bool) (f : Int → Int → Int) : hInt c f (.int i) (.int j) l = if c i j then .ok (.int (f i j)) l else .bad := rfl
@[simp] theorem yes2_e : yes2 i j = true := rfl
@[simp] theorem hMul_int : hMul (.int i) (.int j) l = if mulOk i j then .ok (.int (i * j)) l else .bad := rfl
@[simp] theorem hMul_adr : hMul (.adr n) (.int j) l = (match l[n]? with
    | some (.lst xs) => if small (xs.length * j.toNat) && mid j then .ok (.adr l.length) (l ++ [.lst (List.replicate j.toNat xs).flatten]) else .bad
    | _ => .bad) := rfl
@[simp] theorem hMulT_int : hMulT (.int i) (.int j) l = hMul (.int i) (.int j) l := rfl
@[simp] theorem hMulT_adr : hMulT (.adr n) (.int j) l = hMul (.adr n) (.int j) l := rfl
@[simp] theorem hMulT_tup : hMulT (.tup xs) (.int j) l = if small (xs.length * j.toNat) && mid j then .ok (.tup (List.replicate j.toNat xs).flatten) l else .bad := rfl
@[simp] theorem hNeg_int : hNeg (.int i) l = .ok (.int (-i)) l := rfl
@[simp] theorem hEq_int : hEq (.int i) (.int j) l = .ok (.bl (decide (i = j))) l := rfl
@[simp] theorem hEq_str : hEq (.str s) (.str t) l = .ok (.bl (decide (s = t))) l := rfl
@[simp] theorem hEq_bl : hEq (.bl b) (.bl c) l = .ok (.bl (decide (b = c))) l := rfl
@[simp] theorem hEq_tup : hEq (.tup xs) (.tup ys) l = if sh (.tup xs) && sh (.tup ys) then .ok (.bl (PyData.eqv (py (.tup xs)) (py (.tup ys)))) l else .bad := rfl
@[simp] theorem hNe_int : hNe (.int i) (.int j) l = .ok (.bl (!decide (i = j))) l := rfl
@[simp] theorem hNe_str : hNe (.str s) (.str t) l = .ok (.bl (!decide (s = t))) l := rfl
@[simp] theorem hNe_bl : hNe (.bl b) (.bl c) l = .ok (.bl (!decide (b = c))) l := rfl
@[simp] theorem hNe_tup : hNe (.tup xs) (.tup ys) l = if sh (.tup xs) && sh (.tup ys) then .ok (.bl (!PyData.eqv (py (.tup xs)) (py (.tup ys)))) l else .bad := rfl
@[simp] theorem hNe_nn : hNe .non .non l = if sh .non && sh .non then .ok (.bl (!PyData.eqv (py .non) (py .non))) l else .bad := rfl
@[simp] theorem hNe_nt : hNe .non (.tup ys) l = if sh .non && sh (.tup ys) then .ok (.bl (!PyData.eqv (py .non) (py (.tup ys)))) l else .bad := rfl
@[simp] theorem hNe_tn : hNe (.tup ys) .non l = if sh (.tup ys) && sh .non then .ok (.bl (!PyData.eqv (py (.tup ys)) (py .non))) l else .bad := rfl
@[simp] theorem hCmp_int (f : Int → Int → Bool) : hCmp f (.int i) (.int j) l = .ok (.bl (f i j)) l := rfl
@[simp] theorem isN_non : isN .non = true := rfl
@[simp] theorem isN_tup : isN (.tup xs) = false := rfl
@[simp] theorem isN_int : isN (.int i) = false := rfl
@[simp] theorem isN_bl : isN (.bl b) = false := rfl
@[simp] theorem isN_str : isN (.str s) = false := rfl
@[simp] theorem isN_adr : isN (.adr n) = false := rfl
@[simp] theorem hIsN_e : hIsN x .non l = .ok (.bl (isN x)) l := by cases x <;> rfl
@[simp] theorem hNotN_e : hNotN x .non l = .ok (.bl (!isN x)) l := by cases x <;> rfl
@[simp] theorem items_tup : itemsOf (.tup xs) l = some xs := rfl
@[simp] theorem items_adr : itemsOf (.adr n) l = (match l[n]? with
  | some (.lst ds) => some ds
  | _ => none) := rfl
@[simp] theorem hIn_e (neg : Bool) (y : D) : hIn neg x y l = (match itemsOf y l with
  | some ds => if flatD x && ds.all flatD then .ok (.bl (if neg then !inV (fv x) (ds.map fv) else inV (fv x) (ds.map fv))) l else .bad
  | none => .bad) := rfl
@[simp] theorem flat_int : flatD (.int i) = true := rfl
@[simp] theorem flat_str : flatD (.str s) = true := rfl
@[simp] theorem fv_int : fv (.int i) = .int i := rfl
@[simp] theorem fv_str : fv (.str s) = .str s := rfl
@[simp] theorem tru_non : tru .non l = some false := rfl
@[simp] theorem tru_bl : tru (.bl b) l = some b := rfl
@[simp] theorem tru_int : tru (.int i) l = some (i != 0) := rfl
@[simp] theorem tru_tup : tru (.tup xs) l = some (!xs.isEmpty) := rfl
@[simp] theorem tru_adr : tru (.adr n) l = (match l[n]? with
    | some (.lst ds) => some (!ds.isEmpty)
    | _ => none) := rfl
@[simp] theorem hIx_tup : hIx (.tup xs) (.int i) l = okO (atI xs i) l := rfl
@[simp] theorem hIx_adr : hIx (.adr n) (.int i) l = (match l[n]? with
    | some (.lst ds) => okO (atI ds i) l
    | _ => .bad) := rfl
@[simp] theorem atI_nat_e : atI xs ((n : Nat) : Int) = xs[n]? := by
  unfold atI ixN
  rw [if_pos (by omega)]
  by_cases h : n < xs.length
  · rw [if_pos (by omega)]; simp
  · rw [if_neg (by omega)]; simp; omega
@[simp] theorem atI_zero : atI xs 0 = xs[0]? := atI_nat_e xs 0
@[simp] theorem atI_one : atI xs 1 = xs[1]? := atI_nat_e xs 1
@[simp] theorem atI_lit : atI xs (no_index (OfNat.ofNat n)) = xs[(OfNat.ofNat n : Nat)]? := atI_nat_e xs n
@[simp] theorem atI_last : atI xs (-1) = xs[xs.length - 1]? := by
  unfold atI ixN
  rw [if_neg (by omega)]
  by_cases h : xs.length = 0
  · rw [if_neg (by omega)]
    have : xs = [] := List.eq_nil_of_length_eq_zero h
    subst this; rfl
  · rw [if_pos (by omega)]
    have : ((-1 : Int) + (xs.length : Nat)).toNat = xs.length - 1 := by omega
    rw [this]; rfl
theorem cutG_to {α : Type} (xs : List α) (k : Nat) : cutG xs none (some (k : Int)) = xs.take k := by
  unfold cutG
  rw [HT.sIx_none, HT.sIx_nat]
  simp only [List.drop_zero, Nat.sub_zero]
  rw [Nat.min_def]
  split
  · rfl
  · rw [List.take_of_length_le (by omega), List.take_of_length_le (by omega)]
theorem cutG_from {α : Type} (xs : List α) (k : Nat) : cutG xs (some (k : Int)) none = xs.drop k := by
  unfold cutG
  rw [HT.sIx_none, HT.sIx_nat]
  rw [List.take_of_length_le (by rw [List.length_drop]; omega)]
  rw [Nat.min_def]
  split
  · rfl
  · rw [List.drop_eq_nil_of_le (by omega), List.drop_eq_nil_of_le (by omega)]
@[simp] theorem cutG_to_n {α : Type} (xs : List α) (k : Nat) : cutG xs none (some (k : Int)) = xs.take k := cutG_to xs k
@[simp] theorem cutG_to_l {α : Type} (xs : List α) (k : Nat) : cutG xs none (some (no_index (OfNat.ofNat k))) = xs.take (OfNat.ofNat k) := cutG_to xs k
@[simp] theorem cutG_to_1 {α : Type} (xs : List α) : cutG xs none (some 1) = xs.take 1 := cutG_to xs 1
@[simp] theorem cutG_from_n {α : Type} (xs : List α) (k : Nat) : cutG xs (some (k : Int)) none = xs.drop k := cutG_from xs k
@[simp] theorem cutG_from_l {α : Type} (xs : List α) (k : Nat) : cutG xs (some (no_index (OfNat.ofNat k))) none = xs.drop (OfNat.ofNat k) := cutG_from xs k
@[simp] theorem cutG_from_1 {α : Type} (xs : List α) : cutG xs (some 1) none = xs.drop 1 := cutG_from xs 1
@[simp] theorem hSl_tup (lo hi : Option Int) : hSl (.tup xs) lo hi l = .ok (.tup (cutG xs lo hi)) l := rfl
@[simp] theorem hSl_adr (lo hi : Option Int) : hSl (.adr n) lo hi l = (match l[n]? with
    | some (.lst ds) => .ok (.adr l.length) (l ++ [.lst (cutG ds lo hi)])
    | _ => .bad) := rfl
@[simp] theorem hSl_ro (ns : List Int) (lo hi : Option Int) : hSl (.ro ns) lo hi l = .ok (.adr l.length) (l ++ [.lst ((cutG ns lo hi).map D.int)]) := rfl
@[simp] theorem hRev_adr : hRev (.adr n) l = (match l[n]? with
    | some (.lst ds) => .ok (.adr l.length) (l ++ [.lst ds.reverse])
    | _ => .bad) := rfl
@[simp] theorem hLen_tup : hLen [.tup xs] l = .ok (.int xs.length) l := rfl
@[simp] theorem hLen_adr : hLen [.adr n] l = (match l[n]? with
    | some (.lst ds) => .ok (.int ds.length) l
    | _ => .bad) := rfl
@[simp] theorem hAbs_int : hAbs [.int i] l = .ok (.int (if i < 0 then -i else i)) l := rfl
@[simp] theorem hInt1_int : hInt1 [.int i] l = .ok (.int i) l := rfl
@[simp] theorem hInt1_bl : hInt1 [.bl b] l = .ok (.int (if b then 1 else 0)) l := rfl
@[simp] theorem hMax2_int : hMax2 [.int i, .int j] l = .ok (.int (if j > i then j else i)) l := rfl
@[simp] theorem hMin2_int : hMin2 [.int i, .int j] l = .ok (.int (if j < i then j else i)) l := rfl
@[simp] theorem hSumL_adr : hSumL [.adr n] l = (match l[n]? with
    | some (.lst ds) => match intsOf ds with
      | some ns => .ok (.int ns.sum) l
      | none => .bad
    | _ => .bad) := rfl
@[simp] theorem ints_map_e : ∀ ns : List Int, intsOf (ns.map D.int) = some ns
  | [] => rfl
  | n :: ns => by simp [intsOf, ints_map_e ns]
@[simp] theorem hTupOf_tup : hTupOf [.tup xs] l = .ok (.tup xs) l := rfl
@[simp] theorem hTupOf_adr : hTupOf [.adr n] l = (match l[n]? with
    | some (.lst ds) => .ok (.tup ds) l
    | _ => .bad) := rfl
@[simp] theorem hLstOf_tup : hLstOf [.tup xs] l = .ok (.adr l.length) (l ++ [.lst xs]) := rfl
@[simp] theorem hLstOf_adr : hLstOf [.adr n] l = (match l[n]? with
    | some (.lst ds) => .ok (.adr l.length) (l ++ [.lst ds])
    | _ => .bad) := rfl
@[simp] theorem tyD_non : tyD .non l = some "NoneType" := rfl
@[simp] theorem tyD_bl : tyD (.bl b) l = some "bool" := rfl
@[simp] theorem tyD_int : tyD (.int i) l = some "int" := rfl
@[simp] theorem tyD_str : tyD (.str s) l = some "str" := rfl
@[simp] theorem tyD_tup : tyD (.tup xs) l = some "tuple" := rfl
@[simp] theorem tyD_adr : tyD (.adr n) l = (match l[n]? with
    | some (.lst _) => some "list"
    | some (.dct _) => some "dict"
    | none => none) := rfl
@[simp] theorem hIsi1_e (t : String) : hIsi1 [x, .ty t] l = (match tyD x l with
    | some s => match kitB s t with
      | some b => .ok (.bl b) l
      | none => .bad
    | none => .bad) := by cases x <;> rfl
@[simp] theorem hIsi2_e (t u : String) : hIsi2 t u x l = (match tyD x l with
  | some s => match kitB s t, kitB s u with
    | some b, some c => .ok (.bl (b || c)) l
    | _, _ => .bad
  | none => .bad) := rfl
@[simp] theorem isL_adr : isL (.adr n) l = (match l[n]? with
    | some (.lst _) => true
    | _ => false) := rfl
@[simp] theorem hApp_e : hApp (.adr n) [x] l = (match l[n]? with
    | some (.lst ds) => if small (ds.length + 1) then .ok .non (l.set n (.lst (ds ++ [x]))) else .bad
    | _ => .bad) := rfl
@[simp] theorem hPop_e : hPop (.adr n) [] l = (match l[n]? with
    | some (.lst ds) => match ds[ds.length - 1]? with
      | some d => .ok d (l.set n (.lst ds.dropLast))
      | none => .bad
    | _ => .bad) := rfl
@[simp] theorem hExt_e : hExt (.adr n) [x] l = (match l[n]?, itemsOf x l with
    | some (.lst ds), some es => if small (ds.length + es.length) then .ok .non (l.set n (.lst (ds ++ es))) else .bad
    | _, _ => .bad) := rfl
@[simp] theorem hSetL_e : hSetL (.adr n) (.int i) x l = (match l[n]? with
    | some (.lst ds) => match ixN ds.length i with
      | some j => some (l.set n (.lst (ds.set j x)))
      | none => none
    | _ => none) := rfl
@[simp] theorem ixN_nat : ixN m ((n : Nat) : Int) = if n < m then some n else none := by
  unfold ixN
  rw [if_pos (by omega)]
  by_cases h : n < m
  · rw [if_pos (by omega), if_pos h]; simp
  · rw [if_neg (by omega), if_neg h]
@[simp] theorem ixN_zero : ixN m 0 = if 0 < m then some 0 else none := ixN_nat 0 m
@[simp] theorem ixN_one : ixN m 1 = if 1 < m then some 1 else none := ixN_nat 1 m
@[simp] theorem hGetL_e : hGetL (.adr n) (.int i) l = (match l[n]? with
    | some (.lst ds) => if decide (0 ≤ i) && mid i then okO ds[i.toNat]? l else .bad
    | _ => .bad) := rfl
@[simp] theorem setsD_nil (g : Sl) : setsD [] [] g = some g := rfl
@[simp] theorem setsD_cons (is : List Nat) (g : Sl) : setsD (n :: is) (x :: xs) g = setsD is xs (g.set n (some x)) := rfl
@[simp] theorem gN_e (g : Sl) : gN n x l g = some (g.set n (some x)) := rfl
@[simp] theorem gT_e (is : List Nat) (g : Sl) : gT is (.tup xs) l g = setsD is xs g := rfl
@[simp] theorem keyD_int : keyD (.int i) = some (.inl i) := rfl
@[simp] theorem keyD_str : keyD (.str s) = some (.inr s) := rfl
@[simp] theorem hDIn_e (neg : Bool) (y : D) : hDIn neg y (.adr n) l = (match keyD y with
  | some k => (match l[n]? with
    | some (.dct kvs) => .ok (.bl (if neg then !(valD kvs k).isSome else (valD kvs k).isSome)) l
    | _ => .bad)
  | none => .bad) := by cases y <;> rfl
@[simp] theorem hDGet_e (y : D) : hDGet (.adr n) y l = (match keyD y with
  | some k => (match l[n]? with
    | some (.dct kvs) => okO (valD kvs k) l
    | _ => .bad)
  | none => .bad) := by cases y <;> rfl
@[simp] theorem pu_non : pu .non = true := rfl
@[simp] theorem pu_int : pu (.int i) = true := rfl
@[simp] theorem pu_bl : pu (.bl b) = true := rfl
@[simp] theorem pu_str : pu (.str s) = true := rfl
@[simp] theorem pu_tup : pu (.tup xs) = pus xs := by simp [pu]
@[simp] theorem pus_nil : pus [] = true := rfl
@[simp] theorem pus_cons : pus (x :: xs) = (pu x && pus xs) := by simp [pus]
@[simp] theorem pus_ints (ns : List Int) : pus (ns.map D.int) = true := pus_int ns
theorem pus_app : ∀ xs ys : List D, pus (xs ++ ys) = (pus xs && pus ys)
  | [], ys => by simp
  | x :: xs, ys => by simp [pus_app xs ys, Bool.and_assoc]
end
def dChain_k4 (h1 h2 : D → D → Sto → Res D) (fa fb fc : DE) (g : Sl) (x y z : D) : D → Sto → Res D := fun w l => h2 y w l
@[simp] theorem dChain_k4_e (h1 h2 : D → D → Sto → Res D) (fa fb fc : DE) (g : Sl) (x y z w : D) (l : Sto) : dChain_k4 h1 h2 fa fb fc g x y z w l = h2 y w l := rfl
def dCons_k2 (f : DE) (fs : DEs) (g : Sl) (d : D) : List D → Sto → Res (List D) := fun ds l => .ok (d :: ds) l
def dCons_k1 (f : DE) (fs : DEs) (g : Sl)  : D → Sto → Res (List D) := fun d l => (fs g l).bind (dCons_k2 f fs g  d)
@[simp] theorem dCons_k1_e (f : DE) (fs : DEs) (g : Sl)  (d : D) (l : Sto) : dCons_k1 f fs g  d l = ((fs g l).bind (dCons_k2 f fs g  d)) := rfl
@[simp] theorem dCons_k2_e (f : DE) (fs : DEs) (g : Sl) (d : D) (ds : List D) (l : Sto) : dCons_k2 f fs g d ds l = (.ok (d :: ds) l) := rfl
@[simp] theorem dCons_e (f : DE) (fs : DEs) (g : Sl) (l : Sto) : dCons f fs g l = (f g l).bind (dCons_k1 f fs g) := rfl
def dOp_k2 (h : D → D → Sto → Res D) (fa fb : DE) (g : Sl) (x : D) : D → Sto → Res D := fun y l => h x y l
def dOp_k1 (h : D → D → Sto → Res D) (fa fb : DE) (g : Sl)  : D → Sto → Res D := fun x l => (fb g l).bind (dOp_k2 h fa fb g  x)
@[simp] theorem dOp_k1_e (h : D → D → Sto → Res D) (fa fb : DE) (g : Sl)  (x : D) (l : Sto) : dOp_k1 h fa fb g  x l = ((fb g l).bind (dOp_k2 h fa fb g  x)) := rfl
@[simp] theorem dOp_k2_e (h : D → D → Sto → Res D) (fa fb : DE) (g : Sl) (x : D) (y : D) (l : Sto) : dOp_k2 h fa fb g x y l = (h x y l) := rfl
@[simp] theorem dOp_e (h : D → D → Sto → Res D) (fa fb : DE) (g : Sl) (l : Sto) : dOp h fa fb g l = (fa g l).bind (dOp_k1 h fa fb g) := rfl
def dTup_k1 (fs : DEs) (g : Sl)  : List D → Sto → Res D := fun ds l => if small ds.length then .ok (.tup ds) l else .bad
@[simp] theorem dTup_k1_e (fs : DEs) (g : Sl)  (ds : List D) (l : Sto) : dTup_k1 fs g  ds l = (if small ds.length then .ok (.tup ds) l else .bad) := rfl
@[simp] theorem dTup_e (fs : DEs) (g : Sl) (l : Sto) : dTup fs g l = (fs g l).bind (dTup_k1 fs g) := rfl
def dLst_k1 (fs : DEs) (g : Sl)  : List D → Sto → Res D := fun ds l => if small ds.length then .ok (.adr l.length) (l ++ [.lst ds]) else .bad
@[simp] theorem dLst_k1_e (fs : DEs) (g : Sl)  (ds : List D) (l : Sto) : dLst_k1 fs g  ds l = (if small ds.length then .ok (.adr l.length) (l ++ [.lst ds]) else .bad) := rfl
@[simp] theorem dLst_e (fs : DEs) (g : Sl) (l : Sto) : dLst fs g l = (fs g l).bind (dLst_k1 fs g) := rfl
def dUn_k1 (h : D → Sto → Res D) (fa : DE) (g : Sl)  : D → Sto → Res D := fun x l => h x l
@[simp] theorem dUn_k1_e (h : D → Sto → Res D) (fa : DE) (g : Sl)  (x : D) (l : Sto) : dUn_k1 h fa g  x l = (h x l) := rfl
@[simp] theorem dUn_e (h : D → Sto → Res D) (fa : DE) (g : Sl) (l : Sto) : dUn h fa g l = (fa g l).bind (dUn_k1 h fa g) := rfl
def dTru_k1 (f : DE) (g : Sl)  : D → Sto → Res Bool := fun d l => (match tru d l with
  | some k => .ok k l
  | none => .bad)
@[simp] theorem dTru_k1_e (f : DE) (g : Sl)  (d : D) (l : Sto) : dTru_k1 f g  d l = ((match tru d l with
  | some k => .ok k l
  | none => .bad)) := rfl
@[simp] theorem dTru_e (f : DE) (g : Sl) (l : Sto) : dTru f g l = (f g l).bind (dTru_k1 f g) := rfl
def dAnd_k1 (f h : DB) (g : Sl)  : Bool → Sto → Res Bool := fun b l => if b = true then h g l else .ok false l
@[simp] theorem dAnd_k1_e (f h : DB) (g : Sl)  (b : Bool) (l : Sto) : dAnd_k1 f h g  b l = (if b = true then h g l else .ok false l) := rfl
@[simp] theorem dAnd_e (f h : DB) (g : Sl) (l : Sto) : dAnd f h g l = (f g l).bind (dAnd_k1 f h g) := rfl
def dOr_k1 (f h : DB) (g : Sl)  : Bool → Sto → Res Bool := fun b l => if b = true then .ok true l else h g l
@[simp] theorem dOr_k1_e (f h : DB) (g : Sl)  (b : Bool) (l : Sto) : dOr_k1 f h g  b l = (if b = true then .ok true l else h g l) := rfl
@[simp] theorem dOr_e (f h : DB) (g : Sl) (l : Sto) : dOr f h g l = (f g l).bind (dOr_k1 f h g) := rfl
def dNot_k1 (f : DB) (g : Sl)  : Bool → Sto → Res Bool := fun b l => .ok (!b) l
@[simp] theorem dNot_k1_e (f : DB) (g : Sl)  (b : Bool) (l : Sto) : dNot_k1 f g  b l = (.ok (!b) l) := rfl
@[simp] theorem dNot_e (f : DB) (g : Sl) (l : Sto) : dNot f g l = (f g l).bind (dNot_k1 f g) := rfl
def dIfE_k1 (c : DB) (f h : DE) (g : Sl)  : Bool → Sto → Res D := fun b l => if b = true then f g l else h g l
@[simp] theorem dIfE_k1_e (c : DB) (f h : DE) (g : Sl)  (b : Bool) (l : Sto) : dIfE_k1 c f h g  b l = (if b = true then f g l else h g l) := rfl
@[simp] theorem dIfE_e (c : DB) (f h : DE) (g : Sl) (l : Sto) : dIfE c f h g l = (c g l).bind (dIfE_k1 c f h g) := rfl
def dAndV_k1 (f h : DE) (g : Sl)  : D → Sto → Res D := fun b l => (match b with
  | .bl true => h g l
  | .bl false => .ok (.bl false) l
  | _ => .bad)
@[simp] theorem dAndV_k1_e (f h : DE) (g : Sl)  (b : D) (l : Sto) : dAndV_k1 f h g  b l = ((match b with
  | .bl true => h g l
  | .bl false => .ok (.bl false) l
  | _ => .bad)) := rfl
@[simp] theorem dAndV_e (f h : DE) (g : Sl) (l : Sto) : dAndV f h g l = (f g l).bind (dAndV_k1 f h g) := rfl
def dOrV_k1 (f h : DE) (g : Sl)  : D → Sto → Res D := fun b l => (match b with
  | .bl false => h g l
  | .bl true => .ok (.bl true) l
  | _ => .bad)
@[simp] theorem dOrV_k1_e (f h : DE) (g : Sl)  (b : D) (l : Sto) : dOrV_k1 f h g  b l = ((match b with
  | .bl false => h g l
  | .bl true => .ok (.bl true) l
  | _ => .bad)) := rfl
@[simp] theorem dOrV_e (f h : DE) (g : Sl) (l : Sto) : dOrV f h g l = (f g l).bind (dOrV_k1 f h g) := rfl
def dNotV_k1 (f : DE) (g : Sl)  : D → Sto → Res D := fun b l => (match b with
  | .bl k => .ok (.bl (!k)) l
  | _ => .bad)
@[simp] theorem dNotV_k1_e (f : DE) (g : Sl)  (b : D) (l : Sto) : dNotV_k1 f g  b l = ((match b with
  | .bl k => .ok (.bl (!k)) l
  | _ => .bad)) := rfl
@[simp] theorem dNotV_e (f : DE) (g : Sl) (l : Sto) : dNotV f g l = (f g l).bind (dNotV_k1 f g) := rfl
def dBl_k1 (f : DE) (g : Sl)  : D → Sto → Res Bool := fun d l => (match d with
  | .bl k => .ok k l
  | _ => .bad)
@[simp] theorem dBl_k1_e (f : DE) (g : Sl)  (d : D) (l : Sto) : dBl_k1 f g  d l = ((match d with
  | .bl k => .ok k l
  | _ => .bad)) := rfl
@[simp] theorem dBl_e (f : DE) (g : Sl) (l : Sto) : dBl f g l = (f g l).bind (dBl_k1 f g) := rfl
def dChain_k3 (h1 h2 : D → D → Sto → Res D) (fa fb fc : DE) (g : Sl) (x : D) (y : D) : D → Sto → Res D := fun z l => (match z with
  | .bl true => (fc g l).bind (dChain_k4 h1 h2 fa fb fc g x y z)
  | .bl false => .ok (.bl false) l
  | _ => .bad)
def dChain_k2 (h1 h2 : D → D → Sto → Res D) (fa fb fc : DE) (g : Sl) (x : D) : D → Sto → Res D := fun y l => (h1 x y l).bind (dChain_k3 h1 h2 fa fb fc g x y)
def dChain_k1 (h1 h2 : D → D → Sto → Res D) (fa fb fc : DE) (g : Sl)  : D → Sto → Res D := fun x l => (fb g l).bind (dChain_k2 h1 h2 fa fb fc g  x)
@[simp] theorem dChain_k1_e (h1 h2 : D → D → Sto → Res D) (fa fb fc : DE) (g : Sl)  (x : D) (l : Sto) : dChain_k1 h1 h2 fa fb fc g  x l = ((fb g l).bind (dChain_k2 h1 h2 fa fb fc g  x)) := rfl
@[simp] theorem dChain_k2_e (h1 h2 : D → D → Sto → Res D) (fa fb fc : DE) (g : Sl) (x : D) (y : D) (l : Sto) : dChain_k2 h1 h2 fa fb fc g x y l = ((h1 x y l).bind (dChain_k3 h1 h2 fa fb fc g x y)) := rfl
@[simp] theorem dChain_k3_e (h1 h2 : D → D → Sto → Res D) (fa fb fc : DE) (g : Sl) (x : D) (y : D) (z : D) (l : Sto) : dChain_k3 h1 h2 fa fb fc g x y z l = ((match z with
  | .bl true => (fc g l).bind (dChain_k4 h1 h2 fa fb fc g x y z)
  | .bl false => .ok (.bl false) l
  | _ => .bad)) := rfl
@[simp] theorem dChain_e (h1 h2 : D → D → Sto → Res D) (fa fb fc : DE) (g : Sl) (l : Sto) : dChain h1 h2 fa fb fc g l = (fa g l).bind (dChain_k1 h1 h2 fa fb fc g) := rfl
def dOSome_k1 (f : DE) (g : Sl)  : D → Sto → Res (Option Int) := fun d l => (match d with
  | .int i => .ok (some i) l
  | _ => .bad)
@[simp] theorem dOSome_k1_e (f : DE) (g : Sl)  (d : D) (l : Sto) : dOSome_k1 f g  d l = ((match d with
  | .int i => .ok (some i) l
  | _ => .bad)) := rfl
@[simp] theorem dOSome_e (f : DE) (g : Sl) (l : Sto) : dOSome f g l = (f g l).bind (dOSome_k1 f g) := rfl
def dSl_k3 (f : DE) (lo hi : DO) (g : Sl) (d : D) (i : Option Int) : Option Int → Sto → Res D := fun j l => hSl d i j l
def dSl_k2 (f : DE) (lo hi : DO) (g : Sl) (d : D) : Option Int → Sto → Res D := fun i l => (hi g l).bind (dSl_k3 f lo hi g d i)
def dSl_k1 (f : DE) (lo hi : DO) (g : Sl)  : D → Sto → Res D := fun d l => (lo g l).bind (dSl_k2 f lo hi g  d)
@[simp] theorem dSl_k1_e (f : DE) (lo hi : DO) (g : Sl)  (d : D) (l : Sto) : dSl_k1 f lo hi g  d l = ((lo g l).bind (dSl_k2 f lo hi g  d)) := rfl
@[simp] theorem dSl_k2_e (f : DE) (lo hi : DO) (g : Sl) (d : D) (i : Option Int) (l : Sto) : dSl_k2 f lo hi g d i l = ((hi g l).bind (dSl_k3 f lo hi g d i)) := rfl
@[simp] theorem dSl_k3_e (f : DE) (lo hi : DO) (g : Sl) (d : D) (i : Option Int) (j : Option Int) (l : Sto) : dSl_k3 f lo hi g d i j l = (hSl d i j l) := rfl
@[simp] theorem dSl_e (f : DE) (lo hi : DO) (g : Sl) (l : Sto) : dSl f lo hi g l = (f g l).bind (dSl_k1 f lo hi g) := rfl
def dCB_k1 (h : List D → Sto → Res D) (fs : DEs) (g : Sl)  : List D → Sto → Res D := fun ds l => h ds l
@[simp] theorem dCB_k1_e (h : List D → Sto → Res D) (fs : DEs) (g : Sl)  (ds : List D) (l : Sto) : dCB_k1 h fs g  ds l = (h ds l) := rfl
@[simp] theorem dCB_e (h : List D → Sto → Res D) (fs : DEs) (g : Sl) (l : Sto) : dCB h fs g l = (fs g l).bind (dCB_k1 h fs g) := rfl
def dMe_k2 (h : D → List D → Sto → Res D) (fo : DE) (fs : DEs) (g : Sl) (x : D) : List D → Sto → Res D := fun ds l => h x ds l
def dMe_k1 (h : D → List D → Sto → Res D) (fo : DE) (fs : DEs) (g : Sl)  : D → Sto → Res D := fun x l => if isL x l = true then (fs g l).bind (dMe_k2 h fo fs g  x) else .bad
@[simp] theorem dMe_k1_e (h : D → List D → Sto → Res D) (fo : DE) (fs : DEs) (g : Sl)  (x : D) (l : Sto) : dMe_k1 h fo fs g  x l = (if isL x l = true then (fs g l).bind (dMe_k2 h fo fs g  x) else .bad) := rfl
@[simp] theorem dMe_k2_e (h : D → List D → Sto → Res D) (fo : DE) (fs : DEs) (g : Sl) (x : D) (ds : List D) (l : Sto) : dMe_k2 h fo fs g x ds l = (h x ds l) := rfl
@[simp] theorem dMe_e (h : D → List D → Sto → Res D) (fo : DE) (fs : DEs) (g : Sl) (l : Sto) : dMe h fo fs g l = (fo g l).bind (dMe_k1 h fo fs g) := rfl
def dMe0_k1 (h : D → List D → Sto → Res D) (fo : DE) (g : Sl)  : D → Sto → Res D := fun x l => if isL x l = true then h x [] l else .bad
@[simp] theorem dMe0_k1_e (h : D → List D → Sto → Res D) (fo : DE) (g : Sl)  (x : D) (l : Sto) : dMe0_k1 h fo g  x l = (if isL x l = true then h x [] l else .bad) := rfl
@[simp] theorem dMe0_e (h : D → List D → Sto → Res D) (fo : DE) (g : Sl) (l : Sto) : dMe0 h fo g l = (fo g l).bind (dMe0_k1 h fo g) := rfl
def dCall_k1 (n : Nat) (m : List D → Sto → Res D) (fs : DEs) (g : Sl)  : List D → Sto → Res D := fun ds l => if ds.length == n then (m ds l).nox else .bad
@[simp] theorem dCall_k1_e (n : Nat) (m : List D → Sto → Res D) (fs : DEs) (g : Sl)  (ds : List D) (l : Sto) : dCall_k1 n m fs g  ds l = (if ds.length == n then (m ds l).nox else .bad) := rfl
@[simp] theorem dCall_e (n : Nat) (m : List D → Sto → Res D) (fs : DEs) (g : Sl) (l : Sto) : dCall n m fs g l = (fs g l).bind (dCall_k1 n m fs g) := rfl
def dCallX_k1 (n : Nat) (m : List D → Sto → Res D) (fs : DEs) (g : Sl)  : List D → Sto → Res D := fun ds l => if ds.length == n then m ds l else .bad
@[simp] theorem dCallX_k1_e (n : Nat) (m : List D → Sto → Res D) (fs : DEs) (g : Sl)  (ds : List D) (l : Sto) : dCallX_k1 n m fs g  ds l = (if ds.length == n then m ds l else .bad) := rfl
@[simp] theorem dCallX_e (n : Nat) (m : List D → Sto → Res D) (fs : DEs) (g : Sl) (l : Sto) : dCallX n m fs g l = (fs g l).bind (dCallX_k1 n m fs g) := rfl
def dCallKX_k1 (n : Nat) (gD : List D → List D) (m : List D → Sto → Res D) (fs : DEs) (g : Sl)  : List D → Sto → Res D := fun ds l => if (gD ds).length == n then m (gD ds) l else .bad
@[simp] theorem dCallKX_k1_e (n : Nat) (gD : List D → List D) (m : List D → Sto → Res D) (fs : DEs) (g : Sl)  (ds : List D) (l : Sto) : dCallKX_k1 n gD m fs g  ds l = (if (gD ds).length == n then m (gD ds) l else .bad) := rfl
@[simp] theorem dCallKX_e (n : Nat) (gD : List D → List D) (m : List D → Sto → Res D) (fs : DEs) (g : Sl) (l : Sto) : dCallKX n gD m fs g l = (fs g l).bind (dCallKX_k1 n gD m fs g) := rfl
def sExpr_k1 (f : DE) (g : Sl)  : D → Sto → Out := fun d l => .nx g l
@[simp] theorem sExpr_k1_e (f : DE) (g : Sl)  (d : D) (l : Sto) : sExpr_k1 f g  d l = (.nx g l) := rfl
@[simp] theorem sExpr_e (f : DE) (g : Sl) (l : Sto) : sExpr f g l = (f g l).out (sExpr_k1 f g) := rfl
def sRet_k1 (f : DE) (g : Sl)  : D → Sto → Out := fun d l => .rt d l
@[simp] theorem sRet_k1_e (f : DE) (g : Sl)  (d : D) (l : Sto) : sRet_k1 f g  d l = (.rt d l) := rfl
@[simp] theorem sRet_e (f : DE) (g : Sl) (l : Sto) : sRet f g l = (f g l).out (sRet_k1 f g) := rfl
def sIf_k1 (c : DB) (f h : DS) (g : Sl)  : Bool → Sto → Out := fun b l => if b = true then f g l else h g l
@[simp] theorem sIf_k1_e (c : DB) (f h : DS) (g : Sl)  (b : Bool) (l : Sto) : sIf_k1 c f h g  b l = (if b = true then f g l else h g l) := rfl
@[simp] theorem sIf_e (c : DB) (f h : DS) (g : Sl) (l : Sto) : sIf c f h g l = (c g l).out (sIf_k1 c f h g) := rfl
def sSet_k1 (i : Nat) (f : DE) (g : Sl)  : D → Sto → Out := fun d l => .nx (g.set i (some d)) l
@[simp] theorem sSet_k1_e (i : Nat) (f : DE) (g : Sl)  (d : D) (l : Sto) : sSet_k1 i f g  d l = (.nx (g.set i (some d)) l) := rfl
@[simp] theorem sSet_e (i : Nat) (f : DE) (g : Sl) (l : Sto) : sSet i f g l = (f g l).out (sSet_k1 i f g) := rfl
def sAsg_k1 (gt : D → Sto → Sl → Option Sl) (f : DE) (g : Sl)  : D → Sto → Out := fun d l => (match gt d l g with
  | some g' => .nx g' l
  | none => .bad)
@[simp] theorem sAsg_k1_e (gt : D → Sto → Sl → Option Sl) (f : DE) (g : Sl)  (d : D) (l : Sto) : sAsg_k1 gt f g  d l = ((match gt d l g with
  | some g' => .nx g' l
  | none => .bad)) := rfl
@[simp] theorem sAsg_e (gt : D → Sto → Sl → Option Sl) (f : DE) (g : Sl) (l : Sto) : sAsg gt f g l = (f g l).out (sAsg_k1 gt f g) := rfl
def sPar_k1 (i j : Nat) (fs : DEs) (g : Sl)  : List D → Sto → Out := fun ds l => (match ds with
  | [d, d'] => .nx ((g.set i (some d)).set j (some d')) l
  | _ => .bad)
@[simp] theorem sPar_k1_e (i j : Nat) (fs : DEs) (g : Sl)  (ds : List D) (l : Sto) : sPar_k1 i j fs g  ds l = ((match ds with
  | [d, d'] => .nx ((g.set i (some d)).set j (some d')) l
  | _ => .bad)) := rfl
@[simp] theorem sPar_e (i j : Nat) (fs : DEs) (g : Sl) (l : Sto) : sPar i j fs g l = (fs g l).out (sPar_k1 i j fs g) := rfl
def sPar3_k1 (i j k : Nat) (fs : DEs) (g : Sl)  : List D → Sto → Out := fun ds l => (match ds with
  | [d, d', d''] => .nx (((g.set i (some d)).set j (some d')).set k (some d'')) l
  | _ => .bad)
@[simp] theorem sPar3_k1_e (i j k : Nat) (fs : DEs) (g : Sl)  (ds : List D) (l : Sto) : sPar3_k1 i j k fs g  ds l = ((match ds with
  | [d, d', d''] => .nx (((g.set i (some d)).set j (some d')).set k (some d'')) l
  | _ => .bad)) := rfl
@[simp] theorem sPar3_e (i j k : Nat) (fs : DEs) (g : Sl) (l : Sto) : sPar3 i j k fs g l = (fs g l).out (sPar3_k1 i j k fs g) := rfl
def sSub_k3 (fo fi f : DE) (g : Sl) (d : D) (x : D) : D → Sto → Out := fun y l => (match hSetL x y d l with
  | some l4 => .nx g l4
  | none => .bad)
def sSub_k2 (fo fi f : DE) (g : Sl) (d : D) : D → Sto → Out := fun x l => (fi g l).out (sSub_k3 fo fi f g d x)
def sSub_k1 (fo fi f : DE) (g : Sl)  : D → Sto → Out := fun d l => (fo g l).out (sSub_k2 fo fi f g  d)
@[simp] theorem sSub_k1_e (fo fi f : DE) (g : Sl)  (d : D) (l : Sto) : sSub_k1 fo fi f g  d l = ((fo g l).out (sSub_k2 fo fi f g  d)) := rfl
@[simp] theorem sSub_k2_e (fo fi f : DE) (g : Sl) (d : D) (x : D) (l : Sto) : sSub_k2 fo fi f g d x l = ((fi g l).out (sSub_k3 fo fi f g d x)) := rfl
@[simp] theorem sSub_k3_e (fo fi f : DE) (g : Sl) (d : D) (x : D) (y : D) (l : Sto) : sSub_k3 fo fi f g d x y l = ((match hSetL x y d l with
  | some l4 => .nx g l4
  | none => .bad)) := rfl
@[simp] theorem sSub_e (fo fi f : DE) (g : Sl) (l : Sto) : sSub fo fi f g l = (f g l).out (sSub_k1 fo fi f g) := rfl
def sAugS_k5 (h : D → D → Sto → Res D) (fo fi f : DE) (g : Sl) (x : D) (y : D) (z : D) (w : D) : D → Sto → Out := fun n l => (match hSetL x y n l with
  | some l6 => .nx g l6
  | none => .bad)
def sAugS_k4 (h : D → D → Sto → Res D) (fo fi f : DE) (g : Sl) (x : D) (y : D) (z : D) : D → Sto → Out := fun w l => (h z w l).out (sAugS_k5 h fo fi f g x y z w)
def sAugS_k3 (h : D → D → Sto → Res D) (fo fi f : DE) (g : Sl) (x : D) (y : D) : D → Sto → Out := fun z l => (f g l).out (sAugS_k4 h fo fi f g x y z)
def sAugS_k2 (h : D → D → Sto → Res D) (fo fi f : DE) (g : Sl) (x : D) : D → Sto → Out := fun y l => (hGetL x y l).out (sAugS_k3 h fo fi f g x y)
def sAugS_k1 (h : D → D → Sto → Res D) (fo fi f : DE) (g : Sl)  : D → Sto → Out := fun x l => (fi g l).out (sAugS_k2 h fo fi f g  x)
@[simp] theorem sAugS_k1_e (h : D → D → Sto → Res D) (fo fi f : DE) (g : Sl)  (x : D) (l : Sto) : sAugS_k1 h fo fi f g  x l = ((fi g l).out (sAugS_k2 h fo fi f g  x)) := rfl
@[simp] theorem sAugS_k2_e (h : D → D → Sto → Res D) (fo fi f : DE) (g : Sl) (x : D) (y : D) (l : Sto) : sAugS_k2 h fo fi f g x y l = ((hGetL x y l).out (sAugS_k3 h fo fi f g x y)) := rfl
@[simp] theorem sAugS_k3_e (h : D → D → Sto → Res D) (fo fi f : DE) (g : Sl) (x : D) (y : D) (z : D) (l : Sto) : sAugS_k3 h fo fi f g x y z l = ((f g l).out (sAugS_k4 h fo fi f g x y z)) := rfl
@[simp] theorem sAugS_k4_e (h : D → D → Sto → Res D) (fo fi f : DE) (g : Sl) (x : D) (y : D) (z : D) (w : D) (l : Sto) : sAugS_k4 h fo fi f g x y z w l = ((h z w l).out (sAugS_k5 h fo fi f g x y z w)) := rfl
@[simp] theorem sAugS_k5_e (h : D → D → Sto → Res D) (fo fi f : DE) (g : Sl) (x : D) (y : D) (z : D) (w : D) (n : D) (l : Sto) : sAugS_k5 h fo fi f g x y z w n l = ((match hSetL x y n l with
  | some l6 => .nx g l6
  | none => .bad)) := rfl
@[simp] theorem sAugS_e (h : D → D → Sto → Res D) (fo fi f : DE) (g : Sl) (l : Sto) : sAugS h fo fi f g l = (fo g l).out (sAugS_k1 h fo fi f g) := rfl
def dIt_k1 (f : DE) (g : Sl)  : D → Sto → Res ItD := fun d l => (match d with
  | .tup ds => .ok ⟨ds, none⟩ l
  | .adr n => match l[n]? with
    | some (.lst ds) => .ok ⟨ds, some n⟩ l
    | _ => .bad
  | .ro ns => .ok ⟨ns.map D.int, none⟩ l
  | .str z => .ok ⟨signs z, none⟩ l
  | _ => .bad)
@[simp] theorem dIt_k1_e (f : DE) (g : Sl)  (d : D) (l : Sto) : dIt_k1 f g  d l = ((match d with
  | .tup ds => .ok ⟨ds, none⟩ l
  | .adr n => match l[n]? with
    | some (.lst ds) => .ok ⟨ds, some n⟩ l
    | _ => .bad
  | .ro ns => .ok ⟨ns.map D.int, none⟩ l
  | .str z => .ok ⟨signs z, none⟩ l
  | _ => .bad)) := rfl
@[simp] theorem dIt_e (f : DE) (g : Sl) (l : Sto) : dIt f g l = (f g l).bind (dIt_k1 f g) := rfl
def dRng1_k1 (fs : DEs) (g : Sl)  : List D → Sto → Res ItD := fun ds l => (match ds with
  | [.int j] => if in62 j then .ok ⟨rng 0 j.toNat, none⟩ l else .bad
  | _ => .bad)
@[simp] theorem dRng1_k1_e (fs : DEs) (g : Sl)  (ds : List D) (l : Sto) : dRng1_k1 fs g  ds l = ((match ds with
  | [.int j] => if in62 j then .ok ⟨rng 0 j.toNat, none⟩ l else .bad
  | _ => .bad)) := rfl
@[simp] theorem dRng1_e (fs : DEs) (g : Sl) (l : Sto) : dRng1 fs g l = (fs g l).bind (dRng1_k1 fs g) := rfl
def dRng2_k1 (fs : DEs) (g : Sl)  : List D → Sto → Res ItD := fun ds l => (match ds with
  | [.int i, .int j] => if in62 i && in62 j then .ok ⟨rng i (j - i).toNat, none⟩ l else .bad
  | _ => .bad)
@[simp] theorem dRng2_k1_e (fs : DEs) (g : Sl)  (ds : List D) (l : Sto) : dRng2_k1 fs g  ds l = ((match ds with
  | [.int i, .int j] => if in62 i && in62 j then .ok ⟨rng i (j - i).toNat, none⟩ l else .bad
  | _ => .bad)) := rfl
@[simp] theorem dRng2_e (fs : DEs) (g : Sl) (l : Sto) : dRng2 fs g l = (fs g l).bind (dRng2_k1 fs g) := rfl
noncomputable def sFor_k1 (fi : DI) (gt : D → Sto → Sl → Option Sl) (b : DS) (g : Sl)  : ItD → Sto → Out := fun it l => sForL it gt b it.ds g l
@[simp] theorem sFor_k1_e (fi : DI) (gt : D → Sto → Sl → Option Sl) (b : DS) (g : Sl)  (it : ItD) (l : Sto) : sFor_k1 fi gt b g  it l = (sForL it gt b it.ds g l) := rfl
@[simp] theorem sFor_e (fi : DI) (gt : D → Sto → Sl → Option Sl) (b : DS) (g : Sl) (l : Sto) : sFor fi gt b g l = (fi g l).out (sFor_k1 fi gt b g) := rfl
noncomputable def dLc_k2 (fi : DI) (gt : D → Sto → Sl → Option Sl) (ct : DB) (fe : DE) (vs : List Nat) (g : Sl) (it : ItD) : List D → Sto → Res D := fun acc l => .ok (.adr l.length) (l ++ [.lst acc])
noncomputable def dLc_k1 (fi : DI) (gt : D → Sto → Sl → Option Sl) (ct : DB) (fe : DE) (vs : List Nat) (g : Sl)  : ItD → Sto → Res D := fun it l => (lcL it gt ct fe (wipeD g vs) it.ds l []).bind (dLc_k2 fi gt ct fe vs g  it)
@[simp] theorem dLc_k1_e (fi : DI) (gt : D → Sto → Sl → Option Sl) (ct : DB) (fe : DE) (vs : List Nat) (g : Sl)  (it : ItD) (l : Sto) : dLc_k1 fi gt ct fe vs g  it l = ((lcL it gt ct fe (wipeD g vs) it.ds l []).bind (dLc_k2 fi gt ct fe vs g  it)) := rfl
@[simp] theorem dLc_k2_e (fi : DI) (gt : D → Sto → Sl → Option Sl) (ct : DB) (fe : DE) (vs : List Nat) (g : Sl) (it : ItD) (acc : List D) (l : Sto) : dLc_k2 fi gt ct fe vs g it acc l = (.ok (.adr l.length) (l ++ [.lst acc])) := rfl
@[simp] theorem dLc_e (fi : DI) (gt : D → Sto → Sl → Option Sl) (ct : DB) (fe : DE) (vs : List Nat) (g : Sl) (l : Sto) : dLc fi gt ct fe vs g l = (fi g l).bind (dLc_k1 fi gt ct fe vs g) := rfl
@[simp] theorem dV_e (i : Nat) (g : Sl) (l : Sto) : dV i g l = (match g[i]? with
  | some (some d) => .ok d l
  | _ => .bad) := rfl
@[simp] theorem dC_e (d : D) (g : Sl) (l : Sto) : dC d g l = .ok d l := rfl
@[simp] theorem dNil_e (g : Sl) (l : Sto) : dNil g l = .ok [] l := rfl
@[simp] theorem dONone_e (g : Sl) (l : Sto) : dONone g l = .ok none l := rfl
@[simp] theorem dYes_e (g : Sl) (l : Sto) : dYes g l = .ok true l := rfl
@[simp] theorem sNx_e (g : Sl) (l : Sto) : sNx g l = .nx g l := rfl
@[simp] theorem sBk_e (g : Sl) (l : Sto) : sBk g l = .bk g l := rfl
@[simp] theorem sCt_e (g : Sl) (l : Sto) : sCt g l = .ct g l := rfl
def sAug_k1 (i : Nat) (h : D → D → Sto → Res D) (g : Sl) (x : D) : D → Sto → Out := fun y l1 => (h x y l1).out fun z l2 => .nx (g.set i (some z)) l2
@[simp] theorem sAug_k1_e (i : Nat) (h : D → D → Sto → Res D) (g : Sl) (x y : D) (l : Sto) : sAug_k1 i h g x y l = (h x y l).out fun z l2 => .nx (g.set i (some z)) l2 := rfl
@[simp] theorem sAug_e (i : Nat) (h : D → D → Sto → Res D) (f : DE) (g : Sl) (l : Sto) : sAug i h f g l = (match g[i]? with
  | some (some x) => (f g l).out (sAug_k1 i h g x)
  | _ => .bad) := rfl
/-! ### loops over what is written down -/
@[simp] theorem wipeD_nil (g : Sl) : wipeD g [] = g := rfl
@[simp] theorem wipeD_cons (g : Sl) (v : Nat) (vs : List Nat) : wipeD g (v :: vs) = (wipeD g vs).set v none := rfl
@[simp] theorem ok_none (ds : List D) (l : Sto) : (ItD.mk ds none).ok l = True := rfl
theorem lcL_map {α : Type} {it : ItD} {gt : D → Sto → Sl → Option Sl} {ct : DB} {fe : DE} {gw : Sl} {l : Sto} (hok : it.ok l) (e h : α → D) : ∀ (xs : List α) (acc : List D),
    (∀ x ∈ xs, ∃ g1, gt (e x) l gw = some g1 ∧ ct g1 l = .ok true l ∧ fe g1 l = .ok (h x) l) → acc.length + xs.length ≤ 16777216 → lcL it gt ct fe gw (xs.map e) l acc = .ok (acc ++ xs.map h) l
  | [], acc, _, _ => by simp [lcL, hok]
  | x :: xs, acc, hx, hl => by
    obtain ⟨g1, h1, h2, h3⟩ := hx x (by simp)
    simp only [List.length_cons] at hl
    simp only [List.map_cons, lcL, hok, if_true, h1, h2, h3, nox_ok, bind_ok]
    rw [if_pos (by simp; omega), lcL_map hok e h xs _ (fun y hy => hx y (by simp [hy])) (by simp; omega)]
    simp
@[simp] theorem set_concat {α : Type} : ∀ (pre : List α) (x y : α), (pre ++ [x]).set pre.length y = pre ++ [y]
  | [], _, _ => rfl
  | a :: pre, x, y => congrArg (a :: ·) (set_concat pre x y)
@[simp] theorem get_concat {α : Type} : ∀ (pre : List α) (x : α), (pre ++ [x])[pre.length]? = some x
  | [], _ => rfl
  | a :: pre, x => by rw [List.cons_append, List.length_cons, List.getElem?_cons_succ]; exact get_concat pre x
@[simp] theorem inV_nil (x : V) : inV x [] = false := rfl
@[simp] theorem inV_str (a b : Str) (xs : List V) : inV (.str a) (.str b :: xs) = (decide (b = a) || inV (.str a) xs) := by
  show (eqV (.str b) (.str a) || inV (.str a) xs) = _
  congr 1
@[simp] theorem rng00 : rng 0 0 = [] := rfl
@[simp] theorem rng01 : rng 0 1 = [.int 0] := rfl
@[simp] theorem rng02 : rng 0 2 = [.int 0, .int 1] := rfl
@[simp] theorem dDct_e (cs : List (Str × Int)) (g : Sl) (l : Sto) : dDct cs g l = .ok (.adr l.length) (l ++ [.dct (cs.map fun c => (.inr c.1, .int c.2))]) := rfl
@[simp] theorem cutG13 (a b c d : D) : cutG [a, b, c, d] (some 1) (some 3) = [b, c] := rfl
def _root_.Zb.Out.loop (r : Out) (k : Sl → Sto → Out) : Out := match r with
  | .nx g l => k g l
  | .ct g l => k g l
  | .bk g l => .nx g l
  | q => q
@[simp] theorem loop_nx (g : Sl) (l : Sto) (k : Sl → Sto → Out) : (Out.nx g l).loop k = k g l := rfl
@[simp] theorem loop_ct (g : Sl) (l : Sto) (k : Sl → Sto → Out) : (Out.ct g l).loop k = k g l := rfl
@[simp] theorem loop_bk (g : Sl) (l : Sto) (k : Sl → Sto → Out) : (Out.bk g l).loop k = .nx g l := rfl
@[simp] theorem loop_rt (d : D) (l : Sto) (k : Sl → Sto → Out) : (Out.rt d l).loop k = .rt d l := rfl
theorem for_nil {it : ItD} (gt : D → Sto → Sl → Option Sl) (b : DS) (g : Sl) (l : Sto) (h : it.ok l) : sForL it gt b [] g l = .nx g l := by simp only [sForL, h, if_true]
theorem for_cons {it : ItD} (gt : D → Sto → Sl → Option Sl) (b : DS) (d : D) (r : List D) (g : Sl) (l : Sto) (h : it.ok l) : sForL it gt b (d :: r) g l = (match gt d l g with
    | none => .bad
    | some g1 => (b g1 l).loop (sForL it gt b r)) := by
  simp only [sForL, h, if_true]
  cases gt d l g with
  | none => rfl
  | some g1 =>
    simp only
    cases b g1 l <;> rfl
@[simp] theorem for0_nil (ds : List D) (gt : D → Sto → Sl → Option Sl) (b : DS) (g : Sl) (l : Sto) : sForL ⟨ds, none⟩ gt b [] g l = .nx g l := for_nil gt b g l trivial
theorem for0_cons (ds : List D) (gt : D → Sto → Sl → Option Sl) (b : DS) (d : D) (r : List D) (g : Sl) (l : Sto) : sForL ⟨ds, none⟩ gt b (d :: r) g l = (match gt d l g with
    | none => .bad
    | some g1 => (b g1 l).loop (sForL ⟨ds, none⟩ gt b r)) := for_cons gt b d r g l trivial
theorem ok_some (ds : List D) (n : Nat) (l : Sto) (h : l[n]? = some (.lst ds)) : (ItD.mk ds (some n)).ok l := h
end Zb

set_option Elab.async false
set_option linter.all false
set_option maxRecDepth 100000
namespace Zb
open PySem L2 PySem.Spec PyProof.Rows
/-! ### calls framed: a def run in the small store of what its arguments reach; new objects that are still reached are kept, the rest is forgotten -/
mutual
def adsD : D → List Nat
  | .adr n => [n]
  | .tup ds => adsDs ds
  | _ => []
def adsDs : List D → List Nat
  | [] => []
  | d :: ds => adsD d ++ adsDs ds
end
def adsO : OB → List Nat
  | .lst ds => adsDs ds
  | .dct kvs => adsDs (kvs.map (·.2))
mutual
def renD (f : Nat → Nat) : D → D
  | .adr n => .adr (f n)
  | .tup ds => .tup (renDs f ds)
  | .non => .non
  | .bl b => .bl b
  | .int i => .int i
  | .str s => .str s
  | .ty s => .ty s
  | .ro ns => .ro ns
def renDs (f : Nat → Nat) : List D → List D
  | [] => []
  | d :: ds => renD f d :: renDs f ds
end
def renO (f : Nat → Nat) : OB → OB
  | .lst ds => .lst (renDs f ds)
  | .dct kvs => .dct (kvs.map fun p => (p.1, renD f p.2))
def levS (l : Sto) (is : List Nat) : List Nat := is.flatMap fun n => match l[n]? with
  | some o => adsO o
  | none => []
/-- all that is reached out of is, four steps deep -/
def reach (l : Sto) (is : List Nat) : List Nat :=
  let a := levS l is
  let b := levS l a
  let c := levS l b
  is ++ (a ++ (b ++ c))
def levF (k : Nat) (l : Sto) (is : List Nat) : List Nat := (levS l is).filter (k ≤ ·)
def reachF (k : Nat) (l : Sto) (is : List Nat) : List Nat :=
  let a := levF k l is
  let b := levF k l a
  let c := levF k l b
  is ++ (a ++ (b ++ c))
def smallS (l : Sto) (is : List Nat) : Sto := is.map fun n => renO is.idxOf (l.getD n (.lst []))
def setAll (l : Sto) : List Nat → List OB → Sto
  | n :: is, o :: os => setAll (l.set n o) is os
  | _, _ => l
def backF (n : Nat) (is F : List Nat) (j : Nat) : Nat := if j < is.length then is.getD j 0 else n + F.idxOf j
def okD (k : Nat) (F : List Nat) (d : List Nat) : Bool := d.all fun j => decide (j < k) || F.contains j
/-- what is told of the store behind the run -/
def backS (l : Sto) (is F : List Nat) (L : Sto) : Sto :=
  setAll l is ((L.take is.length).map (renO (backF l.length is F))) ++ F.map fun j => renO (backF l.length is F) (L.getD j (.lst []))
def freshF (k : Nat) (L : Sto) (d : List Nat) : List Nat := reachF k L ((d ++ (L.take k).flatMap adsO).filter (k ≤ ·))
def okS (k : Nat) (F : List Nat) (L : Sto) (d : List Nat) : Bool :=
  decide F.Nodup && F.all (fun j => decide (j < L.length)) && okD k F d && (L.take k).all (fun o => okD k F (adsO o)) && F.all (fun j => okD k F (adsO (L.getD j (.lst []))))
def finOk (l : Sto) (is F : List Nat) (d : D) (L : Sto) : Res D := if decide (is.length ≤ L.length) && okS is.length F L (adsD d) then .ok (renD (backF l.length is F) d) (backS l is F L) else .bad
def finEx (l : Sto) (is F : List Nat) (C : Addr) (fs : List (Str × D)) (L : Sto) : Res D := if decide (is.length ≤ L.length) && okS is.length F L (adsDs (fs.map (·.2))) then .exc C (fs.map fun p => (p.1, renD (backF l.length is F) p.2)) (backS l is F L) else .bad
def okIs (l : Sto) (is : List Nat) : Bool := decide is.Nodup && is.all (fun n => decide (n < l.length)) && is.all (fun n => okD 0 is (adsO (l.getD n (.lst []))))
def finAt (l : Sto) (is : List Nat) (r : Res D) : Res D := match r with
  | .ok d L => finOk l is (freshF is.length L (adsD d)) d L
  | .exc C fs L => finEx l is (freshF is.length L (adsDs (fs.map (·.2)))) C fs L
  | .bad => .bad
def callAt (run : List D → Sto → Res D) (ds : List D) (l : Sto) (is : List Nat) : Res D := if okIs l is then finAt l is (run (renDs is.idxOf ds) (smallS l is)) else .bad
def callM (run : List D → Sto → Res D) (ds : List D) (l : Sto) : Res D := callAt run ds l (reach l (adsDs ds))
section
variable {K : PySem.W.Frag} {E : XK} {ρ ρ' : List Addr} {l : Sto} {H H' : Hp}
mutual
theorem Rw.ren {f : Nat → Nat} : ∀ (d : D) (v : V), (∀ n ∈ adsD d, ∀ a, ρ[n]? = some a → ρ'[f n]? = some a) → Rw K ρ H d v → Rw K ρ' H (renD f d) v
  | .non, _, _, h => by simpa [renD, Rw] using h
  | .bl _, _, _, h => by simpa [renD, Rw] using h
  | .int _, _, _, h => by simpa [renD, Rw] using h
  | .str _, _, _, h => by simpa [renD, Rw] using h
  | .ty _, _, _, h => by simpa [renD, Rw] using h
  | .ro _, _, _, h => by
    simp only [renD, Rw] at h ⊢
    exact h
  | .adr n, v, q, h => by
    simp only [renD, Rw] at h ⊢
    obtain ⟨a, e, rfl⟩ := h
    exact ⟨a, q n (by simp [adsD]) a e, rfl⟩
  | .tup ds, v, q, h => by
    obtain ⟨a, vs, rfl, z, r⟩ := h.tup_
    simp only [renD]
    exact rw_tup z (Rws.ren ds vs (by simpa [adsD] using q) r)
theorem Rws.ren {f : Nat → Nat} : ∀ (ds : List D) (vs : List V), (∀ n ∈ adsDs ds, ∀ a, ρ[n]? = some a → ρ'[f n]? = some a) → Rws K ρ H ds vs → Rws K ρ' H (renDs f ds) vs
  | [], _, _, h => by simpa [renDs, Rws] using h
  | d :: ds, vs, q, h => by
    simp only [Rws] at h
    obtain ⟨v, u, rfl, r1, r2⟩ := h
    simp only [adsDs, List.mem_append] at q
    simp only [renDs]
    exact Rws.cons (Rw.ren d v (fun n hn => q n (.inl hn)) r1) (Rws.ren ds u (fun n hn => q n (.inr hn)) r2)
end
theorem map_ren {α : Type} {f : Nat → Nat} (kvs : List (α × D)) : (kvs.map fun p => (p.1, renD f p.2)).map (·.2) = renDs f (kvs.map (·.2)) := by
  induction kvs with
  | nil => rfl
  | cons p kvs ih => simp only [List.map_cons, renDs] at ih ⊢; rw [ih]
theorem Ow.ren {f : Nat → Nat} {o : OB} {a : Addr} (q : ∀ n ∈ adsO o, ∀ a, ρ[n]? = some a → ρ'[f n]? = some a) (h : Ow K ρ H o a) : Ow K ρ' H (renO f o) a := by
  cases o with
  | lst ds => obtain ⟨vs, e, r⟩ := h; exact ⟨vs, e, Rws.ren _ _ q r⟩
  | dct kvs =>
    obtain ⟨kv, e, k, r⟩ := h
    refine ⟨kv, e, ?_, ?_⟩
    · rw [k, List.map_map]; rfl
    · rw [map_ren]; exact Rws.ren _ _ q r
theorem setAll_len : ∀ (is : List Nat) (os : List OB) (l : Sto), (setAll l is os).length = l.length
  | [], os, l => by cases os <;> rfl
  | n :: is, [], l => rfl
  | n :: is, o :: os, l => by rw [setAll, setAll_len is os]; simp
theorem setAll_ne : ∀ (is : List Nat) (os : List OB) (l : Sto) (n : Nat), n ∉ is → (setAll l is os)[n]? = l[n]?
  | [], os, l, n, _ => by cases os <;> rfl
  | m :: is, [], l, n, _ => rfl
  | m :: is, o :: os, l, n, h => by
    simp only [List.mem_cons, not_or] at h
    rw [setAll, setAll_ne is os _ n h.2, List.getElem?_set_ne (fun z => h.1 z.symm)]
theorem setAll_at : ∀ (is : List Nat) (os : List OB) (l : Sto) (j n : Nat), is.Nodup → os.length = is.length → (∀ m ∈ is, m < l.length) → is[j]? = some n → (setAll l is os)[n]? = os[j]?
  | [], os, l, j, n, _, _, _, h => by simp at h
  | m :: is, [], l, j, n, _, e, _, _ => by simp at e
  | m :: is, o :: os, l, 0, n, nd, e, b, h => by
    simp only [List.getElem?_cons_zero, Option.some.injEq] at h
    subst h
    rw [setAll, setAll_ne is os _ m (List.nodup_cons.mp nd).1, List.getElem?_set_self (b m List.mem_cons_self)]
    rfl
  | m :: is, o :: os, l, j + 1, n, nd, e, b, h => by
    rw [setAll]
    have := setAll_at is os (l.set m o) j n (List.nodup_cons.mp nd).2 (by simpa using e) (fun x hx => by simpa using b x (List.mem_cons_of_mem _ hx)) (by simpa using h)
    rw [this]
    simp
theorem okD_ {k : Nat} {F d : List Nat} (h : okD k F d = true) : ∀ j ∈ d, j < k ∨ j ∈ F := by
  intro j hj
  have := List.all_eq_true.mp h j hj
  simpa using this
/-- the two worlds -/
structure Fr (K : PySem.W.Frag) (ρ : List Addr) (l : Sto) (H : Hp) (is F : List Nat) (ρ' : List Addr) (L : Sto) (H' : Hp) : Prop where
  o : Own K ρ l H
  nd : is.Nodup
  lt : ∀ n ∈ is, n < ρ.length
  st : Step (adrs ρ is) H ρ' H'
  o' : Own K ρ' L H'
  fnd : F.Nodup
  flt : ∀ j ∈ F, is.length ≤ j ∧ j < L.length
  cl : ∀ o ∈ L.take is.length, okD is.length F (adsO o) = true
  cf : ∀ j ∈ F, okD is.length F (adsO (L.getD j (.lst []))) = true
def big (ρ : List Addr) (F : List Nat) (ρ' : List Addr) : List Addr := ρ ++ F.map fun j => ρ'.getD j 0
section
variable {is F : List Nat} {L : Sto}
theorem Fr.back (f : Fr K ρ l H is F ρ' L H') {j : Nat} (h : j < is.length ∨ j ∈ F) {a : Addr} (e : ρ'[j]? = some a) : (big ρ F ρ')[backF ρ.length is F j]? = some a := by
  unfold backF
  by_cases hj : j < is.length
  · rw [if_pos hj]
    have hn := List.getElem_mem hj
    have hl := f.lt _ hn
    have e1 : is.getD j 0 = is[j] := by simp [List.getD_eq_getElem?_getD, hj]
    obtain ⟨a', h1, h2⟩ := adrs_get (ρ := ρ) (List.getElem?_eq_getElem hj) hl
    have := f.st.px j a' h2
    rw [e] at this
    cases this
    rw [e1]
    unfold big
    rw [List.getElem?_append_left hl]
    exact h1
  · rw [if_neg hj]
    have hF : j ∈ F := h.resolve_left hj
    unfold big
    rw [List.getElem?_append_right (Nat.le_add_right _ _), Nat.add_sub_cancel_left, List.getElem?_map]
    have hi := List.idxOf_lt_length_of_mem hF
    rw [List.getElem?_eq_getElem hi, List.getElem_idxOf hi]
    simp [List.getD_eq_getElem?_getD, e]
theorem Fr.rw (f : Fr K ρ l H is F ρ' L H') {d : D} {v : V} (h : okD is.length F (adsD d) = true) (r : Rw K ρ' H' d v) : Rw K (big ρ F ρ') H' (renD (backF ρ.length is F) d) v :=
  Rw.ren d v (fun j hj _ e => f.back (okD_ h j hj) e) r
theorem Fr.rws (f : Fr K ρ l H is F ρ' L H') {d : List D} {v : List V} (h : okD is.length F (adsDs d) = true) (r : Rws K ρ' H' d v) : Rws K (big ρ F ρ') H' (renDs (backF ρ.length is F) d) v :=
  Rws.ren d v (fun j hj _ e => f.back (okD_ h j hj) e) r
theorem Fr.fresh (f : Fr K ρ l H is F ρ' L H') {j : Nat} (hj : j ∈ F) : ∃ a, ρ'[j]? = some a ∧ a ∉ ρ ∧ H a = none := by
  obtain ⟨h1, h2⟩ := f.flt j hj
  have hb : j < ρ'.length := by rw [f.o'.len]; exact h2
  have hns : ρ'[j] ∉ adrs ρ is := fun q => by
    obtain ⟨i, hi⟩ := List.getElem?_of_mem q
    have hi1 := f.st.px i _ hi
    obtain ⟨b1, e1⟩ := List.getElem?_eq_some_iff.mp hi1
    have := nodup_inj f.o'.nd b1 hb e1
    have hl : i < is.length := by
      have := (List.getElem?_eq_some_iff.mp hi).1
      simpa [adrs] using this
    omega
  have hnew := f.st.new _ (List.getElem_mem hb) hns
  exact ⟨_, List.getElem?_eq_getElem hb, f.o.nop hnew, hnew⟩
theorem Fr.step (f : Fr K ρ l H is F ρ' L H') : Step ρ H (big ρ F ρ') H' := by
  refine ⟨⟨_, rfl⟩, fun a u e hn => f.st.keep a u e fun q => hn (adrs_mem f.lt q), fun a h n => ?_⟩
  rcases List.mem_append.mp h with h | h
  · exact absurd h n
  · obtain ⟨j, hj, rfl⟩ := List.mem_map.mp h
    obtain ⟨a, e, _, hz⟩ := f.fresh hj
    simpa [List.getD_eq_getElem?_getD, e] using hz
theorem Fr.own (f : Fr K ρ l H is F ρ' L H') (hL : is.length ≤ L.length) : Own K (big ρ F ρ') (backS l is F L) H' := by
  have hρ : ρ.length = l.length := f.o.len
  have hos : ((L.take is.length).map (renO (backF l.length is F))).length = is.length := by simp; omega
  have hlt : ∀ n ∈ is, n < l.length := fun n hn => by rw [← hρ]; exact f.lt n hn
  refine ⟨?_, ?_, fun n ob a e1 e2 => ?_⟩
  · unfold big
    refine List.nodup_append.mpr ⟨f.o.nd, ?_, ?_⟩
    · refine List.pairwise_map.mpr (List.Pairwise.imp_of_mem ?_ f.fnd)
      intro i j hi hj hne z
      obtain ⟨a, ea, _, _⟩ := f.fresh hi
      obtain ⟨b, eb, _, _⟩ := f.fresh hj
      simp only [List.getD_eq_getElem?_getD, ea, eb, Option.getD_some] at z
      obtain ⟨b1, e1⟩ := List.getElem?_eq_some_iff.mp ea
      obtain ⟨b2, e2⟩ := List.getElem?_eq_some_iff.mp eb
      exact hne (nodup_inj f.o'.nd b1 b2 (by rw [e1, e2, z]))
    · intro a ha b hb hab
      obtain ⟨j, hj, rfl⟩ := List.mem_map.mp hb
      obtain ⟨c, ec, hc, _⟩ := f.fresh hj
      simp only [List.getD_eq_getElem?_getD, ec, Option.getD_some] at hab
      subst hab
      exact hc ha
  · simp [big, backS, setAll_len, hρ]
  · have hls : (setAll l is ((L.take is.length).map (renO (backF l.length is F)))).length = l.length := setAll_len _ _ _
    by_cases hn : n < l.length
    · unfold backS at e1
      unfold big at e2
      rw [List.getElem?_append_left (by rw [hls]; exact hn)] at e1
      rw [List.getElem?_append_left (by rw [hρ]; exact hn)] at e2
      by_cases q : n ∈ is
      · obtain ⟨j, hj⟩ := List.getElem?_of_mem q
        rw [setAll_at is _ l j n f.nd hos hlt hj, List.getElem?_map] at e1
        have hjl : j < is.length := (List.getElem?_eq_some_iff.mp hj).1
        rw [List.getElem?_take_of_lt hjl] at e1
        cases z : L[j]? with
        | none => rw [z] at e1; cases e1
        | some o2 =>
          rw [z] at e1
          simp only [Option.map_some, Option.some.injEq] at e1
          subst e1
          obtain ⟨a', h4, h5⟩ := adrs_get (ρ := ρ) hj (f.lt n q)
          rw [e2] at h4; cases h4
          have := f.o'.at_ j o2 a z (f.st.px j a h5)
          rw [← hρ]
          exact Ow.ren (fun i hi b eb => f.back (okD_ (f.cl o2 (List.mem_of_getElem? (by rw [List.getElem?_take_of_lt hjl]; exact z))) i hi) eb) this
      · rw [setAll_ne _ _ _ _ q] at e1
        refine Ow.mono (f.step.mn f.o) (fun u e => f.st.keep a u e fun hm => ?_) (f.o.at_ n ob a e1 e2)
        obtain ⟨m, hm1, hm2⟩ := List.mem_map.mp hm
        have b1 := f.lt m hm1
        simp only [List.getD_eq_getElem?_getD, List.getElem?_eq_getElem b1, Option.getD_some] at hm2
        obtain ⟨b2, e3⟩ := List.getElem?_eq_some_iff.mp e2
        rw [← e3] at hm2
        have := nodup_inj f.o.nd b1 b2 hm2
        subst this; exact q hm1
    · unfold backS at e1
      unfold big at e2
      rw [List.getElem?_append_right (by rw [hls]; omega), hls, List.getElem?_map] at e1
      rw [List.getElem?_append_right (by rw [hρ]; omega), hρ, List.getElem?_map] at e2
      cases z : F[n - l.length]? with
      | none => rw [z] at e1; cases e1
      | some j =>
        rw [z] at e1 e2
        simp only [Option.map_some, Option.some.injEq] at e1 e2
        have hj := List.mem_of_getElem? z
        obtain ⟨b, eb, _, _⟩ := f.fresh hj
        simp only [List.getD_eq_getElem?_getD, eb, Option.getD_some] at e2
        subst e2
        obtain ⟨_, h2⟩ := f.flt j hj
        have e3 : L[j]? = some (L.getD j (.lst [])) := by simp [List.getD_eq_getElem?_getD, List.getElem?_eq_getElem h2]
        have := f.o'.at_ j _ b e3 eb
        subst e1
        rw [← hρ]
        exact Ow.ren (fun i hi b eb => f.back (okD_ (f.cf j hj) i hi) eb) this
end
theorem mem_reachF {k : Nat} {L : Sto} {is : List Nat} (h : ∀ j ∈ is, k ≤ j) : ∀ j ∈ reachF k L is, k ≤ j := by
  have lv : ∀ xs j, j ∈ levF k L xs → k ≤ j := fun xs j hj => by
    unfold levF at hj
    simpa using (List.mem_filter.mp hj).2
  intro j hj
  unfold reachF at hj
  simp only [List.mem_append] at hj
  rcases hj with hj | hj | hj | hj
  · exact h j hj
  · exact lv _ j hj
  · exact lv _ j hj
  · exact lv _ j hj
variable {P : Program} {w : World} {mg : Str → Option Value} {base : Heap} {k n : Nat} {f : Addr} {fd : FuncData} {ps : List Str}
theorem idx_get {is : List Nat} (b : ∀ n ∈ is, n < ρ.length) {n : Nat} (hn : n ∈ is) {a : Addr} (e : ρ[n]? = some a) : (adrs ρ is)[is.idxOf n]? = some a := by
  have hi := List.idxOf_lt_length_of_mem hn
  have h1 : is[is.idxOf n]? = some n := by rw [List.getElem?_eq_getElem hi, List.getElem_idxOf hi]
  obtain ⟨a', h2, h3⟩ := adrs_get (ρ := ρ) h1 (b n hn)
  rw [e] at h2; cases h2
  exact h3
theorem imp_M {CX : CXT} {m : List D → Sto → Res D} (F0 : FnOk P w K mg base CX k f fd ps (spD K n m)) : FnOk P w K mg base CX k f fd ps (spD K n (callM m)) :=
  F0.imp fun vs H Q E ⟨ρ, l, ds, o, r, hl, p⟩ => by
    unfold callM callAt at p
    obtain ⟨hc, p⟩ := Post.ite p
    unfold okIs at hc
    simp only [Bool.and_eq_true, decide_eq_true_eq, List.all_eq_true] at hc
    obtain ⟨⟨nd, hlt⟩, hcl⟩ := hc
    have hρ : ρ.length = l.length := o.len
    let is := reach l (adsDs ds)
    have hb : ∀ n ∈ is, n < ρ.length := fun n hn => by rw [hρ]; exact hlt n hn
    have hsub : ∀ n ∈ adsDs ds, n ∈ is := fun n hn => List.mem_append_left _ hn
    have own : Own K (adrs ρ is) (smallS l is) H := ⟨adrs_nodup nd hb o.nd, by simp [smallS, adrs], fun j ob a e1 e2 => by
      have hj : j < is.length := by have := (List.getElem?_eq_some_iff.mp e2).1; simpa [adrs] using this
      have hn := List.getElem_mem hj
      obtain ⟨a', h1, h2⟩ := adrs_get (ρ := ρ) (List.getElem?_eq_getElem hj) (hb _ hn)
      rw [e2] at h2; cases h2
      have e3 : l[is[j]]? = some (l.getD is[j] (.lst [])) := by
        have := hlt _ hn
        simp [List.getD_eq_getElem?_getD, List.getElem?_eq_getElem this]
      simp only [smallS, List.getElem?_map, List.getElem?_eq_getElem hj, Option.map_some, Option.some.injEq] at e1
      subst e1
      exact Ow.ren (fun i hi b eb => idx_get hb ((okD_ (hcl _ hn) i hi).resolve_left (by omega)) eb) (o.at_ _ _ a e3 h1)⟩
    refine ⟨adrs ρ is, smallS l is, renDs is.idxOf ds, own, Rws.ren ds vs (fun i hi b eb => idx_get hb (hsub i hi) eb) r, ?_, ?_⟩
    · rw [← hl]
      have : ∀ (f : Nat → Nat) (ds : List D), (renDs f ds).length = ds.length := fun f ds => by
        induction ds with
        | nil => rfl
        | cons d ds ih => simp [renDs, ih]
      exact this _ _
    · have fr : ∀ {ρ' : List Addr} {H' : Hp} {L : Sto} {dd : List Nat}, is.length ≤ L.length → okS is.length (freshF is.length L dd) L dd = true → Step (adrs ρ is) H ρ' H' → Own K ρ' L H' → Fr K ρ l H is (freshF is.length L dd) ρ' L H' := fun {ρ' H' L dd} hL h s o' => by
        simp only [okS, Bool.and_eq_true, decide_eq_true_eq, List.all_eq_true] at h
        obtain ⟨⟨⟨⟨f1, f2⟩, f3⟩, f4⟩, f5⟩ := h
        refine ⟨o, nd, hb, s, o', f1, fun j hj => ⟨mem_reachF (fun i hi => ?_) j hj, f2 j hj⟩, f4, f5⟩
        have := (List.mem_filter.mp hi).2
        simpa using this
      change Post K E ρ H (rD K) (finAt l is (m (renDs is.idxOf ds) (smallS l is))) Q at p
      cases q : m (renDs is.idxOf ds) (smallS l is) with
      | bad => rw [q] at p; exact p
      | ok d L =>
        rw [q] at p
        obtain ⟨hc, p⟩ := Post.ite p
        simp only [Bool.and_eq_true, decide_eq_true_eq] at hc
        intro ρ' H' v s o' r'
        have f := fr hc.1 hc.2 s o'
        have hk : okD is.length (freshF is.length L (adsD d)) (adsD d) = true := by
          have := hc.2
          simp only [okS, Bool.and_eq_true] at this
          exact this.1.1.2
        have e : backF l.length is (freshF is.length L (adsD d)) = backF ρ.length is (freshF is.length L (adsD d)) := by rw [hρ]
        refine p _ H' v f.step (f.own hc.1) ?_
        have := f.rw hk r'
        rw [← e] at this
        exact this
      | exc C fs L =>
        rw [q] at p
        obtain ⟨hc, p⟩ := Post.ite p
        simp only [Bool.and_eq_true, decide_eq_true_eq] at hc
        intro ρ' H' dd vs s o' e1 e2 e3
        have f := fr hc.1 hc.2 s o'
        have hk : okD is.length (freshF is.length L (adsDs (fs.map (·.2)))) (adsDs (fs.map (·.2))) = true := by
          have := hc.2
          simp only [okS, Bool.and_eq_true] at this
          exact this.1.1.2
        have e : backF l.length is (freshF is.length L (adsDs (fs.map (·.2)))) = backF ρ.length is (freshF is.length L (adsDs (fs.map (·.2)))) := by rw [hρ]
        refine p _ H' dd vs f.step (f.own hc.1) e1 (by rw [e2, List.map_map]; rfl) ?_
        have := f.rws hk e3
        rw [← e] at this
        rw [map_ren]
        exact this
theorem Has.toM {CX : CXT} {x : Str} {m : List D → Sto → Res D} (h : Has CX P w K mg base x k ps (spD K n m)) : Has CX P w K mg base x k ps (spD K n (callM m)) :=
  let ⟨f, fd, a, b, c, d⟩ := h.ex; ⟨f, fd, a, b, c, imp_M d⟩
theorem HasK.toM {CX : CXT} {x : Str} {ks : List Str} {gD : List D → List D} {m : List D → Sto → Res D} (h : HasK CX P w K mg base x k ps ks gD (spD K n m)) : HasK CX P w K mg base x k ps ks gD (spD K n (callM m)) :=
  let ⟨f, fd, g, gV, a, b, c, e, d⟩ := h.ex; ⟨f, fd, g, gV, a, b, c, e, imp_M d⟩
end
end Zb

set_option Elab.async false
set_option linter.all false
set_option maxRecDepth 100000
set_option maxHeartbeats 2000000
namespace Zb
open PySem L2 PySem.Spec PyProof.Rows
/-! ### try: body / except C as n: return what the exception's fields tell -/
theorem Own.newX {K : PySem.W.Frag} {ρ : List Addr} {l : Sto} {H : Hp} {p : Addr} {u : HO} (o : Own K ρ l H) (hp : H p = none) : Own K ρ l (upd H p u) ∧ Step ρ H ρ (upd H p u) := by
  have st : Step ρ H ρ (upd H p u) := step_upd hp
  exact ⟨⟨o.nd, o.len, fun n ob a e1 e2 => Ow.mono (st.mn o) (fun u e => by rw [upd_ne (ne_of_none e hp)]; exact e) (o.at_ n ob a e1 e2)⟩, st⟩
/-- an element of what is handed back: a constant, a field -/
inductive HE where
  | k (d : D) | f (n : Str)
inductive HR where
  | one (h : HE) | tup (hs : List HE)
def heD (fs : List (Str × D)) : HE → Option D
  | .k d => some d
  | .f n => fs.lookup n
def hesD (fs : List (Str × D)) : List HE → Option (List D)
  | [] => some []
  | h :: hs => match heD fs h, hesD fs hs with
    | some d, some ds => some (d :: ds)
    | _, _ => none
def hrD (fs : List (Str × D)) : HR → Option D
  | .one h => heD fs h
  | .tup hs => match hesD fs hs with
    | some ds => if small ds.length then some (.tup ds) else none
    | none => none
def cV : D → Option V
  | .non => some .non
  | .bl b => some (.bl b)
  | .int i => some (.int i)
  | .str s => some (.str s)
  | _ => none
def heV (vs : List (Str × V)) : HE → Option V
  | .k d => cV d
  | .f n => vs.lookup n
def hesV (vs : List (Str × V)) : List HE → Option (List V)
  | [] => some []
  | h :: hs => match heV vs h, hesV vs hs with
    | some d, some ds => some (d :: ds)
    | _, _ => none
def heC : HE → Bool
  | .k d => (cV d).isSome
  | .f _ => true
def okR : HR → Bool
  | .one h => heC h
  | .tup hs => hs.all heC
section
variable {K : PySem.W.Frag} {ρ : List Addr} {H : Hp}
theorem lookup_rw : ∀ {fs : List (Str × D)} {vs : List (Str × V)} {n : Str} {d : D}, vs.map (·.1) = fs.map (·.1) → Rws K ρ H (fs.map (·.2)) (vs.map (·.2)) → fs.lookup n = some d → ∃ v, vs.lookup n = some v ∧ Rw K ρ H d v
  | [], _, _, _, _, _, e => by simp at e
  | (m, d0) :: fs, [], _, _, h, _, _ => by simp at h
  | (m, d0) :: fs, (m', v0) :: vs, n, d, h, r, e => by
    simp only [List.map_cons, List.cons.injEq] at h
    obtain ⟨rfl, h⟩ := h
    simp only [List.map_cons, Rws] at r
    obtain ⟨v, u, e1, r1, r2⟩ := r
    cases e1
    rw [List.lookup_cons] at e ⊢
    cases q : (n == m') with
    | true =>
      rw [q] at e
      cases e
      exact ⟨v0, rfl, r1⟩
    | false =>
      rw [q] at e
      exact lookup_rw h r2 e
theorem he_rw {fs : List (Str × D)} {vs : List (Str × V)} (h1 : vs.map (·.1) = fs.map (·.1)) (h2 : Rws K ρ H (fs.map (·.2)) (vs.map (·.2))) {h : HE} {d : D} (hc : heC h = true) (e : heD fs h = some d) : ∃ v, heV vs h = some v ∧ Rw K ρ H d v := by
  cases h with
  | k d0 =>
    simp only [heD, Option.some.injEq] at e
    subst e
    cases d0 <;> simp [heC, cV] at hc <;> exact ⟨_, rfl, by simp [Rw]⟩
  | f n => exact lookup_rw h1 h2 e
theorem hes_rw {fs : List (Str × D)} {vs : List (Str × V)} (h1 : vs.map (·.1) = fs.map (·.1)) (h2 : Rws K ρ H (fs.map (·.2)) (vs.map (·.2))) : ∀ {hs : List HE} {ds : List D}, hs.all heC = true → hesD fs hs = some ds → ∃ us, hesV vs hs = some us ∧ Rws K ρ H ds us
  | [], ds, _, e => by simp only [hesD, Option.some.injEq] at e; subst e; exact ⟨[], rfl, Rws.nil⟩
  | h :: hs, ds, hc, e => by
    simp only [List.all_cons, Bool.and_eq_true] at hc
    simp only [hesD] at e
    split at e
    · rename_i d ds' e1 e2
      cases e
      obtain ⟨v, q1, r1⟩ := he_rw h1 h2 hc.1 e1
      obtain ⟨us, q2, r2⟩ := hes_rw h1 h2 hc.2 e2
      exact ⟨v :: us, by simp only [hesV, q1, q2], Rws.cons r1 r2⟩
    · cases e
end
/-- what is known of a class of exceptions, so that the field n of one of it may be read -/
structure FldTxt (K : PySem.W.Frag) (C : Addr) (n : Str) : Prop where
  ga : PySem.W.findIn K (.ref C) "__getattribute__" = some (some (.builtin "BaseException.__getattribute__"))
  gg : PySem.W.findIn K (.ref C) "__getattr__" = some none
  exC : PySem.W.subIn K (.ref C) (.type "BaseException") = some true
  hdC : PySem.W.hasDictIn K C = true
  noN : PySem.W.findIn K (.ref C) n = some none
section
variable {X : Cx} {C : Addr} {i : Nat}
def teH (C : Addr) (i : Nat) (a : Addr) (cls : Value) (d : Option Addr) (fv : List (Str × V) → Option V) : TE := fun σ H Q => (∃ σ0 : L2.St, σ = σ0.set i (some (.ref a))) ∧ cls = .ref C ∧ ∃ (dd : Addr) (vs : List (Str × V)) (v : V), d = some dd ∧ H dd = some (.xd vs) ∧ fv vs = some v ∧ Q v H
def taH (C : Addr) (i : Nat) (a : Addr) (cls : Value) (d : Option Addr) (fv : List (Str × V) → Option (List V)) : TA := fun σ H Q => (∃ σ0 : L2.St, σ = σ0.set i (some (.ref a))) ∧ cls = .ref C ∧ ∃ (dd : Addr) (vs : List (Str × V)) (us : List V), d = some dd ∧ H dd = some (.xd vs) ∧ fv vs = some us ∧ Q us H
structure AH (X : Cx) (C : Addr) (i : Nat) (e : Expr) (h : HE) : Prop where
  pe : ∀ (a : Addr) (oe : Obj) (cls : Value) (d : Option Addr) (pn : List (Addr × Obj)), Zc cls d oe → (∃ vs, oe.data = .fields vs) → PE (X.suite a ((a, oe) :: pn)) e (teH C i a cls d fun vs => heV vs h)
  ok : heC h = true
structure AHs (X : Cx) (C : Addr) (i : Nat) (es : List Expr) (hs : List HE) : Prop where
  pa : ∀ (a : Addr) (oe : Obj) (cls : Value) (d : Option Addr) (pn : List (Addr × Obj)), Zc cls d oe → (∃ vs, oe.data = .fields vs) → PA (X.suite a ((a, oe) :: pn)) es (taH C i a cls d fun vs => hesV vs hs)
  ok : hs.all heC = true
theorem ah_c {e : Expr} {d : D} {v : V} (hd : cV d = some v) (h : ∀ (a : Addr) (oe : Obj) (pn : List (Addr × Obj)), PE (X.suite a ((a, oe) :: pn)) e (tC v)) : AH X C i e (.k d) :=
  ⟨fun a oe cls dd pn hz hf => PE.imp (h a oe pn) fun σ H Q ⟨_, _, _, vs, v', _, _, e1, q⟩ => by
    simp only [heV, hd, Option.some.injEq] at e1
    subst e1
    exact q, by simp [heC, hd]⟩
theorem ah_str {s : Str} {j p} : AH X C i (.Constant (.str s) j p) (.k (.str s)) := ah_c (v := .str s) rfl fun _ _ _ => pe_str
theorem ah_int {s : Int} {j p} : AH X C i (.Constant (.int s) j p) (.k (.int s)) := ah_c (v := .int s) rfl fun _ _ _ => pe_int
theorem ah_non {j p} : AH X C i (.Constant .none j p) (.k .non) := ah_c (v := .non) rfl fun _ _ _ => pe_non
theorem ah_bl {b : Bool} {j p} : AH X C i (.Constant (.bool b) j p) (.k (.bl b)) := ah_c (v := .bl b) rfl fun _ _ _ => pe_bl
theorem ah_fld {n m : Str} {p1 p2 : Pos} (T : FldTxt X.K C m) (hi : X.N[i]? = some n) (hln : X.env.kindOf n = some .local) (hd : (n == ("__debug__" : Str)) = false := by decide) (hcd : (n == ("__classdict__" : Str)) = false := by decide)
    (hb : attributeBase (.Name n p1) m X.env (eval (.Name n p1) X.env) = eval (.Name n p1) X.env := by rfl) : AH X C i (.Attribute (.Name n p1) m p2) (.f m) := by
  refine ⟨fun a oe cls d pn hz hf => ⟨fun pins s σ H Q I h => ?_⟩, rfl⟩
  obtain ⟨⟨σ0, eσ⟩, ec, dd, vs, v, ed, ea, ev, q⟩ := h
  have hl : i < σ.length := by rw [I.len]; exact (List.getElem?_eq_some_iff.mp hi).1
  have hσ : σ[i]? = some (some (.ref a)) := by
    rw [eσ] at hl ⊢
    rw [List.getElem?_set_self (by simpa using hl)]
  refine attr_of hb (thn ((pe_var (X := X.suite a ((a, oe) :: pn)) (pos := p1) hi (.inl hln) hd hcd).run pins s σ H (fun x H1 => x = .ref a ∧ H1 = H) I ⟨.ref a, hσ, rfl, rfl⟩) fun u s1 hh => ?_)
  obtain ⟨x, H1, I1, rx, ex, eH⟩ := hh
  subst ex eH ec ed
  obtain rfl : u = Value.ref a := rx
  obtain ⟨ha, _⟩ := I1.pin (a, oe) (List.mem_append_left _ List.mem_cons_self)
  obtain ⟨fs, hd2⟩ := hf
  have hx : ObjOk X.prog X.w H1 s1.heap dd (.xd vs) := I1.hok dd _ ea
  obtain ⟨mA, hns, hr⟩ := hx
  obtain ⟨od, ho, hl2⟩ := lookIn_ns hns
  obtain ⟨u, hu, ru⟩ := RelO.some_of (v := v) (o := mA m) (by have := hr m; rw [show vs.lookup m = some v from ev] at this; exact this)
  have J : PySem.W.InstAt s1.heap a oe C (some od) := ⟨ha, hz.1, by unfold PySem.W.notCls; rw [hd2] <;> rfl, by rw [hz.2]; exact ho⟩
  exact HandSPX.exc_get I1.kIn J T.ga T.gg T.exC (PySem.W.findObj_own T.hdC T.noN rfl (by rw [hl2, hu])) (handed_of ru) ⟨v, H1, I1.tok _, ru, q⟩
theorem ahs_nil : AHs X C i [] [] := ⟨fun a oe cls d pn hz hf => PA.imp pa_nil fun σ H Q ⟨_, _, _, vs, us, _, _, e, q⟩ =>
  (by
    simp only [hesV, Option.some.injEq] at e
    subst e
    exact q), rfl⟩
theorem ahs_cons {e : Expr} {es : List Expr} {h : HE} {hs : List HE} (a1 : AH X C i e h) (a2 : AHs X C i es hs) (hst : starEach (e :: es) X.env = (false, eval e X.env) :: starEach es X.env := by rfl) : AHs X C i (e :: es) (h :: hs) :=
  ⟨fun a oe cls d pn hz hf => PA.imp (pa_cons (a1.pe a oe cls d pn hz hf) (a2.pa a oe cls d pn hz hf) hst) fun σ H Q ⟨h1, h2, dd, vs, us, h3, h4, e1, q⟩ => (by
    simp only [hesV] at e1
    split at e1
    · rename_i v us' e2 e3
      cases e1
      exact ⟨h1, h2, dd, vs, v, h3, h4, e2, h1, h2, dd, vs, us', h3, h4, e3, q⟩
    · cases e1), by simp [a1.ok, a2.ok]⟩
def hrV (H : Hp) (vs : List (Str × V)) (hr : HR) (Q : V → Hp → Prop) : Prop := match hr with
  | .one h => ∃ v, heV vs h = some v ∧ Q v H
  | .tup hs => ∃ us, hesV vs hs = some us ∧ us.length ≤ sizeLine ∧ ∀ p, H p = none → Q (.ref p) (upd H p (.tup us))
def teR (C : Addr) (i : Nat) (a : Addr) (cls : Value) (d : Option Addr) (hr : HR) : TE := fun σ H Q => (∃ σ0 : L2.St, σ = σ0.set i (some (.ref a))) ∧ cls = .ref C ∧ ∃ (dd : Addr) (vs : List (Str × V)), d = some dd ∧ H dd = some (.xd vs) ∧ hrV H vs hr Q
structure AR (X : Cx) (C : Addr) (i : Nat) (e : Expr) (hr : HR) : Prop where
  pe : ∀ (a : Addr) (oe : Obj) (cls : Value) (d : Option Addr) (pn : List (Addr × Obj)), Zc cls d oe → (∃ vs, oe.data = .fields vs) → PE (X.suite a ((a, oe) :: pn)) e (teR C i a cls d hr)
  ok : okR hr = true
theorem ar_one {e : Expr} {h : HE} (a1 : AH X C i e h) : AR X C i e (.one h) := ⟨fun a oe cls d pn hz hf => PE.imp (a1.pe a oe cls d pn hz hf) fun σ H Q ⟨h1, h2, dd, vs, h3, h4, v, e, q⟩ => ⟨h1, h2, dd, vs, v, h3, h4, e, q⟩, a1.ok⟩
theorem ar_tup {es : List Expr} {x1 pos} {hs : List HE} (a1 : AHs X C i es hs) : AR X C i (.Tuple es x1 pos) (.tup hs) :=
  ⟨fun a oe cls d pn hz hf => PE.imp (pe_tup (a1.pa a oe cls d pn hz hf)) fun σ H Q ⟨h1, h2, dd, vs, h3, h4, us, e, hl, q⟩ => ⟨h1, h2, dd, vs, us, h3, h4, e, hl, q⟩, a1.ok⟩
/-- from the fields as told to what is handed back -/
theorem hr_post {K : PySem.W.Frag} {ρ : List Addr} {l : Sto} {H : Hp} {fs : List (Str × D)} {vs : List (Str × V)} {hr : HR} {d : D} {Q : VK} (o : Own K ρ l H) (h1 : vs.map (·.1) = fs.map (·.1)) (h2 : Rws K ρ H (fs.map (·.2)) (vs.map (·.2))) (hc : okR hr = true)
    (e : hrD fs hr = some d) (q : ∀ ρ' H' v, Step ρ H ρ' H' → Own K ρ' l H' → Rw K ρ' H' d v → Q v H') : hrV H vs hr Q := by
  cases hr with
  | one h =>
    obtain ⟨v, e1, r⟩ := he_rw h1 h2 hc e
    exact ⟨v, e1, q ρ H v Step.refl o r⟩
  | tup hs =>
    simp only [hrD] at e
    split at e
    · rename_i ds e1
      split at e
      · rename_i hs2
        cases e
        obtain ⟨us, e2, r⟩ := hes_rw h1 h2 hc e1
        refine ⟨us, e2, ?_, fun p hp => ?_⟩
        · rw [r.length]; exact small_le hs2
        · obtain ⟨o2, s2⟩ := o.newT (xs := us) hp
          exact q ρ _ _ s2 o2 (rw_tup (.inl (.inl upd_same)) (s2.rws o r))
      · cases e
    · cases e
open Classical in
noncomputable def sTry1 (C : Addr) (hr : HR) (t : DS) : DS := fun g l => match t g l with
  | .ex C' fs l' => if C' = C then (match hrD fs hr with
    | some d => .rt d l'
    | none => .bad) else .bad
  | r => r
theorem as_try1 {E : XK} {t : DS} {n cl : Str} {body : List Stmt} {hr : HR} {re : Expr} {np p3 pos pos' : Pos} (hs : X.stack = X.env :: X.outer) (hf : X.env.frame = some X.env.locals) (hN : X.N.Nodup) (hi : X.N[i]? = some n) (hln : X.env.kindOf n = some .local)
    (te : PySem.W.exmOne X.K (.ref C) (.ref C) = some true) (gC : X.mg cl = some (.ref C)) (hg : Gl X cl)
    (hb : ∀ (E' : XK) (pn : List (Addr × Obj)) (xe : Value → Shared → Prop), Takes (X.tr pn xe) (fun c d _ H => E' c d H) → PassesOwn (model X.prog X.w) X.A X.env xe → ASs (X.tr pn xe) E' body t)
    (hh : AR X C i re hr) (hdc : (cl == ("__debug__" : Str)) = false := by decide) :
    AS X E (.Try body [.ExceptHandler (some (.Name cl np)) (some n) [.Return (some re) p3] pos'] [] [] pos) (sTry1 C hr t) := by
  refine ⟨PS.imp (ps_try_as (i := i) (tb := fun W D σ H => ∃ E' : XK, (∀ c d σ H, E' c d H → W c d σ H) ∧ tsOf X.K E' t D σ H) (ts := fun a cls d => tRet (teR C i a cls d hr))
    (Wout := fun _ _ _ _ => False) hs hf hN hi hln ⟨hg, hdc, .inl gC⟩ takes0 (fun W pn xe tk po => ?_) (fun a oe cls d pn hz hfd => ?_)) fun D σ H h => ?_⟩
  · refine ⟨fun pins s σ H D I ⟨E', h1, h2⟩ => ?_⟩
    exact (hb E' pn xe (tk.imp h1) po).pss.run pins s σ H D I h2
  · exact pss_one (ps_ret (hh.pe a oe cls d pn hz hfd))
  · obtain ⟨ρ, l, g, o, s, p⟩ := h
    refine ⟨fun c d H => c = .ref C ∧ ∃ (dd : Addr) (vs : List (Str × V)), d = some dd ∧ H dd = some (.xd vs) ∧ hrV H vs hr D.rt, ?_, ρ, l, g, o, s, ?_⟩
    · rintro c d σ1 H1 ⟨rfl, dd, vs, rfl, e, q⟩
      exact ⟨true, te, fun _ a _ => ⟨⟨σ1, rfl⟩, rfl, dd, vs, rfl, e, q⟩, fun z => Bool.noConfusion z⟩
    · unfold sTry1 at p
      cases q : t g l with
      | bad => rw [q] at p; exact p
      | nx g' l' => rw [q] at p; exact p
      | rt d l' => rw [q] at p; exact p
      | bk g' l' => rw [q] at p; exact p
      | ct g' l' => rw [q] at p; exact p
      | ex C' fs l' =>
        rw [q] at p
        simp only at p
        split at p
        · rename_i hC
          subst hC
          split at p
          · rename_i d hd
            intro ρ' H' dd vs st o' e1 e2 e3
            refine ⟨rfl, dd, vs, rfl, e1, hr_post o' e2 e3 hh.ok hd fun ρ2 H2 v s2 o2 r2 => ?_⟩
            exact p ρ2 H2 v (st.trans s2) o2 r2
          · exact p.elim
        · exact p.elim
end
end Zb

set_option Elab.async false
set_option linter.all false
set_option maxRecDepth 100000
set_option maxHeartbeats 2000000
namespace Zb
open PySem L2 PySem.Spec PyProof.Rows RZ
/-! ### for i, x in enumerate(a tuple) -/
theorem mk_enum {v : Value} {o : Obj} {Z : Heap → Prop} (B : Begins v o Z) :
    Meets (Builtin.«enumerate.__new__» ⟨[.type "enumerate", v], []⟩) (fun _ R s => Z s.heap ∧
      R (.ok (.ret (.ref (s.heap.push o).objs.size))) { s with heap := (s.heap.push o).push { cls := .type "enumerate", data := .fields #[.none, .bool false, .ref s.heap.objs.size, rawInt 0, .none, .none] } }) :=
  .of_wp fun prog w A R s h => by
    obtain ⟨hp, g, d, tk, os⟩ := s
    obtain ⟨hz, h⟩ := h
    have sb := sub_enumerate
    have it1 : ∀ {A' : Around} {E Q : Value → Shared → Prop}, Q (.ref hp.objs.size) ⟨hp.push o, g, d, tk, os⟩ → wpAny (model prog w) A' (pyIter v) Q E ⟨hp, g, d, tk, os⟩ := fun q => B.iter prog w _ _ ⟨hp, g, d, tk, os⟩ _ hz q
    wp_walk using it1
    refine wpAny_stack_any fun st => wpAny_pure ?_
    split
    · rename_i c _ _ _ _ _
      cases (c == Value.type "enumerate")
      · wp_walk using it1
        exact ⟨_, rfl, h⟩
      · wp_walk using it1
        exact ⟨_, rfl, h⟩
    · wp_walk using it1
      exact ⟨_, rfl, h⟩
theorem call_enum {prog : Program} {w : World} {A : Around} {E : Value → Shared → Prop} {s : Shared} {v : Value} {o : Obj} {Z : Heap → Prop} {Q : Value → Shared → Prop} (B : Begins v o Z) (hz : Z s.heap)
    (h : ∀ h', IsEnum h' (s.heap.objs.size + 1) s.heap.objs.size 0 .none → h'.get? s.heap.objs.size = some o → (∀ b o, s.heap.get? b = some o → h'.get? b = some o) → Q (.ref (s.heap.objs.size + 1)) { s with heap := h' }) :
    wpAny (model prog w) A (call (.type "enumerate") [v]) Q E s := by
  refine callType_new F.called_enumerate (by decide) (F.typeCall_enumerate_1 _) (F.newCall_enumerate_1 _) (fun obj => F.args_object_init_2 obj _) F.entry_enumerate_new (mk_enum B) ⟨hz, ?_⟩
  have sz : (s.heap.push o).objs.size = s.heap.objs.size + 1 := Heap.size_push ..
  have new := Heap.get?_push_size (s.heap.push o) (o := { cls := .type "enumerate", data := .fields #[.none, .bool false, .ref s.heap.objs.size, rawInt 0, .none, .none] }) rfl
  rw [sz] at new
  show _ ∧ _
  rw [sz]
  exact ⟨⟨_, new, rfl⟩, h _ new (Heap.get?_push_of_some _ (Heap.get?_push_size _ B.free)) fun b o x => Heap.get?_push_of_some _ (Heap.get?_push_of_some _ x)⟩
/-- the tuple at a, its items numbered, in new pairs -/
def IteT (K : PySem.W.Frag) (a : Addr) : It :=
  ⟨fun i H => ∃ (xs : List V) (x : V), SqT K H a xs ∧ xs[i]? = some x,
   fun i H v H' => ∃ (T : Addr) (x : V), v = .ref T ∧ H T = none ∧ H' = upd H T (.tup [.int (i : Nat), x]) ∧ ∀ xs, SqT K H a xs → xs[i]? = some x,
   fun i H => ∃ xs : List V, SqT K H a xs ∧ xs.length = i⟩
theorem turn_enumT {P : Program} {w : World} {K : PySem.W.Frag} {elts : List Expr} {kk : Nat} {tpos : Pos} (a e it : Addr) :
    Turn P w K (.Tuple elts kk tpos) (IteT K a) [e, it] e (fun i h => (∃ old, IsEnum h e it ((i : Nat) : Int) old) ∧ h.IsTupleIter it a i ∧ e ≠ it ∧ a ≠ it ∧ a ≠ e) where
  mem := List.mem_cons_self
  obj := fun i h st b hb => by
    obtain ⟨⟨old, z⟩, ⟨o, z1, z2, z3⟩, _⟩ := st
    simp only [List.mem_cons, List.not_mem_nil, or_false] at hb
    rcases hb with rfl | rfl
    · exact ⟨_, z, fun v q => nomatch q⟩
    · exact ⟨o, z1, fun v q => by rw [z3] at q; cases q⟩
  keep := fun i h h' st k => by
    obtain ⟨⟨old, z⟩, y, n1, n2, n3⟩ := st
    exact ⟨⟨old, k e (by simp) _ z⟩, y.at fun o q => k it (by simp) o q, n1, n2, n3⟩
  item := by
    intro X hP hw hK hc i pins s σ H E I hf st hg
    subst hP hw hK
    obtain ⟨⟨old, he⟩, hit, n1, n2, n3⟩ := st
    obtain ⟨xs, x, hq, hx⟩ := hg
    obtain ⟨its, rv, p, _⟩ := I.tuple hq
    obtain ⟨u, hu, ru⟩ := rv.get hx
    have tp : s.heap.IsTuple a its.toArray := p
    have le : e < s.heap.objs.size := Heap.lt_size he
    have li : it < s.heap.objs.size := by obtain ⟨_, q, _⟩ := hit; exact Heap.lt_size q
    have hi : i < its.toArray.size := by have := (List.getElem?_eq_some_iff.mp hu).1; simpa using this
    have hh : X.A.in1.handled = none := I.ok.hd hc
    refine wpAny_pyNext_enum_itemD (Draws.tuple hh it a n2 its.toArray) he ⟨hit, tp⟩ hi n1 (by simp [n1, Ne.symm n3]) fun x2 h' tk hx2 ho st2 hT hsz hk => ?_
    have e2 : x2 = u := by
      have := hx2
      simp only [List.getElem?_toArray] at this
      rw [hu] at this
      exact (Option.some.inj this).symm
    subst e2
    refine ⟨_, rfl, wpAny_letOwnedTupleGo_enum (s := { s with heap := h', toks := tk + 1 }) ho fun h2 he2 sb => ?_⟩
    have hT2 := (sb.2 _ (Nat.ne_of_gt le)).trans hT
    have new : ObjOk X.prog X.w (upd H s.heap.objs.size (.tup [.int (i : Nat), x])) h2 s.heap.objs.size (.tup [.int (i : Nat), x]) :=
      ⟨by show 2 ≤ sizeLine; decide, [.int i tk, x2], .cons ⟨_, rfl⟩ (.cons ru .nil), ⟨_, hT2, rfl, _, rfl⟩⟩
    have I2 : Inv X pins σ (upd H s.heap.objs.size (.tup [.int (i : Nat), x])) { s with heap := h2, toks := tk + 1 } :=
      I.turnedNew (ch := [e, it]) (fun b ob hb q => (sb.2 b (fun z => hb (by simp [z]))).trans (hk b ob (fun z => hb (by simp [z])) (fun z => hb (by simp [z])) q)) hf (Nat.le_refl _) new
    refine ⟨.ref s.heap.objs.size, _, I2, rfl, ⟨_, x, rfl, I.hok.fresh (Nat.le_refl _), rfl, fun ys hy => by rw [I.tuple_inj hy hq]; exact hx⟩, ⟨⟨x2, ?_⟩, st2.1.at fun o q => (sb.2 it (Ne.symm n1)).trans q, n1, n2, n3⟩, fun b hb => ?_⟩
    · have e1 : ((i + 1 : Nat) : Int) = (i : Int) + 1 := by omega
      rw [e1]; exact he2
    · have lb : b < s.heap.objs.size := by
        simp only [List.mem_cons, List.not_mem_nil, or_false] at hb
        rcases hb with rfl | rfl
        · exact le
        · exact li
      rw [upd_ne (Nat.ne_of_lt lb)]
      exact (hf b hb).1
  done := by
    intro X hP hw hK hc i pins s σ H E I hf st hg
    subst hP hw hK
    obtain ⟨⟨old, he⟩, hit, n1, n2, n3⟩ := st
    obtain ⟨xs, hq, rfl⟩ := hg
    obtain ⟨its, rv, p, _⟩ := I.tuple hq
    have tp : s.heap.IsTuple a its.toArray := p
    have hl := rv.length
    obtain ⟨f0, f1, f2, f3, f4, f5⟩ := hf it (by simp)
    have hh : X.A.in1.handled = none := I.ok.hd hc
    have e1 : its.toArray.size = xs.length := by simp [hl]
    refine wpAny_pyNext_enum_endD (Draws.tuple hh it a n2 its.toArray) he ⟨by rw [e1]; exact hit, tp⟩ fun h' eb => ⟨rfl, I.turned (t' := s.toks) (fun b o hb q => eb b o hb q) f0 f1 f3 f4 f5⟩
  self := fun A i s Q E st h => by
    obtain ⟨⟨_, he⟩, _⟩ := st
    exact wpAny_pyIter_enum he h
def iEnumT (K : PySem.W.Frag) (ta : TA) : TI := fun σ H R => ta σ H fun vs H1 => ∃ a xs, vs = [.ref a] ∧ SqT K H1 a xs ∧ R (IteT K a) H1
theorem pi_enumT {X : Cx} {e : Expr} {ta : TA} {p pos tpos : Pos} {elts : List Expr} {kk : Nat} (hg : Gl X "enumerate") (hm : X.mg "enumerate" = none) (ha : PA X [e] ta) (hs : starEach [e] X.env = [(false, eval e X.env)] := by rfl) :
    PI X (.Tuple elts kk tpos) (.Call (.Name "enumerate" p) [e] [] pos) (iEnumT X.K ta) := by
  refine ⟨fun pins s σ H R I h => ?_⟩
  refine Call_ (ld_blt I hg hm boot_enumerate (PyProof.Rows.callWith_type1 (thn (ha.run pos pins s σ H _ I h) fun us s1 ⟨vs, H1, I1, r1, q1⟩ => ?_) hs rfl))
  obtain ⟨a, xs, rfl, hq, q⟩ := q1
  cases r1 with
  | cons r rr =>
    cases rr
    cases r
    obtain ⟨its, rv, tp, _⟩ := I1.tuple hq
    have la : a < s1.heap.objs.size := by obtain ⟨o, e1, _⟩ := tp; exact Heap.lt_size e1
    refine call_enum (begins_tuple a its.toArray) tp fun h' he hit hk => wpAny_pyIter_enum he ?_
    have I2 : Inv X pins σ H1 { s1 with heap := h' } := I1.kept (t' := s1.toks) hk
    refine ⟨s1.heap.objs.size + 1, [s1.heap.objs.size + 1, s1.heap.objs.size], _, _, H1, rfl, I2, turn_enumT a (s1.heap.objs.size + 1) s1.heap.objs.size, ⟨⟨.none, he⟩, ⟨_, hit, rfl, rfl⟩, Nat.succ_ne_self _, Nat.ne_of_lt la, Nat.ne_of_lt (Nat.lt_succ_of_lt la)⟩, fun b hb => ?_, q⟩
    have lb : s1.heap.objs.size ≤ b := by
      simp only [List.mem_cons, List.not_mem_nil, or_false] at hb
      rcases hb with rfl | rfl
      · exact Nat.le_succ _
      · exact Nat.le_refl _
    exact I1.fpOk lb (I1.hok.fresh lb)
def enumF (n : Nat) : List D → List D
  | [] => []
  | d :: ds => .tup [.int n, d] :: enumF (n + 1) ds
theorem enumF_len : ∀ (n : Nat) (ds : List D), (enumF n ds).length = ds.length
  | _, [] => rfl
  | n, d :: ds => by simp [enumF, enumF_len (n + 1) ds]
theorem enumF_get : ∀ (n : Nat) (ds : List D) (i : Nat), (enumF n ds)[i]? = (ds[i]?).map fun d => .tup [.int ((n + i : Nat) : Int), d]
  | _, [], i => by simp [enumF]
  | n, d :: ds, 0 => by simp [enumF]
  | n, d :: ds, i + 1 => by simp [enumF, enumF_get (n + 1) ds i]; have : n + 1 + i = n + (i + 1) := by omega
                            simp [show (n : Int) + 1 + i = n + (i + 1) by omega]
section
variable {X : Cx} {E : XK} {tg e a b c : Expr} {es : List Expr} {f : DE} {fs : DEs} {pos p : Pos}
theorem jr_enumT {K : PySem.W.Frag} {ρ0 : List Addr} {l0 : Sto} {H0 : Hp} {q : Addr} {vs : List V} {ds : List D} (o0 : Own K ρ0 l0 H0) (t : SqT K H0 q vs) (r : Rws K ρ0 H0 ds vs) : JR K ρ0 H0 ⟨enumF 0 ds, none⟩ (IteT K q) where
  go := fun i ρ l H hi o s _ => by
    have t1 := s.tk o0 _ _ t
    have hl : i < vs.length := by rw [r.length]; simpa [enumF_len] using hi
    exact ⟨vs, vs[i], t1, List.getElem?_eq_getElem hl⟩
  yld := fun i ρ l H x H' hi o s _ y => by
    obtain ⟨T, x, rfl, hT, rfl, y⟩ := y
    have t1 := s.tk o0 _ _ t
    obtain ⟨d, e1, e2⟩ := (s.rws o0 r).getV (y vs t1)
    obtain ⟨o2, s2⟩ := o.newT (xs := [.int (i : Nat), x]) hT
    refine ⟨.tup [.int (i : Nat), d], by rw [enumF_get, e1]; simp, o2, s2, rw_tup (.inl (.inl upd_same)) (Rws.cons rw_int (Rws.one (s2.rw o e2)))⟩
  stop := fun ρ l H o s _ => ⟨vs, s.tk o0 _ _ t, by rw [r.length]; simp [enumF_len]⟩
def dEnum (fs : DEs) : DI := fun g l => (fs g l).bind fun ds l1 => match ds with
  | [.tup xs] => .ok ⟨enumF 0 xs, none⟩ l1
  | _ => .bad
theorem ai_enum {elts : List Expr} {kk : Nat} {tpos : Pos} (hg : Gl X "enumerate") (hm : X.mg "enumerate" = none) (ha : AA X E [a] fs) (hs : starEach [a] X.env = [(false, eval a X.env)] := by rfl) : AI X E (.Tuple elts kk tpos) (.Call (.Name "enumerate" p) [a] [] pos) (dEnum fs) := ⟨PI.imp (pi_enumT hg hm ha.pa hs) fun σ H R ⟨ρ, l, g, o, s, pp⟩ => by
  refine ⟨ρ, l, g, o, s, ?_⟩
  unfold dEnum at pp
  refine Post.bind pp fun ds l1 ρ1 H1 vs e1 s1 o1 r1 p1 => ?_
  split at p1
  · obtain ⟨v, rfl, w⟩ := r1.one_
    obtain ⟨q, us, rfl, t, r⟩ := w.tup_
    exact ⟨q, us, rfl, t, p1.here o1 (jr_enumT o1 t r)⟩
  · exact p1.elim⟩
/-! ### for x, y in zip(a tuple, a tuple) -/
def zipD : List D → List D → List D
  | d :: ds, e :: es => .tup [d, e] :: zipD ds es
  | _, _ => []
theorem zipD_get : ∀ (ds es : List D) (i : Nat) (d e : D), ds[i]? = some d → es[i]? = some e → (zipD ds es)[i]? = some (.tup [d, e])
  | [], _, i, _, _, h, _ => by simp at h
  | _ :: _, [], i, _, _, _, h => by simp at h
  | d :: ds, e :: es, 0, _, _, h, h' => by simp at h h'; subst h; subst h'; rfl
  | d :: ds, e :: es, i + 1, _, _, h, h' => by simpa [zipD] using zipD_get ds es i _ _ (by simpa using h) (by simpa using h')
theorem zipD_len : ∀ (ds es : List D), (zipD ds es).length = min ds.length es.length
  | [], es => by simp [zipD]
  | _ :: _, [] => by simp [zipD]
  | d :: ds, e :: es => by simp [zipD, zipD_len ds es]
theorem jr_zipT {K : PySem.W.Frag} {ρ0 : List Addr} {l0 : Sto} {H0 : Hp} {q q2 : Addr} {vs us : List V} {ds es : List D} (o0 : Own K ρ0 l0 H0) (t : SqT K H0 q vs) (r : Rws K ρ0 H0 ds vs) (t2 : SqT K H0 q2 us) (r2 : Rws K ρ0 H0 es us) : JR K ρ0 H0 ⟨zipD ds es, none⟩ (ItzT K q q2) where
  go := fun i ρ l H hi o s _ => by
    have hi' : i < min ds.length es.length := by rw [← zipD_len]; exact hi
    have h1 : i < vs.length := by rw [r.length]; omega
    have h2 : i < us.length := by rw [r2.length]; omega
    exact ⟨vs, us, vs[i], us[i], s.tk o0 _ _ t, s.tk o0 _ _ t2, List.getElem?_eq_getElem h1, List.getElem?_eq_getElem h2⟩
  yld := fun i ρ l H x H' hi o s _ y => by
    obtain ⟨T, x, z, rfl, hT, rfl, y1, y2⟩ := y
    obtain ⟨d, e1, e2⟩ := (s.rws o0 r).getV (y1 vs (s.tk o0 _ _ t))
    obtain ⟨d2, e3, e4⟩ := (s.rws o0 r2).getV (y2 us (s.tk o0 _ _ t2))
    obtain ⟨o2, s2⟩ := o.newT (xs := [x, z]) hT
    exact ⟨.tup [d, d2], zipD_get _ _ _ _ _ e1 e3, o2, s2, rw_tup (.inl (.inl upd_same)) (Rws.cons (s2.rw o e2) (Rws.one (s2.rw o e4)))⟩
  stop := fun ρ l H o s _ => ⟨vs, us, s.tk o0 _ _ t, s.tk o0 _ _ t2, by show _ ≤ (zipD ds es).length ∨ _ ≤ (zipD ds es).length; rw [r.length, r2.length, zipD_len]; omega⟩
def dZip (fs : DEs) : DI := fun g l => (fs g l).bind fun ds l1 => match ds with
  | [.tup xs, .tup ys] => .ok ⟨zipD xs ys, none⟩ l1
  | _ => .bad
theorem ai_zip {elts : List Expr} {kk : Nat} {tpos : Pos} (hg : Gl X "zip") (hm : X.mg "zip" = none) (ha : AA X E [a, b] fs) (hs : starEach [a, b] X.env = (false, eval a X.env) :: starEach [b] X.env := by rfl) (hpl : (backTo pos (starEach [b] X.env)).any (·.1) = false := by rfl) : AI X E (.Tuple elts kk tpos) (.Call (.Name "zip" p) [a, b] [] pos) (dZip fs) := ⟨PI.imp (pi_zipA hg hm ha.pa hs hpl) fun σ H R ⟨ρ, l, g, o, s, pp⟩ => by
  refine ⟨ρ, l, g, o, s, ?_⟩
  unfold dZip at pp
  refine Post.bind pp fun ds l1 ρ1 H1 vs e1 s1 o1 r1 p1 => ?_
  split at p1
  · obtain ⟨v, v2, rfl, w, w2⟩ := r1.two_
    obtain ⟨q, us, rfl, t, r⟩ := w.tup_
    obtain ⟨q2, us2, rfl, t2, r2⟩ := w2.tup_
    exact ⟨q, q2, us, us2, rfl, .inr ⟨t, t2, p1.here o1 (jr_zipT o1 t r t2 r2)⟩⟩
  · exact p1.elim⟩
/-! ### range(a, b, -1), range(a, b, c) with c > 0 -/
def dRng3 (fs : DEs) : DI := fun g l => (fs g l).bind fun ds l1 => match ds with
  | [.int i, .int j, .int k] => if in62 i && in62 j && decide (k = -1) then .ok ⟨rngC i (-1) (i - j).toNat, none⟩ l1 else .bad
  | _ => .bad
theorem ai_range3 (hg : Gl X "range") (hm : X.mg "range" = none) (ha : AA X E [a, b, c] fs) (hs : starEach [a, b, c] X.env = (false, eval a X.env) :: starEach [b, c] X.env := by rfl) (hpl : (backTo pos (starEach [b, c] X.env)).any (·.1) = false := by rfl) : AI X E tg (.Call (.Name "range" p) [a, b, c] [] pos) (dRng3 fs) := ⟨PI.imp (pi_range3 hg hm ha.pa hs hpl) fun σ H R ⟨ρ, l, g, o, s, pp⟩ => by
  refine ⟨ρ, l, g, o, s, ?_⟩
  unfold dRng3 at pp
  refine Post.bind pp fun ds l1 ρ1 H1 vs e1 s1 o1 r1 p1 => ?_
  split at p1
  · obtain ⟨hc, p2⟩ := Post.ite p1
    simp only [Bool.and_eq_true, decide_eq_true_eq] at hc
    obtain ⟨⟨h1, h2⟩, rfl⟩ := hc
    simp only [Rws] at r1
    obtain ⟨v1, _, rfl, w1, v2, _, rfl, w2, v3, _, rfl, w3, rfl⟩ := r1
    rw [w1.int_, w2.int_, w3.int_]
    exact ⟨_, _, _, _, rfl, RgC.neg (in62_ h1).1 (in62_ h1).2 (in62_ h2).1 (in62_ h2).2, p2.here o1 jr_rngC⟩
  · exact p1.elim⟩
end
end Zb

set_option Elab.async false
set_option linter.all false
set_option maxRecDepth 100000
set_option maxHeartbeats 2000000
namespace Zb
open PySem L2 PySem.Spec PyProof.Rows
/-! ### sum of a tuple, of a list -/
def rSumT (K : PySem.W.Frag) : List V → Hp → VK → Prop := fun vs H Q => ∃ (a : Addr) (ns : List Int), vs = [V.ref a] ∧ SqT K H a (ns.map V.int) ∧ Q (.int ns.sum) H
theorem sum_rawT {prog : Program} {w : World} {A : Around} {E : Value → Shared → Prop} {s : Shared} {l : Addr} {its : List Value} {ns : List Int} {Q : Value → Shared → Prop} (hh : A.handled = none) (hl : s.heap.IsTuple l its.toArray) (hi : IntsAre its ns)
    (h : ∀ h' tk t', (∀ b o, s.heap.get? b = some o → h'.get? b = some o) → Q (.int ns.sum t') { s with heap := h', toks := tk }) : wpAny (model prog w) A (call (.builtin "sum") [.ref l]) Q E s := by
  obtain ⟨xs, e⟩ := hi.allInts.items
  have hn : numsOf (intItems xs).toList = ns := by rw [← e]; exact hi.numsOf
  rw [nums_intItems] at hn
  rw [e] at hl
  refine PySem.W.ktm_sumG hh hl fun h' tk t' hk => ?_
  have := h h' tk t' hk
  rw [preSum_eq, List.take_of_length_le (by simp), hn]
  exact this
theorem cr_sumA {X : Cx} (hc : X.calm = true) : CallR X (.builtin "sum") (fun vs H Q => rSum X.K vs H Q ∨ rSumT X.K vs H Q) := by
  intro pins s σ H vs us Q I r h
  rcases h with h | h
  · exact cr_sum hc pins s σ H vs us Q I r h
  · obtain ⟨a, ns, rfl, hs, q⟩ := h
    obtain ⟨its, rv, tp, _⟩ := I.tuple hs
    rw [Vals.ref1 r]
    exact sum_rawT (I.ok.hd hc) (show s.heap.IsTuple a its.toArray from tp) rv.ints fun h' tk t' hk => ⟨.int _, H, I.kept hk, ⟨_, rfl⟩, q⟩
def hSum : List D → Sto → Res D
  | [.tup ds], l => match intsOf ds with
    | some ns => .ok (.int ns.sum) l
    | none => .bad
  | ds, l => hSumL ds l
section
variable {X : Cx} {E : XK} {tg e a b c o : Expr} {es : List Expr} {f fo : DE} {fs : DEs} {pos p apos : Pos} {x : Str} {k n : Nat} {ps : List Str}
theorem ae_sum {p : Pos} (hc : X.calm = true) (hg : Gl X "sum") (hm : X.mg "sum" = none) (ha : AA X E (e :: es) fs) (he : starEach (e :: es) X.env = (false, eval e X.env) :: starEach es X.env := by rfl) (hpl : (backTo pos (starEach es X.env)).any (·.1) = false := by rfl) : AE X E (.Call (.Name "sum" p) (e :: es) [] pos) (dCB hSum fs) := ae_cb (pe_callB (cr_sumA hc) hg hm (by decide +kernel) ha.pa (he := he) (hpl := hpl)) fun ρ l H ds vs Q o r p => by
  unfold hSum at p
  split at p
  · obtain ⟨v, rfl, w1⟩ := r.one_
    obtain ⟨q, us, rfl, t, w2⟩ := w1.tup_
    split at p
    · rename_i ns e2
      have e3 := ints_rws e2 w2
      subst e3
      exact .inr ⟨q, ns, rfl, t, p.here o rw_int⟩
    · exact p.elim
  · left
    unfold hSumL at p
    split at p
    · obtain ⟨v, rfl, w1⟩ := r.one_
      split at p
      · rename_i es e1
        obtain ⟨a, us, rfl, _, h1, q⟩ := o.lst w1 e1
        split at p
        · rename_i ns e2
          have e3 := ints_rws e2 q
          subst e3
          exact ⟨a, ns, rfl, SqL.of h1, p.here o rw_int⟩
        · exact p.elim
      · exact p.elim
    · exact p.elim
/-! ### x.bit_length() -/
def hBits : D → Sto → Res D
  | .int i, l => .ok (.int (Builtin.Int.intBits i : Nat)) l
  | _, _ => .bad
theorem ae_bits {apos pos : Pos} (ho : AE X E o fo) (hbase : attributeBase o "bit_length" X.env (eval o X.env) = eval o X.env := by rfl) (hline : (apos.endLine == pos.line) = true := by rfl) : AE X E (.Call (.Attribute o "bit_length" apos) [] [] pos) (dUn hBits fo) :=
  ⟨PE.imp (pe_bits ho.pe hbase hline) fun σ H Q ⟨ρ, l, g, ow, s, pp⟩ => by
    refine ⟨ρ, l, g, ow, s, Post.bind pp fun d l1 ρ1 H1 v e1 s1 o1 r1 p1 => ?_⟩
    unfold hBits at p1
    split at p1
    · exact ⟨_, r1.int_, p1.here o1 rw_int⟩
    · exact p1.elim⟩
/-! ### calls by keywords that raise nothing -/
def dCallK (n : Nat) (gD : List D → List D) (m : List D → Sto → Res D) (fs : DEs) : DE := fun g l => (fs g l).bind fun ds l1 => if (gD ds).length == n then (m (gD ds) l1).nox else .bad
theorem ae_callK {CX : CXT} {ks : List Str} {gD : List D → List D} {kws : List Keyword} {m : List D → Sto → Res D} (h : HasK CX X.prog X.w X.K X.mg X.base x k ps ks gD (spD X.K n m)) (hr : Room k X.A) (hg : Gl X x) (ha : AK X E kws fs)
    (hall : (backToKw pos (keywordEach kws X.env)).all (·.1.isSome) = true := by rfl) (hks : (backToKw pos (keywordEach kws X.env)).filterMap (·.1) = ks := by rfl) (hx : Passes CX X E0 := by first | exact pass0 | exact passL)
    (hdb : (x == ("__debug__" : Str)) = false := by decide)
    (hpl : ((backTo pos (starEach [] X.env)).any (·.1) || (backToKw pos (keywordEach kws X.env)).any (·.1.isNone)) = false := by rfl) :
    AE X E (.Call (.Name x p) [] kws pos) (dCallK n gD m fs) := by
  obtain ⟨f, fd, g, gV, a, b, c, d, F⟩ := h.ex
  refine ⟨PE.imp (pe_callK0 F hr hg a b c hx ha.pk hall hks hdb hpl) fun σ H Q h => ?_⟩
  obtain ⟨ρ, l, gg, o, s, q⟩ := h
  refine ⟨ρ, l, gg, o, s, Post.bind q fun ds l1 ρ1 H1 vs e1 s1 o1 r1 q1 => ?_⟩
  obtain ⟨hc, q1⟩ := Post.ite q1
  refine ⟨ρ1, l1, gD ds, o1, d _ _ _ _ r1, by simpa using hc, ?_⟩
  cases z : m (gD ds) l1 with
  | bad => rw [z] at q1; exact q1
  | ok a l2 => rw [z] at q1; exact q1
  | exc C gs l2 => rw [z] at q1; exact q1.elim
end
/-! ### rules -/
def dEnum_k1 (fs : DEs) (g : Sl)  : List D → Sto → Res ItD := fun ds l => (match ds with
  | [.tup xs] => .ok ⟨enumF 0 xs, none⟩ l
  | _ => .bad)
@[simp] theorem dEnum_k1_e (fs : DEs) (g : Sl)  (ds : List D) (l : Sto) : dEnum_k1 fs g  ds l = ((match ds with
  | [.tup xs] => .ok ⟨enumF 0 xs, none⟩ l
  | _ => .bad)) := rfl
@[simp] theorem dEnum_e (fs : DEs) (g : Sl) (l : Sto) : dEnum fs g l = (fs g l).bind (dEnum_k1 fs g) := rfl
def dZip_k1 (fs : DEs) (g : Sl)  : List D → Sto → Res ItD := fun ds l => (match ds with
  | [.tup xs, .tup ys] => .ok ⟨zipD xs ys, none⟩ l
  | _ => .bad)
@[simp] theorem dZip_k1_e (fs : DEs) (g : Sl)  (ds : List D) (l : Sto) : dZip_k1 fs g  ds l = ((match ds with
  | [.tup xs, .tup ys] => .ok ⟨zipD xs ys, none⟩ l
  | _ => .bad)) := rfl
@[simp] theorem dZip_e (fs : DEs) (g : Sl) (l : Sto) : dZip fs g l = (fs g l).bind (dZip_k1 fs g) := rfl
def dRng3_k1 (fs : DEs) (g : Sl)  : List D → Sto → Res ItD := fun ds l => (match ds with
  | [.int i, .int j, .int k] => if in62 i && in62 j && decide (k = -1) then .ok ⟨rngC i (-1) (i - j).toNat, none⟩ l else .bad
  | _ => .bad)
@[simp] theorem dRng3_k1_e (fs : DEs) (g : Sl)  (ds : List D) (l : Sto) : dRng3_k1 fs g  ds l = ((match ds with
  | [.int i, .int j, .int k] => if in62 i && in62 j && decide (k = -1) then .ok ⟨rngC i (-1) (i - j).toNat, none⟩ l else .bad
  | _ => .bad)) := rfl
@[simp] theorem dRng3_e (fs : DEs) (g : Sl) (l : Sto) : dRng3 fs g l = (fs g l).bind (dRng3_k1 fs g) := rfl
def dCallK_k1 (n : Nat) (gD : List D → List D) (m : List D → Sto → Res D) (fs : DEs) (g : Sl)  : List D → Sto → Res D := fun ds l => if (gD ds).length == n then (m (gD ds) l).nox else .bad
@[simp] theorem dCallK_k1_e (n : Nat) (gD : List D → List D) (m : List D → Sto → Res D) (fs : DEs) (g : Sl)  (ds : List D) (l : Sto) : dCallK_k1 n gD m fs g  ds l = (if (gD ds).length == n then (m (gD ds) l).nox else .bad) := rfl
@[simp] theorem dCallK_e (n : Nat) (gD : List D → List D) (m : List D → Sto → Res D) (fs : DEs) (g : Sl) (l : Sto) : dCallK n gD m fs g l = (fs g l).bind (dCallK_k1 n gD m fs g) := rfl
@[simp] theorem hSum_tup (ds : List D) (l : Sto) : hSum [.tup ds] l = (match intsOf ds with
    | some ns => .ok (.int ns.sum) l
    | none => .bad) := rfl
@[simp] theorem hSum_adr (n : Nat) (l : Sto) : hSum [.adr n] l = hSumL [.adr n] l := rfl
@[simp] theorem hBits_int (i : Int) (l : Sto) : hBits (.int i) l = .ok (.int (Builtin.Int.intBits i : Nat)) l := rfl
/-! ### calls framed: the usual shapes -/
mutual
theorem ads_pure : ∀ d : D, pu d = true → adsD d = []
  | .adr n, h => by simp [pu] at h
  | .tup ds, h => by simp only [adsD]; exact adss_pure ds (by simpa [pu] using h)
  | .non, _ => rfl
  | .bl _, _ => rfl
  | .int _, _ => rfl
  | .str _, _ => rfl
  | .ty _, _ => rfl
  | .ro _, _ => rfl
theorem adss_pure : ∀ ds : List D, pus ds = true → adsDs ds = []
  | [], _ => rfl
  | d :: ds, h => by
    simp only [pus, Bool.and_eq_true] at h
    simp only [adsDs, ads_pure d h.1, adss_pure ds h.2, List.append_nil]
end
mutual
theorem ren_pure (f : Nat → Nat) : ∀ d : D, pu d = true → renD f d = d
  | .adr n, h => by simp [pu] at h
  | .tup ds, h => by simp only [renD]; rw [rens_pure f ds (by simpa [pu] using h)]
  | .non, _ => rfl
  | .bl _, _ => rfl
  | .int _, _ => rfl
  | .str _, _ => rfl
  | .ty _, _ => rfl
  | .ro _, _ => rfl
theorem rens_pure (f : Nat → Nat) : ∀ ds : List D, pus ds = true → renDs f ds = ds
  | [], _ => rfl
  | d :: ds, h => by
    simp only [pus, Bool.and_eq_true] at h
    simp only [renDs, ren_pure f d h.1, rens_pure f ds h.2]
end
theorem reach_nil (l : Sto) : reach l [] = [] := rfl
theorem callM_at {run : List D → Sto → Res D} {ds : List D} {l : Sto} {is : List Nat} (h : reach l (adsDs ds) = is) : callM run ds l = callAt run ds l is := by unfold callM; rw [h]
theorem fresh_nil {k : Nat} {L : Sto} {d : List Nat} (h1 : ∀ o ∈ L.take k, ∀ j ∈ adsO o, j < k) (h2 : ∀ j ∈ d, j < k) : freshF k L d = [] := by
  have e : (d ++ (L.take k).flatMap adsO).filter (k ≤ ·) = [] := by
    refine List.filter_eq_nil_iff.mpr fun j hj => ?_
    have : j < k := by
      rcases List.mem_append.mp hj with h | h
      · exact h2 j h
      · obtain ⟨o, ho, h⟩ := List.mem_flatMap.mp h
        exact h1 o ho j h
    simp; omega
  unfold freshF
  rw [e]
  rfl
/-- nothing new is reached -/
theorem finOk_nil {l L : Sto} {is : List Nat} {d : D} (hL : is.length ≤ L.length) (h1 : ∀ o ∈ L.take is.length, ∀ j ∈ adsO o, j < is.length) (h2 : ∀ j ∈ adsD d, j < is.length) :
    finAt l is (.ok d L) = .ok (renD (backF l.length is []) d) (setAll l is ((L.take is.length).map (renO (backF l.length is [])))) := by
  show finOk l is (freshF is.length L (adsD d)) d L = _
  rw [fresh_nil h1 h2]
  unfold finOk
  rw [if_pos]
  · simp [backS]
  · simp only [Bool.and_eq_true, decide_eq_true_eq, okS, okD, List.all_eq_true, Bool.or_eq_true]
    refine ⟨hL, ⟨⟨⟨by simp, by simp⟩, fun j hj => .inl (h2 j hj)⟩, fun o ho j hj => .inl (h1 o ho j hj)⟩, by simp⟩
theorem finEx_nil {l L : Sto} {is : List Nat} {C : Addr} {fs : List (Str × D)} (hL : is.length ≤ L.length) (h1 : ∀ o ∈ L.take is.length, ∀ j ∈ adsO o, j < is.length) (h2 : ∀ j ∈ adsDs (fs.map (·.2)), j < is.length) :
    finAt l is (.exc C fs L) = .exc C (fs.map fun p => (p.1, renD (backF l.length is []) p.2)) (setAll l is ((L.take is.length).map (renO (backF l.length is [])))) := by
  show finEx l is (freshF is.length L (adsDs (fs.map (·.2)))) C fs L = _
  rw [fresh_nil h1 h2]
  unfold finEx
  rw [if_pos]
  · simp [backS]
  · simp only [Bool.and_eq_true, decide_eq_true_eq, okS, okD, List.all_eq_true, Bool.or_eq_true]
    refine ⟨hL, ⟨⟨⟨by simp, by simp⟩, fun j hj => .inl (h2 j hj)⟩, fun o ho j hj => .inl (h1 o ho j hj)⟩, by simp⟩
theorem okIs_nil (l : Sto) : okIs l [] = true := rfl
theorem map_ren_pure (f : Nat → Nat) : ∀ fs : List (Str × D), pus (fs.map (·.2)) = true → fs.map (fun p => (p.1, renD f p.2)) = fs
  | [], _ => rfl
  | p :: fs, h => by
    simp only [List.map_cons, pus, Bool.and_eq_true] at h
    simp only [List.map_cons, ren_pure _ p.2 h.1, map_ren_pure f fs h.2]
section
variable {run : List D → Sto → Res D} {ds xs gs gs' : List D} {l junk : Sto} {d : D} {C : Addr} {fs : List (Str × D)}
theorem callM_run (h1 : pus ds = true) : callM run ds l = finAt l [] (run ds []) := by
  rw [callM_at (is := []) (by rw [adss_pure ds h1]; rfl)]
  unfold callAt
  rw [if_pos (okIs_nil l), rens_pure _ ds h1]
  rfl
/-- pure arguments, a pure result -/
theorem callM_p (h1 : pus ds = true) (h : run ds [] = .ok d junk) (hd : pu d = true) : callM run ds l = .ok d l := by
  rw [callM_run h1, h, finOk_nil (by simp) (by simp) (by rw [ads_pure d hd]; simp), ren_pure _ d hd]
  rfl
theorem callM_x (h1 : pus ds = true) (h : run ds [] = .exc C fs junk) (hd : pus (fs.map (·.2)) = true) : callM run ds l = .exc C fs l := by
  rw [callM_run h1, h, finEx_nil (by simp) (by simp) (by rw [adss_pure _ hd]; simp), map_ren_pure _ fs hd]
  rfl
theorem fresh_one {j : Nat} (hj : junk[j]? = some (.lst xs)) (hx : pus xs = true) : freshF 0 junk [j] = [j] := by
  have z : levF 0 junk [j] = [] := by simp [levF, levS, hj, adsO, adss_pure xs hx]
  unfold freshF reachF
  have e : List.filter (fun x => decide (0 ≤ x)) ([j] ++ List.flatMap adsO (List.take 0 junk)) = [j] := by simp
  rw [e]
  simp only [z, show levF 0 junk [] = [] from rfl, List.append_nil]
/-- pure arguments, a new list of pure things -/
theorem callM_l {j : Nat} (h1 : pus ds = true) (h : run ds [] = .ok (.adr j) junk) (hj : junk[j]? = some (.lst xs)) (hx : pus xs = true) : callM run ds l = .ok (.adr l.length) (l ++ [.lst xs]) := by
  have hl : j < junk.length := (List.getElem?_eq_some_iff.mp hj).1
  have hg : junk[j] = .lst xs := (List.getElem?_eq_some_iff.mp hj).2
  rw [callM_run h1, h]
  show finOk l [] (freshF 0 junk [j]) (.adr j) junk = _
  rw [fresh_one hj hx]
  unfold finOk
  rw [if_pos]
  · simp [backS, setAll, renD, backF, renO, rens_pure _ xs hx, hj]
  · simp [okS, okD, adsD, hl, hg, adsO, adss_pure xs hx]
end
end Zb

set_option Elab.async false
set_option linter.all false
set_option maxRecDepth 100000
set_option maxHeartbeats 2000000
namespace Zb
open PySem L2 PySem.Spec PyProof.Rows
/-! ### calls whose arguments reach just the store's first objects -/
mutual
theorem ren_id {f : Nat → Nat} : ∀ d : D, (∀ j ∈ adsD d, f j = j) → renD f d = d
  | .adr n, h => by simp only [renD]; rw [h n (by simp [adsD])]
  | .tup ds, h => by simp only [renD]; rw [rens_id ds (by simpa [adsD] using h)]
  | .non, _ => rfl
  | .bl _, _ => rfl
  | .int _, _ => rfl
  | .str _, _ => rfl
  | .ty _, _ => rfl
  | .ro _, _ => rfl
theorem rens_id {f : Nat → Nat} : ∀ ds : List D, (∀ j ∈ adsDs ds, f j = j) → renDs f ds = ds
  | [], _ => rfl
  | d :: ds, h => by
    simp only [adsDs, List.mem_append] at h
    simp only [renDs]
    rw [ren_id d fun j hj => h j (.inl hj), rens_id ds fun j hj => h j (.inr hj)]
end
theorem mapr_id {α : Type} {f : Nat → Nat} : ∀ kvs : List (α × D), (∀ j ∈ adsDs (kvs.map (·.2)), f j = j) → kvs.map (fun p => (p.1, renD f p.2)) = kvs
  | [], _ => rfl
  | p :: kvs, h => by
    simp only [List.map_cons, adsDs, List.mem_append] at h
    simp only [List.map_cons]
    rw [ren_id p.2 fun j hj => h j (.inl hj), mapr_id kvs fun j hj => h j (.inr hj)]
theorem reno_id {f : Nat → Nat} (o : OB) (h : ∀ j ∈ adsO o, f j = j) : renO f o = o := by
  cases o with
  | lst ds => simp only [renO]; rw [rens_id ds h]
  | dct kvs => simp only [renO]; rw [mapr_id kvs h]
theorem setAll_range : ∀ (S' S r : Sto) (p : Nat) (pre : Sto), S'.length = S.length → pre.length = p → setAll (pre ++ S ++ r) (List.range' p S.length) S' = pre ++ S' ++ r
  | [], [], r, p, pre, _, _ => by simp [setAll]
  | o :: S', s :: S, r, p, pre, h, hp => by
    simp only [List.length_cons, List.range'_succ, setAll]
    have e : (pre ++ s :: S ++ r).set p o = (pre ++ [o]) ++ S ++ r := by
      rw [List.append_assoc, List.set_append_right _ _ (by omega), hp, Nat.sub_self]
      simp
    rw [e, setAll_range S' S r (p + 1) (pre ++ [o]) (by simpa using h) (by simp [hp])]
    simp
  | [], s :: S, r, p, pre, h, _ => by simp at h
  | o :: S', [], r, p, pre, h, _ => by simp at h
section
variable {run : List D → Sto → Res D} {ds xs : List D} {S S' r junk : Sto} {d : D} {k : Nat}
theorem call_pre (hS : S.length = k) (hr : reach (S ++ r) (adsDs ds) = List.range k) (hc : ∀ o ∈ S, ∀ j ∈ adsO o, j < k) : callM run ds (S ++ r) = finAt (S ++ r) (List.range k) (run ds S) := by
  have idx : ∀ j, j < k → (List.range k).idxOf j = j := fun j hj => by
    have h1 : j ∈ List.range k := List.mem_range.mpr hj
    have h2 := List.idxOf_lt_length_of_mem h1
    have h3 : (List.range k)[(List.range k).idxOf j] = j := List.getElem_idxOf h2
    rw [List.getElem_range] at h3
    exact h3
  rw [callM_at hr]
  unfold callAt
  have ok : okIs (S ++ r) (List.range k) = true := by
    simp only [okIs, Bool.and_eq_true, decide_eq_true_eq, List.all_eq_true, okD, Bool.or_eq_true]
    refine ⟨⟨List.nodup_range, fun n hn => ?_⟩, fun n hn j hj => .inr ?_⟩
    · have := List.mem_range.mp hn; simp; omega
    · have hn' := List.mem_range.mp hn
      have hl : n < S.length := by omega
      rw [List.getD_eq_getElem?_getD, List.getElem?_append_left hl, List.getElem?_eq_getElem hl] at hj
      simpa using hc _ (List.getElem_mem hl) j hj
  rw [if_pos ok]
  have hds : ∀ j ∈ adsDs ds, j < k := fun j hj => by
    have : j ∈ reach (S ++ r) (adsDs ds) := List.mem_append_left _ hj
    rw [hr] at this
    exact List.mem_range.mp this
  rw [rens_id ds fun j hj => idx j (hds j hj)]
  have sm : smallS (S ++ r) (List.range k) = S := by
    unfold smallS
    apply List.ext_getElem?
    intro i
    rw [List.getElem?_map]
    by_cases hi : i < k
    · have hl : i < S.length := by omega
      rw [List.getElem?_range hi, List.getElem?_eq_getElem hl]
      simp only [Option.map_some, List.getD_eq_getElem?_getD, List.getElem?_append_left hl, List.getElem?_eq_getElem hl, Option.getD_some]
      rw [reno_id _ fun j hj => idx j (hc _ (List.getElem_mem hl) j hj)]
    · rw [List.getElem?_eq_none (by simp; omega), List.getElem?_eq_none (by omega)]
      rfl
  rw [sm]
theorem back_range (n : Nat) {j : Nat} (hj : j < k) (F : List Nat) : backF n (List.range k) F j = j := by
  unfold backF
  rw [if_pos (by simpa using hj)]
  simp [List.getD_eq_getElem?_getD, hj]
/-- nothing new is handed back -/
theorem callM_pre (hS : S.length = k) (hr : reach (S ++ r) (adsDs ds) = List.range k) (hc : ∀ o ∈ S, ∀ j ∈ adsO o, j < k)
    (h : run ds S = .ok d (S' ++ junk)) (hS' : S'.length = k) (hc' : ∀ o ∈ S', ∀ j ∈ adsO o, j < k) (hd : ∀ j ∈ adsD d, j < k) : callM run ds (S ++ r) = .ok d (S' ++ r) := by
  have tk : List.take k (S' ++ junk) = S' := by rw [← hS', List.take_left]
  rw [call_pre hS hr hc, h, finOk_nil (by simp; omega) (by rw [List.length_range, tk]; exact hc') (by rw [List.length_range]; exact hd)]
  rw [ren_id d fun j hj => back_range _ (hd j hj) _, List.length_range, tk]
  have e : S'.map (renO (backF (S ++ r).length (List.range k) [])) = S' := by
    conv => rhs; rw [← List.map_id S']
    exact List.map_congr_left fun o ho => reno_id o fun j hj => back_range _ (hc' o ho j hj) _
  rw [e, List.range_eq_range']
  have := setAll_range S' S r 0 [] (by omega) rfl
  rw [hS] at this
  simpa using this
/-- a new list of pure things is handed back -/
theorem callM_pre_l {j : Nat} (hS : S.length = k) (hr : reach (S ++ r) (adsDs ds) = List.range k) (hc : ∀ o ∈ S, ∀ j ∈ adsO o, j < k)
    (h : run ds S = .ok (.adr j) (S' ++ junk)) (hS' : S'.length = k) (hc' : ∀ o ∈ S', ∀ j ∈ adsO o, j < k) (hj : k ≤ j) (hx : (S' ++ junk)[j]? = some (.lst xs)) (hp : pus xs = true) :
    callM run ds (S ++ r) = .ok (.adr (S' ++ r).length) (S' ++ r ++ [.lst xs]) := by
  have tk : List.take k (S' ++ junk) = S' := by rw [← hS', List.take_left]
  rw [call_pre hS hr hc, h]
  show finOk (S ++ r) (List.range k) (freshF (List.range k).length (S' ++ junk) [j]) (.adr j) (S' ++ junk) = _
  have fr : freshF (List.range k).length (S' ++ junk) [j] = [j] := by
    rw [List.length_range]
    have e : ([j] ++ (List.take k (S' ++ junk)).flatMap adsO).filter (k ≤ ·) = [j] := by
      rw [tk]
      have : (S'.flatMap adsO).filter (fun x => decide (k ≤ x)) = [] := by
        refine List.filter_eq_nil_iff.mpr fun i hi => ?_
        obtain ⟨o, ho, hi⟩ := List.mem_flatMap.mp hi
        have := hc' o ho i hi
        simp; omega
      rw [List.filter_append, this]
      simp [hj]
    unfold freshF
    rw [e]
    have z : levF k (S' ++ junk) [j] = [] := by simp [levF, levS, hx, adsO, adss_pure xs hp]
    unfold reachF
    simp only [z, show levF k (S' ++ junk) [] = [] from rfl, List.append_nil]
  rw [fr]
  have hlt : j < (S' ++ junk).length := (List.getElem?_eq_some_iff.mp hx).1
  unfold finOk
  rw [if_pos]
  · have e : S'.map (renO (backF (S ++ r).length (List.range k) [j])) = S' := by
      conv => rhs; rw [← List.map_id S']
      exact List.map_congr_left fun o ho => reno_id o fun i hi => back_range _ (hc' o ho i hi) _
    have st := setAll_range S' S r 0 [] (by omega) rfl
    rw [hS] at st
    have e2 : renD (backF (S ++ r).length (List.range k) [j]) (.adr j) = .adr (S' ++ r).length := by
      simp only [renD, backF, List.length_range]
      rw [if_neg (by omega)]
      simp; omega
    rw [e2]
    simp only [backS, List.length_range, tk, e, List.map_cons, List.map_nil, List.getD_eq_getElem?_getD, hx, Option.getD_some, renO, rens_pure _ xs hp]
    rw [List.range_eq_range']
    congr 1
    rw [show S ++ r = [] ++ S ++ r by simp, st]
    simp
  · have hx' : (S' ++ junk)[j] = .lst xs := (List.getElem?_eq_some_iff.mp hx).2
    simp only [List.length_range, okS, Bool.and_eq_true, decide_eq_true_eq, okD, List.all_eq_true, Bool.or_eq_true, tk]
    refine ⟨by simp; omega, ⟨⟨⟨by simp, by simpa using hlt⟩, by simp [adsD]⟩, fun o ho i hi => .inl (hc' o ho i hi)⟩, ?_⟩
    intro i hi
    simp at hi
    subst hi
    rw [List.getD_eq_getElem?_getD, hx]
    simp [adsO, adss_pure xs hp]
end
/-! ### one list among the arguments -/
section
variable {run : List D → Sto → Res D} {ds xs ys : List D} {l junk : Sto} {d : D} {n : Nat}
theorem call_one (ha : adsDs ds = [n]) (hl : l[n]? = some (.lst xs)) (hx : pus xs = true) : callM run ds l = finAt l [n] (run (renDs (fun _ => 0) ds) [.lst xs]) := by
  have rc : reach l (adsDs ds) = [n] := by
    rw [ha]
    have z : levS l [n] = [] := by simp [levS, hl, adsO, adss_pure xs hx]
    unfold reach
    simp only [z, show levS l [] = [] from rfl, List.append_nil]
  have hn : n < l.length := (List.getElem?_eq_some_iff.mp hl).1
  have hg : l.getD n (.lst []) = .lst xs := by simp [List.getD_eq_getElem?_getD, hl]
  rw [callM_at rc]
  unfold callAt
  rw [if_pos (by simp only [okIs, List.all_cons, List.all_nil, hg, adsO, adss_pure xs hx, okD]; simp [hn])]
  have e1 : renDs [n].idxOf ds = renDs (fun _ => 0) ds := by
    have key : ∀ (f g : Nat → Nat), (∀ (d : D), (∀ j ∈ adsD d, f j = g j) → renD f d = renD g d) ∧ (∀ (ds : List D), (∀ j ∈ adsDs ds, f j = g j) → renDs f ds = renDs g ds) := by
      intro f g
      have h1 : ∀ (d : D), (∀ j ∈ adsD d, f j = g j) → renD f d = renD g d := by
        intro d
        refine D.rec (motive_1 := fun d => (∀ j ∈ adsD d, f j = g j) → renD f d = renD g d) (motive_2 := fun ds => (∀ j ∈ adsDs ds, f j = g j) → renDs f ds = renDs g ds) ?_ ?_ ?_ ?_ ?_ ?_ ?_ ?_ ?_ ?_ d
        · intro _; rfl
        · intro _ _; rfl
        · intro _ _; rfl
        · intro _ _; rfl
        · intro _ _; rfl
        · intro n h; simp only [renD]; rw [h n (by simp [adsD])]
        · intro ds ih h; simp only [renD]; rw [ih (by simpa [adsD] using h)]
        · intro _ _; rfl
        · intro _; rfl
        · intro d ds ih1 ih2 h
          simp only [adsDs, List.mem_append] at h
          simp only [renDs]
          rw [ih1 fun j hj => h j (.inl hj), ih2 fun j hj => h j (.inr hj)]
      refine ⟨h1, fun ds => ?_⟩
      induction ds with
      | nil => intro _; rfl
      | cons d ds ih =>
        intro h
        simp only [adsDs, List.mem_append] at h
        simp only [renDs]
        rw [h1 d fun j hj => h j (.inl hj), ih fun j hj => h j (.inr hj)]
    refine (key _ _).2 ds fun j hj => ?_
    rw [ha] at hj
    simp at hj
    subst hj
    simp
  have e2 : smallS l [n] = [.lst xs] := by simp only [smallS, List.map_cons, List.map_nil, hg, renO, rens_pure _ xs hx]
  rw [e1, e2]
theorem callM_one (ha : adsDs ds = [n]) (hl : l[n]? = some (.lst xs)) (hx : pus xs = true) (h : run (renDs (fun _ => 0) ds) [.lst xs] = .ok d (.lst ys :: junk)) (hy : pus ys = true) (hd : pu d = true) : callM run ds l = .ok d (l.set n (.lst ys)) := by
  rw [call_one ha hl hx, h, finOk_nil (by simp) (by simp [adsO, adss_pure ys hy]) (by simp [ads_pure d hd])]
  rw [ren_pure _ d hd]
  simp [setAll, renO, rens_pure _ ys hy]
theorem set_self {α : Type} : ∀ (l : List α) (n : Nat) (x : α), l[n]? = some x → l.set n x = l
  | [], n, x, h => by simp at h
  | a :: l, 0, x, h => by simp at h; simp [h]
  | a :: l, n + 1, x, h => by simp only [List.set_cons_succ]; rw [set_self l n x (by simpa using h)]
theorem callM_read (ha : adsDs ds = [n]) (hl : l[n]? = some (.lst xs)) (hx : pus xs = true) (h : run (renDs (fun _ => 0) ds) [.lst xs] = .ok d (.lst xs :: junk)) (hd : pu d = true) : callM run ds l = .ok d l := by
  rw [callM_one ha hl hx h hx hd, set_self l n _ hl]
theorem callM_readx {C : Addr} {fs : List (Str × D)} (ha : adsDs ds = [n]) (hl : l[n]? = some (.lst xs)) (hx : pus xs = true) (h : run (renDs (fun _ => 0) ds) [.lst xs] = .exc C fs (.lst xs :: junk)) (hd : pus (fs.map (·.2)) = true) : callM run ds l = .exc C fs l := by
  rw [call_one ha hl hx, h, finEx_nil (by simp) (by simp [adsO, adss_pure xs hx]) (by simp [adss_pure _ hd])]
  rw [map_ren_pure _ fs hd]
  simp [setAll, renO, rens_pure _ xs hx, set_self l n _ hl]
end
section
variable {X : Cx} {E : XK} {a b c : Expr} {pos : Pos}
theorem as_par3 {i j k : Nat} {x y z : Str} {px py pz pt : Pos} {kt k2 pt2} {fs : DEs} (hc : X.calm = true) (hN : X.N.Nodup) (hi : X.N[i]? = some x) (hj : X.N[j]? = some y) (hk : X.N[k]? = some z) (hij : i ≠ j) (hik : i ≠ k) (hjk : j ≠ k)
    (hx : X.env.scope.names.lookup x = some .local) (hy : X.env.scope.names.lookup y = some .local) (hz : X.env.scope.names.lookup z = some .local) (ha : AA X E [a, b, c] fs)
    (hw : swappedStores [.Tuple [.Name x px, .Name y py, .Name z pz] kt pt] (.Tuple [a, b, c] k2 pt2) X.env = pure (some [x, y, z]))
    (hs : swapsWithSole [.Tuple [.Name x px, .Name y py, .Name z pz] kt pt] (.Tuple [a, b, c] k2 pt2) pos.line X.env = pure false := by rfl) :
    AS X E (.Assign [.Tuple [.Name x px, .Name y py, .Name z pz] kt pt] (.Tuple [a, b, c] k2 pt2) pos) (sPar3 i j k fs) := ⟨PS.imp (ps_par3 hc hN hi hj hk hij hik hjk hx hy hz ha.pa hw hs) fun D σ H h => par3_of h⟩
end
/-! ### a power of a greater number -/
def powW (i j : Int) : Bool := decide (0 ≤ j) && decide (j ≤ 1000) && decide (i.natAbs.log2 < 9000)
section
variable {X : Cx} {E : XK} {a b : Expr} {fa fb : DE} {pos : Pos}
theorem bits_W {i j : Int} (h0 : 0 ≤ j) (h1 : j ≤ 1000) (h2 : i.natAbs.log2 < 9000) : ((Builtin.Int.intBits i : Nat) : Int) * j ≤ (bitsLine : Int) := by
  have e : Builtin.Int.intBits i ≤ 9000 := by
    unfold Builtin.Int.intBits
    split <;> omega
  have e2 : ((Builtin.Int.intBits i : Nat) : Int) ≤ 9000 := by omega
  have : ((Builtin.Int.intBits i : Nat) : Int) * j ≤ 9000 * 1000 := Int.mul_le_mul e2 h1 h0 (by decide)
  have hb : (bitsLine : Int) = 134217728 := by decide
  omega
theorem op_powW : OpR X (binaryOp .Pow) (rI (fun i j => powW i j = true) fun i j => .int (i ^ j.toNat)) := opI fun i j _ _ _ _ _ hc q => by
  unfold powW at hc
  simp only [Bool.and_eq_true, decide_eq_true_eq] at hc
  exact pow_int hc.1.1 (bits_W hc.1.1 hc.1.2 hc.2) q
theorem ae_powW (ha : AE X E a fa) (hb : AE X E b fb) : AE X E (.BinOp a .Pow b pos) (dOp (hInt powW fun i j => i ^ j.toNat) fa fb) := ae_op2 (pe_op op_powW ha.pe hb.pe) (hs_int fun _ _ h => h)
end
end Zb

set_option Elab.async false
set_option linter.all false
set_option maxRecDepth 100000
namespace Zb
open PySem L2 PySem.Spec PyProof.Rows
/-! ### loops by invariants -/
/-- what a turn leaves: on, or over -/
def Out.on (r : Out) (P : Sl → Sto → Prop) : Prop := match r with
  | .nx g l => P g l
  | .ct g l => P g l
  | _ => False
theorem for_inv {it : ItD} {gt : D → Sto → Sl → Option Sl} {b : DS} (I : Nat → Sl → Sto → Prop) (hok : ∀ i g l, I i g l → it.ok l) : ∀ (ds : List D) (i : Nat) (g : Sl) (l : Sto), I i g l →
    (∀ j d g l, ds[j]? = some d → I (i + j) g l → ∃ g1, gt d l g = some g1 ∧ (b g1 l).on (I (i + j + 1))) → ∃ g' l', sForL it gt b ds g l = .nx g' l' ∧ I (i + ds.length) g' l'
  | [], i, g, l, h, _ => ⟨g, l, for_nil gt b g l (hok i g l h), h⟩
  | d :: ds, i, g, l, h, q => by
    obtain ⟨g1, e1, e2⟩ := q 0 d g l rfl h
    have step : ∀ g2 l2, I (i + 1) g2 l2 → ∃ g' l', sForL it gt b ds g2 l2 = .nx g' l' ∧ I (i + (d :: ds).length) g' l' := fun g2 l2 h2 => by
      obtain ⟨g', l', e3, e4⟩ := for_inv I hok ds (i + 1) g2 l2 h2 fun j d' g l hj hI => by
        have := q (j + 1) d' g l (by simpa using hj) (by rw [show i + (j + 1) = i + 1 + j by omega]; exact hI)
        rw [show i + (j + 1) + 1 = i + 1 + j + 1 by omega] at this
        exact this
      exact ⟨g', l', e3, by rw [List.length_cons, show i + (ds.length + 1) = i + 1 + ds.length by omega]; exact e4⟩
    rw [for_cons gt b d ds g l (hok i g l h), e1]
    simp only
    cases z : b g1 l with
    | nx g2 l2 => rw [z] at e2; exact step g2 l2 e2
    | ct g2 l2 => rw [z] at e2; exact step g2 l2 e2
    | bad => rw [z] at e2; exact e2.elim
    | rt d l2 => rw [z] at e2; exact e2.elim
    | bk g2 l2 => rw [z] at e2; exact e2.elim
    | ex C fs l2 => rw [z] at e2; exact e2.elim
/-- a loop whose turns all leave the slots' form and the store: from the first on -/
theorem for_all {it : ItD} {gt : D → Sto → Sl → Option Sl} {b : DS} {l : Sto} (G : Sl → Prop) (hok : it.ok l) (ds : List D) (g : Sl) (h : G g)
    (q : ∀ d g, d ∈ ds → G g → ∃ g1, gt d l g = some g1 ∧ ∃ g2, (b g1 l = .nx g2 l ∨ b g1 l = .ct g2 l) ∧ G g2) : ∃ g', sForL it gt b ds g l = .nx g' l ∧ G g' := by
  obtain ⟨g', l', e1, e2, e3⟩ := for_inv (it := it) (gt := gt) (b := b) (fun _ g l' => l' = l ∧ G g) (fun _ _ _ z => by rw [z.1]; exact hok) ds 0 g l ⟨rfl, h⟩ fun j d g l' hj hI => by
    obtain ⟨rfl, hG⟩ := hI
    obtain ⟨g1, a1, g2, a2, a3⟩ := q d g (List.mem_of_getElem? hj) hG
    refine ⟨g1, a1, ?_⟩
    rcases a2 with a2 | a2 <;> rw [a2] <;> exact ⟨rfl, a3⟩
  subst e2
  exact ⟨g', e1, e3⟩
theorem rng_get {lo : Int} {n j : Nat} {d : D} (h : (rng lo n)[j]? = some d) : j < n ∧ d = .int (lo + (j : Nat)) := by
  unfold rng at h
  rw [List.getElem?_map] at h
  by_cases hj : j < n
  · rw [List.getElem?_range hj] at h
    simp at h
    exact ⟨hj, h.symm⟩
  · rw [List.getElem?_eq_none (by simp; omega)] at h
    cases h
theorem rngC_get {lo c : Int} {n j : Nat} {d : D} (h : (rngC lo c n)[j]? = some d) : j < n ∧ d = .int (lo + (j : Nat) * c) := by
  unfold rngC at h
  rw [List.getElem?_map] at h
  by_cases hj : j < n
  · rw [List.getElem?_range hj] at h
    simp at h
    exact ⟨hj, h.symm⟩
  · rw [List.getElem?_eq_none (by simp; omega)] at h
    cases h
theorem rng_length (lo : Int) (n : Nat) : (rng lo n).length = n := by simp [rng]
theorem rngC_length (lo c : Int) (n : Nat) : (rngC lo c n).length = n := by simp [rngC]
/-- while, by a measure -/
theorem while_inv {c : DB} {b : DS} (I : Nat → Sl → Sto → Prop) (P : Sl → Sto → Prop)
    (step : ∀ n g l, I n g l → (c g l = .ok false l ∧ P g l) ∨ (c g l = .ok true l ∧ ∃ g' l' m, b g l = .nx g' l' ∧ m < n ∧ I m g' l')) : ∀ (f n : Nat) (g : Sl) (l : Sto), n < f → I n g l → ∃ g' l', sWhile f c b g l = .nx g' l' ∧ P g' l'
  | 0, n, g, l, h, _ => by omega
  | f + 1, n, g, l, h, hI => by
    rcases step n g l hI with ⟨e, p⟩ | ⟨e, g', l', m, e2, hm, hI2⟩
    · exact ⟨g, l, by simp [sWhile, e], p⟩
    · obtain ⟨g'', l'', e3, p⟩ := while_inv I P step f m g' l' (by omega) hI2
      exact ⟨g'', l'', by simp only [sWhile, e, out_ok, if_true, e2, e3], p⟩
/-- a comprehension whose element leaves the store as it is -/
theorem lcL_fm {it : ItD} {gt : D → Sto → Sl → Option Sl} {ct : DB} {fe : DE} {gw : Sl} {l : Sto} (hok : it.ok l) (p : D → Bool) (h : D → D) : ∀ (ds acc : List D),
    (∀ d ∈ ds, ∃ g1, gt d l gw = some g1 ∧ ct g1 l = .ok (p d) l ∧ (p d = true → fe g1 l = .ok (h d) l)) → acc.length + ds.length ≤ 16777216 → lcL it gt ct fe gw ds l acc = .ok (acc ++ (ds.filter p).map h) l
  | [], acc, _, _ => by simp [lcL, hok]
  | d :: ds, acc, q, hl => by
    obtain ⟨g1, h1, h2, h3⟩ := q d (by simp)
    simp only [List.length_cons] at hl
    cases hp : p d with
    | true =>
      rw [hp] at h2
      simp only [lcL, hok, if_true, h1, h2, h3 hp, nox_ok, bind_ok]
      rw [if_pos (by simp; omega), lcL_fm hok p h ds _ (fun e he => q e (by simp [he])) (by simp; omega)]
      simp [hp]
    | false =>
      rw [hp] at h2
      simp only [lcL, hok, if_true, h1, h2, nox_ok, bind_ok, Bool.false_eq_true, if_false]
      rw [lcL_fm hok p h ds _ (fun e he => q e (by simp [he])) (by omega)]
      simp [hp]
theorem lcL_fmap {α : Type} {it : ItD} {gt : D → Sto → Sl → Option Sl} {ct : DB} {fe : DE} {gw : Sl} {l : Sto} (hok : it.ok l) (e h : α → D) (p : α → Bool) : ∀ (xs : List α) (acc : List D),
    (∀ x ∈ xs, ∃ g1, gt (e x) l gw = some g1 ∧ ct g1 l = .ok (p x) l ∧ (p x = true → fe g1 l = .ok (h x) l)) → acc.length + xs.length ≤ 16777216 → lcL it gt ct fe gw (xs.map e) l acc = .ok (acc ++ (xs.filter p).map h) l
  | [], acc, _, _ => by simp [lcL, hok]
  | x :: xs, acc, q, hl => by
    obtain ⟨g1, h1, h2, h3⟩ := q x (by simp)
    simp only [List.length_cons] at hl
    cases hp : p x with
    | true =>
      rw [hp] at h2
      simp only [List.map_cons, lcL, hok, if_true, h1, h2, h3 hp, nox_ok, bind_ok]
      rw [if_pos (by simp; omega), lcL_fmap hok e h p xs _ (fun y hy => q y (by simp [hy])) (by simp; omega)]
      simp [hp]
    | false =>
      rw [hp] at h2
      simp only [List.map_cons, lcL, hok, if_true, h1, h2, nox_ok, bind_ok, Bool.false_eq_true, if_false]
      rw [lcL_fmap hok e h p xs _ (fun y hy => q y (by simp [hy])) (by omega)]
      simp [hp]
theorem rng_eq (n : Nat) : rng 0 n = (List.range n).map fun i => D.int (i : Nat) := by
  unfold rng
  exact List.map_congr_left fun i _ => by simp
theorem enumF_eq (ds : List D) (n : Nat) : enumF n ds = (List.range ds.length).map fun i => D.tup [.int ((n + i : Nat) : Int), ds.getD i .non] := by
  apply List.ext_getElem?
  intro i
  rw [enumF_get, List.getElem?_map]
  by_cases h : i < ds.length
  · rw [List.getElem?_range h, List.getElem?_eq_getElem h]
    simp [List.getD_eq_getElem?_getD, h]
  · rw [List.getElem?_eq_none (by omega), List.getElem?_eq_none (by simp; omega)]
    rfl
end Zb

set_option Elab.async false
set_option linter.all false
set_option maxRecDepth 100000
namespace Nm
/-! ### ways to choose -/
def C : Nat → Nat → Nat
  | _, 0 => 1
  | 0, _ + 1 => 0
  | n + 1, k + 1 => C n k + C n (k + 1)
@[simp] theorem C_0 (n : Nat) : C n 0 = 1 := by cases n <;> rfl
@[simp] theorem C_s (n k : Nat) : C (n + 1) (k + 1) = C n k + C n (k + 1) := rfl
theorem C_lt : ∀ (n k : Nat), n < k → C n k = 0
  | 0, k + 1, _ => rfl
  | n + 1, k + 1, h => by rw [C_s, C_lt n k (by omega), C_lt n (k + 1) (by omega)]
@[simp] theorem C_self : ∀ n : Nat, C n n = 1
  | 0 => rfl
  | n + 1 => by rw [C_s, C_self n, C_lt n (n + 1) (by omega)]
theorem C_pos : ∀ (n k : Nat), k ≤ n → 0 < C n k
  | _, 0, _ => by simp
  | n + 1, k + 1, h => by rw [C_s]; have := C_pos n k (by omega); omega
theorem C_le : ∀ (n k : Nat), C n k ≤ 2 ^ n
  | 0, 0 => by simp
  | 0, k + 1 => by simp [C]
  | n + 1, 0 => by simp; exact Nat.one_le_two_pow
  | n + 1, k + 1 => by
    rw [C_s, Nat.pow_succ]
    have h1 := C_le n k
    have h2 := C_le n (k + 1)
    omega
theorem C_mul : ∀ (n k : Nat), C n (k + 1) * (k + 1) = C n k * (n - k)
  | 0, k => by simp [C]
  | n + 1, 0 => by
    have := C_mul n 0
    simp at this
    simp; omega
  | n + 1, k + 1 => by
    have h1 := C_mul n k
    have h2 := C_mul n (k + 1)
    by_cases hk : k + 1 ≤ n
    · obtain ⟨m, rfl⟩ : ∃ m, n = k + 1 + m := ⟨n - (k + 1), by omega⟩
      have e1 : k + 1 + m - k = m + 1 := by omega
      have e2 : k + 1 + m - (k + 1) = m := by omega
      have e3 : k + 1 + m + 1 - (k + 1) = m + 1 := by omega
      rw [e1] at h1
      rw [e2] at h2
      rw [C_s, C_s, e3, Nat.add_mul, Nat.add_mul, h2, ← h1]
      generalize C (k + 1 + m) (k + 1) = x
      rw [← Nat.mul_add, ← Nat.mul_add]
      congr 1
      omega
    · by_cases hk2 : k = n
      · subst hk2
        rw [C_lt (k + 1) (k + 1 + 1) (by omega)]
        simp
      · rw [C_lt _ _ (by omega), C_lt (n + 1) (k + 1) (by omega)]; simp
theorem C_up (n k : Nat) (h : k ≤ n) : C (n + 1) k * (n + 1 - k) = C n k * (n + 1) := by
  cases k with
  | zero => simp
  | succ k =>
    have h1 := C_mul n k
    obtain ⟨m, rfl⟩ : ∃ m, n = k + 1 + m := ⟨n - (k + 1), by omega⟩
    have e1 : k + 1 + m - k = m + 1 := by omega
    have e3 : k + 1 + m + 1 - (k + 1) = m + 1 := by omega
    rw [e1] at h1
    rw [C_s, e3, Nat.add_mul, ← h1]
    rw [← Nat.mul_add]
    congr 1
theorem C_symm : ∀ (n k : Nat), k ≤ n → C n (n - k) = C n k
  | n, 0, _ => by simp
  | n + 1, k + 1, h => by
    by_cases e : k = n
    · subst e; simp; rw [C_lt k (k + 1) (by omega)]
    · obtain ⟨m, rfl⟩ : ∃ m, n = k + 1 + m := ⟨n - (k + 1), by omega⟩
      have h1 := C_symm (k + 1 + m) k (by omega)
      have h2 := C_symm (k + 1 + m) (k + 1) (by omega)
      have e1 : k + 1 + m - k = m + 1 := by omega
      have e2 : k + 1 + m - (k + 1) = m := by omega
      have e3 : k + 1 + m + 1 - (k + 1) = m + 1 := by omega
      rw [e1] at h1
      rw [e2] at h2
      rw [e3, C_s, C_s, h1, h2]
      omega
/-! one step of the programs' sums -/
theorem C_next (n k : Nat) : ((C n k : Int) * ((n : Int) - k)) / (k + 1) = C n (k + 1) := by
  by_cases h : k ≤ n
  · have := C_mul n k
    have e : (C n k : Int) * ((n : Int) - k) = (C n (k + 1) : Int) * ((k : Int) + 1) := by
      have e1 : ((n : Int) - k) = ((n - k : Nat) : Int) := by omega
      rw [e1]
      have e2 : ((k : Int) + 1) = ((k + 1 : Nat) : Int) := by omega
      rw [e2, ← Int.natCast_mul, ← Int.natCast_mul, this]
    rw [e]
    exact Int.mul_ediv_cancel _ (by omega)
  · rw [C_lt n k (by omega), C_lt n (k + 1) (by omega)]
    simp
theorem C_row (n k : Nat) (h : k ≤ n) : ((C n k : Int) * ((n : Int) + 1)) / ((n : Int) + 1 - k) = C (n + 1) k := by
  have := C_up n k h
  have e : (C n k : Int) * ((n : Int) + 1) = (C (n + 1) k : Int) * ((n : Int) + 1 - k) := by
    have e1 : ((n : Int) + 1 - k) = ((n + 1 - k : Nat) : Int) := by omega
    rw [e1]
    have e2 : ((n : Int) + 1) = ((n + 1 : Nat) : Int) := by omega
    rw [e2, ← Int.natCast_mul, ← Int.natCast_mul, this]
  rw [e]
  exact Int.mul_ediv_cancel _ (by omega)
/-- downward: from C(n, k) to C(n - 1, k - 1) and C(n - 1, k) -/
theorem C_down1 (n k : Nat) (h1 : 0 < k) (h2 : 0 < n) : ((C n k : Int) * k) / n = C (n - 1) (k - 1) := by
  obtain ⟨k, rfl⟩ : ∃ j, k = j + 1 := ⟨k - 1, by omega⟩
  obtain ⟨n, rfl⟩ : ∃ j, n = j + 1 := ⟨n - 1, by omega⟩
  have e : C (n + 1) (k + 1) * (k + 1) = C n k * (n + 1) := by
    by_cases h : k ≤ n
    · rw [C_mul (n + 1) k]
      have := C_up n k h
      rw [this]
    · rw [C_lt n k (by omega), C_lt (n + 1) (k + 1) (by omega)]; simp
  simp only [Nat.add_sub_cancel]
  rw [← Int.natCast_mul, e, Int.natCast_mul]
  exact Int.mul_ediv_cancel _ (by omega)
theorem C_down2 (n k : Nat) (h1 : k ≤ n) (h2 : 0 < n) : ((C n k : Int) * ((n : Int) - k)) / n = C (n - 1) k := by
  obtain ⟨n, rfl⟩ : ∃ j, n = j + 1 := ⟨n - 1, by omega⟩
  simp only [Nat.add_sub_cancel]
  by_cases h : k ≤ n
  · have := C_up n k h
    have e1 : (((n + 1 : Nat) : Int) - k) = ((n + 1 - k : Nat) : Int) := by omega
    rw [e1, ← Int.natCast_mul, this, Int.natCast_mul]
    exact Int.mul_ediv_cancel _ (by omega)
  · have : k = n + 1 := by omega
    subst this
    rw [C_lt n (n + 1) (by omega)]
    simp
/-! ### how great a number is -/
def Bd (i : Int) (a : Nat) : Prop := i.natAbs < 2 ^ a
theorem Bd.mono {i : Int} {a b : Nat} (h : Bd i a) (l : a ≤ b) : Bd i b := Nat.lt_of_lt_of_le h (Nat.pow_le_pow_right (by decide) l)
theorem Bd.mul {i j : Int} {a b : Nat} (h : Bd i a) (k : Bd j b) : Bd (i * j) (a + b) := by
  unfold Bd at *
  rw [Int.natAbs_mul, Nat.pow_add]
  exact Nat.lt_of_le_of_lt (Nat.mul_le_mul_left _ (Nat.le_of_lt k)) (Nat.mul_lt_mul_of_pos_right h (Nat.pow_pos (by decide)))
theorem Bd.nat {n a : Nat} (h : n < 2 ^ a) : Bd (n : Int) a := by unfold Bd; rw [Int.natAbs_natCast]; exact h
theorem Bd.sub {i j : Int} {a : Nat} (h : Bd i a) (k : Bd j a) : Bd (i - j) (a + 1) := by
  unfold Bd at *
  rw [Nat.pow_succ]
  omega
theorem Bd.add {i j : Int} {a : Nat} (h : Bd i a) (k : Bd j a) : Bd (i + j) (a + 1) := by
  unfold Bd at *
  rw [Nat.pow_succ]
  omega
theorem log2_of {i : Int} {a : Nat} (h : Bd i a) : i.natAbs.log2 ≤ a := by
  unfold Bd at h
  by_cases h0 : i.natAbs = 0
  · rw [h0]; simp
  · exact Nat.le_of_lt ((Nat.log2_lt h0).mpr h)
theorem Bd.mulOk {i j : Int} {a b : Nat} (h : Bd i a) (k : Bd j b) (l : a + b < 1000000) : Zb.mulOk i j = true := by
  unfold Zb.mulOk
  rw [decide_eq_true_eq]
  have := log2_of h
  have := log2_of k
  omega
theorem Bd.divOk {j : Int} {a : Nat} (h0 : 0 < j) (h : Bd j a) (l : a < 9000) : Zb.divOk j = true := by
  unfold Zb.divOk
  rw [Bool.and_eq_true, decide_eq_true_eq, decide_eq_true_eq]
  have := log2_of h
  exact ⟨h0, by omega⟩
theorem bdC (n k : Nat) : Bd (C n k : Int) (n + 1) := Bd.nat (Nat.lt_of_le_of_lt (C_le n k) (Nat.pow_lt_pow_right (by decide) (by omega)))
theorem bd_small {i : Int} (h : i.natAbs < 1048576) : Bd i 20 := by unfold Bd; simpa using h
theorem Bd.pow {b : Nat} {a : Nat} (h : b < 2 ^ a) : ∀ e : Nat, Bd ((b : Int) ^ e) (a * e + 1)
  | 0 => by simp [Bd]
  | e + 1 => by
    rw [Int.pow_succ]
    have := (Bd.pow h e).mul (Bd.nat h)
    exact this.mono (by rw [Nat.mul_succ]; omega)
end Nm

set_option Elab.async false
set_option linter.all false
set_option maxRecDepth 100000
set_option maxHeartbeats 2000000
namespace Zy
open PySem PySem.W PySem.Calls PyProof.Rows PySem.HandSPX
def top (i : Nat) : Stmt := PySem.Challenge.pw_throwntrue_k82_whole_numbers.main.body.getD i (.Pass ⟨0, 0, 0, 0⟩)
def inC (s : Stmt) (j : Nat) : Stmt := match s with
  | .ClassDef (body := b) .. => b.getD j (.Pass ⟨0, 0, 0, 0⟩)
  | _ => .Pass ⟨0, 0, 0, 0⟩
abbrev sI : Stmt := inC (top 20) 0
/-- what the written part says of a class at C with two fields, over ValueError by another class, and of its __init__ at fI -/
structure SupTxt (P : Program) (K : Frag) (mg : Str → Option Value) (C fI : Addr) : Prop where
  cls : ∃ nm q N bs bm sn sub ab col dd k0 k1 k2 k3 k5, K.lookup C = some (excClassObj nm q C N bs bm true sn sub ab col dd k0 k1 k2 k3 k5 "ValueError.__new__") ∧ refsVE bm = true ∧ alongIn K "__init__" bm = some (some (.builtin "ValueError.__init__"))
  sa : findIn K (.ref C) "__setattr__" = some (some (.builtin "object.__setattr__"))
  ga : findIn K (.ref C) "__getattribute__" = some (some (.builtin "BaseException.__getattribute__"))
  gg : findIn K (.ref C) "__getattr__" = some none
  noN : findIn K (.ref C) "at" = some none
  noM : findIn K (.ref C) "word" = some none
  iC : findIn K (.ref C) "__init__" = some (some (.ref fI))
  tC : typeIn K (.ref fI) = some (.type "function")
  kC : keepIn K (.ref C) = true
  exC : subIn K (.ref C) (.type "BaseException") = some true
  exV : subIn K (.ref C) (.type "ValueError") = some true
  mroC : mroIn K C (.ref C) = some true
  tyC : typeIn K (.ref C) = some (.type "type")
  hdC : hasDictIn K C = true
  te : exmOne K (.ref C) (.ref C) = some true
  op : nsIn K cStatics "thirdparty.any" = some none
  noS : mg "super" = none
  topS : (P.main.scope.names.lookup ("super" : Str)).isSome = false
  bootS : bootBuiltins "super" = some (.type "super")
  fn : ∃ (oc : Value) (od : Option Addr) (doc pm : Value) (an : Option Addr) (ct : Value) (osl : Array (Option Value)) (qual : Str) (cda cc : Addr),
    K.lookup fI = some ⟨oc, od, .func (ksFn "__init__" qual (L2.defArgs sI) (L2.defBody sI) (L2.defScope sI) .none .none doc pm an (.ref cda) ct cc), osl⟩ ∧ codeIn K (.ref cda) qual = true ∧
    (∃ (cl : Value) (cld : Option Addr) (csl : Array (Option Value)), K.lookup cc = some ⟨cl, cld, .cell (some (.ref C)), csl⟩) ∧
    ∃ (ccl : Value) (cdd : Option Addr) (vs : Array Value) (ccs : Array (Option Value)) (file : Str) (tf : Tok), K.lookup cda = some ⟨ccl, cdd, .fields vs, ccs⟩ ∧ vs[2]? = some (.str file tf) ∧ ((P.main.file : Str) == file) = true
theorem within1 (n : Str) (v : Value) : Within (fun y => if y = n then some v else none) [n] := by
  intro y hy
  by_cases h : y = n
  · simp [h]
  · simp [h] at hy
/-- what __init__ leaves of a fresh exception at x -/
structure InitEnd (h h' : Heap) (x C dx t1 : Addr) (v v2 : Value) : Prop where
  keep : ∀ b o, b ≠ x → h.get? b = some o → h'.get? b = some o
  obj : h'.get? x = some { cls := .ref C, dict := some dx, data := .fields #[.ref t1, .none, .none, .none, .bool false, .none] }
  dbig : h.objs.size ≤ dx
  dne : dx ≠ x
  ns : h'.Ns1 dx (fun y => if y = "word" then some v2 else (if y = "at" then some v else none))
theorem call_w {prog : Program} {w : World} {A : Around} {E : Value → Shared → Prop} {h : Heap} {g : Array GenState} {d : Drawn} {t : Nat} {os : OsState}
    {nm q : Str} {C N : Addr} {bs bm : List Value} {hdct : Bool} {sn : List Str} {sub : List Value} {ab : Bool} {col : Option Bool} {dd : Option Addr} {k0 k1 k2 k3 k5 : Option Value} {u e t0 : Addr} {rest : List Value} {Q : Value → Shared → Prop}
    (hC : h.get? C = some (excClassObj nm q C N bs bm hdct sn sub ab col dd k0 k1 k2 k3 k5 "ValueError.__new__")) (he : h.get? e = some (HandSPX.excO C t0)) (hu : h.get? u = some (kxs_mw "ValueError.__init__" e)) (hrest : rest.length ≤ sizeLine)
    (hq : ∀ h' t1, (∀ b o, b ≠ e → h.get? b = some o → h'.get? b = some o) → h'.get? e = some (HandSPX.excO C t1) → Q .none ⟨h', g, d, t, os⟩) :
    wpAny (model prog w) A (call (.ref u) rest) Q E ⟨h, g, d, t, os⟩ := by
  refine wpAny_call (codeAny_of_tree ?_)
  show wpAny _ A.in1 (callAny (.ref u) ⟨rest, []⟩) _ _ _
  simp only [callAny]
  refine wpAny_bind (wpAny_load hu ?_)
  simp only [kxs_mw, show (Value.type "method-wrapper" == Value.type "method" || Value.type "method-wrapper" == Value.type "builtin_function_or_method" || Value.type "method-wrapper" == Value.type "method-wrapper") = true by decide, if_true]
  refine W.KFB.if_so (by decide) ?_
  refine wpAny_bind (ESX.check_bound F.excBase_ValueError hC he rfl ?_)
  refine wpAny_bind (wpAny_pure (wpAny_pure ?_))
  refine ⟨Code.quiet_builtin _ (by decide +kernel), codeAny_builtin F.excBase_ValueError.initEntry ?_⟩
  rw [Around.under_plainId F.excBase_ValueError.init.plain _]
  wp_walk
  refine hq _ h.objs.size (fun b o hb ho => ?_) ?_
  · rw [Heap.get?_update_other _ _ (Ne.symm hb)]
    exact Heap.get?_push_of_some _ ho
  · rw [Heap.get?_update_self _ (Heap.get?_push_of_some _ he) rfl]
    rfl
section
variable {prog : Program} {w : World} {A : Around} {E : Value → Shared → Prop} {R : Result → Shared → Prop} {s : Shared} {K : Frag} {mg : Str → Option Value} {C fI : Addr}
theorem sup_init (T : SupTxt prog K mg C fI) {x t0 : Addr} {v v2 : Value} (X : K.In s.heap) (hlim : s.heap.NoLimit) (hglob : s.heap.Ns mainGlobals mg) (hblt : ∃ mb, s.heap.Ns builtinsNs mb ∧ ∀ x : Str, x ≠ "__name__" → mb x = bootBuiltins x)
    (hx : s.heap.get? x = some (excO C t0)) (hnx : K.lookup x = none) (hroom : A.depth < recursionLimit)
    (hq : ∀ h' tk dx t1, InitEnd s.heap h' x C dx t1 v v2 → R (.ok (.ret .none)) { s with heap := h', toks := tk }) :
    codeAny (model prog w) A (.call (.ref fI) ⟨[.ref x, v, v2], []⟩) R s := by
  obtain ⟨oc, od, doc, pm, an, ct, osl, qual, cda, cc, ho, hcd, ⟨cl, cld, csl, hcell⟩, ccl, cdd, vs, ccs, file, tf, hcode, hvs, hfile⟩ := T.fn
  obtain ⟨nm, q, N, bs, bm, sn, sub, ab, col, dd, k0, k1, k2, k3, k5, hC, hbm, hal⟩ := T.cls
  have hcl : clsIn K C = some { name := nm, bases := bs, mro := .ref C :: bm, ns := N, qualname := q, hasDict := true, slotNames := sn, subclasses := sub, abstract := ab, collection := col, hasDel := false } := by unfold clsIn; rw [hC] <;> rfl
  refine ks_codeAny_call_defAt (fd := ksFn "__init__" qual (L2.defArgs sI) (L2.defBody sI) (L2.defScope sI) .none .none doc pm an (.ref cda) ct cc) (body := L2.defBody sI) (binds := [("self", .ref x), ("at", v), ("word", v2)]) hroom (X _ _ ho) rfl hlim (codeRec_of X hcd) rfl
    (BindsTo.of_eq (by first | rfl | with_unfolding_all rfl)) (show ∀ x ∈ (L2.defScope sI).names, x.2 ≠ .cell by decide +kernel) (by simp only [List.mem_cons, List.not_mem_nil, or_false, forall_eq_or_imp, forall_eq]; exact ⟨rfl, rfl, rfl⟩) (fun h₁ hns hk₁ => ?_) rfl rfl rfl
  obtain ⟨hp, g, d, t, os⟩ := s
  dsimp only at hk₁ hns X hlim hx hglob hblt hq ⊢
  have X₁ : K.In h₁ := X.keeps hk₁
  have hx₁ := hk₁ _ _ hx
  obtain ⟨mb, hb1, hb2⟩ := hblt
  have hI : InstAt h₁ x (excO C t0) C none := ⟨hx₁, rfl, rfl, trivial⟩
  have hisV : Looks (model prog w) h₁ (isInstance (.ref x) (.type "ValueError")) true := hI.type.andThen (looks_subIn X₁ T.exV)
  obtain ⟨oD, hD1, hD2⟩ : ∃ oD, h₁.get? C = some oD ∧ oD.data = .cls { name := nm, bases := bs, mro := .ref C :: bm, ns := N, qualname := q, hasDict := true, slotNames := sn, subclasses := sub, abstract := ab, collection := col, hasDel := false } := ⟨_, X₁ _ _ hC, rfl⟩
  -- super().__init__(a)
  refine ks_wpAt_execs_cons (ks_wpAt_Expr_any (ks_wpAt_MethodCall ?_))
  refine ks_wpAt_super_base (env := ksEnv qual (L2.defScope sI) hp.objs.size fI (.ref cda) cc) rfl rfl rfl rfl (X₁ _ _ ho) rfl rfl rfl (X₁ _ _ hcode) rfl hvs hfile T.topS ?_
  refine ks_loadName_global rfl rfl (loadGlobal_builtin (env := ksEnv qual (L2.defScope sI) hp.objs.size fI (.ref cda) cc) (hglob.keeps hk₁) T.noS (hb1.keeps hk₁) ((hb2 _ (by decide)).trans T.bootS) ⟨rfl, ?_⟩)
  refine wpAny_loadName_free rfl rfl rfl ⟨_, X₁ _ _ hcell, rfl⟩ ?_
  refine wpAny_loadName_local rfl rfl hns (by first | rfl | with_unfolding_all rfl) ?_
  refine ks_wpAny_isType_cls hD1 hD2 ⟨rfl, ?_⟩
  refine ks_wpAny_call_super hD1 hD2 hx₁ rfl (fun c e => by cases e) (looks_mroIn X₁ T.mroC) (fun h₂ e2 k2 => ?_)
  have X₂ : K.In h₂ := X₁.keeps k2
  have hx₂ := k2 _ _ hx₁
  have hxC : x ≠ C := fun z => by rw [z, hC] at hnx; cases hnx
  refine kxs_getMethod kxs_ValueError e2 (looks_opaque X₂ T.op) (l₀ := .ref C :: bm) ?_ (ESX.drop_own C bm) X₂ hal (hisV.keeps k2) hxC rfl ?_
  · exact fun A Q E s k q => wpAny_bind ((looks_clsIn X₂ hcl) A _ E s k (wpAny_pure q))
  have hu : (h₂.push (kxs_mw "ValueError.__init__" x)).get? h₂.objs.size = some (kxs_mw "ValueError.__init__" x) := Heap.get?_push_at rfl rfl
  have k3 : ∀ b o, h₂.get? b = some o → (h₂.push (kxs_mw "ValueError.__init__" x)).get? b = some o := fun b o e => Heap.get?_push_of_some _ e
  have hns₃ : (h₂.push (kxs_mw "ValueError.__init__" x)).Ns hp.objs.size (fun y => ([("self", .ref x), ("at", v), ("word", v2)] : List (Str × Value)).reverse.lookup y) := (hns.keeps k2).keeps k3
  have X₃ : K.In (h₂.push (kxs_mw "ValueError.__init__" x)) := X₂.keeps k3
  have hx₃ := k3 _ _ hx₂
  refine kxs_callWith (i := "ValueError.__init__") (x := x) rfl (evalArgs_plain ?_)
  refine Calls.spliced_cons ?_
  refine ESX.ldL (env := callEnv (ksFn "__init__" qual (L2.defArgs sI) (L2.defBody sI) (L2.defScope sI) .none .none doc pm an (.ref cda) ct cc) hp.objs.size fI) (v := v) hns₃ (by first | rfl | with_unfolding_all rfl) ?_ rfl rfl
  refine Calls.spliced_cons ?_
  refine ESX.ldL (env := callEnv (ksFn "__init__" qual (L2.defArgs sI) (L2.defBody sI) (L2.defScope sI) .none .none doc pm an (.ref cda) ct cc) hp.objs.size fI) (v := v2) hns₃ (by first | rfl | with_unfolding_all rfl) ?_ rfl rfl
  refine Calls.spliced_nil ⟨hu, ?_⟩
  show wpAny _ _ (call (.ref h₂.objs.size) [v, v2]) _ _ _
  refine call_w (X₃ _ _ hC) hx₃ hu (show [v, v2].length ≤ sizeLine by rw [sizeLine_eq]; exact (by decide : 2 ≤ 16777216)) fun h₄ t1 k4 hx₄ => ?_
  -- self.a = a
  have xL : hp.objs.size ≠ x := Nat.ne_of_gt (Heap.lt_size hx)
  have X₄ : K.In h₄ := fun b o e => k4 b o (fun z => by rw [z, hnx] at e; cases e) (X₃ b o e)
  have hns₄ : h₄.Ns hp.objs.size (fun y => ([("self", .ref x), ("at", v), ("word", v2)] : List (Str × Value)).reverse.lookup y) := by
    obtain ⟨oL, es, ep, hL, r⟩ := hns₃
    exact ⟨oL, es, ep, k4 _ _ xL hL, r⟩
  show PySem.wpAt _ _ _ (execs _ _) _ _ _
  refine ks_wpAt_execs_cons (ks_wpAt_Assign_Attr ?_)
  refine PySem.wpAt_of_wpAny ?_
  refine ESX.ldL (env := callEnv (ksFn "__init__" qual (L2.defArgs sI) (L2.defBody sI) (L2.defScope sI) .none .none doc pm an (.ref cda) ct cc) hp.objs.size fI) (v := v) hns₄ (by first | rfl | with_unfolding_all rfl) ?_ rfl rfl
  refine ESX.ldL (env := callEnv (ksFn "__init__" qual (L2.defArgs sI) (L2.defBody sI) (L2.defScope sI) .none .none doc pm an (.ref cda) ct cc) hp.objs.size fI) (v := .ref x) hns₄ (by first | rfl | with_unfolding_all rfl) ?_ rfl rfl
  refine set_plain X₄ (ox := excO C t1) (od := none) ⟨hx₄, rfl, rfl, trivial⟩ T.sa ?_
  refine exc_osa X₄ hx₄ hcl (show refsVE (.ref C :: bm) = true from hbm) rfl T.noN (fun h₅ tk₅ dx k₅ dn dne hx₅ hn₅ => ?_)
  have z : hp.objs.size ≤ h₄.objs.size := by
    obtain ⟨oL, es, ep, hL, r⟩ := hns₄
    exact Nat.le_of_lt (Heap.lt_size hL)
  -- self.b = b
  have X₅ : K.In h₅ := fun b o e => k₅ b o (fun z => by rw [z, hnx] at e; cases e) (X₄ b o e)
  have hns₅ : h₅.Ns hp.objs.size (fun y => ([("self", .ref x), ("at", v), ("word", v2)] : List (Str × Value)).reverse.lookup y) := by
    obtain ⟨oL, es, ep, hL, r⟩ := hns₄
    exact ⟨oL, es, ep, k₅ _ _ xL hL, r⟩
  show PySem.wpAt _ _ _ (execs _ _) _ _ _
  refine ks_wpAt_execs_cons (ks_wpAt_Assign_Attr ?_)
  refine PySem.wpAt_of_wpAny ?_
  refine ESX.ldL (env := callEnv (ksFn "__init__" qual (L2.defArgs sI) (L2.defBody sI) (L2.defScope sI) .none .none doc pm an (.ref cda) ct cc) hp.objs.size fI) (v := v2) hns₅ (by first | rfl | with_unfolding_all rfl) ?_ rfl rfl
  refine ESX.ldL (env := callEnv (ksFn "__init__" qual (L2.defArgs sI) (L2.defBody sI) (L2.defScope sI) .none .none doc pm an (.ref cda) ct cc) hp.objs.size fI) (v := .ref x) hns₅ (by first | rfl | with_unfolding_all rfl) ?_ rfl rfl
  obtain ⟨oDx, esDx, epDx, hoDx, hrDx⟩ := hn₅.count (within1 _ _)
  refine set_plain X₅ (ox := { cls := .ref C, dict := some dx, data := .fields #[.ref t1, .none, .none, .none, .bool false, .none] }) (od := some oDx) ⟨hx₅, rfl, rfl, hoDx⟩ T.sa ?_
  refine PySem.OEX.osa_old X₅ hx₅ hn₅ (nl := ["at"]) (within1 _ _) (by decide) hcl (show refsVE (.ref C :: bm) = true from hbm) rfl T.noM (fun h₆ tk₆ k₆ hn₆ => ?_)
  show PySem.wpAt _ _ _ (execs [] _) _ _ _
  have bdx : ∀ b o, hp.get? b = some o → b ≠ dx := fun b o e => Nat.ne_of_lt (Nat.lt_of_lt_of_le (Heap.lt_size e) (Nat.le_trans z dn))
  refine PySem.wpAt_of_wpAny (wpAny_execs_nil (hq h₆ _ dx t1 ⟨fun b o hb e => k₆ b o (bdx b o e) (k₅ b o hb (k4 b o hb (k3 _ _ (k2 _ _ (hk₁ b o e))))), k₆ _ _ (Ne.symm dne) hx₅, Nat.le_trans z dn, dne, hn₆⟩))
/-- a made exception -/
structure OwnMade (h h' : Heap) (e C d : Addr) (v v2 : Value) : Prop where
  keep : ∀ b o, h.get? b = some o → h'.get? b = some o
  new : h.objs.size ≤ e
  obj : ∃ oe vs, h'.get? e = some oe ∧ oe.cls = .ref C ∧ oe.dict = some d ∧ oe.data = .fields vs ∧ vs[1]? = some .none
  dbig : h.objs.size ≤ d
  dne : d ≠ e
  ns : h'.Ns1 d (fun y => if y = "word" then some v2 else (if y = "at" then some v else none))
theorem sup_made (T : SupTxt prog K mg C fI) {v v2 : Value} (X : K.In s.heap) (hlim : s.heap.NoLimit) (hglob : s.heap.Ns mainGlobals mg) (hblt : ∃ mb, s.heap.Ns builtinsNs mb ∧ ∀ x : Str, x ≠ "__name__" → mb x = bootBuiltins x) (hroom : A.depth + 1 < recursionLimit)
    (hq : ∀ h' tk e d, OwnMade s.heap h' e C d v v2 → R (.ok (.ret (.ref e))) { s with heap := h', toks := tk }) :
    codeAny (model prog w) A (.call (.ref C) ⟨[v, v2], []⟩) R s := by
  obtain ⟨nm, q, N, bs, bm, sn, sub, ab, col, dd, k0, k1, k2, k3, k5, hC, hbm, hal⟩ := T.cls
  obtain ⟨hp, g, dr, tk, os⟩ := s
  have k : ∀ b o, hp.get? b = some o → ((hp.push (kdv_tup [v, v2])).push (excO C hp.objs.size)).get? b = some o := fun b o e => Heap.get?_push_of_some _ (Heap.get?_push_of_some _ e)
  have hget : ((hp.push (kdv_tup [v, v2])).push (excO C hp.objs.size)).get? (hp.objs.size + 1) = some (excO C hp.objs.size) := by heap_get
  have hnx : K.lookup (hp.objs.size + 1) = none := by
    cases e : K.lookup (hp.objs.size + 1) with
    | none => rfl
    | some o =>
      have z : hp.get? (hp.objs.size + 1) = some o := X _ _ e
      exact absurd (Nat.lt_of_succ_lt (Heap.lt_size z)) (Nat.lt_irrefl _)
  obtain ⟨mb, hb1, hb2⟩ := hblt
  refine call_own F.excBase_ValueError (fun X => refsVE_contains X bm hbm) (X _ _ hC) (looks_findIn X T.iC) (fun self => bind_fn X self T.tC) (show [v, v2].length ≤ sizeLine by rw [sizeLine_eq]; exact (by decide : 2 ≤ 16777216)) ?_
  refine sup_init (s := ⟨(hp.push (kdv_tup [v, v2])).push (excO C hp.objs.size), g, dr, tk, os⟩) T (X.keeps k) (hlim.keeps k) (hglob.keeps k) ⟨mb, hb1.keeps k, hb2⟩ hget hnx ?_ fun h' tk' dx t1 ⟨k', hx, dn, dne, hns⟩ => ?_
  · show A.depth + 1 < recursionLimit
    exact hroom
  · have old : ∀ b o, hp.get? b = some o → h'.get? b = some o := fun b o e => k' b o (Nat.ne_of_lt (Nat.lt_succ_of_lt (Heap.lt_size e))) (k b o e)
    have z : hp.objs.size + 1 + 1 ≤ dx := by
      first
        | (simpa only [Heap.size_push] using dn)
        | exact dn
        | (have q := dn; rw [Heap.size_push, Heap.size_push] at q; exact q)
    exact ⟨rfl, hq h' tk' (hp.objs.size + 1) dx ⟨old, Nat.le_succ _, ⟨_, _, hx, rfl, rfl, rfl, rfl⟩, Nat.le_trans (Nat.le_trans (Nat.le_succ _) (Nat.le_succ _)) z, dne, hns⟩⟩
end
end Zy

set_option Elab.async false
set_option linter.all false
set_option maxRecDepth 100000
set_option maxHeartbeats 2000000
namespace Zy
open PySem L2 PySem.Spec PyProof.Rows Zb
theorem relO_f {v v2 : V} {v' v2' : Value} (r : RelV v v') (r2 : RelV v2 v2') (f : Str) : RelO (List.lookup f [(("at" : Str), v), (("word" : Str), v2)]) (if f = "word" then some v2' else (if f = "at" then some v' else none)) := by
  by_cases hw : f = "word"
  · subst hw
    rw [if_pos rfl]
    have q0 : (("word" : Str) == ("at" : Str)) = false := by decide
    have q : List.lookup ("word" : Str) [(("at" : Str), v), (("word" : Str), v2)] = some v2 := by simp [List.lookup, q0]
    rw [q]
    exact r2
  · rw [if_neg hw]
    have qw : (f == ("word" : Str)) = false := by simpa using hw
    by_cases h1 : f = "at"
    · subst h1
      rw [if_pos rfl]
      have q : List.lookup ("at" : Str) [(("at" : Str), v), (("word" : Str), v2)] = some v := by simp [List.lookup]
      rw [q]
      exact r
    · rw [if_neg h1]
      have q1 : (f == ("at" : Str)) = false := by simpa using h1
      have q2 : List.lookup f [(("at" : Str), v), (("word" : Str), v2)] = none := by simp [List.lookup, qw, q1]
      rw [q2]
      trivial
section
variable {X : Cx} {C fI : Addr}
/-- the class at C called with one thing -/
def tMkC (C : Addr) (ta : TA) : L2.St → Hp → XK → Prop := fun σ H Q => ta σ H fun vs H1 => ∃ v v2, vs = [v, v2] ∧ ∀ d, H1 d = none → Q (.ref C) (some d) (upd H1 d (.xd [(("at" : Str), v), (("word" : Str), v2)]))
theorem pmk_c {a b : Expr} {ta : TA} {p pos : Pos} {k : Nat} (T : SupTxt X.prog X.K X.mg C fI) (gC : X.mg "BadDie" = some (.ref C)) (hr : Room k X.A) (ha : PA X [a, b] ta) (hg : Gl X "BadDie" := by rfl)
    (he : starEach (a :: [b]) X.env = (false, eval a X.env) :: starEach [b] X.env := by rfl) (hpl : (backTo pos (starEach [b] X.env)).any (·.1) = false := by rfl) :
    PMk X (.Call (.Name "BadDie" p) [a, b] [] pos) (tMkC C ta) := by
  intro pins s σ H Q I h
  refine wpAny_Call_Name_kw (ld_glob I hg gC ?_)
  refine PySem.W.callWith_K (h₀ := X.base) I.ok.mod.kin T.kC (thn (ha.run pos pins s σ H _ I h) fun us s1 hh => ?_) he hpl
  obtain ⟨vs, H1, I1, r1, v, v2, ev, q1⟩ := hh
  subst ev
  refine ⟨I1.kIn, ?_⟩
  cases r1 with
  | cons rv rn =>
    rename_i v' us'
    cases rn with
    | cons rv2 rn =>
    rename_i v2' us'
    cases rn
    show wpAny _ _ (call (.ref C) [v', v2']) _ _ _
    have hlim := I1.nolimit
    have hgl := I1.mod.glob.keeps I1.bk
    obtain ⟨mb, hb1, hb2⟩ := I1.mod.blt
    have hbl := hb1.keeps I1.bk
    obtain ⟨hp, g, dr, tk, os⟩ := s1
    refine wpAny_call (sup_made T I1.kIn hlim hgl ⟨mb, hbl, hb2⟩ (by have := hr.dp; omega) fun h' tk' e d M => ?_)
    show MkP X pins σ Q (.ref e) ⟨h', g, dr, tk', os⟩
    obtain ⟨oe, fv, hoe, hc, hd, hdat, h1⟩ := M.obj
    have hns := M.ns
    obtain ⟨G', g1, g2⟩ := restrict h' fun b => decide (b ≠ e)
    have gk : ∀ b, b ≠ e → G'.get? b = h'.get? b := fun b hb => g1 b (decide_eq_true hb)
    have ge : G'.get? e = none := g2 e (by simp)
    have old : ∀ b o, hp.get? b = some o → G'.get? b = some o := fun b o q => (gk b (Nat.ne_of_lt (Nat.lt_of_lt_of_le (Heap.lt_size q) M.new))).trans (M.keep b o q)
    have ob : ObjOk X.prog X.w (upd H1 d (.xd [(("at" : Str), v), (("word" : Str), v2)])) G' d (.xd [(("at" : Str), v), (("word" : Str), v2)]) :=
      ⟨_, hns.at (fun o q => (gk d M.dne).trans q), fun f => relO_f rv rv2 f⟩
    have J : Inv X pins σ (upd H1 d (.xd [(("at" : Str), v), (("word" : Str), v2)])) ⟨G', g, dr, tk', os⟩ := I1.laid (t' := tk') old M.dbig ob
    refine ⟨e, oe, fv, ⟨G', g, dr, tk', os⟩, _, .ref C, some d, rfl, J, fun b o q => ?_, ge, hoe, ⟨hc, hd⟩, hdat, h1, ?_, rfl, I1.bare, raises_own T.exC T.tyC, q1 d (I1.hok.fresh M.dbig)⟩
    · by_cases hb : b = e
      · have q' : G'.get? b = some o := q
        rw [hb, ge] at q'; cases q'
      · exact (gk b hb).symm.trans q
    · rw [upd_ne (Ne.symm M.dne)]
      exact I1.hok.fresh M.new
/-! ### raise -/
def sRaise (C : Addr) (fs : DEs) : DS := fun g l => (fs g l).out fun ds l1 => match ds with
  | [d, d2] => .ex C [("at", d), ("word", d2)] l1
  | _ => .bad
theorem as_raise {E : XK} {a b : Expr} {fs : DEs} {p pos pos2 : Pos} {k : Nat} (hc : X.calm = true) (T : SupTxt X.prog X.K X.mg C fI) (gC : X.mg "BadDie" = some (.ref C)) (hr : Room k X.A) (tk : Takes X (fun c d _ H => E c d H)) (ha : AA X E [a, b] fs) (hg : Gl X "BadDie" := by rfl)
    (he : starEach (a :: [b]) X.env = (false, eval a X.env) :: starEach [b] X.env := by rfl) (hpl : (backTo pos (starEach [b] X.env)).any (·.1) = false := by rfl) :
    AS X E (.Raise (some (.Call (.Name "BadDie" p) [a, b] [] pos)) none pos2) (sRaise C fs) := ⟨PS.imp (ps_raise hc tk (pmk_c T gC hr ha.pa hg he hpl)) fun D σ H ⟨ρ, l, g, o, s, p⟩ =>
  ⟨ρ, l, g, o, s, OutP.of (rel := rDs X.K) p fun ds l1 ρ1 H1 vs e1 s1 o1 r1 p1 => by
    split at p1
    · obtain ⟨v, v2, rfl, r2, r3⟩ := r1.two_
      refine ⟨v, v2, rfl, fun d hd => ?_⟩
      obtain ⟨o2, s2⟩ := o1.newX (u := .xd [(("at" : Str), v), (("word" : Str), v2)]) hd
      exact p1 ρ1 _ d _ s2 o2 upd_same rfl (by simpa using Rws.cons (s2.rw o1 r2) (Rws.one (s2.rw o1 r3)))
    · exact p1.elim⟩⟩
end
theorem SupTxt.f1 {P : Program} {K : PySem.W.Frag} {mg : Str → Option Value} {C fI : Addr} (T : SupTxt P K mg C fI) : FldTxt K C "at" := ⟨T.ga, T.gg, T.exC, T.hdC, T.noN⟩
theorem SupTxt.f2 {P : Program} {K : PySem.W.Frag} {mg : Str → Option Value} {C fI : Addr} (T : SupTxt P K mg C fI) : FldTxt K C "word" := ⟨T.ga, T.gg, T.exC, T.hdC, T.noM⟩
end Zy

set_option Elab.async false
set_option linter.all false
set_option maxRecDepth 100000
set_option maxHeartbeats 2000000
namespace Zv
open PySem PySem.W PySem.Calls PyProof.Rows PySem.HandSPX
def top (i : Nat) : Stmt := PySem.Challenge.pw_throwntrue_k82_whole_numbers.main.body.getD i (.Pass ⟨0, 0, 0, 0⟩)
def inC (s : Stmt) (j : Nat) : Stmt := match s with
  | .ClassDef (body := b) .. => b.getD j (.Pass ⟨0, 0, 0, 0⟩)
  | _ => .Pass ⟨0, 0, 0, 0⟩
abbrev sI : Stmt := inC (top 21) 0
/-- what the written part says of a class at C with two fields, over ValueError by another class, and of its __init__ at fI -/
structure SupTxt (P : Program) (K : Frag) (mg : Str → Option Value) (C fI : Addr) : Prop where
  cls : ∃ nm q N bs bm sn sub ab col dd k0 k1 k2 k3 k5, K.lookup C = some (excClassObj nm q C N bs bm true sn sub ab col dd k0 k1 k2 k3 k5 "ValueError.__new__") ∧ refsVE bm = true ∧ alongIn K "__init__" bm = some (some (.builtin "ValueError.__init__"))
  sa : findIn K (.ref C) "__setattr__" = some (some (.builtin "object.__setattr__"))
  ga : findIn K (.ref C) "__getattribute__" = some (some (.builtin "BaseException.__getattribute__"))
  gg : findIn K (.ref C) "__getattr__" = some none
  noN : findIn K (.ref C) "at" = some none
  noM : findIn K (.ref C) "word" = some none
  iC : findIn K (.ref C) "__init__" = some (some (.ref fI))
  tC : typeIn K (.ref fI) = some (.type "function")
  kC : keepIn K (.ref C) = true
  exC : subIn K (.ref C) (.type "BaseException") = some true
  exV : subIn K (.ref C) (.type "ValueError") = some true
  mroC : mroIn K C (.ref C) = some true
  tyC : typeIn K (.ref C) = some (.type "type")
  hdC : hasDictIn K C = true
  te : exmOne K (.ref C) (.ref C) = some true
  op : nsIn K cStatics "thirdparty.any" = some none
  noS : mg "super" = none
  topS : (P.main.scope.names.lookup ("super" : Str)).isSome = false
  bootS : bootBuiltins "super" = some (.type "super")
  fn : ∃ (oc : Value) (od : Option Addr) (doc pm : Value) (an : Option Addr) (ct : Value) (osl : Array (Option Value)) (qual : Str) (cda cc : Addr),
    K.lookup fI = some ⟨oc, od, .func (ksFn "__init__" qual (L2.defArgs sI) (L2.defBody sI) (L2.defScope sI) .none .none doc pm an (.ref cda) ct cc), osl⟩ ∧ codeIn K (.ref cda) qual = true ∧
    (∃ (cl : Value) (cld : Option Addr) (csl : Array (Option Value)), K.lookup cc = some ⟨cl, cld, .cell (some (.ref C)), csl⟩) ∧
    ∃ (ccl : Value) (cdd : Option Addr) (vs : Array Value) (ccs : Array (Option Value)) (file : Str) (tf : Tok), K.lookup cda = some ⟨ccl, cdd, .fields vs, ccs⟩ ∧ vs[2]? = some (.str file tf) ∧ ((P.main.file : Str) == file) = true
theorem within1 (n : Str) (v : Value) : Within (fun y => if y = n then some v else none) [n] := by
  intro y hy
  by_cases h : y = n
  · simp [h]
  · simp [h] at hy
/-- what __init__ leaves of a fresh exception at x -/
structure InitEnd (h h' : Heap) (x C dx t1 : Addr) (v v2 : Value) : Prop where
  keep : ∀ b o, b ≠ x → h.get? b = some o → h'.get? b = some o
  obj : h'.get? x = some { cls := .ref C, dict := some dx, data := .fields #[.ref t1, .none, .none, .none, .bool false, .none] }
  dbig : h.objs.size ≤ dx
  dne : dx ≠ x
  ns : h'.Ns1 dx (fun y => if y = "word" then some v2 else (if y = "at" then some v else none))
theorem call_w {prog : Program} {w : World} {A : Around} {E : Value → Shared → Prop} {h : Heap} {g : Array GenState} {d : Drawn} {t : Nat} {os : OsState}
    {nm q : Str} {C N : Addr} {bs bm : List Value} {hdct : Bool} {sn : List Str} {sub : List Value} {ab : Bool} {col : Option Bool} {dd : Option Addr} {k0 k1 k2 k3 k5 : Option Value} {u e t0 : Addr} {rest : List Value} {Q : Value → Shared → Prop}
    (hC : h.get? C = some (excClassObj nm q C N bs bm hdct sn sub ab col dd k0 k1 k2 k3 k5 "ValueError.__new__")) (he : h.get? e = some (HandSPX.excO C t0)) (hu : h.get? u = some (kxs_mw "ValueError.__init__" e)) (hrest : rest.length ≤ sizeLine)
    (hq : ∀ h' t1, (∀ b o, b ≠ e → h.get? b = some o → h'.get? b = some o) → h'.get? e = some (HandSPX.excO C t1) → Q .none ⟨h', g, d, t, os⟩) :
    wpAny (model prog w) A (call (.ref u) rest) Q E ⟨h, g, d, t, os⟩ := by
  refine wpAny_call (codeAny_of_tree ?_)
  show wpAny _ A.in1 (callAny (.ref u) ⟨rest, []⟩) _ _ _
  simp only [callAny]
  refine wpAny_bind (wpAny_load hu ?_)
  simp only [kxs_mw, show (Value.type "method-wrapper" == Value.type "method" || Value.type "method-wrapper" == Value.type "builtin_function_or_method" || Value.type "method-wrapper" == Value.type "method-wrapper") = true by decide, if_true]
  refine W.KFB.if_so (by decide) ?_
  refine wpAny_bind (ESX.check_bound F.excBase_ValueError hC he rfl ?_)
  refine wpAny_bind (wpAny_pure (wpAny_pure ?_))
  refine ⟨Code.quiet_builtin _ (by decide +kernel), codeAny_builtin F.excBase_ValueError.initEntry ?_⟩
  rw [Around.under_plainId F.excBase_ValueError.init.plain _]
  wp_walk
  refine hq _ h.objs.size (fun b o hb ho => ?_) ?_
  · rw [Heap.get?_update_other _ _ (Ne.symm hb)]
    exact Heap.get?_push_of_some _ ho
  · rw [Heap.get?_update_self _ (Heap.get?_push_of_some _ he) rfl]
    rfl
section
variable {prog : Program} {w : World} {A : Around} {E : Value → Shared → Prop} {R : Result → Shared → Prop} {s : Shared} {K : Frag} {mg : Str → Option Value} {C fI : Addr}
theorem sup_init (T : SupTxt prog K mg C fI) {x t0 : Addr} {v v2 : Value} (X : K.In s.heap) (hlim : s.heap.NoLimit) (hglob : s.heap.Ns mainGlobals mg) (hblt : ∃ mb, s.heap.Ns builtinsNs mb ∧ ∀ x : Str, x ≠ "__name__" → mb x = bootBuiltins x)
    (hx : s.heap.get? x = some (excO C t0)) (hnx : K.lookup x = none) (hroom : A.depth < recursionLimit)
    (hq : ∀ h' tk dx t1, InitEnd s.heap h' x C dx t1 v v2 → R (.ok (.ret .none)) { s with heap := h', toks := tk }) :
    codeAny (model prog w) A (.call (.ref fI) ⟨[.ref x, v, v2], []⟩) R s := by
  obtain ⟨oc, od, doc, pm, an, ct, osl, qual, cda, cc, ho, hcd, ⟨cl, cld, csl, hcell⟩, ccl, cdd, vs, ccs, file, tf, hcode, hvs, hfile⟩ := T.fn
  obtain ⟨nm, q, N, bs, bm, sn, sub, ab, col, dd, k0, k1, k2, k3, k5, hC, hbm, hal⟩ := T.cls
  have hcl : clsIn K C = some { name := nm, bases := bs, mro := .ref C :: bm, ns := N, qualname := q, hasDict := true, slotNames := sn, subclasses := sub, abstract := ab, collection := col, hasDel := false } := by unfold clsIn; rw [hC] <;> rfl
  refine ks_codeAny_call_defAt (fd := ksFn "__init__" qual (L2.defArgs sI) (L2.defBody sI) (L2.defScope sI) .none .none doc pm an (.ref cda) ct cc) (body := L2.defBody sI) (binds := [("self", .ref x), ("at", v), ("word", v2)]) hroom (X _ _ ho) rfl hlim (codeRec_of X hcd) rfl
    (BindsTo.of_eq (by first | rfl | with_unfolding_all rfl)) (show ∀ x ∈ (L2.defScope sI).names, x.2 ≠ .cell by decide +kernel) (by simp only [List.mem_cons, List.not_mem_nil, or_false, forall_eq_or_imp, forall_eq]; exact ⟨rfl, rfl, rfl⟩) (fun h₁ hns hk₁ => ?_) rfl rfl rfl
  obtain ⟨hp, g, d, t, os⟩ := s
  dsimp only at hk₁ hns X hlim hx hglob hblt hq ⊢
  have X₁ : K.In h₁ := X.keeps hk₁
  have hx₁ := hk₁ _ _ hx
  obtain ⟨mb, hb1, hb2⟩ := hblt
  have hI : InstAt h₁ x (excO C t0) C none := ⟨hx₁, rfl, rfl, trivial⟩
  have hisV : Looks (model prog w) h₁ (isInstance (.ref x) (.type "ValueError")) true := hI.type.andThen (looks_subIn X₁ T.exV)
  obtain ⟨oD, hD1, hD2⟩ : ∃ oD, h₁.get? C = some oD ∧ oD.data = .cls { name := nm, bases := bs, mro := .ref C :: bm, ns := N, qualname := q, hasDict := true, slotNames := sn, subclasses := sub, abstract := ab, collection := col, hasDel := false } := ⟨_, X₁ _ _ hC, rfl⟩
  -- super().__init__(a)
  refine ks_wpAt_execs_cons (ks_wpAt_Expr_any (ks_wpAt_MethodCall ?_))
  refine ks_wpAt_super_base (env := ksEnv qual (L2.defScope sI) hp.objs.size fI (.ref cda) cc) rfl rfl rfl rfl (X₁ _ _ ho) rfl rfl rfl (X₁ _ _ hcode) rfl hvs hfile T.topS ?_
  refine ks_loadName_global rfl rfl (loadGlobal_builtin (env := ksEnv qual (L2.defScope sI) hp.objs.size fI (.ref cda) cc) (hglob.keeps hk₁) T.noS (hb1.keeps hk₁) ((hb2 _ (by decide)).trans T.bootS) ⟨rfl, ?_⟩)
  refine wpAny_loadName_free rfl rfl rfl ⟨_, X₁ _ _ hcell, rfl⟩ ?_
  refine wpAny_loadName_local rfl rfl hns (by first | rfl | with_unfolding_all rfl) ?_
  refine ks_wpAny_isType_cls hD1 hD2 ⟨rfl, ?_⟩
  refine ks_wpAny_call_super hD1 hD2 hx₁ rfl (fun c e => by cases e) (looks_mroIn X₁ T.mroC) (fun h₂ e2 k2 => ?_)
  have X₂ : K.In h₂ := X₁.keeps k2
  have hx₂ := k2 _ _ hx₁
  have hxC : x ≠ C := fun z => by rw [z, hC] at hnx; cases hnx
  refine kxs_getMethod kxs_ValueError e2 (looks_opaque X₂ T.op) (l₀ := .ref C :: bm) ?_ (ESX.drop_own C bm) X₂ hal (hisV.keeps k2) hxC rfl ?_
  · exact fun A Q E s k q => wpAny_bind ((looks_clsIn X₂ hcl) A _ E s k (wpAny_pure q))
  have hu : (h₂.push (kxs_mw "ValueError.__init__" x)).get? h₂.objs.size = some (kxs_mw "ValueError.__init__" x) := Heap.get?_push_at rfl rfl
  have k3 : ∀ b o, h₂.get? b = some o → (h₂.push (kxs_mw "ValueError.__init__" x)).get? b = some o := fun b o e => Heap.get?_push_of_some _ e
  have hns₃ : (h₂.push (kxs_mw "ValueError.__init__" x)).Ns hp.objs.size (fun y => ([("self", .ref x), ("at", v), ("word", v2)] : List (Str × Value)).reverse.lookup y) := (hns.keeps k2).keeps k3
  have X₃ : K.In (h₂.push (kxs_mw "ValueError.__init__" x)) := X₂.keeps k3
  have hx₃ := k3 _ _ hx₂
  refine kxs_callWith (i := "ValueError.__init__") (x := x) rfl (evalArgs_plain ?_)
  refine Calls.spliced_cons ?_
  refine ESX.ldL (env := callEnv (ksFn "__init__" qual (L2.defArgs sI) (L2.defBody sI) (L2.defScope sI) .none .none doc pm an (.ref cda) ct cc) hp.objs.size fI) (v := v) hns₃ (by first | rfl | with_unfolding_all rfl) ?_ rfl rfl
  refine Calls.spliced_cons ?_
  refine ESX.ldL (env := callEnv (ksFn "__init__" qual (L2.defArgs sI) (L2.defBody sI) (L2.defScope sI) .none .none doc pm an (.ref cda) ct cc) hp.objs.size fI) (v := v2) hns₃ (by first | rfl | with_unfolding_all rfl) ?_ rfl rfl
  refine Calls.spliced_nil ⟨hu, ?_⟩
  show wpAny _ _ (call (.ref h₂.objs.size) [v, v2]) _ _ _
  refine call_w (X₃ _ _ hC) hx₃ hu (show [v, v2].length ≤ sizeLine by rw [sizeLine_eq]; exact (by decide : 2 ≤ 16777216)) fun h₄ t1 k4 hx₄ => ?_
  -- self.a = a
  have xL : hp.objs.size ≠ x := Nat.ne_of_gt (Heap.lt_size hx)
  have X₄ : K.In h₄ := fun b o e => k4 b o (fun z => by rw [z, hnx] at e; cases e) (X₃ b o e)
  have hns₄ : h₄.Ns hp.objs.size (fun y => ([("self", .ref x), ("at", v), ("word", v2)] : List (Str × Value)).reverse.lookup y) := by
    obtain ⟨oL, es, ep, hL, r⟩ := hns₃
    exact ⟨oL, es, ep, k4 _ _ xL hL, r⟩
  show PySem.wpAt _ _ _ (execs _ _) _ _ _
  refine ks_wpAt_execs_cons (ks_wpAt_Assign_Attr ?_)
  refine PySem.wpAt_of_wpAny ?_
  refine ESX.ldL (env := callEnv (ksFn "__init__" qual (L2.defArgs sI) (L2.defBody sI) (L2.defScope sI) .none .none doc pm an (.ref cda) ct cc) hp.objs.size fI) (v := v) hns₄ (by first | rfl | with_unfolding_all rfl) ?_ rfl rfl
  refine ESX.ldL (env := callEnv (ksFn "__init__" qual (L2.defArgs sI) (L2.defBody sI) (L2.defScope sI) .none .none doc pm an (.ref cda) ct cc) hp.objs.size fI) (v := .ref x) hns₄ (by first | rfl | with_unfolding_all rfl) ?_ rfl rfl
  refine set_plain X₄ (ox := excO C t1) (od := none) ⟨hx₄, rfl, rfl, trivial⟩ T.sa ?_
  refine exc_osa X₄ hx₄ hcl (show refsVE (.ref C :: bm) = true from hbm) rfl T.noN (fun h₅ tk₅ dx k₅ dn dne hx₅ hn₅ => ?_)
  have z : hp.objs.size ≤ h₄.objs.size := by
    obtain ⟨oL, es, ep, hL, r⟩ := hns₄
    exact Nat.le_of_lt (Heap.lt_size hL)
  -- self.b = b
  have X₅ : K.In h₅ := fun b o e => k₅ b o (fun z => by rw [z, hnx] at e; cases e) (X₄ b o e)
  have hns₅ : h₅.Ns hp.objs.size (fun y => ([("self", .ref x), ("at", v), ("word", v2)] : List (Str × Value)).reverse.lookup y) := by
    obtain ⟨oL, es, ep, hL, r⟩ := hns₄
    exact ⟨oL, es, ep, k₅ _ _ xL hL, r⟩
  show PySem.wpAt _ _ _ (execs _ _) _ _ _
  refine ks_wpAt_execs_cons (ks_wpAt_Assign_Attr ?_)
  refine PySem.wpAt_of_wpAny ?_
  refine ESX.ldL (env := callEnv (ksFn "__init__" qual (L2.defArgs sI) (L2.defBody sI) (L2.defScope sI) .none .none doc pm an (.ref cda) ct cc) hp.objs.size fI) (v := v2) hns₅ (by first | rfl | with_unfolding_all rfl) ?_ rfl rfl
  refine ESX.ldL (env := callEnv (ksFn "__init__" qual (L2.defArgs sI) (L2.defBody sI) (L2.defScope sI) .none .none doc pm an (.ref cda) ct cc) hp.objs.size fI) (v := .ref x) hns₅ (by first | rfl | with_unfolding_all rfl) ?_ rfl rfl
  obtain ⟨oDx, esDx, epDx, hoDx, hrDx⟩ := hn₅.count (within1 _ _)
  refine set_plain X₅ (ox := { cls := .ref C, dict := some dx, data := .fields #[.ref t1, .none, .none, .none, .bool false, .none] }) (od := some oDx) ⟨hx₅, rfl, rfl, hoDx⟩ T.sa ?_
  refine PySem.OEX.osa_old X₅ hx₅ hn₅ (nl := ["at"]) (within1 _ _) (by decide) hcl (show refsVE (.ref C :: bm) = true from hbm) rfl T.noM (fun h₆ tk₆ k₆ hn₆ => ?_)
  show PySem.wpAt _ _ _ (execs [] _) _ _ _
  have bdx : ∀ b o, hp.get? b = some o → b ≠ dx := fun b o e => Nat.ne_of_lt (Nat.lt_of_lt_of_le (Heap.lt_size e) (Nat.le_trans z dn))
  refine PySem.wpAt_of_wpAny (wpAny_execs_nil (hq h₆ _ dx t1 ⟨fun b o hb e => k₆ b o (bdx b o e) (k₅ b o hb (k4 b o hb (k3 _ _ (k2 _ _ (hk₁ b o e))))), k₆ _ _ (Ne.symm dne) hx₅, Nat.le_trans z dn, dne, hn₆⟩))
/-- a made exception -/
structure OwnMade (h h' : Heap) (e C d : Addr) (v v2 : Value) : Prop where
  keep : ∀ b o, h.get? b = some o → h'.get? b = some o
  new : h.objs.size ≤ e
  obj : ∃ oe vs, h'.get? e = some oe ∧ oe.cls = .ref C ∧ oe.dict = some d ∧ oe.data = .fields vs ∧ vs[1]? = some .none
  dbig : h.objs.size ≤ d
  dne : d ≠ e
  ns : h'.Ns1 d (fun y => if y = "word" then some v2 else (if y = "at" then some v else none))
theorem sup_made (T : SupTxt prog K mg C fI) {v v2 : Value} (X : K.In s.heap) (hlim : s.heap.NoLimit) (hglob : s.heap.Ns mainGlobals mg) (hblt : ∃ mb, s.heap.Ns builtinsNs mb ∧ ∀ x : Str, x ≠ "__name__" → mb x = bootBuiltins x) (hroom : A.depth + 1 < recursionLimit)
    (hq : ∀ h' tk e d, OwnMade s.heap h' e C d v v2 → R (.ok (.ret (.ref e))) { s with heap := h', toks := tk }) :
    codeAny (model prog w) A (.call (.ref C) ⟨[v, v2], []⟩) R s := by
  obtain ⟨nm, q, N, bs, bm, sn, sub, ab, col, dd, k0, k1, k2, k3, k5, hC, hbm, hal⟩ := T.cls
  obtain ⟨hp, g, dr, tk, os⟩ := s
  have k : ∀ b o, hp.get? b = some o → ((hp.push (kdv_tup [v, v2])).push (excO C hp.objs.size)).get? b = some o := fun b o e => Heap.get?_push_of_some _ (Heap.get?_push_of_some _ e)
  have hget : ((hp.push (kdv_tup [v, v2])).push (excO C hp.objs.size)).get? (hp.objs.size + 1) = some (excO C hp.objs.size) := by heap_get
  have hnx : K.lookup (hp.objs.size + 1) = none := by
    cases e : K.lookup (hp.objs.size + 1) with
    | none => rfl
    | some o =>
      have z : hp.get? (hp.objs.size + 1) = some o := X _ _ e
      exact absurd (Nat.lt_of_succ_lt (Heap.lt_size z)) (Nat.lt_irrefl _)
  obtain ⟨mb, hb1, hb2⟩ := hblt
  refine call_own F.excBase_ValueError (fun X => refsVE_contains X bm hbm) (X _ _ hC) (looks_findIn X T.iC) (fun self => bind_fn X self T.tC) (show [v, v2].length ≤ sizeLine by rw [sizeLine_eq]; exact (by decide : 2 ≤ 16777216)) ?_
  refine sup_init (s := ⟨(hp.push (kdv_tup [v, v2])).push (excO C hp.objs.size), g, dr, tk, os⟩) T (X.keeps k) (hlim.keeps k) (hglob.keeps k) ⟨mb, hb1.keeps k, hb2⟩ hget hnx ?_ fun h' tk' dx t1 ⟨k', hx, dn, dne, hns⟩ => ?_
  · show A.depth + 1 < recursionLimit
    exact hroom
  · have old : ∀ b o, hp.get? b = some o → h'.get? b = some o := fun b o e => k' b o (Nat.ne_of_lt (Nat.lt_succ_of_lt (Heap.lt_size e))) (k b o e)
    have z : hp.objs.size + 1 + 1 ≤ dx := by
      first
        | (simpa only [Heap.size_push] using dn)
        | exact dn
        | (have q := dn; rw [Heap.size_push, Heap.size_push] at q; exact q)
    exact ⟨rfl, hq h' tk' (hp.objs.size + 1) dx ⟨old, Nat.le_succ _, ⟨_, _, hx, rfl, rfl, rfl, rfl⟩, Nat.le_trans (Nat.le_trans (Nat.le_succ _) (Nat.le_succ _)) z, dne, hns⟩⟩
end
end Zv

set_option Elab.async false
set_option linter.all false
set_option maxRecDepth 100000
set_option maxHeartbeats 2000000
namespace Zv
open PySem L2 PySem.Spec PyProof.Rows Zb
theorem relO_f {v v2 : V} {v' v2' : Value} (r : RelV v v') (r2 : RelV v2 v2') (f : Str) : RelO (List.lookup f [(("at" : Str), v), (("word" : Str), v2)]) (if f = "word" then some v2' else (if f = "at" then some v' else none)) := by
  by_cases hw : f = "word"
  · subst hw
    rw [if_pos rfl]
    have q0 : (("word" : Str) == ("at" : Str)) = false := by decide
    have q : List.lookup ("word" : Str) [(("at" : Str), v), (("word" : Str), v2)] = some v2 := by simp [List.lookup, q0]
    rw [q]
    exact r2
  · rw [if_neg hw]
    have qw : (f == ("word" : Str)) = false := by simpa using hw
    by_cases h1 : f = "at"
    · subst h1
      rw [if_pos rfl]
      have q : List.lookup ("at" : Str) [(("at" : Str), v), (("word" : Str), v2)] = some v := by simp [List.lookup]
      rw [q]
      exact r
    · rw [if_neg h1]
      have q1 : (f == ("at" : Str)) = false := by simpa using h1
      have q2 : List.lookup f [(("at" : Str), v), (("word" : Str), v2)] = none := by simp [List.lookup, qw, q1]
      rw [q2]
      trivial
section
variable {X : Cx} {C fI : Addr}
/-- the class at C called with one thing -/
def tMkC (C : Addr) (ta : TA) : L2.St → Hp → XK → Prop := fun σ H Q => ta σ H fun vs H1 => ∃ v v2, vs = [v, v2] ∧ ∀ d, H1 d = none → Q (.ref C) (some d) (upd H1 d (.xd [(("at" : Str), v), (("word" : Str), v2)]))
theorem pmk_c {a b : Expr} {ta : TA} {p pos : Pos} {k : Nat} (T : SupTxt X.prog X.K X.mg C fI) (gC : X.mg "BadTable" = some (.ref C)) (hr : Room k X.A) (ha : PA X [a, b] ta) (hg : Gl X "BadTable" := by rfl)
    (he : starEach (a :: [b]) X.env = (false, eval a X.env) :: starEach [b] X.env := by rfl) (hpl : (backTo pos (starEach [b] X.env)).any (·.1) = false := by rfl) :
    PMk X (.Call (.Name "BadTable" p) [a, b] [] pos) (tMkC C ta) := by
  intro pins s σ H Q I h
  refine wpAny_Call_Name_kw (ld_glob I hg gC ?_)
  refine PySem.W.callWith_K (h₀ := X.base) I.ok.mod.kin T.kC (thn (ha.run pos pins s σ H _ I h) fun us s1 hh => ?_) he hpl
  obtain ⟨vs, H1, I1, r1, v, v2, ev, q1⟩ := hh
  subst ev
  refine ⟨I1.kIn, ?_⟩
  cases r1 with
  | cons rv rn =>
    rename_i v' us'
    cases rn with
    | cons rv2 rn =>
    rename_i v2' us'
    cases rn
    show wpAny _ _ (call (.ref C) [v', v2']) _ _ _
    have hlim := I1.nolimit
    have hgl := I1.mod.glob.keeps I1.bk
    obtain ⟨mb, hb1, hb2⟩ := I1.mod.blt
    have hbl := hb1.keeps I1.bk
    obtain ⟨hp, g, dr, tk, os⟩ := s1
    refine wpAny_call (sup_made T I1.kIn hlim hgl ⟨mb, hbl, hb2⟩ (by have := hr.dp; omega) fun h' tk' e d M => ?_)
    show MkP X pins σ Q (.ref e) ⟨h', g, dr, tk', os⟩
    obtain ⟨oe, fv, hoe, hc, hd, hdat, h1⟩ := M.obj
    have hns := M.ns
    obtain ⟨G', g1, g2⟩ := restrict h' fun b => decide (b ≠ e)
    have gk : ∀ b, b ≠ e → G'.get? b = h'.get? b := fun b hb => g1 b (decide_eq_true hb)
    have ge : G'.get? e = none := g2 e (by simp)
    have old : ∀ b o, hp.get? b = some o → G'.get? b = some o := fun b o q => (gk b (Nat.ne_of_lt (Nat.lt_of_lt_of_le (Heap.lt_size q) M.new))).trans (M.keep b o q)
    have ob : ObjOk X.prog X.w (upd H1 d (.xd [(("at" : Str), v), (("word" : Str), v2)])) G' d (.xd [(("at" : Str), v), (("word" : Str), v2)]) :=
      ⟨_, hns.at (fun o q => (gk d M.dne).trans q), fun f => relO_f rv rv2 f⟩
    have J : Inv X pins σ (upd H1 d (.xd [(("at" : Str), v), (("word" : Str), v2)])) ⟨G', g, dr, tk', os⟩ := I1.laid (t' := tk') old M.dbig ob
    refine ⟨e, oe, fv, ⟨G', g, dr, tk', os⟩, _, .ref C, some d, rfl, J, fun b o q => ?_, ge, hoe, ⟨hc, hd⟩, hdat, h1, ?_, rfl, I1.bare, raises_own T.exC T.tyC, q1 d (I1.hok.fresh M.dbig)⟩
    · by_cases hb : b = e
      · have q' : G'.get? b = some o := q
        rw [hb, ge] at q'; cases q'
      · exact (gk b hb).symm.trans q
    · rw [upd_ne (Ne.symm M.dne)]
      exact I1.hok.fresh M.new
/-! ### raise -/
def sRaise (C : Addr) (fs : DEs) : DS := fun g l => (fs g l).out fun ds l1 => match ds with
  | [d, d2] => .ex C [("at", d), ("word", d2)] l1
  | _ => .bad
theorem as_raise {E : XK} {a b : Expr} {fs : DEs} {p pos pos2 : Pos} {k : Nat} (hc : X.calm = true) (T : SupTxt X.prog X.K X.mg C fI) (gC : X.mg "BadTable" = some (.ref C)) (hr : Room k X.A) (tk : Takes X (fun c d _ H => E c d H)) (ha : AA X E [a, b] fs) (hg : Gl X "BadTable" := by rfl)
    (he : starEach (a :: [b]) X.env = (false, eval a X.env) :: starEach [b] X.env := by rfl) (hpl : (backTo pos (starEach [b] X.env)).any (·.1) = false := by rfl) :
    AS X E (.Raise (some (.Call (.Name "BadTable" p) [a, b] [] pos)) none pos2) (sRaise C fs) := ⟨PS.imp (ps_raise hc tk (pmk_c T gC hr ha.pa hg he hpl)) fun D σ H ⟨ρ, l, g, o, s, p⟩ =>
  ⟨ρ, l, g, o, s, OutP.of (rel := rDs X.K) p fun ds l1 ρ1 H1 vs e1 s1 o1 r1 p1 => by
    split at p1
    · obtain ⟨v, v2, rfl, r2, r3⟩ := r1.two_
      refine ⟨v, v2, rfl, fun d hd => ?_⟩
      obtain ⟨o2, s2⟩ := o1.newX (u := .xd [(("at" : Str), v), (("word" : Str), v2)]) hd
      exact p1 ρ1 _ d _ s2 o2 upd_same rfl (by simpa using Rws.cons (s2.rw o1 r2) (Rws.one (s2.rw o1 r3)))
    · exact p1.elim⟩⟩
end
theorem SupTxt.f1 {P : Program} {K : PySem.W.Frag} {mg : Str → Option Value} {C fI : Addr} (T : SupTxt P K mg C fI) : FldTxt K C "at" := ⟨T.ga, T.gg, T.exC, T.hdC, T.noN⟩
theorem SupTxt.f2 {P : Program} {K : PySem.W.Frag} {mg : Str → Option Value} {C fI : Addr} (T : SupTxt P K mg C fI) : FldTxt K C "word" := ⟨T.ga, T.gg, T.exC, T.hdC, T.noM⟩
end Zv

set_option Elab.async false
set_option linter.all false
set_option maxRecDepth 100000
set_option maxHeartbeats 4000000
namespace Q82
open PySem L2 PySem.Spec PyProof.Rows Zb
def top (i : Nat) : Stmt := PySem.Challenge.pw_throwntrue_k82_whole_numbers.main.body.getD i (.Pass ⟨0, 0, 0, 0⟩)
structure Bu (mg : Str → Option Value) : Prop where
  m_abs : mg "abs" = none
  m_bool : mg "bool" = none
  m_enumerate : mg "enumerate" = none
  m_int : mg "int" = none
  m_isinstance : mg "isinstance" = none
  m_len : mg "len" = none
  m_list : mg "list" = none
  m_max : mg "max" = none
  m_min : mg "min" = none
  m_range : mg "range" = none
  m_str : mg "str" = none
  m_sum : mg "sum" = none
  m_tuple : mg "tuple" = none
  g_MOST_THROWS : ∃ u, mg "MOST_THROWS" = some u ∧ RelV (.int 100) u
  g_MOST_OUTCOMES : ∃ u, mg "MOST_OUTCOMES" = some u ∧ RelV (.int 5) u
/-! choices -/
abbrev s_choices : Stmt := top 1
abbrev sc_choicesN : List Str := ["many", "few", "told", "step"]
theorem sc_choices : FnScope sc_choicesN ["many", "few"] (defScope s_choices) := ⟨rfl, rfl, rfl, by decide +kernel, rfl, by decide +kernel, by decide +kernel⟩
noncomputable def b1_choices : DS :=
  (sSet 2 (dOp (hInt (fun _ j => divOk j) fun i j => i / j) (dOp hMulT (dV 2) (dOp (hInt yes2 fun i j => i - j) (dV 0) (dV 3))) (dOp hAdd (dV 3) (dC (.int 1)))))
noncomputable def den_choices : DS :=
  (sSeq (sIf (dBl (dOp (hCmp fun i j => decide (j < i)) (dV 1) (dV 0))) (sRet (dC (.int 0))) sNx)
    (sSeq (sSet 2 (dC (.int 1)))
    (sSeq (sFor (dRng1 (dCons (dCB hMin2 (dCons (dV 1) (dCons (dOp (hInt yes2 fun i j => i - j) (dV 0) (dV 1)) dNil))) dNil)) (gN 3) b1_choices)
    (sRet (dV 2)))))
noncomputable def m_choices : List D → Sto → Res D := callM (runB 4 den_choices)
theorem ok_choices {P : Program} {w : World} {K : PySem.W.Frag} {mg : Str → Option Value} {base : Heap} {f : Addr} {fd : FuncData} (F : Fun K "choices" "choices" s_choices f fd) (B : Bu mg) :
    FnOk P w K mg base CX0 1 f fd ["many", "few"] (spD K 2 (runB 4 den_choices)) :=
  ok_body (k := 0) F sc_choices fun cdv A outer s H E hr =>
    (as_cons (as_if (at_gt (ae_var (pv 1)) (ae_var (pv 0))) (as_one (as_ret ae_int)) as_nil)
    (as_cons (as_set (i := 2) sc_choices.nd rfl (Or.inl rfl) ae_int)
    (as_cons (as_for PassesOwn.never rfl (ai_range1 rfl B.m_range (aa_cons (ae_min2 rfl rfl B.m_min (aa_cons (ae_var (pv 1)) (aa_cons (ae_sub (ae_var (pv 0)) (ae_var (pv 1))) aa_nil))) aa_nil)) (ag_name (i := 3) sc_choices.nd rfl (Or.inl rfl)) (as_one (as_set (i := 2) sc_choices.nd rfl (Or.inl rfl) (ae_div (ae_mulT (ae_var (pv 2)) (ae_sub (ae_var (pv 0)) (ae_var (pv 3)))) (ae_add (ae_var (pv 3)) ae_int)))))
    (as_one (as_ret (ae_var (pv 2)))))))
/-! choice_row -/
abbrev s_choice_row : Stmt := top 2
abbrev sc_choice_rowN : List Str := ["many", "row", "step"]
theorem sc_choice_row : FnScope sc_choice_rowN ["many"] (defScope s_choice_row) := ⟨rfl, rfl, rfl, by decide +kernel, rfl, by decide +kernel, by decide +kernel⟩
noncomputable def b1_choice_row : DS :=
  (sExpr (dMe hApp (dV 1) (dCons (dOp (hInt (fun _ j => divOk j) fun i j => i / j) (dOp hMulT (dOp hIx (dV 1) (dUn hNeg (dC (.int 1)))) (dOp (hInt yes2 fun i j => i - j) (dV 0) (dV 2))) (dOp hAdd (dV 2) (dC (.int 1)))) dNil)))
noncomputable def den_choice_row : DS :=
  (sSeq (sSet 1 (dLst (dCons (dC (.int 1)) dNil)))
    (sSeq (sFor (dRng1 (dCons (dV 0) dNil)) (gN 2) b1_choice_row)
    (sRet (dCB hTupOf (dCons (dV 1) dNil)))))
noncomputable def m_choice_row : List D → Sto → Res D := callM (runB 3 den_choice_row)
theorem ok_choice_row {P : Program} {w : World} {K : PySem.W.Frag} {mg : Str → Option Value} {base : Heap} {f : Addr} {fd : FuncData} (F : Fun K "choice_row" "choice_row" s_choice_row f fd) (B : Bu mg) :
    FnOk P w K mg base CX0 1 f fd ["many"] (spD K 1 (runB 3 den_choice_row)) :=
  ok_body (k := 0) F sc_choice_row fun cdv A outer s H E hr =>
    (as_cons (as_set (i := 1) sc_choice_row.nd rfl (Or.inl rfl) (ae_lst (aa_cons ae_int aa_nil)))
    (as_cons (as_for PassesOwn.never rfl (ai_range1 rfl B.m_range (aa_cons (ae_var (pv 0)) aa_nil)) (ag_name (i := 2) sc_choice_row.nd rfl (Or.inl rfl)) (as_one (as_expr (ae_append (ae_var (pv 1)) (aa_cons (ae_div (ae_mulT (ae_ix (ae_var (pv 1)) (ae_neg ae_int)) (ae_sub (ae_var (pv 0)) (ae_var (pv 2)))) (ae_add (ae_var (pv 2)) ae_int)) aa_nil)))))
    (as_one (as_ret (ae_tupOf rfl B.m_tuple (aa_cons (ae_var (pv 1)) aa_nil))))))
/-! power -/
abbrev s_power : Stmt := top 3
abbrev sc_powerN : List Str := ["number", "times", "told", "base"]
theorem sc_power : FnScope sc_powerN ["number", "times"] (defScope s_power) := ⟨rfl, rfl, rfl, by decide +kernel, rfl, by decide +kernel, by decide +kernel⟩
noncomputable def c1_power : DB :=
  (dBl (dOp (hCmp fun i j => decide (j < i)) (dV 1) (dC (.int 0))))
noncomputable def b2_power : DS :=
  (sSeq (sIf (dBl (dOp hEq (dOp (hInt (fun _ j => decide (j ≠ 0)) Int.fmod) (dV 1) (dC (.int 2))) (dC (.int 1)))) (sSet 2 (dOp hMulT (dV 2) (dV 3))) sNx)
    (sSeq (sSet 3 (dOp hMulT (dV 3) (dV 3)))
    (sSet 1 (dOp (hInt (fun _ j => divOk j) fun i j => i / j) (dV 1) (dC (.int 2))))))
noncomputable def den_power : DS :=
  (sSeq (sPar 2 3 (dCons (dC (.int 1)) (dCons (dV 0) dNil)))
    (sSeq (sWhile fuel c1_power b2_power)
    (sRet (dV 2))))
noncomputable def m_power : List D → Sto → Res D := callM (runB 4 den_power)
theorem ok_power {P : Program} {w : World} {K : PySem.W.Frag} {mg : Str → Option Value} {base : Heap} {f : Addr} {fd : FuncData} (F : Fun K "power" "power" s_power f fd) (B : Bu mg) :
    FnOk P w K mg base CX0 1 f fd ["number", "times"] (spD K 2 (runB 4 den_power)) :=
  ok_body (k := 0) F sc_power fun cdv A outer s H E hr =>
    (as_cons (as_par (i := 2) (j := 3) rfl sc_power.nd rfl rfl (by decide) rfl rfl (aa_cons ae_int (aa_cons (ae_var (pv 0)) aa_nil)) rfl)
    (as_cons (as_while PassesOwn.never (at_gt (ae_var (pv 1)) ae_int) (as_cons (as_if (at_eq hr.units (ae_mod (ae_var (pv 1)) ae_int) ae_int) (as_one (as_set (i := 2) sc_power.nd rfl (Or.inl rfl) (ae_mulT (ae_var (pv 2)) (ae_var (pv 3))))) as_nil)
    (as_cons (as_set (i := 3) sc_power.nd rfl (Or.inl rfl) (ae_mulT (ae_var (pv 3)) (ae_var (pv 3))))
    (as_one (as_set (i := 1) sc_power.nd rfl (Or.inl rfl) (ae_div (ae_var (pv 1)) ae_int))))))
    (as_one (as_ret (ae_var (pv 2))))))
/-! heavy_faces -/
abbrev s_heavy_faces : Stmt := top 5
abbrev sc_heavy_facesN : List Str := ["die", "face", "weight"]
theorem sc_heavy_faces : FnScope sc_heavy_facesN ["die"] (defScope s_heavy_faces) := ⟨rfl, rfl, rfl, by decide +kernel, rfl, by decide +kernel, by decide +kernel⟩
noncomputable def e1_heavy_faces : DE :=
  (dV 1)
noncomputable def q2_heavy_faces : DB :=
  (dBl (dOp hEq (dV 2) (dOp hIx (dV 0) (dC (.int 0)))))
noncomputable def den_heavy_faces : DS :=
  (sRet (dCB hTupOf (dCons (dLc (dEnum (dCons (dV 0) dNil)) (gT [1, 2]) q2_heavy_faces e1_heavy_faces [1, 2]) dNil)))
noncomputable def m_heavy_faces : List D → Sto → Res D := callM (runB 3 den_heavy_faces)
theorem ok_heavy_faces {P : Program} {w : World} {K : PySem.W.Frag} {mg : Str → Option Value} {base : Heap} {f : Addr} {fd : FuncData} (F : Fun K "heavy_faces" "heavy_faces" s_heavy_faces f fd) (B : Bu mg) :
    FnOk P w K mg base CX0 1 f fd ["die"] (spD K 1 (runB 3 den_heavy_faces)) :=
  ok_body (k := 0) F sc_heavy_faces fun cdv A outer s H E hr =>
    (as_one (as_ret (ae_tupOf rfl B.m_tuple (aa_cons (ae_lcv [("face", 1), ("weight", 2)] rfl rfl sc_heavy_faces.nd (ai_enum rfl B.m_enumerate (aa_cons (ae_var (pv 0)) aa_nil)) (blkOk_by (own := [("face", 1), ("weight", 2)]) (N := sc_heavy_facesN) (sc := defScope s_heavy_faces) (by decide +kernel)) (fun _ _ _ _ _ => pg_tup rfl (pgs_cons (pg_name (i := 1) sc_heavy_faces.nd rfl (Or.inl rfl)) (pgs_cons (pg_name (i := 2) sc_heavy_faces.nd rfl (Or.inl rfl)) pgs_nil))) (fun _ _ _ _ _ => pts_one_ (at_eq hr.units (ae_var (pv 2)) (ae_ix (ae_var (pv 0)) ae_int))) (fun _ _ _ _ _ => (ae_var (pv 1))) (agw_two (by decide) (by decide))) aa_nil))))
/-! light_faces -/
abbrev s_light_faces : Stmt := top 6
abbrev sc_light_facesN : List Str := ["die", "face", "weight"]
theorem sc_light_faces : FnScope sc_light_facesN ["die"] (defScope s_light_faces) := ⟨rfl, rfl, rfl, by decide +kernel, rfl, by decide +kernel, by decide +kernel⟩
noncomputable def e1_light_faces : DE :=
  (dV 1)
noncomputable def q2_light_faces : DB :=
  (dBl (dOp hNe (dV 2) (dOp hIx (dV 0) (dC (.int 0)))))
noncomputable def den_light_faces : DS :=
  (sRet (dCB hTupOf (dCons (dLc (dEnum (dCons (dV 0) dNil)) (gT [1, 2]) q2_light_faces e1_light_faces [1, 2]) dNil)))
noncomputable def m_light_faces : List D → Sto → Res D := callM (runB 3 den_light_faces)
theorem ok_light_faces {P : Program} {w : World} {K : PySem.W.Frag} {mg : Str → Option Value} {base : Heap} {f : Addr} {fd : FuncData} (F : Fun K "light_faces" "light_faces" s_light_faces f fd) (B : Bu mg) :
    FnOk P w K mg base CX0 1 f fd ["die"] (spD K 1 (runB 3 den_light_faces)) :=
  ok_body (k := 0) F sc_light_faces fun cdv A outer s H E hr =>
    (as_one (as_ret (ae_tupOf rfl B.m_tuple (aa_cons (ae_lcv [("face", 1), ("weight", 2)] rfl rfl sc_light_faces.nd (ai_enum rfl B.m_enumerate (aa_cons (ae_var (pv 0)) aa_nil)) (blkOk_by (own := [("face", 1), ("weight", 2)]) (N := sc_light_facesN) (sc := defScope s_light_faces) (by decide +kernel)) (fun _ _ _ _ _ => pg_tup rfl (pgs_cons (pg_name (i := 1) sc_light_faces.nd rfl (Or.inl rfl)) (pgs_cons (pg_name (i := 2) sc_light_faces.nd rfl (Or.inl rfl)) pgs_nil))) (fun _ _ _ _ _ => pts_one_ (at_ne hr.units (ae_var (pv 2)) (ae_ix (ae_var (pv 0)) ae_int))) (fun _ _ _ _ _ => (ae_var (pv 1))) (agw_two (by decide) (by decide))) aa_nil))))
/-! die_form -/
abbrev s_die_form : Stmt := top 7
abbrev sc_die_formN : List Str := ["die", "light", "weight"]
theorem sc_die_form : FnScope sc_die_formN ["die"] (defScope s_die_form) := ⟨rfl, rfl, rfl, by decide +kernel, rfl, by decide +kernel, by decide +kernel⟩
noncomputable def den_die_form : DS :=
  (sSeq (sSet 1 (dCall 1 m_light_faces (dCons (dV 0) dNil)))
    (sSeq (sSet 2 (dIfE (dBl (dOp (hCmp fun i j => decide (j < i)) (dCB hLen (dCons (dV 1) dNil)) (dC (.int 0)))) (dOp hIx (dV 0) (dOp hIx (dV 1) (dC (.int 0)))) (dC (.int 1))))
    (sRet (dTup (dCons (dOp hIx (dV 0) (dC (.int 0))) (dCons (dOp (hInt yes2 fun i j => i - j) (dCB hLen (dCons (dV 0) dNil)) (dCB hLen (dCons (dV 1) dNil))) (dCons (dV 2) (dCons (dCB hLen (dCons (dV 1) dNil)) dNil))))))))
noncomputable def m_die_form : List D → Sto → Res D := callM (runB 3 den_die_form)
theorem ok_die_form {P : Program} {w : World} {K : PySem.W.Frag} {mg : Str → Option Value} {base : Heap} {f : Addr} {fd : FuncData} (F : Fun K "die_form" "die_form" s_die_form f fd) (B : Bu mg)
    (h_light_faces : Has CX0 P w K mg base "light_faces" 1 ["die"] (spD K 1 m_light_faces)) :
    FnOk P w K mg base CX0 2 f fd ["die"] (spD K 1 (runB 3 den_die_form)) :=
  ok_body (k := 1) F sc_die_form fun cdv A outer s H E hr =>
    (as_cons (as_set (i := 1) sc_die_form.nd rfl (Or.inl rfl) (ae_callD h_light_faces (hr.mono (by decide)) rfl (aa_cons (ae_var (pv 0)) aa_nil)))
    (as_cons (as_set (i := 2) sc_die_form.nd rfl (Or.inl rfl) (ae_if (at_gt (ae_len rfl B.m_len (aa_cons (ae_var (pv 1)) aa_nil)) ae_int) (ae_ix (ae_var (pv 0)) (ae_ix (ae_var (pv 1)) ae_int)) ae_int))
    (as_one (as_ret (ae_tup (aa_cons (ae_ix (ae_var (pv 0)) ae_int) (aa_cons (ae_sub (ae_len rfl B.m_len (aa_cons (ae_var (pv 0)) aa_nil)) (ae_len rfl B.m_len (aa_cons (ae_var (pv 1)) aa_nil))) (aa_cons (ae_var (pv 2)) (aa_cons (ae_len rfl B.m_len (aa_cons (ae_var (pv 1)) aa_nil)) aa_nil)))))))))
/-! is_heavy -/
abbrev s_is_heavy : Stmt := top 8
abbrev sc_is_heavyN : List Str := ["die", "face"]
theorem sc_is_heavy : FnScope sc_is_heavyN ["die", "face"] (defScope s_is_heavy) := ⟨rfl, rfl, rfl, by decide +kernel, rfl, by decide +kernel, by decide +kernel⟩
noncomputable def den_is_heavy : DS :=
  (sRet (dOp hEq (dOp hIx (dV 0) (dV 1)) (dOp hIx (dV 0) (dC (.int 0)))))
noncomputable def m_is_heavy : List D → Sto → Res D := callM (runB 2 den_is_heavy)
theorem ok_is_heavy {P : Program} {w : World} {K : PySem.W.Frag} {mg : Str → Option Value} {base : Heap} {f : Addr} {fd : FuncData} (F : Fun K "is_heavy" "is_heavy" s_is_heavy f fd) (B : Bu mg) :
    FnOk P w K mg base CX0 1 f fd ["die", "face"] (spD K 2 (runB 2 den_is_heavy)) :=
  ok_body (k := 0) F sc_is_heavy fun cdv A outer s H E hr =>
    (as_one (as_ret (ae_eq hr.units (ae_ix (ae_var (pv 0)) (ae_var (pv 1))) (ae_ix (ae_var (pv 0)) ae_int))))
/-! face_place -/
abbrev s_face_place : Stmt := top 9
abbrev sc_face_placeN : List Str := ["die", "face", "other"]
theorem sc_face_place : FnScope sc_face_placeN ["die", "face"] (defScope s_face_place) := ⟨rfl, rfl, rfl, by decide +kernel, rfl, by decide +kernel, by decide +kernel⟩
noncomputable def e1_face_place : DE :=
  (dV 2)
noncomputable def q2_face_place : DB :=
  (dBl (dOp hEq (dOp hIx (dV 0) (dV 2)) (dOp hIx (dV 0) (dV 1))))
noncomputable def den_face_place : DS :=
  (sRet (dCB hLen (dCons (dLc (dRng1 (dCons (dV 1) dNil)) (gN 2) q2_face_place e1_face_place [2]) dNil)))
noncomputable def m_face_place : List D → Sto → Res D := callM (runB 3 den_face_place)
theorem ok_face_place {P : Program} {w : World} {K : PySem.W.Frag} {mg : Str → Option Value} {base : Heap} {f : Addr} {fd : FuncData} (F : Fun K "face_place" "face_place" s_face_place f fd) (B : Bu mg) :
    FnOk P w K mg base CX0 1 f fd ["die", "face"] (spD K 2 (runB 3 den_face_place)) :=
  ok_body (k := 0) F sc_face_place fun cdv A outer s H E hr =>
    (as_one (as_ret (ae_len rfl B.m_len (aa_cons (ae_lcv [("other", 2)] rfl rfl sc_face_place.nd (ai_range1 rfl B.m_range (aa_cons (ae_var (pv 1)) aa_nil)) (blkOk_by (own := [("other", 2)]) (N := sc_face_placeN) (sc := defScope s_face_place) (by decide +kernel)) (fun _ _ _ _ _ => pg_name (i := 2) sc_face_place.nd rfl (Or.inl rfl)) (fun _ _ _ _ _ => pts_one_ (at_eq hr.units (ae_ix (ae_var (pv 0)) (ae_var (pv 2))) (ae_ix (ae_var (pv 0)) (ae_var (pv 1))))) (fun _ _ _ _ _ => (ae_var (pv 2))) (agw_name (by decide))) aa_nil))))
/-! kind_size -/
abbrev s_kind_size : Stmt := top 11
abbrev sc_kind_sizeN : List Str := ["die", "throws", "kind", "heavy", "many", "light", "few"]
theorem sc_kind_size : FnScope sc_kind_sizeN ["die", "throws", "kind"] (defScope s_kind_size) := ⟨rfl, rfl, rfl, by decide +kernel, rfl, by decide +kernel, by decide +kernel⟩
noncomputable def den_kind_size : DS :=
  (sSeq (sAsg (gT [3, 4, 5, 6]) (dCall 1 m_die_form (dCons (dV 0) dNil)))
    (sRet (dOp hMulT (dOp hMulT (dCall 2 m_choices (dCons (dV 1) (dCons (dV 2) dNil))) (dCall 2 m_power (dCons (dV 4) (dCons (dV 2) dNil)))) (dCall 2 m_power (dCons (dV 6) (dCons (dOp (hInt yes2 fun i j => i - j) (dV 1) (dV 2)) dNil))))))
noncomputable def m_kind_size : List D → Sto → Res D := callM (runB 7 den_kind_size)
theorem ok_kind_size {P : Program} {w : World} {K : PySem.W.Frag} {mg : Str → Option Value} {base : Heap} {f : Addr} {fd : FuncData} (F : Fun K "kind_size" "kind_size" s_kind_size f fd) (B : Bu mg)
    (h_die_form : Has CX0 P w K mg base "die_form" 2 ["die"] (spD K 1 m_die_form))
    (h_choices : Has CX0 P w K mg base "choices" 1 ["many", "few"] (spD K 2 m_choices))
    (h_power : Has CX0 P w K mg base "power" 1 ["number", "times"] (spD K 2 m_power)) :
    FnOk P w K mg base CX0 3 f fd ["die", "throws", "kind"] (spD K 3 (runB 7 den_kind_size)) :=
  ok_body (k := 2) F sc_kind_size fun cdv A outer s H E hr =>
    (as_cons (as_asg (ae_callD h_die_form (hr.mono (by decide)) rfl (aa_cons (ae_var (pv 0)) aa_nil)) (ag_tup rfl (ags_cons (i := 3) sc_kind_size.nd rfl (Or.inl rfl) (ags_cons (i := 4) sc_kind_size.nd rfl (Or.inl rfl) (ags_cons (i := 5) sc_kind_size.nd rfl (Or.inl rfl) (ags_cons (i := 6) sc_kind_size.nd rfl (Or.inl rfl) ags_nil))))))
    (as_one (as_ret (ae_mulT (ae_mulT (ae_callD h_choices (hr.mono (by decide)) rfl (aa_cons (ae_var (pv 1)) (aa_cons (ae_var (pv 2)) aa_nil))) (ae_callD h_power (hr.mono (by decide)) rfl (aa_cons (ae_var (pv 4)) (aa_cons (ae_var (pv 2)) aa_nil)))) (ae_callD h_power (hr.mono (by decide)) rfl (aa_cons (ae_var (pv 6)) (aa_cons (ae_sub (ae_var (pv 1)) (ae_var (pv 2))) aa_nil)))))))
/-! kind_mass -/
abbrev s_kind_mass : Stmt := top 12
abbrev sc_kind_massN : List Str := ["die", "throws", "kind", "heavy", "many", "light", "few"]
theorem sc_kind_mass : FnScope sc_kind_massN ["die", "throws", "kind"] (defScope s_kind_mass) := ⟨rfl, rfl, rfl, by decide +kernel, rfl, by decide +kernel, by decide +kernel⟩
noncomputable def den_kind_mass : DS :=
  (sSeq (sAsg (gT [3, 4, 5, 6]) (dCall 1 m_die_form (dCons (dV 0) dNil)))
    (sRet (dOp hMulT (dCall 2 m_power (dCons (dV 3) (dCons (dV 2) dNil))) (dCall 2 m_power (dCons (dV 5) (dCons (dOp (hInt yes2 fun i j => i - j) (dV 1) (dV 2)) dNil))))))
noncomputable def m_kind_mass : List D → Sto → Res D := callM (runB 7 den_kind_mass)
theorem ok_kind_mass {P : Program} {w : World} {K : PySem.W.Frag} {mg : Str → Option Value} {base : Heap} {f : Addr} {fd : FuncData} (F : Fun K "kind_mass" "kind_mass" s_kind_mass f fd) (B : Bu mg)
    (h_die_form : Has CX0 P w K mg base "die_form" 2 ["die"] (spD K 1 m_die_form))
    (h_power : Has CX0 P w K mg base "power" 1 ["number", "times"] (spD K 2 m_power)) :
    FnOk P w K mg base CX0 3 f fd ["die", "throws", "kind"] (spD K 3 (runB 7 den_kind_mass)) :=
  ok_body (k := 2) F sc_kind_mass fun cdv A outer s H E hr =>
    (as_cons (as_asg (ae_callD h_die_form (hr.mono (by decide)) rfl (aa_cons (ae_var (pv 0)) aa_nil)) (ag_tup rfl (ags_cons (i := 3) sc_kind_mass.nd rfl (Or.inl rfl) (ags_cons (i := 4) sc_kind_mass.nd rfl (Or.inl rfl) (ags_cons (i := 5) sc_kind_mass.nd rfl (Or.inl rfl) (ags_cons (i := 6) sc_kind_mass.nd rfl (Or.inl rfl) ags_nil))))))
    (as_one (as_ret (ae_mulT (ae_callD h_power (hr.mono (by decide)) rfl (aa_cons (ae_var (pv 3)) (aa_cons (ae_var (pv 2)) aa_nil))) (ae_callD h_power (hr.mono (by decide)) rfl (aa_cons (ae_var (pv 5)) (aa_cons (ae_sub (ae_var (pv 1)) (ae_var (pv 2))) aa_nil)))))))
/-! row_number -/
abbrev s_row_number : Stmt := top 13
abbrev sc_row_numberN : List Str := ["die", "faces", "heavy", "many", "light", "few", "kind", "place", "label", "at", "face"]
theorem sc_row_number : FnScope sc_row_numberN ["die", "faces"] (defScope s_row_number) := ⟨rfl, rfl, rfl, by decide +kernel, rfl, by decide +kernel, by decide +kernel⟩
noncomputable def b1_row_number : DS :=
  (sIf (dTru (dCall 2 m_is_heavy (dCons (dV 0) (dCons (dV 10) dNil)))) (sSeq (sSet 6 (dOp hAdd (dV 6) (dC (.int 1))))
    (sSeq (sSet 7 (dOp hAdd (dV 7) (dCall 2 m_choices (dCons (dV 9) (dCons (dV 6) dNil)))))
    (sSet 8 (dOp hAdd (dOp hMulT (dV 8) (dV 3)) (dCall 2 m_face_place (dCons (dV 0) (dCons (dV 10) dNil))))))) (sSet 8 (dOp hAdd (dOp hMulT (dV 8) (dV 5)) (dCall 2 m_face_place (dCons (dV 0) (dCons (dV 10) dNil))))))
noncomputable def den_row_number : DS :=
  (sSeq (sAsg (gT [2, 3, 4, 5]) (dCall 1 m_die_form (dCons (dV 0) dNil)))
    (sSeq (sAsg (gT [6, 7, 8]) (dTup (dCons (dC (.int 0)) (dCons (dC (.int 0)) (dCons (dC (.int 0)) dNil)))))
    (sSeq (sFor (dEnum (dCons (dV 1) dNil)) (gT [9, 10]) b1_row_number)
    (sRet (dOp hAdd (dOp hMulT (dOp hMulT (dV 7) (dCall 2 m_power (dCons (dV 3) (dCons (dV 6) dNil)))) (dCall 2 m_power (dCons (dV 5) (dCons (dOp (hInt yes2 fun i j => i - j) (dCB hLen (dCons (dV 1) dNil)) (dV 6)) dNil)))) (dV 8))))))
noncomputable def m_row_number : List D → Sto → Res D := callM (runB 11 den_row_number)
theorem ok_row_number {P : Program} {w : World} {K : PySem.W.Frag} {mg : Str → Option Value} {base : Heap} {f : Addr} {fd : FuncData} (F : Fun K "row_number" "row_number" s_row_number f fd) (B : Bu mg)
    (h_die_form : Has CX0 P w K mg base "die_form" 2 ["die"] (spD K 1 m_die_form))
    (h_is_heavy : Has CX0 P w K mg base "is_heavy" 1 ["die", "face"] (spD K 2 m_is_heavy))
    (h_choices : Has CX0 P w K mg base "choices" 1 ["many", "few"] (spD K 2 m_choices))
    (h_face_place : Has CX0 P w K mg base "face_place" 1 ["die", "face"] (spD K 2 m_face_place))
    (h_power : Has CX0 P w K mg base "power" 1 ["number", "times"] (spD K 2 m_power)) :
    FnOk P w K mg base CX0 3 f fd ["die", "faces"] (spD K 2 (runB 11 den_row_number)) :=
  ok_body (k := 2) F sc_row_number fun cdv A outer s H E hr =>
    (as_cons (as_asg (ae_callD h_die_form (hr.mono (by decide)) rfl (aa_cons (ae_var (pv 0)) aa_nil)) (ag_tup rfl (ags_cons (i := 2) sc_row_number.nd rfl (Or.inl rfl) (ags_cons (i := 3) sc_row_number.nd rfl (Or.inl rfl) (ags_cons (i := 4) sc_row_number.nd rfl (Or.inl rfl) (ags_cons (i := 5) sc_row_number.nd rfl (Or.inl rfl) ags_nil))))))
    (as_cons (as_asg (ae_tup (aa_cons ae_int (aa_cons ae_int (aa_cons ae_int aa_nil)))) (ag_tup rfl (ags_cons (i := 6) sc_row_number.nd rfl (Or.inl rfl) (ags_cons (i := 7) sc_row_number.nd rfl (Or.inl rfl) (ags_cons (i := 8) sc_row_number.nd rfl (Or.inl rfl) ags_nil)))))
    (as_cons (as_for PassesOwn.never rfl (ai_enum rfl B.m_enumerate (aa_cons (ae_var (pv 1)) aa_nil)) (ag_tup rfl (ags_cons (i := 9) sc_row_number.nd rfl (Or.inl rfl) (ags_cons (i := 10) sc_row_number.nd rfl (Or.inl rfl) ags_nil))) (as_one (as_if (at_val (ae_callD h_is_heavy (hr.mono (by decide)) rfl (aa_cons (ae_var (pv 0)) (aa_cons (ae_var (pv 10)) aa_nil)))) (as_cons (as_set (i := 6) sc_row_number.nd rfl (Or.inl rfl) (ae_add (ae_var (pv 6)) ae_int))
    (as_cons (as_set (i := 7) sc_row_number.nd rfl (Or.inl rfl) (ae_add (ae_var (pv 7)) (ae_callD h_choices (hr.mono (by decide)) rfl (aa_cons (ae_var (pv 9)) (aa_cons (ae_var (pv 6)) aa_nil)))))
    (as_one (as_set (i := 8) sc_row_number.nd rfl (Or.inl rfl) (ae_add (ae_mulT (ae_var (pv 8)) (ae_var (pv 3))) (ae_callD h_face_place (hr.mono (by decide)) rfl (aa_cons (ae_var (pv 0)) (aa_cons (ae_var (pv 10)) aa_nil)))))))) (as_one (as_set (i := 8) sc_row_number.nd rfl (Or.inl rfl) (ae_add (ae_mulT (ae_var (pv 8)) (ae_var (pv 5))) (ae_callD h_face_place (hr.mono (by decide)) rfl (aa_cons (ae_var (pv 0)) (aa_cons (ae_var (pv 10)) aa_nil)))))))))
    (as_one (as_ret (ae_add (ae_mulT (ae_mulT (ae_var (pv 7)) (ae_callD h_power (hr.mono (by decide)) rfl (aa_cons (ae_var (pv 3)) (aa_cons (ae_var (pv 6)) aa_nil)))) (ae_callD h_power (hr.mono (by decide)) rfl (aa_cons (ae_var (pv 5)) (aa_cons (ae_sub (ae_len rfl B.m_len (aa_cons (ae_var (pv 1)) aa_nil)) (ae_var (pv 6))) aa_nil)))) (ae_var (pv 8))))))))
/-! heavy_places -/
abbrev s_heavy_places : Stmt := top 14
abbrev sc_heavy_placesN : List Str := ["throws", "kind", "place", "found", "at", "left"]
theorem sc_heavy_places : FnScope sc_heavy_placesN ["throws", "kind", "place"] (defScope s_heavy_places) := ⟨rfl, rfl, rfl, by decide +kernel, rfl, by decide +kernel, by decide +kernel⟩
noncomputable def c1_heavy_places : DB :=
  (dBl (dOp (hCmp fun i j => decide (j < i)) (dCall 2 m_choices (dCons (dV 4) (dCons (dV 5) dNil))) (dV 2)))
noncomputable def b2_heavy_places : DS :=
  (sSet 4 (dOp (hInt yes2 fun i j => i - j) (dV 4) (dC (.int 1))))
noncomputable def b3_heavy_places : DS :=
  (sSeq (sSet 4 (dOp (hInt yes2 fun i j => i - j) (dV 4) (dC (.int 1))))
    (sSeq (sWhile fuel c1_heavy_places b2_heavy_places)
    (sSeq (sSet 2 (dOp (hInt yes2 fun i j => i - j) (dV 2) (dCall 2 m_choices (dCons (dV 4) (dCons (dV 5) dNil)))))
    (sExpr (dMe hApp (dV 3) (dCons (dV 4) dNil))))))
noncomputable def den_heavy_places : DS :=
  (sSeq (sSet 3 (dLst dNil))
    (sSeq (sSet 4 (dV 0))
    (sSeq (sFor (dRng3 (dCons (dV 1) (dCons (dC (.int 0)) (dCons (dUn hNeg (dC (.int 1))) dNil)))) (gN 5) b3_heavy_places)
    (sRet (dUn hRev (dV 3))))))
noncomputable def m_heavy_places : List D → Sto → Res D := callM (runB 6 den_heavy_places)
theorem ok_heavy_places {P : Program} {w : World} {K : PySem.W.Frag} {mg : Str → Option Value} {base : Heap} {f : Addr} {fd : FuncData} (F : Fun K "heavy_places" "heavy_places" s_heavy_places f fd) (B : Bu mg)
    (h_choices : Has CX0 P w K mg base "choices" 1 ["many", "few"] (spD K 2 m_choices)) :
    FnOk P w K mg base CX0 2 f fd ["throws", "kind", "place"] (spD K 3 (runB 6 den_heavy_places)) :=
  ok_body (k := 1) F sc_heavy_places fun cdv A outer s H E hr =>
    (as_cons (as_set (i := 3) sc_heavy_places.nd rfl (Or.inl rfl) (ae_lst aa_nil))
    (as_cons (as_set (i := 4) sc_heavy_places.nd rfl (Or.inl rfl) (ae_var (pv 0)))
    (as_cons (as_for PassesOwn.never rfl (ai_range3 rfl B.m_range (aa_cons (ae_var (pv 1)) (aa_cons ae_int (aa_cons (ae_neg ae_int) aa_nil)))) (ag_name (i := 5) sc_heavy_places.nd rfl (Or.inl rfl)) (as_cons (as_set (i := 4) sc_heavy_places.nd rfl (Or.inl rfl) (ae_sub (ae_var (pv 4)) ae_int))
    (as_cons (as_while PassesOwn.never (at_gt (ae_callD h_choices (hr.mono (by decide)) rfl (aa_cons (ae_var (pv 4)) (aa_cons (ae_var (pv 5)) aa_nil))) (ae_var (pv 2))) (as_one (as_set (i := 4) sc_heavy_places.nd rfl (Or.inl rfl) (ae_sub (ae_var (pv 4)) ae_int))))
    (as_cons (as_set (i := 2) sc_heavy_places.nd rfl (Or.inl rfl) (ae_sub (ae_var (pv 2)) (ae_callD h_choices (hr.mono (by decide)) rfl (aa_cons (ae_var (pv 4)) (aa_cons (ae_var (pv 5)) aa_nil)))))
    (as_one (as_expr (ae_append (ae_var (pv 3)) (aa_cons (ae_var (pv 4)) aa_nil))))))))
    (as_one (as_ret (ae_rev (ae_var (pv 3))))))))
/-! row_of_number -/
abbrev s_row_of_number : Stmt := top 15
abbrev sc_row_of_numberN : List Str := ["die", "throws", "kind", "number", "heavy", "many", "light", "few", "labels", "places", "label", "faces", "at", "sort"]
theorem sc_row_of_number : FnScope sc_row_of_numberN ["die", "throws", "kind", "number"] (defScope s_row_of_number) := ⟨rfl, rfl, rfl, by decide +kernel, rfl, by decide +kernel, by decide +kernel⟩
noncomputable def b1_row_of_number : DS :=
  (sSeq (sSet 13 (dIfE (dBl (dOp (hIn false) (dV 12) (dV 9))) (dCall 1 m_heavy_faces (dCons (dV 0) dNil)) (dCall 1 m_light_faces (dCons (dV 0) dNil))))
    (sSeq (sExpr (dMe hApp (dV 11) (dCons (dOp hIx (dV 13) (dOp (hInt (fun _ j => decide (j ≠ 0)) Int.fmod) (dV 10) (dCB hLen (dCons (dV 13) dNil)))) dNil)))
    (sSet 10 (dOp (hInt (fun _ j => divOk j) fun i j => i / j) (dV 10) (dCB hLen (dCons (dV 13) dNil))))))
noncomputable def den_row_of_number : DS :=
  (sSeq (sIf (dBl (dOp (hCmp fun i j => decide (j ≤ i)) (dV 3) (dCall 3 m_kind_size (dCons (dV 0) (dCons (dV 1) (dCons (dV 2) dNil)))))) (sRet (dC .non)) sNx)
    (sSeq (sAsg (gT [4, 5, 6, 7]) (dCall 1 m_die_form (dCons (dV 0) dNil)))
    (sSeq (sSet 8 (dOp hMulT (dCall 2 m_power (dCons (dV 5) (dCons (dV 2) dNil))) (dCall 2 m_power (dCons (dV 7) (dCons (dOp (hInt yes2 fun i j => i - j) (dV 1) (dV 2)) dNil)))))
    (sSeq (sSet 9 (dCall 3 m_heavy_places (dCons (dV 1) (dCons (dV 2) (dCons (dOp (hInt (fun _ j => divOk j) fun i j => i / j) (dV 3) (dV 8)) dNil)))))
    (sSeq (sSet 10 (dOp (hInt (fun _ j => decide (j ≠ 0)) Int.fmod) (dV 3) (dV 8)))
    (sSeq (sSet 11 (dLst dNil))
    (sSeq (sFor (dRng3 (dCons (dOp (hInt yes2 fun i j => i - j) (dV 1) (dC (.int 1))) (dCons (dUn hNeg (dC (.int 1))) (dCons (dUn hNeg (dC (.int 1))) dNil)))) (gN 12) b1_row_of_number)
    (sRet (dCB hTupOf (dCons (dUn hRev (dV 11)) dNil))))))))))
noncomputable def m_row_of_number : List D → Sto → Res D := callM (runB 14 den_row_of_number)
theorem ok_row_of_number {P : Program} {w : World} {K : PySem.W.Frag} {mg : Str → Option Value} {base : Heap} {f : Addr} {fd : FuncData} (F : Fun K "row_of_number" "row_of_number" s_row_of_number f fd) (B : Bu mg)
    (h_kind_size : Has CX0 P w K mg base "kind_size" 3 ["die", "throws", "kind"] (spD K 3 m_kind_size))
    (h_die_form : Has CX0 P w K mg base "die_form" 2 ["die"] (spD K 1 m_die_form))
    (h_power : Has CX0 P w K mg base "power" 1 ["number", "times"] (spD K 2 m_power))
    (h_heavy_places : Has CX0 P w K mg base "heavy_places" 2 ["throws", "kind", "place"] (spD K 3 m_heavy_places))
    (h_heavy_faces : Has CX0 P w K mg base "heavy_faces" 1 ["die"] (spD K 1 m_heavy_faces))
    (h_light_faces : Has CX0 P w K mg base "light_faces" 1 ["die"] (spD K 1 m_light_faces)) :
    FnOk P w K mg base CX0 4 f fd ["die", "throws", "kind", "number"] (spD K 4 (runB 14 den_row_of_number)) :=
  ok_body (k := 3) F sc_row_of_number fun cdv A outer s H E hr =>
    (as_cons (as_if (at_ge (ae_var (pv 3)) (ae_callD h_kind_size (hr.mono (by decide)) rfl (aa_cons (ae_var (pv 0)) (aa_cons (ae_var (pv 1)) (aa_cons (ae_var (pv 2)) aa_nil))))) (as_one (as_ret ae_non)) as_nil)
    (as_cons (as_asg (ae_callD h_die_form (hr.mono (by decide)) rfl (aa_cons (ae_var (pv 0)) aa_nil)) (ag_tup rfl (ags_cons (i := 4) sc_row_of_number.nd rfl (Or.inl rfl) (ags_cons (i := 5) sc_row_of_number.nd rfl (Or.inl rfl) (ags_cons (i := 6) sc_row_of_number.nd rfl (Or.inl rfl) (ags_cons (i := 7) sc_row_of_number.nd rfl (Or.inl rfl) ags_nil))))))
    (as_cons (as_set (i := 8) sc_row_of_number.nd rfl (Or.inl rfl) (ae_mulT (ae_callD h_power (hr.mono (by decide)) rfl (aa_cons (ae_var (pv 5)) (aa_cons (ae_var (pv 2)) aa_nil))) (ae_callD h_power (hr.mono (by decide)) rfl (aa_cons (ae_var (pv 7)) (aa_cons (ae_sub (ae_var (pv 1)) (ae_var (pv 2))) aa_nil)))))
    (as_cons (as_set (i := 9) sc_row_of_number.nd rfl (Or.inl rfl) (ae_callD h_heavy_places (hr.mono (by decide)) rfl (aa_cons (ae_var (pv 1)) (aa_cons (ae_var (pv 2)) (aa_cons (ae_div (ae_var (pv 3)) (ae_var (pv 8))) aa_nil)))))
    (as_cons (as_set (i := 10) sc_row_of_number.nd rfl (Or.inl rfl) (ae_mod (ae_var (pv 3)) (ae_var (pv 8))))
    (as_cons (as_set (i := 11) sc_row_of_number.nd rfl (Or.inl rfl) (ae_lst aa_nil))
    (as_cons (as_for PassesOwn.never rfl (ai_range3 rfl B.m_range (aa_cons (ae_sub (ae_var (pv 1)) ae_int) (aa_cons (ae_neg ae_int) (aa_cons (ae_neg ae_int) aa_nil)))) (ag_name (i := 12) sc_row_of_number.nd rfl (Or.inl rfl)) (as_cons (as_set (i := 13) sc_row_of_number.nd rfl (Or.inl rfl) (ae_if (at_in (ae_var (pv 12)) (ae_var (pv 9))) (ae_callD h_heavy_faces (hr.mono (by decide)) rfl (aa_cons (ae_var (pv 0)) aa_nil)) (ae_callD h_light_faces (hr.mono (by decide)) rfl (aa_cons (ae_var (pv 0)) aa_nil))))
    (as_cons (as_expr (ae_append (ae_var (pv 11)) (aa_cons (ae_ix (ae_var (pv 13)) (ae_mod (ae_var (pv 10)) (ae_len rfl B.m_len (aa_cons (ae_var (pv 13)) aa_nil)))) aa_nil)))
    (as_one (as_set (i := 10) sc_row_of_number.nd rfl (Or.inl rfl) (ae_div (ae_var (pv 10)) (ae_len rfl B.m_len (aa_cons (ae_var (pv 13)) aa_nil))))))))
    (as_one (as_ret (ae_tupOf rfl B.m_tuple (aa_cons (ae_rev (ae_var (pv 11))) aa_nil)))))))))))
/-! next_row -/
abbrev s_next_row : Stmt := top 16
abbrev sc_next_rowN : List Str := ["die", "faces", "kind", "face"]
theorem sc_next_row : FnScope sc_next_rowN ["die", "faces"] (defScope s_next_row) := ⟨rfl, rfl, rfl, by decide +kernel, rfl, by decide +kernel, by decide +kernel⟩
noncomputable def e1_next_row : DE :=
  (dV 3)
noncomputable def q2_next_row : DB :=
  (dTru (dCall 2 m_is_heavy (dCons (dV 0) (dCons (dV 3) dNil))))
noncomputable def den_next_row : DS :=
  (sSeq (sSet 2 (dCB hLen (dCons (dLc (dIt (dV 1)) (gN 3) q2_next_row e1_next_row [3]) dNil)))
    (sRet (dCall 4 m_row_of_number (dCons (dV 0) (dCons (dCB hLen (dCons (dV 1) dNil)) (dCons (dV 2) (dCons (dOp hAdd (dCall 2 m_row_number (dCons (dV 0) (dCons (dV 1) dNil))) (dC (.int 1))) dNil)))))))
noncomputable def m_next_row : List D → Sto → Res D := callM (runB 4 den_next_row)
theorem ok_next_row {P : Program} {w : World} {K : PySem.W.Frag} {mg : Str → Option Value} {base : Heap} {f : Addr} {fd : FuncData} (F : Fun K "next_row" "next_row" s_next_row f fd) (B : Bu mg)
    (h_is_heavy : Has CX0 P w K mg base "is_heavy" 1 ["die", "face"] (spD K 2 m_is_heavy))
    (h_row_number : Has CX0 P w K mg base "row_number" 3 ["die", "faces"] (spD K 2 m_row_number))
    (h_row_of_number : Has CX0 P w K mg base "row_of_number" 4 ["die", "throws", "kind", "number"] (spD K 4 m_row_of_number)) :
    FnOk P w K mg base CX0 5 f fd ["die", "faces"] (spD K 2 (runB 4 den_next_row)) :=
  ok_body (k := 4) F sc_next_row fun cdv A outer s H E hr =>
    (as_cons (as_set (i := 2) sc_next_row.nd rfl (Or.inl rfl) (ae_len rfl B.m_len (aa_cons (ae_lcv [("face", 3)] rfl rfl sc_next_row.nd (ai_of (ae_var (pv 1))) (blkOk_by (own := [("face", 3)]) (N := sc_next_rowN) (sc := defScope s_next_row) (by decide +kernel)) (fun _ _ _ _ _ => pg_name (i := 3) sc_next_row.nd rfl (Or.inl rfl)) (fun _ _ _ _ _ => pts_one_ (at_val (ae_callD h_is_heavy (hr.mono (by decide)) rfl (aa_cons (ae_var (pv 0)) (aa_cons (ae_var (pv 3)) aa_nil))))) (fun _ _ _ _ _ => (ae_var (pv 3))) (agw_name (by decide))) aa_nil)))
    (as_one (as_ret (ae_callD h_row_of_number (hr.mono (by decide)) rfl (aa_cons (ae_var (pv 0)) (aa_cons (ae_len rfl B.m_len (aa_cons (ae_var (pv 1)) aa_nil)) (aa_cons (ae_var (pv 2)) (aa_cons (ae_add (ae_callD h_row_number (hr.mono (by decide)) rfl (aa_cons (ae_var (pv 0)) (aa_cons (ae_var (pv 1)) aa_nil))) ae_int) aa_nil))))))))
/-! row_steps -/
abbrev s_row_steps : Stmt := top 17
abbrev sc_row_stepsN : List Str := ["die", "faces", "steps", "kind", "many", "face"]
theorem sc_row_steps : FnScope sc_row_stepsN ["die", "faces", "steps"] (defScope s_row_steps) := ⟨rfl, rfl, rfl, by decide +kernel, rfl, by decide +kernel, by decide +kernel⟩
noncomputable def e1_row_steps : DE :=
  (dV 5)
noncomputable def q2_row_steps : DB :=
  (dTru (dCall 2 m_is_heavy (dCons (dV 0) (dCons (dV 5) dNil))))
noncomputable def den_row_steps : DS :=
  (sSeq (sSet 3 (dCB hLen (dCons (dLc (dIt (dV 1)) (gN 5) q2_row_steps e1_row_steps [5]) dNil)))
    (sSeq (sSet 4 (dCall 3 m_kind_size (dCons (dV 0) (dCons (dCB hLen (dCons (dV 1) dNil)) (dCons (dV 3) dNil)))))
    (sRet (dCall 4 m_row_of_number (dCons (dV 0) (dCons (dCB hLen (dCons (dV 1) dNil)) (dCons (dV 3) (dCons (dOp (hInt (fun _ j => decide (j ≠ 0)) Int.fmod) (dOp hAdd (dCall 2 m_row_number (dCons (dV 0) (dCons (dV 1) dNil))) (dV 2)) (dV 4)) dNil))))))))
noncomputable def m_row_steps : List D → Sto → Res D := callM (runB 6 den_row_steps)
theorem ok_row_steps {P : Program} {w : World} {K : PySem.W.Frag} {mg : Str → Option Value} {base : Heap} {f : Addr} {fd : FuncData} (F : Fun K "row_steps" "row_steps" s_row_steps f fd) (B : Bu mg)
    (h_is_heavy : Has CX0 P w K mg base "is_heavy" 1 ["die", "face"] (spD K 2 m_is_heavy))
    (h_kind_size : Has CX0 P w K mg base "kind_size" 3 ["die", "throws", "kind"] (spD K 3 m_kind_size))
    (h_row_number : Has CX0 P w K mg base "row_number" 3 ["die", "faces"] (spD K 2 m_row_number))
    (h_row_of_number : Has CX0 P w K mg base "row_of_number" 4 ["die", "throws", "kind", "number"] (spD K 4 m_row_of_number)) :
    FnOk P w K mg base CX0 5 f fd ["die", "faces", "steps"] (spD K 3 (runB 6 den_row_steps)) :=
  ok_body (k := 4) F sc_row_steps fun cdv A outer s H E hr =>
    (as_cons (as_set (i := 3) sc_row_steps.nd rfl (Or.inl rfl) (ae_len rfl B.m_len (aa_cons (ae_lcv [("face", 5)] rfl rfl sc_row_steps.nd (ai_of (ae_var (pv 1))) (blkOk_by (own := [("face", 5)]) (N := sc_row_stepsN) (sc := defScope s_row_steps) (by decide +kernel)) (fun _ _ _ _ _ => pg_name (i := 5) sc_row_steps.nd rfl (Or.inl rfl)) (fun _ _ _ _ _ => pts_one_ (at_val (ae_callD h_is_heavy (hr.mono (by decide)) rfl (aa_cons (ae_var (pv 0)) (aa_cons (ae_var (pv 5)) aa_nil))))) (fun _ _ _ _ _ => (ae_var (pv 5))) (agw_name (by decide))) aa_nil)))
    (as_cons (as_set (i := 4) sc_row_steps.nd rfl (Or.inl rfl) (ae_callD h_kind_size (hr.mono (by decide)) rfl (aa_cons (ae_var (pv 0)) (aa_cons (ae_len rfl B.m_len (aa_cons (ae_var (pv 1)) aa_nil)) (aa_cons (ae_var (pv 3)) aa_nil)))))
    (as_one (as_ret (ae_callD h_row_of_number (hr.mono (by decide)) rfl (aa_cons (ae_var (pv 0)) (aa_cons (ae_len rfl B.m_len (aa_cons (ae_var (pv 1)) aa_nil)) (aa_cons (ae_var (pv 3)) (aa_cons (ae_mod (ae_add (ae_callD h_row_number (hr.mono (by decide)) rfl (aa_cons (ae_var (pv 0)) (aa_cons (ae_var (pv 1)) aa_nil))) (ae_var (pv 2))) (ae_var (pv 4))) aa_nil)))))))))
/-! kind_sizes -/
abbrev s_kind_sizes : Stmt := top 23
abbrev sc_kind_sizesN : List Str := ["die", "throws", "heavy", "many", "light", "few", "row", "kind"]
theorem sc_kind_sizes : FnScope sc_kind_sizesN ["die", "throws"] (defScope s_kind_sizes) := ⟨rfl, rfl, rfl, by decide +kernel, rfl, by decide +kernel, by decide +kernel⟩
noncomputable def e1_kind_sizes : DE :=
  (dOp hMulT (dOp hMulT (dOp hIx (dV 6) (dV 7)) (dCall 2 m_power (dCons (dV 3) (dCons (dV 7) dNil)))) (dCall 2 m_power (dCons (dV 5) (dCons (dOp (hInt yes2 fun i j => i - j) (dV 1) (dV 7)) dNil))))
noncomputable def den_kind_sizes : DS :=
  (sSeq (sAsg (gT [2, 3, 4, 5]) (dCall 1 m_die_form (dCons (dV 0) dNil)))
    (sSeq (sSet 6 (dCall 1 m_choice_row (dCons (dV 1) dNil)))
    (sRet (dCB hTupOf (dCons (dLc (dRng1 (dCons (dOp hAdd (dV 1) (dC (.int 1))) dNil)) (gN 7) dYes e1_kind_sizes [7]) dNil)))))
noncomputable def m_kind_sizes : List D → Sto → Res D := callM (runB 8 den_kind_sizes)
theorem ok_kind_sizes {P : Program} {w : World} {K : PySem.W.Frag} {mg : Str → Option Value} {base : Heap} {f : Addr} {fd : FuncData} (F : Fun K "kind_sizes" "kind_sizes" s_kind_sizes f fd) (B : Bu mg)
    (h_die_form : Has CX0 P w K mg base "die_form" 2 ["die"] (spD K 1 m_die_form))
    (h_choice_row : Has CX0 P w K mg base "choice_row" 1 ["many"] (spD K 1 m_choice_row))
    (h_power : Has CX0 P w K mg base "power" 1 ["number", "times"] (spD K 2 m_power)) :
    FnOk P w K mg base CX0 3 f fd ["die", "throws"] (spD K 2 (runB 8 den_kind_sizes)) :=
  ok_body (k := 2) F sc_kind_sizes fun cdv A outer s H E hr =>
    (as_cons (as_asg (ae_callD h_die_form (hr.mono (by decide)) rfl (aa_cons (ae_var (pv 0)) aa_nil)) (ag_tup rfl (ags_cons (i := 2) sc_kind_sizes.nd rfl (Or.inl rfl) (ags_cons (i := 3) sc_kind_sizes.nd rfl (Or.inr rfl) (ags_cons (i := 4) sc_kind_sizes.nd rfl (Or.inl rfl) (ags_cons (i := 5) sc_kind_sizes.nd rfl (Or.inr rfl) ags_nil))))))
    (as_cons (as_set (i := 6) sc_kind_sizes.nd rfl (Or.inr rfl) (ae_callD h_choice_row (hr.mono (by decide)) rfl (aa_cons (ae_var (pv 1)) aa_nil)))
    (as_one (as_ret (ae_tupOf rfl B.m_tuple (aa_cons (ae_lcv [("kind", 7)] rfl rfl sc_kind_sizes.nd (ai_range1 rfl B.m_range (aa_cons (ae_add (ae_var (pv 1)) ae_int) aa_nil)) (blkOk_by (own := [("kind", 7)]) (N := sc_kind_sizesN) (sc := defScope s_kind_sizes) (by decide +kernel)) (fun _ _ _ _ _ => pg_name (i := 7) sc_kind_sizes.nd rfl (Or.inl rfl)) (fun _ _ _ _ _ => pts_none) (fun _ _ _ _ _ => (ae_mulT (ae_mulT (ae_ix (ae_var (pv 6)) (ae_var (pv 7))) (ae_callD h_power (hr.mono (by decide)) rfl (aa_cons (ae_var (pv 3)) (aa_cons (ae_var (pv 7)) aa_nil)))) (ae_callD h_power (hr.mono (by decide)) rfl (aa_cons (ae_var (pv 5)) (aa_cons (ae_sub (ae_var (pv 1)) (ae_var (pv 7))) aa_nil))))) (agw_name (by decide))) aa_nil))))))
/-! kind_sums -/
abbrev s_kind_sums : Stmt := top 24
abbrev sc_kind_sumsN : List Str := ["die", "throws", "told", "ahead", "size"]
theorem sc_kind_sums : FnScope sc_kind_sumsN ["die", "throws"] (defScope s_kind_sums) := ⟨rfl, rfl, rfl, by decide +kernel, rfl, by decide +kernel, by decide +kernel⟩
noncomputable def b1_kind_sums : DS :=
  (sSeq (sExpr (dMe hApp (dV 2) (dCons (dV 3) dNil)))
    (sSet 3 (dOp hAdd (dV 3) (dV 4))))
noncomputable def den_kind_sums : DS :=
  (sSeq (sSet 2 (dLst dNil))
    (sSeq (sSet 3 (dC (.int 0)))
    (sSeq (sFor (dIt (dCall 2 m_kind_sizes (dCons (dV 0) (dCons (dV 1) dNil)))) (gN 4) b1_kind_sums)
    (sRet (dCB hTupOf (dCons (dV 2) dNil))))))
noncomputable def m_kind_sums : List D → Sto → Res D := callM (runB 5 den_kind_sums)
theorem ok_kind_sums {P : Program} {w : World} {K : PySem.W.Frag} {mg : Str → Option Value} {base : Heap} {f : Addr} {fd : FuncData} (F : Fun K "kind_sums" "kind_sums" s_kind_sums f fd) (B : Bu mg)
    (h_kind_sizes : Has CX0 P w K mg base "kind_sizes" 3 ["die", "throws"] (spD K 2 m_kind_sizes)) :
    FnOk P w K mg base CX0 4 f fd ["die", "throws"] (spD K 2 (runB 5 den_kind_sums)) :=
  ok_body (k := 3) F sc_kind_sums fun cdv A outer s H E hr =>
    (as_cons (as_set (i := 2) sc_kind_sums.nd rfl (Or.inl rfl) (ae_lst aa_nil))
    (as_cons (as_set (i := 3) sc_kind_sums.nd rfl (Or.inl rfl) ae_int)
    (as_cons (as_for PassesOwn.never rfl (ai_of (ae_callD h_kind_sizes (hr.mono (by decide)) rfl (aa_cons (ae_var (pv 0)) (aa_cons (ae_var (pv 1)) aa_nil)))) (ag_name (i := 4) sc_kind_sums.nd rfl (Or.inl rfl)) (as_cons (as_expr (ae_append (ae_var (pv 2)) (aa_cons (ae_var (pv 3)) aa_nil)))
    (as_one (as_set (i := 3) sc_kind_sums.nd rfl (Or.inl rfl) (ae_add (ae_var (pv 3)) (ae_var (pv 4)))))))
    (as_one (as_ret (ae_tupOf rfl B.m_tuple (aa_cons (ae_var (pv 2)) aa_nil)))))))
/-! is_whole -/
abbrev s_is_whole : Stmt := top 26
abbrev sc_is_wholeN : List Str := ["value"]
theorem sc_is_whole : FnScope sc_is_wholeN ["value"] (defScope s_is_whole) := ⟨rfl, rfl, rfl, by decide +kernel, rfl, by decide +kernel, by decide +kernel⟩
noncomputable def den_is_whole : DS :=
  (sRet (dAndV (dCB hIsi1 (dCons (dV 0) (dCons (dC (.ty "int")) dNil))) (dNotV (dCB hIsi1 (dCons (dV 0) (dCons (dC (.ty "bool")) dNil))))))
noncomputable def m_is_whole : List D → Sto → Res D := callM (runB 1 den_is_whole)
theorem ok_is_whole {P : Program} {w : World} {K : PySem.W.Frag} {mg : Str → Option Value} {base : Heap} {f : Addr} {fd : FuncData} (F : Fun K "is_whole" "is_whole" s_is_whole f fd) (B : Bu mg) :
    FnOk P w K mg base CX0 1 f fd ["value"] (spD K 1 (runB 1 den_is_whole)) :=
  ok_body (k := 0) F sc_is_whole fun cdv A outer s H E hr =>
    (as_one (as_ret (ae_and (ae_isi rfl B.m_isinstance (aa_cons (ae_var (pv 0)) (aa_cons (ae_c (v := .ty "int") rfl (pe_bltn rfl B.m_int (by decide +kernel) rfl)) aa_nil))) (ae_one (ae_not (ae_isi rfl B.m_isinstance (aa_cons (ae_var (pv 0)) (aa_cons (ae_c (v := .ty "bool") rfl (pe_bltn rfl B.m_bool (by decide +kernel) rfl)) aa_nil))))))))
/-! is_number -/
abbrev s_is_number : Stmt := top 27
abbrev sc_is_numberN : List Str := ["value"]
theorem sc_is_number : FnScope sc_is_numberN ["value"] (defScope s_is_number) := ⟨rfl, rfl, rfl, by decide +kernel, rfl, by decide +kernel, by decide +kernel⟩
noncomputable def den_is_number : DS :=
  (sRet (dAndV (dCall 1 m_is_whole (dCons (dV 0) dNil)) (dOp (hCmp fun i j => decide (j ≤ i)) (dV 0) (dC (.int 0)))))
noncomputable def m_is_number : List D → Sto → Res D := callM (runB 1 den_is_number)
theorem ok_is_number {P : Program} {w : World} {K : PySem.W.Frag} {mg : Str → Option Value} {base : Heap} {f : Addr} {fd : FuncData} (F : Fun K "is_number" "is_number" s_is_number f fd) (B : Bu mg)
    (h_is_whole : Has CX0 P w K mg base "is_whole" 1 ["value"] (spD K 1 m_is_whole)) :
    FnOk P w K mg base CX0 2 f fd ["value"] (spD K 1 (runB 1 den_is_number)) :=
  ok_body (k := 1) F sc_is_number fun cdv A outer s H E hr =>
    (as_one (as_ret (ae_and (ae_callD h_is_whole (hr.mono (by decide)) rfl (aa_cons (ae_var (pv 0)) aa_nil)) (ae_one (ae_ge (ae_var (pv 0)) ae_int)))))
/-! is_between -/
abbrev s_is_between : Stmt := top 28
abbrev sc_is_betweenN : List Str := ["value", "least", "most"]
theorem sc_is_between : FnScope sc_is_betweenN ["value", "least", "most"] (defScope s_is_between) := ⟨rfl, rfl, rfl, by decide +kernel, rfl, by decide +kernel, by decide +kernel⟩
noncomputable def den_is_between : DS :=
  (sRet (dAndV (dCall 1 m_is_whole (dCons (dV 0) dNil)) (dChain (hCmp fun i j => decide (i ≤ j)) (hCmp fun i j => decide (i ≤ j)) (dV 1) (dV 0) (dV 2))))
noncomputable def m_is_between : List D → Sto → Res D := callM (runB 3 den_is_between)
theorem ok_is_between {P : Program} {w : World} {K : PySem.W.Frag} {mg : Str → Option Value} {base : Heap} {f : Addr} {fd : FuncData} (F : Fun K "is_between" "is_between" s_is_between f fd) (B : Bu mg)
    (h_is_whole : Has CX0 P w K mg base "is_whole" 1 ["value"] (spD K 1 m_is_whole)) :
    FnOk P w K mg base CX0 2 f fd ["value", "least", "most"] (spD K 3 (runB 3 den_is_between)) :=
  ok_body (k := 1) F sc_is_between fun cdv A outer s H E hr =>
    (as_one (as_ret (ae_and (ae_callD h_is_whole (hr.mono (by decide)) rfl (aa_cons (ae_var (pv 0)) aa_nil)) (ae_one (ae_chain op_le op_le hs_cmp hs_cmp (ae_var (pv 1)) (ae_var (pv 0)) (ae_var (pv 2)))))))
/-! check_faces -/
abbrev s_check_faces : Stmt := top 30
abbrev sc_check_facesN : List Str := ["die", "thing", "at", "face"]
theorem sc_check_faces : FnScope sc_check_facesN ["die", "thing"] (defScope s_check_faces) := ⟨rfl, rfl, rfl, by decide +kernel, rfl, by decide +kernel, by decide +kernel⟩
noncomputable def b1_check_faces (C_BadDie : Addr) : DS :=
  (sIf (dNot (dTru (dCall 3 m_is_between (dCons (dV 3) (dCons (dC (.int 0)) (dCons (dOp (hInt yes2 fun i j => i - j) (dCB hLen (dCons (dV 0) dNil)) (dC (.int 1))) dNil)))))) (Zy.sRaise C_BadDie (dCons (dV 2) (dCons (dC (.str "face")) dNil))) sNx)
noncomputable def den_check_faces (C_BadDie : Addr) : DS :=
  (sSeq (sIf (dNot (dTru (dCB hIsi1 (dCons (dV 1) (dCons (dC (.ty "tuple")) dNil))))) (Zy.sRaise C_BadDie (dCons (dUn hNeg (dC (.int 1))) (dCons (dC (.str "shape")) dNil))) sNx)
    (sSeq (sFor (dEnum (dCons (dV 1) dNil)) (gT [2, 3]) (b1_check_faces C_BadDie))
    (sRet (dCB hLen (dCons (dV 1) dNil)))))
noncomputable def m_check_faces (C_BadDie : Addr) : List D → Sto → Res D := callM (runX 4 (den_check_faces C_BadDie))
theorem ok_check_faces {P : Program} {w : World} {K : PySem.W.Frag} {mg : Str → Option Value} {base : Heap} {f : Addr} {fd : FuncData} (F : Fun K "check_faces" "check_faces" s_check_faces f fd) (B : Bu mg)
    {C_BadDie fI_BadDie : Addr} (T_BadDie : Zy.SupTxt P K mg C_BadDie fI_BadDie) (gC_BadDie : mg "BadDie" = some (.ref C_BadDie))
    (h_is_between : Has CX0 P w K mg base "is_between" 2 ["value", "least", "most"] (spD K 3 m_is_between)) :
    FnOk P w K mg base (L2.CX P w) 3 f fd ["die", "thing"] (spD K 2 (runX 4 (den_check_faces C_BadDie))) :=
  ok_bodyX (k := 2) F sc_check_faces fun cdv A outer s H E hr =>
    (as_cons (as_if (at_not (at_val (ae_isi rfl B.m_isinstance (aa_cons (ae_var (pv 1)) (aa_cons (ae_c (v := .ty "tuple") rfl (pe_bltn rfl B.m_tuple (by decide +kernel) rfl)) aa_nil))))) (as_one (Zy.as_raise rfl T_BadDie gC_BadDie hr (takes_of rfl rfl rfl rfl) (aa_cons (ae_neg ae_int) (aa_cons ae_str aa_nil)))) as_nil)
    (as_cons (as_for (passes_of rfl) rfl (ai_enum rfl B.m_enumerate (aa_cons (ae_var (pv 1)) aa_nil)) (ag_tup rfl (ags_cons (i := 2) sc_check_faces.nd rfl (Or.inl rfl) (ags_cons (i := 3) sc_check_faces.nd rfl (Or.inl rfl) ags_nil))) (as_one (as_if (at_not (at_val (ae_callD h_is_between (hr.mono (by decide)) rfl (aa_cons (ae_var (pv 3)) (aa_cons ae_int (aa_cons (ae_sub (ae_len rfl B.m_len (aa_cons (ae_var (pv 0)) aa_nil)) ae_int) aa_nil)))))) (as_one (Zy.as_raise rfl T_BadDie gC_BadDie hr (takes_of rfl rfl rfl rfl) (aa_cons (ae_var (pv 2)) (aa_cons ae_str aa_nil)))) as_nil)))
    (as_one (as_ret (ae_len rfl B.m_len (aa_cons (ae_var (pv 1)) aa_nil))))))
/-! row_mass -/
abbrev s_row_mass : Stmt := top 31
abbrev sc_row_massN : List Str := ["die", "faces", "mass", "face"]
theorem sc_row_mass : FnScope sc_row_massN ["die", "faces"] (defScope s_row_mass) := ⟨rfl, rfl, rfl, by decide +kernel, rfl, by decide +kernel, by decide +kernel⟩
noncomputable def b1_row_mass : DS :=
  (sSet 2 (dOp hMulT (dV 2) (dOp hIx (dV 0) (dV 3))))
noncomputable def den_row_mass : DS :=
  (sSeq (sSet 2 (dC (.int 1)))
    (sSeq (sFor (dIt (dV 1)) (gN 3) b1_row_mass)
    (sRet (dV 2))))
noncomputable def m_row_mass : List D → Sto → Res D := callM (runB 4 den_row_mass)
theorem ok_row_mass {P : Program} {w : World} {K : PySem.W.Frag} {mg : Str → Option Value} {base : Heap} {f : Addr} {fd : FuncData} (F : Fun K "row_mass" "row_mass" s_row_mass f fd) (B : Bu mg) :
    FnOk P w K mg base CX0 1 f fd ["die", "faces"] (spD K 2 (runB 4 den_row_mass)) :=
  ok_body (k := 0) F sc_row_mass fun cdv A outer s H E hr =>
    (as_cons (as_set (i := 2) sc_row_mass.nd rfl (Or.inl rfl) ae_int)
    (as_cons (as_for PassesOwn.never rfl (ai_of (ae_var (pv 1))) (ag_name (i := 3) sc_row_mass.nd rfl (Or.inl rfl)) (as_one (as_set (i := 2) sc_row_mass.nd rfl (Or.inl rfl) (ae_mulT (ae_var (pv 2)) (ae_ix (ae_var (pv 0)) (ae_var (pv 3)))))))
    (as_one (as_ret (ae_var (pv 2))))))
/-! row_kind -/
abbrev s_row_kind : Stmt := top 32
abbrev sc_row_kindN : List Str := ["die", "faces", "face"]
theorem sc_row_kind : FnScope sc_row_kindN ["die", "faces"] (defScope s_row_kind) := ⟨rfl, rfl, rfl, by decide +kernel, rfl, by decide +kernel, by decide +kernel⟩
noncomputable def e1_row_kind : DE :=
  (dV 2)
noncomputable def q2_row_kind : DB :=
  (dBl (dOp hEq (dOp hIx (dV 0) (dV 2)) (dOp hIx (dV 0) (dC (.int 0)))))
noncomputable def den_row_kind : DS :=
  (sRet (dCB hLen (dCons (dLc (dIt (dV 1)) (gN 2) q2_row_kind e1_row_kind [2]) dNil)))
noncomputable def m_row_kind : List D → Sto → Res D := callM (runB 3 den_row_kind)
theorem ok_row_kind {P : Program} {w : World} {K : PySem.W.Frag} {mg : Str → Option Value} {base : Heap} {f : Addr} {fd : FuncData} (F : Fun K "row_kind" "row_kind" s_row_kind f fd) (B : Bu mg) :
    FnOk P w K mg base CX0 1 f fd ["die", "faces"] (spD K 2 (runB 3 den_row_kind)) :=
  ok_body (k := 0) F sc_row_kind fun cdv A outer s H E hr =>
    (as_one (as_ret (ae_len rfl B.m_len (aa_cons (ae_lcv [("face", 2)] rfl rfl sc_row_kind.nd (ai_of (ae_var (pv 1))) (blkOk_by (own := [("face", 2)]) (N := sc_row_kindN) (sc := defScope s_row_kind) (by decide +kernel)) (fun _ _ _ _ _ => pg_name (i := 2) sc_row_kind.nd rfl (Or.inl rfl)) (fun _ _ _ _ _ => pts_one_ (at_eq hr.units (ae_ix (ae_var (pv 0)) (ae_var (pv 2))) (ae_ix (ae_var (pv 0)) ae_int))) (fun _ _ _ _ _ => (ae_var (pv 2))) (agw_name (by decide))) aa_nil))))
/-! check_rows -/
abbrev s_check_rows : Stmt := top 36
abbrev sc_check_rowsN : List Str := ["die", "thing", "least", "row"]
theorem sc_check_rows : FnScope sc_check_rowsN ["die", "thing", "least"] (defScope s_check_rows) := ⟨rfl, rfl, rfl, by decide +kernel, rfl, by decide +kernel, by decide +kernel⟩
noncomputable def e1_check_rows (C_BadTable : Addr) : DE :=
  (dV 3)
noncomputable def q2_check_rows (C_BadTable : Addr) : DB :=
  (dNot (dTru (dCB hIsi1 (dCons (dV 3) (dCons (dC (.ty "tuple")) dNil)))))
noncomputable def den_check_rows (C_BadTable : Addr) : DS :=
  (sSeq (sIf (dOr (dNot (dTru (dCB hIsi1 (dCons (dV 1) (dCons (dC (.ty "tuple")) dNil))))) (dBl (dOp hEq (dCB hLen (dCons (dV 1) dNil)) (dC (.int 0))))) (Zv.sRaise C_BadTable (dCons (dUn hNeg (dC (.int 1))) (dCons (dC (.str "shape")) dNil))) sNx)
    (sSeq (sIf (dBl (dOp (hCmp fun i j => decide (j < i)) (dCB hLen (dCons (dLc (dIt (dV 1)) (gN 3) (q2_check_rows C_BadTable) (e1_check_rows C_BadTable) [3]) dNil)) (dC (.int 0)))) (Zv.sRaise C_BadTable (dCons (dUn hNeg (dC (.int 1))) (dCons (dC (.str "shape")) dNil))) sNx)
    (sSeq (sIf (dNot (dBl (dChain (hCmp fun i j => decide (i ≤ j)) (hCmp fun i j => decide (i ≤ j)) (dV 2) (dOp (hInt yes2 fun i j => i - j) (dCB hLen (dCons (dV 1) dNil)) (dC (.int 1))) (dC (.int 100))))) (Zv.sRaise C_BadTable (dCons (dUn hNeg (dC (.int 1))) (dCons (dC (.str "throws")) dNil))) sNx)
    (sSeq (sIf (dNot (dBl (dChain (hCmp fun i j => decide (i ≤ j)) (hCmp fun i j => decide (i ≤ j)) (dC (.int 1)) (dCB hLen (dCons (dOp hIx (dV 1) (dC (.int 0))) dNil)) (dC (.int 5))))) (Zv.sRaise C_BadTable (dCons (dUn hNeg (dC (.int 1))) (dCons (dC (.str "many")) dNil))) sNx)
    (sRet (dCall 2 m_kind_sizes (dCons (dV 0) (dCons (dOp (hInt yes2 fun i j => i - j) (dCB hLen (dCons (dV 1) dNil)) (dC (.int 1))) dNil))))))))
noncomputable def m_check_rows (C_BadTable : Addr) : List D → Sto → Res D := callM (runX 4 (den_check_rows C_BadTable))
theorem ok_check_rows {P : Program} {w : World} {K : PySem.W.Frag} {mg : Str → Option Value} {base : Heap} {f : Addr} {fd : FuncData} (F : Fun K "check_rows" "check_rows" s_check_rows f fd) (B : Bu mg)
    {C_BadTable fI_BadTable : Addr} (T_BadTable : Zv.SupTxt P K mg C_BadTable fI_BadTable) (gC_BadTable : mg "BadTable" = some (.ref C_BadTable))
    (h_kind_sizes : Has CX0 P w K mg base "kind_sizes" 3 ["die", "throws"] (spD K 2 m_kind_sizes)) :
    FnOk P w K mg base (L2.CX P w) 4 f fd ["die", "thing", "least"] (spD K 3 (runX 4 (den_check_rows C_BadTable))) :=
  ok_bodyX (k := 3) F sc_check_rows fun cdv A outer s H E hr =>
    (as_cons (as_if (at_w (aw_or (at_not (at_val (ae_isi rfl B.m_isinstance (aa_cons (ae_var (pv 1)) (aa_cons (ae_c (v := .ty "tuple") rfl (pe_bltn rfl B.m_tuple (by decide +kernel) rfl)) aa_nil))))) (aw_or1 (at_eq hr.units (ae_len rfl B.m_len (aa_cons (ae_var (pv 1)) aa_nil)) ae_int)))) (as_one (Zv.as_raise rfl T_BadTable gC_BadTable hr (takes_of rfl rfl rfl rfl) (aa_cons (ae_neg ae_int) (aa_cons ae_str aa_nil)))) as_nil)
    (as_cons (as_if (at_gt (ae_len rfl B.m_len (aa_cons (ae_lcv [("row", 3)] rfl rfl sc_check_rows.nd (ai_of (ae_var (pv 1))) (blkOk_by (own := [("row", 3)]) (N := sc_check_rowsN) (sc := defScope s_check_rows) (by decide +kernel)) (fun _ _ _ _ _ => pg_name (i := 3) sc_check_rows.nd rfl (Or.inl rfl)) (fun _ _ _ _ _ => pts_one_ (at_not (at_val (ae_isi rfl B.m_isinstance (aa_cons (ae_var (pv 3)) (aa_cons (ae_c (v := .ty "tuple") rfl (pe_bltn rfl B.m_tuple (by decide +kernel) rfl)) aa_nil)))))) (fun _ _ _ _ _ => (ae_var (pv 3))) (agw_name (by decide))) aa_nil)) ae_int) (as_one (Zv.as_raise rfl T_BadTable gC_BadTable hr (takes_of rfl rfl rfl rfl) (aa_cons (ae_neg ae_int) (aa_cons ae_str aa_nil)))) as_nil)
    (as_cons (as_if (at_not (at_chain op_le op_le hs_cmp hs_cmp (ae_var (pv 2)) (ae_sub (ae_len rfl B.m_len (aa_cons (ae_var (pv 1)) aa_nil)) ae_int) (ae_gl (v := .int 100) rfl rfl B.g_MOST_THROWS))) (as_one (Zv.as_raise rfl T_BadTable gC_BadTable hr (takes_of rfl rfl rfl rfl) (aa_cons (ae_neg ae_int) (aa_cons ae_str aa_nil)))) as_nil)
    (as_cons (as_if (at_not (at_chain op_le op_le hs_cmp hs_cmp ae_int (ae_len rfl B.m_len (aa_cons (ae_ix (ae_var (pv 1)) ae_int) aa_nil)) (ae_gl (v := .int 5) rfl rfl B.g_MOST_OUTCOMES))) (as_one (Zv.as_raise rfl T_BadTable gC_BadTable hr (takes_of rfl rfl rfl rfl) (aa_cons (ae_neg ae_int) (aa_cons ae_str aa_nil)))) as_nil)
    (as_one (as_ret (ae_callD h_kind_sizes (hr.mono (by decide)) rfl (aa_cons (ae_var (pv 0)) (aa_cons (ae_sub (ae_len rfl B.m_len (aa_cons (ae_var (pv 1)) aa_nil)) ae_int) aa_nil)))))))))
/-! check_row_form -/
abbrev s_check_row_form : Stmt := top 37
abbrev sc_check_row_formN : List Str := ["at", "row", "many", "part"]
theorem sc_check_row_form : FnScope sc_check_row_formN ["at", "row", "many"] (defScope s_check_row_form) := ⟨rfl, rfl, rfl, by decide +kernel, rfl, by decide +kernel, by decide +kernel⟩
noncomputable def e1_check_row_form (C_BadTable : Addr) : DE :=
  (dV 3)
noncomputable def q2_check_row_form (C_BadTable : Addr) : DB :=
  (dNot (dTru (dCall 1 m_is_number (dCons (dV 3) dNil))))
noncomputable def den_check_row_form (C_BadTable : Addr) : DS :=
  (sSeq (sIf (dBl (dOp hNe (dCB hLen (dCons (dV 1) dNil)) (dV 2))) (Zv.sRaise C_BadTable (dCons (dV 0) (dCons (dC (.str "many")) dNil))) sNx)
    (sIf (dBl (dOp (hCmp fun i j => decide (j < i)) (dCB hLen (dCons (dLc (dIt (dV 1)) (gN 3) (q2_check_row_form C_BadTable) (e1_check_row_form C_BadTable) [3]) dNil)) (dC (.int 0)))) (Zv.sRaise C_BadTable (dCons (dV 0) (dCons (dC (.str "number")) dNil))) sNx))
noncomputable def m_check_row_form (C_BadTable : Addr) : List D → Sto → Res D := callM (runX 4 (den_check_row_form C_BadTable))
theorem ok_check_row_form {P : Program} {w : World} {K : PySem.W.Frag} {mg : Str → Option Value} {base : Heap} {f : Addr} {fd : FuncData} (F : Fun K "check_row_form" "check_row_form" s_check_row_form f fd) (B : Bu mg)
    {C_BadTable fI_BadTable : Addr} (T_BadTable : Zv.SupTxt P K mg C_BadTable fI_BadTable) (gC_BadTable : mg "BadTable" = some (.ref C_BadTable))
    (h_is_number : Has CX0 P w K mg base "is_number" 2 ["value"] (spD K 1 m_is_number)) :
    FnOk P w K mg base (L2.CX P w) 3 f fd ["at", "row", "many"] (spD K 3 (runX 4 (den_check_row_form C_BadTable))) :=
  ok_bodyX (k := 2) F sc_check_row_form fun cdv A outer s H E hr =>
    (as_cons (as_if (at_ne hr.units (ae_len rfl B.m_len (aa_cons (ae_var (pv 1)) aa_nil)) (ae_var (pv 2))) (as_one (Zv.as_raise rfl T_BadTable gC_BadTable hr (takes_of rfl rfl rfl rfl) (aa_cons (ae_var (pv 0)) (aa_cons ae_str aa_nil)))) as_nil)
    (as_one (as_if (at_gt (ae_len rfl B.m_len (aa_cons (ae_lcv [("part", 3)] rfl rfl sc_check_row_form.nd (ai_of (ae_var (pv 1))) (blkOk_by (own := [("part", 3)]) (N := sc_check_row_formN) (sc := defScope s_check_row_form) (by decide +kernel)) (fun _ _ _ _ _ => pg_name (i := 3) sc_check_row_form.nd rfl (Or.inl rfl)) (fun _ _ _ _ _ => pts_one_ (at_not (at_val (ae_callD h_is_number (hr.mono (by decide)) rfl (aa_cons (ae_var (pv 3)) aa_nil))))) (fun _ _ _ _ _ => (ae_var (pv 3))) (agw_name (by decide))) aa_nil)) ae_int) (as_one (Zv.as_raise rfl T_BadTable gC_BadTable hr (takes_of rfl rfl rfl rfl) (aa_cons (ae_var (pv 0)) (aa_cons ae_str aa_nil)))) as_nil)))
/-! check_table -/
abbrev s_check_table : Stmt := top 38
abbrev sc_check_tableN : List Str := ["die", "thing", "sizes", "at", "row"]
theorem sc_check_table : FnScope sc_check_tableN ["die", "thing"] (defScope s_check_table) := ⟨rfl, rfl, rfl, by decide +kernel, rfl, by decide +kernel, by decide +kernel⟩
noncomputable def b1_check_table (C_BadTable : Addr) : DS :=
  (sSeq (sExpr (dCallX 3 (m_check_row_form C_BadTable) (dCons (dV 3) (dCons (dV 4) (dCons (dCB hLen (dCons (dOp hIx (dV 1) (dC (.int 0))) dNil)) dNil)))))
    (sIf (dBl (dOp hNe (dCB hSum (dCons (dV 4) dNil)) (dOp hIx (dV 2) (dV 3)))) (Zv.sRaise C_BadTable (dCons (dV 3) (dCons (dC (.str "sum")) dNil))) sNx))
noncomputable def den_check_table (C_BadTable : Addr) : DS :=
  (sSeq (sSet 2 (dCallX 3 (m_check_rows C_BadTable) (dCons (dV 0) (dCons (dV 1) (dCons (dC (.int 0)) dNil)))))
    (sSeq (sFor (dEnum (dCons (dV 1) dNil)) (gT [3, 4]) (b1_check_table C_BadTable))
    (sRet (dCB hLen (dCons (dOp hIx (dV 1) (dC (.int 0))) dNil)))))
noncomputable def m_check_table (C_BadTable : Addr) : List D → Sto → Res D := callM (runX 5 (den_check_table C_BadTable))
theorem ok_check_table {P : Program} {w : World} {K : PySem.W.Frag} {mg : Str → Option Value} {base : Heap} {f : Addr} {fd : FuncData} (F : Fun K "check_table" "check_table" s_check_table f fd) (B : Bu mg)
    {C_BadTable fI_BadTable : Addr} (T_BadTable : Zv.SupTxt P K mg C_BadTable fI_BadTable) (gC_BadTable : mg "BadTable" = some (.ref C_BadTable))
    (h_check_rows : Has (L2.CX P w) P w K mg base "check_rows" 4 ["die", "thing", "least"] (spD K 3 (m_check_rows C_BadTable)))
    (h_check_row_form : Has (L2.CX P w) P w K mg base "check_row_form" 3 ["at", "row", "many"] (spD K 3 (m_check_row_form C_BadTable))) :
    FnOk P w K mg base (L2.CX P w) 5 f fd ["die", "thing"] (spD K 2 (runX 5 (den_check_table C_BadTable))) :=
  ok_bodyX (k := 4) F sc_check_table fun cdv A outer s H E hr =>
    (as_cons (as_set (i := 2) sc_check_table.nd rfl (Or.inl rfl) (ae_callX h_check_rows (passX (takes_of rfl rfl rfl rfl)) (hr.mono (by decide)) rfl (aa_cons (ae_var (pv 0)) (aa_cons (ae_var (pv 1)) (aa_cons ae_int aa_nil)))))
    (as_cons (as_for (passes_of rfl) rfl (ai_enum rfl B.m_enumerate (aa_cons (ae_var (pv 1)) aa_nil)) (ag_tup rfl (ags_cons (i := 3) sc_check_table.nd rfl (Or.inl rfl) (ags_cons (i := 4) sc_check_table.nd rfl (Or.inl rfl) ags_nil))) (as_cons (as_expr (ae_callX h_check_row_form (passX (takes_of rfl rfl rfl rfl)) (hr.mono (by decide)) rfl (aa_cons (ae_var (pv 3)) (aa_cons (ae_var (pv 4)) (aa_cons (ae_len rfl B.m_len (aa_cons (ae_ix (ae_var (pv 1)) ae_int) aa_nil)) aa_nil)))))
    (as_one (as_if (at_ne hr.units (ae_sum rfl rfl B.m_sum (aa_cons (ae_var (pv 4)) aa_nil)) (ae_ix (ae_var (pv 2)) (ae_var (pv 3)))) (as_one (Zv.as_raise rfl T_BadTable gC_BadTable hr (takes_of rfl rfl rfl rfl) (aa_cons (ae_var (pv 3)) (aa_cons ae_str aa_nil)))) as_nil))))
    (as_one (as_ret (ae_len rfl B.m_len (aa_cons (ae_ix (ae_var (pv 1)) ae_int) aa_nil))))))
/-! place_in_row -/
abbrev s_place_in_row : Stmt := top 40
abbrev sc_place_in_rowN : List Str := ["row", "number", "ahead", "outcome", "many"]
theorem sc_place_in_row : FnScope sc_place_in_rowN ["row", "number"] (defScope s_place_in_row) := ⟨rfl, rfl, rfl, by decide +kernel, rfl, by decide +kernel, by decide +kernel⟩
noncomputable def b1_place_in_row : DS :=
  (sSeq (sSet 2 (dOp hAdd (dV 2) (dV 4)))
    (sIf (dBl (dOp (hCmp fun i j => decide (i < j)) (dV 1) (dV 2))) (sRet (dV 3)) sNx))
noncomputable def den_place_in_row : DS :=
  (sSeq (sSet 2 (dC (.int 0)))
    (sSeq (sFor (dEnum (dCons (dV 0) dNil)) (gT [3, 4]) b1_place_in_row)
    (sRet (dC .non))))
noncomputable def m_place_in_row : List D → Sto → Res D := callM (runB 5 den_place_in_row)
theorem ok_place_in_row {P : Program} {w : World} {K : PySem.W.Frag} {mg : Str → Option Value} {base : Heap} {f : Addr} {fd : FuncData} (F : Fun K "place_in_row" "place_in_row" s_place_in_row f fd) (B : Bu mg) :
    FnOk P w K mg base CX0 1 f fd ["row", "number"] (spD K 2 (runB 5 den_place_in_row)) :=
  ok_body (k := 0) F sc_place_in_row fun cdv A outer s H E hr =>
    (as_cons (as_set (i := 2) sc_place_in_row.nd rfl (Or.inl rfl) ae_int)
    (as_cons (as_for PassesOwn.never rfl (ai_enum rfl B.m_enumerate (aa_cons (ae_var (pv 0)) aa_nil)) (ag_tup rfl (ags_cons (i := 3) sc_place_in_row.nd rfl (Or.inl rfl) (ags_cons (i := 4) sc_place_in_row.nd rfl (Or.inl rfl) ags_nil))) (as_cons (as_set (i := 2) sc_place_in_row.nd rfl (Or.inl rfl) (ae_add (ae_var (pv 2)) (ae_var (pv 4))))
    (as_one (as_if (at_lt (ae_var (pv 1)) (ae_var (pv 2))) (as_one (as_ret (ae_var (pv 3)))) as_nil))))
    (as_one (as_ret ae_non))))
/-! outcome_of -/
abbrev s_outcome_of : Stmt := top 41
abbrev sc_outcome_ofN : List Str := ["die", "table", "faces"]
theorem sc_outcome_of : FnScope sc_outcome_ofN ["die", "table", "faces"] (defScope s_outcome_of) := ⟨rfl, rfl, rfl, by decide +kernel, rfl, by decide +kernel, by decide +kernel⟩
noncomputable def den_outcome_of : DS :=
  (sRet (dCall 2 m_place_in_row (dCons (dOp hIx (dV 1) (dCall 2 m_row_kind (dCons (dV 0) (dCons (dV 2) dNil)))) (dCons (dCall 2 m_row_number (dCons (dV 0) (dCons (dV 2) dNil))) dNil))))
noncomputable def m_outcome_of : List D → Sto → Res D := callM (runB 3 den_outcome_of)
theorem ok_outcome_of {P : Program} {w : World} {K : PySem.W.Frag} {mg : Str → Option Value} {base : Heap} {f : Addr} {fd : FuncData} (F : Fun K "outcome_of" "outcome_of" s_outcome_of f fd) (B : Bu mg)
    (h_row_number : Has CX0 P w K mg base "row_number" 3 ["die", "faces"] (spD K 2 m_row_number))
    (h_row_kind : Has CX0 P w K mg base "row_kind" 1 ["die", "faces"] (spD K 2 m_row_kind))
    (h_place_in_row : Has CX0 P w K mg base "place_in_row" 1 ["row", "number"] (spD K 2 m_place_in_row)) :
    FnOk P w K mg base CX0 4 f fd ["die", "table", "faces"] (spD K 3 (runB 3 den_outcome_of)) :=
  ok_body (k := 3) F sc_outcome_of fun cdv A outer s H E hr =>
    (as_one (as_ret (ae_callD h_place_in_row (hr.mono (by decide)) rfl (aa_cons (ae_ix (ae_var (pv 1)) (ae_callD h_row_kind (hr.mono (by decide)) rfl (aa_cons (ae_var (pv 0)) (aa_cons (ae_var (pv 2)) aa_nil)))) (aa_cons (ae_callD h_row_number (hr.mono (by decide)) rfl (aa_cons (ae_var (pv 0)) (aa_cons (ae_var (pv 2)) aa_nil))) aa_nil)))))
/-! _law_jug -/
abbrev s__law_jug : Stmt := top 43
abbrev sc__law_jugN : List Str := ["script", "great", "mix", "cell", "size"]
theorem sc__law_jug : FnScope sc__law_jugN ["script"] (defScope s__law_jug) := ⟨rfl, rfl, rfl, by decide +kernel, rfl, by decide +kernel, by decide +kernel⟩
noncomputable def b1__law_jug : DS :=
  (sSeq (sSet 4 (dOp (hInt (fun _ j => decide (j ≠ 0)) Int.fmod) (dCB hAbs (dCons (dCB hInt1 (dCons (dV 3) dNil)) dNil)) (dOp (hInt powW fun i j => i ^ j.toNat) (dOp (hInt powW fun i j => i ^ j.toNat) (dC (.int 10)) (dC (.int 60))) (dC (.int 8)))))
    (sSeq (sSet 2 (dOp (hInt (fun _ j => decide (j ≠ 0)) Int.fmod) (dCB hInt1 (dCons (dOp hAdd (dOp hAdd (dOp hMulT (dV 2) (dC (.int 742938285))) (dOp (hInt (fun _ j => decide (j ≠ 0)) Int.fmod) (dCB hInt1 (dCons (dV 4) dNil)) (dC (.int 1999999973)))) (dC (.int 27))) dNil)) (dC (.int 2147483647))))
    (sIf (dBl (dOp (hCmp fun i j => decide (j ≤ i)) (dV 4) (dOp (hInt powW fun i j => i ^ j.toNat) (dC (.int 10)) (dC (.int 18))))) (sExpr (dMe hApp (dV 1) (dCons (dV 4) dNil))) sNx)))
noncomputable def den__law_jug : DS :=
  (sSeq (sPar 1 2 (dCons (dLst dNil) (dCons (dC (.int 82003)) dNil)))
    (sSeq (sFor (dIt (dSl (dV 0) dONone (dOSome (dC (.int 48))))) (gN 3) b1__law_jug)
    (sRet (dLst (dCons (dUn hRev (dV 1)) (dCons (dV 2) dNil))))))
noncomputable def m__law_jug : List D → Sto → Res D := callM (runB 5 den__law_jug)
theorem ok__law_jug {P : Program} {w : World} {K : PySem.W.Frag} {mg : Str → Option Value} {base : Heap} {f : Addr} {fd : FuncData} (F : Fun K "_law_jug" "_law_jug" s__law_jug f fd) (B : Bu mg) :
    FnOk P w K mg base CX0 1 f fd ["script"] (spD K 1 (runB 5 den__law_jug)) :=
  ok_body (k := 0) F sc__law_jug fun cdv A outer s H E hr =>
    (as_cons (as_par (i := 1) (j := 2) rfl sc__law_jug.nd rfl rfl (by decide) rfl rfl (aa_cons (ae_lst aa_nil) (aa_cons ae_int aa_nil)) rfl)
    (as_cons (as_for PassesOwn.never rfl (ai_of (ae_sl (ae_var (pv 0)) ao_none (ao_some ae_int))) (ag_name (i := 3) sc__law_jug.nd rfl (Or.inl rfl)) (as_cons (as_set (i := 4) sc__law_jug.nd rfl (Or.inl rfl) (ae_mod (ae_abs rfl B.m_abs (aa_cons (ae_int1 rfl B.m_int (aa_cons (ae_var (pv 3)) aa_nil)) aa_nil)) (ae_powW (ae_powW ae_int ae_int) ae_int)))
    (as_cons (as_set (i := 2) sc__law_jug.nd rfl (Or.inl rfl) (ae_mod (ae_int1 rfl B.m_int (aa_cons (ae_add (ae_add (ae_mulT (ae_var (pv 2)) ae_int) (ae_mod (ae_int1 rfl B.m_int (aa_cons (ae_var (pv 4)) aa_nil)) ae_int)) ae_int) aa_nil)) ae_int))
    (as_one (as_if (at_ge (ae_var (pv 4)) (ae_powW ae_int ae_int)) (as_one (as_expr (ae_append (ae_var (pv 1)) (aa_cons (ae_var (pv 4)) aa_nil)))) as_nil)))))
    (as_one (as_ret (ae_lst (aa_cons (ae_rev (ae_var (pv 1))) (aa_cons (ae_var (pv 2)) aa_nil)))))))
/-! _law_pour -/
abbrev s__law_pour : Stmt := top 44
abbrev sc__law_pourN : List Str := ["jug", "many", "great", "told"]
theorem sc__law_pour : FnScope sc__law_pourN ["jug", "many"] (defScope s__law_pour) := ⟨rfl, rfl, rfl, by decide +kernel, rfl, by decide +kernel, by decide +kernel⟩
noncomputable def c1__law_pour : DB :=
  (dAnd (dBl (dOp (hCmp fun i j => decide (j < i)) (dCB hLen (dCons (dV 2) dNil)) (dC (.int 0)))) (dBl (dOp hEq (dOp hIx (dV 2) (dUn hNeg (dC (.int 1)))) (dC (.int 0)))))
noncomputable def b2__law_pour : DS :=
  (sExpr (dMe0 hPop (dV 2)))
noncomputable def den__law_pour : DS :=
  (sSeq (sSet 2 (dOp hIx (dV 0) (dC (.int 0))))
    (sSeq (sWhile fuel c1__law_pour b2__law_pour)
    (sSeq (sIf (dBl (dOp (hCmp fun i j => decide (j < i)) (dCB hLen (dCons (dV 2) dNil)) (dC (.int 0)))) (sSeq (sSet 3 (dOp (hInt (fun _ j => decide (j ≠ 0)) Int.fmod) (dCB hInt1 (dCons (dOp hIx (dV 2) (dUn hNeg (dC (.int 1)))) dNil)) (dV 1)))
    (sSeq (sSub (dV 2) (dUn hNeg (dC (.int 1))) (dOp (hInt (fun _ j => divOk j) fun i j => i / j) (dOp hIx (dV 2) (dUn hNeg (dC (.int 1)))) (dV 1)))
    (sRet (dV 3)))) sNx)
    (sSeq (sSub (dV 0) (dC (.int 1)) (dOp (hInt (fun _ j => decide (j ≠ 0)) Int.fmod) (dCB hInt1 (dCons (dOp hAdd (dOp hMulT (dOp hIx (dV 0) (dC (.int 1))) (dC (.int 62089911))) (dC (.int 1301))) dNil)) (dC (.int 2147483647))))
    (sRet (dOp (hInt (fun _ j => decide (j ≠ 0)) Int.fmod) (dCB hInt1 (dCons (dOp (hInt (fun _ j => divOk j) fun i j => i / j) (dOp hIx (dV 0) (dC (.int 1))) (dC (.int 109))) dNil)) (dV 1)))))))
noncomputable def m__law_pour : List D → Sto → Res D := callM (runB 4 den__law_pour)
theorem ok__law_pour {P : Program} {w : World} {K : PySem.W.Frag} {mg : Str → Option Value} {base : Heap} {f : Addr} {fd : FuncData} (F : Fun K "_law_pour" "_law_pour" s__law_pour f fd) (B : Bu mg) :
    FnOk P w K mg base CX0 1 f fd ["jug", "many"] (spD K 2 (runB 4 den__law_pour)) :=
  ok_body (k := 0) F sc__law_pour fun cdv A outer s H E hr =>
    (as_cons (as_set (i := 2) sc__law_pour.nd rfl (Or.inl rfl) (ae_ix (ae_var (pv 0)) ae_int))
    (as_cons (as_while PassesOwn.never (at_w (aw_and (at_gt (ae_len rfl B.m_len (aa_cons (ae_var (pv 2)) aa_nil)) ae_int) (aw_and1 (at_eq hr.units (ae_ix (ae_var (pv 2)) (ae_neg ae_int)) ae_int)))) (as_one (as_expr (ae_pop (ae_var (pv 2))))))
    (as_cons (as_if (at_gt (ae_len rfl B.m_len (aa_cons (ae_var (pv 2)) aa_nil)) ae_int) (as_cons (as_set (i := 3) sc__law_pour.nd rfl (Or.inl rfl) (ae_mod (ae_int1 rfl B.m_int (aa_cons (ae_ix (ae_var (pv 2)) (ae_neg ae_int)) aa_nil)) (ae_var (pv 1))))
    (as_cons (as_sub (ae_div (ae_ix (ae_var (pv 2)) (ae_neg ae_int)) (ae_var (pv 1))) (ae_var (pv 2)) (ae_neg ae_int))
    (as_one (as_ret (ae_var (pv 3)))))) as_nil)
    (as_cons (as_sub (ae_mod (ae_int1 rfl B.m_int (aa_cons (ae_add (ae_mulT (ae_ix (ae_var (pv 0)) ae_int) ae_int) ae_int) aa_nil)) ae_int) (ae_var (pv 0)) ae_int)
    (as_one (as_ret (ae_mod (ae_int1 rfl B.m_int (aa_cons (ae_div (ae_ix (ae_var (pv 0)) ae_int) ae_int) aa_nil)) (ae_var (pv 1)))))))))
/-! _law_die -/
abbrev s__law_die : Stmt := top 45
abbrev sc__law_dieN : List Str := ["jug", "most", "pairs", "one", "other", "faces", "face"]
theorem sc__law_die : FnScope sc__law_dieN ["jug", "most"] (defScope s__law_die) := ⟨rfl, rfl, rfl, by decide +kernel, rfl, by decide +kernel, by decide +kernel⟩
noncomputable def e1__law_die : DE :=
  (dOp hIx (dLst (dCons (dV 3) (dCons (dV 4) dNil))) (dCall 2 m__law_pour (dCons (dV 0) (dCons (dC (.int 2)) dNil))))
noncomputable def den__law_die : DS :=
  (sSeq (sSet 2 (dLst (dCons (dTup (dCons (dC (.int 1)) (dCons (dC (.int 1)) dNil))) (dCons (dTup (dCons (dC (.int 1)) (dCons (dC (.int 2)) dNil))) (dCons (dTup (dCons (dC (.int 2)) (dCons (dC (.int 1)) dNil))) (dCons (dTup (dCons (dC (.int 1)) (dCons (dC (.int 3)) dNil))) (dCons (dTup (dCons (dC (.int 3)) (dCons (dC (.int 2)) dNil))) (dCons (dTup (dCons (dC (.int 2)) (dCons (dC (.int 3)) dNil))) (dCons (dTup (dCons (dC (.int 1)) (dCons (dC (.int 5)) dNil))) (dCons (dTup (dCons (dC (.int 5)) (dCons (dC (.int 1)) dNil))) (dCons (dTup (dCons (dC (.int 4)) (dCons (dC (.int 3)) dNil))) (dCons (dTup (dCons (dC (.int 4)) (dCons (dC (.int 5)) dNil))) (dCons (dTup (dCons (dC (.int 2)) (dCons (dC (.int 5)) dNil))) (dCons (dTup (dCons (dC (.int 4)) (dCons (dC (.int 1)) dNil))) dNil))))))))))))))
    (sSeq (sAsg (gT [3, 4]) (dOp hIx (dV 2) (dCall 2 m__law_pour (dCons (dV 0) (dCons (dCB hLen (dCons (dV 2) dNil)) dNil)))))
    (sSeq (sSet 5 (dOp hAdd (dLst (dCons (dV 3) dNil)) (dLc (dRng1 (dCons (dOp hAdd (dC (.int 1)) (dCall 2 m__law_pour (dCons (dV 0) (dCons (dOp (hInt yes2 fun i j => i - j) (dV 1) (dC (.int 1))) dNil)))) dNil)) (gN 6) dYes e1__law_die [6])))
    (sSeq (sIf (dBl (dOp (hIn true) (dV 4) (dV 5))) (sSub (dV 5) (dUn hNeg (dC (.int 1))) (dV 4)) sNx)
    (sRet (dCB hTupOf (dCons (dV 5) dNil)))))))
noncomputable def m__law_die : List D → Sto → Res D := callM (runB 7 den__law_die)
theorem ok__law_die {P : Program} {w : World} {K : PySem.W.Frag} {mg : Str → Option Value} {base : Heap} {f : Addr} {fd : FuncData} (F : Fun K "_law_die" "_law_die" s__law_die f fd) (B : Bu mg)
    (h__law_pour : Has CX0 P w K mg base "_law_pour" 1 ["jug", "many"] (spD K 2 m__law_pour)) :
    FnOk P w K mg base CX0 2 f fd ["jug", "most"] (spD K 2 (runB 7 den__law_die)) :=
  ok_body (k := 1) F sc__law_die fun cdv A outer s H E hr =>
    (as_cons (as_set (i := 2) sc__law_die.nd rfl (Or.inl rfl) (ae_lst (aa_cons (ae_tup (aa_cons ae_int (aa_cons ae_int aa_nil))) (aa_cons (ae_tup (aa_cons ae_int (aa_cons ae_int aa_nil))) (aa_cons (ae_tup (aa_cons ae_int (aa_cons ae_int aa_nil))) (aa_cons (ae_tup (aa_cons ae_int (aa_cons ae_int aa_nil))) (aa_cons (ae_tup (aa_cons ae_int (aa_cons ae_int aa_nil))) (aa_cons (ae_tup (aa_cons ae_int (aa_cons ae_int aa_nil))) (aa_cons (ae_tup (aa_cons ae_int (aa_cons ae_int aa_nil))) (aa_cons (ae_tup (aa_cons ae_int (aa_cons ae_int aa_nil))) (aa_cons (ae_tup (aa_cons ae_int (aa_cons ae_int aa_nil))) (aa_cons (ae_tup (aa_cons ae_int (aa_cons ae_int aa_nil))) (aa_cons (ae_tup (aa_cons ae_int (aa_cons ae_int aa_nil))) (aa_cons (ae_tup (aa_cons ae_int (aa_cons ae_int aa_nil))) aa_nil))))))))))))))
    (as_cons (as_asg (ae_ix (ae_var (pv 2)) (ae_callD h__law_pour (hr.mono (by decide)) rfl (aa_cons (ae_var (pv 0)) (aa_cons (ae_len rfl B.m_len (aa_cons (ae_var (pv 2)) aa_nil)) aa_nil)))) (ag_tup rfl (ags_cons (i := 3) sc__law_die.nd rfl (Or.inr rfl) (ags_cons (i := 4) sc__law_die.nd rfl (Or.inr rfl) ags_nil))))
    (as_cons (as_set (i := 5) sc__law_die.nd rfl (Or.inl rfl) (ae_add (ae_lst (aa_cons (ae_var (pv 3)) aa_nil)) (ae_lcv [("face", 6)] rfl rfl sc__law_die.nd (ai_range1 rfl B.m_range (aa_cons (ae_add ae_int (ae_callD h__law_pour (hr.mono (by decide)) rfl (aa_cons (ae_var (pv 0)) (aa_cons (ae_sub (ae_var (pv 1)) ae_int) aa_nil)))) aa_nil)) (blkOk_by (own := [("face", 6)]) (N := sc__law_dieN) (sc := defScope s__law_die) (by decide +kernel)) (fun _ _ _ _ _ => pg_name (i := 6) sc__law_die.nd rfl (Or.inl rfl)) (fun _ _ _ _ _ => pts_none) (fun _ _ _ _ _ => (ae_ix (ae_lst (aa_cons (ae_var (pv 3)) (aa_cons (ae_var (pv 4)) aa_nil))) (ae_callD h__law_pour (hr.mono (by decide)) rfl (aa_cons (ae_var (pv 0)) (aa_cons ae_int aa_nil))))) (agw_name (by decide)))))
    (as_cons (as_if (at_notIn (ae_var (pv 4)) (ae_var (pv 5))) (as_one (as_sub (ae_var (pv 4)) (ae_var (pv 5)) (ae_neg ae_int))) as_nil)
    (as_one (as_ret (ae_tupOf rfl B.m_tuple (aa_cons (ae_var (pv 5)) aa_nil))))))))
/-! _law_form -/
abbrev s__law_form : Stmt := top 46
abbrev sc__law_formN : List Str := ["die", "light", "weight"]
theorem sc__law_form : FnScope sc__law_formN ["die"] (defScope s__law_form) := ⟨rfl, rfl, rfl, by decide +kernel, rfl, by decide +kernel, by decide +kernel⟩
noncomputable def e1__law_form : DE :=
  (dV 2)
noncomputable def q2__law_form : DB :=
  (dBl (dOp hNe (dV 2) (dOp hIx (dV 0) (dC (.int 0)))))
noncomputable def den__law_form : DS :=
  (sSeq (sSet 1 (dLc (dIt (dV 0)) (gN 2) q2__law_form e1__law_form [2]))
    (sRet (dTup (dCons (dOp hIx (dV 0) (dC (.int 0))) (dCons (dOp (hInt yes2 fun i j => i - j) (dCB hLen (dCons (dV 0) dNil)) (dCB hLen (dCons (dV 1) dNil))) (dCons (dIfE (dBl (dOp (hCmp fun i j => decide (j < i)) (dCB hLen (dCons (dV 1) dNil)) (dC (.int 0)))) (dOp hIx (dV 1) (dC (.int 0))) (dC (.int 1))) (dCons (dCB hLen (dCons (dV 1) dNil)) dNil)))))))
noncomputable def m__law_form : List D → Sto → Res D := callM (runB 3 den__law_form)
theorem ok__law_form {P : Program} {w : World} {K : PySem.W.Frag} {mg : Str → Option Value} {base : Heap} {f : Addr} {fd : FuncData} (F : Fun K "_law_form" "_law_form" s__law_form f fd) (B : Bu mg) :
    FnOk P w K mg base CX0 1 f fd ["die"] (spD K 1 (runB 3 den__law_form)) :=
  ok_body (k := 0) F sc__law_form fun cdv A outer s H E hr =>
    (as_cons (as_setLcv (i := 1) [("weight", 2)] rfl rfl sc__law_form.nd rfl rfl (sw_true rfl rfl rfl (by decide +kernel)) (ai_of (ae_var (pv 0))) (blkOk_by (own := [("weight", 2)]) (N := sc__law_formN) (sc := defScope s__law_form) (by decide +kernel)) (fun _ _ _ _ _ => pg_name (i := 2) sc__law_form.nd rfl (Or.inl rfl)) (fun _ _ _ _ _ => pts_one_ (at_ne hr.units (ae_var (pv 2)) (ae_ix (ae_var (pv 0)) ae_int))) (fun _ _ _ _ _ => (ae_var (pv 2))) (agw_name (by decide)))
    (as_one (as_ret (ae_tup (aa_cons (ae_ix (ae_var (pv 0)) ae_int) (aa_cons (ae_sub (ae_len rfl B.m_len (aa_cons (ae_var (pv 0)) aa_nil)) (ae_len rfl B.m_len (aa_cons (ae_var (pv 1)) aa_nil))) (aa_cons (ae_if (at_gt (ae_len rfl B.m_len (aa_cons (ae_var (pv 1)) aa_nil)) ae_int) (ae_ix (ae_var (pv 1)) ae_int) ae_int) (aa_cons (ae_len rfl B.m_len (aa_cons (ae_var (pv 1)) aa_nil)) aa_nil))))))))
/-! _law_choose -/
abbrev s__law_choose : Stmt := top 47
abbrev sc__law_chooseN : List Str := ["n", "k", "told", "at"]
theorem sc__law_choose : FnScope sc__law_chooseN ["n", "k"] (defScope s__law_choose) := ⟨rfl, rfl, rfl, by decide +kernel, rfl, by decide +kernel, by decide +kernel⟩
noncomputable def b1__law_choose : DS :=
  (sSet 2 (dOp (hInt (fun _ j => divOk j) fun i j => i / j) (dOp hMulT (dV 2) (dOp (hInt yes2 fun i j => i - j) (dV 0) (dV 3))) (dOp hAdd (dV 3) (dC (.int 1)))))
noncomputable def den__law_choose : DS :=
  (sSeq (sSet 2 (dC (.int 1)))
    (sSeq (sFor (dRng1 (dCons (dV 1) dNil)) (gN 3) b1__law_choose)
    (sRet (dIfE (dBl (dOp (hCmp fun i j => decide (i ≤ j)) (dV 1) (dV 0))) (dV 2) (dC (.int 0))))))
noncomputable def m__law_choose : List D → Sto → Res D := callM (runB 4 den__law_choose)
theorem ok__law_choose {P : Program} {w : World} {K : PySem.W.Frag} {mg : Str → Option Value} {base : Heap} {f : Addr} {fd : FuncData} (F : Fun K "_law_choose" "_law_choose" s__law_choose f fd) (B : Bu mg) :
    FnOk P w K mg base CX0 1 f fd ["n", "k"] (spD K 2 (runB 4 den__law_choose)) :=
  ok_body (k := 0) F sc__law_choose fun cdv A outer s H E hr =>
    (as_cons (as_set (i := 2) sc__law_choose.nd rfl (Or.inl rfl) ae_int)
    (as_cons (as_for PassesOwn.never rfl (ai_range1 rfl B.m_range (aa_cons (ae_var (pv 1)) aa_nil)) (ag_name (i := 3) sc__law_choose.nd rfl (Or.inl rfl)) (as_one (as_set (i := 2) sc__law_choose.nd rfl (Or.inl rfl) (ae_div (ae_mulT (ae_var (pv 2)) (ae_sub (ae_var (pv 0)) (ae_var (pv 3)))) (ae_add (ae_var (pv 3)) ae_int)))))
    (as_one (as_ret (ae_if (at_le (ae_var (pv 1)) (ae_var (pv 0))) (ae_var (pv 2)) ae_int)))))
/-! _law_power -/
abbrev s__law_power : Stmt := top 48
abbrev sc__law_powerN : List Str := ["one", "many", "told", "lap"]
theorem sc__law_power : FnScope sc__law_powerN ["one", "many"] (defScope s__law_power) := ⟨rfl, rfl, rfl, by decide +kernel, rfl, by decide +kernel, by decide +kernel⟩
noncomputable def b1__law_power : DS :=
  (sSet 2 (dOp hMulT (dV 2) (dV 0)))
noncomputable def den__law_power : DS :=
  (sSeq (sSet 2 (dC (.int 1)))
    (sSeq (sFor (dRng1 (dCons (dV 1) dNil)) (gN 3) b1__law_power)
    (sRet (dV 2))))
noncomputable def m__law_power : List D → Sto → Res D := callM (runB 4 den__law_power)
theorem ok__law_power {P : Program} {w : World} {K : PySem.W.Frag} {mg : Str → Option Value} {base : Heap} {f : Addr} {fd : FuncData} (F : Fun K "_law_power" "_law_power" s__law_power f fd) (B : Bu mg) :
    FnOk P w K mg base CX0 1 f fd ["one", "many"] (spD K 2 (runB 4 den__law_power)) :=
  ok_body (k := 0) F sc__law_power fun cdv A outer s H E hr =>
    (as_cons (as_set (i := 2) sc__law_power.nd rfl (Or.inl rfl) ae_int)
    (as_cons (as_for PassesOwn.never rfl (ai_range1 rfl B.m_range (aa_cons (ae_var (pv 1)) aa_nil)) (ag_name (i := 3) sc__law_power.nd rfl (Or.inl rfl)) (as_one (as_set (i := 2) sc__law_power.nd rfl (Or.inl rfl) (ae_mulT (ae_var (pv 2)) (ae_var (pv 0))))))
    (as_one (as_ret (ae_var (pv 2))))))
/-! _law_size -/
abbrev s__law_size : Stmt := top 49
abbrev sc__law_sizeN : List Str := ["die", "throws", "kind", "a", "r", "d", "s"]
theorem sc__law_size : FnScope sc__law_sizeN ["die", "throws", "kind"] (defScope s__law_size) := ⟨rfl, rfl, rfl, by decide +kernel, rfl, by decide +kernel, by decide +kernel⟩
noncomputable def den__law_size : DS :=
  (sSeq (sAsg (gT [3, 4, 5, 6]) (dCall 1 m__law_form (dCons (dV 0) dNil)))
    (sRet (dOp hMulT (dOp hMulT (dCall 2 m__law_choose (dCons (dV 1) (dCons (dV 2) dNil))) (dCall 2 m__law_power (dCons (dV 4) (dCons (dV 2) dNil)))) (dCall 2 m__law_power (dCons (dV 6) (dCons (dOp (hInt yes2 fun i j => i - j) (dV 1) (dV 2)) dNil))))))
noncomputable def m__law_size : List D → Sto → Res D := callM (runB 7 den__law_size)
theorem ok__law_size {P : Program} {w : World} {K : PySem.W.Frag} {mg : Str → Option Value} {base : Heap} {f : Addr} {fd : FuncData} (F : Fun K "_law_size" "_law_size" s__law_size f fd) (B : Bu mg)
    (h__law_form : Has CX0 P w K mg base "_law_form" 1 ["die"] (spD K 1 m__law_form))
    (h__law_choose : Has CX0 P w K mg base "_law_choose" 1 ["n", "k"] (spD K 2 m__law_choose))
    (h__law_power : Has CX0 P w K mg base "_law_power" 1 ["one", "many"] (spD K 2 m__law_power)) :
    FnOk P w K mg base CX0 2 f fd ["die", "throws", "kind"] (spD K 3 (runB 7 den__law_size)) :=
  ok_body (k := 1) F sc__law_size fun cdv A outer s H E hr =>
    (as_cons (as_asg (ae_callD h__law_form (hr.mono (by decide)) rfl (aa_cons (ae_var (pv 0)) aa_nil)) (ag_tup rfl (ags_cons (i := 3) sc__law_size.nd rfl (Or.inl rfl) (ags_cons (i := 4) sc__law_size.nd rfl (Or.inl rfl) (ags_cons (i := 5) sc__law_size.nd rfl (Or.inl rfl) (ags_cons (i := 6) sc__law_size.nd rfl (Or.inl rfl) ags_nil))))))
    (as_one (as_ret (ae_mulT (ae_mulT (ae_callD h__law_choose (hr.mono (by decide)) rfl (aa_cons (ae_var (pv 1)) (aa_cons (ae_var (pv 2)) aa_nil))) (ae_callD h__law_power (hr.mono (by decide)) rfl (aa_cons (ae_var (pv 4)) (aa_cons (ae_var (pv 2)) aa_nil)))) (ae_callD h__law_power (hr.mono (by decide)) rfl (aa_cons (ae_var (pv 6)) (aa_cons (ae_sub (ae_var (pv 1)) (ae_var (pv 2))) aa_nil)))))))
/-! _law_mass -/
abbrev s__law_mass : Stmt := top 50
abbrev sc__law_massN : List Str := ["die", "faces", "told", "face"]
theorem sc__law_mass : FnScope sc__law_massN ["die", "faces"] (defScope s__law_mass) := ⟨rfl, rfl, rfl, by decide +kernel, rfl, by decide +kernel, by decide +kernel⟩
noncomputable def b1__law_mass : DS :=
  (sSet 2 (dOp hMulT (dV 2) (dOp hIx (dV 0) (dV 3))))
noncomputable def den__law_mass : DS :=
  (sSeq (sSet 2 (dC (.int 1)))
    (sSeq (sFor (dIt (dV 1)) (gN 3) b1__law_mass)
    (sRet (dV 2))))
noncomputable def m__law_mass : List D → Sto → Res D := callM (runB 4 den__law_mass)
theorem ok__law_mass {P : Program} {w : World} {K : PySem.W.Frag} {mg : Str → Option Value} {base : Heap} {f : Addr} {fd : FuncData} (F : Fun K "_law_mass" "_law_mass" s__law_mass f fd) (B : Bu mg) :
    FnOk P w K mg base CX0 1 f fd ["die", "faces"] (spD K 2 (runB 4 den__law_mass)) :=
  ok_body (k := 0) F sc__law_mass fun cdv A outer s H E hr =>
    (as_cons (as_set (i := 2) sc__law_mass.nd rfl (Or.inl rfl) ae_int)
    (as_cons (as_for PassesOwn.never rfl (ai_of (ae_var (pv 1))) (ag_name (i := 3) sc__law_mass.nd rfl (Or.inl rfl)) (as_one (as_set (i := 2) sc__law_mass.nd rfl (Or.inl rfl) (ae_mulT (ae_var (pv 2)) (ae_ix (ae_var (pv 0)) (ae_var (pv 3)))))))
    (as_one (as_ret (ae_var (pv 2))))))
/-! _law_kind -/
abbrev s__law_kind : Stmt := top 51
abbrev sc__law_kindN : List Str := ["die", "faces", "face"]
theorem sc__law_kind : FnScope sc__law_kindN ["die", "faces"] (defScope s__law_kind) := ⟨rfl, rfl, rfl, by decide +kernel, rfl, by decide +kernel, by decide +kernel⟩
noncomputable def e1__law_kind : DE :=
  (dV 2)
noncomputable def q2__law_kind : DB :=
  (dBl (dOp hEq (dOp hIx (dV 0) (dV 2)) (dOp hIx (dV 0) (dC (.int 0)))))
noncomputable def den__law_kind : DS :=
  (sRet (dCB hLen (dCons (dLc (dIt (dV 1)) (gN 2) q2__law_kind e1__law_kind [2]) dNil)))
noncomputable def m__law_kind : List D → Sto → Res D := callM (runB 3 den__law_kind)
theorem ok__law_kind {P : Program} {w : World} {K : PySem.W.Frag} {mg : Str → Option Value} {base : Heap} {f : Addr} {fd : FuncData} (F : Fun K "_law_kind" "_law_kind" s__law_kind f fd) (B : Bu mg) :
    FnOk P w K mg base CX0 1 f fd ["die", "faces"] (spD K 2 (runB 3 den__law_kind)) :=
  ok_body (k := 0) F sc__law_kind fun cdv A outer s H E hr =>
    (as_one (as_ret (ae_len rfl B.m_len (aa_cons (ae_lcv [("face", 2)] rfl rfl sc__law_kind.nd (ai_of (ae_var (pv 1))) (blkOk_by (own := [("face", 2)]) (N := sc__law_kindN) (sc := defScope s__law_kind) (by decide +kernel)) (fun _ _ _ _ _ => pg_name (i := 2) sc__law_kind.nd rfl (Or.inl rfl)) (fun _ _ _ _ _ => pts_one_ (at_eq hr.units (ae_ix (ae_var (pv 0)) (ae_var (pv 2))) (ae_ix (ae_var (pv 0)) ae_int))) (fun _ _ _ _ _ => (ae_var (pv 2))) (agw_name (by decide))) aa_nil))))
/-! _law_number -/
abbrev s__law_number : Stmt := top 52
abbrev sc__law_numberN : List Str := ["die", "faces", "a", "r", "d", "s", "heavy", "places", "left", "ways", "at", "rank", "face"]
theorem sc__law_number : FnScope sc__law_numberN ["die", "faces"] (defScope s__law_number) := ⟨rfl, rfl, rfl, by decide +kernel, rfl, by decide +kernel, by decide +kernel⟩
noncomputable def e1__law_number : DE :=
  (dV 12)
noncomputable def q2__law_number : DB :=
  (dBl (dOp hEq (dOp hIx (dV 0) (dV 12)) (dOp hIx (dV 0) (dOp hIx (dV 1) (dV 10)))))
noncomputable def b3__law_number : DS :=
  (sSeq (sSet 11 (dCB hLen (dCons (dLc (dRng1 (dCons (dOp hIx (dV 1) (dV 10)) dNil)) (gN 12) q2__law_number e1__law_number [12]) dNil)))
    (sSeq (sIf (dBl (dOp hEq (dOp hIx (dV 0) (dOp hIx (dV 1) (dV 10))) (dV 2))) (sSeq (sSet 9 (dOp (hInt (fun _ j => divOk j) fun i j => i / j) (dOp hMulT (dV 9) (dOp (hInt yes2 fun i j => i - j) (dV 10) (dV 6))) (dOp hAdd (dV 6) (dC (.int 1)))))
    (sSeq (sSet 6 (dOp hAdd (dV 6) (dC (.int 1))))
    (sSeq (sSet 7 (dOp hAdd (dV 7) (dV 9)))
    (sSet 8 (dOp hAdd (dOp hMulT (dV 8) (dV 3)) (dV 11)))))) (sSet 8 (dOp hAdd (dOp hMulT (dV 8) (dV 5)) (dV 11))))
    (sSet 9 (dIfE (dBl (dOp hEq (dV 6) (dOp hAdd (dV 10) (dC (.int 1))))) (dC (.int 1)) (dOp (hInt (fun _ j => divOk j) fun i j => i / j) (dOp hMulT (dV 9) (dOp hAdd (dV 10) (dC (.int 1)))) (dOp (hInt yes2 fun i j => i - j) (dOp hAdd (dV 10) (dC (.int 1))) (dV 6)))))))
noncomputable def den__law_number : DS :=
  (sSeq (sAsg (gT [2, 3, 4, 5]) (dCall 1 m__law_form (dCons (dV 0) dNil)))
    (sSeq (sAsg (gT [6, 7, 8, 9]) (dTup (dCons (dC (.int 0)) (dCons (dC (.int 0)) (dCons (dC (.int 0)) (dCons (dC (.int 1)) dNil))))))
    (sSeq (sFor (dRng1 (dCons (dCB hLen (dCons (dV 1) dNil)) dNil)) (gN 10) b3__law_number)
    (sRet (dOp hAdd (dOp hMulT (dOp hMulT (dV 7) (dCall 2 m__law_power (dCons (dV 3) (dCons (dV 6) dNil)))) (dCall 2 m__law_power (dCons (dV 5) (dCons (dOp (hInt yes2 fun i j => i - j) (dCB hLen (dCons (dV 1) dNil)) (dV 6)) dNil)))) (dV 8))))))
noncomputable def m__law_number : List D → Sto → Res D := callM (runB 13 den__law_number)
theorem ok__law_number {P : Program} {w : World} {K : PySem.W.Frag} {mg : Str → Option Value} {base : Heap} {f : Addr} {fd : FuncData} (F : Fun K "_law_number" "_law_number" s__law_number f fd) (B : Bu mg)
    (h__law_form : Has CX0 P w K mg base "_law_form" 1 ["die"] (spD K 1 m__law_form))
    (h__law_power : Has CX0 P w K mg base "_law_power" 1 ["one", "many"] (spD K 2 m__law_power)) :
    FnOk P w K mg base CX0 2 f fd ["die", "faces"] (spD K 2 (runB 13 den__law_number)) :=
  ok_body (k := 1) F sc__law_number fun cdv A outer s H E hr =>
    (as_cons (as_asg (ae_callD h__law_form (hr.mono (by decide)) rfl (aa_cons (ae_var (pv 0)) aa_nil)) (ag_tup rfl (ags_cons (i := 2) sc__law_number.nd rfl (Or.inl rfl) (ags_cons (i := 3) sc__law_number.nd rfl (Or.inl rfl) (ags_cons (i := 4) sc__law_number.nd rfl (Or.inl rfl) (ags_cons (i := 5) sc__law_number.nd rfl (Or.inl rfl) ags_nil))))))
    (as_cons (as_asg (ae_tup (aa_cons ae_int (aa_cons ae_int (aa_cons ae_int (aa_cons ae_int aa_nil))))) (ag_tup rfl (ags_cons (i := 6) sc__law_number.nd rfl (Or.inl rfl) (ags_cons (i := 7) sc__law_number.nd rfl (Or.inl rfl) (ags_cons (i := 8) sc__law_number.nd rfl (Or.inl rfl) (ags_cons (i := 9) sc__law_number.nd rfl (Or.inl rfl) ags_nil))))))
    (as_cons (as_for PassesOwn.never rfl (ai_range1 rfl B.m_range (aa_cons (ae_len rfl B.m_len (aa_cons (ae_var (pv 1)) aa_nil)) aa_nil)) (ag_name (i := 10) sc__law_number.nd rfl (Or.inr rfl)) (as_cons (as_set (i := 11) sc__law_number.nd rfl (Or.inl rfl) (ae_len rfl B.m_len (aa_cons (ae_lcv [("face", 12)] rfl rfl sc__law_number.nd (ai_range1 rfl B.m_range (aa_cons (ae_ix (ae_var (pv 1)) (ae_var (pv 10))) aa_nil)) (blkOk_by (own := [("face", 12)]) (N := sc__law_numberN) (sc := defScope s__law_number) (by decide +kernel)) (fun _ _ _ _ _ => pg_name (i := 12) sc__law_number.nd rfl (Or.inl rfl)) (fun _ _ _ _ _ => pts_one_ (at_eq hr.units (ae_ix (ae_var (pv 0)) (ae_var (pv 12))) (ae_ix (ae_var (pv 0)) (ae_ix (ae_var (pv 1)) (ae_var (pv 10)))))) (fun _ _ _ _ _ => (ae_var (pv 12))) (agw_name (by decide))) aa_nil)))
    (as_cons (as_if (at_eq hr.units (ae_ix (ae_var (pv 0)) (ae_ix (ae_var (pv 1)) (ae_var (pv 10)))) (ae_var (pv 2))) (as_cons (as_set (i := 9) sc__law_number.nd rfl (Or.inl rfl) (ae_div (ae_mulT (ae_var (pv 9)) (ae_sub (ae_var (pv 10)) (ae_var (pv 6)))) (ae_add (ae_var (pv 6)) ae_int)))
    (as_cons (as_set (i := 6) sc__law_number.nd rfl (Or.inl rfl) (ae_add (ae_var (pv 6)) ae_int))
    (as_cons (as_set (i := 7) sc__law_number.nd rfl (Or.inl rfl) (ae_add (ae_var (pv 7)) (ae_var (pv 9))))
    (as_one (as_set (i := 8) sc__law_number.nd rfl (Or.inl rfl) (ae_add (ae_mulT (ae_var (pv 8)) (ae_var (pv 3))) (ae_var (pv 11)))))))) (as_one (as_set (i := 8) sc__law_number.nd rfl (Or.inl rfl) (ae_add (ae_mulT (ae_var (pv 8)) (ae_var (pv 5))) (ae_var (pv 11))))))
    (as_one (as_set (i := 9) sc__law_number.nd rfl (Or.inl rfl) (ae_if (at_eq hr.units (ae_var (pv 6)) (ae_add (ae_var (pv 10)) ae_int)) ae_int (ae_div (ae_mulT (ae_var (pv 9)) (ae_add (ae_var (pv 10)) ae_int)) (ae_sub (ae_add (ae_var (pv 10)) ae_int) (ae_var (pv 6))))))))))
    (as_one (as_ret (ae_add (ae_mulT (ae_mulT (ae_var (pv 7)) (ae_callD h__law_power (hr.mono (by decide)) rfl (aa_cons (ae_var (pv 3)) (aa_cons (ae_var (pv 6)) aa_nil)))) (ae_callD h__law_power (hr.mono (by decide)) rfl (aa_cons (ae_var (pv 5)) (aa_cons (ae_sub (ae_len rfl B.m_len (aa_cons (ae_var (pv 1)) aa_nil)) (ae_var (pv 6))) aa_nil)))) (ae_var (pv 8))))))))
/-! _law_row -/
abbrev s__law_row : Stmt := top 53
abbrev sc__law_rowN : List Str := ["die", "throws", "kind", "number", "a", "r", "d", "s", "heavy", "light", "whole", "places", "left", "told", "ways", "at", "face"]
theorem sc__law_row : FnScope sc__law_rowN ["die", "throws", "kind", "number"] (defScope s__law_row) := ⟨rfl, rfl, rfl, by decide +kernel, rfl, by decide +kernel, by decide +kernel⟩
noncomputable def e1__law_row : DE :=
  (dV 16)
noncomputable def q2__law_row : DB :=
  (dBl (dOp hEq (dOp hIx (dV 0) (dV 16)) (dV 4)))
noncomputable def e3__law_row : DE :=
  (dV 16)
noncomputable def q4__law_row : DB :=
  (dBl (dOp hNe (dOp hIx (dV 0) (dV 16)) (dV 4)))
noncomputable def b5__law_row : DS :=
  (sIf (dAnd (dBl (dOp (hCmp fun i j => decide (j < i)) (dV 2) (dC (.int 0)))) (dOr (dBl (dOp (hCmp fun i j => decide (i < j)) (dV 15) (dV 2))) (dBl (dOp (hCmp fun i j => decide (j ≤ i)) (dV 11) (dV 14))))) (sSeq (sExpr (dMe hApp (dV 13) (dCons (dOp hIx (dV 8) (dOp (hInt (fun _ j => decide (j ≠ 0)) Int.fmod) (dCB hInt1 (dCons (dV 12) dNil)) (dV 5))) dNil)))
    (sSeq (sSet 12 (dOp (hInt (fun _ j => divOk j) fun i j => i / j) (dV 12) (dV 5)))
    (sSeq (sIf (dBl (dOp (hCmp fun i j => decide (j ≤ i)) (dV 15) (dV 2))) (sSeq (sSet 11 (dOp (hInt yes2 fun i j => i - j) (dV 11) (dV 14)))
    (sSet 14 (dOp (hInt (fun _ j => divOk j) fun i j => i / j) (dOp hMulT (dV 14) (dV 2)) (dV 15)))) sNx)
    (sSet 2 (dOp (hInt yes2 fun i j => i - j) (dV 2) (dC (.int 1))))))) (sSeq (sExpr (dMe hApp (dV 13) (dCons (dOp hIx (dV 9) (dOp (hInt (fun _ j => decide (j ≠ 0)) Int.fmod) (dCB hInt1 (dCons (dV 12) dNil)) (dV 7))) dNil)))
    (sSeq (sSet 12 (dOp (hInt (fun _ j => divOk j) fun i j => i / j) (dV 12) (dV 7)))
    (sSet 14 (dIfE (dBl (dOp (hCmp fun i j => decide (j < i)) (dV 15) (dC (.int 0)))) (dOp (hInt (fun _ j => divOk j) fun i j => i / j) (dOp hMulT (dV 14) (dOp (hInt yes2 fun i j => i - j) (dV 15) (dV 2))) (dV 15)) (dC (.int 0)))))))
noncomputable def den__law_row : DS :=
  (sSeq (sAsg (gT [4, 5, 6, 7]) (dCall 1 m__law_form (dCons (dV 0) dNil)))
    (sSeq (sSet 8 (dLc (dRng1 (dCons (dCB hLen (dCons (dV 0) dNil)) dNil)) (gN 16) q2__law_row e1__law_row [16]))
    (sSeq (sSet 9 (dLc (dRng1 (dCons (dCB hLen (dCons (dV 0) dNil)) dNil)) (gN 16) q4__law_row e3__law_row [16]))
    (sSeq (sSet 10 (dOp hMulT (dCall 2 m__law_power (dCons (dV 5) (dCons (dV 2) dNil))) (dCall 2 m__law_power (dCons (dV 7) (dCons (dOp (hInt yes2 fun i j => i - j) (dV 1) (dV 2)) dNil)))))
    (sSeq (sPar3 11 12 13 (dCons (dOp (hInt (fun _ j => divOk j) fun i j => i / j) (dV 3) (dV 10)) (dCons (dOp (hInt (fun _ j => decide (j ≠ 0)) Int.fmod) (dCB hInt1 (dCons (dV 3) dNil)) (dV 10)) (dCons (dLst dNil) dNil))))
    (sSeq (sSet 14 (dIfE (dBl (dOp (hCmp fun i j => decide (j < i)) (dV 1) (dC (.int 0)))) (dCall 2 m__law_choose (dCons (dOp (hInt yes2 fun i j => i - j) (dV 1) (dC (.int 1))) (dCons (dV 2) dNil))) (dC (.int 0))))
    (sSeq (sFor (dRng3 (dCons (dOp (hInt yes2 fun i j => i - j) (dV 1) (dC (.int 1))) (dCons (dUn hNeg (dC (.int 1))) (dCons (dUn hNeg (dC (.int 1))) dNil)))) (gN 15) b5__law_row)
    (sRet (dCB hTupOf (dCons (dUn hRev (dV 13)) dNil))))))))))
noncomputable def m__law_row : List D → Sto → Res D := callM (runB 17 den__law_row)
theorem ok__law_row {P : Program} {w : World} {K : PySem.W.Frag} {mg : Str → Option Value} {base : Heap} {f : Addr} {fd : FuncData} (F : Fun K "_law_row" "_law_row" s__law_row f fd) (B : Bu mg)
    (h__law_form : Has CX0 P w K mg base "_law_form" 1 ["die"] (spD K 1 m__law_form))
    (h__law_power : Has CX0 P w K mg base "_law_power" 1 ["one", "many"] (spD K 2 m__law_power))
    (h__law_choose : Has CX0 P w K mg base "_law_choose" 1 ["n", "k"] (spD K 2 m__law_choose)) :
    FnOk P w K mg base CX0 2 f fd ["die", "throws", "kind", "number"] (spD K 4 (runB 17 den__law_row)) :=
  ok_body (k := 1) F sc__law_row fun cdv A outer s H E hr =>
    (as_cons (as_asg (ae_callD h__law_form (hr.mono (by decide)) rfl (aa_cons (ae_var (pv 0)) aa_nil)) (ag_tup rfl (ags_cons (i := 4) sc__law_row.nd rfl (Or.inr rfl) (ags_cons (i := 5) sc__law_row.nd rfl (Or.inl rfl) (ags_cons (i := 6) sc__law_row.nd rfl (Or.inl rfl) (ags_cons (i := 7) sc__law_row.nd rfl (Or.inl rfl) ags_nil))))))
    (as_cons (as_setLcv (i := 8) [("face", 16)] rfl rfl sc__law_row.nd rfl rfl (sw_true rfl rfl rfl (by decide +kernel)) (ai_range1 rfl B.m_range (aa_cons (ae_len rfl B.m_len (aa_cons (ae_var (pv 0)) aa_nil)) aa_nil)) (blkOk_by (own := [("face", 16)]) (N := sc__law_rowN) (sc := defScope s__law_row) (by decide +kernel)) (fun _ _ _ _ _ => pg_name (i := 16) sc__law_row.nd rfl (Or.inl rfl)) (fun _ _ _ _ _ => pts_one_ (at_eq hr.units (ae_ix (ae_var (pv 0)) (ae_var (pv 16))) (ae_var (pv 4)))) (fun _ _ _ _ _ => (ae_var (pv 16))) (agw_name (by decide)))
    (as_cons (as_setLcv (i := 9) [("face", 16)] rfl rfl sc__law_row.nd rfl rfl (sw_true rfl rfl rfl (by decide +kernel)) (ai_range1 rfl B.m_range (aa_cons (ae_len rfl B.m_len (aa_cons (ae_var (pv 0)) aa_nil)) aa_nil)) (blkOk_by (own := [("face", 16)]) (N := sc__law_rowN) (sc := defScope s__law_row) (by decide +kernel)) (fun _ _ _ _ _ => pg_name (i := 16) sc__law_row.nd rfl (Or.inl rfl)) (fun _ _ _ _ _ => pts_one_ (at_ne hr.units (ae_ix (ae_var (pv 0)) (ae_var (pv 16))) (ae_var (pv 4)))) (fun _ _ _ _ _ => (ae_var (pv 16))) (agw_name (by decide)))
    (as_cons (as_set (i := 10) sc__law_row.nd rfl (Or.inl rfl) (ae_mulT (ae_callD h__law_power (hr.mono (by decide)) rfl (aa_cons (ae_var (pv 5)) (aa_cons (ae_var (pv 2)) aa_nil))) (ae_callD h__law_power (hr.mono (by decide)) rfl (aa_cons (ae_var (pv 7)) (aa_cons (ae_sub (ae_var (pv 1)) (ae_var (pv 2))) aa_nil)))))
    (as_cons (as_par3 (i := 11) (j := 12) (k := 13) rfl sc__law_row.nd rfl rfl rfl (by decide) (by decide) (by decide) rfl rfl rfl (aa_cons (ae_div (ae_var (pv 3)) (ae_var (pv 10))) (aa_cons (ae_mod (ae_int1 rfl B.m_int (aa_cons (ae_var (pv 3)) aa_nil)) (ae_var (pv 10))) (aa_cons (ae_lst aa_nil) aa_nil))) rfl)
    (as_cons (as_set (i := 14) sc__law_row.nd rfl (Or.inl rfl) (ae_if (at_gt (ae_var (pv 1)) ae_int) (ae_callD h__law_choose (hr.mono (by decide)) rfl (aa_cons (ae_sub (ae_var (pv 1)) ae_int) (aa_cons (ae_var (pv 2)) aa_nil))) ae_int))
    (as_cons (as_for PassesOwn.never rfl (ai_range3 rfl B.m_range (aa_cons (ae_sub (ae_var (pv 1)) ae_int) (aa_cons (ae_neg ae_int) (aa_cons (ae_neg ae_int) aa_nil)))) (ag_name (i := 15) sc__law_row.nd rfl (Or.inl rfl)) (as_one (as_if (at_w (aw_and (at_gt (ae_var (pv 2)) ae_int) (aw_and1 (at_w (aw_or (at_lt (ae_var (pv 15)) (ae_var (pv 2))) (aw_or1 (at_ge (ae_var (pv 11)) (ae_var (pv 14))))))))) (as_cons (as_expr (ae_append (ae_var (pv 13)) (aa_cons (ae_ix (ae_var (pv 8)) (ae_mod (ae_int1 rfl B.m_int (aa_cons (ae_var (pv 12)) aa_nil)) (ae_var (pv 5)))) aa_nil)))
    (as_cons (as_set (i := 12) sc__law_row.nd rfl (Or.inl rfl) (ae_div (ae_var (pv 12)) (ae_var (pv 5))))
    (as_cons (as_if (at_ge (ae_var (pv 15)) (ae_var (pv 2))) (as_cons (as_set (i := 11) sc__law_row.nd rfl (Or.inl rfl) (ae_sub (ae_var (pv 11)) (ae_var (pv 14))))
    (as_one (as_set (i := 14) sc__law_row.nd rfl (Or.inl rfl) (ae_div (ae_mulT (ae_var (pv 14)) (ae_var (pv 2))) (ae_var (pv 15)))))) as_nil)
    (as_one (as_set (i := 2) sc__law_row.nd rfl (Or.inl rfl) (ae_sub (ae_var (pv 2)) ae_int)))))) (as_cons (as_expr (ae_append (ae_var (pv 13)) (aa_cons (ae_ix (ae_var (pv 9)) (ae_mod (ae_int1 rfl B.m_int (aa_cons (ae_var (pv 12)) aa_nil)) (ae_var (pv 7)))) aa_nil)))
    (as_cons (as_set (i := 12) sc__law_row.nd rfl (Or.inl rfl) (ae_div (ae_var (pv 12)) (ae_var (pv 7))))
    (as_one (as_set (i := 14) sc__law_row.nd rfl (Or.inl rfl) (ae_if (at_gt (ae_var (pv 15)) ae_int) (ae_div (ae_mulT (ae_var (pv 14)) (ae_sub (ae_var (pv 15)) (ae_var (pv 2)))) (ae_var (pv 15))) ae_int))))))))
    (as_one (as_ret (ae_tupOf rfl B.m_tuple (aa_cons (ae_rev (ae_var (pv 13))) aa_nil)))))))))))
/-! _law_outcome -/
abbrev s__law_outcome : Stmt := top 54
abbrev sc__law_outcomeN : List Str := ["die", "table", "faces", "number", "row", "outcome"]
theorem sc__law_outcome : FnScope sc__law_outcomeN ["die", "table", "faces"] (defScope s__law_outcome) := ⟨rfl, rfl, rfl, by decide +kernel, rfl, by decide +kernel, by decide +kernel⟩
noncomputable def b1__law_outcome : DS :=
  (sSeq (sIf (dBl (dOp (hCmp fun i j => decide (i < j)) (dV 3) (dOp hIx (dV 4) (dV 5)))) (sRet (dV 5)) sNx)
    (sSet 3 (dOp (hInt yes2 fun i j => i - j) (dV 3) (dOp hIx (dV 4) (dV 5)))))
noncomputable def den__law_outcome : DS :=
  (sSeq (sSet 3 (dCall 2 m__law_number (dCons (dV 0) (dCons (dV 2) dNil))))
    (sSeq (sSet 4 (dOp hIx (dV 1) (dCall 2 m__law_kind (dCons (dV 0) (dCons (dV 2) dNil)))))
    (sSeq (sFor (dRng1 (dCons (dCB hLen (dCons (dV 4) dNil)) dNil)) (gN 5) b1__law_outcome)
    (sRet (dC .non)))))
noncomputable def m__law_outcome : List D → Sto → Res D := callM (runB 6 den__law_outcome)
theorem ok__law_outcome {P : Program} {w : World} {K : PySem.W.Frag} {mg : Str → Option Value} {base : Heap} {f : Addr} {fd : FuncData} (F : Fun K "_law_outcome" "_law_outcome" s__law_outcome f fd) (B : Bu mg)
    (h__law_number : Has CX0 P w K mg base "_law_number" 2 ["die", "faces"] (spD K 2 m__law_number))
    (h__law_kind : Has CX0 P w K mg base "_law_kind" 1 ["die", "faces"] (spD K 2 m__law_kind)) :
    FnOk P w K mg base CX0 3 f fd ["die", "table", "faces"] (spD K 3 (runB 6 den__law_outcome)) :=
  ok_body (k := 2) F sc__law_outcome fun cdv A outer s H E hr =>
    (as_cons (as_set (i := 3) sc__law_outcome.nd rfl (Or.inl rfl) (ae_callD h__law_number (hr.mono (by decide)) rfl (aa_cons (ae_var (pv 0)) (aa_cons (ae_var (pv 2)) aa_nil))))
    (as_cons (as_set (i := 4) sc__law_outcome.nd rfl (Or.inl rfl) (ae_ix (ae_var (pv 1)) (ae_callD h__law_kind (hr.mono (by decide)) rfl (aa_cons (ae_var (pv 0)) (aa_cons (ae_var (pv 2)) aa_nil)))))
    (as_cons (as_for PassesOwn.never rfl (ai_range1 rfl B.m_range (aa_cons (ae_len rfl B.m_len (aa_cons (ae_var (pv 4)) aa_nil)) aa_nil)) (ag_name (i := 5) sc__law_outcome.nd rfl (Or.inl rfl)) (as_cons (as_if (at_lt (ae_var (pv 3)) (ae_ix (ae_var (pv 4)) (ae_var (pv 5)))) (as_one (as_ret (ae_var (pv 5)))) as_nil)
    (as_one (as_set (i := 3) sc__law_outcome.nd rfl (Or.inl rfl) (ae_sub (ae_var (pv 3)) (ae_ix (ae_var (pv 4)) (ae_var (pv 5))))))))
    (as_one (as_ret ae_non)))))
/-! _law_same -/
abbrev s__law_same : Stmt := top 55
abbrev sc__law_sameN : List Str := ["told", "due", "left", "one", "other", "at"]
theorem sc__law_same : FnScope sc__law_sameN ["told", "due"] (defScope s__law_same) := ⟨rfl, rfl, rfl, by decide +kernel, rfl, by decide +kernel, by decide +kernel⟩
noncomputable def e1__law_same : DE :=
  (dTup (dCons (dOp hIx (dV 3) (dV 5)) (dCons (dOp hIx (dV 4) (dV 5)) dNil)))
noncomputable def c2__law_same : DB :=
  (dBl (dOp (hCmp fun i j => decide (j < i)) (dCB hLen (dCons (dV 2) dNil)) (dC (.int 0))))
noncomputable def b3__law_same : DS :=
  (sSeq (sAsg (gT [3, 4]) (dMe0 hPop (dV 2)))
    (sIf (dTru (dCB hIsi1 (dCons (dV 4) (dCons (dC (.ty "tuple")) dNil)))) (sSeq (sIf (dOr (dNot (dTru (dCB hIsi1 (dCons (dV 3) (dCons (dC (.ty "tuple")) dNil))))) (dBl (dOp hNe (dCB hLen (dCons (dV 3) dNil)) (dCB hLen (dCons (dV 4) dNil))))) (sRet (dC (.bl false))) sNx)
    (sExpr (dMe hExt (dV 2) (dCons (dLc (dRng1 (dCons (dCB hLen (dCons (dV 4) dNil)) dNil)) (gN 5) dYes e1__law_same [5]) dNil)))) (sIf (dBl (dOp hIsN (dV 4) (dC .non))) (sIf (dBl (dOp hNotN (dV 3) (dC .non))) (sRet (dC (.bl false))) sNx) (sIf (dTru (dCB hIsi1 (dCons (dV 4) (dCons (dC (.ty "str")) dNil)))) (sIf (dOr (dNot (dTru (dCB hIsi1 (dCons (dV 3) (dCons (dC (.ty "str")) dNil))))) (dBl (dOp hNe (dV 3) (dV 4)))) (sRet (dC (.bl false))) sNx) (sIf (dOr (dTru (dCB hIsi1 (dCons (dV 4) (dCons (dC (.ty "bool")) dNil)))) (dTru (dCB hIsi1 (dCons (dV 3) (dCons (dC (.ty "bool")) dNil))))) (sIf (dOr (dNot (dTru (dCB hIsi1 (dCons (dV 3) (dCons (dC (.ty "bool")) dNil))))) (dOr (dNot (dTru (dCB hIsi1 (dCons (dV 4) (dCons (dC (.ty "bool")) dNil))))) (dBl (dOp hNe (dV 3) (dV 4))))) (sRet (dC (.bl false))) sNx) (sIf (dOr (dNot (dTru (dCB hIsi1 (dCons (dV 3) (dCons (dC (.ty "int")) dNil))))) (dBl (dOp hNe (dV 3) (dV 4)))) (sRet (dC (.bl false))) sNx))))))
noncomputable def den__law_same : DS :=
  (sSeq (sSet 2 (dLst (dCons (dTup (dCons (dV 0) (dCons (dV 1) dNil))) dNil)))
    (sSeq (sWhile fuel c2__law_same b3__law_same)
    (sRet (dC (.bl true)))))
noncomputable def m__law_same : List D → Sto → Res D := callM (runB 6 den__law_same)
theorem ok__law_same {P : Program} {w : World} {K : PySem.W.Frag} {mg : Str → Option Value} {base : Heap} {f : Addr} {fd : FuncData} (F : Fun K "_law_same" "_law_same" s__law_same f fd) (B : Bu mg) :
    FnOk P w K mg base CX0 1 f fd ["told", "due"] (spD K 2 (runB 6 den__law_same)) :=
  ok_body (k := 0) F sc__law_same fun cdv A outer s H E hr =>
    (as_cons (as_set (i := 2) sc__law_same.nd rfl (Or.inl rfl) (ae_lst (aa_cons (ae_tup (aa_cons (ae_var (pv 0)) (aa_cons (ae_var (pv 1)) aa_nil))) aa_nil)))
    (as_cons (as_while PassesOwn.never (at_gt (ae_len rfl B.m_len (aa_cons (ae_var (pv 2)) aa_nil)) ae_int) (as_cons (as_asg (ae_pop (ae_var (pv 2))) (ag_tup rfl (ags_cons (i := 3) sc__law_same.nd rfl (Or.inr rfl) (ags_cons (i := 4) sc__law_same.nd rfl (Or.inr rfl) ags_nil))))
    (as_one (as_if (at_val (ae_isi rfl B.m_isinstance (aa_cons (ae_var (pv 4)) (aa_cons (ae_c (v := .ty "tuple") rfl (pe_bltn rfl B.m_tuple (by decide +kernel) rfl)) aa_nil)))) (as_cons (as_if (at_w (aw_or (at_not (at_val (ae_isi rfl B.m_isinstance (aa_cons (ae_var (pv 3)) (aa_cons (ae_c (v := .ty "tuple") rfl (pe_bltn rfl B.m_tuple (by decide +kernel) rfl)) aa_nil))))) (aw_or1 (at_ne hr.units (ae_len rfl B.m_len (aa_cons (ae_var (pv 3)) aa_nil)) (ae_len rfl B.m_len (aa_cons (ae_var (pv 4)) aa_nil)))))) (as_one (as_ret ae_bl)) as_nil)
    (as_one (as_expr (ae_extend (ae_var (pv 2)) (aa_cons (ae_lcv [("at", 5)] rfl rfl sc__law_same.nd (ai_range1 rfl B.m_range (aa_cons (ae_len rfl B.m_len (aa_cons (ae_var (pv 4)) aa_nil)) aa_nil)) (blkOk_by (own := [("at", 5)]) (N := sc__law_sameN) (sc := defScope s__law_same) (by decide +kernel)) (fun _ _ _ _ _ => pg_name (i := 5) sc__law_same.nd rfl (Or.inl rfl)) (fun _ _ _ _ _ => pts_none) (fun _ _ _ _ _ => (ae_tup (aa_cons (ae_ix (ae_var (pv 3)) (ae_var (pv 5))) (aa_cons (ae_ix (ae_var (pv 4)) (ae_var (pv 5))) aa_nil)))) (agw_name (by decide))) aa_nil))))) (as_one (as_if (at_isN (ae_var (pv 4)) ae_non) (as_one (as_if (at_notN (ae_var (pv 3)) ae_non) (as_one (as_ret ae_bl)) as_nil)) (as_one (as_if (at_val (ae_isi rfl B.m_isinstance (aa_cons (ae_var (pv 4)) (aa_cons (ae_c (v := .ty "str") rfl (pe_bltn rfl B.m_str (by decide +kernel) rfl)) aa_nil)))) (as_one (as_if (at_w (aw_or (at_not (at_val (ae_isi rfl B.m_isinstance (aa_cons (ae_var (pv 3)) (aa_cons (ae_c (v := .ty "str") rfl (pe_bltn rfl B.m_str (by decide +kernel) rfl)) aa_nil))))) (aw_or1 (at_ne hr.units (ae_var (pv 3)) (ae_var (pv 4)))))) (as_one (as_ret ae_bl)) as_nil)) (as_one (as_if (at_w (aw_or (at_val (ae_isi rfl B.m_isinstance (aa_cons (ae_var (pv 4)) (aa_cons (ae_c (v := .ty "bool") rfl (pe_bltn rfl B.m_bool (by decide +kernel) rfl)) aa_nil)))) (aw_or1 (at_val (ae_isi rfl B.m_isinstance (aa_cons (ae_var (pv 3)) (aa_cons (ae_c (v := .ty "bool") rfl (pe_bltn rfl B.m_bool (by decide +kernel) rfl)) aa_nil))))))) (as_one (as_if (at_w (aw_or (at_not (at_val (ae_isi rfl B.m_isinstance (aa_cons (ae_var (pv 3)) (aa_cons (ae_c (v := .ty "bool") rfl (pe_bltn rfl B.m_bool (by decide +kernel) rfl)) aa_nil))))) (aw_or (at_not (at_val (ae_isi rfl B.m_isinstance (aa_cons (ae_var (pv 4)) (aa_cons (ae_c (v := .ty "bool") rfl (pe_bltn rfl B.m_bool (by decide +kernel) rfl)) aa_nil))))) (aw_or1 (at_ne hr.units (ae_var (pv 3)) (ae_var (pv 4))))))) (as_one (as_ret ae_bl)) as_nil)) (as_one (as_if (at_w (aw_or (at_not (at_val (ae_isi rfl B.m_isinstance (aa_cons (ae_var (pv 3)) (aa_cons (ae_c (v := .ty "int") rfl (pe_bltn rfl B.m_int (by decide +kernel) rfl)) aa_nil))))) (aw_or1 (at_ne hr.units (ae_var (pv 3)) (ae_var (pv 4)))))) (as_one (as_ret ae_bl)) as_nil))))))))))))
    (as_one (as_ret ae_bl))))
/-! _law_heard -/
abbrev s__law_heard : Stmt := top 56
abbrev sc__law_heardN : List Str := ["die", "thing", "error"]
theorem sc__law_heard : FnScope sc__law_heardN ["die", "thing"] (defScope s__law_heard) := ⟨rfl, rfl, rfl, by decide +kernel, rfl, by decide +kernel, by decide +kernel⟩
noncomputable def den__law_heard (C_BadDie : Addr) : DS :=
  (sTry1 C_BadDie (.tup [(.k (.str "die")), (.f "at"), (.f "word")]) (sRet (dTup (dCons (dC (.str "told")) (dCons (dCallX 2 (m_check_faces C_BadDie) (dCons (dV 0) (dCons (dV 1) dNil))) dNil)))))
noncomputable def m__law_heard (C_BadDie : Addr) : List D → Sto → Res D := callM (runB 3 (den__law_heard C_BadDie))
theorem ok__law_heard {P : Program} {w : World} {K : PySem.W.Frag} {mg : Str → Option Value} {base : Heap} {f : Addr} {fd : FuncData} (F : Fun K "_law_heard" "_law_heard" s__law_heard f fd) (B : Bu mg)
    {C_BadDie fI_BadDie : Addr} (T_BadDie : Zy.SupTxt P K mg C_BadDie fI_BadDie) (gC_BadDie : mg "BadDie" = some (.ref C_BadDie))
    (h_check_faces : Has (L2.CX P w) P w K mg base "check_faces" 3 ["die", "thing"] (spD K 2 (m_check_faces C_BadDie))) :
    FnOk P w K mg base CX0 4 f fd ["die", "thing"] (spD K 2 (runB 3 (den__law_heard C_BadDie))) :=
  ok_body (k := 3) F sc__law_heard fun cdv A outer s H E hr =>
    (as_one (as_try1 (C := C_BadDie) (i := 2) rfl rfl sc__law_heard.nd rfl rfl T_BadDie.te gC_BadDie rfl (fun E1 pn xe tk po => (as_one (as_ret (ae_tup (aa_cons ae_str (aa_cons (ae_callX h_check_faces (passX tk) (hr.mono (by decide)) rfl (aa_cons (ae_var (pv 0)) (aa_cons (ae_var (pv 1)) aa_nil))) aa_nil)))))) (ar_tup (ahs_cons ah_str (ahs_cons (ah_fld T_BadDie.f1 rfl rfl) (ahs_cons (ah_fld T_BadDie.f2 rfl rfl) ahs_nil))))))
/-! _law_fault -/
abbrev s__law_fault : Stmt := top 57
abbrev sc__law_faultN : List Str := ["die", "thing", "at"]
theorem sc__law_fault : FnScope sc__law_faultN ["die", "thing"] (defScope s__law_fault) := ⟨rfl, rfl, rfl, by decide +kernel, rfl, by decide +kernel, by decide +kernel⟩
noncomputable def b1__law_fault : DS :=
  (sIf (dOr (dNot (dTru (dCB hIsi1 (dCons (dOp hIx (dV 1) (dV 2)) (dCons (dC (.ty "int")) dNil))))) (dOr (dTru (dCB hIsi1 (dCons (dOp hIx (dV 1) (dV 2)) (dCons (dC (.ty "bool")) dNil)))) (dNot (dBl (dChain (hCmp fun i j => decide (i ≤ j)) (hCmp fun i j => decide (i < j)) (dC (.int 0)) (dOp hIx (dV 1) (dV 2)) (dCB hLen (dCons (dV 0) dNil))))))) (sRet (dTup (dCons (dC (.str "die")) (dCons (dV 2) (dCons (dC (.str "face")) dNil))))) sNx)
noncomputable def den__law_fault : DS :=
  (sSeq (sIf (dNot (dTru (dCB hIsi1 (dCons (dV 1) (dCons (dC (.ty "tuple")) dNil))))) (sRet (dTup (dCons (dC (.str "die")) (dCons (dUn hNeg (dC (.int 1))) (dCons (dC (.str "shape")) dNil))))) sNx)
    (sSeq (sFor (dRng1 (dCons (dCB hLen (dCons (dV 1) dNil)) dNil)) (gN 2) b1__law_fault)
    (sRet (dTup (dCons (dC (.str "told")) (dCons (dCB hLen (dCons (dV 1) dNil)) dNil))))))
noncomputable def m__law_fault : List D → Sto → Res D := callM (runB 3 den__law_fault)
theorem ok__law_fault {P : Program} {w : World} {K : PySem.W.Frag} {mg : Str → Option Value} {base : Heap} {f : Addr} {fd : FuncData} (F : Fun K "_law_fault" "_law_fault" s__law_fault f fd) (B : Bu mg) :
    FnOk P w K mg base CX0 1 f fd ["die", "thing"] (spD K 2 (runB 3 den__law_fault)) :=
  ok_body (k := 0) F sc__law_fault fun cdv A outer s H E hr =>
    (as_cons (as_if (at_not (at_val (ae_isi rfl B.m_isinstance (aa_cons (ae_var (pv 1)) (aa_cons (ae_c (v := .ty "tuple") rfl (pe_bltn rfl B.m_tuple (by decide +kernel) rfl)) aa_nil))))) (as_one (as_ret (ae_tup (aa_cons ae_str (aa_cons (ae_neg ae_int) (aa_cons ae_str aa_nil)))))) as_nil)
    (as_cons (as_for PassesOwn.never rfl (ai_range1 rfl B.m_range (aa_cons (ae_len rfl B.m_len (aa_cons (ae_var (pv 1)) aa_nil)) aa_nil)) (ag_name (i := 2) sc__law_fault.nd rfl (Or.inl rfl)) (as_one (as_if (at_w (aw_or (at_not (at_val (ae_isi rfl B.m_isinstance (aa_cons (ae_ix (ae_var (pv 1)) (ae_var (pv 2))) (aa_cons (ae_c (v := .ty "int") rfl (pe_bltn rfl B.m_int (by decide +kernel) rfl)) aa_nil))))) (aw_or (at_val (ae_isi rfl B.m_isinstance (aa_cons (ae_ix (ae_var (pv 1)) (ae_var (pv 2))) (aa_cons (ae_c (v := .ty "bool") rfl (pe_bltn rfl B.m_bool (by decide +kernel) rfl)) aa_nil)))) (aw_or1 (at_not (at_chain op_le op_lt hs_cmp hs_cmp ae_int (ae_ix (ae_var (pv 1)) (ae_var (pv 2))) (ae_len rfl B.m_len (aa_cons (ae_var (pv 0)) aa_nil)))))))) (as_one (as_ret (ae_tup (aa_cons ae_str (aa_cons (ae_var (pv 2)) (aa_cons ae_str aa_nil)))))) as_nil)))
    (as_one (as_ret (ae_tup (aa_cons ae_str (aa_cons (ae_len rfl B.m_len (aa_cons (ae_var (pv 1)) aa_nil)) aa_nil)))))))
/-! _law_faces -/
abbrev s__law_faces : Stmt := top 58
abbrev sc__law_facesN : List Str := ["jug", "die", "many", "one", "other", "lap"]
theorem sc__law_faces : FnScope sc__law_facesN ["jug", "die", "many"] (defScope s__law_faces) := ⟨rfl, rfl, rfl, by decide +kernel, rfl, by decide +kernel, by decide +kernel⟩
noncomputable def e1__law_faces : DE :=
  (dIfE (dBl (dOp (hCmp fun i j => decide (j < i)) (dCall 2 m__law_pour (dCons (dV 0) (dCons (dC (.int 5)) dNil))) (dC (.int 0)))) (dV 3) (dV 4))
noncomputable def e2__law_faces : DE :=
  (dCall 2 m__law_pour (dCons (dV 0) (dCons (dCB hLen (dCons (dV 1) dNil)) dNil)))
noncomputable def den__law_faces : DS :=
  (sSeq (sIf (dBl (dOp hEq (dCall 2 m__law_pour (dCons (dV 0) (dCons (dC (.int 3)) dNil))) (dC (.int 0)))) (sSeq (sAsg (gT [3, 4]) (dTup (dCons (dCall 2 m__law_pour (dCons (dV 0) (dCons (dCB hLen (dCons (dV 1) dNil)) dNil))) (dCons (dCall 2 m__law_pour (dCons (dV 0) (dCons (dCB hLen (dCons (dV 1) dNil)) dNil))) dNil))))
    (sRet (dCB hTupOf (dCons (dLc (dRng1 (dCons (dV 2) dNil)) (gN 5) dYes e1__law_faces [5]) dNil)))) sNx)
    (sRet (dCB hTupOf (dCons (dLc (dRng1 (dCons (dV 2) dNil)) (gN 5) dYes e2__law_faces [5]) dNil))))
noncomputable def m__law_faces : List D → Sto → Res D := callM (runB 6 den__law_faces)
theorem ok__law_faces {P : Program} {w : World} {K : PySem.W.Frag} {mg : Str → Option Value} {base : Heap} {f : Addr} {fd : FuncData} (F : Fun K "_law_faces" "_law_faces" s__law_faces f fd) (B : Bu mg)
    (h__law_pour : Has CX0 P w K mg base "_law_pour" 1 ["jug", "many"] (spD K 2 m__law_pour)) :
    FnOk P w K mg base CX0 2 f fd ["jug", "die", "many"] (spD K 3 (runB 6 den__law_faces)) :=
  ok_body (k := 1) F sc__law_faces fun cdv A outer s H E hr =>
    (as_cons (as_if (at_eq hr.units (ae_callD h__law_pour (hr.mono (by decide)) rfl (aa_cons (ae_var (pv 0)) (aa_cons ae_int aa_nil))) ae_int) (as_cons (as_asg (ae_tup (aa_cons (ae_callD h__law_pour (hr.mono (by decide)) rfl (aa_cons (ae_var (pv 0)) (aa_cons (ae_len rfl B.m_len (aa_cons (ae_var (pv 1)) aa_nil)) aa_nil))) (aa_cons (ae_callD h__law_pour (hr.mono (by decide)) rfl (aa_cons (ae_var (pv 0)) (aa_cons (ae_len rfl B.m_len (aa_cons (ae_var (pv 1)) aa_nil)) aa_nil))) aa_nil))) (ag_tup rfl (ags_cons (i := 3) sc__law_faces.nd rfl (Or.inr rfl) (ags_cons (i := 4) sc__law_faces.nd rfl (Or.inr rfl) ags_nil))))
    (as_one (as_ret (ae_tupOf rfl B.m_tuple (aa_cons (ae_lcv [("lap", 5)] rfl rfl sc__law_faces.nd (ai_range1 rfl B.m_range (aa_cons (ae_var (pv 2)) aa_nil)) (blkOk_by (own := [("lap", 5)]) (N := sc__law_facesN) (sc := defScope s__law_faces) (by decide +kernel)) (fun _ _ _ _ _ => pg_name (i := 5) sc__law_faces.nd rfl (Or.inl rfl)) (fun _ _ _ _ _ => pts_none) (fun _ _ _ _ _ => (ae_if (at_gt (ae_callD h__law_pour (hr.mono (by decide)) rfl (aa_cons (ae_var (pv 0)) (aa_cons ae_int aa_nil))) ae_int) (ae_var (pv 3)) (ae_var (pv 4)))) (agw_name (by decide))) aa_nil))))) as_nil)
    (as_one (as_ret (ae_tupOf rfl B.m_tuple (aa_cons (ae_lcv [("lap", 5)] rfl rfl sc__law_faces.nd (ai_range1 rfl B.m_range (aa_cons (ae_var (pv 2)) aa_nil)) (blkOk_by (own := [("lap", 5)]) (N := sc__law_facesN) (sc := defScope s__law_faces) (by decide +kernel)) (fun _ _ _ _ _ => pg_name (i := 5) sc__law_faces.nd rfl (Or.inl rfl)) (fun _ _ _ _ _ => pts_none) (fun _ _ _ _ _ => (ae_callD h__law_pour (hr.mono (by decide)) rfl (aa_cons (ae_var (pv 0)) (aa_cons (ae_len rfl B.m_len (aa_cons (ae_var (pv 1)) aa_nil)) aa_nil)))) (agw_name (by decide))) aa_nil)))))
/-! _law_some -/
abbrev s__law_some : Stmt := top 59
abbrev sc__law_someN : List Str := ["jug", "size", "way", "told", "lap"]
theorem sc__law_some : FnScope sc__law_someN ["jug", "size"] (defScope s__law_some) := ⟨rfl, rfl, rfl, by decide +kernel, rfl, by decide +kernel, by decide +kernel⟩
noncomputable def b1__law_some : DS :=
  (sSet 3 (dOp hAdd (dOp hMulT (dV 3) (dC (.int 65536))) (dCall 2 m__law_pour (dCons (dV 0) (dCons (dC (.int 65536)) dNil)))))
noncomputable def den__law_some : DS :=
  (sSeq (sPar 2 3 (dCons (dCall 2 m__law_pour (dCons (dV 0) (dCons (dC (.int 5)) dNil))) (dCons (dC (.int 0)) dNil)))
    (sSeq (sIf (dBl (dOp (hCmp fun i j => decide (i < j)) (dV 2) (dC (.int 2)))) (sRet (dOp hIx (dLst (dCons (dC (.int 0)) (dCons (dOp (hInt yes2 fun i j => i - j) (dV 1) (dC (.int 1))) dNil))) (dV 2))) sNx)
    (sSeq (sFor (dRng1 (dCons (dOp hAdd (dC (.int 1)) (dOp (hInt (fun _ j => divOk j) fun i j => i / j) (dUn hBits (dV 1)) (dC (.int 16)))) dNil)) (gN 4) b1__law_some)
    (sRet (dOp (hInt (fun _ j => decide (j ≠ 0)) Int.fmod) (dCB hInt1 (dCons (dV 3) dNil)) (dV 1))))))
noncomputable def m__law_some : List D → Sto → Res D := callM (runB 5 den__law_some)
theorem ok__law_some {P : Program} {w : World} {K : PySem.W.Frag} {mg : Str → Option Value} {base : Heap} {f : Addr} {fd : FuncData} (F : Fun K "_law_some" "_law_some" s__law_some f fd) (B : Bu mg)
    (h__law_pour : Has CX0 P w K mg base "_law_pour" 1 ["jug", "many"] (spD K 2 m__law_pour)) :
    FnOk P w K mg base CX0 2 f fd ["jug", "size"] (spD K 2 (runB 5 den__law_some)) :=
  ok_body (k := 1) F sc__law_some fun cdv A outer s H E hr =>
    (as_cons (as_par (i := 2) (j := 3) rfl sc__law_some.nd rfl rfl (by decide) rfl rfl (aa_cons (ae_callD h__law_pour (hr.mono (by decide)) rfl (aa_cons (ae_var (pv 0)) (aa_cons ae_int aa_nil))) (aa_cons ae_int aa_nil)) rfl)
    (as_cons (as_if (at_lt (ae_var (pv 2)) ae_int) (as_one (as_ret (ae_ix (ae_lst (aa_cons ae_int (aa_cons (ae_sub (ae_var (pv 1)) ae_int) aa_nil))) (ae_var (pv 2))))) as_nil)
    (as_cons (as_for PassesOwn.never rfl (ai_range1 rfl B.m_range (aa_cons (ae_add ae_int (ae_div (ae_bits (ae_var (pv 1))) ae_int)) aa_nil)) (ag_name (i := 4) sc__law_some.nd rfl (Or.inl rfl)) (as_one (as_set (i := 3) sc__law_some.nd rfl (Or.inl rfl) (ae_add (ae_mulT (ae_var (pv 3)) ae_int) (ae_callD h__law_pour (hr.mono (by decide)) rfl (aa_cons (ae_var (pv 0)) (aa_cons ae_int aa_nil)))))))
    (as_one (as_ret (ae_mod (ae_int1 rfl B.m_int (aa_cons (ae_var (pv 3)) aa_nil)) (ae_var (pv 1))))))))
/-! _law_row_right -/
abbrev s__law_row_right : Stmt := top 60
abbrev sc__law_row_rightN : List Str := ["jug", "die", "faces", "throws", "kind", "size", "number", "told", "due", "steps"]
theorem sc__law_row_right : FnScope sc__law_row_rightN ["jug", "die", "faces"] (defScope s__law_row_right) := ⟨rfl, rfl, rfl, by decide +kernel, rfl, by decide +kernel, by decide +kernel⟩
def perm_row_steps (ds : List D) : List D := match ds with | [a, b, c] => [a, b, c] | _ => []
noncomputable def den__law_row_right (C_BadDie : Addr) : DS :=
  (sSeq (sPar 3 4 (dCons (dCB hLen (dCons (dV 2) dNil)) (dCons (dCall 2 m__law_kind (dCons (dV 1) (dCons (dV 2) dNil))) dNil)))
    (sSeq (sPar 5 6 (dCons (dCall 3 m__law_size (dCons (dV 1) (dCons (dV 3) (dCons (dV 4) dNil)))) (dCons (dCall 2 m__law_number (dCons (dV 1) (dCons (dV 2) dNil))) dNil)))
    (sSeq (sSet 7 (dTup (dCons (dCall 2 m_row_number (dCons (dV 1) (dCons (dV 2) dNil))) (dCons (dCall 2 m_row_mass (dCons (dV 1) (dCons (dV 2) dNil))) (dCons (dCall 2 m_row_kind (dCons (dV 1) (dCons (dV 2) dNil))) (dCons (dCall 3 m_kind_mass (dCons (dV 1) (dCons (dV 3) (dCons (dV 4) dNil)))) dNil))))))
    (sSeq (sIf (dNot (dTru (dCall 2 m__law_same (dCons (dV 7) (dCons (dTup (dCons (dV 6) (dCons (dCall 2 m__law_mass (dCons (dV 1) (dCons (dV 2) dNil))) (dCons (dV 4) (dCons (dCall 2 m__law_mass (dCons (dV 1) (dCons (dV 2) dNil))) dNil))))) dNil))))) (sRet (dC (.bl false))) sNx)
    (sSeq (sSet 7 (dTup (dCons (dCall 3 m_kind_size (dCons (dV 1) (dCons (dV 3) (dCons (dV 4) dNil)))) (dCons (dCall 4 m_row_of_number (dCons (dV 1) (dCons (dV 3) (dCons (dV 4) (dCons (dV 6) dNil))))) (dCons (dCall 2 (m_check_faces C_BadDie) (dCons (dV 1) (dCons (dV 2) dNil))) dNil)))))
    (sSeq (sIf (dNot (dTru (dCall 2 m__law_same (dCons (dV 7) (dCons (dTup (dCons (dV 5) (dCons (dV 2) (dCons (dV 3) dNil)))) dNil))))) (sRet (dC (.bl false))) sNx)
    (sSeq (sSet 8 (dIfE (dBl (dOp (hCmp fun i j => decide (i < j)) (dOp hAdd (dV 6) (dC (.int 1))) (dV 5))) (dCall 4 m__law_row (dCons (dV 1) (dCons (dV 3) (dCons (dV 4) (dCons (dOp hAdd (dV 6) (dC (.int 1))) dNil))))) (dC .non)))
    (sSeq (sIf (dNot (dTru (dCall 2 m__law_same (dCons (dCall 2 m_next_row (dCons (dV 1) (dCons (dV 2) dNil))) (dCons (dV 8) dNil))))) (sRet (dC (.bl false))) sNx)
    (sSeq (sSet 9 (dOp hIx (dLst (dCons (dCall 2 m__law_some (dCons (dV 0) (dCons (dV 5) dNil))) (dCons (dOp hAdd (dV 5) (dCall 2 m__law_some (dCons (dV 0) (dCons (dV 5) dNil)))) (dCons (dOp (hInt yes2 fun i j => i - j) (dV 5) (dV 6)) dNil)))) (dCall 2 m__law_pour (dCons (dV 0) (dCons (dC (.int 3)) dNil)))))
    (sSeq (sSet 8 (dCall 4 m__law_row (dCons (dV 1) (dCons (dV 3) (dCons (dV 4) (dCons (dOp (hInt (fun _ j => decide (j ≠ 0)) Int.fmod) (dCB hInt1 (dCons (dOp hAdd (dV 6) (dV 9)) dNil)) (dV 5)) dNil))))))
    (sRet (dCall 2 m__law_same (dCons (dCallK 3 perm_row_steps m_row_steps (dCons (dV 1) (dCons (dV 2) (dCons (dV 9) dNil)))) (dCons (dV 8) dNil))))))))))))))
noncomputable def m__law_row_right (C_BadDie : Addr) : List D → Sto → Res D := callM (runB 10 (den__law_row_right C_BadDie))
theorem ok__law_row_right {P : Program} {w : World} {K : PySem.W.Frag} {mg : Str → Option Value} {base : Heap} {f : Addr} {fd : FuncData} (F : Fun K "_law_row_right" "_law_row_right" s__law_row_right f fd) (B : Bu mg)
    {C_BadDie fI_BadDie : Addr} (T_BadDie : Zy.SupTxt P K mg C_BadDie fI_BadDie) (gC_BadDie : mg "BadDie" = some (.ref C_BadDie))
    (h__law_kind : Has CX0 P w K mg base "_law_kind" 1 ["die", "faces"] (spD K 2 m__law_kind))
    (h__law_number : Has CX0 P w K mg base "_law_number" 2 ["die", "faces"] (spD K 2 m__law_number))
    (h__law_size : Has CX0 P w K mg base "_law_size" 2 ["die", "throws", "kind"] (spD K 3 m__law_size))
    (h_kind_mass : Has CX0 P w K mg base "kind_mass" 3 ["die", "throws", "kind"] (spD K 3 m_kind_mass))
    (h_row_kind : Has CX0 P w K mg base "row_kind" 1 ["die", "faces"] (spD K 2 m_row_kind))
    (h_row_mass : Has CX0 P w K mg base "row_mass" 1 ["die", "faces"] (spD K 2 m_row_mass))
    (h_row_number : Has CX0 P w K mg base "row_number" 3 ["die", "faces"] (spD K 2 m_row_number))
    (h__law_mass : Has CX0 P w K mg base "_law_mass" 1 ["die", "faces"] (spD K 2 m__law_mass))
    (h__law_same : Has CX0 P w K mg base "_law_same" 1 ["told", "due"] (spD K 2 m__law_same))
    (h_check_faces : Has (L2.CX P w) P w K mg base "check_faces" 3 ["die", "thing"] (spD K 2 (m_check_faces C_BadDie)))
    (h_row_of_number : Has CX0 P w K mg base "row_of_number" 4 ["die", "throws", "kind", "number"] (spD K 4 m_row_of_number))
    (h_kind_size : Has CX0 P w K mg base "kind_size" 3 ["die", "throws", "kind"] (spD K 3 m_kind_size))
    (h__law_row : Has CX0 P w K mg base "_law_row" 2 ["die", "throws", "kind", "number"] (spD K 4 m__law_row))
    (h_next_row : Has CX0 P w K mg base "next_row" 5 ["die", "faces"] (spD K 2 m_next_row))
    (h__law_some : Has CX0 P w K mg base "_law_some" 2 ["jug", "size"] (spD K 2 m__law_some))
    (h__law_pour : Has CX0 P w K mg base "_law_pour" 1 ["jug", "many"] (spD K 2 m__law_pour))
    (hk_row_steps : HasK CX0 P w K mg base "row_steps" 5 ["die", "faces", "steps"] ["die", "faces", "steps"] perm_row_steps (spD K 3 m_row_steps)) :
    FnOk P w K mg base CX0 6 f fd ["jug", "die", "faces"] (spD K 3 (runB 10 (den__law_row_right C_BadDie))) :=
  ok_body (k := 5) F sc__law_row_right fun cdv A outer s H E hr =>
    (as_cons (as_par (i := 3) (j := 4) rfl sc__law_row_right.nd rfl rfl (by decide) rfl rfl (aa_cons (ae_len rfl B.m_len (aa_cons (ae_var (pv 2)) aa_nil)) (aa_cons (ae_callD h__law_kind (hr.mono (by decide)) rfl (aa_cons (ae_var (pv 1)) (aa_cons (ae_var (pv 2)) aa_nil))) aa_nil)) rfl)
    (as_cons (as_par (i := 5) (j := 6) rfl sc__law_row_right.nd rfl rfl (by decide) rfl rfl (aa_cons (ae_callD h__law_size (hr.mono (by decide)) rfl (aa_cons (ae_var (pv 1)) (aa_cons (ae_var (pv 3)) (aa_cons (ae_var (pv 4)) aa_nil)))) (aa_cons (ae_callD h__law_number (hr.mono (by decide)) rfl (aa_cons (ae_var (pv 1)) (aa_cons (ae_var (pv 2)) aa_nil))) aa_nil)) rfl)
    (as_cons (as_set (i := 7) sc__law_row_right.nd rfl (Or.inl rfl) (ae_tup (aa_cons (ae_callD h_row_number (hr.mono (by decide)) rfl (aa_cons (ae_var (pv 1)) (aa_cons (ae_var (pv 2)) aa_nil))) (aa_cons (ae_callD h_row_mass (hr.mono (by decide)) rfl (aa_cons (ae_var (pv 1)) (aa_cons (ae_var (pv 2)) aa_nil))) (aa_cons (ae_callD h_row_kind (hr.mono (by decide)) rfl (aa_cons (ae_var (pv 1)) (aa_cons (ae_var (pv 2)) aa_nil))) (aa_cons (ae_callD h_kind_mass (hr.mono (by decide)) rfl (aa_cons (ae_var (pv 1)) (aa_cons (ae_var (pv 3)) (aa_cons (ae_var (pv 4)) aa_nil)))) aa_nil))))))
    (as_cons (as_if (at_not (at_val (ae_callD h__law_same (hr.mono (by decide)) rfl (aa_cons (ae_var (pv 7)) (aa_cons (ae_tup (aa_cons (ae_var (pv 6)) (aa_cons (ae_callD h__law_mass (hr.mono (by decide)) rfl (aa_cons (ae_var (pv 1)) (aa_cons (ae_var (pv 2)) aa_nil))) (aa_cons (ae_var (pv 4)) (aa_cons (ae_callD h__law_mass (hr.mono (by decide)) rfl (aa_cons (ae_var (pv 1)) (aa_cons (ae_var (pv 2)) aa_nil))) aa_nil))))) aa_nil))))) (as_one (as_ret ae_bl)) as_nil)
    (as_cons (as_set (i := 7) sc__law_row_right.nd rfl (Or.inl rfl) (ae_tup (aa_cons (ae_callD h_kind_size (hr.mono (by decide)) rfl (aa_cons (ae_var (pv 1)) (aa_cons (ae_var (pv 3)) (aa_cons (ae_var (pv 4)) aa_nil)))) (aa_cons (ae_callD h_row_of_number (hr.mono (by decide)) rfl (aa_cons (ae_var (pv 1)) (aa_cons (ae_var (pv 3)) (aa_cons (ae_var (pv 4)) (aa_cons (ae_var (pv 6)) aa_nil))))) (aa_cons (ae_callD h_check_faces (hr.mono (by decide)) rfl (aa_cons (ae_var (pv 1)) (aa_cons (ae_var (pv 2)) aa_nil))) aa_nil)))))
    (as_cons (as_if (at_not (at_val (ae_callD h__law_same (hr.mono (by decide)) rfl (aa_cons (ae_var (pv 7)) (aa_cons (ae_tup (aa_cons (ae_var (pv 5)) (aa_cons (ae_var (pv 2)) (aa_cons (ae_var (pv 3)) aa_nil)))) aa_nil))))) (as_one (as_ret ae_bl)) as_nil)
    (as_cons (as_set (i := 8) sc__law_row_right.nd rfl (Or.inl rfl) (ae_if (at_lt (ae_add (ae_var (pv 6)) ae_int) (ae_var (pv 5))) (ae_callD h__law_row (hr.mono (by decide)) rfl (aa_cons (ae_var (pv 1)) (aa_cons (ae_var (pv 3)) (aa_cons (ae_var (pv 4)) (aa_cons (ae_add (ae_var (pv 6)) ae_int) aa_nil))))) ae_non))
    (as_cons (as_if (at_not (at_val (ae_callD h__law_same (hr.mono (by decide)) rfl (aa_cons (ae_callD h_next_row (hr.mono (by decide)) rfl (aa_cons (ae_var (pv 1)) (aa_cons (ae_var (pv 2)) aa_nil))) (aa_cons (ae_var (pv 8)) aa_nil))))) (as_one (as_ret ae_bl)) as_nil)
    (as_cons (as_set (i := 9) sc__law_row_right.nd rfl (Or.inl rfl) (ae_ix (ae_lst (aa_cons (ae_callD h__law_some (hr.mono (by decide)) rfl (aa_cons (ae_var (pv 0)) (aa_cons (ae_var (pv 5)) aa_nil))) (aa_cons (ae_add (ae_var (pv 5)) (ae_callD h__law_some (hr.mono (by decide)) rfl (aa_cons (ae_var (pv 0)) (aa_cons (ae_var (pv 5)) aa_nil)))) (aa_cons (ae_sub (ae_var (pv 5)) (ae_var (pv 6))) aa_nil)))) (ae_callD h__law_pour (hr.mono (by decide)) rfl (aa_cons (ae_var (pv 0)) (aa_cons ae_int aa_nil)))))
    (as_cons (as_set (i := 8) sc__law_row_right.nd rfl (Or.inl rfl) (ae_callD h__law_row (hr.mono (by decide)) rfl (aa_cons (ae_var (pv 1)) (aa_cons (ae_var (pv 3)) (aa_cons (ae_var (pv 4)) (aa_cons (ae_mod (ae_int1 rfl B.m_int (aa_cons (ae_add (ae_var (pv 6)) (ae_var (pv 9))) aa_nil)) (ae_var (pv 5))) aa_nil))))))
    (as_one (as_ret (ae_callD h__law_same (hr.mono (by decide)) rfl (aa_cons (ae_callK hk_row_steps (hr.mono (by decide)) rfl (ak_cons (ae_var (pv 1)) (ak_cons (ae_var (pv 2)) (ak_cons (ae_var (pv 9)) ak_nil)))) (aa_cons (ae_var (pv 8)) aa_nil)))))))))))))))
/-! _law_number_right -/
abbrev s__law_number_right : Stmt := top 61
abbrev sc__law_number_rightN : List Str := ["jug", "die", "throws", "kind", "size", "beyond", "number", "row", "told"]
theorem sc__law_number_right : FnScope sc__law_number_rightN ["jug", "die", "throws", "kind"] (defScope s__law_number_right) := ⟨rfl, rfl, rfl, by decide +kernel, rfl, by decide +kernel, by decide +kernel⟩
def perm_row_of_number (ds : List D) : List D := match ds with | [a, b, c, d] => [d, c, b, a] | _ => []
noncomputable def den__law_number_right : DS :=
  (sSeq (sSet 4 (dCall 3 m__law_size (dCons (dV 1) (dCons (dV 2) (dCons (dV 3) dNil)))))
    (sSeq (sSet 5 (dOp hAdd (dV 4) (dOp hMulT (dCall 2 m__law_pour (dCons (dV 0) (dCons (dC (.int 3)) dNil))) (dV 4))))
    (sSeq (sIf (dOr (dNot (dTru (dCall 2 m__law_same (dCons (dCall 4 m_row_of_number (dCons (dV 1) (dCons (dV 2) (dCons (dV 3) (dCons (dV 5) dNil))))) (dCons (dC .non) dNil))))) (dBl (dOp hEq (dV 4) (dC (.int 0))))) (sRet (dOp hEq (dV 4) (dC (.int 0)))) sNx)
    (sSeq (sSet 6 (dCall 2 m__law_some (dCons (dV 0) (dCons (dV 4) dNil))))
    (sSeq (sSet 7 (dCall 4 m__law_row (dCons (dV 1) (dCons (dV 2) (dCons (dV 3) (dCons (dV 6) dNil))))))
    (sSeq (sIf (dBl (dOp hNe (dCall 2 m__law_number (dCons (dV 1) (dCons (dV 7) dNil))) (dV 6))) (sRet (dC (.bl false))) sNx)
    (sSeq (sSet 8 (dTup (dCons (dCallK 4 perm_row_of_number m_row_of_number (dCons (dV 6) (dCons (dV 3) (dCons (dV 2) (dCons (dV 1) dNil))))) (dCons (dCall 2 m_row_number (dCons (dV 1) (dCons (dV 7) dNil))) dNil))))
    (sRet (dCall 2 m__law_same (dCons (dV 8) (dCons (dTup (dCons (dV 7) (dCons (dV 6) dNil))) dNil)))))))))))
noncomputable def m__law_number_right : List D → Sto → Res D := callM (runB 9 den__law_number_right)
theorem ok__law_number_right {P : Program} {w : World} {K : PySem.W.Frag} {mg : Str → Option Value} {base : Heap} {f : Addr} {fd : FuncData} (F : Fun K "_law_number_right" "_law_number_right" s__law_number_right f fd) (B : Bu mg)
    (h__law_size : Has CX0 P w K mg base "_law_size" 2 ["die", "throws", "kind"] (spD K 3 m__law_size))
    (h__law_pour : Has CX0 P w K mg base "_law_pour" 1 ["jug", "many"] (spD K 2 m__law_pour))
    (h_row_of_number : Has CX0 P w K mg base "row_of_number" 4 ["die", "throws", "kind", "number"] (spD K 4 m_row_of_number))
    (h__law_same : Has CX0 P w K mg base "_law_same" 1 ["told", "due"] (spD K 2 m__law_same))
    (h__law_some : Has CX0 P w K mg base "_law_some" 2 ["jug", "size"] (spD K 2 m__law_some))
    (h__law_row : Has CX0 P w K mg base "_law_row" 2 ["die", "throws", "kind", "number"] (spD K 4 m__law_row))
    (h__law_number : Has CX0 P w K mg base "_law_number" 2 ["die", "faces"] (spD K 2 m__law_number))
    (h_row_number : Has CX0 P w K mg base "row_number" 3 ["die", "faces"] (spD K 2 m_row_number))
    (hk_row_of_number : HasK CX0 P w K mg base "row_of_number" 4 ["die", "throws", "kind", "number"] ["number", "kind", "throws", "die"] perm_row_of_number (spD K 4 m_row_of_number)) :
    FnOk P w K mg base CX0 5 f fd ["jug", "die", "throws", "kind"] (spD K 4 (runB 9 den__law_number_right)) :=
  ok_body (k := 4) F sc__law_number_right fun cdv A outer s H E hr =>
    (as_cons (as_set (i := 4) sc__law_number_right.nd rfl (Or.inl rfl) (ae_callD h__law_size (hr.mono (by decide)) rfl (aa_cons (ae_var (pv 1)) (aa_cons (ae_var (pv 2)) (aa_cons (ae_var (pv 3)) aa_nil)))))
    (as_cons (as_set (i := 5) sc__law_number_right.nd rfl (Or.inl rfl) (ae_add (ae_var (pv 4)) (ae_mulT (ae_callD h__law_pour (hr.mono (by decide)) rfl (aa_cons (ae_var (pv 0)) (aa_cons ae_int aa_nil))) (ae_var (pv 4)))))
    (as_cons (as_if (at_w (aw_or (at_not (at_val (ae_callD h__law_same (hr.mono (by decide)) rfl (aa_cons (ae_callD h_row_of_number (hr.mono (by decide)) rfl (aa_cons (ae_var (pv 1)) (aa_cons (ae_var (pv 2)) (aa_cons (ae_var (pv 3)) (aa_cons (ae_var (pv 5)) aa_nil))))) (aa_cons ae_non aa_nil))))) (aw_or1 (at_eq hr.units (ae_var (pv 4)) ae_int)))) (as_one (as_ret (ae_eq hr.units (ae_var (pv 4)) ae_int))) as_nil)
    (as_cons (as_set (i := 6) sc__law_number_right.nd rfl (Or.inl rfl) (ae_callD h__law_some (hr.mono (by decide)) rfl (aa_cons (ae_var (pv 0)) (aa_cons (ae_var (pv 4)) aa_nil))))
    (as_cons (as_set (i := 7) sc__law_number_right.nd rfl (Or.inl rfl) (ae_callD h__law_row (hr.mono (by decide)) rfl (aa_cons (ae_var (pv 1)) (aa_cons (ae_var (pv 2)) (aa_cons (ae_var (pv 3)) (aa_cons (ae_var (pv 6)) aa_nil))))))
    (as_cons (as_if (at_ne hr.units (ae_callD h__law_number (hr.mono (by decide)) rfl (aa_cons (ae_var (pv 1)) (aa_cons (ae_var (pv 7)) aa_nil))) (ae_var (pv 6))) (as_one (as_ret ae_bl)) as_nil)
    (as_cons (as_set (i := 8) sc__law_number_right.nd rfl (Or.inl rfl) (ae_tup (aa_cons (ae_callK hk_row_of_number (hr.mono (by decide)) rfl (ak_cons (ae_var (pv 6)) (ak_cons (ae_var (pv 3)) (ak_cons (ae_var (pv 2)) (ak_cons (ae_var (pv 1)) ak_nil))))) (aa_cons (ae_callD h_row_number (hr.mono (by decide)) rfl (aa_cons (ae_var (pv 1)) (aa_cons (ae_var (pv 7)) aa_nil))) aa_nil))))
    (as_one (as_ret (ae_callD h__law_same (hr.mono (by decide)) rfl (aa_cons (ae_var (pv 8)) (aa_cons (ae_tup (aa_cons (ae_var (pv 7)) (aa_cons (ae_var (pv 6)) aa_nil))) aa_nil))))))))))))
/-! _law_tabled -/
abbrev s__law_tabled : Stmt := top 62
abbrev sc__law_tabledN : List Str := ["jug", "die", "throws", "table", "outcomes", "kind", "left", "row", "outcome", "part", "lap", "faces", "edge"]
theorem sc__law_tabled : FnScope sc__law_tabledN ["jug", "die", "throws"] (defScope s__law_tabled) := ⟨rfl, rfl, rfl, by decide +kernel, rfl, by decide +kernel, by decide +kernel⟩
noncomputable def b1__law_tabled (C_BadTable : Addr) : DS :=
  (sSeq (sSet 9 (dCall 2 m__law_some (dCons (dV 0) (dCons (dOp hAdd (dV 6) (dC (.int 1))) dNil))))
    (sSeq (sExpr (dMe hApp (dV 7) (dCons (dV 9) dNil)))
    (sSet 6 (dOp (hInt yes2 fun i j => i - j) (dV 6) (dV 9)))))
noncomputable def b2__law_tabled (C_BadTable : Addr) : DS :=
  (sSeq (sPar 6 7 (dCons (dCall 3 m__law_size (dCons (dV 1) (dCons (dV 2) (dCons (dV 5) dNil)))) (dCons (dLst dNil) dNil)))
    (sSeq (sFor (dRng1 (dCons (dOp (hInt yes2 fun i j => i - j) (dV 4) (dC (.int 1))) dNil)) (gN 8) (b1__law_tabled C_BadTable))
    (sExpr (dMe hApp (dV 3) (dCons (dCB hTupOf (dCons (dOp hAdd (dV 7) (dLst (dCons (dV 6) dNil))) dNil)) dNil)))))
noncomputable def b3__law_tabled (C_BadTable : Addr) : DS :=
  (sSeq (sSet 11 (dCall 3 m__law_faces (dCons (dV 0) (dCons (dV 1) (dCons (dV 2) dNil)))))
    (sSeq (sSet 7 (dOp hIx (dV 3) (dCall 2 m__law_kind (dCons (dV 1) (dCons (dV 11) dNil)))))
    (sSeq (sSet 12 (dOp (hInt yes2 fun i j => i - j) (dCB hSum (dCons (dSl (dV 7) dONone (dOSome (dOp hAdd (dC (.int 1)) (dCall 2 m__law_pour (dCons (dV 0) (dCons (dV 4) dNil)))))) dNil)) (dCall 2 m__law_pour (dCons (dV 0) (dCons (dC (.int 2)) dNil)))))
    (sSeq (sIf (dBl (dChain (hCmp fun i j => decide (i ≤ j)) (hCmp fun i j => decide (i < j)) (dC (.int 0)) (dV 12) (dCB hSum (dCons (dV 7) dNil)))) (sSet 11 (dCall 4 m__law_row (dCons (dV 1) (dCons (dV 2) (dCons (dCall 2 m__law_kind (dCons (dV 1) (dCons (dV 11) dNil))) (dCons (dV 12) dNil)))))) sNx)
    (sIf (dNot (dTru (dCall 2 m__law_same (dCons (dCall 3 m_outcome_of (dCons (dV 1) (dCons (dV 3) (dCons (dV 11) dNil)))) (dCons (dCall 3 m__law_outcome (dCons (dV 1) (dCons (dV 3) (dCons (dV 11) dNil)))) dNil))))) (sRet (dC (.bl false))) sNx)))))
noncomputable def den__law_tabled (C_BadTable : Addr) : DS :=
  (sSeq (sPar 3 4 (dCons (dLst dNil) (dCons (dOp hAdd (dC (.int 2)) (dCall 2 m__law_pour (dCons (dV 0) (dCons (dC (.int 3)) dNil)))) dNil)))
    (sSeq (sFor (dRng1 (dCons (dOp hAdd (dV 2) (dC (.int 1))) dNil)) (gN 5) (b2__law_tabled C_BadTable))
    (sSeq (sSet 3 (dCB hTupOf (dCons (dV 3) dNil)))
    (sSeq (sIf (dNot (dTru (dCall 2 m__law_same (dCons (dCall 2 (m_check_table C_BadTable) (dCons (dV 1) (dCons (dV 3) dNil))) (dCons (dV 4) dNil))))) (sRet (dC (.bl false))) sNx)
    (sSeq (sFor (dRng1 (dCons (dC (.int 3)) dNil)) (gN 10) (b3__law_tabled C_BadTable))
    (sRet (dC (.bl true))))))))
noncomputable def m__law_tabled (C_BadTable : Addr) : List D → Sto → Res D := callM (runB 13 (den__law_tabled C_BadTable))
theorem ok__law_tabled {P : Program} {w : World} {K : PySem.W.Frag} {mg : Str → Option Value} {base : Heap} {f : Addr} {fd : FuncData} (F : Fun K "_law_tabled" "_law_tabled" s__law_tabled f fd) (B : Bu mg)
    {C_BadTable fI_BadTable : Addr} (T_BadTable : Zv.SupTxt P K mg C_BadTable fI_BadTable) (gC_BadTable : mg "BadTable" = some (.ref C_BadTable))
    (h__law_pour : Has CX0 P w K mg base "_law_pour" 1 ["jug", "many"] (spD K 2 m__law_pour))
    (h__law_size : Has CX0 P w K mg base "_law_size" 2 ["die", "throws", "kind"] (spD K 3 m__law_size))
    (h__law_some : Has CX0 P w K mg base "_law_some" 2 ["jug", "size"] (spD K 2 m__law_some))
    (h_check_table : Has (L2.CX P w) P w K mg base "check_table" 5 ["die", "thing"] (spD K 2 (m_check_table C_BadTable)))
    (h__law_same : Has CX0 P w K mg base "_law_same" 1 ["told", "due"] (spD K 2 m__law_same))
    (h__law_faces : Has CX0 P w K mg base "_law_faces" 2 ["jug", "die", "many"] (spD K 3 m__law_faces))
    (h__law_kind : Has CX0 P w K mg base "_law_kind" 1 ["die", "faces"] (spD K 2 m__law_kind))
    (h__law_row : Has CX0 P w K mg base "_law_row" 2 ["die", "throws", "kind", "number"] (spD K 4 m__law_row))
    (h__law_outcome : Has CX0 P w K mg base "_law_outcome" 3 ["die", "table", "faces"] (spD K 3 m__law_outcome))
    (h_outcome_of : Has CX0 P w K mg base "outcome_of" 4 ["die", "table", "faces"] (spD K 3 m_outcome_of)) :
    FnOk P w K mg base CX0 6 f fd ["jug", "die", "throws"] (spD K 3 (runB 13 (den__law_tabled C_BadTable))) :=
  ok_body (k := 5) F sc__law_tabled fun cdv A outer s H E hr =>
    (as_cons (as_par (i := 3) (j := 4) rfl sc__law_tabled.nd rfl rfl (by decide) rfl rfl (aa_cons (ae_lst aa_nil) (aa_cons (ae_add ae_int (ae_callD h__law_pour (hr.mono (by decide)) rfl (aa_cons (ae_var (pv 0)) (aa_cons ae_int aa_nil)))) aa_nil)) rfl)
    (as_cons (as_for PassesOwn.never rfl (ai_range1 rfl B.m_range (aa_cons (ae_add (ae_var (pv 2)) ae_int) aa_nil)) (ag_name (i := 5) sc__law_tabled.nd rfl (Or.inl rfl)) (as_cons (as_par (i := 6) (j := 7) rfl sc__law_tabled.nd rfl rfl (by decide) rfl rfl (aa_cons (ae_callD h__law_size (hr.mono (by decide)) rfl (aa_cons (ae_var (pv 1)) (aa_cons (ae_var (pv 2)) (aa_cons (ae_var (pv 5)) aa_nil)))) (aa_cons (ae_lst aa_nil) aa_nil)) rfl)
    (as_cons (as_for PassesOwn.never rfl (ai_range1 rfl B.m_range (aa_cons (ae_sub (ae_var (pv 4)) ae_int) aa_nil)) (ag_name (i := 8) sc__law_tabled.nd rfl (Or.inl rfl)) (as_cons (as_set (i := 9) sc__law_tabled.nd rfl (Or.inl rfl) (ae_callD h__law_some (hr.mono (by decide)) rfl (aa_cons (ae_var (pv 0)) (aa_cons (ae_add (ae_var (pv 6)) ae_int) aa_nil))))
    (as_cons (as_expr (ae_append (ae_var (pv 7)) (aa_cons (ae_var (pv 9)) aa_nil)))
    (as_one (as_set (i := 6) sc__law_tabled.nd rfl (Or.inl rfl) (ae_sub (ae_var (pv 6)) (ae_var (pv 9))))))))
    (as_one (as_expr (ae_append (ae_var (pv 3)) (aa_cons (ae_tupOf rfl B.m_tuple (aa_cons (ae_add (ae_var (pv 7)) (ae_lst (aa_cons (ae_var (pv 6)) aa_nil))) aa_nil)) aa_nil)))))))
    (as_cons (as_set (i := 3) sc__law_tabled.nd rfl (Or.inl rfl) (ae_tupOf rfl B.m_tuple (aa_cons (ae_var (pv 3)) aa_nil)))
    (as_cons (as_if (at_not (at_val (ae_callD h__law_same (hr.mono (by decide)) rfl (aa_cons (ae_callD h_check_table (hr.mono (by decide)) rfl (aa_cons (ae_var (pv 1)) (aa_cons (ae_var (pv 3)) aa_nil))) (aa_cons (ae_var (pv 4)) aa_nil))))) (as_one (as_ret ae_bl)) as_nil)
    (as_cons (as_for PassesOwn.never rfl (ai_range1 rfl B.m_range (aa_cons ae_int aa_nil)) (ag_name (i := 10) sc__law_tabled.nd rfl (Or.inl rfl)) (as_cons (as_set (i := 11) sc__law_tabled.nd rfl (Or.inl rfl) (ae_callD h__law_faces (hr.mono (by decide)) rfl (aa_cons (ae_var (pv 0)) (aa_cons (ae_var (pv 1)) (aa_cons (ae_var (pv 2)) aa_nil)))))
    (as_cons (as_set (i := 7) sc__law_tabled.nd rfl (Or.inl rfl) (ae_ix (ae_var (pv 3)) (ae_callD h__law_kind (hr.mono (by decide)) rfl (aa_cons (ae_var (pv 1)) (aa_cons (ae_var (pv 11)) aa_nil)))))
    (as_cons (as_set (i := 12) sc__law_tabled.nd rfl (Or.inl rfl) (ae_sub (ae_sum rfl rfl B.m_sum (aa_cons (ae_sl (ae_var (pv 7)) ao_none (ao_some (ae_add ae_int (ae_callD h__law_pour (hr.mono (by decide)) rfl (aa_cons (ae_var (pv 0)) (aa_cons (ae_var (pv 4)) aa_nil)))))) aa_nil)) (ae_callD h__law_pour (hr.mono (by decide)) rfl (aa_cons (ae_var (pv 0)) (aa_cons ae_int aa_nil)))))
    (as_cons (as_if (at_chain op_le op_lt hs_cmp hs_cmp ae_int (ae_var (pv 12)) (ae_sum rfl rfl B.m_sum (aa_cons (ae_var (pv 7)) aa_nil))) (as_one (as_set (i := 11) sc__law_tabled.nd rfl (Or.inl rfl) (ae_callD h__law_row (hr.mono (by decide)) rfl (aa_cons (ae_var (pv 1)) (aa_cons (ae_var (pv 2)) (aa_cons (ae_callD h__law_kind (hr.mono (by decide)) rfl (aa_cons (ae_var (pv 1)) (aa_cons (ae_var (pv 11)) aa_nil))) (aa_cons (ae_var (pv 12)) aa_nil))))))) as_nil)
    (as_one (as_if (at_not (at_val (ae_callD h__law_same (hr.mono (by decide)) rfl (aa_cons (ae_callD h_outcome_of (hr.mono (by decide)) rfl (aa_cons (ae_var (pv 1)) (aa_cons (ae_var (pv 3)) (aa_cons (ae_var (pv 11)) aa_nil)))) (aa_cons (ae_callD h__law_outcome (hr.mono (by decide)) rfl (aa_cons (ae_var (pv 1)) (aa_cons (ae_var (pv 3)) (aa_cons (ae_var (pv 11)) aa_nil)))) aa_nil))))) (as_one (as_ret ae_bl)) as_nil)))))))
    (as_one (as_ret ae_bl)))))))
/-! _law_faults -/
abbrev s__law_faults : Stmt := top 63
abbrev sc__law_faultsN : List Str := ["jug", "die", "faces", "at", "odd", "things"]
theorem sc__law_faults : FnScope sc__law_faultsN ["jug", "die", "faces"] (defScope s__law_faults) := ⟨rfl, rfl, rfl, by decide +kernel, rfl, by decide +kernel, by decide +kernel⟩
noncomputable def den__law_faults (C_BadDie : Addr) : DS :=
  (sSeq (sSet 3 (dCall 2 m__law_pour (dCons (dV 0) (dCons (dOp hAdd (dCB hLen (dCons (dV 2) dNil)) (dC (.int 1))) dNil))))
    (sSeq (sSet 4 (dOp hIx (dLst (dCons (dCB hLen (dCons (dV 1) dNil)) (dCons (dUn hNeg (dC (.int 1))) (dCons (dC (.bl true)) (dCons (dC .non) (dCons (dC (.str "0")) (dCons (dTup (dCons (dC (.int 0)) dNil)) (dCons (dOp (hInt powW fun i j => i ^ j.toNat) (dC (.int 10)) (dC (.int 50))) dNil)))))))) (dCall 2 m__law_pour (dCons (dV 0) (dCons (dC (.int 7)) dNil)))))
    (sSeq (sSet 5 (dOp hIx (dLst (dCons (dOp hAdd (dOp hAdd (dSl (dV 2) dONone (dOSome (dV 3))) (dTup (dCons (dV 4) dNil))) (dSl (dV 2) (dOSome (dV 3)) dONone)) (dCons (dCB hLstOf (dCons (dV 2) dNil)) (dCons (dV 2) (dCons (dC .non) (dCons (dOp hAdd (dV 2) (dTup (dCons (dV 4) (dCons (dUn hNeg (dC (.int 1))) dNil)))) (dCons (dC (.int 3)) dNil))))))) (dCall 2 m__law_pour (dCons (dV 0) (dCons (dC (.int 6)) dNil)))))
    (sRet (dCall 2 m__law_same (dCons (dCall 2 (m__law_heard C_BadDie) (dCons (dV 1) (dCons (dV 5) dNil))) (dCons (dCall 2 m__law_fault (dCons (dV 1) (dCons (dV 5) dNil))) dNil)))))))
noncomputable def m__law_faults (C_BadDie : Addr) : List D → Sto → Res D := callM (runB 6 (den__law_faults C_BadDie))
theorem ok__law_faults {P : Program} {w : World} {K : PySem.W.Frag} {mg : Str → Option Value} {base : Heap} {f : Addr} {fd : FuncData} (F : Fun K "_law_faults" "_law_faults" s__law_faults f fd) (B : Bu mg)
    {C_BadDie fI_BadDie : Addr} (T_BadDie : Zy.SupTxt P K mg C_BadDie fI_BadDie) (gC_BadDie : mg "BadDie" = some (.ref C_BadDie))
    (h__law_pour : Has CX0 P w K mg base "_law_pour" 1 ["jug", "many"] (spD K 2 m__law_pour))
    (h__law_fault : Has CX0 P w K mg base "_law_fault" 1 ["die", "thing"] (spD K 2 m__law_fault))
    (h__law_heard : Has CX0 P w K mg base "_law_heard" 4 ["die", "thing"] (spD K 2 (m__law_heard C_BadDie)))
    (h__law_same : Has CX0 P w K mg base "_law_same" 1 ["told", "due"] (spD K 2 m__law_same)) :
    FnOk P w K mg base CX0 5 f fd ["jug", "die", "faces"] (spD K 3 (runB 6 (den__law_faults C_BadDie))) :=
  ok_body (k := 4) F sc__law_faults fun cdv A outer s H E hr =>
    (as_cons (as_set (i := 3) sc__law_faults.nd rfl (Or.inl rfl) (ae_callD h__law_pour (hr.mono (by decide)) rfl (aa_cons (ae_var (pv 0)) (aa_cons (ae_add (ae_len rfl B.m_len (aa_cons (ae_var (pv 2)) aa_nil)) ae_int) aa_nil))))
    (as_cons (as_set (i := 4) sc__law_faults.nd rfl (Or.inl rfl) (ae_ix (ae_lst (aa_cons (ae_len rfl B.m_len (aa_cons (ae_var (pv 1)) aa_nil)) (aa_cons (ae_neg ae_int) (aa_cons ae_bl (aa_cons ae_non (aa_cons ae_str (aa_cons (ae_tup (aa_cons ae_int aa_nil)) (aa_cons (ae_powW ae_int ae_int) aa_nil)))))))) (ae_callD h__law_pour (hr.mono (by decide)) rfl (aa_cons (ae_var (pv 0)) (aa_cons ae_int aa_nil)))))
    (as_cons (as_set (i := 5) sc__law_faults.nd rfl (Or.inl rfl) (ae_ix (ae_lst (aa_cons (ae_add (ae_add (ae_sl (ae_var (pv 2)) ao_none (ao_some (ae_var (pv 3)))) (ae_tup (aa_cons (ae_var (pv 4)) aa_nil))) (ae_sl (ae_var (pv 2)) (ao_some (ae_var (pv 3))) ao_none)) (aa_cons (ae_lstOf rfl B.m_list (aa_cons (ae_var (pv 2)) aa_nil)) (aa_cons (ae_var (pv 2)) (aa_cons ae_non (aa_cons (ae_add (ae_var (pv 2)) (ae_tup (aa_cons (ae_var (pv 4)) (aa_cons (ae_neg ae_int) aa_nil)))) (aa_cons ae_int aa_nil))))))) (ae_callD h__law_pour (hr.mono (by decide)) rfl (aa_cons (ae_var (pv 0)) (aa_cons ae_int aa_nil)))))
    (as_one (as_ret (ae_callD h__law_same (hr.mono (by decide)) rfl (aa_cons (ae_callD h__law_heard (hr.mono (by decide)) rfl (aa_cons (ae_var (pv 1)) (aa_cons (ae_var (pv 5)) aa_nil))) (aa_cons (ae_callD h__law_fault (hr.mono (by decide)) rfl (aa_cons (ae_var (pv 1)) (aa_cons (ae_var (pv 5)) aa_nil))) aa_nil))))))))
/-! law -/
abbrev s_law : Stmt := top 64
abbrev sc_lawN : List Str := ["script", "jug", "lap", "die", "throws", "told", "whole", "kind"]
theorem sc_law : FnScope sc_lawN ["script"] (defScope s_law) := ⟨rfl, rfl, rfl, by decide +kernel, rfl, by decide +kernel, by decide +kernel⟩
noncomputable def b1_law (C_BadDie C_BadTable : Addr) : DS :=
  (sSeq (sExpr (dMe hApp (dV 5) (dCons (dV 6) dNil)))
    (sSet 6 (dOp hAdd (dV 6) (dCall 3 m__law_size (dCons (dV 3) (dCons (dV 4) (dCons (dV 7) dNil)))))))
noncomputable def b2_law (C_BadDie C_BadTable : Addr) : DS :=
  (sSeq (sSet 3 (dCall 2 m__law_die (dCons (dV 1) (dCons (dC (.int 5)) dNil))))
    (sSeq (sSet 4 (dCall 2 m__law_pour (dCons (dV 1) (dCons (dOp hIx (dLst (dCons (dC (.int 7)) (dCons (dC (.int 25)) (dCons (dC (.int 61)) dNil)))) (dV 2)) dNil))))
    (sSeq (sIf (dNot (dTru (dCall 3 (m__law_row_right C_BadDie) (dCons (dV 1) (dCons (dV 3) (dCons (dCall 3 m__law_faces (dCons (dV 1) (dCons (dV 3) (dCons (dV 4) dNil)))) dNil)))))) (sRet (dC (.bl false))) sNx)
    (sSeq (sIf (dNot (dTru (dCall 4 m__law_number_right (dCons (dV 1) (dCons (dV 3) (dCons (dV 4) (dCons (dCall 2 m__law_pour (dCons (dV 1) (dCons (dOp hAdd (dV 4) (dC (.int 1))) dNil))) dNil))))))) (sRet (dC (.bl false))) sNx)
    (sSeq (sIf (dNot (dTru (dCall 3 (m__law_faults C_BadDie) (dCons (dV 1) (dCons (dV 3) (dCons (dCall 3 m__law_faces (dCons (dV 1) (dCons (dV 3) (dCons (dCall 2 m__law_pour (dCons (dV 1) (dCons (dC (.int 6)) dNil))) dNil)))) dNil)))))) (sRet (dC (.bl false))) sNx)
    (sSeq (sPar 5 6 (dCons (dLst dNil) (dCons (dC (.int 0)) dNil)))
    (sSeq (sFor (dRng1 (dCons (dOp hAdd (dV 4) (dC (.int 1))) dNil)) (gN 7) (b1_law C_BadDie C_BadTable))
    (sIf (dNot (dTru (dCall 2 m__law_same (dCons (dCall 2 m_kind_sums (dCons (dV 3) (dCons (dV 4) dNil))) (dCons (dCB hTupOf (dCons (dV 5) dNil)) dNil))))) (sRet (dC (.bl false))) sNx))))))))
noncomputable def den_law (C_BadDie C_BadTable : Addr) : DS :=
  (sSeq (sSet 1 (dCall 1 m__law_jug (dCons (dV 0) dNil)))
    (sSeq (sFor (dRng1 (dCons (dC (.int 3)) dNil)) (gN 2) (b2_law C_BadDie C_BadTable))
    (sSeq (sIf (dNot (dTru (dCall 3 (m__law_tabled C_BadTable) (dCons (dV 1) (dCons (dV 3) (dCons (dOp hIx (dLst (dCons (dCall 2 m__law_pour (dCons (dV 1) (dCons (dC (.int 12)) dNil))) (dCons (dC (.int 60)) (dCons (dC (.int 100)) dNil)))) (dCB hMax2 (dCons (dC (.int 0)) (dCons (dOp (hInt yes2 fun i j => i - j) (dCall 2 m__law_pour (dCons (dV 1) (dCons (dC (.int 14)) dNil))) (dC (.int 11))) dNil)))) dNil)))))) (sRet (dC (.bl false))) sNx)
    (sSeq (sIf (dBl (dOp hEq (dCall 2 m__law_pour (dCons (dV 1) (dCons (dC (.int 7)) dNil))) (dC (.int 4)))) (sSeq (sSet 3 (dCall 2 m__law_die (dCons (dV 1) (dCons (dC (.int 5)) dNil))))
    (sSeq (sIf (dNot (dTru (dCall 3 (m__law_row_right C_BadDie) (dCons (dV 1) (dCons (dV 3) (dCons (dCall 3 m__law_faces (dCons (dV 1) (dCons (dV 3) (dCons (dC (.int 400)) dNil)))) dNil)))))) (sRet (dC (.bl false))) sNx)
    (sIf (dNot (dTru (dCall 4 m__law_number_right (dCons (dV 1) (dCons (dV 3) (dCons (dC (.int 400)) (dCons (dOp hAdd (dC (.int 150)) (dCall 2 m__law_pour (dCons (dV 1) (dCons (dC (.int 99)) dNil)))) dNil))))))) (sRet (dC (.bl false))) sNx))) sNx)
    (sSeq (sSet 3 (dTup (dCons (dC (.int 2)) (dCons (dC (.int 3)) (dCons (dC (.int 2)) dNil)))))
    (sSeq (sSet 5 (dTup (dCons (dCall 2 m_row_number (dCons (dV 3) (dCons (dTup (dCons (dC (.int 2)) (dCons (dC (.int 1)) dNil))) dNil))) (dCons (dCall 2 m_next_row (dCons (dV 3) (dCons (dTup (dCons (dC (.int 1)) (dCons (dC (.int 2)) dNil))) dNil))) (dCons (dCall 3 m_row_steps (dCons (dV 3) (dCons (dTup (dCons (dC (.int 1)) (dCons (dC (.int 2)) dNil))) (dCons (dC (.int 1)) dNil)))) (dCons (dCall 4 m_row_of_number (dCons (dV 3) (dCons (dC (.int 2)) (dCons (dC (.int 1)) (dCons (dC (.int 1)) dNil))))) dNil))))))
    (sRet (dCall 2 m__law_same (dCons (dV 5) (dCons (dTup (dCons (dC (.int 1)) (dCons (dC .non) (dCons (dTup (dCons (dC (.int 0)) (dCons (dC (.int 1)) dNil))) (dCons (dTup (dCons (dC (.int 2)) (dCons (dC (.int 1)) dNil))) dNil))))) dNil))))))))))
noncomputable def m_law (C_BadDie C_BadTable : Addr) : List D → Sto → Res D := callM (runB 8 (den_law C_BadDie C_BadTable))
theorem ok_law {P : Program} {w : World} {K : PySem.W.Frag} {mg : Str → Option Value} {base : Heap} {f : Addr} {fd : FuncData} (F : Fun K "law" "law" s_law f fd) (B : Bu mg)
    {C_BadDie fI_BadDie : Addr} (T_BadDie : Zy.SupTxt P K mg C_BadDie fI_BadDie) (gC_BadDie : mg "BadDie" = some (.ref C_BadDie))
    {C_BadTable fI_BadTable : Addr} (T_BadTable : Zv.SupTxt P K mg C_BadTable fI_BadTable) (gC_BadTable : mg "BadTable" = some (.ref C_BadTable))
    (h__law_jug : Has CX0 P w K mg base "_law_jug" 1 ["script"] (spD K 1 m__law_jug))
    (h__law_die : Has CX0 P w K mg base "_law_die" 2 ["jug", "most"] (spD K 2 m__law_die))
    (h__law_pour : Has CX0 P w K mg base "_law_pour" 1 ["jug", "many"] (spD K 2 m__law_pour))
    (h__law_faces : Has CX0 P w K mg base "_law_faces" 2 ["jug", "die", "many"] (spD K 3 m__law_faces))
    (h__law_row_right : Has CX0 P w K mg base "_law_row_right" 6 ["jug", "die", "faces"] (spD K 3 (m__law_row_right C_BadDie)))
    (h__law_number_right : Has CX0 P w K mg base "_law_number_right" 5 ["jug", "die", "throws", "kind"] (spD K 4 m__law_number_right))
    (h__law_faults : Has CX0 P w K mg base "_law_faults" 5 ["jug", "die", "faces"] (spD K 3 (m__law_faults C_BadDie)))
    (h__law_size : Has CX0 P w K mg base "_law_size" 2 ["die", "throws", "kind"] (spD K 3 m__law_size))
    (h_kind_sums : Has CX0 P w K mg base "kind_sums" 4 ["die", "throws"] (spD K 2 m_kind_sums))
    (h__law_same : Has CX0 P w K mg base "_law_same" 1 ["told", "due"] (spD K 2 m__law_same))
    (h__law_tabled : Has CX0 P w K mg base "_law_tabled" 6 ["jug", "die", "throws"] (spD K 3 (m__law_tabled C_BadTable)))
    (h_row_of_number : Has CX0 P w K mg base "row_of_number" 4 ["die", "throws", "kind", "number"] (spD K 4 m_row_of_number))
    (h_row_steps : Has CX0 P w K mg base "row_steps" 5 ["die", "faces", "steps"] (spD K 3 m_row_steps))
    (h_next_row : Has CX0 P w K mg base "next_row" 5 ["die", "faces"] (spD K 2 m_next_row))
    (h_row_number : Has CX0 P w K mg base "row_number" 3 ["die", "faces"] (spD K 2 m_row_number)) :
    FnOk P w K mg base CX0 7 f fd ["script"] (spD K 1 (runB 8 (den_law C_BadDie C_BadTable))) :=
  ok_body (k := 6) F sc_law fun cdv A outer s H E hr =>
    (as_cons (as_set (i := 1) sc_law.nd rfl (Or.inl rfl) (ae_callD h__law_jug (hr.mono (by decide)) rfl (aa_cons (ae_var (pv 0)) aa_nil)))
    (as_cons (as_for PassesOwn.never rfl (ai_range1 rfl B.m_range (aa_cons ae_int aa_nil)) (ag_name (i := 2) sc_law.nd rfl (Or.inl rfl)) (as_cons (as_set (i := 3) sc_law.nd rfl (Or.inl rfl) (ae_callD h__law_die (hr.mono (by decide)) rfl (aa_cons (ae_var (pv 1)) (aa_cons ae_int aa_nil))))
    (as_cons (as_set (i := 4) sc_law.nd rfl (Or.inl rfl) (ae_callD h__law_pour (hr.mono (by decide)) rfl (aa_cons (ae_var (pv 1)) (aa_cons (ae_ix (ae_lst (aa_cons ae_int (aa_cons ae_int (aa_cons ae_int aa_nil)))) (ae_var (pv 2))) aa_nil))))
    (as_cons (as_if (at_not (at_val (ae_callD h__law_row_right (hr.mono (by decide)) rfl (aa_cons (ae_var (pv 1)) (aa_cons (ae_var (pv 3)) (aa_cons (ae_callD h__law_faces (hr.mono (by decide)) rfl (aa_cons (ae_var (pv 1)) (aa_cons (ae_var (pv 3)) (aa_cons (ae_var (pv 4)) aa_nil)))) aa_nil)))))) (as_one (as_ret ae_bl)) as_nil)
    (as_cons (as_if (at_not (at_val (ae_callD h__law_number_right (hr.mono (by decide)) rfl (aa_cons (ae_var (pv 1)) (aa_cons (ae_var (pv 3)) (aa_cons (ae_var (pv 4)) (aa_cons (ae_callD h__law_pour (hr.mono (by decide)) rfl (aa_cons (ae_var (pv 1)) (aa_cons (ae_add (ae_var (pv 4)) ae_int) aa_nil))) aa_nil))))))) (as_one (as_ret ae_bl)) as_nil)
    (as_cons (as_if (at_not (at_val (ae_callD h__law_faults (hr.mono (by decide)) rfl (aa_cons (ae_var (pv 1)) (aa_cons (ae_var (pv 3)) (aa_cons (ae_callD h__law_faces (hr.mono (by decide)) rfl (aa_cons (ae_var (pv 1)) (aa_cons (ae_var (pv 3)) (aa_cons (ae_callD h__law_pour (hr.mono (by decide)) rfl (aa_cons (ae_var (pv 1)) (aa_cons ae_int aa_nil))) aa_nil)))) aa_nil)))))) (as_one (as_ret ae_bl)) as_nil)
    (as_cons (as_par (i := 5) (j := 6) rfl sc_law.nd rfl rfl (by decide) rfl rfl (aa_cons (ae_lst aa_nil) (aa_cons ae_int aa_nil)) rfl)
    (as_cons (as_for PassesOwn.never rfl (ai_range1 rfl B.m_range (aa_cons (ae_add (ae_var (pv 4)) ae_int) aa_nil)) (ag_name (i := 7) sc_law.nd rfl (Or.inl rfl)) (as_cons (as_expr (ae_append (ae_var (pv 5)) (aa_cons (ae_var (pv 6)) aa_nil)))
    (as_one (as_set (i := 6) sc_law.nd rfl (Or.inl rfl) (ae_add (ae_var (pv 6)) (ae_callD h__law_size (hr.mono (by decide)) rfl (aa_cons (ae_var (pv 3)) (aa_cons (ae_var (pv 4)) (aa_cons (ae_var (pv 7)) aa_nil)))))))))
    (as_one (as_if (at_not (at_val (ae_callD h__law_same (hr.mono (by decide)) rfl (aa_cons (ae_callD h_kind_sums (hr.mono (by decide)) rfl (aa_cons (ae_var (pv 3)) (aa_cons (ae_var (pv 4)) aa_nil))) (aa_cons (ae_tupOf rfl B.m_tuple (aa_cons (ae_var (pv 5)) aa_nil)) aa_nil))))) (as_one (as_ret ae_bl)) as_nil))))))))))
    (as_cons (as_if (at_not (at_val (ae_callD h__law_tabled (hr.mono (by decide)) rfl (aa_cons (ae_var (pv 1)) (aa_cons (ae_var (pv 3)) (aa_cons (ae_ix (ae_lst (aa_cons (ae_callD h__law_pour (hr.mono (by decide)) rfl (aa_cons (ae_var (pv 1)) (aa_cons ae_int aa_nil))) (aa_cons ae_int (aa_cons ae_int aa_nil)))) (ae_max2 rfl rfl B.m_max (aa_cons ae_int (aa_cons (ae_sub (ae_callD h__law_pour (hr.mono (by decide)) rfl (aa_cons (ae_var (pv 1)) (aa_cons ae_int aa_nil))) ae_int) aa_nil)))) aa_nil)))))) (as_one (as_ret ae_bl)) as_nil)
    (as_cons (as_if (at_eq hr.units (ae_callD h__law_pour (hr.mono (by decide)) rfl (aa_cons (ae_var (pv 1)) (aa_cons ae_int aa_nil))) ae_int) (as_cons (as_set (i := 3) sc_law.nd rfl (Or.inl rfl) (ae_callD h__law_die (hr.mono (by decide)) rfl (aa_cons (ae_var (pv 1)) (aa_cons ae_int aa_nil))))
    (as_cons (as_if (at_not (at_val (ae_callD h__law_row_right (hr.mono (by decide)) rfl (aa_cons (ae_var (pv 1)) (aa_cons (ae_var (pv 3)) (aa_cons (ae_callD h__law_faces (hr.mono (by decide)) rfl (aa_cons (ae_var (pv 1)) (aa_cons (ae_var (pv 3)) (aa_cons ae_int aa_nil)))) aa_nil)))))) (as_one (as_ret ae_bl)) as_nil)
    (as_one (as_if (at_not (at_val (ae_callD h__law_number_right (hr.mono (by decide)) rfl (aa_cons (ae_var (pv 1)) (aa_cons (ae_var (pv 3)) (aa_cons ae_int (aa_cons (ae_add ae_int (ae_callD h__law_pour (hr.mono (by decide)) rfl (aa_cons (ae_var (pv 1)) (aa_cons ae_int aa_nil)))) aa_nil))))))) (as_one (as_ret ae_bl)) as_nil)))) as_nil)
    (as_cons (as_set (i := 3) sc_law.nd rfl (Or.inl rfl) (ae_tup (aa_cons ae_int (aa_cons ae_int (aa_cons ae_int aa_nil)))))
    (as_cons (as_set (i := 5) sc_law.nd rfl (Or.inl rfl) (ae_tup (aa_cons (ae_callD h_row_number (hr.mono (by decide)) rfl (aa_cons (ae_var (pv 3)) (aa_cons (ae_tup (aa_cons ae_int (aa_cons ae_int aa_nil))) aa_nil))) (aa_cons (ae_callD h_next_row (hr.mono (by decide)) rfl (aa_cons (ae_var (pv 3)) (aa_cons (ae_tup (aa_cons ae_int (aa_cons ae_int aa_nil))) aa_nil))) (aa_cons (ae_callD h_row_steps (hr.mono (by decide)) rfl (aa_cons (ae_var (pv 3)) (aa_cons (ae_tup (aa_cons ae_int (aa_cons ae_int aa_nil))) (aa_cons ae_int aa_nil)))) (aa_cons (ae_callD h_row_of_number (hr.mono (by decide)) rfl (aa_cons (ae_var (pv 3)) (aa_cons ae_int (aa_cons ae_int (aa_cons ae_int aa_nil))))) aa_nil))))))
    (as_one (as_ret (ae_callD h__law_same (hr.mono (by decide)) rfl (aa_cons (ae_var (pv 5)) (aa_cons (ae_tup (aa_cons ae_int (aa_cons ae_non (aa_cons (ae_tup (aa_cons ae_int (aa_cons ae_int aa_nil))) (aa_cons (ae_tup (aa_cons ae_int (aa_cons ae_int aa_nil))) aa_nil))))) aa_nil)))))))))))
end Q82

set_option Elab.async false
set_option linter.all false
set_option maxRecDepth 100000
set_option maxHeartbeats 4000000
namespace Q82
open PySem L2 PySem.Spec PyProof.Rows Zb Nm
abbrev nD (n : Nat) : D := .int (n : Int)
@[simp] theorem pus_nD : ∀ ns : List Nat, pus (ns.map nD) = true
  | [] => rfl
  | n :: ns => by simp [pus_nD ns]
theorem divOk_n {m : Nat} (h1 : 1 ≤ m) (h2 : m < 1048576) : divOk (m : Int) = true := Bd.divOk (by omega) (bd_small (by omega)) (by decide)
theorem divOk_1 {k : Nat} (h : k < 1000000) : divOk ((k : Int) + 1) = true := Bd.divOk (by omega) (bd_small (by omega)) (by decide)
theorem mul_C {n k : Nat} {j : Int} (hn : n ≤ 1000) (hj : j.natAbs < 1048576) : mulOk (C n k) j = true := (bdC n k).mulOk (bd_small hj) (by omega)
/-! ### choices -/
theorem run_choices (n k : Nat) (hn : n ≤ 1000) (hk : k ≤ 1000) : runB 4 den_choices [nD n, nD k] [] = .ok (nD (C n k)) [] := by
  by_cases h : n < k
  · have h' : (n : Int) < (k : Int) := by omega
    simp [den_choices, h, h', C_lt n k h]
  · have h' : ¬ (n : Int) < (k : Int) := by omega
    obtain ⟨m, hm, hm2, hC⟩ : ∃ m : Nat, (if (n : Int) - k < k then (n : Int) - k else (k : Int)) = (m : Int) ∧ m ≤ n ∧ C n m = C n k := by
      by_cases q : (n : Int) - k < k
      · exact ⟨n - k, by rw [if_pos q]; omega, by omega, C_symm n k (by omega)⟩
      · exact ⟨k, by rw [if_neg q], by omega, rfl⟩
    obtain ⟨g', l', e1, e2⟩ := for_inv (it := ⟨rng 0 m, none⟩) (gt := gN 3) (b := b1_choices) (fun i g l => l = [] ∧ i ≤ m ∧ ∃ x, g = [some (nD n), some (nD k), some (nD (C n i)), x]) (fun _ _ _ _ => trivial) (rng 0 m) 0 [some (nD n), some (nD k), some (.int 1), none] [] ⟨rfl, by omega, none, by simp⟩ (by
      rintro j d g l hj ⟨rfl, hi, x, rfl⟩
      obtain ⟨hj, rfl⟩ := rng_get hj
      refine ⟨_, rfl, ?_⟩
      have d1 : divOk ((j : Int) + 1) = true := divOk_1 (by omega)
      have d2 : mulOk (C n j) ((n : Int) - j) = true := mul_C hn (by omega)
      have d3 := C_next n j
      simp [b1_choices, Out.on, d1, d2, d3]
      omega)
    obtain ⟨rfl, _, x, rfl⟩ := e2
    rw [rng_length, Nat.zero_add] at e1
    have hmid : mid (m : Int) = true := by rw [mid_nat]; simp; omega
    simp [den_choices, h, h', hm, hmid, e1, hC]
theorem call_choices (n k : Nat) (hn : n ≤ 1000) (hk : k ≤ 1000) (l : Sto) : m_choices [nD n, nD k] l = .ok (nD (C n k)) l := callM_p (by simp) (run_choices n k hn hk) (by simp)
/-! ### power -/
theorem run_power (b T : Nat) (hb : b ≤ 5) (hT : T ≤ 1000) : runB 4 den_power [nD b, nD T] [] = .ok (nD (b ^ T)) [] := by
  have bd : ∀ e : Nat, Bd ((b : Int) ^ e) (3 * e + 1) := fun e => Bd.pow (by omega) e
  obtain ⟨g', l', e1, e2⟩ := while_inv (c := c1_power) (b := b2_power) (fun t g l => l = [] ∧ ∃ p q : Nat, p + q * t = T ∧ (0 < t → q ≤ T) ∧ g = [some (nD b), some (nD t), some (.int ((b : Int) ^ p)), some (.int ((b : Int) ^ q))])
    (fun g l => l = [] ∧ ∃ x, g = [some (nD b), some (nD 0), some (.int ((b : Int) ^ T)), x]) (by
      rintro t g l ⟨rfl, p, q, h1, h2, rfl⟩
      by_cases h0 : t = 0
      · subst h0
        left
        have : p = T := by omega
        subst this
        exact ⟨by simp [c1_power], rfl, _, rfl⟩
      · right
        have h0' : (0 : Int) < (t : Int) := by omega
        have hq := h2 (by omega)
        have hp : p ≤ T := by omega
        have m1 : mulOk ((b : Int) ^ p) ((b : Int) ^ q) = true := (bd p).mulOk (bd q) (by omega)
        have m2 : mulOk ((b : Int) ^ q) ((b : Int) ^ q) = true := (bd q).mulOk (bd q) (by omega)
        have d2 : divOk 2 = true := by decide
        have hsq : (b : Int) ^ q * (b : Int) ^ q = (b : Int) ^ (q + q) := (Int.pow_add _ _ _).symm
        have hpq : (b : Int) ^ p * (b : Int) ^ q = (b : Int) ^ (p + q) := (Int.pow_add _ _ _).symm
        obtain ⟨t2, ht2, et2⟩ : ∃ t2 : Nat, (t : Int) / 2 = (t2 : Int) ∧ t2 = t / 2 := ⟨t / 2, by omega, rfl⟩
        have hmul : q + q ≤ T ∨ t / 2 = 0 := by
          by_cases z : t / 2 = 0
          · exact .inr z
          · left
            have : q * 2 ≤ q * t := Nat.mul_le_mul_left _ (by omega)
            omega
        refine ⟨by simp [c1_power]; omega, ?_⟩
        rcases Nat.mod_two_eq_zero_or_one t with hm | hm
        · have hf : ¬ (t : Int).fmod 2 = 1 := by rw [Int.fmod_eq_emod_of_nonneg _ (by decide)]; omega
          have e : b2_power [some (nD b), some (nD t), some (.int ((b : Int) ^ p)), some (.int ((b : Int) ^ q))] [] = .nx [some (nD b), some (nD t2), some (.int ((b : Int) ^ p)), some (.int ((b : Int) ^ (q + q)))] [] := by simp [b2_power, hf, m2, d2, hsq, ht2]
          refine ⟨_, _, t2, e, by omega, rfl, p, q + q, ?_, fun z => by omega, rfl⟩
          rw [← h1, Nat.add_mul]
          have : t = t2 + t2 := by omega
          conv => rhs; rw [this, Nat.mul_add]
        · have hf : (t : Int).fmod 2 = 1 := by rw [Int.fmod_eq_emod_of_nonneg _ (by decide)]; omega
          have e : b2_power [some (nD b), some (nD t), some (.int ((b : Int) ^ p)), some (.int ((b : Int) ^ q))] [] = .nx [some (nD b), some (nD t2), some (.int ((b : Int) ^ (p + q))), some (.int ((b : Int) ^ (q + q)))] [] := by simp [b2_power, hf, m1, m2, d2, hsq, hpq, ht2]
          refine ⟨_, _, t2, e, by omega, rfl, p + q, q + q, ?_, fun z => by omega, rfl⟩
          rw [← h1, Nat.add_mul]
          have : t = t2 + t2 + 1 := by omega
          conv => rhs; rw [this, Nat.mul_add, Nat.mul_add]
          omega) fuel T [some (nD b), some (nD T), some (.int 1), some (nD b)] [] (by unfold fuel; omega) ⟨rfl, 0, 1, by omega, fun _ => by omega, by simp [Int.pow_succ]⟩
  obtain ⟨rfl, x, rfl⟩ := e2
  simp [den_power, e1]
theorem call_power (b T : Nat) (hb : b ≤ 5) (hT : T ≤ 1000) (l : Sto) : m_power [nD b, nD T] l = .ok (nD (b ^ T)) l := callM_p (by simp) (run_power b T hb hT) (by simp)
end Q82

set_option Elab.async false
set_option linter.all false
set_option maxRecDepth 100000
set_option maxHeartbeats 4000000
namespace Q82
open PySem L2 PySem.Spec PyProof.Rows Zb Nm
/-! ### dice -/
def wt (d : List Nat) (i : Nat) : Nat := d.getD i 0
def isH (d : List Nat) (i : Nat) : Bool := wt d i == wt d 0
def dieD (d : List Nat) : D := .tup (d.map nD)
def hvL (d : List Nat) : List Nat := (List.range d.length).filter (isH d)
def ltL (d : List Nat) : List Nat := (List.range d.length).filter fun i => !isH d i
def rr (d : List Nat) : Nat := (hvL d).length
def ss (d : List Nat) : Nat := (ltL d).length
def lw (d : List Nat) : Nat := match ltL d with
  | i :: _ => wt d i
  | [] => 1
structure DieOk (d : List Nat) : Prop where
  lo : 2 ≤ d.length
  hi : d.length ≤ 5
  w : ∀ x ∈ d, 1 ≤ x ∧ x ≤ 5
  two : ∃ b, ∀ x ∈ d, x = wt d 0 ∨ x = b
@[simp] theorem pu_die (d : List Nat) : pu (dieD d) = true := by simp [dieD]
theorem wt_mem {d : List Nat} {i : Nat} (h : i < d.length) : wt d i ∈ d := by
  unfold wt
  rw [List.getD_eq_getElem?_getD, List.getElem?_eq_getElem h]
  exact List.getElem_mem h
theorem die_ix {d : List Nat} {i : Nat} (h : i < d.length) : (d.map nD)[i]? = some (nD (wt d i)) := by
  rw [List.getElem?_map, List.getElem?_eq_getElem h]
  simp [wt, List.getD_eq_getElem?_getD, h]
theorem rs_len (d : List Nat) : rr d + ss d = d.length := by
  have key : ∀ (xs : List Nat) (p : Nat → Bool), (xs.filter p).length + (xs.filter fun i => !p i).length = xs.length := by
    intro xs p
    induction xs with
    | nil => rfl
    | cons x xs ih => cases h : p x <;> simp [h] <;> omega
  have := key (List.range d.length) (isH d)
  simpa [rr, ss, hvL, ltL] using this
theorem DieOk.r1 {d : List Nat} (h : DieOk d) : 1 ≤ rr d := by
  have hl := h.lo
  have : 0 ∈ hvL d := List.mem_filter.mpr ⟨List.mem_range.mpr (by omega), by simp [isH]⟩
  exact List.length_pos_of_mem this
theorem DieOk.r5 {d : List Nat} (h : DieOk d) : rr d ≤ 5 := by have := rs_len d; have := h.hi; omega
theorem DieOk.s5 {d : List Nat} (h : DieOk d) : ss d ≤ 5 := by have := rs_len d; have := h.hi; omega
theorem DieOk.wt {d : List Nat} (h : DieOk d) {i : Nat} (hi : i < d.length) : 1 ≤ wt d i ∧ wt d i ≤ 5 := h.w _ (wt_mem hi)
theorem lt_w {d : List Nat} (h : DieOk d) {i : Nat} (hi : i < d.length) (hh : isH d i = false) : wt d i = lw d := by
  obtain ⟨b, hb⟩ := h.two
  have n : ∀ j, j < d.length → isH d j = false → wt d j = b := fun j hj hz => by
    rcases hb _ (wt_mem hj) with q | q
    · simp [isH, q] at hz
    · exact q
  have hm : i ∈ ltL d := List.mem_filter.mpr ⟨List.mem_range.mpr hi, by simp [hh]⟩
  unfold lw
  cases e : ltL d with
  | nil => rw [e] at hm; cases hm
  | cons j js =>
    have hj : j ∈ ltL d := by rw [e]; simp
    obtain ⟨h1, h2⟩ := List.mem_filter.mp hj
    simp only
    rw [n i hi hh, n j (List.mem_range.mp h1) (by simpa using h2)]
theorem lw_ok {d : List Nat} (h : DieOk d) : 1 ≤ lw d ∧ lw d ≤ 5 := by
  unfold lw
  cases e : ltL d with
  | nil => simp
  | cons j js =>
    have hj : j ∈ ltL d := by rw [e]; simp
    exact h.wt (List.mem_range.mp (List.mem_filter.mp hj).1)
theorem enum_die (d : List Nat) : enumF 0 (d.map nD) = (List.range d.length).map fun i => D.tup [nD i, nD (wt d i)] := by
  rw [enumF_eq, List.length_map]
  refine List.map_congr_left fun i hi => ?_
  have := die_ix (List.mem_range.mp hi)
  rw [List.getD_eq_getElem?_getD, this]
  simp
section
variable {d : List Nat}
theorem die_0 (h : 2 ≤ d.length) : (d.map nD)[0]? = some (nD (wt d 0)) := die_ix (by omega)
theorem isH_eq (d : List Nat) (i : Nat) : decide ((wt d i : Int) = (wt d 0 : Int)) = isH d i := by
  unfold isH
  by_cases h : wt d i = wt d 0
  · simp [h]
  · have : ¬ (wt d i : Int) = (wt d 0 : Int) := by omega
    rw [decide_eq_false this]
    exact (beq_false_of_ne h).symm
theorem isH_ne (d : List Nat) (i : Nat) : (!decide ((wt d i : Int) = (wt d 0 : Int))) = !isH d i := by rw [isH_eq]
theorem lc_heavy (h : DieOk d) (l : Sto) (x0 : Option D) : lcL ⟨enumF 0 (d.map nD), none⟩ (gT [1, 2]) q2_heavy_faces e1_heavy_faces [some (dieD d), none, none] (enumF 0 (d.map nD)) l [] = .ok ((hvL d).map nD) l := by
  have h0 := die_0 h.lo
  have hh := h.hi
  conv => lhs; arg 6; rw [enum_die]
  rw [lcL_fmap (by trivial) (fun i => D.tup [nD i, nD (wt d i)]) nD (isH d) _ _ (fun i hi => ?_) (by simp; omega)]
  · rfl
  · refine ⟨[some (dieD d), some (nD i), some (nD (wt d i))], rfl, ?_, fun _ => by simp [e1_heavy_faces]⟩
    simp only [q2_heavy_faces, dieD]
    simp [h0, isH_eq]
theorem lc_light (h : DieOk d) (l : Sto) : lcL ⟨enumF 0 (d.map nD), none⟩ (gT [1, 2]) q2_light_faces e1_light_faces [some (dieD d), none, none] (enumF 0 (d.map nD)) l [] = .ok ((ltL d).map nD) l := by
  have h0 := die_0 h.lo
  have hh := h.hi
  conv => lhs; arg 6; rw [enum_die]
  rw [lcL_fmap (by trivial) (fun i => D.tup [nD i, nD (wt d i)]) nD (fun i => !isH d i) _ _ (fun i hi => ?_) (by simp; omega)]
  · rfl
  · refine ⟨[some (dieD d), some (nD i), some (nD (wt d i))], rfl, ?_, fun _ => by simp [e1_light_faces]⟩
    simp only [q2_light_faces, dieD]
    simp [h0, isH_ne]
theorem call_heavy (h : DieOk d) (l : Sto) : m_heavy_faces [dieD d] l = .ok (.tup ((hvL d).map nD)) l := by
  refine callM_p (junk := [.lst ((hvL d).map nD)]) (by simp) ?_ (by simp)
  have := lc_heavy h [] none
  simp only [dieD] at this ⊢
  simp [den_heavy_faces, this]
theorem call_light (h : DieOk d) (l : Sto) : m_light_faces [dieD d] l = .ok (.tup ((ltL d).map nD)) l := by
  refine callM_p (junk := [.lst ((ltL d).map nD)]) (by simp) ?_ (by simp)
  have := lc_light h []
  simp only [dieD] at this ⊢
  simp [den_light_faces, this]
theorem call_form (h : DieOk d) (l : Sto) : m_die_form [dieD d] l = .ok (.tup [nD (wt d 0), nD (rr d), nD (lw d), nD (ss d)]) l := by
  refine callM_p (junk := []) (by simp) ?_ (by simp)
  have h0 := die_0 h.lo
  have hr := rs_len d
  have e1 : (d.length : Int) - (ss d : Int) = (rr d : Int) := by omega
  have cl := fun l => call_light h l
  simp only [dieD] at cl ⊢
  cases e : ltL d with
  | nil =>
    have es : ss d = 0 := by simp [ss, e]
    have el : lw d = 1 := by simp [lw, e]
    rw [es] at e1
    rw [e] at cl
    simp at e1
    simp [den_die_form, cl, h0, e1, es, el]
  | cons i is =>
    have hi : i < d.length := by
      have : i ∈ ltL d := by rw [e]; simp
      exact List.mem_range.mp (List.mem_filter.mp this).1
    have es : ss d = is.length + 1 := by simp [ss, e]
    have el : lw d = wt d i := by simp [lw, e]
    have hix := die_ix hi
    rw [es] at e1
    rw [e] at cl
    have q0 : (0 : Int) < (is.length : Int) + 1 := by omega
    have e1' : (d.length : Int) - ((is.length : Int) + 1) = (rr d : Int) := by omega
    simp [den_die_form, cl, h0, e1', es, el, q0, hix]
end
end Q82

set_option Elab.async false
set_option linter.all false
set_option maxRecDepth 100000
set_option maxHeartbeats 4000000
namespace Q82
open PySem L2 PySem.Spec PyProof.Rows Zb Nm
theorem call_powerI (b T : Nat) (i : Int) (hi : i = T) (hb : b ≤ 5) (hT : T ≤ 1000) (l : Sto) : m_power [nD b, .int i] l = .ok (.int ((b : Int) ^ T)) l := by
  subst hi
  rw [← Int.natCast_pow]
  exact call_power b T hb hT l
theorem call_choicesI (n k : Nat) (i j : Int) (hi : i = n) (hj : j = k) (hn : n ≤ 1000) (hk : k ≤ 1000) (l : Sto) : m_choices [.int i, .int j] l = .ok (nD (C n k)) l := by
  subst hi; subst hj
  exact call_choices n k hn hk l
theorem bdp (b e : Nat) (hb : b ≤ 5) : Bd ((b : Int) ^ e) (3 * e + 1) := Bd.pow (by omega) e
def sizeN (d : List Nat) (n k : Nat) : Nat := C n k * rr d ^ k * ss d ^ (n - k)
def massN (d : List Nat) (n k : Nat) : Nat := wt d 0 ^ k * lw d ^ (n - k)
section
variable {d : List Nat}
theorem bd_size (h : DieOk d) (n k : Nat) (hk : k ≤ n) : Bd (sizeN d n k : Int) (4 * n + 3 * n + 10) := by
  have h1 := ((bdC n k).mul (bdp (rr d) k h.r5)).mul (bdp (ss d) (n - k) h.s5)
  have e : (sizeN d n k : Int) = (C n k : Int) * (rr d : Int) ^ k * (ss d : Int) ^ (n - k) := by simp [sizeN]
  rw [e]
  exact h1.mono (by omega)
theorem call_size (h : DieOk d) (n k : Nat) (hk : k ≤ n) (hn : n ≤ 400) (l : Sto) : m_kind_size [dieD d, nD n, nD k] l = .ok (nD (sizeN d n k)) l := by
  refine callM_p (junk := []) (by simp) ?_ (by simp)
  have c1 := fun l => call_form h l
  have c2 := fun l => call_choices n k (by omega) (by omega) l
  have c3 := fun l => call_powerI (rr d) k k rfl h.r5 (by omega) l
  have c4 := fun l => call_powerI (ss d) (n - k) ((n : Int) - k) (by omega) h.s5 (by omega) l
  have m1 : mulOk (C n k) ((rr d : Int) ^ k) = true := (bdC n k).mulOk (bdp _ k h.r5) (by omega)
  have m2 : mulOk ((C n k : Int) * (rr d : Int) ^ k) ((ss d : Int) ^ (n - k)) = true := ((bdC n k).mul (bdp _ k h.r5)).mulOk (bdp _ (n - k) h.s5) (by omega)
  simp [den_kind_size, c1, c2, c3, c4, m1, m2, sizeN]
theorem call_kmass (h : DieOk d) (n k : Nat) (hk : k ≤ n) (hn : n ≤ 400) (l : Sto) : m_kind_mass [dieD d, nD n, nD k] l = .ok (nD (massN d n k)) l := by
  refine callM_p (junk := []) (by simp) ?_ (by simp)
  have hl := h.lo
  have w0 := (h.wt (i := 0) (by omega)).2
  have w1 := (lw_ok h).2
  have c1 := fun l => call_form h l
  have c3 := fun l => call_powerI (wt d 0) k k rfl w0 (by omega) l
  have c4 := fun l => call_powerI (lw d) (n - k) ((n : Int) - k) (by omega) w1 (by omega) l
  have m1 : mulOk ((wt d 0 : Int) ^ k) ((lw d : Int) ^ (n - k)) = true := (bdp _ k w0).mulOk (bdp _ (n - k) w1) (by omega)
  simp [den_kind_mass, c1, c3, c4, m1, massN]
/-! ### the law's own -/
theorem run_lpower (b T : Nat) (hb : b ≤ 5) (hT : T ≤ 1000) : runB 4 den__law_power [nD b, nD T] [] = .ok (nD (b ^ T)) [] := by
  obtain ⟨g', l', e1, e2⟩ := for_inv (it := ⟨rng 0 T, none⟩) (gt := gN 3) (b := b1__law_power) (fun i g l => l = [] ∧ i ≤ T ∧ ∃ x, g = [some (nD b), some (nD T), some (.int ((b : Int) ^ i)), x]) (fun _ _ _ _ => trivial) (rng 0 T) 0 [some (nD b), some (nD T), some (.int 1), none] [] ⟨rfl, by omega, none, by simp⟩ (by
    rintro j e g l hj ⟨rfl, hi, x, rfl⟩
    obtain ⟨hj, rfl⟩ := rng_get hj
    refine ⟨_, rfl, ?_⟩
    have d2 : mulOk ((b : Int) ^ j) b = true := (bdp b j hb).mulOk (bd_small (by omega)) (by omega)
    simp [b1__law_power, Out.on, d2, Int.pow_succ]
    omega)
  obtain ⟨rfl, _, x, rfl⟩ := e2
  rw [rng_length, Nat.zero_add] at e1
  have hmid : mid (T : Int) = true := by rw [mid_nat]; simp; omega
  simp [den__law_power, hmid, e1]
theorem call_lpowerI (b T : Nat) (i : Int) (hi : i = T) (hb : b ≤ 5) (hT : T ≤ 1000) (l : Sto) : m__law_power [nD b, .int i] l = .ok (.int ((b : Int) ^ T)) l := by
  subst hi
  rw [← Int.natCast_pow]
  exact callM_p (by simp) (run_lpower b T hb hT) (by simp)
theorem run_lchoose (n k : Nat) (hn : n ≤ 1000) (hk : k ≤ 1000) : runB 4 den__law_choose [nD n, nD k] [] = .ok (nD (C n k)) [] := by
  obtain ⟨g', l', e1, e2⟩ := for_inv (it := ⟨rng 0 k, none⟩) (gt := gN 3) (b := b1__law_choose) (fun i g l => l = [] ∧ i ≤ k ∧ ∃ x, g = [some (nD n), some (nD k), some (nD (C n i)), x]) (fun _ _ _ _ => trivial) (rng 0 k) 0 [some (nD n), some (nD k), some (.int 1), none] [] ⟨rfl, by omega, none, by simp⟩ (by
    rintro j e g l hj ⟨rfl, hi, x, rfl⟩
    obtain ⟨hj, rfl⟩ := rng_get hj
    refine ⟨_, rfl, ?_⟩
    have d1 : divOk ((j : Int) + 1) = true := divOk_1 (by omega)
    have d2 : mulOk (C n j) ((n : Int) - j) = true := mul_C hn (by omega)
    have d3 := C_next n j
    simp [b1__law_choose, Out.on, d1, d2, d3]
    omega)
  obtain ⟨rfl, _, x, rfl⟩ := e2
  rw [rng_length, Nat.zero_add] at e1
  have hmid : mid (k : Int) = true := by rw [mid_nat]; simp; omega
  by_cases q : k ≤ n
  · have q' : (k : Int) ≤ n := by omega
    simp [den__law_choose, hmid, e1, q, q']
  · have q' : ¬ (k : Int) ≤ n := by omega
    simp [den__law_choose, hmid, e1, q, q', C_lt n k (by omega)]
theorem call_lchooseI (n k : Nat) (i j : Int) (hi : i = n) (hj : j = k) (hn : n ≤ 1000) (hk : k ≤ 1000) (l : Sto) : m__law_choose [.int i, .int j] l = .ok (nD (C n k)) l := by
  subst hi; subst hj
  exact callM_p (by simp) (run_lchoose n k hn hk) (by simp)
def lightW (d : List Nat) : List Nat := d.filter fun x => !(x == wt d 0)
theorem range_wt (d : List Nat) : (List.range d.length).map (wt d) = d := by
  apply List.ext_getElem?
  intro i
  rw [List.getElem?_map]
  by_cases hi : i < d.length
  · rw [List.getElem?_range hi, List.getElem?_eq_getElem hi]; simp [wt, List.getD_eq_getElem?_getD, hi]
  · rw [List.getElem?_eq_none (by simp; omega), List.getElem?_eq_none (by omega)]; rfl
theorem lightW_eq (d : List Nat) : lightW d = (ltL d).map (wt d) := by
  conv => lhs; unfold lightW; arg 2; rw [← range_wt d]
  rw [List.filter_map]
  rfl
theorem lc_lform (h : DieOk d) (l : Sto) : lcL ⟨d.map nD, none⟩ (gN 2) q2__law_form e1__law_form [some (dieD d), none, none] (d.map nD) l [] = .ok ((lightW d).map nD) l := by
  have h0 := die_0 h.lo
  have hh := h.hi
  rw [lcL_fmap (by trivial) nD nD (fun x => !(x == wt d 0)) _ _ (fun x hx => ?_) (by simp; omega)]
  · rfl
  · refine ⟨[some (dieD d), none, some (nD x)], rfl, ?_, fun _ => by simp [e1__law_form]⟩
    have e : (!decide ((x : Int) = (wt d 0 : Int))) = !(x == wt d 0) := by
      by_cases q : x = wt d 0
      · simp [q]
      · have : ¬ (x : Int) = (wt d 0 : Int) := by omega
        rw [decide_eq_false this, beq_false_of_ne q]
    simp only [q2__law_form, dieD]
    simp [h0, e]
theorem call_lform (h : DieOk d) (l : Sto) : m__law_form [dieD d] l = .ok (.tup [nD (wt d 0), nD (rr d), nD (lw d), nD (ss d)]) l := by
  refine callM_p (junk := [.lst ((lightW d).map nD)]) (by simp) ?_ (by simp)
  have h0 := die_0 h.lo
  have hr := rs_len d
  have cl := fun l => lc_lform h l
  have el := lightW_eq d
  have e1 : (d.length : Int) - (ss d : Int) = (rr d : Int) := by omega
  simp only [dieD] at cl ⊢
  cases e : ltL d with
  | nil =>
    have es : ss d = 0 := by simp [ss, e]
    have el2 : lw d = 1 := by simp [lw, e]
    rw [e] at el
    simp only [List.map_nil] at el
    rw [el] at cl
    rw [es] at e1
    simp at e1
    simp at cl
    simp [den__law_form, cl, h0, e1, es, el, el2]
  | cons i is =>
    have es : ss d = is.length + 1 := by simp [ss, e]
    have el2 : lw d = wt d i := by simp [lw, e]
    rw [e] at el
    simp only [List.map_cons] at el
    rw [el] at cl
    rw [es] at e1
    have q0 : (0 : Int) < (is.length : Int) + 1 := by omega
    have e1' : (d.length : Int) - ((is.length : Int) + 1) = (rr d : Int) := by omega
    simp at cl
    simp [den__law_form, cl, h0, e1', es, el2, q0, el]
theorem call_lsizeI (h : DieOk d) (n k : Nat) (i j : Int) (hi : i = n) (hj : j = k) (hk : k ≤ n) (hn : n ≤ 400) (l : Sto) : m__law_size [dieD d, .int i, .int j] l = .ok (nD (sizeN d n k)) l := by
  subst hi; subst hj
  refine callM_p (junk := []) (by simp) ?_ (by simp)
  have c1 := fun l => call_lform h l
  have c2 := fun l => call_lchooseI n k n k rfl rfl (by omega) (by omega) l
  have c3 := fun l => call_lpowerI (rr d) k k rfl h.r5 (by omega) l
  have c4 := fun l => call_lpowerI (ss d) (n - k) ((n : Int) - k) (by omega) h.s5 (by omega) l
  have m1 : mulOk (C n k) ((rr d : Int) ^ k) = true := (bdC n k).mulOk (bdp _ k h.r5) (by omega)
  have m2 : mulOk ((C n k : Int) * (rr d : Int) ^ k) ((ss d : Int) ^ (n - k)) = true := ((bdC n k).mul (bdp _ k h.r5)).mulOk (bdp _ (n - k) h.s5) (by omega)
  simp [den__law_size, c1, c2, c3, c4, m1, m2, sizeN]
/-! ### rows -/
def rowD (fs : List Nat) : D := .tup (fs.map nD)
@[simp] theorem pu_row (fs : List Nat) : pu (rowD fs) = true := by simp [rowD]
def massF (d : List Nat) (fs : List Nat) : Nat := (fs.map (wt d)).foldl (· * ·) 1
def kindF (d : List Nat) (fs : List Nat) : Nat := (fs.filter (isH d)).length
def RowOk (d : List Nat) (fs : List Nat) : Prop := (∀ f ∈ fs, f < d.length) ∧ fs.length ≤ 400
theorem mass_snoc (d fs : List Nat) (f : Nat) : massF d (fs ++ [f]) = massF d fs * wt d f := by simp [massF]
theorem mass_le (h : DieOk d) : ∀ fs : List Nat, (∀ f ∈ fs, f < d.length) → massF d fs < 2 ^ (3 * fs.length + 1) := by
  have key : ∀ (fs : List Nat) (a e : Nat), (∀ f ∈ fs, f < d.length) → a < 2 ^ e → (fs.map (wt d)).foldl (· * ·) a < 2 ^ (3 * fs.length + e) := by
    intro fs
    induction fs with
    | nil => intro a e _ ha; simpa using ha
    | cons f fs ih =>
      intro a e hf ha
      have w := h.wt (hf f (by simp))
      have : a * wt d f < 2 ^ (e + 3) := by
        rw [Nat.pow_add]
        have : a * wt d f ≤ a * 5 := Nat.mul_le_mul_left _ w.2
        omega
      have := ih (a * wt d f) (e + 3) (fun g hg => hf g (by simp [hg])) this
      simp only [List.map_cons, List.foldl_cons, List.length_cons]
      rw [show 3 * (fs.length + 1) + e = 3 * fs.length + (e + 3) by omega]
      exact this
  intro fs hf
  exact key fs 1 1 hf (by decide)
theorem lc_kind (h : DieOk d) {fs : List Nat} (hf : RowOk d fs) (l : Sto) : lcL ⟨fs.map nD, none⟩ (gN 2) q2_row_kind e1_row_kind [some (dieD d), some (rowD fs), none] (fs.map nD) l [] = .ok ((fs.filter (isH d)).map nD) l := by
  have h0 := die_0 h.lo
  rw [lcL_fmap (by trivial) nD nD (isH d) _ _ (fun x hx => ?_) (by have := hf.2; simp; omega)]
  · rfl
  · refine ⟨[some (dieD d), some (rowD fs), some (nD x)], rfl, ?_, fun _ => by simp [e1_row_kind]⟩
    have hx2 := die_ix (hf.1 x hx)
    simp only [q2_row_kind, dieD]
    simp [h0, hx2, isH_eq]
theorem lc_lkind (h : DieOk d) {fs : List Nat} (hf : RowOk d fs) (l : Sto) : lcL ⟨fs.map nD, none⟩ (gN 2) q2__law_kind e1__law_kind [some (dieD d), some (rowD fs), none] (fs.map nD) l [] = .ok ((fs.filter (isH d)).map nD) l := lc_kind h hf l
theorem call_rkind (h : DieOk d) {fs : List Nat} (hf : RowOk d fs) (l : Sto) : m_row_kind [dieD d, rowD fs] l = .ok (nD (kindF d fs)) l := by
  refine callM_p (junk := [.lst ((fs.filter (isH d)).map nD)]) (by simp) ?_ (by simp)
  have cl := fun l => lc_kind h hf l
  simp only [dieD, rowD] at cl ⊢
  simp [den_row_kind, cl, kindF]
theorem call_lkind (h : DieOk d) {fs : List Nat} (hf : RowOk d fs) (l : Sto) : m__law_kind [dieD d, rowD fs] l = .ok (nD (kindF d fs)) l := call_rkind h hf l
theorem mass_loop (h : DieOk d) {fs : List Nat} (hf : RowOk d fs) : ∃ x, sForL ⟨fs.map nD, none⟩ (gN 3) b1_row_mass (fs.map nD) [some (dieD d), some (rowD fs), some (.int 1), none] [] = .nx [some (dieD d), some (rowD fs), some (nD (massF d fs)), x] [] := by
  obtain ⟨g', l', e1, e2⟩ := for_inv (it := ⟨fs.map nD, none⟩) (gt := gN 3) (b := b1_row_mass) (fun i g l => l = [] ∧ ∃ x, g = [some (dieD d), some (rowD fs), some (nD (massF d (fs.take i))), x]) (fun _ _ _ _ => trivial) (fs.map nD) 0 [some (dieD d), some (rowD fs), some (.int 1), none] [] ⟨rfl, none, by simp [massF]⟩ (by
    rintro j e g l hj ⟨rfl, x, rfl⟩
    rw [List.getElem?_map] at hj
    cases q : fs[j]? with
    | none => rw [q] at hj; cases hj
    | some f =>
      rw [q] at hj
      cases hj
      have hfm := hf.1 f (List.mem_of_getElem? q)
      have hx2 := die_ix hfm
      refine ⟨_, rfl, ?_⟩
      rw [Nat.zero_add, List.take_add_one, q]
      have hb := mass_le h (fs.take j) fun f hf2 => hf.1 f (List.mem_of_mem_take hf2)
      have hlen : (fs.take j).length ≤ 400 := Nat.le_trans (by simp; omega) hf.2
      have m1 : mulOk (massF d (fs.take j)) (wt d f) = true := (Bd.nat hb).mulOk (bd_small (by have := (h.wt hfm).2; omega)) (by omega)
      simp only [b1_row_mass, dieD]
      simp [hx2, m1, Out.on, mass_snoc])
  obtain ⟨rfl, x, rfl⟩ := e2
  rw [Nat.zero_add, List.length_map, List.take_length] at e1
  exact ⟨x, e1⟩
theorem call_mass (h : DieOk d) {fs : List Nat} (hf : RowOk d fs) (l : Sto) : m_row_mass [dieD d, rowD fs] l = .ok (nD (massF d fs)) l := by
  refine callM_p (junk := []) (by simp) ?_ (by simp)
  obtain ⟨x, e⟩ := mass_loop h hf
  simp only [dieD, rowD] at e ⊢
  simp [den_row_mass, e]
theorem call_lmass (h : DieOk d) {fs : List Nat} (hf : RowOk d fs) (l : Sto) : m__law_mass [dieD d, rowD fs] l = .ok (nD (massF d fs)) l := call_mass h hf l
end
end Q82

set_option Elab.async false
set_option linter.all false
set_option maxRecDepth 100000
set_option maxHeartbeats 1000000
namespace Q82
open Nm
/-! ### numbers of rows: plain -/
def rank (d : List Nat) (f : Nat) : Nat := ((List.range f).filter fun o => wt d o == wt d f).length
abbrev S4 := Nat × Nat × Nat × Nat
def step (d : List Nat) (t : S4) (f : Nat) : S4 := if isH d f then (t.1 + 1, t.2.1 + 1, t.2.2.1 + C t.1 (t.2.1 + 1), t.2.2.2 * rr d + rank d f) else (t.1 + 1, t.2.1, t.2.2.1, t.2.2.2 * ss d + rank d f)
def enc (d : List Nat) (fs : List Nat) : S4 := fs.foldl (step d) (0, 0, 0, 0)
theorem enc_snoc (d fs : List Nat) (f : Nat) : enc d (fs ++ [f]) = step d (enc d fs) f := by simp [enc]
theorem kind_snoc (d fs : List Nat) (f : Nat) : kindF d (fs ++ [f]) = kindF d fs + (if isH d f then 1 else 0) := by
  unfold kindF
  rw [List.filter_append, List.length_append]
  cases h : isH d f <;> simp [h]
theorem snoc_ind {α : Type} {P : List α → Prop} (h0 : P []) (h1 : ∀ xs x, P xs → P (xs ++ [x])) : ∀ xs, P xs := by
  intro xs
  have : ∀ n (xs : List α), xs.length = n → P xs := by
    intro n
    induction n with
    | zero => intro xs h; rw [List.eq_nil_of_length_eq_zero h]; exact h0
    | succ n ih =>
      intro xs h
      rcases List.eq_nil_or_concat xs with rfl | ⟨ys, y, rfl⟩
      · simp at h
      · rw [List.concat_eq_append] at h ⊢
        exact h1 ys y (ih ys (by simpa using h))
  exact this _ xs rfl
theorem enc_nk (d : List Nat) : ∀ fs, (enc d fs).1 = fs.length ∧ (enc d fs).2.1 = kindF d fs := by
  refine snoc_ind ⟨rfl, rfl⟩ fun fs f ih => ?_
  rw [enc_snoc, kind_snoc]
  unfold step
  cases h : isH d f <;> simp [ih]
theorem kind_le (d fs : List Nat) : kindF d fs ≤ fs.length := List.length_filter_le _ _
/-! ranks -/
theorem filt_get (p : Nat → Bool) {i n : Nat} (hi : i < n) (hp : p i = true) : ((List.range n).filter p)[((List.range i).filter p).length]? = some i := by
  obtain ⟨m, rfl⟩ : ∃ m, n = i + (m + 1) := ⟨n - i - 1, by omega⟩
  have e : List.range (i + (m + 1)) = List.range i ++ i :: List.range' (i + 1) m := by
    rw [List.range_eq_range', List.range_eq_range', ← List.range'_append_1, List.range'_succ]
    simp
  rw [e, List.filter_append, List.filter_cons_of_pos (by exact hp), List.getElem?_append_right (Nat.le_refl _), Nat.sub_self]
  rfl
theorem rank_h {d : List Nat} {f : Nat} (hh : isH d f = true) : rank d f = ((List.range f).filter (isH d)).length := by
  unfold rank
  congr 1
  apply List.filter_congr
  intro o _
  have : wt d f = wt d 0 := by simpa [isH] using hh
  simp [isH, this]
theorem rank_l {d : List Nat} (ok : DieOk d) {f : Nat} (hf : f < d.length) (hh : isH d f = false) : rank d f = ((List.range f).filter fun o => !isH d o).length := by
  unfold rank
  congr 1
  apply List.filter_congr
  intro o ho
  have hol : o < d.length := Nat.lt_trans (List.mem_range.mp ho) hf
  have e1 := lt_w ok hf hh
  have hne : wt d f ≠ wt d 0 := by simpa [isH] using hh
  cases q : isH d o with
  | true =>
    have : wt d o = wt d 0 := by simpa [isH] using q
    simp [this]
    exact fun z => hne z.symm
  | false =>
    have e2 := lt_w ok hol q
    simp [e1, e2]
theorem hv_rank {d : List Nat} {f : Nat} (hf : f < d.length) (hh : isH d f = true) : (hvL d)[rank d f]? = some f := by
  rw [rank_h hh]
  exact filt_get (isH d) hf hh
theorem lt_rank {d : List Nat} (ok : DieOk d) {f : Nat} (hf : f < d.length) (hh : isH d f = false) : (ltL d)[rank d f]? = some f := by
  rw [rank_l ok hf hh]
  exact filt_get (fun o => !isH d o) hf (by simp [hh])
theorem rank_lt_r {d : List Nat} {f : Nat} (hf : f < d.length) (hh : isH d f = true) : rank d f < rr d := (List.getElem?_eq_some_iff.mp (hv_rank hf hh)).1
theorem rank_lt_s {d : List Nat} (ok : DieOk d) {f : Nat} (hf : f < d.length) (hh : isH d f = false) : rank d f < ss d := (List.getElem?_eq_some_iff.mp (lt_rank ok hf hh)).1
theorem nodup_get {xs : List Nat} (h : xs.Nodup) {i j x : Nat} (hi : xs[i]? = some x) (hj : xs[j]? = some x) : i = j := by
  obtain ⟨b1, e1⟩ := List.getElem?_eq_some_iff.mp hi
  obtain ⟨b2, e2⟩ := List.getElem?_eq_some_iff.mp hj
  exact (List.getElem_inj h).mp (e1.trans e2.symm)
theorem hv_nodup (d : List Nat) : (hvL d).Nodup := List.Pairwise.filter _ List.nodup_range
theorem lt_nodup (d : List Nat) : (ltL d).Nodup := List.Pairwise.filter _ List.nodup_range
theorem hv_at {d : List Nat} {j : Nat} (hj : j < rr d) : ∃ f, (hvL d)[j]? = some f ∧ f < d.length ∧ isH d f = true ∧ rank d f = j := by
  have e := List.getElem?_eq_getElem (l := hvL d) hj
  have hm := List.mem_filter.mp (List.mem_of_getElem? e)
  have h1 := List.mem_range.mp hm.1
  refine ⟨_, e, h1, hm.2, ?_⟩
  exact nodup_get (hv_nodup d) (hv_rank h1 hm.2) e
theorem lt_at {d : List Nat} (ok : DieOk d) {j : Nat} (hj : j < ss d) : ∃ f, (ltL d)[j]? = some f ∧ f < d.length ∧ isH d f = false ∧ rank d f = j := by
  have e := List.getElem?_eq_getElem (l := ltL d) hj
  have hm := List.mem_filter.mp (List.mem_of_getElem? e)
  have h1 := List.mem_range.mp hm.1
  have h2 : isH d (ltL d)[j] = false := by simpa using hm.2
  refine ⟨_, e, h1, h2, ?_⟩
  exact nodup_get (lt_nodup d) (lt_rank ok h1 h2) e
/-! what is well told -/
def W (d : List Nat) (n k : Nat) : Nat := rr d ^ k * ss d ^ (n - k)
structure Val (d : List Nat) (n k P L : Nat) : Prop where
  p : P < C n k
  l : L < W d n k
theorem Val.kn {d : List Nat} {n k P L : Nat} (h : Val d n k P L) : k ≤ n := by
  have := h.p
  by_cases q : k ≤ n
  · exact q
  · rw [C_lt n k (by omega)] at this; omega
theorem mul_lt {L r W q : Nat} (hL : L < W) (hq : q < r) : L * r + q < W * r := by
  have : (L + 1) * r ≤ W * r := Nat.mul_le_mul_right _ hL
  rw [Nat.add_mul] at this
  omega
theorem W_h (d : List Nat) (n k : Nat) : W d (n + 1) (k + 1) = W d n k * rr d := by
  unfold W
  rw [Nat.pow_succ, show n + 1 - (k + 1) = n - k by omega, Nat.mul_assoc, Nat.mul_comm (rr d), ← Nat.mul_assoc]
theorem W_l (d : List Nat) (n k : Nat) (h : k ≤ n) : W d (n + 1) k = W d n k * ss d := by
  unfold W
  rw [show n + 1 - k = n - k + 1 by omega, Nat.pow_succ, Nat.mul_assoc]
theorem enc_val {d : List Nat} (ok : DieOk d) : ∀ fs, (∀ f ∈ fs, f < d.length) → Val d fs.length (kindF d fs) (enc d fs).2.2.1 (enc d fs).2.2.2 := by
  refine snoc_ind (fun _ => ⟨by simp [enc, kindF], by simp [enc, kindF, W]⟩) fun fs f ih hf => ?_
  have hv := ih fun g hg => hf g (by simp [hg])
  have hfl := hf f (by simp)
  have kn := hv.kn
  obtain ⟨n1, n2⟩ := enc_nk d fs
  rw [enc_snoc, kind_snoc, List.length_append]
  unfold step
  rw [n1, n2]
  cases hh : isH d f with
  | true =>
    simp only [if_true, List.length_singleton]
    refine ⟨?_, ?_⟩
    · rw [C_s]; have := hv.p; omega
    · rw [W_h]; exact mul_lt hv.l (rank_lt_r hfl hh)
  | false =>
    simp only [Bool.false_eq_true, if_false, List.length_singleton, Nat.add_zero]
    refine ⟨?_, ?_⟩
    · cases h0 : kindF d fs with
      | zero => have := hv.p; rw [h0] at this; simpa using this
      | succ k => rw [C_s]; have := hv.p; rw [h0] at this; omega
    · rw [W_l d _ _ kn]; exact mul_lt hv.l (rank_lt_s ok hfl hh)
/-! from behind -/
def dec (d : List Nat) : Nat → Nat → Nat → Nat → List Nat
  | 0, _, _, _ => []
  | n + 1, k, P, L => if 0 < k ∧ C n k ≤ P then dec d n (k - 1) (P - C n k) (L / rr d) ++ [(hvL d).getD (L % rr d) 0] else dec d n k P (L / ss d) ++ [(ltL d).getD (L % ss d) 0]
theorem div_mul_add {a b c : Nat} (h : c < b) : (a * b + c) / b = a ∧ (a * b + c) % b = c := by
  have hb : 0 < b := by omega
  constructor
  · rw [Nat.mul_comm, Nat.mul_add_div hb, Nat.div_eq_of_lt h]; rfl
  · rw [Nat.mul_comm, Nat.mul_add_mod, Nat.mod_eq_of_lt h]
theorem dec_enc {d : List Nat} (ok : DieOk d) : ∀ fs, (∀ f ∈ fs, f < d.length) → dec d fs.length (kindF d fs) (enc d fs).2.2.1 (enc d fs).2.2.2 = fs := by
  refine snoc_ind (fun _ => rfl) fun fs f ih hf => ?_
  have hf' : ∀ g ∈ fs, g < d.length := fun g hg => hf g (by simp [hg])
  have hfl := hf f (by simp)
  have hv := enc_val ok fs hf'
  obtain ⟨n1, n2⟩ := enc_nk d fs
  rw [enc_snoc, kind_snoc, List.length_append]
  unfold step
  rw [n1, n2]
  cases hh : isH d f with
  | true =>
    simp only [if_true, List.length_singleton, dec]
    have e1 : 0 < kindF d fs + 1 ∧ C fs.length (kindF d fs + 1) ≤ (enc d fs).2.2.1 + C fs.length (kindF d fs + 1) := ⟨by omega, by omega⟩
    rw [if_pos e1]
    obtain ⟨q1, q2⟩ := div_mul_add (a := (enc d fs).2.2.2) (rank_lt_r hfl hh)
    rw [q1, q2, Nat.add_sub_cancel, Nat.add_sub_cancel, ih hf', List.getD_eq_getElem?_getD, hv_rank hfl hh]
    rfl
  | false =>
    simp only [Bool.false_eq_true, if_false, List.length_singleton, Nat.add_zero, dec]
    have e1 : ¬ (0 < kindF d fs ∧ C fs.length (kindF d fs) ≤ (enc d fs).2.2.1) := by have := hv.p; omega
    rw [if_neg e1]
    obtain ⟨q1, q2⟩ := div_mul_add (a := (enc d fs).2.2.2) (rank_lt_s ok hfl hh)
    rw [q1, q2, ih hf', List.getD_eq_getElem?_getD, lt_rank ok hfl hh]
    rfl
theorem enc_dec {d : List Nat} (ok : DieOk d) : ∀ n k P L, Val d n k P L → enc d (dec d n k P L) = (n, k, P, L) ∧ (∀ f ∈ dec d n k P L, f < d.length) ∧ (dec d n k P L).length = n
  | 0, k, P, L, h => by
    have hk : k = 0 := by have := h.kn; omega
    subst hk
    have h1 := h.p
    have h2 := h.l
    simp [W] at h1 h2
    subst h1
    subst h2
    exact ⟨rfl, by simp [dec], rfl⟩
  | n + 1, k, P, L, h => by
    have hr := ok.r1
    by_cases c : 0 < k ∧ C n k ≤ P
    · obtain ⟨k, rfl⟩ : ∃ j, k = j + 1 := ⟨k - 1, by omega⟩
      have hp := h.p
      have hl := h.l
      rw [C_s] at hp
      rw [W_h] at hl
      have hv : Val d n k (P - C n (k + 1)) (L / rr d) := ⟨by omega, Nat.div_lt_of_lt_mul (by rw [Nat.mul_comm]; exact hl)⟩
      obtain ⟨e1, e2, e3⟩ := enc_dec ok n k _ _ hv
      obtain ⟨f, f1, f2, f3, f4⟩ := hv_at (d := d) (j := L % rr d) (Nat.mod_lt _ (by omega))
      simp only [dec, if_pos c, Nat.add_sub_cancel]
      rw [List.getD_eq_getElem?_getD, f1, Option.getD_some, enc_snoc, e1]
      refine ⟨?_, ?_, by simp [e3]⟩
      · unfold step
        rw [if_pos f3, f4]
        simp only
        rw [Nat.sub_add_cancel c.2, Nat.mul_comm (L / rr d), Nat.div_add_mod]
      · intro g hg
        rcases List.mem_append.mp hg with hg | hg
        · exact e2 g hg
        · simp at hg; subst hg; exact f2
    · have hp := h.p
      have hl := h.l
      have kn := h.kn
      have hpn : P < C n k := by
        by_cases h0 : k = 0
        · subst h0; simpa using hp
        · omega
      have kn2 : k ≤ n := by
        by_cases q : k ≤ n
        · exact q
        · rw [C_lt n k (by omega)] at hpn; omega
      rw [W_l d n k kn2] at hl
      have hs : 0 < ss d := by
        rcases Nat.eq_zero_or_pos (ss d) with z | z
        · rw [z] at hl; omega
        · exact z
      have hv : Val d n k P (L / ss d) := ⟨hpn, Nat.div_lt_of_lt_mul (by rw [Nat.mul_comm]; exact hl)⟩
      obtain ⟨e1, e2, e3⟩ := enc_dec ok n k _ _ hv
      obtain ⟨f, f1, f2, f3, f4⟩ := lt_at ok (j := L % ss d) (Nat.mod_lt _ hs)
      simp only [dec, if_neg c]
      rw [List.getD_eq_getElem?_getD, f1, Option.getD_some, enc_snoc, e1]
      refine ⟨?_, ?_, by simp [e3]⟩
      · unfold step
        rw [if_neg (by rw [f3]; simp), f4]
        simp only
        rw [Nat.mul_comm (L / ss d), Nat.div_add_mod]
      · intro g hg
        rcases List.mem_append.mp hg with hg | hg
        · exact e2 g hg
        · simp at hg; subst hg; exact f2
/-! numbers -/
def numN (d fs : List Nat) : Nat := (enc d fs).2.2.1 * W d fs.length (kindF d fs) + (enc d fs).2.2.2
def rowN (d : List Nat) (n k x : Nat) : List Nat := dec d n k (x / W d n k) (x % W d n k)
theorem size_W (d : List Nat) (n k : Nat) : sizeN d n k = C n k * W d n k := by unfold sizeN W; rw [Nat.mul_assoc]
theorem num_lt {d : List Nat} (ok : DieOk d) (fs : List Nat) (hf : ∀ f ∈ fs, f < d.length) : numN d fs < sizeN d fs.length (kindF d fs) := by
  have h := enc_val ok fs hf
  rw [size_W]
  exact mul_lt h.p h.l
theorem row_num {d : List Nat} (ok : DieOk d) (fs : List Nat) (hf : ∀ f ∈ fs, f < d.length) : rowN d fs.length (kindF d fs) (numN d fs) = fs := by
  have h := enc_val ok fs hf
  unfold rowN numN
  obtain ⟨q1, q2⟩ := div_mul_add (a := (enc d fs).2.2.1) h.l
  rw [q1, q2]
  exact dec_enc ok fs hf
theorem val_of {d : List Nat} {n k x : Nat} (h : x < sizeN d n k) : Val d n k (x / W d n k) (x % W d n k) := by
  rw [size_W] at h
  have hW : 0 < W d n k := by
    rcases Nat.eq_zero_or_pos (W d n k) with z | z
    · rw [z] at h; omega
    · exact z
  exact ⟨Nat.div_lt_of_lt_mul (by rw [Nat.mul_comm]; exact h), Nat.mod_lt _ hW⟩
theorem num_row {d : List Nat} (ok : DieOk d) {n k x : Nat} (h : x < sizeN d n k) : numN d (rowN d n k x) = x ∧ (∀ f ∈ rowN d n k x, f < d.length) ∧ (rowN d n k x).length = n ∧ kindF d (rowN d n k x) = k := by
  obtain ⟨e1, e2, e3⟩ := enc_dec ok n k _ _ (val_of h)
  have e4 : kindF d (rowN d n k x) = k := by
    have := (enc_nk d (rowN d n k x)).2
    unfold rowN at this ⊢
    rw [e1] at this
    exact this.symm
  refine ⟨?_, e2, e3, e4⟩
  unfold numN
  rw [e4]
  unfold rowN
  rw [e1, e3]
  simp only
  rw [Nat.mul_comm, Nat.div_add_mod]
end Q82

set_option Elab.async false
set_option linter.all false
set_option maxRecDepth 100000
set_option maxHeartbeats 4000000
namespace Q82
open PySem L2 PySem.Spec PyProof.Rows Zb Nm
section
variable {d : List Nat}
/-! ### the numbers of rows: runs -/
theorem call_isH (h : DieOk d) {f : Nat} (hf : f < d.length) (l : Sto) : m_is_heavy [dieD d, nD f] l = .ok (.bl (isH d f)) l := by
  refine callM_p (junk := []) (by simp) ?_ (by simp)
  have h0 := die_0 h.lo
  have hx := die_ix hf
  simp only [dieD]
  simp [den_is_heavy, h0, hx, isH_eq]
theorem lc_place (h : DieOk d) {f : Nat} (hf : f < d.length) (l : Sto) : lcL ⟨rng 0 f, none⟩ (gN 2) q2_face_place e1_face_place [some (dieD d), some (nD f), none] (rng 0 f) l [] = .ok (((List.range f).filter fun o => wt d o == wt d f).map nD) l := by
  have hh := h.hi
  conv => lhs; arg 6; rw [rng_eq]
  rw [lcL_fmap (by trivial) (fun i => nD i) nD (fun o => wt d o == wt d f) _ _ (fun o ho => ?_) (by simp; omega)]
  · rfl
  · have ho' := List.mem_range.mp ho
    have hx := die_ix hf
    have ho2 := die_ix (d := d) (i := o) (by omega)
    refine ⟨[some (dieD d), some (nD f), some (nD o)], rfl, ?_, fun _ => by simp [e1_face_place]⟩
    have e : decide ((wt d o : Int) = (wt d f : Int)) = (wt d o == wt d f) := by
      by_cases q : wt d o = wt d f
      · simp [q]
      · have : ¬ (wt d o : Int) = (wt d f : Int) := by omega
        rw [decide_eq_false this, beq_false_of_ne q]
    simp only [q2_face_place, dieD]
    simp [hx, ho2, e]
theorem call_place (h : DieOk d) {f : Nat} (hf : f < d.length) (l : Sto) : m_face_place [dieD d, nD f] l = .ok (nD (rank d f)) l := by
  refine callM_p (junk := [.lst (((List.range f).filter fun o => wt d o == wt d f).map nD)]) (by simp) ?_ (by simp)
  have cl := fun l => lc_place h hf l
  have hh := h.hi
  have hm : mid (f : Int) = true := by rw [mid_nat]; simp; omega
  simp only [dieD] at cl ⊢
  simp [den_face_place, cl, hm, rank]
theorem bdW (h : DieOk d) (n k : Nat) (hk : k ≤ n) : Bd (W d n k : Int) (3 * n + 2) := by
  have := (bdp (rr d) k h.r5).mul (bdp (ss d) (n - k) h.s5)
  have e : (W d n k : Int) = (rr d : Int) ^ k * (ss d : Int) ^ (n - k) := by simp [W]
  rw [e]
  exact this.mono (by omega)
theorem bd_lt {x y a : Nat} (h : x < y) (k : Bd (y : Int) a) : Bd (x : Int) a := by
  unfold Bd at *
  rw [Int.natAbs_natCast] at *
  omega
theorem take_snoc {α : Type} {xs : List α} {j : Nat} {x : α} (h : xs[j]? = some x) : xs.take (j + 1) = xs.take j ++ [x] := by rw [List.take_add_one, h]; rfl
theorem enum_row (fs : List Nat) : enumF 0 (fs.map nD) = (List.range fs.length).map fun i => D.tup [nD i, nD (fs.getD i 0)] := by
  rw [enumF_eq, List.length_map]
  refine List.map_congr_left fun i hi => ?_
  have := List.mem_range.mp hi
  rw [List.getD_eq_getElem?_getD, List.getElem?_map, List.getElem?_eq_getElem this]
  simp [List.getD_eq_getElem?_getD, this]
theorem enum_get {fs : List Nat} {j : Nat} {e : D} (h : (enumF 0 (fs.map nD))[j]? = some e) : ∃ f, fs[j]? = some f ∧ e = .tup [nD j, nD f] := by
  rw [enumF_get, List.getElem?_map] at h
  cases q : fs[j]? with
  | none => rw [q] at h; cases h
  | some f =>
    rw [q] at h
    simp at h
    exact ⟨f, rfl, h.symm⟩
structure Pre (d fs : List Nat) (k P L : Nat) : Prop where
  e : enc d fs = (fs.length, k, P, L)
  v : Val d fs.length k P L
theorem pre_of (h : DieOk d) (fs : List Nat) (hf : ∀ f ∈ fs, f < d.length) : ∃ k P L, Pre d fs k P L := by
  obtain ⟨n1, n2⟩ := enc_nk d fs
  refine ⟨kindF d fs, (enc d fs).2.2.1, (enc d fs).2.2.2, ?_, enc_val h fs hf⟩
  rw [← n1, ← n2]
theorem num_pre {fs : List Nat} {k P L : Nat} (p : Pre d fs k P L) : numN d fs = P * W d fs.length k + L ∧ kindF d fs = k := by
  have hk : kindF d fs = k := by rw [← (enc_nk d fs).2, p.e]
  exact ⟨by unfold numN; rw [hk, p.e], hk⟩
theorem loop_num (h : DieOk d) {fs : List Nat} (hf : RowOk d fs) : ∃ k P L x y, Pre d fs k P L ∧ sForL ⟨enumF 0 (fs.map nD), none⟩ (gT [9, 10]) b1_row_number (enumF 0 (fs.map nD)) [some (dieD d), some (rowD fs), some (nD (wt d 0)), some (nD (rr d)), some (nD (lw d)), some (nD (ss d)), some (.int 0), some (.int 0), some (.int 0), none, none] [] =
    .nx [some (dieD d), some (rowD fs), some (nD (wt d 0)), some (nD (rr d)), some (nD (lw d)), some (nD (ss d)), some (nD k), some (nD P), some (nD L), x, y] [] := by
  have hr5 := h.r5
  have hs5 := h.s5
  obtain ⟨g', l', e1, e2⟩ := for_inv (it := ⟨enumF 0 (fs.map nD), none⟩) (gt := gT [9, 10]) (b := b1_row_number) (fun i g l => l = [] ∧ ∃ k P L x y, Pre d (fs.take i) k P L ∧ g = [some (dieD d), some (rowD fs), some (nD (wt d 0)), some (nD (rr d)), some (nD (lw d)), some (nD (ss d)), some (nD k), some (nD P), some (nD L), x, y])
    (fun _ _ _ _ => trivial) (enumF 0 (fs.map nD)) 0 [some (dieD d), some (rowD fs), some (nD (wt d 0)), some (nD (rr d)), some (nD (lw d)), some (nD (ss d)), some (.int 0), some (.int 0), some (.int 0), none, none] [] ⟨rfl, 0, 0, 0, none, none, ⟨by simp [enc], ⟨by simp, by simp [W]⟩⟩, rfl⟩ (by
      rintro j e g l hj ⟨rfl, k, P, L, x, y, hp, rfl⟩
      obtain ⟨f, hj2, he⟩ := enum_get hj
      subst he
      clear hj
      have hj := hj2
      rw [Nat.zero_add] at hp ⊢
      have hfm := hf.1 f (List.mem_of_getElem? hj)
      have hjl : j < fs.length := (List.getElem?_eq_some_iff.mp hj).1
      have h4 := hf.2
      have tl : (fs.take j).length = j := by simp; omega
      have kn := hp.v.kn
      rw [tl] at kn
      have c1 := fun l => call_isH h hfm l
      have c2 := fun l => call_choicesI j (k + 1) j ((k : Int) + 1) rfl (by omega) (by omega) (by omega) l
      have c3 := fun l => call_place h hfm l
      have bL : Bd (L : Int) 2000 := by
        have := bd_lt hp.v.l (bdW h _ _ hp.v.kn)
        exact this.mono (by rw [tl]; omega)
      have m1 : mulOk (L : Int) (rr d) = true := bL.mulOk (bd_small (by omega)) (by omega)
      have m2 : mulOk (L : Int) (ss d) = true := bL.mulOk (bd_small (by omega)) (by omega)
      have sn := take_snoc hj
      have hfs : ∀ g ∈ fs.take (j + 1), g < d.length := fun g hg => hf.1 g (List.mem_of_mem_take hg)
      have ev := enc_val h _ hfs
      refine ⟨_, rfl, ?_⟩
      cases hh : isH d f with
      | true =>
        have e : enc d (fs.take (j + 1)) = (j + 1, k + 1, P + C j (k + 1), L * rr d + rank d f) := by rw [sn, enc_snoc, hp.e]; unfold step; rw [if_pos hh, tl]
        simp only [b1_row_number, dieD] at c1 c3 ⊢
        rw [hh] at c1
        simp [c1, c2, c3, m1, Out.on]
        refine ⟨k + 1, P + C j (k + 1), L * rr d + rank d f, ⟨?_, ?_⟩, by simp, by simp, by simp⟩
        · rw [e]; simp; omega
        · have n2 := (enc_nk d (fs.take (j + 1))).2
          rw [← n2, e] at ev
          exact ev
      | false =>
        have e : enc d (fs.take (j + 1)) = (j + 1, k, P, L * ss d + rank d f) := by rw [sn, enc_snoc, hp.e]; unfold step; rw [if_neg (by rw [hh]; simp), tl]
        simp only [b1_row_number, dieD] at c1 c3 ⊢
        rw [hh] at c1
        simp [c1, c2, c3, m2, Out.on]
        refine ⟨k, P, L * ss d + rank d f, ⟨?_, ?_⟩, by simp, by simp, by simp⟩
        · rw [e]; simp; omega
        · have n2 := (enc_nk d (fs.take (j + 1))).2
          rw [← n2, e] at ev
          exact ev)
  obtain ⟨rfl, k, P, L, x, y, hp, rfl⟩ := e2
  rw [enumF_len, List.length_map, Nat.zero_add, List.take_length] at hp
  exact ⟨k, P, L, x, y, hp, e1⟩
theorem call_num (h : DieOk d) {fs : List Nat} (hf : RowOk d fs) (l : Sto) : m_row_number [dieD d, rowD fs] l = .ok (nD (numN d fs)) l := by
  refine callM_p (junk := []) (by simp) ?_ (by simp)
  obtain ⟨k, P, L, x, y, hp, e⟩ := loop_num h hf
  obtain ⟨q1, q2⟩ := num_pre hp
  have h4 := hf.2
  have kn := hp.v.kn
  have c1 := fun l => call_form h l
  have c3 := fun l => call_powerI (rr d) k k rfl h.r5 (by omega) l
  have c4 := fun l => call_powerI (ss d) (fs.length - k) ((fs.length : Int) - k) (by omega) h.s5 (by omega) l
  have bP : Bd (P : Int) 2000 := (bd_lt hp.v.p (bdC _ _)).mono (by omega)
  have m1 : mulOk (P : Int) ((rr d : Int) ^ k) = true := bP.mulOk (bdp _ k h.r5) (by omega)
  have m2 : mulOk ((P : Int) * (rr d : Int) ^ k) ((ss d : Int) ^ (fs.length - k)) = true := (bP.mul (bdp _ k h.r5)).mulOk (bdp _ _ h.s5) (by omega)
  rw [q1]
  simp only [dieD, rowD] at e c1 ⊢
  simp [den_row_number, c1, c3, c4, e, m1, m2, W]
  rw [Int.mul_assoc]
end
end Q82

set_option Elab.async false
set_option linter.all false
set_option maxRecDepth 100000
set_option maxHeartbeats 4000000
namespace Q82
open PySem L2 PySem.Spec PyProof.Rows Zb Nm
/-! ### _law_number -/
section
variable {d : List Nat}
theorem lc_lrank (h : DieOk d) {fs : List Nat} {j f : Nat} (hj : fs[j]? = some f) (hf : f < d.length) (l : Sto) (x2 x3 x4 x5 x6 x7 x8 x9 x11 : Option D) :
    lcL ⟨rng 0 f, none⟩ (gN 12) q2__law_number e1__law_number [some (dieD d), some (rowD fs), x2, x3, x4, x5, x6, x7, x8, x9, some (nD j), x11, none] (rng 0 f) l [] = .ok (((List.range f).filter fun o => wt d o == wt d f).map nD) l := by
  have hh := h.hi
  conv => lhs; arg 6; rw [rng_eq]
  rw [lcL_fmap (by trivial) (fun i => nD i) nD (fun o => wt d o == wt d f) _ _ (fun o ho => ?_) (by simp; omega)]
  · rfl
  · have ho' := List.mem_range.mp ho
    have hx := die_ix hf
    have ho2 := die_ix (d := d) (i := o) (by omega)
    have hjj : (fs.map nD)[j]? = some (nD f) := by rw [List.getElem?_map, hj]; rfl
    refine ⟨[some (dieD d), some (rowD fs), x2, x3, x4, x5, x6, x7, x8, x9, some (nD j), x11, some (nD o)], rfl, ?_, fun _ => by simp [e1__law_number]⟩
    have e : decide ((wt d o : Int) = (wt d f : Int)) = (wt d o == wt d f) := by
      by_cases q : wt d o = wt d f
      · simp [q]
      · have : ¬ (wt d o : Int) = (wt d f : Int) := by omega
        rw [decide_eq_false this, beq_false_of_ne q]
    simp only [q2__law_number, dieD, rowD]
    simp [hx, ho2, e, hjj]
theorem ways_next (k j : Nat) (h : k ≤ j + 1) : (if k = j + 1 then (1 : Int) else ((C j k : Int) * ((j : Int) + 1)) / ((j : Int) + 1 - k)) = (C (j + 1) k : Int) := by
  by_cases q : k = j + 1
  · rw [if_pos q, q, C_self]; rfl
  · rw [if_neg q]
    exact C_row j k (by omega)
def gL (d fs : List Nat) (k P L : Nat) (w : Int) (x y z : Option D) : Sl := [some (dieD d), some (rowD fs), some (nD (wt d 0)), some (nD (rr d)), some (nD (lw d)), some (nD (ss d)), some (nD k), some (nD P), some (nD L), some (.int w), x, y, z]
theorem loop_lnum (h : DieOk d) {fs : List Nat} (hf : RowOk d fs) : ∃ k P L w x y l', Pre d fs k P L ∧ sForL ⟨rng 0 fs.length, none⟩ (gN 10) b3__law_number (rng 0 fs.length) (gL d fs 0 0 0 1 none none none) [] = .nx (gL d fs k P L w x y none) l' := by
  have hr5 := h.r5
  have hs5 := h.s5
  have h0 := die_0 h.lo
  obtain ⟨g', l', e1, e2⟩ := for_inv (it := ⟨rng 0 fs.length, none⟩) (gt := gN 10) (b := b3__law_number) (fun i g l => ∃ k P L x y, Pre d (fs.take i) k P L ∧ g = gL d fs k P L (C i k) x y none)
    (fun _ _ _ _ => trivial) (rng 0 fs.length) 0 (gL d fs 0 0 0 1 none none none) [] ⟨0, 0, 0, none, none, ⟨by simp [enc], ⟨by simp, by simp [W]⟩⟩, by simp⟩ (by
      rintro j e g l hj ⟨k, P, L, x, y, hp, rfl⟩
      obtain ⟨hjl, he⟩ := rng_get hj
      subst he
      clear hj
      rw [Nat.zero_add] at hp ⊢
      have hj : fs[j]? = some fs[j] := List.getElem?_eq_getElem hjl
      generalize fs[j] = f at hj
      have hfm := hf.1 f (List.mem_of_getElem? hj)
      have hx := die_ix hfm
      have hjj : (fs.map nD)[j]? = some (nD f) := by rw [List.getElem?_map, hj]; rfl
      have h4 := hf.2
      have hh5 := h.hi
      have tl : (fs.take j).length = j := by simp; omega
      have kn := hp.v.kn
      rw [tl] at kn
      have bL : Bd (L : Int) 2000 := by
        have := bd_lt hp.v.l (bdW h _ _ hp.v.kn)
        exact this.mono (by rw [tl]; omega)
      have m1 : mulOk (L : Int) (rr d) = true := bL.mulOk (bd_small (by omega)) (by omega)
      have m2 : mulOk (L : Int) (ss d) = true := bL.mulOk (bd_small (by omega)) (by omega)
      have m3 : mulOk (C j k) ((j : Int) - k) = true := mul_C (by omega) (by omega)
      have m4 : mulOk (C j (k + 1)) ((j : Int) + 1) = true := mul_C (by omega) (by omega)
      have m5 : mulOk (C j k) ((j : Int) + 1) = true := mul_C (by omega) (by omega)
      have d1 : divOk ((k : Int) + 1) = true := divOk_1 (by omega)
      have sn := take_snoc hj
      have hfs : ∀ g ∈ fs.take (j + 1), g < d.length := fun g hg => hf.1 g (List.mem_of_mem_take hg)
      have ev := enc_val h _ hfs
      have lr := lc_lrank h hj hfm l (some (nD (wt d 0))) (some (nD (rr d))) (some (nD (lw d))) (some (nD (ss d))) (some (nD k)) (some (nD P)) (some (nD L)) (some (nD (C j k))) y
      have hmf : mid (f : Int) = true := by rw [mid_nat]; simp; omega
      have hz := isH_eq d f
      refine ⟨_, rfl, ?_⟩
      cases hh : isH d f with
      | true =>
        rw [hh] at hz
        have hz' : (wt d f : Int) = (wt d 0 : Int) := of_decide_eq_true hz
        have e : enc d (fs.take (j + 1)) = (j + 1, k + 1, P + C j (k + 1), L * rr d + rank d f) := by rw [sn, enc_snoc, hp.e]; unfold step; rw [if_pos hh, tl]
        have hv : Pre d (fs.take (j + 1)) (k + 1) (P + C j (k + 1)) (L * rr d + rank d f) := ⟨by rw [e]; simp; omega, by have n2 := (enc_nk d (fs.take (j + 1))).2; rw [← n2, e] at ev; exact ev⟩
        have kn2 := hv.v.kn
        have tl2 : (fs.take (j + 1)).length = j + 1 := by simp; omega
        rw [tl2] at kn2
        have wn := ways_next (k + 1) j kn2
        have cn := C_next j k
        simp only [gL, b3__law_number, dieD, rowD] at lr ⊢
        by_cases q : k + 1 = j + 1
        · obtain rfl : k = j := by omega
          rw [if_pos rfl] at wn
          have m6 : mulOk 1 0 = true := by decide
          simp only [C_self, Int.natCast_one, nD] at lr
          simp [lr, hmf, hx, hjj, h0, hz', m1, m6, d1, Out.on]
          exact ⟨_, _, _, hv, by simp, by simp [C_lt], by simp [rank], by simp [C_lt]⟩
        · have q' : ¬ (k : Int) + 1 = (j : Int) + 1 := by omega
          rw [if_neg q] at wn
          have d2 : divOk ((j : Int) + 1 - ((k : Int) + 1)) = true := Bd.divOk (by omega) (bd_small (by omega)) (by decide)
          have wn' : (C j (k + 1) : Int) * ((j : Int) + 1) / ((j : Int) + 1 - ((k : Int) + 1)) = (C (j + 1) (k + 1) : Int) := by simpa using wn
          simp [lr, hmf, hx, hjj, h0, hz', m1, m3, m4, d1, d2, cn, q', Out.on]
          exact ⟨_, _, _, hv, by simp, by simp, by simp [rank], by rw [wn']⟩
      | false =>
        rw [hh] at hz
        have hz' : ¬ (wt d f : Int) = (wt d 0 : Int) := of_decide_eq_false hz
        have e : enc d (fs.take (j + 1)) = (j + 1, k, P, L * ss d + rank d f) := by rw [sn, enc_snoc, hp.e]; unfold step; rw [if_neg (by rw [hh]; simp), tl]
        have hv : Pre d (fs.take (j + 1)) k P (L * ss d + rank d f) := ⟨by rw [e]; simp; omega, by have n2 := (enc_nk d (fs.take (j + 1))).2; rw [← n2, e] at ev; exact ev⟩
        have wn := ways_next k j (by omega)
        have q : ¬ k = j + 1 := by omega
        have q' : ¬ (k : Int) = (j : Int) + 1 := by omega
        rw [if_neg q] at wn
        have d2 : divOk ((j : Int) + 1 - (k : Int)) = true := Bd.divOk (by omega) (bd_small (by omega)) (by decide)
        simp only [gL, b3__law_number, dieD, rowD] at lr ⊢
        simp [lr, hmf, hx, hjj, h0, hz', m2, m5, d2, wn, q', Out.on]
        exact ⟨_, _, _, hv, by simp, by simp, by simp [rank], by simp⟩)
  obtain ⟨k, P, L, x, y, hp, rfl⟩ := e2
  rw [rng_length, Nat.zero_add, List.take_length] at hp
  exact ⟨k, P, L, _, x, y, l', hp, e1⟩
theorem call_lnum (h : DieOk d) {fs : List Nat} (hf : RowOk d fs) (l : Sto) : m__law_number [dieD d, rowD fs] l = .ok (nD (numN d fs)) l := by
  obtain ⟨k, P, L, w, x, y, l', hp, e⟩ := loop_lnum h hf
  refine callM_p (junk := l') (by simp) ?_ (by simp)
  obtain ⟨q1, q2⟩ := num_pre hp
  have h4 := hf.2
  have kn := hp.v.kn
  have c1 := fun l => call_lform h l
  have c3 := fun l => call_lpowerI (rr d) k k rfl h.r5 (by omega) l
  have c4 := fun l => call_lpowerI (ss d) (fs.length - k) ((fs.length : Int) - k) (by omega) h.s5 (by omega) l
  have bP : Bd (P : Int) 2000 := (bd_lt hp.v.p (bdC _ _)).mono (by omega)
  have m1 : mulOk (P : Int) ((rr d : Int) ^ k) = true := bP.mulOk (bdp _ k h.r5) (by omega)
  have m2 : mulOk ((P : Int) * (rr d : Int) ^ k) ((ss d : Int) ^ (fs.length - k)) = true := (bP.mul (bdp _ k h.r5)).mulOk (bdp _ _ h.s5) (by omega)
  have hmf : mid (fs.length : Int) = true := by rw [mid_nat]; simp; omega
  rw [q1]
  simp only [gL, dieD, rowD] at e c1 ⊢
  have z0 : nD 0 = D.int 0 := rfl
  rw [z0] at e
  simp [den__law_number, c1, c3, c4, e, m1, m2, W, hmf]
  rw [Int.mul_assoc]
end
end Q82

set_option Elab.async false
set_option linter.all false
set_option maxRecDepth 100000
set_option maxHeartbeats 4000000
namespace Q82
open PySem L2 PySem.Spec PyProof.Rows Zb Nm
/-! ### heavy_places -/
def hp : Nat → Nat → Nat → List Nat
  | 0, _, _ => []
  | n + 1, k, P => if 0 < k ∧ C n k ≤ P then hp n (k - 1) (P - C n k) ++ [n] else hp n k P
theorem hp_lt : ∀ n k P, ∀ x ∈ hp n k P, x < n
  | 0, k, P, x, h => by simp [hp] at h
  | n + 1, k, P, x, h => by
    unfold hp at h
    split at h
    · rcases List.mem_append.mp h with h | h
      · have := hp_lt n _ _ x h; omega
      · simp at h; omega
    · have := hp_lt n _ _ x h; omega
theorem hp_0 : ∀ n P, hp n 0 P = []
  | 0, P => rfl
  | n + 1, P => by unfold hp; rw [if_neg (by omega)]; exact hp_0 n P
theorem hp_len : ∀ n k P, (hp n k P).length ≤ n
  | 0, k, P => by simp [hp]
  | n + 1, k, P => by
    unfold hp
    split
    · have := hp_len n (k - 1) (P - C n k); simp; omega
    · have := hp_len n k P; omega
theorem run_hp (n k P : Nat) (hn : n ≤ 400) (hP : P < C n k) : ∃ junk, runB 6 den_heavy_places [nD n, nD k, nD P] [] = .ok (.adr 1) (junk :: [.lst ((hp n k P).map nD)]) := by
  have kn : k ≤ n := by
    by_cases q : k ≤ n
    · exact q
    · rw [C_lt n k (by omega)] at hP; omega
  obtain ⟨g', l', e1, e2⟩ := for_inv (it := ⟨rngC k (-1) k, none⟩) (gt := gN 5) (b := b3_heavy_places) (fun i g l => i ≤ k ∧ ∃ (at_ P' : Nat) (found : List Nat) (x : Option D), hp n k P = hp at_ (k - i) P' ++ found.reverse ∧ P' < C at_ (k - i) ∧ at_ ≤ n ∧ found.length ≤ i ∧ g = [some (nD n), some (nD k), some (nD P'), some (.adr 0), some (nD at_), x] ∧ l = [.lst (found.map nD)])
    (fun _ _ _ _ => trivial) (rngC k (-1) k) 0 [some (nD n), some (nD k), some (nD P), some (.adr 0), some (nD n), none] [.lst []] ⟨by omega, n, P, [], none, by simp, by simpa using hP, by omega, by simp, rfl, rfl⟩ (by
      rintro j e g l hj ⟨hjk, a, P', found, x, h1, h2, h3, h4, rfl, rfl⟩
      obtain ⟨hj, he⟩ := rngC_get hj
      subst he
      rw [Nat.zero_add] at *
      obtain ⟨q, hq⟩ : ∃ q : Nat, k - j = q + 1 := ⟨k - j - 1, by omega⟩
      have eq1 : (k : Int) + (j : Nat) * (-1) = ((q + 1 : Nat) : Int) := by omega
      rw [hq] at h1 h2
      have ha : q + 1 ≤ a := by
        by_cases z : q + 1 ≤ a
        · exact z
        · rw [C_lt a (q + 1) (by omega)] at h2; omega
      obtain ⟨b0, rfl⟩ : ∃ b : Nat, a = b + 1 := ⟨a - 1, by omega⟩
      refine ⟨[some (nD n), some (nD k), some (nD P'), some (.adr 0), some (nD (b0 + 1)), some (nD (q + 1))], by rw [eq1]; rfl, ?_⟩
      obtain ⟨g2, l2, w1, w2⟩ := while_inv (c := c1_heavy_places) (b := b2_heavy_places) (fun m g l => l = [.lst (found.map nD)] ∧ ∃ b : Nat, m = b ∧ b ≤ b0 ∧ hp n k P = hp (b + 1) (q + 1) P' ++ found.reverse ∧ P' < C (b + 1) (q + 1) ∧ g = [some (nD n), some (nD k), some (nD P'), some (.adr 0), some (nD b), some (nD (q + 1))])
        (fun g l => l = [.lst (found.map nD)] ∧ ∃ b : Nat, b ≤ b0 ∧ hp n k P = hp (b + 1) (q + 1) P' ++ found.reverse ∧ P' < C (b + 1) (q + 1) ∧ C b (q + 1) ≤ P' ∧ g = [some (nD n), some (nD k), some (nD P'), some (.adr 0), some (nD b), some (nD (q + 1))]) (by
          rintro m g l ⟨rfl, b, rfl, b1, b2, b3, rfl⟩
          have cc := fun l => call_choices m (q + 1) (by omega) (by omega) l
          by_cases z : P' < C m (q + 1)
          · right
            have z' : (P' : Int) < (C m (q + 1) : Int) := by omega
            have hm : q + 1 ≤ m := by
              by_cases y : q + 1 ≤ m
              · exact y
              · rw [C_lt m (q + 1) (by omega)] at z; omega
            obtain ⟨m', rfl⟩ : ∃ m', m = m' + 1 := ⟨m - 1, by omega⟩
            refine ⟨by simp [c1_heavy_places, cc, z', -C_s], ?_⟩
            refine ⟨[some (nD n), some (nD k), some (nD P'), some (.adr 0), some (nD m'), some (nD (q + 1))], _, m', by simp [b2_heavy_places], by omega, rfl, m', rfl, by omega, ?_, z, rfl⟩
            rw [b2]
            conv => lhs; unfold hp
            rw [if_neg (by omega)]
          · left
            have z' : ¬ (P' : Int) < (C m (q + 1) : Int) := by omega
            exact ⟨by simp [c1_heavy_places, cc, z'], rfl, m, b1, b2, b3, by omega, rfl⟩) fuel b0 _ _ (by unfold fuel; omega) ⟨rfl, b0, rfl, Nat.le_refl _, h1, h2, rfl⟩
      obtain ⟨rfl, b, b1, b2, b3, b4, rfl⟩ := w2
      have cc := fun l => call_choices b (q + 1) (by omega) (by omega) l
      have st : hp (b + 1) (q + 1) P' = hp b q (P' - C b (q + 1)) ++ [b] := by
        conv => lhs; unfold hp
        rw [if_pos ⟨by omega, b4⟩, Nat.add_sub_cancel]
      have hsub : (P' : Int) - (C b (q + 1) : Int) = ((P' - C b (q + 1) : Nat) : Int) := by omega
      have fl : found.length + 1 ≤ 16777216 := by omega
      have hb0 : (((b0 + 1 : Nat) : Int) - 1) = (b0 : Int) := by omega
      have hk2 : k - (j + 1) = q := by omega
      have fin : b3_heavy_places [some (nD n), some (nD k), some (nD P'), some (.adr 0), some (nD (b0 + 1)), some (nD (q + 1))] [.lst (found.map nD)] = .nx [some (nD n), some (nD k), some (nD (P' - C b (q + 1))), some (.adr 0), some (nD b), some (nD (q + 1))] [.lst ((found ++ [b]).map nD)] := by
        unfold b3_heavy_places
        rw [sSeq_e]
        simp only [sSet_e, dOp_e, dV_e, dC_e, bind_ok, dOp_k1_e, dOp_k2_e, hInt_int, yes2_e, if_true, List.getElem?_cons_succ, List.getElem?_cons_zero, out_ok, sSet_k1_e, hb0, seq_nx]
        rw [sSeq_e]
        have w1' : sWhile fuel c1_heavy_places b2_heavy_places ([some (nD n), some (nD k), some (nD P'), some (.adr 0), some (nD (b0 + 1)), some (nD (q + 1))].set 4 (some (.int b0))) [.lst (found.map nD)] = _ := w1
        rw [w1', seq_nx]
        simp [cc, hsub, fl]
      rw [fin]
      exact ⟨by omega, b, P' - C b (q + 1), found ++ [b], _, by rw [b2, st, hk2]; simp, by rw [hk2]; rw [C_s] at b3; omega, by omega, by simp; omega, rfl, rfl⟩)
  obtain ⟨_, a, P', found, x, h1, h2, h3, h4, rfl, rfl⟩ := e2
  rw [rngC_length, Nat.zero_add, Nat.sub_self, hp_0, List.nil_append] at h1
  have hm : mid (k : Int) = true := by rw [mid_nat]; simp; omega
  refine ⟨.lst (found.map nD), ?_⟩
  rw [h1]
  simp [den_heavy_places, hm, e1]
theorem call_hp (n k P : Nat) (i : Int) (hi : i = P) (hn : n ≤ 400) (hP : P < C n k) (l : Sto) : m_heavy_places [nD n, nD k, .int i] l = .ok (.adr l.length) (l ++ [.lst ((hp n k P).map nD)]) := by
  subst hi
  obtain ⟨junk, e⟩ := run_hp n k P hn hP
  exact callM_l (by simp) e rfl (by simp)
end Q82

set_option Elab.async false
set_option linter.all false
set_option maxRecDepth 100000
set_option maxHeartbeats 4000000
namespace Q82
open PySem L2 PySem.Spec PyProof.Rows Zb Nm
theorem flat_nD : ∀ ns : List Nat, (ns.map nD).all flatD = true
  | [] => rfl
  | n :: ns => by simp [flat_nD ns]
theorem inV_nD (a : Nat) : ∀ ns : List Nat, inV (.int (a : Int)) ((ns.map nD).map fv) = decide (a ∈ ns)
  | [] => by simp
  | n :: ns => by
    have ih := inV_nD a ns
    show (eqV (.int (n : Int)) (.int (a : Int)) || inV (.int (a : Int)) ((ns.map nD).map fv)) = _
    rw [ih]
    have e : eqV (.int (n : Int)) (.int (a : Int)) = decide (n = a) := by
      show decide ((n : Int) = (a : Int)) = _
      by_cases h : n = a
      · simp [h]
      · have : ¬ (n : Int) = (a : Int) := by omega
        simp [h, this]
    rw [e]
    by_cases h : n = a
    · simp [h]
    · have : ¬ a = n := fun z => h z.symm
      simp [h, this]
section
variable {d : List Nat}
def gR (d : List Nat) (n k x P : Nat) (L : Nat) (W : Int) (q10 : Option D) (pl at_ : Nat) (x12 x13 : Option D) : Sl := [some (dieD d), some (nD n), some (nD k), some (nD x), some (nD (wt d 0)), some (nD (rr d)), some (nD (lw d)), some (nD (ss d)), some (.int W), some (.adr pl), some (nD L), some (.adr at_), x12, x13]
/-- a turn of what goes from behind: what is told so far, what is left -/
structure Bk (d : List Nat) (n k P L j : Nat) (k' P' L' : Nat) (suf : List Nat) : Prop where
  e : dec d n k P L = dec d (n - j) k' P' L' ++ suf
  v : Val d (n - j) k' P' L'
  l : suf.length = j
theorem Bk.next (ok : DieOk d) {n k P L j k' P' L' : Nat} {suf : List Nat} (h : Bk d n k P L j k' P' L' suf) (hj : j < n) :
    (0 < k' ∧ C (n - j - 1) k' ≤ P' ∧ ∃ f, (hvL d)[L' % rr d]? = some f ∧ Bk d n k P L (j + 1) (k' - 1) (P' - C (n - j - 1) k') (L' / rr d) (f :: suf)) ∨
    (¬ (0 < k' ∧ C (n - j - 1) k' ≤ P') ∧ 0 < ss d ∧ k' ≤ n - j - 1 ∧ ∃ f, (ltL d)[L' % ss d]? = some f ∧ Bk d n k P L (j + 1) k' P' (L' / ss d) (f :: suf)) := by
  obtain ⟨m, hm⟩ : ∃ m, n - j = m + 1 := ⟨n - j - 1, by omega⟩
  have e1 : n - j - 1 = m := by omega
  have e2 : n - (j + 1) = m := by omega
  obtain ⟨he, hv, hl⟩ := h
  rw [hm] at he hv
  rw [e1]
  have hr := ok.r1
  have hp := hv.p
  have hlv := hv.l
  by_cases c : 0 < k' ∧ C m k' ≤ P'
  · left
    obtain ⟨q, rfl⟩ : ∃ q, k' = q + 1 := ⟨k' - 1, by omega⟩
    obtain ⟨f, f1, f2, f3, f4⟩ := hv_at (d := d) (j := L' % rr d) (Nat.mod_lt _ (by omega))
    refine ⟨c.1, c.2, f, f1, ?_, ?_, by simp [hl]⟩
    · rw [he, e2]
      simp only [dec, if_pos c]
      rw [List.getD_eq_getElem?_getD, f1]
      simp
    · rw [e2]
      rw [C_s] at hp
      rw [W_h] at hlv
      exact ⟨by simp only [Nat.add_sub_cancel]; omega, Nat.div_lt_of_lt_mul (by rw [Nat.mul_comm]; exact hlv)⟩
  · right
    have hpn : P' < C m k' := by
      by_cases h0 : k' = 0
      · subst h0; simpa using hp
      · omega
    have kn2 : k' ≤ m := by
      by_cases q : k' ≤ m
      · exact q
      · rw [C_lt m k' (by omega)] at hpn; omega
    rw [W_l d m k' kn2] at hlv
    have hs : 0 < ss d := by
      rcases Nat.eq_zero_or_pos (ss d) with z | z
      · rw [z] at hlv; omega
      · exact z
    obtain ⟨f, f1, f2, f3, f4⟩ := lt_at ok (j := L' % ss d) (Nat.mod_lt _ hs)
    refine ⟨c, hs, kn2, f, f1, ?_, ?_, by simp [hl]⟩
    · rw [he, e2]
      simp only [dec, if_neg c]
      rw [List.getD_eq_getElem?_getD, f1]
      simp
    · rw [e2]
      exact ⟨hpn, Nat.div_lt_of_lt_mul (by rw [Nat.mul_comm]; exact hlv)⟩
theorem Bk.start {n k P L : Nat} (v : Val d n k P L) : Bk d n k P L 0 k P L [] := ⟨by simp, by simpa using v, rfl⟩
theorem fmod_nat (a b : Nat) : (a : Int).fmod (b : Int) = ((a % b : Nat) : Int) := by
  rw [Int.fmod_eq_emod_of_nonneg _ (by omega)]; simp
theorem loop_row (h : DieOk d) {n k P L x : Nat} {W0 : Int} (hn : n ≤ 400) (v : Val d n k P L) : ∃ L' x12 x13, sForL ⟨rngC ((n : Int) - 1) (-1) n, none⟩ (gN 12) b1_row_of_number (rngC ((n : Int) - 1) (-1) n) (gR d n k x P L W0 none 0 1 none none) [.lst ((hp n k P).map nD), .lst []] =
    .nx (gR d n k x P L' W0 none 0 1 x12 x13) [.lst ((hp n k P).map nD), .lst ((dec d n k P L).reverse.map nD)] := by
  have hr5 := h.r5
  have hr1 := h.r1
  have hs5 := h.s5
  obtain ⟨g', l', e1, e2⟩ := for_inv (it := ⟨rngC ((n : Int) - 1) (-1) n, none⟩) (gt := gN 12) (b := b1_row_of_number) (fun j g l => j ≤ n ∧ ∃ (k' P' L' : Nat) (suf big : List Nat) (y z : Option D), Bk d n k P L j k' P' L' suf ∧ hp n k P = hp (n - j) k' P' ++ big ∧ (∀ b ∈ big, n - j ≤ b) ∧ g = gR d n k x P L' W0 none 0 1 y z ∧ l = [.lst ((hp n k P).map nD), .lst (suf.reverse.map nD)])
    (fun _ _ _ _ => trivial) (rngC ((n : Int) - 1) (-1) n) 0 (gR d n k x P L W0 none 0 1 none none) [.lst ((hp n k P).map nD), .lst []] ⟨by omega, k, P, L, [], [], none, none, Bk.start v, by simp, by simp, rfl, rfl⟩ (by
      rintro j e g l hj ⟨hjn, k', P', L', suf, big, y, z, hb, h1, h2, rfl, rfl⟩
      obtain ⟨hjl, he⟩ := rngC_get hj
      subst he
      clear hj
      rw [Nat.zero_add] at *
      have hat : (n : Int) - 1 + (j : Nat) * (-1) = ((n - j - 1 : Nat) : Int) := by omega
      obtain ⟨m, hm⟩ : ∃ m, n - j = m + 1 := ⟨n - j - 1, by omega⟩
      have e1 : n - j - 1 = m := by omega
      have e2 : n - (j + 1) = m := by omega
      rw [hat, e1]
      have hsl : suf.length + 1 ≤ 16777216 := by have := hb.l; omega
      have mem : decide (m ∈ hp n k P) = decide (0 < k' ∧ C m k' ≤ P') := by
        rw [h1, hm]
        have nb : m ∉ big := fun q => by have := h2 m q; omega
        apply decide_eq_decide.mpr
        constructor
        · intro q
          by_cases c : 0 < k' ∧ C m k' ≤ P'
          · exact c
          · rcases List.mem_append.mp q with q | q
            · unfold hp at q
              rw [if_neg c] at q
              have := hp_lt m _ _ m q; omega
            · exact absurd q nb
        · intro c
          unfold hp
          rw [if_pos c]
          simp
      have hin := inV_nD m (hp n k P)
      have hfl := flat_nD (hp n k P)
      have cH := fun l => call_heavy h l
      have cL := fun l => call_light h l
      refine ⟨_, rfl, ?_⟩
      rcases hb.next h hjl with ⟨c1, c2, f, hf, hb2⟩ | ⟨c, hs, kn2, f, hf, hb2⟩
      · rw [e1] at c2 hb2
        have hmem : decide (m ∈ hp n k P) = true := by rw [mem]; exact decide_eq_true ⟨c1, c2⟩
        rw [hmem] at hin
        have hlen : (hvL d).length = rr d := rfl
        have hrne : rr d ≠ 0 := by omega
        have dv : divOk (rr d : Int) = true := divOk_n (by omega) (by omega)
        have fm : (L' : Int).fmod (rr d : Int) = (L' : Int) % (rr d : Int) := Int.fmod_eq_emod_of_nonneg _ (by omega)
        have hix : atI ((hvL d).map nD) ((L' : Int) % (rr d : Int)) = some (nD f) := by rw [← Int.natCast_emod, atI_nat_e, List.getElem?_map, hf]; rfl
        have ld : (L' : Int) / (rr d : Int) = ((L' / rr d : Nat) : Int) := by simp
        have rl := hb.l
        simp only [gR, b1_row_of_number, dieD] at cH cL ⊢
        have fin : ∃ y', (sSeq (sSet 13 (dIfE (dBl (dOp (hIn false) (dV 12) (dV 9))) (dCall 1 m_heavy_faces (dCons (dV 0) dNil)) (dCall 1 m_light_faces (dCons (dV 0) dNil))))
    (sSeq (sExpr (dMe hApp (dV 11) (dCons (dOp hIx (dV 13) (dOp (hInt (fun _ j => decide (j ≠ 0)) Int.fmod) (dV 10) (dCB hLen (dCons (dV 13) dNil)))) dNil)))
    (sSet 10 (dOp (hInt (fun _ j => divOk j) fun i j => i / j) (dV 10) (dCB hLen (dCons (dV 13) dNil)))))) (gR d n k x P L' W0 none 0 1 (some (nD m)) z) [.lst ((hp n k P).map nD), .lst (suf.reverse.map nD)] = .nx (gR d n k x P (L' / rr d) W0 none 0 1 (some (nD m)) y') [.lst ((hp n k P).map nD), .lst ((f :: suf).reverse.map nD)] := by
          refine ⟨some (.tup ((hvL d).map nD)), ?_⟩
          simp only [gR, dieD]
          simp only [List.map_map] at hin
          simp [hin, hfl, cH, hlen, hrne, fm, hix, dv, hsl]
        obtain ⟨y', fin⟩ := fin
        simp only [gR, dieD] at fin
        have fin2 := fin
        simp only [List.set_cons_succ, List.set_cons_zero]
        rw [fin2]
        have hs1 : hp n k P = hp (n - (j + 1)) (k' - 1) (P' - C m k') ++ (m :: big) := by
          rw [h1, hm, e2]
          conv => lhs; unfold hp
          rw [if_pos ⟨c1, c2⟩]
          simp
        have hs2 : ∀ b ∈ m :: big, n - (j + 1) ≤ b := fun b hb => by
          rw [e2]
          rcases List.mem_cons.mp hb with rfl | hb
          · exact Nat.le_refl _
          · have := h2 b hb; omega
        exact ⟨by omega, k' - 1, P' - C m k', L' / rr d, f :: suf, m :: big, _, _, hb2, hs1, hs2, rfl, rfl⟩
      · rw [e1] at c kn2
        have hmem : decide (m ∈ hp n k P) = false := by rw [mem]; exact decide_eq_false c
        rw [hmem] at hin
        have hlen : (ltL d).length = ss d := rfl
        have hrne : ss d ≠ 0 := by omega
        have dv : divOk (ss d : Int) = true := divOk_n (by omega) (by omega)
        have fm : (L' : Int).fmod (ss d : Int) = (L' : Int) % (ss d : Int) := Int.fmod_eq_emod_of_nonneg _ (by omega)
        have hix : atI ((ltL d).map nD) ((L' : Int) % (ss d : Int)) = some (nD f) := by rw [← Int.natCast_emod, atI_nat_e, List.getElem?_map, hf]; rfl
        simp only [gR, b1_row_of_number, dieD] at cH cL ⊢
        have fin : ∃ y', (sSeq (sSet 13 (dIfE (dBl (dOp (hIn false) (dV 12) (dV 9))) (dCall 1 m_heavy_faces (dCons (dV 0) dNil)) (dCall 1 m_light_faces (dCons (dV 0) dNil))))
    (sSeq (sExpr (dMe hApp (dV 11) (dCons (dOp hIx (dV 13) (dOp (hInt (fun _ j => decide (j ≠ 0)) Int.fmod) (dV 10) (dCB hLen (dCons (dV 13) dNil)))) dNil)))
    (sSet 10 (dOp (hInt (fun _ j => divOk j) fun i j => i / j) (dV 10) (dCB hLen (dCons (dV 13) dNil)))))) (gR d n k x P L' W0 none 0 1 (some (nD m)) z) [.lst ((hp n k P).map nD), .lst (suf.reverse.map nD)] = .nx (gR d n k x P (L' / ss d) W0 none 0 1 (some (nD m)) y') [.lst ((hp n k P).map nD), .lst ((f :: suf).reverse.map nD)] := by
          refine ⟨some (.tup ((ltL d).map nD)), ?_⟩
          simp only [gR, dieD]
          simp only [List.map_map] at hin
          simp [hin, hfl, cL, hlen, hrne, fm, hix, dv, hsl]
        obtain ⟨y', fin⟩ := fin
        simp only [gR, dieD] at fin
        simp only [List.set_cons_succ, List.set_cons_zero]
        rw [fin]
        have hs1 : hp n k P = hp (n - (j + 1)) k' P' ++ big := by
          rw [h1, hm, e2]
          conv => lhs; unfold hp
          rw [if_neg c]
        exact ⟨by omega, k', P', L' / ss d, f :: suf, big, _, _, hb2, hs1, fun b hb => by have := h2 b hb; omega, rfl, rfl⟩)
  obtain ⟨_, k', P', L', suf, big, y, z, hb, h1, h2, rfl, rfl⟩ := e2
  rw [rngC_length, Nat.zero_add] at hb
  have e3 := hb.e
  rw [Nat.sub_self] at e3
  simp only [dec, List.nil_append] at e3
  rw [e3]
  exact ⟨L', y, z, e1⟩
theorem run_row (h : DieOk d) {n k x : Nat} (hn : n ≤ 400) (hx : x < sizeN d n k) (hk : k ≤ n) : ∃ junk, runB 14 den_row_of_number [dieD d, nD n, nD k, nD x] [] = .ok (rowD (rowN d n k x)) junk := by
  have v := val_of hx
  have hW : 0 < W d n k := by have := v.l; omega
  obtain ⟨L', y, z, e⟩ := loop_row h (x := x) (W0 := (W d n k : Int)) hn v
  unfold gR at e
  have c0 := fun l => call_size h n k hk hn l
  have c1 := fun l => call_form h l
  have c3 := fun l => call_powerI (rr d) k k rfl h.r5 (by omega) l
  have c4 := fun l => call_powerI (ss d) (n - k) ((n : Int) - k) (by omega) h.s5 (by omega) l
  have m1 : mulOk ((rr d : Int) ^ k) ((ss d : Int) ^ (n - k)) = true := (bdp _ k h.r5).mulOk (bdp _ _ h.s5) (by omega)
  have eW : (rr d : Int) ^ k * (ss d : Int) ^ (n - k) = (W d n k : Int) := by simp [W]
  have dW : divOk (W d n k : Int) = true := Bd.divOk (by omega) (bdW h n k hk) (by omega)
  have c5 := fun l => call_hp n k (x / W d n k) ((x : Int) / (W d n k : Int)) (by simp) hn v.p l
  have hx' : ¬ (sizeN d n k : Int) ≤ (x : Int) := by omega
  have hWne : ¬ W d n k = 0 := by omega
  have fm : (x : Int).fmod (W d n k : Int) = (x : Int) % (W d n k : Int) := Int.fmod_eq_emod_of_nonneg _ (by omega)
  have ex : nD (x % W d n k) = .int ((x : Int) % (W d n k : Int)) := by rw [nD, Int.natCast_emod]
  rw [ex] at e
  have hm : mid ((n : Int) - 1) = true := by unfold mid; exact decide_eq_true (by omega)
  have ht : ((n : Int) - 1 - -1).toNat = n := by omega
  have ht2 : ((n : Int) - 1 + 1).toNat = n := by omega
  refine ⟨[.lst ((hp n k (x / W d n k)).map nD), .lst ((rowN d n k x).reverse.map nD), .lst ((rowN d n k x).map nD)], ?_⟩
  simp only [gR, dieD, rowD] at e c0 c1 ⊢
  have mm1 : mid (-1) = true := by decide
  simp [den_row_of_number, c0, hx', c1, c3, c4, m1, eW, dW, c5, hWne, fm, hm, mm1, ht, ht2, e, rowN]
theorem call_row (h : DieOk d) {n k x : Nat} (i : Int) (hi : i = x) (hn : n ≤ 400) (hx : x < sizeN d n k) (hk : k ≤ n) (l : Sto) : m_row_of_number [dieD d, nD n, nD k, .int i] l = .ok (rowD (rowN d n k x)) l := by
  subst hi
  obtain ⟨junk, e⟩ := run_row h hn hx hk
  exact callM_p (by simp) e (by simp)
theorem call_row_no (h : DieOk d) {n k : Nat} (i : Int) (hi : (sizeN d n k : Int) ≤ i) (hn : n ≤ 400) (hk : k ≤ n) (l : Sto) : m_row_of_number [dieD d, nD n, nD k, .int i] l = .ok .non l := by
  refine callM_p (junk := []) (by simp) ?_ (by simp)
  have c0 := fun l => call_size h n k hk hn l
  simp [den_row_of_number, c0, hi]
end
end Q82

set_option Elab.async false
set_option linter.all false
set_option maxRecDepth 100000
set_option maxHeartbeats 4000000
namespace Q82
open PySem L2 PySem.Spec PyProof.Rows Zb Nm
section
variable {d : List Nat}
/-! ### _law_row -/
theorem lc_lhv (h : DieOk d) (l : Sto) (x1 x2 x3 x5 x6 x7 x8 x9 x10 x11 x12 x13 x14 x15 : Option D) : lcL ⟨rng 0 d.length, none⟩ (gN 16) q2__law_row e1__law_row [some (dieD d), x1, x2, x3, some (nD (wt d 0)), x5, x6, x7, x8, x9, x10, x11, x12, x13, x14, x15, none] (rng 0 d.length) l [] = .ok ((hvL d).map nD) l := by
  have hh := h.hi
  conv => lhs; arg 6; rw [rng_eq]
  rw [lcL_fmap (by trivial) (fun i => nD i) nD (isH d) _ _ (fun o ho => ?_) (by simp; omega)]
  · rfl
  · have ho' := List.mem_range.mp ho
    have hx := die_ix ho'
    refine ⟨[some (dieD d), x1, x2, x3, some (nD (wt d 0)), x5, x6, x7, x8, x9, x10, x11, x12, x13, x14, x15, some (nD o)], rfl, ?_, fun _ => by simp [e1__law_row]⟩
    simp only [q2__law_row, dieD]
    simp [hx, isH_eq]
theorem lc_llt (h : DieOk d) (l : Sto) (x1 x2 x3 x5 x6 x7 x8 x9 x10 x11 x12 x13 x14 x15 : Option D) : lcL ⟨rng 0 d.length, none⟩ (gN 16) q4__law_row e3__law_row [some (dieD d), x1, x2, x3, some (nD (wt d 0)), x5, x6, x7, x8, x9, x10, x11, x12, x13, x14, x15, none] (rng 0 d.length) l [] = .ok ((ltL d).map nD) l := by
  have hh := h.hi
  conv => lhs; arg 6; rw [rng_eq]
  rw [lcL_fmap (by trivial) (fun i => nD i) nD (fun i => !isH d i) _ _ (fun o ho => ?_) (by simp; omega)]
  · rfl
  · have ho' := List.mem_range.mp ho
    have hx := die_ix ho'
    refine ⟨[some (dieD d), x1, x2, x3, some (nD (wt d 0)), x5, x6, x7, x8, x9, x10, x11, x12, x13, x14, x15, some (nD o)], rfl, ?_, fun _ => by simp [e3__law_row]⟩
    simp only [q4__law_row, dieD]
    simp [hx, isH_ne]
def gW (d : List Nat) (n x : Nat) (W : Int) (k P L : Nat) (w : Int) (x15 : Option D) : Sl := [some (dieD d), some (nD n), some (nD k), some (nD x), some (nD (wt d 0)), some (nD (rr d)), some (nD (lw d)), some (nD (ss d)), some (.adr 0), some (.adr 1), some (.int W), some (nD P), some (nD L), some (.adr 2), some (.int w), x15, none]
def stW (d : List Nat) (suf : List Nat) : Sto := [.lst ((hvL d).map nD), .lst ((ltL d).map nD), .lst (suf.reverse.map nD)]
theorem loop_lrow (h : DieOk d) {n k P L x : Nat} {W0 w0 : Int} (hn : n ≤ 400) (v : Val d n k P L) (hw0 : 0 < n → k ≤ n - 1 → w0 = (C (n - 1) k : Int)) : ∃ k' P' L' w x15, sForL ⟨rngC ((n : Int) - 1) (-1) n, none⟩ (gN 15) b5__law_row (rngC ((n : Int) - 1) (-1) n) (gW d n x W0 k P L w0 none) (stW d []) =
    .nx (gW d n x W0 k' P' L' w x15) (stW d (dec d n k P L)) := by
  have hr5 := h.r5
  have hr1 := h.r1
  have hs5 := h.s5
  obtain ⟨g', l', e1, e2⟩ := for_inv (it := ⟨rngC ((n : Int) - 1) (-1) n, none⟩) (gt := gN 15) (b := b5__law_row) (fun j g l => j ≤ n ∧ ∃ (k' P' L' : Nat) (suf : List Nat) (w : Int) (y : Option D), Bk d n k P L j k' P' L' suf ∧ (j < n → k' ≤ n - j - 1 → w = (C (n - j - 1) k' : Int)) ∧ g = gW d n x W0 k' P' L' w y ∧ l = stW d suf)
    (fun _ _ _ _ => trivial) (rngC ((n : Int) - 1) (-1) n) 0 (gW d n x W0 k P L w0 none) (stW d []) ⟨by omega, k, P, L, [], w0, none, Bk.start v, by simpa using hw0, rfl, rfl⟩ (by
      rintro j e g l hj ⟨hjn, k', P', L', suf, w, y, hb, hw, rfl, rfl⟩
      obtain ⟨hjl, he⟩ := rngC_get hj
      subst he
      clear hj
      rw [Nat.zero_add] at *
      have hat : (n : Int) - 1 + (j : Nat) * (-1) = ((n - j - 1 : Nat) : Int) := by omega
      obtain ⟨m, hm⟩ : ∃ m, n - j = m + 1 := ⟨n - j - 1, by omega⟩
      have e1 : n - j - 1 = m := by omega
      have e2 : n - (j + 1) - 1 = m - 1 := by omega
      rw [hat, e1]
      rw [e1] at hw
      have hw := hw hjl
      have hsl : suf.length + 1 ≤ 16777216 := by have := hb.l; omega
      have hml : m < 400 := by omega
      refine ⟨gW d n x W0 k' P' L' w (some (nD m)), rfl, ?_⟩
      rcases hb.next h hjl with ⟨c1, c2, f, hf, hb2⟩ | ⟨c, hs, kn2, f, hf, hb2⟩
      · rw [e1] at c2 hb2
        have hlen : (hvL d).length = rr d := rfl
        have hrne : ¬ rr d = 0 := by omega
        have dv : divOk (rr d : Int) = true := divOk_n (by omega) (by omega)
        have fm : (L' : Int).fmod (rr d : Int) = (L' : Int) % (rr d : Int) := Int.fmod_eq_emod_of_nonneg _ (by omega)
        have hix : atI ((hvL d).map nD) ((L' : Int) % (rr d : Int)) = some (nD f) := by rw [← Int.natCast_emod, atI_nat_e, List.getElem?_map, hf]; rfl
        have c1' : (0 : Int) < (k' : Int) := by omega
        by_cases q : m < k'
        · have q' : (m : Int) < (k' : Int) := by omega
          have q2 : ¬ (k' : Int) ≤ (m : Int) := by omega
          have hC0 : C m k' = 0 := C_lt m k' q
          have hkk : (k' : Int) - 1 = ((k' - 1 : Nat) : Int) := by omega
          have fin : b5__law_row (gW d n x W0 k' P' L' w (some (nD m))) (stW d suf) = .nx (gW d n x W0 (k' - 1) P' (L' / rr d) w (some (nD m))) (stW d (f :: suf)) := by
            simp only [gW, stW, b5__law_row]
            simp [c1', c1, q', q2, q, fm, hrne, hix, dv, hsl, hkk]
          rw [fin]
          refine ⟨by omega, k' - 1, P' - C m k', L' / rr d, f :: suf, w, _, hb2, fun z1 z2 => by omega, by rw [hC0]; rfl, rfl⟩
        · have hk : k' ≤ m := by omega
          have hwv := hw hk
          have q' : ¬ (m : Int) < (k' : Int) := by omega
          have q2 : (k' : Int) ≤ (m : Int) := by omega
          have q3 : w ≤ (P' : Int) := by rw [hwv]; omega
          have hkk : (k' : Int) - 1 = ((k' - 1 : Nat) : Int) := by omega
          have hpp : (P' : Int) - w = ((P' - C m k' : Nat) : Int) := by rw [hwv]; omega
          have mk : mulOk w (k' : Int) = true := by rw [hwv]; exact mul_C (by omega) (by omega)
          have dm : divOk (m : Int) = true := divOk_n (by omega) (by omega)
          have hww : w * (k' : Int) / (m : Int) = (C (m - 1) (k' - 1) : Int) := by rw [hwv]; exact C_down1 m k' (by omega) (by omega)
          have fin : b5__law_row (gW d n x W0 k' P' L' w (some (nD m))) (stW d suf) = .nx (gW d n x W0 (k' - 1) (P' - C m k') (L' / rr d) (C (m - 1) (k' - 1)) (some (nD m))) (stW d (f :: suf)) := by
            simp only [gW, stW, b5__law_row]
            simp [c1', c1, q', q2, q3, q, hk, fm, hrne, hix, dv, hsl, hkk, hpp, mk, dm, hww]
          rw [fin]
          exact ⟨by omega, k' - 1, P' - C m k', L' / rr d, f :: suf, _, _, hb2, fun z1 z2 => by rw [e2], rfl, rfl⟩
      · rw [e1] at c kn2
        have hlen : (ltL d).length = ss d := rfl
        have hrne : ¬ ss d = 0 := by omega
        have dv : divOk (ss d : Int) = true := divOk_n (by omega) (by omega)
        have fm : (L' : Int).fmod (ss d : Int) = (L' : Int) % (ss d : Int) := Int.fmod_eq_emod_of_nonneg _ (by omega)
        have hix : atI ((ltL d).map nD) ((L' : Int) % (ss d : Int)) = some (nD f) := by rw [← Int.natCast_emod, atI_nat_e, List.getElem?_map, hf]; rfl
        have hwv := hw kn2
        have tst : 0 < k' → ¬ (m : Int) < (k' : Int) ∧ ¬ w ≤ (P' : Int) := fun z => ⟨by omega, by rw [hwv]; omega⟩
        have mk : mulOk w ((m : Int) - (k' : Int)) = true := by rw [hwv]; exact mul_C (by omega) (by omega)
        have q1 : ¬ m < k' := by omega
        by_cases m0 : 0 < m
        · have m0' : (0 : Int) < (m : Int) := by omega
          have dm : divOk (m : Int) = true := divOk_n (by omega) (by omega)
          have hww : w * ((m : Int) - (k' : Int)) / (m : Int) = (C (m - 1) k' : Int) := by rw [hwv]; exact C_down2 m k' kn2 m0
          have fin : b5__law_row (gW d n x W0 k' P' L' w (some (nD m))) (stW d suf) = .nx (gW d n x W0 k' P' (L' / ss d) (C (m - 1) k') (some (nD m))) (stW d (f :: suf)) := by
            simp only [gW, stW, b5__law_row]
            by_cases k0 : 0 < k'
            · have k0' : (0 : Int) < (k' : Int) := by omega
              obtain ⟨t1, t2⟩ := tst k0
              simp [k0, k0', t1, t2, q1, fm, hrne, hix, dv, hsl, mk, dm, hww, m0, m0']
            · have k0' : ¬ (0 : Int) < (k' : Int) := by omega
              simp [k0, k0', q1, fm, hrne, hix, dv, hsl, mk, dm, hww, m0, m0']
          rw [fin]
          exact ⟨by omega, k', P', L' / ss d, f :: suf, _, _, hb2, fun z1 z2 => by rw [e2], rfl, rfl⟩
        · have m0' : ¬ (0 : Int) < (m : Int) := by omega
          have fin : b5__law_row (gW d n x W0 k' P' L' w (some (nD m))) (stW d suf) = .nx (gW d n x W0 k' P' (L' / ss d) 0 (some (nD m))) (stW d (f :: suf)) := by
            simp only [gW, stW, b5__law_row]
            by_cases k0 : 0 < k'
            · have k0' : (0 : Int) < (k' : Int) := by omega
              obtain ⟨t1, t2⟩ := tst k0
              simp [k0, k0', t1, t2, q1, fm, hrne, hix, dv, hsl, m0, m0']
            · have k0' : ¬ (0 : Int) < (k' : Int) := by omega
              simp [k0, k0', q1, fm, hrne, hix, dv, hsl, m0, m0']
          rw [fin]
          exact ⟨by omega, k', P', L' / ss d, f :: suf, _, _, hb2, fun z1 z2 => by omega, rfl, rfl⟩)
  obtain ⟨_, k', P', L', suf, w, y, hb, hw, rfl, rfl⟩ := e2
  rw [rngC_length, Nat.zero_add] at hb
  have e3 := hb.e
  rw [Nat.sub_self] at e3
  simp only [dec, List.nil_append] at e3
  rw [e3]
  exact ⟨k', P', L', w, y, e1⟩
theorem run_lrow (h : DieOk d) {n k x : Nat} (hn : n ≤ 400) (hx : x < sizeN d n k) (hk : k ≤ n) : ∃ junk, runB 17 den__law_row [dieD d, nD n, nD k, nD x] [] = .ok (rowD (rowN d n k x)) junk := by
  have v := val_of hx
  have hW : 0 < W d n k := by have := v.l; omega
  have hd5 := h.hi
  have c1 := fun l => call_lform h l
  have c3 := fun l => call_lpowerI (rr d) k k rfl h.r5 (by omega) l
  have c4 := fun l => call_lpowerI (ss d) (n - k) ((n : Int) - k) (by omega) h.s5 (by omega) l
  have m1 : mulOk ((rr d : Int) ^ k) ((ss d : Int) ^ (n - k)) = true := (bdp _ k h.r5).mulOk (bdp _ _ h.s5) (by omega)
  have eW : (rr d : Int) ^ k * (ss d : Int) ^ (n - k) = (W d n k : Int) := by simp [W]
  have dW : divOk (W d n k : Int) = true := Bd.divOk (by omega) (bdW h n k hk) (by omega)
  have hWne : ¬ W d n k = 0 := by omega
  have fm : (x : Int).fmod (W d n k : Int) = (x : Int) % (W d n k : Int) := Int.fmod_eq_emod_of_nonneg _ (by omega)
  have ex : nD (x % W d n k) = .int ((x : Int) % (W d n k : Int)) := by rw [nD, Int.natCast_emod]
  have ep : nD (x / W d n k) = .int ((x : Int) / (W d n k : Int)) := by rw [nD, Int.natCast_ediv]
  have hm : mid ((n : Int) - 1) = true := by unfold mid; exact decide_eq_true (by omega)
  have hmd : mid (d.length : Int) = true := by rw [mid_nat]; simp; omega
  have ht2 : ((n : Int) - 1 + 1).toNat = n := by omega
  have mm1 : mid (-1) = true := by decide
  have lh := fun l => lc_lhv h l (some (nD n)) (some (nD k)) (some (nD x)) (some (nD (rr d))) (some (nD (lw d))) (some (nD (ss d))) none none none none none none none none
  have ll := fun l => lc_llt h l (some (nD n)) (some (nD k)) (some (nD x)) (some (nD (rr d))) (some (nD (lw d))) (some (nD (ss d))) (some (.adr 0)) none none none none none none none
  have st0 : ∀ w0 : Int, (0 < n → k ≤ n - 1 → w0 = (C (n - 1) k : Int)) → ∃ junk, (sSeq (sFor (dRng3 (dCons (dOp (hInt yes2 fun i j => i - j) (dV 1) (dC (.int 1))) (dCons (dUn hNeg (dC (.int 1))) (dCons (dUn hNeg (dC (.int 1))) dNil)))) (gN 15) b5__law_row)
    (sRet (dCB hTupOf (dCons (dUn hRev (dV 13)) dNil))) (gW d n x (W d n k) k (x / W d n k) (x % W d n k) w0 none) (stW d [])).toB = .ok (rowD (rowN d n k x)) junk := fun w0 hw0 => by
    obtain ⟨k', P', L', w, y, e⟩ := loop_lrow h (x := x) (W0 := (W d n k : Int)) hn v hw0
    refine ⟨stW d (rowN d n k x) ++ [.lst ((rowN d n k x).map nD)], ?_⟩
    simp only [gW, stW, rowD] at e ⊢
    rw [ex, ep] at e ⊢
    simp at e
    simp [hm, mm1, ht2, e, rowN]
  by_cases n0 : 0 < n
  · have n0' : (0 : Int) < (n : Int) := by omega
    have c5 := fun l => call_lchooseI (n - 1) k ((n : Int) - 1) k (by omega) rfl (by omega) (by omega) l
    obtain ⟨junk, e⟩ := st0 (C (n - 1) k) (fun _ _ => rfl)
    refine ⟨junk, ?_⟩
    rw [← e]
    simp only [gW, stW, dieD, rowD] at lh ll c1 ⊢
    rw [ex, ep]
    simp [den__law_row, c1, lh, ll, hmd, c3, c4, m1, eW, dW, hWne, fm, n0, n0', c5]
  · have n0' : ¬ (0 : Int) < (n : Int) := by omega
    obtain ⟨junk, e⟩ := st0 0 (fun z => absurd z n0)
    refine ⟨junk, ?_⟩
    rw [← e]
    simp only [gW, stW, dieD, rowD] at lh ll c1 ⊢
    rw [ex, ep]
    simp [den__law_row, c1, lh, ll, hmd, c3, c4, m1, eW, dW, hWne, fm, n0, n0']
theorem call_lrow (h : DieOk d) {n k x : Nat} (i : Int) (hi : i = x) (hn : n ≤ 400) (hx : x < sizeN d n k) (hk : k ≤ n) (l : Sto) : m__law_row [dieD d, nD n, nD k, .int i] l = .ok (rowD (rowN d n k x)) l := by
  subst hi
  obtain ⟨junk, e⟩ := run_lrow h hn hx hk
  exact callM_p (by simp) e (by simp)
end
end Q82

set_option Elab.async false
set_option linter.all false
set_option maxRecDepth 100000
set_option maxHeartbeats 4000000
namespace Q82
open PySem L2 PySem.Spec PyProof.Rows Zb Nm
/-! ### _law_same: a thing and itself -/
mutual
def plD : D → Bool
  | .int _ => true
  | .str _ => true
  | .bl _ => true
  | .non => true
  | .tup ds => plDs ds
  | _ => false
def plDs : List D → Bool
  | [] => true
  | d :: ds => plD d && plDs ds
end
mutual
def wD : D → Nat
  | .tup ds => wDs ds + 1
  | _ => 1
def wDs : List D → Nat
  | [] => 0
  | d :: ds => wD d + wDs ds
end
theorem wDs_app : ∀ xs ys : List D, wDs (xs ++ ys) = wDs xs + wDs ys
  | [], ys => by simp [wDs]
  | x :: xs, ys => by simp [wDs, wDs_app xs ys]; omega
theorem plDs_app : ∀ xs ys : List D, plDs (xs ++ ys) = (plDs xs && plDs ys)
  | [], ys => by simp [plDs]
  | x :: xs, ys => by simp [plDs, plDs_app xs ys, Bool.and_assoc]
theorem wD_pos (d : D) : 1 ≤ wD d := by cases d <;> simp [wD]
theorem wDs_len : ∀ xs : List D, xs.length ≤ wDs xs
  | [] => by simp
  | x :: xs => by
    have := wDs_len xs
    have := wD_pos x
    simp [wDs]; omega
mutual
theorem pl_pu : ∀ d : D, plD d = true → pu d = true
  | .int _, _ => rfl
  | .str _, _ => rfl
  | .bl _, _ => rfl
  | .non, _ => rfl
  | .tup ds, h => by simp only [pu]; exact pls_pu ds (by simpa [plD] using h)
  | .adr _, h => by simp [plD] at h
  | .ty _, h => by simp [plD] at h
  | .ro _, h => by simp [plD] at h
theorem pls_pu : ∀ ds : List D, plDs ds = true → pus ds = true
  | [], _ => rfl
  | d :: ds, h => by
    simp only [plDs, Bool.and_eq_true] at h
    simp only [pus, pl_pu d h.1, pls_pu ds h.2, Bool.and_self]
end
def pr (d : D) : D := .tup [d, d]
theorem pairs_same (x0 x1 x2 : Option D) (ds : List D) (l : Sto) (hl : ds.length ≤ 16777216) : lcL ⟨rng 0 ds.length, none⟩ (gN 5) dYes e1__law_same [x0, x1, x2, some (.tup ds), some (.tup ds), none] (rng 0 ds.length) l [] = .ok (ds.map pr) l := by
  conv => lhs; arg 6; rw [rng_eq]
  rw [lcL_fmap (by trivial) (fun i => nD i) (fun i => pr (ds.getD i .non)) (fun _ => true) _ _ (fun o ho => ?_) (by simp; omega)]
  · have ft : (List.range ds.length).filter (fun _ => true) = List.range ds.length := List.filter_eq_self.mpr fun _ _ => rfl
    rw [ft, List.nil_append]
    congr 1
    apply List.ext_getElem?
    intro i
    rw [List.getElem?_map, List.getElem?_map]
    by_cases h : i < ds.length
    · rw [List.getElem?_range h, List.getElem?_eq_getElem h]
      simp [List.getD_eq_getElem?_getD, h]
    · rw [List.getElem?_eq_none (by simp; omega), List.getElem?_eq_none (by omega)]
      rfl
  · have ho' := List.mem_range.mp ho
    obtain ⟨x, hx⟩ : ∃ x, ds[o]? = some x := ⟨_, List.getElem?_eq_getElem ho'⟩
    have e : ds.getD o .non = x := by rw [List.getD_eq_getElem?_getD, hx]; rfl
    refine ⟨[x0, x1, x2, some (.tup ds), some (.tup ds), some (nD o)], rfl, rfl, fun _ => ?_⟩
    rw [e]
    simp only [e1__law_same]
    simp [hx, pr]
def gS (t u : D) (x3 x4 x5 : Option D) : Sl := [some t, some u, some (.adr 0), x3, x4, x5]
theorem same_leaf (t u : D) (x3 x4 x5 : Option D) (xs : List D) (d : D) (hd : plD d = true) (hw : ∀ ds, d ≠ .tup ds) (junk : Sto) : b3__law_same (gS t u x3 x4 x5) (.lst ((xs ++ [d]).map pr) :: junk) = .nx (gS t u (some d) (some d) x5) (.lst (xs.map pr) :: junk) := by
  have k1 : kitB "int" "tuple" = some false := by decide
  have k2 : kitB "int" "str" = some false := by decide
  have k3 : kitB "int" "bool" = some false := by decide
  have k4 : kitB "int" "int" = some true := by decide
  have k5 : kitB "str" "tuple" = some false := by decide
  have k6 : kitB "str" "str" = some true := by decide
  have k7 : kitB "bool" "tuple" = some false := by decide
  have k8 : kitB "bool" "str" = some false := by decide
  have k9 : kitB "bool" "bool" = some true := by decide
  have k10 : kitB "NoneType" "tuple" = some false := by decide
  simp only [gS, b3__law_same]
  cases d with
  | int i => simp [pr, k1, k2, k3, k4]
  | str i => simp [pr, k5, k6]
  | bl i => simp [pr, k7, k8, k9]
  | non => simp [pr, k10]
  | tup ds => exact absurd rfl (hw ds)
  | _ => simp [plD] at hd
theorem same_tup (t u : D) (x3 x4 : Option D) (xs ds : List D) (junk : Sto) (hl : xs.length + ds.length ≤ 16000000) : ∃ junk', b3__law_same (gS t u x3 x4 none) (.lst ((xs ++ [D.tup ds]).map pr) :: junk) = .nx (gS t u (some (.tup ds)) (some (.tup ds)) none) (.lst ((xs ++ ds).map pr) :: junk') := by
  have k1 : kitB "tuple" "tuple" = some true := by decide
  have lc := fun l => pairs_same (some t) (some u) (some (.adr 0)) ds l (by omega)
  have hm : ds.length ≤ 1000000000000 := by omega
  have h1 : xs.length + ds.length ≤ 16777216 := by omega
  refine ⟨junk ++ [.lst (ds.map pr)], ?_⟩
  simp only [gS, b3__law_same]
  simp [pr, k1, hm, lc, h1]
theorem run_same (d : D) (hp : plD d = true) (hw : wD d ≤ 16000000) : ∃ junk, runB 6 den__law_same [d, d] [] = .ok (.bl true) junk := by
  obtain ⟨g', l', e1, e2⟩ := while_inv (c := c2__law_same) (b := b3__law_same) (fun n g l => ∃ (xs : List D) (x3 x4 : Option D) (junk : Sto), n = wDs xs ∧ plDs xs = true ∧ n ≤ 16000000 ∧ g = gS d d x3 x4 none ∧ l = .lst (xs.map pr) :: junk)
    (fun g l => True) (by
      rintro n g l ⟨xs, x3, x4, junk, rfl, h2, h3, rfl, rfl⟩
      rcases List.eq_nil_or_concat xs with rfl | ⟨ys, y, rfl⟩
      · left
        exact ⟨by simp [c2__law_same, gS], trivial⟩
      · right
        rw [List.concat_eq_append] at *
        rw [wDs_app] at *
        rw [plDs_app, Bool.and_eq_true] at h2
        simp only [wDs, plDs, Bool.and_true, Nat.add_zero] at h2 h3 ⊢
        have hy := wD_pos y
        refine ⟨by simp [c2__law_same, gS], ?_⟩
        by_cases ht : ∃ ds, y = .tup ds
        · obtain ⟨ds, rfl⟩ := ht
          simp only [wD] at h3 hy ⊢
          have l1 := wDs_len ys
          have l2 := wDs_len ds
          obtain ⟨junk', e⟩ := same_tup d d x3 x4 ys ds junk (by omega)
          exact ⟨_, _, wDs (ys ++ ds), e, by rw [wDs_app]; omega, ys ++ ds, _, _, junk', rfl, by rw [plDs_app, h2.1]; simpa [plD] using h2.2, by rw [wDs_app]; omega, rfl, rfl⟩
        · have e := same_leaf d d x3 x4 none ys y h2.2 (fun ds z => ht ⟨ds, z⟩) junk
          exact ⟨_, _, wDs ys, e, by omega, ys, _, _, junk, rfl, h2.1, by omega, rfl, rfl⟩) fuel (wDs [d]) (gS d d none none none) [.lst [pr d]] (by simp only [wDs, fuel]; omega) ⟨[d], none, none, [], rfl, by simp [plDs, hp], by simp only [wDs]; omega, rfl, rfl⟩
  refine ⟨l', ?_⟩
  simp only [gS, pr] at e1
  simp [den__law_same, e1]
theorem call_same (d : D) (hp : plD d = true) (hw : wD d ≤ 16000000) (l : Sto) : m__law_same [d, d] l = .ok (.bl true) l := by
  obtain ⟨junk, e⟩ := run_same d hp hw
  exact callM_p (by simp [pl_pu d hp]) e (by simp)
theorem pl_nD : ∀ ns : List Nat, plDs (ns.map nD) = true ∧ wDs (ns.map nD) = ns.length
  | [] => by simp [plDs, wDs]
  | n :: ns => by
    obtain ⟨h1, h2⟩ := pl_nD ns
    simp [plDs, wDs, plD, wD, h1, h2]
    omega
@[simp] theorem pl_row (fs : List Nat) : plD (rowD fs) = true := by simp [rowD, plD, pl_nD]
theorem w_row (fs : List Nat) : wD (rowD fs) = fs.length + 1 := by simp [rowD, wD, pl_nD]
@[simp] theorem plD_int (i : Int) : plD (.int i) = true := rfl
@[simp] theorem plD_str (i : Str) : plD (.str i) = true := rfl
@[simp] theorem plD_non : plD .non = true := rfl
@[simp] theorem plD_tup (ds : List D) : plD (.tup ds) = plDs ds := by simp [plD]
@[simp] theorem plDs_nil : plDs [] = true := rfl
@[simp] theorem plDs_cons (d : D) (ds : List D) : plDs (d :: ds) = (plD d && plDs ds) := by simp [plDs]
@[simp] theorem wD_int (i : Int) : wD (.int i) = 1 := rfl
@[simp] theorem wD_str (i : Str) : wD (.str i) = 1 := rfl
@[simp] theorem wD_non : wD .non = 1 := rfl
@[simp] theorem wD_tup (ds : List D) : wD (.tup ds) = wDs ds + 1 := by simp [wD]
@[simp] theorem wDs_nil : wDs [] = 0 := rfl
@[simp] theorem wDs_cons (d : D) (ds : List D) : wDs (d :: ds) = wD d + wDs ds := by simp [wDs]
end Q82

set_option Elab.async false
set_option linter.all false
set_option maxRecDepth 100000
set_option maxHeartbeats 4000000
namespace Q82
open PySem L2 PySem.Spec PyProof.Rows Zb Nm
section
variable {d : List Nat}
/-! ### choice_row, kind_sizes, kind_sums -/
theorem run_crow (n : Nat) (hn : n ≤ 400) : ∃ junk, runB 3 den_choice_row [nD n] [] = .ok (.tup ((List.range (n + 1)).map fun k => nD (C n k))) junk := by
  obtain ⟨g', l', e1, e2⟩ := for_inv (it := ⟨rng 0 n, none⟩) (gt := gN 2) (b := b1_choice_row) (fun j g l => j ≤ n ∧ ∃ y, g = [some (nD n), some (.adr 0), y] ∧ l = [.lst ((List.range (j + 1)).map fun k => nD (C n k))])
    (fun _ _ _ _ => trivial) (rng 0 n) 0 [some (nD n), some (.adr 0), none] [.lst [.int 1]] ⟨by omega, none, rfl, by simp [List.range_succ]⟩ (by
      rintro j e g l hj ⟨hjn, y, rfl, rfl⟩
      obtain ⟨hjl, he⟩ := rng_get hj
      subst he
      rw [Nat.zero_add] at *
      refine ⟨_, rfl, ?_⟩
      have d1 : divOk ((j : Int) + 1) = true := divOk_1 (by omega)
      have d2 : mulOk (C n j) ((n : Int) - j) = true := mul_C (by omega) (by omega)
      have d3 := C_next n j
      have hl : j + 1 + 1 ≤ 16777216 := by omega
      have hl2 : j + 1 ≤ 16777215 := by omega
      have hlast : ((List.range (j + 1)).map fun k => nD (C n k))[j]? = some (nD (C n j)) := by
        rw [List.getElem?_map, List.getElem?_range (by omega)]; rfl
      simp [b1_choice_row, hlast, d1, d2, d3, hl, hl2, Out.on, -List.getElem?_map]
      refine ⟨by omega, ?_⟩
      conv => rhs; rw [List.range_succ]
      simp)
  obtain ⟨_, y, rfl, rfl⟩ := e2
  rw [rng_length, Nat.zero_add] at e1
  have hm : mid (n : Int) = true := by rw [mid_nat]; simp; omega
  exact ⟨_, by simp [den_choice_row, hm, e1]; rfl⟩
theorem pus_map (f : Nat → Nat) (xs : List Nat) : pus (xs.map fun k => nD (f k)) = true := by
  have := pus_nD (xs.map f)
  rwa [List.map_map] at this
theorem call_crow (n : Nat) (hn : n ≤ 400) (l : Sto) : m_choice_row [nD n] l = .ok (.tup ((List.range (n + 1)).map fun k => nD (C n k))) l := by
  obtain ⟨junk, e⟩ := run_crow n hn
  exact callM_p (by simp) e (by simpa using pus_map (C n) _)
theorem lc_sizes (h : DieOk d) (n : Nat) (hn : n ≤ 400) (l : Sto) : lcL ⟨rng 0 (n + 1), none⟩ (gN 7) dYes e1_kind_sizes [some (dieD d), some (nD n), some (nD (wt d 0)), some (nD (rr d)), some (nD (lw d)), some (nD (ss d)), some (.tup ((List.range (n + 1)).map fun k => nD (C n k))), none] (rng 0 (n + 1)) l [] = .ok ((List.range (n + 1)).map fun k => nD (sizeN d n k)) l := by
  conv => lhs; arg 6; rw [rng_eq]
  have ft : (List.range (n + 1)).filter (fun _ => true) = List.range (n + 1) := List.filter_eq_self.mpr fun _ _ => rfl
  rw [lcL_fmap (by trivial) (fun i => nD i) (fun k => nD (sizeN d n k)) (fun _ => true) _ _ (fun k hk => ?_) (by simp; omega)]
  · rw [ft]; rfl
  · have hk' := List.mem_range.mp hk
    have hx : ((List.range (n + 1)).map fun k => nD (C n k))[k]? = some (nD (C n k)) := by rw [List.getElem?_map, List.getElem?_range hk']; rfl
    have c3 := fun l => call_powerI (rr d) k k rfl h.r5 (by omega) l
    have c4 := fun l => call_powerI (ss d) (n - k) ((n : Int) - k) (by omega) h.s5 (by omega) l
    have m1 : mulOk (C n k) ((rr d : Int) ^ k) = true := (bdC n k).mulOk (bdp _ k h.r5) (by omega)
    have m2 : mulOk ((C n k : Int) * (rr d : Int) ^ k) ((ss d : Int) ^ (n - k)) = true := ((bdC n k).mul (bdp _ k h.r5)).mulOk (bdp _ (n - k) h.s5) (by omega)
    refine ⟨[some (dieD d), some (nD n), some (nD (wt d 0)), some (nD (rr d)), some (nD (lw d)), some (nD (ss d)), some (.tup ((List.range (n + 1)).map fun k => nD (C n k))), some (nD k)], rfl, rfl, fun _ => ?_⟩
    simp only [e1_kind_sizes]
    simp [hx, c3, c4, m1, m2, sizeN, -List.getElem?_map]
theorem call_sizes (h : DieOk d) (n : Nat) (i : Int) (hi : i = n) (hn : n ≤ 400) (l : Sto) : m_kind_sizes [dieD d, .int i] l = .ok (.tup ((List.range (n + 1)).map fun k => nD (sizeN d n k))) l := by
  subst hi
  refine callM_p (junk := [.lst ((List.range (n + 1)).map fun k => nD (sizeN d n k))]) (by simp) ?_ (by simpa using pus_map (sizeN d n) _)
  have c1 := fun l => call_form h l
  have c2 := fun l => call_crow n hn l
  have lc := fun l => lc_sizes h n hn l
  have hm : mid ((n : Int) + 1) = true := by unfold mid; exact decide_eq_true (by omega)
  have ht : ((n : Int) + 1).toNat = n + 1 := by omega
  simp only [dieD] at c1 lc ⊢
  simp [den_kind_sizes, c1, c2, hm, ht, lc]
def preN (d : List Nat) (n k : Nat) : Nat := ((List.range k).map (sizeN d n)).sum
theorem pre_succ (d : List Nat) (n k : Nat) : preN d n (k + 1) = preN d n k + sizeN d n k := by simp [preN, List.range_succ, List.sum_append]
theorem call_sums (h : DieOk d) (n : Nat) (hn : n ≤ 400) (l : Sto) : m_kind_sums [dieD d, nD n] l = .ok (.tup ((List.range (n + 1)).map fun k => nD (preN d n k))) l := by
  have c1 := fun l => call_sizes h n n rfl hn l
  obtain ⟨g', l', e1, e2⟩ := for_inv (it := ⟨(List.range (n + 1)).map fun k => nD (sizeN d n k), none⟩) (gt := gN 4) (b := b1_kind_sums) (fun j g l => j ≤ n + 1 ∧ ∃ y, g = [some (dieD d), some (nD n), some (.adr 0), some (nD (preN d n j)), y] ∧ l = [.lst ((List.range j).map fun k => nD (preN d n k))])
    (fun _ _ _ _ => trivial) ((List.range (n + 1)).map fun k => nD (sizeN d n k)) 0 [some (dieD d), some (nD n), some (.adr 0), some (.int 0), none] [.lst []] ⟨by omega, none, rfl, rfl⟩ (by
      rintro j e g l hj ⟨hjn, y, rfl, rfl⟩
      rw [List.getElem?_map] at hj
      rw [Nat.zero_add] at *
      by_cases hjl : j < n + 1
      · rw [List.getElem?_range hjl] at hj
        simp only [Option.map_some, Option.some.injEq] at hj
        subst hj
        refine ⟨_, rfl, ?_⟩
        have hl2 : j ≤ 16777215 := by omega
        simp [b1_kind_sums, hl2, Out.on, pre_succ]
        refine ⟨by omega, ?_⟩
        conv => rhs; rw [List.range_succ]
        simp
      · rw [List.getElem?_eq_none (by simp; omega)] at hj
        cases hj)
  obtain ⟨_, y, rfl, rfl⟩ := e2
  rw [List.length_map, List.length_range, Nat.zero_add] at e1
  refine callM_p (junk := [.lst ((List.range (n + 1)).map fun k => nD (preN d n k))]) (by simp) ?_ (by simpa using pus_map (preN d n) _)
  simp only [dieD] at c1 e1 ⊢
  simp [den_kind_sums, c1, e1]
/-! ### next_row, row_steps -/
def nextD (d fs : List Nat) : D := if numN d fs + 1 < sizeN d fs.length (kindF d fs) then rowD (rowN d fs.length (kindF d fs) (numN d fs + 1)) else .non
theorem lc_nk (h : DieOk d) {fs : List Nat} (hf : RowOk d fs) (l : Sto) (x2 : Option D) : lcL ⟨fs.map nD, none⟩ (gN 3) q2_next_row e1_next_row [some (dieD d), some (rowD fs), x2, none] (fs.map nD) l [] = .ok ((fs.filter (isH d)).map nD) l := by
  rw [lcL_fmap (by trivial) nD nD (isH d) _ _ (fun x hx => ?_) (by have := hf.2; simp; omega)]
  · rfl
  · refine ⟨[some (dieD d), some (rowD fs), x2, some (nD x)], rfl, ?_, fun _ => by simp [e1_next_row]⟩
    have c := fun l => call_isH h (hf.1 x hx) l
    simp only [q2_next_row]
    simp [c]
theorem lc_sk (h : DieOk d) {fs : List Nat} (hf : RowOk d fs) (l : Sto) (x2 x3 x4 : Option D) : lcL ⟨fs.map nD, none⟩ (gN 5) q2_row_steps e1_row_steps [some (dieD d), some (rowD fs), x2, x3, x4, none] (fs.map nD) l [] = .ok ((fs.filter (isH d)).map nD) l := by
  rw [lcL_fmap (by trivial) nD nD (isH d) _ _ (fun x hx => ?_) (by have := hf.2; simp; omega)]
  · rfl
  · refine ⟨[some (dieD d), some (rowD fs), x2, x3, x4, some (nD x)], rfl, ?_, fun _ => by simp [e1_row_steps]⟩
    have c := fun l => call_isH h (hf.1 x hx) l
    simp only [q2_row_steps]
    simp [c]
theorem pu_next (d fs : List Nat) : pu (nextD d fs) = true := by unfold nextD; split <;> simp
theorem call_next (h : DieOk d) {fs : List Nat} (hf : RowOk d fs) (l : Sto) : m_next_row [dieD d, rowD fs] l = .ok (nextD d fs) l := by
  refine callM_p (junk := [.lst ((fs.filter (isH d)).map nD)]) (by simp) ?_ (pu_next d fs)
  have lc := fun l => lc_nk h hf l none
  have c1 := fun l => call_num h hf l
  have kl := kind_le d fs
  have hk : ((fs.filter (isH d)).length : Int) = (kindF d fs : Int) := rfl
  unfold nextD
  by_cases q : numN d fs + 1 < sizeN d fs.length (kindF d fs)
  · rw [if_pos q]
    have c2 := fun l => call_row h ((numN d fs : Int) + 1) (by omega) hf.2 q kl l
    simp only [dieD, rowD] at lc c1 c2 ⊢
    simp [den_next_row, lc, hk, c1, c2]
  · rw [if_neg q]
    have c2 := fun l => call_row_no h (n := fs.length) (k := kindF d fs) ((numN d fs : Int) + 1) (by omega) hf.2 kl l
    simp only [dieD, rowD] at lc c1 c2 ⊢
    simp [den_next_row, lc, hk, c1, c2]
theorem call_steps (h : DieOk d) {fs : List Nat} (hf : RowOk d fs) (st : Nat) (i : Int) (hi : i = st) (l : Sto) : m_row_steps [dieD d, rowD fs, .int i] l = .ok (rowD (rowN d fs.length (kindF d fs) ((numN d fs + st) % sizeN d fs.length (kindF d fs)))) l := by
  subst hi
  refine callM_p (junk := [.lst ((fs.filter (isH d)).map nD)]) (by simp) ?_ (by simp)
  have lc := fun l => lc_sk h hf l (some (nD st)) none none
  have c1 := fun l => call_num h hf l
  have kl := kind_le d fs
  have nl := num_lt h fs hf.1
  have hs : 0 < sizeN d fs.length (kindF d fs) := by omega
  have hk : ((fs.filter (isH d)).length : Int) = (kindF d fs : Int) := rfl
  have c0 := fun l => call_size h fs.length (kindF d fs) kl hf.2 l
  have hne : ¬ sizeN d fs.length (kindF d fs) = 0 := by omega
  have fm : ((numN d fs : Int) + (st : Int)).fmod (sizeN d fs.length (kindF d fs) : Int) = ((numN d fs : Int) + (st : Int)) % (sizeN d fs.length (kindF d fs) : Int) := Int.fmod_eq_emod_of_nonneg _ (by omega)
  have c2 := fun l => call_row h (n := fs.length) (k := kindF d fs) (x := (numN d fs + st) % sizeN d fs.length (kindF d fs)) (((numN d fs : Int) + (st : Int)) % (sizeN d fs.length (kindF d fs) : Int)) (by simp) hf.2 (Nat.mod_lt _ hs) kl l
  simp only [dieD, rowD] at lc c0 c1 c2 ⊢
  simp [den_row_steps, lc, hk, c1, c0, hne, fm, c2]
end
end Q82

set_option Elab.async false
set_option linter.all false
set_option maxRecDepth 100000
set_option maxHeartbeats 4000000
namespace Q82
open PySem L2 PySem.Spec PyProof.Rows Zb Nm
/-! ### values that are no faces -/
/-- simple values -/
def sv : D → Bool
  | .int _ => true
  | .bl _ => true
  | .str _ => true
  | .non => true
  | .tup ds => plDs ds
  | _ => false
def vF (m : Nat) : D → Bool
  | .int i => decide (0 ≤ i) && decide (i < m)
  | _ => false
theorem sv_pu (x : D) (h : sv x = true) : pu x = true := by
  cases x <;> simp [sv] at h <;> simp
  exact pls_pu _ h
theorem svs_pu : ∀ xs : List D, xs.all sv = true → pus xs = true
  | [], _ => rfl
  | x :: xs, h => by
    simp only [List.all_cons, Bool.and_eq_true] at h
    simp [sv_pu x h.1, svs_pu xs h.2]
theorem k_bt : kitB "bool" "int" = some true := by decide
theorem k_bb : kitB "bool" "bool" = some true := by decide
theorem k_ii : kitB "int" "int" = some true := by decide
theorem k_ib : kitB "int" "bool" = some false := by decide
theorem k_si : kitB "str" "int" = some false := by decide
theorem k_ni : kitB "NoneType" "int" = some false := by decide
theorem k_ti : kitB "tuple" "int" = some false := by decide
theorem k_tt : kitB "tuple" "tuple" = some true := by decide
theorem k_lt : kitB "list" "tuple" = some false := by decide
theorem k_nt : kitB "NoneType" "tuple" = some false := by decide
theorem k_it : kitB "int" "tuple" = some false := by decide
def isW : D → Bool
  | .int _ => true
  | _ => false
theorem call_whole (x : D) (h : sv x = true) (l : Sto) : m_is_whole [x] l = .ok (.bl (isW x)) l := by
  refine callM_p (junk := []) (by simp [sv_pu x h]) ?_ (by simp)
  cases x with
  | int i => simp [den_is_whole, k_ii, k_ib, isW]
  | bl i => simp [den_is_whole, k_bt, k_bb, isW]
  | str i => simp [den_is_whole, k_si, isW]
  | non => simp [den_is_whole, k_ni, isW]
  | tup i => simp [den_is_whole, k_ti, isW]
  | _ => simp [sv] at h
theorem call_between (x : D) (h : sv x = true) (m : Nat) (l : Sto) : m_is_between [x, .int 0, .int ((m : Int) - 1)] l = .ok (.bl (vF m x)) l := by
  refine callM_p (junk := []) (by simp [sv_pu x h]) ?_ (by simp)
  have c := fun l => call_whole x h l
  cases x with
  | int i =>
    by_cases q : 0 ≤ i
    · have e : decide (i ≤ (m : Int) - 1) = decide (i < (m : Int)) := by
        apply decide_eq_decide.mpr; omega
      simp [den_is_between, c, isW, vF, q, e]
    · simp [den_is_between, c, isW, vF, q]
  | bl i => simp [den_is_between, c, isW, vF]
  | str i => simp [den_is_between, c, isW, vF]
  | non => simp [den_is_between, c, isW, vF]
  | tup i => simp [den_is_between, c, isW, vF]
  | _ => simp [sv] at h
def badAt (m : Nat) (xs : List D) : Option Nat := xs.findIdx? fun x => !vF m x
def excF (C : Addr) (a : Nat) (l : Sto) : Out := .ex C [("at", nD a), ("word", .str "face")] l
theorem loop_faces (C : Addr) (d : List Nat) (th : D) (D0 : List D) (l : Sto) : ∀ (xs : List D) (i : Nat) (y2 y3 : Option D), xs.all sv = true →
    match badAt d.length xs with
    | none => ∃ g', sForL ⟨D0, none⟩ (gT [2, 3]) (b1_check_faces C) (enumF i xs) [some (dieD d), some th, y2, y3] l = .nx g' l ∧ g'[1]? = some (some th)
    | some a => sForL ⟨D0, none⟩ (gT [2, 3]) (b1_check_faces C) (enumF i xs) [some (dieD d), some th, y2, y3] l = .ex C [("at", nD (i + a)), ("word", .str "face")] l
  | [], i, y2, y3, _ => ⟨[some (dieD d), some th, y2, y3], by simp [enumF], rfl⟩
  | x :: xs, i, y2, y3, h => by
    simp only [List.all_cons, Bool.and_eq_true] at h
    have c := fun l => call_between x h.1 d.length l
    have hg : gT [2, 3] (.tup [.int i, x]) l [some (dieD d), some th, y2, y3] = some [some (dieD d), some th, some (nD i), some x] := rfl
    have ih := loop_faces C d th D0 l xs (i + 1) (some (nD i)) (some x) h.2
    unfold badAt at ih ⊢
    rw [List.findIdx?_cons]
    cases q : vF d.length x with
    | true =>
      rw [q] at c
      have eb : b1_check_faces C [some (dieD d), some th, some (nD i), some x] l = .nx [some (dieD d), some th, some (nD i), some x] l := by
        simp only [b1_check_faces, dieD]
        simp [c]
      simp only [enumF, for0_cons, hg, eb, loop_nx, Bool.not_true, Bool.false_eq_true, if_false]
      cases z : xs.findIdx? (fun x => !vF d.length x) with
      | none => rw [z] at ih; simpa using ih
      | some a =>
        rw [z] at ih
        simp only [Option.map_some]
        rw [ih]
        rw [show i + 1 + a = i + (a + 1) by omega]
    | false =>
      rw [q] at c
      have eb : b1_check_faces C [some (dieD d), some th, some (nD i), some x] l = .ex C [("at", nD i), ("word", .str "face")] l := by
        simp only [b1_check_faces, dieD]
        simp [c, Zy.sRaise]
      simp only [enumF, for0_cons, hg, eb, Bool.not_false, if_true, Nat.add_zero]
      rfl
/-- what is told of a tuple -/
def facT (m : Nat) (xs : List D) : D := match badAt m xs with
  | none => .tup [.str "told", nD xs.length]
  | some a => .tup [.str "die", nD a, .str "face"]
theorem run_faces (C : Addr) (d : List Nat) (xs : List D) (h : xs.all sv = true) (l : Sto) : runX 4 (den_check_faces C) [dieD d, .tup xs] l = match badAt d.length xs with
    | none => .ok (nD xs.length) l
    | some a => .exc C [("at", nD a), ("word", .str "face")] l := by
  have e := loop_faces C d (.tup xs) (enumF 0 xs) l xs 0 none none h
  cases z : badAt d.length xs with
  | none =>
    rw [z] at e
    obtain ⟨g', e1, e2⟩ := e
    simp only [dieD] at e1 ⊢
    simp [den_check_faces, k_tt, e1, e2]
  | some a =>
    rw [z] at e
    simp only [Nat.zero_add] at e
    simp only [dieD] at e ⊢
    simp [den_check_faces, k_tt, e]
theorem call_facesX (C : Addr) (d : List Nat) (xs : List D) (h : xs.all sv = true) (l : Sto) : m_check_faces C [dieD d, .tup xs] l = match badAt d.length xs with
    | none => .ok (nD xs.length) l
    | some a => .exc C [("at", nD a), ("word", .str "face")] l := by
  have e := run_faces C d xs h []
  cases z : badAt d.length xs with
  | none => rw [z] at e; exact callM_p (by simp [svs_pu xs h]) e (by simp)
  | some a => rw [z] at e; exact callM_x (by simp [svs_pu xs h]) e (by simp)
theorem call_heard (C : Addr) (d : List Nat) (xs : List D) (h : xs.all sv = true) (l : Sto) : m__law_heard C [dieD d, .tup xs] l = .ok (facT d.length xs) l := by
  have e := fun l => call_facesX C d xs h l
  refine callM_p (junk := []) (by simp [svs_pu xs h]) ?_ (by unfold facT; split <;> simp)
  unfold facT
  cases z : badAt d.length xs with
  | none => rw [z] at e; simp [den__law_heard, sTry1, e]
  | some a =>
    rw [z] at e
    have q1 : ((("word" : Str) == ("at" : Str)) = false) := by decide
    simp [den__law_heard, sTry1, e, hrD, hesD, heD, List.lookup, q1]
/-- other kinds of things -/
theorem call_heard_no (C : Addr) (d : List Nat) (x : D) (h : x = .non ∨ ∃ i, x = .int i) (l : Sto) : m__law_heard C [dieD d, x] l = .ok (.tup [.str "die", .int (-1), .str "shape"]) l := by
  have q1 : ((("word" : Str) == ("at" : Str)) = false) := by decide
  rcases h with rfl | ⟨i, rfl⟩
  · have e : ∀ l, m_check_faces C [dieD d, .non] l = .exc C [("at", .int (-1)), ("word", .str "shape")] l := fun l => callM_x (junk := []) (by simp) (by simp [den_check_faces, k_nt, Zy.sRaise]) (by simp)
    exact callM_p (junk := []) (by simp) (by simp [den__law_heard, sTry1, e, hrD, hesD, heD, List.lookup, q1]) (by simp)
  · have e : ∀ l, m_check_faces C [dieD d, .int i] l = .exc C [("at", .int (-1)), ("word", .str "shape")] l := fun l => callM_x (junk := []) (by simp) (by simp [den_check_faces, k_it, Zy.sRaise]) (by simp)
    exact callM_p (junk := []) (by simp) (by simp [den__law_heard, sTry1, e, hrD, hesD, heD, List.lookup, q1]) (by simp)
def noT : D := .tup [.str "die", .int (-1), .str "shape"]
theorem call_heard_l (C : Addr) (d fs : List Nat) (l : Sto) (k : Nat) (hk : l[k]? = some (.lst (fs.map nD))) : m__law_heard C [dieD d, .adr k] l = .ok noT l := by
  have q1 : ((("word" : Str) == ("at" : Str)) = false) := by decide
  have ha : ∀ j, adsDs [dieD d, .adr j] = [j] := fun j => by simp [adsDs, ads_pure _ (pu_die d), adsD]
  have hr : ∀ j, renDs (fun _ => 0) [dieD d, .adr j] = [dieD d, .adr 0] := fun j => by simp [renDs, ren_pure _ _ (pu_die d), renD]
  have e : m_check_faces C [dieD d, .adr 0] [.lst (fs.map nD)] = .exc C [("at", .int (-1)), ("word", .str "shape")] [.lst (fs.map nD)] :=
    callM_readx (junk := []) (ha 0) rfl (by simp) (by rw [hr]; simp [den_check_faces, k_lt, Zy.sRaise]) (by simp)
  exact callM_read (junk := []) (ha k) hk (by simp) (by rw [hr]; simp [den__law_heard, sTry1, e, hrD, hesD, heD, List.lookup, q1, noT]) (by simp [noT])
/-! ### _law_fault -/
theorem loop_fault (d : List Nat) (all : List D) (D0 : List D) (l : Sto) : ∀ (xs : List D) (i : Nat) (y2 : Option D), xs.all sv = true → (∀ j, xs[j]? = all[i + j]?) →
    match badAt d.length xs with
    | none => ∃ g', sForL ⟨D0, none⟩ (gN 2) b1__law_fault ((List.range' i xs.length).map nD) [some (dieD d), some (.tup all), y2] l = .nx g' l ∧ g'[1]? = some (some (.tup all))
    | some a => sForL ⟨D0, none⟩ (gN 2) b1__law_fault ((List.range' i xs.length).map nD) [some (dieD d), some (.tup all), y2] l = .rt (.tup [.str "die", nD (i + a), .str "face"]) l
  | [], i, y2, _, _ => ⟨[some (dieD d), some (.tup all), y2], by simp, rfl⟩
  | x :: xs, i, y2, h, hx => by
    simp only [List.all_cons, Bool.and_eq_true] at h
    have hxi : all[i]? = some x := by have := hx 0; simpa using this.symm
    have hg : gN 2 (nD i) l [some (dieD d), some (.tup all), y2] = some [some (dieD d), some (.tup all), some (nD i)] := rfl
    have ih := loop_fault d all D0 l xs (i + 1) (some (nD i)) h.2 (fun j => by have := hx (j + 1); rw [List.getElem?_cons_succ] at this; rw [this]; congr 1; omega)
    unfold badAt at ih ⊢
    rw [List.findIdx?_cons]
    rw [List.length_cons, List.range'_succ, List.map_cons]
    have eb : b1__law_fault [some (dieD d), some (.tup all), some (nD i)] l = if vF d.length x then .nx [some (dieD d), some (.tup all), some (nD i)] l else .rt (.tup [.str "die", nD i, .str "face"]) l := by
      simp only [b1__law_fault, dieD]
      cases x with
      | int z =>
        by_cases q : 0 ≤ z
        · by_cases q2 : z < (d.length : Int)
          · simp [hxi, k_ii, k_ib, vF, q, q2]
          · simp [hxi, k_ii, k_ib, vF, q, q2]
        · simp [hxi, k_ii, k_ib, vF, q]
      | bl z => simp [hxi, k_bt, k_bb, vF]
      | str z => simp [hxi, k_si, vF]
      | non => simp [hxi, k_ni, vF]
      | tup z => simp [hxi, k_ti, vF]
      | _ => simp [sv] at h
    rw [for0_cons, hg]
    simp only [eb]
    cases q : vF d.length x with
    | true =>
      simp only [if_true, loop_nx, Bool.not_true, Bool.false_eq_true, if_false]
      cases z : xs.findIdx? (fun x => !vF d.length x) with
      | none => rw [z] at ih; simpa using ih
      | some a =>
        rw [z] at ih
        simp only [Option.map_some]
        rw [ih]
        rw [show i + 1 + a = i + (a + 1) by omega]
    | false =>
      simp only [Bool.false_eq_true, if_false, loop_rt, Bool.not_false, if_true, Nat.add_zero]
theorem call_fault (d : List Nat) (xs : List D) (h : xs.all sv = true) (hl : xs.length ≤ 1000000) (l : Sto) : m__law_fault [dieD d, .tup xs] l = .ok (facT d.length xs) l := by
  refine callM_p (junk := []) (by simp [svs_pu xs h]) ?_ (by unfold facT; split <;> simp)
  have e := loop_fault d xs (rng 0 xs.length) [] xs 0 none h (fun j => by simp)
  have hr : (List.range' 0 xs.length).map nD = rng 0 xs.length := by rw [rng_eq, List.range_eq_range']
  have hm : mid (xs.length : Int) = true := by rw [mid_nat]; simp; omega
  have hm2 : xs.length ≤ 1000000000000 := by omega
  rw [hr] at e
  unfold facT
  cases z : badAt d.length xs with
  | none =>
    rw [z] at e
    obtain ⟨g', e1, e2⟩ := e
    simp only [dieD] at e1 ⊢
    simp [den__law_fault, k_tt, hm2, e1, e2]
  | some a =>
    rw [z] at e
    simp only [Nat.zero_add] at e
    simp only [dieD] at e ⊢
    simp [den__law_fault, k_tt, hm2, e]
theorem call_fault_no (d : List Nat) (x : D) (h : x = .non ∨ ∃ i, x = .int i) (l : Sto) : m__law_fault [dieD d, x] l = .ok noT l := by
  rcases h with rfl | ⟨i, rfl⟩
  · exact callM_p (junk := []) (by simp) (by simp [den__law_fault, k_nt, noT]) (by simp [noT])
  · exact callM_p (junk := []) (by simp) (by simp [den__law_fault, k_it, noT]) (by simp [noT])
theorem call_fault_l (d fs : List Nat) (l : Sto) (k : Nat) (hk : l[k]? = some (.lst (fs.map nD))) : m__law_fault [dieD d, .adr k] l = .ok noT l := by
  have ha : ∀ j, adsDs [dieD d, .adr j] = [j] := fun j => by simp [adsDs, ads_pure _ (pu_die d), adsD]
  have hr : ∀ j, renDs (fun _ => 0) [dieD d, .adr j] = [dieD d, .adr 0] := fun j => by simp [renDs, ren_pure _ _ (pu_die d), renD]
  exact callM_read (junk := []) (ha k) hk (by simp) (by rw [hr]; simp [den__law_fault, k_lt, noT]) (by simp [noT])
/-- rows are right -/
theorem bad_row {d fs : List Nat} (hf : RowOk d fs) : badAt d.length (fs.map nD) = none := by
  unfold badAt
  rw [List.findIdx?_eq_none_iff]
  intro x hx
  obtain ⟨f, hf2, rfl⟩ := List.mem_map.mp hx
  have := hf.1 f hf2
  simp [vF]
  omega
theorem sv_nD : ∀ ns : List Nat, (ns.map nD).all sv = true
  | [] => rfl
  | n :: ns => by simp [sv, sv_nD ns]
theorem call_cfaces (C : Addr) {d fs : List Nat} (hf : RowOk d fs) (l : Sto) : m_check_faces C [dieD d, rowD fs] l = .ok (nD fs.length) l := by
  have := call_facesX C d (fs.map nD) (sv_nD fs) l
  rw [bad_row hf] at this
  simp only [List.length_map] at this
  exact this
end Q82

set_option Elab.async false
set_option linter.all false
set_option maxRecDepth 100000
set_option maxHeartbeats 4000000
namespace Q82
open PySem L2 PySem.Spec PyProof.Rows Zb Nm
/-! ### tables -/
def tabD (t : List (List Nat)) : D := .tup (t.map rowD)
theorem pus_tab : ∀ t : List (List Nat), pus (t.map rowD) = true
  | [] => rfl
  | r :: t => by simp [pus_tab t]
@[simp] theorem pu_tab (t : List (List Nat)) : pu (tabD t) = true := by simp [tabD, pus_tab]
/-- a table of the law's own -/
structure TabOk (d : List Nat) (n m : Nat) (t : List (List Nat)) : Prop where
  len : t.length = n + 1
  n100 : n ≤ 100
  m1 : 1 ≤ m
  m5 : m ≤ 5
  row : ∀ (k : Nat) (r : List Nat), t[k]? = some r → r.length = m ∧ r.sum = sizeN d n k
theorem call_isnum (x : Nat) (l : Sto) : m_is_number [nD x] l = .ok (.bl true) l := by
  have c := fun l => call_whole (nD x) rfl l
  exact callM_p (junk := []) (by simp) (by simp [den_is_number, c, isW]) (by simp)
theorem ints_nD (r : List Nat) : intsOf (r.map nD) = some (r.map fun x : Nat => (x : Int)) := by
  have := ints_map_e (r.map fun x : Nat => (x : Int))
  rw [List.map_map] at this
  exact this
theorem sum_cast : ∀ r : List Nat, (r.map fun x : Nat => (x : Int)).sum = ((r.sum : Nat) : Int)
  | [] => rfl
  | x :: r => by simp [sum_cast r]
theorem call_form_row (C : Addr) (k : Nat) (r : List Nat) (m : Nat) (hm : r.length = m) (hl : m ≤ 5) (l : Sto) : m_check_row_form C [nD k, rowD r, nD m] l = .ok .non l := by
  have lc : ∀ l, lcL ⟨r.map nD, none⟩ (gN 3) (q2_check_row_form C) (e1_check_row_form C) [some (nD k), some (rowD r), some (nD m), none] (r.map nD) l [] = .ok [] l := fun l => by
    have ft : r.filter (fun _ => false) = [] := by simp
    rw [lcL_fmap (by trivial) nD nD (fun _ => false) _ _ (fun x hx => ?_) (by simp; omega)]
    · rw [ft]; rfl
    · have c := fun l => call_isnum x l
      refine ⟨[some (nD k), some (rowD r), some (nD m), some (nD x)], rfl, by simp [q2_check_row_form, c], fun z => by cases z⟩
  refine callM_p (junk := [.lst []]) (by simp) ?_ (by simp)
  simp only [rowD] at lc ⊢
  simp [den_check_row_form, hm, lc]
theorem tab_ix {t : List (List Nat)} {k : Nat} {r : List Nat} (h : t[k]? = some r) : (t.map rowD)[k]? = some (rowD r) := by rw [List.getElem?_map, h]; rfl
theorem call_crows (h : DieOk d) {n m : Nat} {t : List (List Nat)} (T : TabOk d n m t) (C : Addr) (l : Sto) : m_check_rows C [dieD d, tabD t, .int 0] l = .ok (.tup ((List.range (n + 1)).map fun k => nD (sizeN d n k))) l := by
  obtain ⟨hl, h100, h1, h5, hr⟩ := T
  have c1 := fun l => call_sizes h n (((n + 1 : Nat) : Int) - 1) (by omega) (by omega) l
  have lc : ∀ l, lcL ⟨t.map rowD, none⟩ (gN 3) (q2_check_rows C) (e1_check_rows C) [some (dieD d), some (tabD t), some (.int 0), none] (t.map rowD) l [] = .ok [] l := fun l => by
    have ft : t.filter (fun _ => false) = [] := by simp
    rw [lcL_fmap (by trivial) rowD rowD (fun _ => false) _ _ (fun x hx => ?_) (by simp; omega)]
    · rw [ft]; rfl
    · exact ⟨[some (dieD d), some (tabD t), some (.int 0), some (rowD x)], rfl, by simp [q2_check_rows, rowD, k_tt], fun z => by cases z⟩
  cases ht : t with
  | nil => rw [ht] at hl; simp at hl
  | cons r0 t' =>
    have hr0 := (hr 0 r0 (by rw [ht]; rfl)).1
    refine callM_p (junk := [.lst []]) (by simp) ?_ (by simpa using pus_map (sizeN d n) _)
    have hl' : t'.length = n := by rw [ht] at hl; simpa using hl
    have e1 : ((t'.length : Int) + 1 - 1) = (n : Int) := by omega
    have c1' := fun l => call_sizes h n (n : Int) rfl (by omega) l
    have q1 : (n : Int) ≤ 100 := by omega
    have q2 : (1 : Int) ≤ (m : Int) := by omega
    have q3 : (m : Int) ≤ 5 := by omega
    have q0 : ¬ (n : Int) + 1 = 0 := by omega
    have q4 : (0 : Int) ≤ (n : Int) := by omega
    rw [ht] at lc
    simp only [tabD, rowD, List.map_cons, dieD] at lc c1' ⊢
    simp [den_check_rows, k_tt, q0, lc, hl', q1, hr0, q2, q3, q4, h1, h5, h100, c1']
theorem call_ctable (h : DieOk d) {n m : Nat} {t : List (List Nat)} (T : TabOk d n m t) (C : Addr) (l : Sto) : m_check_table C [dieD d, tabD t] l = .ok (nD m) l := by
  have c1 := fun l => call_crows h T C l
  obtain ⟨hl, h100, h1, h5, hr⟩ := T
  obtain ⟨r0, hr0⟩ : ∃ r0, t[0]? = some r0 := ⟨t[0], List.getElem?_eq_getElem (by omega)⟩
  have hm0 := (hr 0 r0 hr0).1
  have h0 := tab_ix hr0
  obtain ⟨g', l', e1, e2⟩ := for_inv (it := ⟨enumF 0 (t.map rowD), none⟩) (gt := gT [3, 4]) (b := b1_check_table C) (fun j g l => l = [] ∧ ∃ y z, g = [some (dieD d), some (tabD t), some (.tup ((List.range (n + 1)).map fun k => nD (sizeN d n k))), y, z])
    (fun _ _ _ _ => trivial) (enumF 0 (t.map rowD)) 0 [some (dieD d), some (tabD t), some (.tup ((List.range (n + 1)).map fun k => nD (sizeN d n k))), none, none] [] ⟨rfl, none, none, rfl⟩ (by
      rintro j e g l hj ⟨rfl, y, z, rfl⟩
      rw [enumF_get, List.getElem?_map] at hj
      cases q : t[j]? with
      | none => rw [q] at hj; cases hj
      | some r =>
        rw [q] at hj
        simp only [Option.map_some, Option.some.injEq] at hj
        subst hj
        obtain ⟨a1, a2⟩ := hr j r q
        have hjl : j < n + 1 := by have := (List.getElem?_eq_some_iff.mp q).1; omega
        have hs : ((List.range (n + 1)).map fun k => nD (sizeN d n k))[j]? = some (nD (sizeN d n j)) := by rw [List.getElem?_map, List.getElem?_range hjl]; rfl
        have cf := fun l => call_form_row C j r m a1 h5 l
        have e0 : ((0 + j : Nat) : Int) = (j : Int) := by omega
        rw [e0]
        refine ⟨[some (dieD d), some (tabD t), some (.tup ((List.range (n + 1)).map fun k => nD (sizeN d n k))), some (nD j), some (rowD r)], rfl, ?_⟩
        have i1 := ints_nD r
        have i2 := sum_cast r
        rw [a2] at i2
        simp only [tabD, rowD, b1_check_table] at cf h0 ⊢
        simp [h0, hm0, cf, i1, i2, hs, Out.on, -List.getElem?_map])
  obtain ⟨rfl, y, z, rfl⟩ := e2
  refine callM_p (junk := []) (by simp) ?_ (by simp)
  simp only [tabD, rowD] at c1 h0 e1 ⊢
  simp [den_check_table, c1, e1, h0, hm0, -List.getElem?_map]
/-! outcomes -/
def plc : List Nat → Nat → Nat → Option Nat
  | [], _, _ => none
  | a :: r, x, i => if x < a then some i else plc r (x - a) (i + 1)
def outD : Option Nat → D
  | some i => nD i
  | none => .non
theorem loop_place (all : List Nat) (D0 : List D) (x : Nat) (l : Sto) : ∀ (r : List Nat) (i a : Nat) (y3 y4 : Option D), a ≤ x →
    match plc r (x - a) i with
    | none => ∃ g', sForL ⟨D0, none⟩ (gT [3, 4]) b1_place_in_row (enumF i (r.map nD)) [some (rowD all), some (nD x), some (nD a), y3, y4] l = .nx g' l
    | some o => sForL ⟨D0, none⟩ (gT [3, 4]) b1_place_in_row (enumF i (r.map nD)) [some (rowD all), some (nD x), some (nD a), y3, y4] l = .rt (nD o) l
  | [], i, a, y3, y4, _ => ⟨[some (rowD all), some (nD x), some (nD a), y3, y4], by simp [enumF]⟩
  | b :: r, i, a, y3, y4, ha => by
    have hg : gT [3, 4] (.tup [.int i, nD b]) l [some (rowD all), some (nD x), some (nD a), y3, y4] = some [some (rowD all), some (nD x), some (nD a), some (nD i), some (nD b)] := rfl
    simp only [plc, List.map_cons, enumF]
    rw [for0_cons, hg]
    by_cases q : x - a < b
    · rw [if_pos q]
      have q' : (x : Int) < (a : Int) + (b : Int) := by omega
      simp [b1_place_in_row, q']
    · rw [if_neg q]
      have q' : ¬ (x : Int) < (a : Int) + (b : Int) := by omega
      have ih := loop_place all D0 x l r (i + 1) (a + b) (some (nD i)) (some (nD b)) (by omega)
      rw [show x - (a + b) = x - a - b by omega] at ih
      have eb : b1_place_in_row [some (rowD all), some (nD x), some (nD a), some (nD i), some (nD b)] l = .nx [some (rowD all), some (nD x), some (nD (a + b)), some (nD i), some (nD b)] l := by simp [b1_place_in_row, q']
      simp only [eb, loop_nx]
      exact ih
theorem call_place_in (r : List Nat) (x : Nat) (l : Sto) : m_place_in_row [rowD r, nD x] l = .ok (outD (plc r x 0)) l := by
  have e := loop_place r (enumF 0 (r.map nD)) x [] r 0 0 none none (by omega)
  have z0 : nD 0 = D.int 0 := rfl
  rw [Nat.sub_zero, z0] at e
  refine callM_p (junk := []) (by simp) ?_ (by cases plc r x 0 <;> simp [outD])
  cases q : plc r x 0 with
  | none =>
    rw [q] at e
    obtain ⟨g', e⟩ := e
    simp only [rowD] at e ⊢
    simp [den_place_in_row, e, outD]
  | some o =>
    rw [q] at e
    simp only [rowD] at e ⊢
    simp [den_place_in_row, e, outD]
theorem loop_lout (d : List Nat) (t : List (List Nat)) (fs all : List Nat) (D0 : List D) (l : Sto) : ∀ (r : List Nat) (i x : Nat) (y5 : Option D), (∀ j, r[j]? = all[i + j]?) →
    match plc r x i with
    | none => ∃ g', sForL ⟨D0, none⟩ (gN 5) b1__law_outcome ((List.range' i r.length).map nD) [some (dieD d), some (tabD t), some (rowD fs), some (nD x), some (rowD all), y5] l = .nx g' l
    | some o => sForL ⟨D0, none⟩ (gN 5) b1__law_outcome ((List.range' i r.length).map nD) [some (dieD d), some (tabD t), some (rowD fs), some (nD x), some (rowD all), y5] l = .rt (nD o) l
  | [], i, x, y5, _ => ⟨[some (dieD d), some (tabD t), some (rowD fs), some (nD x), some (rowD all), y5], by simp⟩
  | b :: r, i, x, y5, hx => by
    have hg : gN 5 (nD i) l [some (dieD d), some (tabD t), some (rowD fs), some (nD x), some (rowD all), y5] = some [some (dieD d), some (tabD t), some (rowD fs), some (nD x), some (rowD all), some (nD i)] := rfl
    have hb : (all.map nD)[i]? = some (nD b) := by
      have := hx 0
      simp only [List.getElem?_cons_zero, Nat.add_zero] at this
      rw [List.getElem?_map, ← this]; rfl
    simp only [plc, List.length_cons, List.range'_succ, List.map_cons]
    rw [for0_cons, hg]
    by_cases q : x < b
    · rw [if_pos q]
      have q' : (x : Int) < (b : Int) := by omega
      simp only [rowD, b1__law_outcome]
      simp [hb, q']
    · rw [if_neg q]
      have q' : ¬ (x : Int) < (b : Int) := by omega
      have ih := loop_lout d t fs all D0 l r (i + 1) (x - b) (some (nD i)) (fun j => by have := hx (j + 1); rw [List.getElem?_cons_succ] at this; rw [this]; congr 1; omega)
      have hs : (x : Int) - (b : Int) = ((x - b : Nat) : Int) := by omega
      have eb : b1__law_outcome [some (dieD d), some (tabD t), some (rowD fs), some (nD x), some (rowD all), some (nD i)] l = .nx [some (dieD d), some (tabD t), some (rowD fs), some (nD (x - b)), some (rowD all), some (nD i)] l := by
        simp only [rowD, b1__law_outcome]
        simp [hb, q', hs]
      simp only [eb, loop_nx]
      exact ih
theorem call_outs (h : DieOk d) {n m : Nat} {t : List (List Nat)} (T : TabOk d n m t) {fs : List Nat} (hf : RowOk d fs) (hn : fs.length = n) (l : Sto) : ∃ o, m_outcome_of [dieD d, tabD t, rowD fs] l = .ok (outD o) l ∧ m__law_outcome [dieD d, tabD t, rowD fs] l = .ok (outD o) l := by
  have kl := kind_le d fs
  have hkl : kindF d fs < t.length := by rw [T.len]; omega
  obtain ⟨r, hr⟩ : ∃ r, t[kindF d fs]? = some r := ⟨t[kindF d fs], List.getElem?_eq_getElem hkl⟩
  have hix := tab_ix hr
  have hrl := (T.row _ r hr).1
  have hm5 := T.m5
  refine ⟨plc r (numN d fs) 0, ?_, ?_⟩
  · refine callM_p (junk := []) (by simp) ?_ (by cases plc r (numN d fs) 0 <;> simp [outD])
    have c1 := fun l => call_rkind h hf l
    have c2 := fun l => call_num h hf l
    have c3 := fun l => call_place_in r (numN d fs) l
    simp only [tabD] at hix ⊢
    simp [den_outcome_of, c1, c2, hix, c3, -List.getElem?_map]
  · refine callM_p (junk := []) (by simp) ?_ (by cases plc r (numN d fs) 0 <;> simp [outD])
    have c1 := fun l => call_lkind h hf l
    have c2 := fun l => call_lnum h hf l
    have e := loop_lout d t fs r (rng 0 r.length) [] r 0 (numN d fs) none (fun j => by simp)
    have hrr : (List.range' 0 r.length).map nD = rng 0 r.length := by rw [rng_eq, List.range_eq_range']
    have hmm : mid (r.length : Int) = true := by rw [mid_nat]; simp; omega
    rw [hrr] at e
    cases q : plc r (numN d fs) 0 with
    | none =>
      rw [q] at e
      obtain ⟨g', e⟩ := e
      simp only [tabD, rowD] at hix c1 c2 e ⊢
      simp [den__law_outcome, c1, c2, hix, hmm, e, outD, -List.getElem?_map]
    | some o =>
      rw [q] at e
      simp only [tabD, rowD] at hix c1 c2 e ⊢
      simp [den__law_outcome, c1, c2, hix, hmm, e, outD, -List.getElem?_map]
end Q82

set_option Elab.async false
set_option linter.all false
set_option maxRecDepth 100000
set_option maxHeartbeats 4000000
namespace Q82
open PySem L2 PySem.Spec PyProof.Rows Zb Nm
/-! ### the jug -/
def ob (J : Jug) : OB := .lst [.adr 1, .int J.f]
def JOk (J : Jug) : Prop := 0 ≤ J.f ∧ J.f < 2147483647 ∧ J.gs.length ≤ 1000
theorem reach_J (J : Jug) (r : Sto) (ds : List D) (h : pus ds = true) : reach ([ob J, J.gob] ++ r) (adsDs (.adr 0 :: ds)) = List.range 2 := by
  have e : adsDs (.adr 0 :: ds) = [0] := by simp [adsDs, adsD, adss_pure ds h]
  rw [e]
  have l1 : levS ([ob J, J.gob] ++ r) [0] = [1] := by simp [levS, ob, adsO, adsDs, adsD]
  have l2 : levS ([ob J, J.gob] ++ r) [1] = [] := by simp [levS, Jug.gob, adsO, adss_pure _ (pus_ints J.gs)]
  unfold reach
  simp only [l1, l2, show levS ([ob J, J.gob] ++ r) [] = [] from rfl]
  rfl
theorem closed_J (J : Jug) : ∀ o ∈ [ob J, J.gob], ∀ j ∈ adsO o, j < 2 := by
  intro o ho j hj
  simp only [List.mem_cons, List.not_mem_nil, or_false] at ho
  rcases ho with rfl | rfl
  · simp [ob, adsO, adsDs, adsD] at hj; omega
  · rw [Jug.gob] at hj; simp [adsO, adss_pure _ (pus_ints J.gs)] at hj
section
variable {run : List D → Sto → Res D} {ds : List D} {J J' : Jug} {junk : Sto} {d : D}
theorem callJ (hds : pus ds = true) (h : run (.adr 0 :: ds) [ob J, J.gob] = .ok d (ob J' :: J'.gob :: junk)) (hd : pu d = true) (r : Sto) : callM run (.adr 0 :: ds) (ob J :: J.gob :: r) = .ok d (ob J' :: J'.gob :: r) :=
  callM_pre (S := [ob J, J.gob]) (S' := [ob J', J'.gob]) (r := r) (k := 2) rfl (reach_J J r ds hds) (closed_J J) (by simpa using h) rfl (closed_J J') (by rw [ads_pure d hd]; simp)
end
@[simp] theorem ixN_last (n : Nat) : ixN (n + 1) (-1) = some n := by
  unfold ixN
  rw [if_neg (by omega), if_pos (by omega)]
  congr 1
  omega
theorem mul_f {f c : Int} (h : 0 ≤ f ∧ f < 2147483647) (hc : c.natAbs < 2 ^ 31) : mulOk f c = true :=
  Bd.mulOk (a := 31) (b := 31) (by unfold Bd; have : (2 : Nat) ^ 31 = 2147483648 := rfl; omega) hc (by decide)
theorem run_pour (J : Jug) (m : Nat) (hJ : JOk J) (h1 : 1 ≤ m) (h2 : m ≤ 1000000) : ∃ (n : Nat) (J' : Jug), n < m ∧ JOk J' ∧ runB 4 den__law_pour [.adr 0, nD m] [ob J, J.gob] = .ok (nD n) [ob J', J'.gob] := by
  obtain ⟨f, gs⟩ := J
  obtain ⟨hJ1, hJ2, hJ3⟩ := hJ
  simp only at hJ1 hJ2 hJ3
  have hm' : ¬ m = 0 := by omega
  have hd := divOk_n h1 (by omega : m < 1048576)
  obtain ⟨g', l', e1, e2⟩ := while_inv (c := c1__law_pour) (b := b2__law_pour) (fun n g l => n ≤ 1000 ∧ ∃ hs : List Int, hs.length = n ∧ g = [some (.adr 0), some (nD m), some (.adr 1), none] ∧ l = [ob ⟨f, hs⟩, .lst (hs.map D.int)])
    (fun g l => ∃ hs : List Int, hs.length ≤ 1000 ∧ g = [some (.adr 0), some (nD m), some (.adr 1), none] ∧ l = [ob ⟨f, hs⟩, .lst (hs.map D.int)]) (by
      rintro n g l ⟨hn, hs, rfl, rfl, rfl⟩
      rcases List.eq_nil_or_concat hs with rfl | ⟨hs', s, rfl⟩
      · left
        exact ⟨by simp [c1__law_pour], [], by simp, rfl, rfl⟩
      · rw [List.concat_eq_append] at *
        by_cases q : s = 0
        · right
          subst q
          refine ⟨by simp [c1__law_pour], [some (.adr 0), some (nD m), some (.adr 1), none], [ob ⟨f, hs'⟩, .lst (hs'.map D.int)], hs'.length, by simp [b2__law_pour, ob], by simp, by simp at hn; omega, hs', rfl, rfl, rfl⟩
        · left
          exact ⟨by simp [c1__law_pour, q], _, hn, rfl, rfl⟩) fuel gs.length [some (.adr 0), some (nD m), some (.adr 1), none] [ob ⟨f, gs⟩, .lst (gs.map D.int)] (by unfold fuel; omega) ⟨hJ3, gs, rfl, rfl, rfl⟩
  obtain ⟨hs, hl, rfl, rfl⟩ := e2
  simp only [ob] at e1
  rcases List.eq_nil_or_concat hs with rfl | ⟨hs', s, rfl⟩
  · have hmul : mulOk f 62089911 = true := mul_f ⟨hJ1, hJ2⟩ (by decide)
    have hd2 : divOk 109 = true := by decide
    have hf0 : 0 ≤ (f * 62089911 + 1301).fmod 2147483647 := Int.fmod_nonneg_of_pos _ (by decide)
    have hf1 : (f * 62089911 + 1301).fmod 2147483647 < 2147483647 := Int.fmod_lt_of_pos _ (by decide)
    have n0 : 0 ≤ ((f * 62089911 + 1301).fmod 2147483647 / 109).fmod (m : Int) := Int.fmod_nonneg_of_pos _ (by omega)
    have n1 : ((f * 62089911 + 1301).fmod 2147483647 / 109).fmod (m : Int) < (m : Int) := Int.fmod_lt_of_pos _ (by omega)
    obtain ⟨n, hn⟩ : ∃ n : Nat, ((f * 62089911 + 1301).fmod 2147483647 / 109).fmod (m : Int) = (n : Int) := ⟨_, (Int.toNat_of_nonneg n0).symm⟩
    refine ⟨n, ⟨(f * 62089911 + 1301).fmod 2147483647, []⟩, by omega, ⟨hf0, hf1, by simp⟩, ?_⟩
    simp only [List.map_nil] at e1
    simp [den__law_pour, ob, Jug.gob, e1, hmul, hd2, hm', hn]
  · rw [List.concat_eq_append] at *
    have n0 : 0 ≤ s.fmod (m : Int) := Int.fmod_nonneg_of_pos _ (by omega)
    have n1 : s.fmod (m : Int) < (m : Int) := Int.fmod_lt_of_pos _ (by omega)
    obtain ⟨n, hn⟩ : ∃ n : Nat, s.fmod (m : Int) = (n : Int) := ⟨_, (Int.toNat_of_nonneg n0).symm⟩
    refine ⟨n, ⟨f, hs' ++ [s / m]⟩, by omega, ⟨hJ1, hJ2, by simpa using hl⟩, ?_⟩
    simp at e1
    simp [den__law_pour, ob, Jug.gob, e1, hd, hm', hn]
theorem pour {J : Jug} (hJ : JOk J) (m : Nat) (i : Int) (hi : i = m) (h1 : 1 ≤ m) (h2 : m ≤ 1000000) : ∃ (n : Nat) (J' : Jug), n < m ∧ JOk J' ∧ ∀ r : Sto, m__law_pour [.adr 0, .int i] (ob J :: J.gob :: r) = .ok (.int n) (ob J' :: J'.gob :: r) := by
  subst hi
  obtain ⟨n, J', h3, h4, e⟩ := run_pour J m hJ h1 h2
  exact ⟨n, J', h3, h4, fun r => callJ (junk := []) (by simp) e (by simp) r⟩
/-! ### _law_jug -/
theorem b1_jug {x0 x4 : Option D} {f : Int} (hf : 0 ≤ f ∧ f < 2147483647) (gs : List Int) (hg : gs.length ≤ 900) (i : Int) (B : OB) : ∃ (f' : Int) (gs' : List Int) (x4' : Option D), (0 ≤ f' ∧ f' < 2147483647) ∧ gs'.length ≤ gs.length + 1 ∧
    b1__law_jug [x0, some (.adr 0), some (.int f), some (.int i), x4] [.lst (gs.map D.int), B] = .nx [x0, some (.adr 0), some (.int f'), some (.int i), x4'] [.lst (gs'.map D.int), B] := by
  have hp : powW 10 60 = true := by decide
  have hp2 : powW (10 ^ 60) 8 = true := by decide +kernel
  have hp3 : powW 10 18 = true := by decide
  have hm : mulOk f 742938285 = true := mul_f hf (by decide)
  have hz : ¬ (((10 : Int) ^ 60) ^ 8 = 0) := by decide +kernel
  have hl : gs.length + 1 ≤ 16777216 := by omega
  generalize hW : (((10 : Int) ^ 60) ^ 8) = W at hz
  generalize hs : (if i < 0 then -i else i).fmod W = s
  by_cases h : (10 : Int) ^ 18 ≤ s
  · refine ⟨(f * 742938285 + s.fmod 1999999973 + 27).fmod 2147483647, gs ++ [s], some (.int s), ⟨Int.fmod_nonneg_of_pos _ (by decide), Int.fmod_lt_of_pos _ (by decide)⟩, by simp, ?_⟩
    simp [b1__law_jug, hp, hp2, hp3, hm, hW, hz, hs, h, hl, -Int.reducePow]
  · refine ⟨(f * 742938285 + s.fmod 1999999973 + 27).fmod 2147483647, gs, some (.int s), ⟨Int.fmod_nonneg_of_pos _ (by decide), Int.fmod_lt_of_pos _ (by decide)⟩, by simp, ?_⟩
    simp [b1__law_jug, hp, hp2, hp3, hm, hW, hz, hs, h, hl, -Int.reducePow]
theorem loop_jug {it : ItD} {B : OB} (hok : ∀ x, it.ok [x, B]) {x0 : Option D} : ∀ (is : List Int) (f : Int) (gs : List Int) (x3 x4 : Option D), (0 ≤ f ∧ f < 2147483647) → gs.length + is.length ≤ 900 →
    ∃ (f' : Int) (gs' : List Int) (y3 y4 : Option D), (0 ≤ f' ∧ f' < 2147483647) ∧ gs'.length ≤ 900 ∧ sForL it (gN 3) b1__law_jug (is.map D.int) [x0, some (.adr 0), some (.int f), x3, x4] [.lst (gs.map D.int), B] = .nx [x0, some (.adr 0), some (.int f'), y3, y4] [.lst (gs'.map D.int), B]
  | [], f, gs, x3, x4, hf, hl => ⟨f, gs, x3, x4, hf, by simpa using hl, by rw [List.map_nil, for_nil _ _ _ _ (hok _)]⟩
  | i :: is, f, gs, x3, x4, hf, hl => by
    simp only [List.length_cons] at hl
    obtain ⟨f1, gs1, y4, h1, h2, e⟩ := b1_jug (x0 := x0) (x4 := x4) hf gs (by omega) i B
    obtain ⟨f', gs', z3, z4, h3, h4, ih⟩ := loop_jug hok (x0 := x0) is f1 gs1 (some (.int i)) y4 h1 (by omega)
    refine ⟨f', gs', z3, z4, h3, h4, ?_⟩
    have hg : gN 3 (D.int i) [.lst (gs.map D.int), B] [x0, some (.adr 0), some (.int f), x3, x4] = some [x0, some (.adr 0), some (.int f), some (.int i), x4] := rfl
    rw [List.map_cons, for_cons _ _ _ _ _ _ (hok _), hg]
    simp only [e, loop_nx, ih]
theorem run_jug (ns : List Int) (hl : ns.length ≤ 63) : ∃ A B J, JOk J ∧ runB 5 den__law_jug [.ro ns] [] = .ok (.adr 3) [A, B, J.gob, .lst [.adr 2, .int J.f]] := by
  obtain ⟨f, gs, y3, y4, h1, h2, e⟩ := loop_jug (it := ⟨(ns.take 48).map D.int, some 1⟩) (B := .lst ((ns.take 48).map D.int)) (fun x => rfl) (x0 := some (.ro ns)) (ns.take 48) 82003 [] none none (by decide) (by simp; omega)
  refine ⟨.lst (gs.map D.int), .lst ((ns.take 48).map D.int), ⟨f, gs.reverse⟩, ⟨h1.1, h1.2, by simp; omega⟩, ?_⟩
  simp only [List.map_nil, List.map_take] at e
  simp [den__law_jug, e, Jug.gob]
theorem call_jug (ns : List Int) (hl : ns.length ≤ 63) : ∃ J, JOk J ∧ m__law_jug [.ro ns] [] = .ok (.adr 0) [ob J, J.gob] := by
  obtain ⟨A, B, J, hJ, e⟩ := run_jug ns hl
  refine ⟨J, hJ, ?_⟩
  unfold m__law_jug
  rw [callM_at (is := []) rfl]
  unfold callAt
  rw [if_pos (okIs_nil _)]
  have e0 : runB 5 den__law_jug (renDs (List.idxOf · []) [.ro ns]) (smallS [] []) = runB 5 den__law_jug [.ro ns] [] := rfl
  rw [e0, e]
  have g0 := adss_pure _ (pus_ints J.gs)
  have f1 : freshF 0 [A, B, J.gob, .lst [.adr 2, .int J.f]] [3] = [3, 2] := by
    unfold freshF reachF
    have z0 : List.filter (fun x => decide (0 ≤ x)) ([3] ++ List.flatMap adsO (List.take 0 [A, B, J.gob, OB.lst [.adr 2, .int J.f]])) = [3] := by simp
    have z1 : levF 0 [A, B, J.gob, OB.lst [.adr 2, .int J.f]] [3] = [2] := by simp [levF, levS, adsO, adsDs, adsD]
    have z2 : levF 0 [A, B, J.gob, OB.lst [.adr 2, .int J.f]] [2] = [] := by simp [levF, levS, Jug.gob, adsO, g0]
    rw [z0]
    simp only [z1, z2, show levF 0 [A, B, J.gob, OB.lst [.adr 2, .int J.f]] [] = [] from rfl]
    rfl
  show finOk [] [] (freshF 0 [A, B, J.gob, .lst [.adr 2, .int J.f]] [3]) (.adr 3) [A, B, J.gob, .lst [.adr 2, .int J.f]] = _
  rw [f1]
  unfold finOk
  rw [if_pos]
  · simp [backS, setAll, renD, backF, renO, renDs, Jug.gob, rens_pure _ _ (pus_ints J.gs), ob, List.idxOf_cons]
  · simp [okS, okD, adsD, adsO, adsDs, Jug.gob, g0]
end Q82

set_option Elab.async false
set_option linter.all false
set_option maxRecDepth 100000
set_option maxHeartbeats 4000000
namespace Q82
open PySem L2 PySem.Spec PyProof.Rows Zb Nm
/-! ### _law_die -/
def prs : List (Nat × Nat) := [(1, 1), (1, 2), (2, 1), (1, 3), (3, 2), (2, 3), (1, 5), (5, 1), (4, 3), (4, 5), (2, 5), (4, 1)]
def prD (p : Nat × Nat) : D := .tup [nD p.1, nD p.2]
theorem prs_ok : ∀ p ∈ prs, 1 ≤ p.1 ∧ p.1 ≤ 5 ∧ 1 ≤ p.2 ∧ p.2 ≤ 5 := by decide
theorem cellsDie (a b : Nat) (most : Int) {it : ItD} (hok : ∀ l, it.ok l) : ∀ (ds : List D) (J : Jug) (hJ : JOk J) (r : Sto) (acc : List Nat), acc.length + ds.length ≤ 1000 →
    ∃ (ns : List Nat) (J' : Jug) (r' : Sto), ns.length = ds.length ∧ (∀ n ∈ ns, n = a ∨ n = b) ∧ JOk J' ∧ lcL it (gN 6) dYes e1__law_die [some (.adr 0), some (.int most), some (.adr 2), some (nD a), some (nD b), none, none] ds (ob J :: J.gob :: r) (acc.map nD) = .ok ((acc ++ ns).map nD) (ob J' :: J'.gob :: (r ++ r'))
  | [], J, hJ, r, acc, _ => ⟨[], J, [], rfl, by simp, hJ, by simp [lcL, hok]⟩
  | e :: ds, J, hJ, r, acc, hl => by
    simp only [List.length_cons] at hl
    obtain ⟨n, J1, hn, hJ1, e1⟩ := pour hJ 2 2 rfl (by decide) (by decide)
    obtain ⟨x, hx, hx2⟩ : ∃ x, [nD a, nD b][n]? = some (nD x) ∧ (x = a ∨ x = b) := by
      match n, hn with
      | 0, _ => exact ⟨a, rfl, .inl rfl⟩
      | 1, _ => exact ⟨b, rfl, .inr rfl⟩
    obtain ⟨ns, J2, r2, h1, h2, hJ2, ih⟩ := cellsDie a b most hok ds J1 hJ1 (r ++ [.lst [nD a, nD b]]) (acc ++ [x]) (by simp; omega)
    refine ⟨x :: ns, J2, .lst [nD a, nD b] :: r2, by simp [h1], ?_, hJ2, ?_⟩
    · intro m hm
      rcases List.mem_cons.mp hm with rfl | hm
      · exact hx2
      · exact h2 m hm
    · have hg : gN 6 e (ob J :: J.gob :: r) [some (.adr 0), some (.int most), some (.adr 2), some (nD a), some (nD b), none, none] = some [some (.adr 0), some (.int most), some (.adr 2), some (nD a), some (nD b), none, some e] := rfl
      have hf : e1__law_die [some (.adr 0), some (.int most), some (.adr 2), some (nD a), some (nD b), none, some e] (ob J :: J.gob :: r) = .ok (nD x) (ob J1 :: J1.gob :: (r ++ [.lst [nD a, nD b]])) := by simp [e1__law_die, e1, hx]
      simp only [lcL, hok, if_true, hg, dYes_e, nox_ok, bind_ok, hf]
      rw [if_pos (by simp; omega)]
      have : acc.map nD ++ [nD x] = (acc ++ [x]).map nD := by simp
      rw [this, ih]
      simp
theorem die_of {a b : Nat} {ns : List Nat} (ha : 1 ≤ a ∧ a ≤ 5) (hb : 1 ≤ b ∧ b ≤ 5) (h1 : 1 ≤ ns.length) (h4 : ns.length ≤ 4) (h : ∀ n ∈ ns, n = a ∨ n = b) : DieOk (a :: ns) := by
  have hall : ∀ x ∈ a :: ns, x = a ∨ x = b := fun x hx => by
    rcases List.mem_cons.mp hx with rfl | hx
    · exact .inl rfl
    · exact h x hx
  refine ⟨by simp; omega, by simp; omega, fun x hx => ?_, b, fun x hx => ?_⟩
  · rcases hall x hx with rfl | rfl
    · exact ha
    · exact hb
  · have e : wt (a :: ns) 0 = a := by simp [wt]
    rw [e]
    exact hall x hx
theorem run_die {J : Jug} (hJ : JOk J) : ∃ (d : List Nat) (J' : Jug) (junk : Sto), DieOk d ∧ JOk J' ∧ runB 7 den__law_die [.adr 0, .int 5] [ob J, J.gob] = .ok (dieD d) (ob J' :: J'.gob :: junk) := by
  obtain ⟨i, J1, hi, hJ1, e1⟩ := pour hJ 12 12 rfl (by decide) (by decide)
  obtain ⟨p, hp⟩ : ∃ p, prs[i]? = some p := ⟨prs[i]'(by simpa [prs] using hi), List.getElem?_eq_getElem _⟩
  obtain ⟨a, b⟩ := p
  obtain ⟨a1, a2, b1, b2⟩ := prs_ok _ (List.mem_of_getElem? hp)
  have hpi : (prs.map prD)[i]? = some (.tup [nD a, nD b]) := by rw [List.getElem?_map, hp]; rfl
  obtain ⟨k, J2, hk, hJ2, e2⟩ := pour hJ1 4 4 rfl (by decide) (by decide)
  obtain ⟨ns, J3, r3, h1, h2, hJ3, e3⟩ := cellsDie a b 5 (it := ⟨rng 0 (1 + k), none⟩) (fun _ => trivial) (rng 0 (1 + k)) J2 hJ2 [.lst (prs.map prD), .lst [nD a]] [] (by rw [rng_length]; simp; omega)
  rw [rng_length] at h1
  simp only [List.nil_append, List.map_nil] at e3
  have hm : mid (1 + (k : Int)) = true := by unfold mid; exact decide_eq_true (by omega)
  have ht : (1 + (k : Int)).toNat = 1 + k := by omega
  have e0 : prs.map prD = [D.tup [D.int 1, D.int 1], D.tup [D.int 1, D.int 2], D.tup [D.int 2, D.int 1], D.tup [D.int 1, D.int 3], D.tup [D.int 3, D.int 2], D.tup [D.int 2, D.int 3], D.tup [D.int 1, D.int 5], D.tup [D.int 5, D.int 1], D.tup [D.int 4, D.int 3], D.tup [D.int 4, D.int 5], D.tup [D.int 2, D.int 5], D.tup [D.int 4, D.int 1]] := rfl
  have hin := inV_nD b (a :: ns)
  have hfl := flat_nD (a :: ns)
  have sz : 1 + ns.length ≤ 16777216 := by omega
  by_cases q : b ∈ a :: ns
  · refine ⟨a :: ns, J3, .lst (prs.map prD) :: .lst [nD a] :: (r3 ++ [.lst (ns.map nD), .lst (nD a :: ns.map nD)]), die_of ⟨a1, a2⟩ ⟨b1, b2⟩ (by omega) (by omega) h2, hJ3, ?_⟩
    rw [decide_eq_true q] at hin
    rw [e0] at e3 hpi ⊢
    simp only [List.map_cons, List.all_cons] at hin hfl
    simp at hin hfl
    simp [den__law_die, e1, hpi, e2, hm, ht, e3, hin, hfl, sz, dieD]
    done
  · have nb : ∀ n ∈ a :: ns, n = a := fun n hn => by
      rcases List.mem_cons.mp hn with rfl | hn
      · rfl
      · rcases h2 n hn with z | z
        · exact z
        · exact absurd (by rw [← z]; exact List.mem_cons_of_mem _ hn) q
    obtain ⟨ns', y, rfl⟩ : ∃ ns' y, ns = ns' ++ [y] := by
      rcases List.eq_nil_or_concat ns with rfl | ⟨ns', y, rfl⟩
      · simp at h1; omega
      · exact ⟨ns', y, List.concat_eq_append ..⟩
    refine ⟨a :: (ns' ++ [b]), J3, .lst (prs.map prD) :: .lst [nD a] :: (r3 ++ [.lst ((ns' ++ [y]).map nD), .lst (nD a :: (ns' ++ [b]).map nD)]), die_of ⟨a1, a2⟩ ⟨b1, b2⟩ (by simp) (by simp at h1 ⊢; omega) (fun n hn => ?_), hJ3, ?_⟩
    · rcases List.mem_append.mp hn with hn | hn
      · exact h2 n (List.mem_append_left _ hn)
      · simp at hn; exact .inr hn
    · rw [decide_eq_false q] at hin
      rw [e0] at e3 hpi ⊢
      simp only [List.map_cons, List.all_cons] at hin hfl
      simp at hin hfl sz
      simp [den__law_die, e1, hpi, e2, hm, ht, e3, hin, hfl, sz, dieD]
      done
end Q82

set_option Elab.async false
set_option linter.all false
set_option maxRecDepth 100000
set_option maxHeartbeats 4000000
namespace Q82
open PySem L2 PySem.Spec PyProof.Rows Zb Nm
theorem cellsJ {it : ItD} (hok : ∀ l, it.ok l) {i : Nat} {gw : Sl} {fe : DE} (P : Nat → Prop) (H : ∀ J, JOk J → ∀ d : D, ∃ (n : Nat) (J' : Jug), P n ∧ JOk J' ∧ ∀ r : Sto, fe (gw.set i (some d)) (ob J :: J.gob :: r) = .ok (nD n) (ob J' :: J'.gob :: r)) : ∀ (ds : List D) (J : Jug) (hJ : JOk J) (acc : List Nat), acc.length + ds.length ≤ 1000 →
    ∃ (ns : List Nat) (J' : Jug), ns.length = ds.length ∧ (∀ n ∈ ns, P n) ∧ JOk J' ∧ ∀ r : Sto, lcL it (gN i) dYes fe gw ds (ob J :: J.gob :: r) (acc.map nD) = .ok ((acc ++ ns).map nD) (ob J' :: J'.gob :: r)
  | [], J, hJ, acc, _ => ⟨[], J, rfl, by simp, hJ, fun r => by simp [lcL, hok]⟩
  | d :: ds, J, hJ, acc, hl => by
    simp only [List.length_cons] at hl
    obtain ⟨n, J1, hn, hJ1, e1⟩ := H J hJ d
    obtain ⟨ns, J2, h1, h2, hJ2, ih⟩ := cellsJ hok P H ds J1 hJ1 (acc ++ [n]) (by simp; omega)
    refine ⟨n :: ns, J2, by simp [h1], ?_, hJ2, fun r => ?_⟩
    · intro m hm
      rcases List.mem_cons.mp hm with rfl | hm
      · exact hn
      · exact h2 m hm
    · simp only [lcL, hok, if_true, gN_e, dYes_e, nox_ok, bind_ok, e1 r]
      rw [if_pos (by simp; omega)]
      have : acc.map nD ++ [nD n] = (acc ++ [n]).map nD := by simp
      rw [this, ih]
      simp
/-! ### _law_faces -/
theorem run_facesJ {J : Jug} (hJ : JOk J) {d : List Nat} (h : DieOk d) (n : Nat) (hn : n ≤ 400) : ∃ (fs : List Nat) (J' : Jug) (junk : Sto), RowOk d fs ∧ fs.length = n ∧ JOk J' ∧ runB 6 den__law_faces [.adr 0, dieD d, nD n] [ob J, J.gob] = .ok (rowD fs) (ob J' :: J'.gob :: junk) := by
  have lo := h.lo
  have hi := h.hi
  obtain ⟨a, J1, ha, hJ1, e1⟩ := pour hJ 3 3 rfl (by decide) (by decide)
  have hm : mid (n : Int) = true := by rw [mid_nat]; simp; omega
  by_cases q : (a : Int) = 0
  · obtain ⟨x, J2, hx, hJ2, e2⟩ := pour hJ1 d.length (d.length : Int) rfl (by omega) (by omega)
    obtain ⟨y, J3, hy, hJ3, e3⟩ := pour hJ2 d.length (d.length : Int) rfl (by omega) (by omega)
    obtain ⟨ns, J4, h1, h2, hJ4, e4⟩ := cellsJ (it := ⟨rng 0 n, none⟩) (fun _ => trivial) (i := 5) (gw := [some (.adr 0), some (dieD d), some (nD n), some (nD x), some (nD y), none]) (fe := e1__law_faces) (fun f => f < d.length) (fun J hJ z => by
      obtain ⟨k, J', hk, hJ', e⟩ := pour hJ 5 5 rfl (by decide) (by decide)
      by_cases q : (0 : Int) < (k : Int)
      · have q2 : 0 < k := by omega
        have q3 : ¬ k = 0 := by omega
        exact ⟨x, J', hx, hJ', fun r => by simp [e1__law_faces, e, q, q2, q3]⟩
      · have q2 : ¬ 0 < k := by omega
        have q3 : k = 0 := by omega
        subst q3
        exact ⟨y, J', hy, hJ', fun r => by simp at e; simp [e1__law_faces, e]⟩) (rng 0 n) J3 hJ3 [] (by rw [rng_length]; simp; omega)
    rw [rng_length] at h1
    refine ⟨ns, J4, [.lst (ns.map nD)], ⟨h2, by omega⟩, h1, hJ4, ?_⟩
    simp only [List.map_nil, List.nil_append, dieD] at e4
    simp only [dieD, rowD]
    simp [den__law_faces, e1, q, e2, e3, hm, e4]
  · obtain ⟨ns, J4, h1, h2, hJ4, e4⟩ := cellsJ (it := ⟨rng 0 n, none⟩) (fun _ => trivial) (i := 5) (gw := [some (.adr 0), some (dieD d), some (nD n), none, none, none]) (fe := e2__law_faces) (fun f => f < d.length) (fun J hJ z => by
      obtain ⟨k, J', hk, hJ', e⟩ := pour hJ d.length (d.length : Int) rfl (by omega) (by omega)
      exact ⟨k, J', hk, hJ', fun r => by simp only [e2__law_faces, dieD]; simp [e]⟩) (rng 0 n) J1 hJ1 [] (by rw [rng_length]; simp; omega)
    rw [rng_length] at h1
    refine ⟨ns, J4, [.lst (ns.map nD)], ⟨h2, by omega⟩, h1, hJ4, ?_⟩
    simp only [List.map_nil, List.nil_append, dieD] at e4
    simp only [dieD, rowD]
    have q' : ¬ a = 0 := by omega
    simp [den__law_faces, e1, q, q', hm, e4]
theorem facesJ {J : Jug} (hJ : JOk J) {d : List Nat} (h : DieOk d) (n : Nat) (i : Int) (hi : i = n) (hn : n ≤ 400) : ∃ (fs : List Nat) (J' : Jug), RowOk d fs ∧ fs.length = n ∧ JOk J' ∧ ∀ r : Sto, m__law_faces [.adr 0, dieD d, .int i] (ob J :: J.gob :: r) = .ok (rowD fs) (ob J' :: J'.gob :: r) := by
  subst hi
  obtain ⟨fs, J', junk, h1, h2, h3, e⟩ := run_facesJ hJ h n hn
  exact ⟨fs, J', h1, h2, h3, fun r => callJ (by simp) e (by simp) r⟩
theorem dieJ {J : Jug} (hJ : JOk J) : ∃ (d : List Nat) (J' : Jug), DieOk d ∧ JOk J' ∧ ∀ r : Sto, m__law_die [.adr 0, .int 5] (ob J :: J.gob :: r) = .ok (dieD d) (ob J' :: J'.gob :: r) := by
  obtain ⟨d, J', junk, h1, h2, e⟩ := run_die hJ
  exact ⟨d, J', h1, h2, fun r => callJ (by simp) e (by simp) r⟩
/-! ### _law_some -/
theorem run_some {J : Jug} (hJ : JOk J) (s : Nat) (h1 : 1 ≤ s) (hb : Bd (s : Int) 4000) : ∃ (x : Nat) (J' : Jug) (junk : Sto), x < s ∧ JOk J' ∧ runB 5 den__law_some [.adr 0, nD s] [ob J, J.gob] = .ok (nD x) (ob J' :: J'.gob :: junk) := by
  obtain ⟨w, J1, hw, hJ1, e1⟩ := pour hJ 5 5 rfl (by decide) (by decide)
  by_cases q : w < 2
  · have q' : (w : Int) < 2 := by omega
    have hs : (s : Int) - 1 = ((s - 1 : Nat) : Int) := by omega
    match w, q with
    | 0, _ => exact ⟨0, J1, [.lst [.int 0, .int ((s - 1 : Nat) : Int)]], by omega, hJ1, by simp at e1; simp [den__law_some, e1, hs]⟩
    | 1, _ => exact ⟨s - 1, J1, [.lst [.int 0, .int ((s - 1 : Nat) : Int)]], by omega, hJ1, by simp at e1; simp [den__law_some, e1, hs]⟩
  · have q' : ¬ (w : Int) < 2 := by omega
    have hbits : Builtin.Int.intBits (s : Int) ≤ 4001 := by
      unfold Builtin.Int.intBits
      have := log2_of hb
      split <;> omega
    obtain ⟨c, hc, hc2⟩ : ∃ c : Nat, 1 + ((Builtin.Int.intBits (s : Int) : Nat) : Int) / 16 = (c : Int) ∧ c ≤ 300 := ⟨1 + Builtin.Int.intBits (s : Int) / 16, by omega, by omega⟩
    obtain ⟨g', l', e2, e3⟩ := for_inv (it := ⟨rng 0 c, none⟩) (gt := gN 4) (b := b1__law_some) (fun j g l => j ≤ 300 ∧ ∃ (J' : Jug) (t : Nat) (y : Option D), JOk J' ∧ Bd (t : Int) (17 * j + 1) ∧ g = [some (.adr 0), some (nD s), some (nD w), some (nD t), y] ∧ l = [ob J', J'.gob])
      (fun _ _ _ _ => trivial) (rng 0 c) 0 [some (.adr 0), some (nD s), some (nD w), some (.int 0), none] [ob J1, J1.gob] ⟨by omega, J1, 0, none, hJ1, by simp [Bd], rfl, rfl⟩ (by
        rintro j e g l hj ⟨hj3, J', t, y, hJ', hbt, rfl, rfl⟩
        obtain ⟨hjl, he⟩ := rng_get hj
        subst he
        rw [Nat.zero_add] at *
        obtain ⟨x, J2, hx, hJ2, e5⟩ := pour hJ' 65536 65536 rfl (by decide) (by decide)
        have m1 : mulOk (t : Int) 65536 = true := hbt.mulOk (b := 20) (bd_small (by decide)) (by omega)
        have go : b1__law_some [some (.adr 0), some (nD s), some (nD w), some (nD t), some (.int (0 + (j : Int)))] [ob J', J'.gob] = .nx [some (.adr 0), some (nD s), some (nD w), some (nD (t * 65536 + x)), some (.int (0 + (j : Int)))] [ob J2, J2.gob] := by
          simp [b1__law_some, e5, m1]
        refine ⟨_, rfl, ?_⟩
        show (b1__law_some [some (.adr 0), some (nD s), some (nD w), some (nD t), some (.int (0 + (j : Int)))] [ob J', J'.gob]).on _
        rw [go]
        refine ⟨by omega, J2, t * 65536 + x, _, hJ2, ?_, rfl, rfl⟩
        unfold Bd at hbt ⊢
        rw [Int.natAbs_natCast] at hbt ⊢
        have e6 : 17 * (j + 1) + 1 = (17 * j + 1) + 17 := by omega
        rw [e6, Nat.pow_add]
        omega)
    obtain ⟨_, J', t, y, hJ', hbt, rfl, rfl⟩ := e3
    have hm : mid (c : Int) = true := by rw [mid_nat]; simp; omega
    have hne : ¬ s = 0 := by omega
    have fm : (t : Int).fmod (s : Int) = (t : Int) % (s : Int) := Int.fmod_eq_emod_of_nonneg _ (by omega)
    have dv : divOk 16 = true := by decide
    refine ⟨t % s, J', [], Nat.mod_lt _ (by omega), hJ', ?_⟩
    simp [den__law_some, e1, q', q, dv, hc, hm, e2, hne, fm]
theorem someJ {J : Jug} (hJ : JOk J) (s : Nat) (i : Int) (hi : i = s) (h1 : 1 ≤ s) (hb : Bd (s : Int) 4000) : ∃ (x : Nat) (J' : Jug), x < s ∧ JOk J' ∧ ∀ r : Sto, m__law_some [.adr 0, .int i] (ob J :: J.gob :: r) = .ok (nD x) (ob J' :: J'.gob :: r) := by
  subst hi
  obtain ⟨x, J', junk, h2, h3, e⟩ := run_some hJ s h1 hb
  exact ⟨x, J', h2, h3, fun r => callJ (by simp) e (by simp) r⟩
end Q82

set_option Elab.async false
set_option linter.all false
set_option maxRecDepth 100000
set_option maxHeartbeats 4000000
namespace Q82
open PySem L2 PySem.Spec PyProof.Rows Zb Nm
theorem massN_h (d : List Nat) (n k : Nat) : massN d (n + 1) (k + 1) = massN d n k * wt d 0 := by
  unfold massN
  rw [show n + 1 - (k + 1) = n - k by omega, Nat.pow_succ, Nat.mul_assoc, Nat.mul_assoc, Nat.mul_comm (wt d 0)]
theorem massN_l (d : List Nat) (n k : Nat) (h : k ≤ n) : massN d (n + 1) k = massN d n k * lw d := by
  unfold massN
  rw [show n + 1 - k = n - k + 1 by omega, Nat.pow_succ, Nat.mul_assoc]
theorem mass_eq {d : List Nat} (ok : DieOk d) : ∀ fs : List Nat, (∀ f ∈ fs, f < d.length) → massF d fs = massN d fs.length (kindF d fs) := by
  refine snoc_ind (fun _ => by simp [massF, massN, kindF]) ?_
  intro fs f ih h
  have h1 := ih fun g hg => h g (List.mem_append_left _ hg)
  have hf := h f (by simp)
  rw [mass_snoc, kind_snoc, h1, List.length_append, List.length_singleton]
  by_cases q : isH d f = true
  · rw [if_pos q, massN_h]
    have : wt d f = wt d 0 := by simpa [isH] using q
    rw [this]
  · have q' : isH d f = false := by simpa using q
    rw [if_neg q]
    show _ = massN d (fs.length + 1) (kindF d fs)
    rw [massN_l _ _ _ (kind_le d fs), lt_w ok hf q']
theorem rowN_len {d : List Nat} (h : DieOk d) {n k x : Nat} (hx : x < sizeN d n k) : (rowN d n k x).length = n := (num_row h hx).2.2.1
theorem rowN_ok {d : List Nat} (h : DieOk d) {n k x : Nat} (hn : n ≤ 400) (hx : x < sizeN d n k) : RowOk d (rowN d n k x) := ⟨(num_row h hx).2.1, by rw [rowN_len h hx]; exact hn⟩
/-- sizes stay small enough for `_law_some` -/
theorem bd_sz {d : List Nat} (h : DieOk d) (n k : Nat) (hk : k ≤ n) (hn : n ≤ 400) : Bd (sizeN d n k : Int) 4000 := (bd_size h n k hk).mono (by omega)
/-! ### _law_row_right -/
theorem run_rr (C : Addr) {J : Jug} (hJ : JOk J) {d : List Nat} (h : DieOk d) {fs : List Nat} (hf : RowOk d fs) : ∃ (J' : Jug) (junk : Sto), JOk J' ∧ runB 10 (den__law_row_right C) [.adr 0, dieD d, rowD fs] [ob J, J.gob] = .ok (.bl true) (ob J' :: J'.gob :: junk) := by
  have nl := num_lt h fs hf.1
  have kl := kind_le d fs
  have hn := hf.2
  have rn := row_num h fs hf.1
  have me := mass_eq h fs hf.1
  have c1 := fun l => call_lkind h hf l
  have c2 := fun l => call_lsizeI h fs.length (kindF d fs) (fs.length : Int) (kindF d fs : Int) rfl rfl kl hn l
  have c3 := fun l => call_lnum h hf l
  have c4 := fun l => call_num h hf l
  have c5 := fun l => call_mass h hf l
  have c6 := fun l => call_rkind h hf l
  have c7 := fun l => call_kmass h fs.length (kindF d fs) kl hn l
  have c8 := fun l => call_lmass h hf l
  have c9 := fun l => call_size h fs.length (kindF d fs) kl hn l
  have c10 := fun l => call_row h (n := fs.length) (k := kindF d fs) (numN d fs : Int) rfl hn nl kl l
  have c11 := fun l => call_cfaces C hf l
  have c12 := fun l => call_next h hf l
  rw [rn] at c10
  rw [← me] at c7
  generalize hS : sizeN d fs.length (kindF d fs) = S at *
  generalize hN : numN d fs = N at *
  generalize hK : kindF d fs = K at *
  generalize hM : massF d fs = M at *
  have s1 := fun l => call_same (.tup [nD N, nD M, nD K, nD M]) (by simp [plD, plDs]) (by simp [wD, wDs]) l
  have s2 := fun l => call_same (.tup [nD S, rowD fs, nD fs.length]) (by simp [plD, plDs, pl_row]) (by simp [wD, wDs, w_row]; omega) l
  have bS : Bd (S : Int) 4000 := by rw [← hS]; exact bd_sz h _ _ kl hn
  obtain ⟨a, J1, ha, hJ1, e1⟩ := someJ hJ S S rfl (by omega) bS
  obtain ⟨b, J2, hb, hJ2, e2⟩ := someJ hJ1 S S rfl (by omega) bS
  obtain ⟨w, J3, hw, hJ3, e3⟩ := pour hJ2 3 3 rfl (by decide) (by decide)
  -- the number of steps
  obtain ⟨st, hst⟩ : ∃ st : Nat, ([D.int (a : Int), .int ((S : Int) + (b : Int)), .int ((S : Int) - (N : Int))] : List D)[w]? = some (nD st) := by
    match w, hw with
    | 0, _ => exact ⟨a, rfl⟩
    | 1, _ => exact ⟨S + b, by simp⟩
    | 2, _ => exact ⟨S - N, by simp; omega⟩
  have hx : (N + st) % S < sizeN d fs.length K := by rw [hS]; exact Nat.mod_lt _ (by omega)
  have hrow := rowN_len h hx
  have c13 := fun l => call_lrow h (n := fs.length) (k := K) (x := (N + st) % S) (((N : Int) + (st : Int)) % (S : Int)) (by simp) hn hx kl l
  have c14 := fun l => call_steps h hf st st rfl l
  rw [hN, hK, hS] at c14
  have s4 := fun l => call_same (rowD (rowN d fs.length K ((N + st) % S))) (pl_row _) (by rw [w_row, hrow]; omega) l
  have fm : ((N : Int) + (st : Int)).fmod (S : Int) = ((N : Int) + (st : Int)) % (S : Int) := Int.fmod_eq_emod_of_nonneg _ (by omega)
  have hne : ¬ S = 0 := by omega
  have d1 : (S : Int) - N = ((S - N : Nat) : Int) := by omega
  refine ⟨J3, [.lst [.int a, .int ((S : Int) + (b : Int)), .int ((S : Int) - (N : Int))]], hJ3, ?_⟩
  unfold nextD at c12
  rw [hN, hK, hS] at c12
  by_cases q : N + 1 < S
  · have q' : (N : Int) + 1 < (S : Int) := by omega
    rw [if_pos q] at c12
    have hx1 : N + 1 < sizeN d fs.length K := by rw [hS]; exact q
    have c15 := fun l => call_lrow h (n := fs.length) (k := K) (x := N + 1) ((N : Int) + 1) (by simp) hn hx1 kl l
    have s3 := fun l => call_same (rowD (rowN d fs.length K (N + 1))) (pl_row _) (by rw [w_row, rowN_len h hx1]; omega) l
    simp only [rowD, dieD] at *
    simp [den__law_row_right, c1, c2, c3, c4, c5, c6, c7, c8, c9, c10, c11, c12, c13, c14, c15, s1, s2, s3, s4, e1, e2, e3, hst, fm, hne, q, q', perm_row_steps]
  · have q' : ¬ (N : Int) + 1 < (S : Int) := by omega
    rw [if_neg q] at c12
    have s3 := fun l => call_same .non rfl (by simp [wD]) l
    simp only [rowD, dieD] at *
    simp [den__law_row_right, c1, c2, c3, c4, c5, c6, c7, c8, c9, c10, c11, c12, c13, c14, s1, s2, s3, s4, e1, e2, e3, hst, fm, hne, q, q', perm_row_steps]
theorem rightJ (C : Addr) {J : Jug} (hJ : JOk J) {d : List Nat} (h : DieOk d) {fs : List Nat} (hf : RowOk d fs) : ∃ (J' : Jug), JOk J' ∧ ∀ r : Sto, m__law_row_right C [.adr 0, dieD d, rowD fs] (ob J :: J.gob :: r) = .ok (.bl true) (ob J' :: J'.gob :: r) := by
  obtain ⟨J', junk, h2, e⟩ := run_rr C hJ h hf
  exact ⟨J', h2, fun r => callJ (by simp) e (by simp) r⟩
end Q82

set_option Elab.async false
set_option linter.all false
set_option maxRecDepth 100000
set_option maxHeartbeats 4000000
namespace Q82
open PySem L2 PySem.Spec PyProof.Rows Zb Nm
/-! ### _law_number_right -/
theorem run_nr {J : Jug} (hJ : JOk J) {d : List Nat} (h : DieOk d) (n k : Nat) (hk : k ≤ n) (hn : n ≤ 400) : ∃ (J' : Jug) (junk : Sto), JOk J' ∧ runB 9 den__law_number_right [.adr 0, dieD d, nD n, nD k] [ob J, J.gob] = .ok (.bl true) (ob J' :: J'.gob :: junk) := by
  obtain ⟨w, J1, hw, hJ1, e1⟩ := pour hJ 3 3 rfl (by decide) (by decide)
  have c2 := fun l => call_lsizeI h n k (n : Int) (k : Int) rfl rfl hk hn l
  have bS := bd_sz h n k hk hn
  have m1 : mulOk (w : Int) (sizeN d n k : Int) = true := Bd.mulOk (a := 20) (b := 4000) (bd_small (by omega)) bS (by decide)
  have c3 := fun l => call_row_no h (n := n) (k := k) ((sizeN d n k : Int) + (w : Int) * (sizeN d n k : Int)) (by have : (0 : Int) ≤ (w : Int) * (sizeN d n k : Int) := Int.mul_nonneg (by omega) (by omega); omega) hn hk l
  have s0 := fun l => call_same .non rfl (by simp [wD]) l
  by_cases q : sizeN d n k = 0
  · refine ⟨J1, [], hJ1, ?_⟩
    rw [q] at c2 c3 m1
    simp only [dieD] at *
    simp at c2 c3 m1
    simp [den__law_number_right, c2, c3, s0, e1, m1]
  · obtain ⟨x, J2, hx, hJ2, e2⟩ := someJ hJ1 (sizeN d n k) _ rfl (by omega) bS
    have nr := num_row h hx
    have hf := rowN_ok h hn hx
    have c4 := fun l => call_lrow h (n := n) (k := k) (x := x) (x : Int) rfl hn hx hk l
    have c5 := fun l => call_lnum h hf l
    have c6 := fun l => call_num h hf l
    have c7 := fun l => call_row h (n := n) (k := k) (x := x) (x : Int) rfl hn hx hk l
    rw [nr.1] at c5 c6
    have s1 := fun l => call_same (.tup [rowD (rowN d n k x), nD x]) (by simp [plD, plDs]) (by simp [wD, wDs, w_row, nr.2.2.1]; omega) l
    refine ⟨J2, [], hJ2, ?_⟩
    generalize hS : sizeN d n k = S at *
    simp only [dieD, rowD] at *
    simp [den__law_number_right, c2, c3, c4, c5, c6, c7, s0, s1, e1, e2, m1, q, perm_row_of_number]
theorem nrightJ {J : Jug} (hJ : JOk J) {d : List Nat} (h : DieOk d) (n k : Nat) (i j : Int) (hi : i = n) (hj : j = k) (hk : k ≤ n) (hn : n ≤ 400) : ∃ (J' : Jug), JOk J' ∧ ∀ r : Sto, m__law_number_right [.adr 0, dieD d, .int i, .int j] (ob J :: J.gob :: r) = .ok (.bl true) (ob J' :: J'.gob :: r) := by
  subst hi hj
  obtain ⟨J', junk, h2, e⟩ := run_nr hJ h n k hk hn
  exact ⟨J', h2, fun r => callJ (by simp) e (by simp) r⟩
/-! ### _law_faults -/
theorem sv_row {xs : List D} (h : ∀ x ∈ xs, sv x = true) : xs.all sv = true := by simpa using h
theorem sv_n {fs : List Nat} {x : D} (h : x ∈ fs.map nD) : sv x = true := by
  obtain ⟨n, _, rfl⟩ := List.mem_map.mp h
  rfl
theorem fac_pl (m : Nat) (xs : List D) : plD (facT m xs) = true ∧ wD (facT m xs) ≤ 10 := by
  unfold facT
  split <;> simp [plD, plDs, wD, wDs]
def odds (d : List Nat) : List D := [nD d.length, .int (-1), .bl true, .non, .str "0", .tup [.int 0], .int (10 ^ 50)]
theorem run_faults (C : Addr) {J : Jug} (hJ : JOk J) {d : List Nat} (h : DieOk d) {fs : List Nat} (hf : RowOk d fs) : ∃ (J' : Jug) (junk : Sto), JOk J' ∧ runB 6 (den__law_faults C) [.adr 0, dieD d, rowD fs] [ob J, J.gob] = .ok (.bl true) (ob J' :: J'.gob :: junk) := by
  have hl := hf.2
  obtain ⟨a, J1, ha, hJ1, e1⟩ := pour hJ (fs.length + 1) ((fs.length : Int) + 1) (by simp) (by omega) (by omega)
  obtain ⟨o, J2, ho, hJ2, e2⟩ := pour hJ1 7 7 rfl (by decide) (by decide)
  obtain ⟨w, J3, hw, hJ3, e3⟩ := pour hJ2 6 6 rfl (by decide) (by decide)
  obtain ⟨x, hx, hsx⟩ : ∃ x, (odds d)[o]? = some x ∧ sv x = true := by
    match o, ho with
    | 0, _ => exact ⟨_, rfl, rfl⟩
    | 1, _ => exact ⟨_, rfl, rfl⟩
    | 2, _ => exact ⟨_, rfl, rfl⟩
    | 3, _ => exact ⟨_, rfl, rfl⟩
    | 4, _ => exact ⟨_, rfl, rfl⟩
    | 5, _ => exact ⟨_, rfl, rfl⟩
    | 6, _ => exact ⟨_, rfl, rfl⟩
  obtain ⟨ys, hys⟩ : ∃ ys, (fs.map nD).take a = ys := ⟨_, rfl⟩
  obtain ⟨zs, hzs⟩ : ∃ zs, (fs.map nD).drop a = zs := ⟨_, rfl⟩
  have hy1 : ∀ y ∈ ys, sv y = true := fun y hy => sv_n (List.mem_of_mem_take (by rw [hys]; exact hy))
  have hz1 : ∀ y ∈ zs, sv y = true := fun y hy => sv_n (List.mem_of_mem_drop (by rw [hzs]; exact hy))
  have ly : ys.length ≤ 400 := by rw [← hys]; simp; omega
  have lz : zs.length ≤ 400 := by rw [← hzs]; simp; omega
  have pw : powW 10 50 = true := by decide
  have pv : (10 : Int) ^ (Int.toNat 50) = 10 ^ 50 := rfl
  -- the six things
  obtain ⟨xs1, hx1⟩ : ∃ xs, ys ++ [x] ++ zs = xs := ⟨_, rfl⟩
  have s1 : xs1.all sv = true := sv_row (by
    intro y hy
    rw [← hx1] at hy
    simp only [List.mem_append, List.mem_singleton] at hy
    rcases hy with (hy | rfl) | hy
    · exact hy1 y hy
    · exact hsx
    · exact hz1 y hy)
  have n1 : xs1.length ≤ 1000000 := by rw [← hx1]; simp; omega
  obtain ⟨xs5, hx5⟩ : ∃ xs, fs.map nD ++ [x, .int (-1)] = xs := ⟨_, rfl⟩
  have s5 : xs5.all sv = true := sv_row (by
    intro y hy
    rw [← hx5] at hy
    simp only [List.mem_append, List.mem_cons, List.not_mem_nil, or_false] at hy
    rcases hy with hy | rfl | rfl
    · exact sv_n hy
    · exact hsx
    · rfl)
  have n5 : xs5.length ≤ 1000000 := by rw [← hx5]; simp; omega
  let L : Sto := [.lst (odds d), .lst (fs.map nD), .lst [.tup xs1, .adr 3, rowD fs, .non, .tup xs5, .int 3]]
  -- the last step, for every thing
  have last : ∃ t : D, ([.tup xs1, .adr 3, rowD fs, .non, .tup xs5, .int 3] : List D)[w]? = some t ∧ ∃ u : D, plD u = true ∧ wD u ≤ 10 ∧ m__law_heard C [dieD d, t] (ob J3 :: J3.gob :: L) = .ok u (ob J3 :: J3.gob :: L) ∧ m__law_fault [dieD d, t] (ob J3 :: J3.gob :: L) = .ok u (ob J3 :: J3.gob :: L) := by
    have hno : plD noT = true ∧ wD noT ≤ 10 := by simp [noT, plD, plDs, wD, wDs]
    match w, hw with
    | 0, _ => exact ⟨_, rfl, _, (fac_pl d.length xs1).1, (fac_pl d.length xs1).2, call_heard C d xs1 s1 _, call_fault d xs1 s1 n1 _⟩
    | 1, _ => exact ⟨_, rfl, _, hno.1, hno.2, call_heard_l C d fs _ 3 rfl, call_fault_l d fs _ 3 rfl⟩
    | 2, _ => exact ⟨_, rfl, _, (fac_pl d.length (fs.map nD)).1, (fac_pl d.length (fs.map nD)).2, call_heard C d _ (sv_nD fs) _, call_fault d _ (sv_nD fs) (by simp; omega) _⟩
    | 3, _ => exact ⟨_, rfl, _, hno.1, hno.2, call_heard_no C d _ (.inl rfl) _, call_fault_no d _ (.inl rfl) _⟩
    | 4, _ => exact ⟨_, rfl, _, (fac_pl d.length xs5).1, (fac_pl d.length xs5).2, call_heard C d xs5 s5 _, call_fault d xs5 s5 n5 _⟩
    | 5, _ => exact ⟨_, rfl, _, hno.1, hno.2, call_heard_no C d _ (.inr ⟨_, rfl⟩) _, call_fault_no d _ (.inr ⟨_, rfl⟩) _⟩
  obtain ⟨t, ht, u, hu1, hu2, c1, c2⟩ := last
  have c3 := fun l => call_same u hu1 (by omega) l
  refine ⟨J3, L, hJ3, ?_⟩
  have m1 : ys.length ≤ 16777215 := by omega
  have m2 : ys.length + 1 + zs.length ≤ 16777216 := by omega
  have m3 : fs.length ≤ 16777214 := by omega
  have a1 : ys ++ x :: zs = xs1 := by rw [← hx1]; simp
  simp only [odds, rowD, dieD, L] at *
  simp [den__law_faults, e1, e2, e3, hx, pw, hys, hzs, m1, m2, m3, hx1, a1, hx5, ht, c1, c2, c3, -Int.reducePow, -List.getElem?_map, -List.map_take, -List.map_drop]
theorem faultsJ (C : Addr) {J : Jug} (hJ : JOk J) {d : List Nat} (h : DieOk d) {fs : List Nat} (hf : RowOk d fs) : ∃ (J' : Jug), JOk J' ∧ ∀ r : Sto, m__law_faults C [.adr 0, dieD d, rowD fs] (ob J :: J.gob :: r) = .ok (.bl true) (ob J' :: J'.gob :: r) := by
  obtain ⟨J', junk, h2, e⟩ := run_faults C hJ h hf
  exact ⟨J', h2, fun r => callJ (by simp) e (by simp) r⟩
end Q82

set_option Elab.async false
set_option linter.all false
set_option maxRecDepth 100000
set_option maxHeartbeats 1000000
namespace Q82
open PySem L2 PySem.Spec PyProof.Rows Zb Nm
/-! ### _law_tabled -/
theorem get3 (a b c x : OB) (j : Sto) : (a :: b :: c :: (j ++ [x]))[j.length + 3]? = some x := by
  simp [List.getElem?_cons_succ]
theorem set3 (a b c x y : OB) (j : Sto) : (a :: b :: c :: (j ++ [x])).set (j.length + 3) y = a :: b :: c :: (j ++ [y]) := by
  simp [List.set_cons_succ]
theorem bd_succ {a b c : Nat} (h : Bd (a : Int) b) (hc : c ≤ a) : Bd ((c + 1 : Nat) : Int) (b + 1) := by
  unfold Bd at h ⊢
  rw [Int.natAbs_natCast] at h ⊢
  rw [Nat.pow_succ]
  generalize 2 ^ b = z at *
  omega
def gTb (d : List Nat) (n m : Nat) (x5 x6 x7 x8 x9 : Option D) : Sl := [some (.adr 0), some (dieD d), some (nD n), some (.adr 2), some (nD m), x5, x6, x7, x8, x9, none, none, none]
theorem parts_loop (C : Addr) {d : List Nat} (h : DieOk d) (n m k : Nat) (hk : k ≤ n) (hn : n ≤ 100) (hm1 : 1 ≤ m) (hm : m ≤ 5) {J : Jug} (hJ : JOk J) (T : OB) (junk : Sto) (x8 x9 : Option D) :
    ∃ (J' : Jug) (left : Nat) (ps : List Nat) (x8' x9' : Option D), JOk J' ∧ ps.length = m - 1 ∧ left + ps.sum = sizeN d n k ∧
      sForL ⟨rng 0 (m - 1), none⟩ (gN 8) (b1__law_tabled C) (rng 0 (m - 1)) (gTb d n m (some (nD k)) (some (nD (sizeN d n k))) (some (.adr (junk.length + 3))) x8 x9) (ob J :: J.gob :: T :: (junk ++ [.lst []])) = .nx (gTb d n m (some (nD k)) (some (nD left)) (some (.adr (junk.length + 3))) x8' x9') (ob J' :: J'.gob :: T :: (junk ++ [.lst (ps.map nD)])) := by
  have bS := bd_size h n k hk
  obtain ⟨g', l', e2, e3⟩ := for_inv (it := ⟨rng 0 (m - 1), none⟩) (gt := gN 8) (b := b1__law_tabled C) (fun j g l => ∃ (J' : Jug) (left : Nat) (ps : List Nat) (y8 y9 : Option D), JOk J' ∧ ps.length = j ∧ left + ps.sum = sizeN d n k ∧ g = gTb d n m (some (nD k)) (some (nD left)) (some (.adr (junk.length + 3))) y8 y9 ∧ l = ob J' :: J'.gob :: T :: (junk ++ [.lst (ps.map nD)]))
      (fun _ _ _ _ => trivial) (rng 0 (m - 1)) 0 (gTb d n m (some (nD k)) (some (nD (sizeN d n k))) (some (.adr (junk.length + 3))) x8 x9) (ob J :: J.gob :: T :: (junk ++ [.lst []])) ⟨J, sizeN d n k, [], x8, x9, hJ, rfl, by simp, rfl, rfl⟩ (by
        rintro j e g l hj ⟨J', left, ps, y8, y9, hJ', hp1, hp2, rfl, rfl⟩
        obtain ⟨hjl, he⟩ := rng_get hj
        subst he
        rw [Nat.zero_add] at *
        have bl : Bd ((left + 1 : Nat) : Int) 4000 := (bd_succ bS (by omega)).mono (by omega)
        obtain ⟨x, J2, hx, hJ2, e5⟩ := someJ hJ' (left + 1) ((left : Int) + 1) (by simp) (by omega) bl
        have hs : (left : Int) - (x : Int) = ((left - x : Nat) : Int) := by omega
        have go : b1__law_tabled C (gTb d n m (some (nD k)) (some (nD left)) (some (.adr (junk.length + 3))) (some (.int (0 + (j : Int)))) y9) (ob J' :: J'.gob :: T :: (junk ++ [.lst (ps.map nD)])) = .nx (gTb d n m (some (nD k)) (some (nD (left - x))) (some (.adr (junk.length + 3))) (some (.int (0 + (j : Int)))) (some (nD x))) (ob J2 :: J2.gob :: T :: (junk ++ [.lst ((ps ++ [x]).map nD)])) := by
          have q : ps.length + 1 ≤ 16777216 := by omega
          have q2 : ps.length ≤ 16777215 := by omega
          simp [b1__law_tabled, gTb, e5, get3, set3, hs, q, q2]
        refine ⟨gTb d n m (some (nD k)) (some (nD left)) (some (.adr (junk.length + 3))) (some (.int (0 + (j : Int)))) y9, rfl, ?_⟩
        rw [go]
        exact ⟨J2, left - x, ps ++ [x], _, _, hJ2, by simp [hp1], by simp; omega, rfl, rfl⟩)
  obtain ⟨J', left, ps, y8, y9, hJ', hp1, hp2, rfl, rfl⟩ := e3
  rw [rng_length, Nat.zero_add] at hp1
  exact ⟨J', left, ps, y8, y9, hJ', hp1, hp2, e2⟩
theorem rows_loop (C : Addr) {d : List Nat} (h : DieOk d) (n m : Nat) (hn : n ≤ 100) (hm1 : 1 ≤ m) (hm : m ≤ 5) {J : Jug} (hJ : JOk J) :
    ∃ (J' : Jug) (ts : List (List Nat)) (junk : Sto) (x5 x6 x7 x8 x9 : Option D), JOk J' ∧ TabOk d n m ts ∧
      sForL ⟨rng 0 (n + 1), none⟩ (gN 5) (b2__law_tabled C) (rng 0 (n + 1)) (gTb d n m none none none none none) [ob J, J.gob, .lst []] = .nx (gTb d n m x5 x6 x7 x8 x9) (ob J' :: J'.gob :: .lst (ts.map rowD) :: junk) := by
  obtain ⟨g', l', e2, e3⟩ := for_inv (it := ⟨rng 0 (n + 1), none⟩) (gt := gN 5) (b := b2__law_tabled C) (fun j g l => ∃ (J' : Jug) (ts : List (List Nat)) (junk : Sto) (x5 x6 x7 x8 x9 : Option D), JOk J' ∧ ts.length = j ∧ (∀ (k : Nat) (r : List Nat), ts[k]? = some r → r.length = m ∧ r.sum = sizeN d n k) ∧ g = gTb d n m x5 x6 x7 x8 x9 ∧ l = ob J' :: J'.gob :: .lst (ts.map rowD) :: junk)
      (fun _ _ _ _ => trivial) (rng 0 (n + 1)) 0 (gTb d n m none none none none none) [ob J, J.gob, .lst []] ⟨J, [], [], none, none, none, none, none, hJ, rfl, by simp, rfl, rfl⟩ (by
        rintro j e g l hj ⟨J', ts, junk, x5, x6, x7, x8, x9, hJ', ht, hr, rfl, rfl⟩
        obtain ⟨hjl, he⟩ := rng_get hj
        subst he
        rw [Nat.zero_add] at *
        obtain ⟨J2, left, ps, y8, y9, hJ2, hp1, hp2, e5⟩ := parts_loop C h n m j (by omega) hn hm1 hm hJ' (.lst (ts.map rowD)) junk x8 x9
        have c1 := fun l => call_lsizeI h n j (n : Int) (0 + (j : Int)) rfl (by omega) (by omega) (by omega) l
        have c1' := fun l => call_lsizeI h n j (n : Int) (j : Int) rfl rfl (by omega) (by omega) l
        have hmm : mid ((m : Int) - 1) = true := by unfold mid; exact decide_eq_true (by omega)
        have hmt : ((m : Int) - 1).toNat = m - 1 := by omega
        have go : b2__law_tabled C (gTb d n m (some (.int (0 + (j : Int)))) x6 x7 x8 x9) (ob J' :: J'.gob :: .lst (ts.map rowD) :: junk) = .nx (gTb d n m (some (nD j)) (some (nD left)) (some (.adr (junk.length + 3))) y8 y9) (ob J2 :: J2.gob :: .lst ((ts ++ [ps ++ [left]]).map rowD) :: (junk ++ [.lst (ps.map nD)] ++ [.lst [nD left]] ++ [.lst ((ps ++ [left]).map nD)])) := by
          have q : ps.length + 1 ≤ 16777216 := by omega
          have q2 : ps.length ≤ 16777215 := by omega
          have q3 : ts.length ≤ 16777215 := by omega
          simp only [gTb, dieD] at e5 c1 c1' ⊢
          simp [b2__law_tabled, c1, c1', hmm, hmt, e5, q, q2, q3, rowD]
          done
        refine ⟨gTb d n m (some (.int (0 + (j : Int)))) x6 x7 x8 x9, rfl, ?_⟩
        rw [go]
        refine ⟨J2, ts ++ [ps ++ [left]], _, _, _, _, _, _, hJ2, by simp [ht], ?_, rfl, rfl⟩
        intro k r hk
        rcases Nat.lt_trichotomy k ts.length with q | q | q
        · rw [List.getElem?_append_left q] at hk
          exact hr k r hk
        · subst q
          rw [List.getElem?_append_right (Nat.le_refl _), Nat.sub_self] at hk
          simp only [List.getElem?_cons_zero, Option.some.injEq] at hk
          subst hk
          rw [ht]
          simp
          omega
        · rw [List.getElem?_eq_none (by simp; omega)] at hk
          cases hk)
  obtain ⟨J', ts, junk, x5, x6, x7, x8, x9, hJ', ht, hr, rfl, rfl⟩ := e3
  rw [rng_length, Nat.zero_add] at ht
  exact ⟨J', ts, junk, x5, x6, x7, x8, x9, hJ', ⟨ht, hn, hm1, hm, hr⟩, e2⟩
end Q82

set_option Elab.async false
set_option linter.all false
set_option maxRecDepth 100000
set_option maxHeartbeats 1000000
namespace Q82
open PySem L2 PySem.Spec PyProof.Rows Zb Nm
/-! ### _law_tabled: outcomes -/
def gTc (d : List Nat) (n m : Nat) (ts : List (List Nat)) (x5 x6 x7 x8 x9 x10 x11 x12 : Option D) : Sl := [some (.adr 0), some (dieD d), some (nD n), some (tabD ts), some (nD m), x5, x6, x7, x8, x9, x10, x11, x12]
theorem outD_pl (o : Option Nat) : plD (outD o) = true ∧ wD (outD o) ≤ 10 := by cases o <;> simp [outD, plD, wD]
theorem outs_loop (C : Addr) {d : List Nat} (h : DieOk d) (n m : Nat) (hm1 : 1 ≤ m) (ts : List (List Nat)) (T : TabOk d n m ts) {J : Jug} (hJ : JOk J) (x5 x6 x7 x8 x9 : Option D) (junk : Sto) :
    ∃ (J' : Jug) (g' : Sl), JOk J' ∧ sForL ⟨rng 0 3, none⟩ (gN 10) (b3__law_tabled C) (rng 0 3) (gTc d n m ts x5 x6 x7 x8 x9 none none none) (ob J :: J.gob :: junk) = .nx g' (ob J' :: J'.gob :: junk) := by
  have hn := T.n100
  obtain ⟨g', l', e2, e3⟩ := for_inv (it := ⟨rng 0 3, none⟩) (gt := gN 10) (b := b3__law_tabled C) (fun j g l => ∃ (J' : Jug) (x7 x10 x11 x12 : Option D), JOk J' ∧ g = gTc d n m ts x5 x6 x7 x8 x9 x10 x11 x12 ∧ l = ob J' :: J'.gob :: junk)
      (fun _ _ _ _ => trivial) (rng 0 3) 0 (gTc d n m ts x5 x6 x7 x8 x9 none none none) (ob J :: J.gob :: junk) ⟨J, x7, none, none, none, hJ, rfl, rfl⟩ (by
        rintro j e g l hj ⟨J', x7, x10, x11, x12, hJ', rfl, rfl⟩
        obtain ⟨hjl, he⟩ := rng_get hj
        subst he
        obtain ⟨fs, J1, hf, hfl, hJ1, e1⟩ := facesJ hJ' h n n rfl (by omega)
        have kl := kind_le d fs
        obtain ⟨r, hr⟩ : ∃ r, ts[kindF d fs]? = some r := ⟨ts[kindF d fs]'(by rw [T.len]; omega), List.getElem?_eq_getElem _⟩
        obtain ⟨hr1, hr2⟩ := T.row _ r hr
        have hix := tab_ix hr
        have hm5 := T.m5
        obtain ⟨w, J2, hw, hJ2, e3⟩ := pour hJ1 m (m : Int) rfl (by omega) (by omega)
        obtain ⟨v, J3, hv, hJ3, e4⟩ := pour hJ2 2 2 rfl (by decide) (by decide)
        have c1 := fun l => call_lkind h hf l
        have ct : cutG (r.map nD) none (some (1 + (w : Int))) = (r.take (1 + w)).map nD := by
          rw [show (1 : Int) + (w : Int) = ((1 + w : Nat) : Int) by omega, cutG_to, List.map_take]
        have i1 := ints_nD (r.take (1 + w))
        have i2 := sum_cast (r.take (1 + w))
        have i3 := ints_nD r
        have i4 := sum_cast r
        rw [hr2] at i4
        generalize hA : (r.take (1 + w)).sum = A at i2
        refine ⟨gTc d n m ts x5 x6 x7 x8 x9 (some (.int (0 + (j : Int)))) x11 x12, rfl, ?_⟩
        by_cases q : 0 ≤ (A : Int) - (v : Int) ∧ (A : Int) - (v : Int) < (sizeN d n (kindF d fs) : Int)
        · obtain ⟨x, hx⟩ : ∃ x : Nat, (A : Int) - (v : Int) = (x : Int) := ⟨A - v, by omega⟩
          rw [hx] at q
          have hx2 : x < sizeN d n (kindF d fs) := by omega
          have c2 := fun l => call_lrow h (n := n) (k := kindF d fs) (x := x) (x : Int) rfl (by omega) hx2 (by omega) l
          have hf2 := rowN_ok h (by omega) hx2
          obtain ⟨o, o1, o2⟩ := call_outs h T hf2 (rowN_len h hx2) (ob J3 :: J3.gob :: junk)
          have s1 := fun l => call_same (outD o) (outD_pl o).1 (by have := (outD_pl o).2; omega) l
          have go : b3__law_tabled C (gTc d n m ts x5 x6 x7 x8 x9 (some (.int (0 + (j : Int)))) x11 x12) (ob J' :: J'.gob :: junk) = .nx (gTc d n m ts x5 x6 (some (rowD r)) x8 x9 (some (.int (0 + (j : Int)))) (some (rowD (rowN d n (kindF d fs) x))) (some (nD x))) (ob J3 :: J3.gob :: junk) := by
            simp only [gTc, dieD, tabD, rowD] at *
            simp [b3__law_tabled, e1, c1, hix, e3, e4, ct, i1, i2, i3, i4, hx, q, c2, o1, o2, s1, hA, -List.getElem?_map, -List.map_take]
          rw [go]
          exact ⟨J3, _, _, _, _, hJ3, rfl, rfl⟩
        · obtain ⟨o, o1, o2⟩ := call_outs h T hf hfl (ob J3 :: J3.gob :: junk)
          have s1 := fun l => call_same (outD o) (outD_pl o).1 (by have := (outD_pl o).2; omega) l
          have go : b3__law_tabled C (gTc d n m ts x5 x6 x7 x8 x9 (some (.int (0 + (j : Int)))) x11 x12) (ob J' :: J'.gob :: junk) = .nx (gTc d n m ts x5 x6 (some (rowD r)) x8 x9 (some (.int (0 + (j : Int)))) (some (rowD fs)) (some (.int ((A : Int) - (v : Int))))) (ob J3 :: J3.gob :: junk) := by
            generalize hz : (A : Int) - (v : Int) = z at *
            by_cases q1 : 0 ≤ z
            · have q2 : ¬ z < (sizeN d n (kindF d fs) : Int) := fun q2 => q ⟨q1, q2⟩
              simp only [gTc, dieD, tabD, rowD] at *
              simp [b3__law_tabled, e1, c1, hix, e3, e4, ct, i1, i2, i3, i4, hz, q1, q2, o1, o2, s1, hA, -List.getElem?_map, -List.map_take]
            · simp only [gTc, dieD, tabD, rowD] at *
              simp [b3__law_tabled, e1, c1, hix, e3, e4, ct, i1, i2, i3, i4, hz, q1, o1, o2, s1, hA, -List.getElem?_map, -List.map_take]
          rw [go]
          exact ⟨J3, _, _, _, _, hJ3, rfl, rfl⟩)
  obtain ⟨J', x7, x10, x11, x12, hJ', rfl, rfl⟩ := e3
  exact ⟨J', _, hJ', e2⟩
theorem run_tabled (C : Addr) {J : Jug} (hJ : JOk J) {d : List Nat} (h : DieOk d) (n : Nat) (hn : n ≤ 100) : ∃ (J' : Jug) (junk : Sto), JOk J' ∧ runB 13 (den__law_tabled C) [.adr 0, dieD d, nD n] [ob J, J.gob] = .ok (.bl true) (ob J' :: J'.gob :: junk) := by
  obtain ⟨a, J1, ha, hJ1, e1⟩ := pour hJ 3 3 rfl (by decide) (by decide)
  obtain ⟨J2, ts, junk, x5, x6, x7, x8, x9, hJ2, T, e2⟩ := rows_loop C h n (2 + a) hn (by omega) (by omega) hJ1
  obtain ⟨J3, g3, hJ3, e3⟩ := outs_loop C h n (2 + a) (by omega) ts T hJ2 x5 x6 x7 x8 x9 (.lst (ts.map rowD) :: junk)
  have c1 := fun l => call_ctable h T C l
  have s1 := fun l => call_same (nD (2 + a)) rfl (by simp [wD]) l
  have hm : mid ((n : Int) + 1) = true := by unfold mid; exact decide_eq_true (by omega)
  have ht : ((n : Int) + 1).toNat = n + 1 := by omega
  have hc : nD (2 + a) = D.int (2 + (a : Int)) := by simp
  refine ⟨J3, .lst (ts.map rowD) :: junk, hJ3, ?_⟩
  simp only [gTb, gTc, dieD, tabD] at *
  simp only [hc] at e2 e3 c1 s1
  simp [den__law_tabled, e1, e2, e3, c1, s1, hm, ht]
theorem tabledJ (C : Addr) {J : Jug} (hJ : JOk J) {d : List Nat} (h : DieOk d) (n : Nat) (i : Int) (hi : i = n) (hn : n ≤ 100) : ∃ (J' : Jug), JOk J' ∧ ∀ r : Sto, m__law_tabled C [.adr 0, dieD d, .int i] (ob J :: J.gob :: r) = .ok (.bl true) (ob J' :: J'.gob :: r) := by
  subst hi
  obtain ⟨J', junk, h2, e⟩ := run_tabled C hJ h n hn
  exact ⟨J', h2, fun r => callJ (by simp) e (by simp) r⟩
end Q82

set_option Elab.async false
set_option linter.all false
set_option maxRecDepth 100000
set_option maxHeartbeats 1000000
namespace Q82
open PySem L2 PySem.Spec PyProof.Rows Zb Nm
/-! ### law -/
theorem preN_succ (d : List Nat) (n k : Nat) : preN d n (k + 1) = preN d n k + sizeN d n k := by
  unfold preN
  rw [List.range_succ, List.map_append, List.sum_append]
  simp
theorem sums_loop (C C' : Addr) {d : List Nat} (h : DieOk d) (n : Nat) (hn : n ≤ 400) (x0 x1 x2 x7 : Option D) (S0 : Sto) :
    ∃ x7', sForL ⟨rng 0 (n + 1), none⟩ (gN 7) (b1_law C C') (rng 0 (n + 1)) [x0, x1, x2, some (dieD d), some (nD n), some (.adr S0.length), some (.int 0), x7] (S0 ++ [.lst []]) = .nx [x0, x1, x2, some (dieD d), some (nD n), some (.adr S0.length), some (nD (preN d n (n + 1))), x7'] (S0 ++ [.lst ((List.range (n + 1)).map fun k => nD (preN d n k))]) := by
  obtain ⟨g', l', e2, e3⟩ := for_inv (it := ⟨rng 0 (n + 1), none⟩) (gt := gN 7) (b := b1_law C C') (fun j g l => ∃ y, g = [x0, x1, x2, some (dieD d), some (nD n), some (.adr S0.length), some (nD (preN d n j)), y] ∧ l = S0 ++ [.lst ((List.range j).map fun k => nD (preN d n k))])
      (fun _ _ _ _ => trivial) (rng 0 (n + 1)) 0 [x0, x1, x2, some (dieD d), some (nD n), some (.adr S0.length), some (.int 0), x7] (S0 ++ [.lst []]) ⟨x7, rfl, rfl⟩ (by
        rintro j e g l hj ⟨y, rfl, rfl⟩
        obtain ⟨hjl, he⟩ := rng_get hj
        subst he
        rw [Nat.zero_add] at *
        have c1 := fun l => call_lsizeI h n j (n : Int) (j : Int) rfl rfl (by omega) (by omega) l
        have go : b1_law C C' [x0, x1, x2, some (dieD d), some (nD n), some (.adr S0.length), some (nD (preN d n j)), some (.int (0 + (j : Int)))] (S0 ++ [.lst ((List.range j).map fun k => nD (preN d n k))]) = .nx [x0, x1, x2, some (dieD d), some (nD n), some (.adr S0.length), some (nD (preN d n (j + 1))), some (.int (0 + (j : Int)))] (S0 ++ [.lst ((List.range (j + 1)).map fun k => nD (preN d n k))]) := by
          have q2 : j ≤ 16777215 := by omega
          have q1 : j + 1 ≤ 16777216 := by omega
          rw [preN_succ, List.range_succ]
          simp only [dieD] at *
          simp [b1_law, c1, q1, q2]
        refine ⟨[x0, x1, x2, some (dieD d), some (nD n), some (.adr S0.length), some (nD (preN d n j)), some (.int (0 + (j : Int)))], rfl, ?_⟩
        rw [go]
        exact ⟨_, rfl, rfl⟩)
  obtain ⟨y, rfl, rfl⟩ := e3
  rw [rng_length, Nat.zero_add] at e2
  exact ⟨y, e2⟩
theorem preN_nD (d : List Nat) (n m : Nat) : plDs ((List.range m).map fun k => nD (preN d n k)) = true ∧ wDs ((List.range m).map fun k => nD (preN d n k)) = m := by
  have e : ((List.range m).map fun k => nD (preN d n k)) = ((List.range m).map (preN d n)).map nD := by rw [List.map_map]; rfl
  rw [e]
  exact ⟨(pl_nD _).1, by rw [(pl_nD _).2]; simp⟩
def gLw (ns : List Int) (x2 x3 x4 x5 x6 x7 : Option D) : Sl := [some (.ro ns), some (.adr 0), x2, x3, x4, x5, x6, x7]
theorem run_lap (C C' : Addr) (ns : List Int) (j : Nat) (hj : j < 3) {J : Jug} (hJ : JOk J) (x3 x4 x5 x6 x7 : Option D) (junk : Sto) :
    ∃ (J' : Jug) (d : List Nat) (y4 y5 y6 y7 : Option D) (junk' : Sto), JOk J' ∧ DieOk d ∧ b2_law C C' (gLw ns (some (.int (0 + (j : Int)))) x3 x4 x5 x6 x7) (ob J :: J.gob :: junk) = .nx (gLw ns (some (.int (0 + (j : Int)))) (some (dieD d)) y4 y5 y6 y7) (ob J' :: J'.gob :: junk') := by
  obtain ⟨d, J1, h, hJ1, e1⟩ := dieJ hJ
  obtain ⟨T, hT1, hT2, hT3⟩ : ∃ T : Nat, ([D.int 7, .int 25, .int 61] : List D)[j]? = some (nD T) ∧ 1 ≤ T ∧ T ≤ 61 := by
    match j, hj with
    | 0, _ => exact ⟨7, rfl, by decide, by decide⟩
    | 1, _ => exact ⟨25, rfl, by decide, by decide⟩
    | 2, _ => exact ⟨61, rfl, by decide, by decide⟩
  obtain ⟨n, J2, hn, hJ2, e2⟩ := pour hJ1 T (T : Int) rfl hT2 (by omega)
  obtain ⟨fs, J3, hf, hfl, hJ3, e3⟩ := facesJ hJ2 h n (n : Int) rfl (by omega)
  obtain ⟨J4, hJ4, e4⟩ := rightJ C hJ3 h hf
  obtain ⟨k, J5, hk, hJ5, e5⟩ := pour hJ4 (n + 1) ((n : Int) + 1) (by simp) (by omega) (by omega)
  obtain ⟨J6, hJ6, e6⟩ := nrightJ hJ5 h n k (n : Int) (k : Int) rfl rfl (by omega) (by omega)
  obtain ⟨v, J7, hv, hJ7, e7⟩ := pour hJ6 6 6 rfl (by decide) (by decide)
  obtain ⟨fs2, J8, hf2, hfl2, hJ8, e8⟩ := facesJ hJ7 h v (v : Int) rfl (by omega)
  obtain ⟨J9, hJ9, e9⟩ := faultsJ C hJ8 h hf2
  obtain ⟨x7', e10⟩ := sums_loop C C' h n (by omega) (some (.ro ns)) (some (.adr 0)) (some (.int (0 + (j : Int)))) x7 (ob J9 :: J9.gob :: (junk ++ [.lst [.int 7, .int 25, .int 61]]))
  have c1 := fun l => call_sums h n (by omega) l
  have hp := preN_nD d n (n + 1)
  have s1 := fun l => call_same (.tup ((List.range (n + 1)).map fun k => nD (preN d n k))) (by simp only [plD]; exact hp.1) (by simp only [wD]; rw [hp.2]; omega) l
  have hm : mid ((n : Int) + 1) = true := by unfold mid; exact decide_eq_true (by omega)
  have ht : ((n : Int) + 1).toNat = n + 1 := by omega
  refine ⟨J9, d, some (nD n), some (.adr (junk.length + 3)), some (nD (preN d n (n + 1))), x7', junk ++ [.lst [.int 7, .int 25, .int 61], .lst ((List.range (n + 1)).map fun k => nD (preN d n k))], hJ9, h, ?_⟩
  generalize hY : ((List.range (n + 1)).map fun k => nD (preN d n k)) = Y at *
  simp only [gLw, dieD, rowD] at *
  simp at e10
  simp [b2_law, e1, hT1, e2, e3, e4, e5, e6, e7, e8, e9, e10, c1, s1, hm, ht]
theorem laps (C C' : Addr) (ns : List Int) {J : Jug} (hJ : JOk J) :
    ∃ (J' : Jug) (d : List Nat) (x2 x4 x5 x6 x7 : Option D) (junk : Sto), JOk J' ∧ DieOk d ∧ sForL ⟨rng 0 3, none⟩ (gN 2) (b2_law C C') (rng 0 3) (gLw ns none none none none none none) [ob J, J.gob] = .nx (gLw ns x2 (some (dieD d)) x4 x5 x6 x7) (ob J' :: J'.gob :: junk) := by
  obtain ⟨g', l', e2, e3⟩ := for_inv (it := ⟨rng 0 3, none⟩) (gt := gN 2) (b := b2_law C C') (fun j g l => ∃ (J' : Jug) (x2 x3 x4 x5 x6 x7 : Option D) (junk : Sto), JOk J' ∧ (0 < j → ∃ d, DieOk d ∧ x3 = some (dieD d)) ∧ g = gLw ns x2 x3 x4 x5 x6 x7 ∧ l = ob J' :: J'.gob :: junk)
      (fun _ _ _ _ => trivial) (rng 0 3) 0 (gLw ns none none none none none none) [ob J, J.gob] ⟨J, none, none, none, none, none, none, [], hJ, fun h => absurd h (Nat.lt_irrefl 0), rfl, rfl⟩ (by
        rintro j e g l hj ⟨J', x2, x3, x4, x5, x6, x7, junk, hJ', _, rfl, rfl⟩
        obtain ⟨hjl, he⟩ := rng_get hj
        subst he
        obtain ⟨J2, d, y4, y5, y6, y7, junk', hJ2, h, go⟩ := run_lap C C' ns j hjl hJ' x3 x4 x5 x6 x7 junk
        refine ⟨gLw ns (some (.int (0 + (j : Int)))) x3 x4 x5 x6 x7, rfl, ?_⟩
        rw [go]
        exact ⟨J2, _, _, _, _, _, _, _, hJ2, fun _ => ⟨d, h, rfl⟩, rfl, rfl⟩)
  obtain ⟨J', x2, x3, x4, x5, x6, x7, junk, hJ', hd, rfl, rfl⟩ := e3
  obtain ⟨d, h, rfl⟩ := hd (by rw [rng_length]; decide)
  exact ⟨J', d, x2, x4, x5, x6, x7, junk, hJ', h, e2⟩
def d0 : List Nat := [2, 3, 2]
theorem d0_ok : DieOk d0 := ⟨by decide, by decide, by decide, 3, by decide⟩
theorem run_law (C C' : Addr) (ns : List Int) (hns : ns.length ≤ 63) : ∃ L : Sto, runB 8 (den_law C C') [.ro ns] [] = .ok (.bl true) L := by
  obtain ⟨J, hJ, e1⟩ := call_jug ns hns
  obtain ⟨J1, d, x2, x4, x5, x6, x7, junk, hJ1, h, e2⟩ := laps C C' ns hJ
  obtain ⟨a, J2, ha, hJ2, e3⟩ := pour hJ1 12 12 rfl (by decide) (by decide)
  obtain ⟨v, J3, hv, hJ3, e4⟩ := pour hJ2 14 14 rfl (by decide) (by decide)
  obtain ⟨n, hn1, hn2⟩ : ∃ n : Nat, (atI ([D.int (a : Int), .int 60, .int 100] : List D) (if (11 : Int) < (v : Int) then (v : Int) - 11 else 0)) = some (nD n) ∧ n ≤ 100 := by
    by_cases q : (11 : Int) < (v : Int)
    · rw [if_pos q]
      have : v = 12 ∨ v = 13 := by omega
      rcases this with rfl | rfl
      · exact ⟨60, rfl, by decide⟩
      · exact ⟨100, rfl, by decide⟩
    · rw [if_neg q]
      exact ⟨a, rfl, by omega⟩
  obtain ⟨J4, hJ4, e5⟩ := tabledJ C' hJ3 h n (n : Int) rfl hn2
  obtain ⟨w, J5, hw, hJ5, e6⟩ := pour hJ4 7 7 rfl (by decide) (by decide)
  have z1 : RowOk d0 [2, 1] := ⟨by decide, by decide⟩
  have z2 : RowOk d0 [1, 2] := ⟨by decide, by decide⟩
  have t1 : ∀ l, m_row_number [.tup [.int 2, .int 3, .int 2], .tup [.int 2, .int 1]] l = .ok (.int 1) l := fun l => by
    have := call_num d0_ok z1 l
    rw [show numN d0 [2, 1] = 1 by decide] at this
    exact this
  have t2 : ∀ l, m_next_row [.tup [.int 2, .int 3, .int 2], .tup [.int 1, .int 2]] l = .ok .non l := fun l => by
    have := call_next d0_ok z2 l
    rw [show nextD d0 [1, 2] = .non by unfold nextD; rw [if_neg (by decide)]] at this
    exact this
  have t3 : ∀ l, m_row_steps [.tup [.int 2, .int 3, .int 2], .tup [.int 1, .int 2], .int 1] l = .ok (.tup [.int 0, .int 1]) l := fun l => by
    have := call_steps d0_ok z2 1 1 rfl l
    rw [show rowN d0 [1, 2].length (kindF d0 [1, 2]) ((numN d0 [1, 2] + 1) % sizeN d0 [1, 2].length (kindF d0 [1, 2])) = [0, 1] by decide] at this
    exact this
  have t4 : ∀ l, m_row_of_number [.tup [.int 2, .int 3, .int 2], .int 2, .int 1, .int 1] l = .ok (.tup [.int 2, .int 1]) l := fun l => by
    have := call_row d0_ok (n := 2) (k := 1) (x := 1) 1 rfl (by decide) (by decide) (by decide) l
    rw [show rowN d0 2 1 1 = [2, 1] by decide] at this
    exact this
  have s1 : ∀ l, m__law_same [.tup [.int 1, .non, .tup [.int 0, .int 1], .tup [.int 2, .int 1]], .tup [.int 1, .non, .tup [.int 0, .int 1], .tup [.int 2, .int 1]]] l = .ok (.bl true) l := fun l => call_same (.tup [.int 1, .non, .tup [.int 0, .int 1], .tup [.int 2, .int 1]]) rfl (by decide) l
  obtain ⟨R, hR⟩ : ∃ R, runB 8 (den_law C C') [.ro ns] [] = R := ⟨_, rfl⟩
  rw [hR]
  by_cases q : w = 4
  · subst q
    obtain ⟨d2, J6, h2, hJ6, e7⟩ := dieJ hJ5
    obtain ⟨fs, J7, hf, hfl, hJ7, e8⟩ := facesJ hJ6 h2 400 400 rfl (by decide)
    obtain ⟨J8, hJ8, e9⟩ := rightJ C hJ7 h2 hf
    obtain ⟨k, J9, hk, hJ9, e10⟩ := pour hJ8 99 99 rfl (by decide) (by decide)
    obtain ⟨J10, hJ10, e11⟩ := nrightJ hJ9 h2 400 (150 + k) 400 (150 + (k : Int)) rfl (by simp) (by omega) (by decide)
    simp only [gLw, dieD, rowD] at *
    simp at e6
    simp [den_law, e1, e2, e3, e4, hn1, e5, e6, e7, e8, e9, e10, e11, t1, t2, t3, t4, s1] at hR
    exact ⟨_, hR.symm⟩
  · have q' : ¬ (w : Int) = 4 := by omega
    simp only [gLw, dieD, rowD] at *
    simp [den_law, e1, e2, e3, e4, hn1, e5, e6, q, q', t1, t2, t3, t4, s1] at hR
    exact ⟨_, hR.symm⟩
end Q82

set_option Elab.async false
set_option linter.all false
set_option maxRecDepth 100000
set_option maxHeartbeats 8000000
namespace Q82
open PySem PySem.W PySem.Calls PyProof.Rows PySem.HandSPX L2 PySem.Spec Zb
def spLaw (K : PySem.W.Frag) : Sp := fun vs H Q _ => ∃ (a : Addr) (ns : List Int), vs = [.ref a] ∧ SqS K [] H a (ns.map V.int) ∧ ns.length ≤ 63 ∧ ∀ H', Q (.bl true) H'
def pv_row_steps {α : Type} : List α → List α → List α
  | [], [a, b, c] => [a, b, c]
  | _, _ => []
theorem pr_row_steps {K : PySem.W.Frag} : ∀ (ρ : List Addr) (H : Hp) (ds : List D) (vs : List V), Rws K ρ H ds vs → Rws K ρ H (perm_row_steps ds) (pv_row_steps [] vs)
  | ρ, H, [], vs, h => by
    match vs, Rws.length h with
    | [], _ => exact Rws.nil
  | ρ, H, [d0], vs, h => by
    match vs, Rws.length h with
    | [v0], _ => exact Rws.nil
  | ρ, H, [d0, d1], vs, h => by
    match vs, Rws.length h with
    | [v0, v1], _ => exact Rws.nil
  | ρ, H, [d0, d1, d2], vs, h => by
    match vs, Rws.length h, h with
    | [v0, v1, v2], _, h =>
      have r0 := h.get (i := 0) rfl
      obtain ⟨u0, e0, r0⟩ := r0
      cases e0
      have r1 := h.get (i := 1) rfl
      obtain ⟨u1, e1, r1⟩ := r1
      cases e1
      have r2 := h.get (i := 2) rfl
      obtain ⟨u2, e2, r2⟩ := r2
      cases e2
      exact (Rws.cons r0 (Rws.cons r1 (Rws.cons r2 Rws.nil)))
  | ρ, H, d0 :: d1 :: d2 :: d3 :: ds, vs, h => by
    match vs, Rws.length h with
    | v0 :: v1 :: v2 :: v3 :: us, _ => exact Rws.nil
theorem pl_row_steps {vs : List V} {us : List Value} {zs : List V} {ws : List Value} (h : Vals vs us) (q : Vals zs ws) : Vals (pv_row_steps vs zs) (pv_row_steps us ws) := by
  cases h with
  | cons r h => exact .nil
  | nil =>
    cases q with
    | nil => exact .nil
    | cons q0 q =>
      cases q with
      | nil => exact .nil
      | cons q1 q =>
        cases q with
        | nil => exact .nil
        | cons q2 q =>
          cases q with
          | cons _ _ => exact .nil
          | nil => exact (.cons q0 (.cons q1 (.cons q2 .nil)))
def pv_row_of_number {α : Type} : List α → List α → List α
  | [], [a, b, c, d] => [d, c, b, a]
  | _, _ => []
theorem pr_row_of_number {K : PySem.W.Frag} : ∀ (ρ : List Addr) (H : Hp) (ds : List D) (vs : List V), Rws K ρ H ds vs → Rws K ρ H (perm_row_of_number ds) (pv_row_of_number [] vs)
  | ρ, H, [], vs, h => by
    match vs, Rws.length h with
    | [], _ => exact Rws.nil
  | ρ, H, [d0], vs, h => by
    match vs, Rws.length h with
    | [v0], _ => exact Rws.nil
  | ρ, H, [d0, d1], vs, h => by
    match vs, Rws.length h with
    | [v0, v1], _ => exact Rws.nil
  | ρ, H, [d0, d1, d2], vs, h => by
    match vs, Rws.length h with
    | [v0, v1, v2], _ => exact Rws.nil
  | ρ, H, [d0, d1, d2, d3], vs, h => by
    match vs, Rws.length h, h with
    | [v0, v1, v2, v3], _, h =>
      have r0 := h.get (i := 0) rfl
      obtain ⟨u0, e0, r0⟩ := r0
      cases e0
      have r1 := h.get (i := 1) rfl
      obtain ⟨u1, e1, r1⟩ := r1
      cases e1
      have r2 := h.get (i := 2) rfl
      obtain ⟨u2, e2, r2⟩ := r2
      cases e2
      have r3 := h.get (i := 3) rfl
      obtain ⟨u3, e3, r3⟩ := r3
      cases e3
      exact (Rws.cons r3 (Rws.cons r2 (Rws.cons r1 (Rws.cons r0 Rws.nil))))
  | ρ, H, d0 :: d1 :: d2 :: d3 :: d4 :: ds, vs, h => by
    match vs, Rws.length h with
    | v0 :: v1 :: v2 :: v3 :: v4 :: us, _ => exact Rws.nil
theorem pl_row_of_number {vs : List V} {us : List Value} {zs : List V} {ws : List Value} (h : Vals vs us) (q : Vals zs ws) : Vals (pv_row_of_number vs zs) (pv_row_of_number us ws) := by
  cases h with
  | cons r h => exact .nil
  | nil =>
    cases q with
    | nil => exact .nil
    | cons q0 q =>
      cases q with
      | nil => exact .nil
      | cons q1 q =>
        cases q with
        | nil => exact .nil
        | cons q2 q =>
          cases q with
          | nil => exact .nil
          | cons q3 q =>
            cases q with
            | cons _ _ => exact .nil
            | nil => exact (.cons q3 (.cons q2 (.cons q1 (.cons q0 .nil))))
theorem exm_of {K : PySem.W.Frag} {S : Addr} (h1 : PySem.W.subIn K (.ref S) (.type "BaseException") = some true) (h2 : PySem.W.isClsIn K S = true) (h3 : PySem.W.typeIn K (.ref S) = some (.type "type")) (h4 : PySem.W.subIn K (.ref S) (.ref S) = some true) :
    PySem.W.exmOne K (.ref S) (.ref S) = some true := by
  unfold PySem.W.isClsIn at h2
  unfold PySem.W.exmOne PySem.W.kitCls
  simp [h1, h2, h3, h4]
theorem all_mk {P : Program} {w : World} {K : PySem.W.Frag} {h : Heap} {mg : Str → Option Value} {fa : Addr}
    {C_BadDie B_BadDie fI_BadDie cda_BadDie cc_BadDie : Addr}
    {nm_BadDie qn_BadDie qual_BadDie : Str} {N_BadDie : Addr} {bs_BadDie bm_BadDie : List Value} {sn_BadDie : List Str} {sub_BadDie : List Value} {ab_BadDie : Bool} {col_BadDie : Option Bool} {dd_BadDie : Option Addr} {e0_BadDie e1_BadDie e2_BadDie e3_BadDie e5_BadDie : Option Value}
    {nm2_BadDie qn2_BadDie : Str} {N2_BadDie : Addr} {bs2_BadDie : List Value} {sn2_BadDie : List Str} {sub2_BadDie : List Value} {ab2_BadDie : Bool} {col2_BadDie : Option Bool} {dd2_BadDie : Option Addr} {e02_BadDie e12_BadDie e22_BadDie e32_BadDie e52_BadDie : Option Value}
    {oc_BadDie dc_BadDie pm_BadDie ct_BadDie cl_BadDie ccl_BadDie : Value} {od_BadDie an_BadDie cld_BadDie cdd_BadDie : Option Addr} {osl_BadDie csl_BadDie ccs_BadDie : Array (Option Value)} {avs_BadDie : Array Value} {file_BadDie : Str} {tf_BadDie : Tok}
    {C_BadTable B_BadTable fI_BadTable cda_BadTable cc_BadTable : Addr}
    {nm_BadTable qn_BadTable qual_BadTable : Str} {N_BadTable : Addr} {bs_BadTable bm_BadTable : List Value} {sn_BadTable : List Str} {sub_BadTable : List Value} {ab_BadTable : Bool} {col_BadTable : Option Bool} {dd_BadTable : Option Addr} {e0_BadTable e1_BadTable e2_BadTable e3_BadTable e5_BadTable : Option Value}
    {nm2_BadTable qn2_BadTable : Str} {N2_BadTable : Addr} {bs2_BadTable : List Value} {sn2_BadTable : List Str} {sub2_BadTable : List Value} {ab2_BadTable : Bool} {col2_BadTable : Option Bool} {dd2_BadTable : Option Addr} {e02_BadTable e12_BadTable e22_BadTable e32_BadTable e52_BadTable : Option Value}
    {oc_BadTable dc_BadTable pm_BadTable ct_BadTable cl_BadTable ccl_BadTable : Value} {od_BadTable an_BadTable cld_BadTable cdd_BadTable : Option Addr} {osl_BadTable csl_BadTable ccs_BadTable : Array (Option Value)} {avs_BadTable : Array Value} {file_BadTable : Str} {tf_BadTable : Tok}
    {f0 : Addr} {od0 an0 : Option Addr} {sl0 : Array (Option Value)} {oc0 kV0 dc0 pm0 cd0 ct0 : Value}
    {f1 : Addr} {od1 an1 : Option Addr} {sl1 : Array (Option Value)} {oc1 kV1 dc1 pm1 cd1 ct1 : Value}
    {f2 : Addr} {od2 an2 : Option Addr} {sl2 : Array (Option Value)} {oc2 kV2 dc2 pm2 cd2 ct2 : Value}
    {f3 : Addr} {od3 an3 : Option Addr} {sl3 : Array (Option Value)} {oc3 kV3 dc3 pm3 cd3 ct3 : Value}
    {f4 : Addr} {od4 an4 : Option Addr} {sl4 : Array (Option Value)} {oc4 kV4 dc4 pm4 cd4 ct4 : Value}
    {f5 : Addr} {od5 an5 : Option Addr} {sl5 : Array (Option Value)} {oc5 kV5 dc5 pm5 cd5 ct5 : Value}
    {f6 : Addr} {od6 an6 : Option Addr} {sl6 : Array (Option Value)} {oc6 kV6 dc6 pm6 cd6 ct6 : Value}
    {f7 : Addr} {od7 an7 : Option Addr} {sl7 : Array (Option Value)} {oc7 kV7 dc7 pm7 cd7 ct7 : Value}
    {f8 : Addr} {od8 an8 : Option Addr} {sl8 : Array (Option Value)} {oc8 kV8 dc8 pm8 cd8 ct8 : Value}
    {f9 : Addr} {od9 an9 : Option Addr} {sl9 : Array (Option Value)} {oc9 kV9 dc9 pm9 cd9 ct9 : Value}
    {f10 : Addr} {od10 an10 : Option Addr} {sl10 : Array (Option Value)} {oc10 kV10 dc10 pm10 cd10 ct10 : Value}
    {f11 : Addr} {od11 an11 : Option Addr} {sl11 : Array (Option Value)} {oc11 kV11 dc11 pm11 cd11 ct11 : Value}
    {f12 : Addr} {od12 an12 : Option Addr} {sl12 : Array (Option Value)} {oc12 kV12 dc12 pm12 cd12 ct12 : Value}
    {f13 : Addr} {od13 an13 : Option Addr} {sl13 : Array (Option Value)} {oc13 kV13 dc13 pm13 cd13 ct13 : Value}
    {f14 : Addr} {od14 an14 : Option Addr} {sl14 : Array (Option Value)} {oc14 kV14 dc14 pm14 cd14 ct14 : Value}
    {f15 : Addr} {od15 an15 : Option Addr} {sl15 : Array (Option Value)} {oc15 kV15 dc15 pm15 cd15 ct15 : Value}
    {f16 : Addr} {od16 an16 : Option Addr} {sl16 : Array (Option Value)} {oc16 kV16 dc16 pm16 cd16 ct16 : Value}
    {f17 : Addr} {od17 an17 : Option Addr} {sl17 : Array (Option Value)} {oc17 kV17 dc17 pm17 cd17 ct17 : Value}
    {f18 : Addr} {od18 an18 : Option Addr} {sl18 : Array (Option Value)} {oc18 kV18 dc18 pm18 cd18 ct18 : Value}
    {f19 : Addr} {od19 an19 : Option Addr} {sl19 : Array (Option Value)} {oc19 kV19 dc19 pm19 cd19 ct19 : Value}
    {f20 : Addr} {od20 an20 : Option Addr} {sl20 : Array (Option Value)} {oc20 kV20 dc20 pm20 cd20 ct20 : Value}
    {f21 : Addr} {od21 an21 : Option Addr} {sl21 : Array (Option Value)} {oc21 kV21 dc21 pm21 cd21 ct21 : Value}
    {f22 : Addr} {od22 an22 : Option Addr} {sl22 : Array (Option Value)} {oc22 kV22 dc22 pm22 cd22 ct22 : Value}
    {f23 : Addr} {od23 an23 : Option Addr} {sl23 : Array (Option Value)} {oc23 kV23 dc23 pm23 cd23 ct23 : Value}
    {f24 : Addr} {od24 an24 : Option Addr} {sl24 : Array (Option Value)} {oc24 kV24 dc24 pm24 cd24 ct24 : Value}
    {f25 : Addr} {od25 an25 : Option Addr} {sl25 : Array (Option Value)} {oc25 kV25 dc25 pm25 cd25 ct25 : Value}
    {f26 : Addr} {od26 an26 : Option Addr} {sl26 : Array (Option Value)} {oc26 kV26 dc26 pm26 cd26 ct26 : Value}
    {f27 : Addr} {od27 an27 : Option Addr} {sl27 : Array (Option Value)} {oc27 kV27 dc27 pm27 cd27 ct27 : Value}
    {f28 : Addr} {od28 an28 : Option Addr} {sl28 : Array (Option Value)} {oc28 kV28 dc28 pm28 cd28 ct28 : Value}
    {f29 : Addr} {od29 an29 : Option Addr} {sl29 : Array (Option Value)} {oc29 kV29 dc29 pm29 cd29 ct29 : Value}
    {f30 : Addr} {od30 an30 : Option Addr} {sl30 : Array (Option Value)} {oc30 kV30 dc30 pm30 cd30 ct30 : Value}
    {f31 : Addr} {od31 an31 : Option Addr} {sl31 : Array (Option Value)} {oc31 kV31 dc31 pm31 cd31 ct31 : Value}
    {f32 : Addr} {od32 an32 : Option Addr} {sl32 : Array (Option Value)} {oc32 kV32 dc32 pm32 cd32 ct32 : Value}
    {f33 : Addr} {od33 an33 : Option Addr} {sl33 : Array (Option Value)} {oc33 kV33 dc33 pm33 cd33 ct33 : Value}
    {f34 : Addr} {od34 an34 : Option Addr} {sl34 : Array (Option Value)} {oc34 kV34 dc34 pm34 cd34 ct34 : Value}
    {f35 : Addr} {od35 an35 : Option Addr} {sl35 : Array (Option Value)} {oc35 kV35 dc35 pm35 cd35 ct35 : Value}
    {f36 : Addr} {od36 an36 : Option Addr} {sl36 : Array (Option Value)} {oc36 kV36 dc36 pm36 cd36 ct36 : Value}
    {f37 : Addr} {od37 an37 : Option Addr} {sl37 : Array (Option Value)} {oc37 kV37 dc37 pm37 cd37 ct37 : Value}
    {f38 : Addr} {od38 an38 : Option Addr} {sl38 : Array (Option Value)} {oc38 kV38 dc38 pm38 cd38 ct38 : Value}
    {f39 : Addr} {od39 an39 : Option Addr} {sl39 : Array (Option Value)} {oc39 kV39 dc39 pm39 cd39 ct39 : Value}
    {f40 : Addr} {od40 an40 : Option Addr} {sl40 : Array (Option Value)} {oc40 kV40 dc40 pm40 cd40 ct40 : Value}
    {f41 : Addr} {od41 an41 : Option Addr} {sl41 : Array (Option Value)} {oc41 kV41 dc41 pm41 cd41 ct41 : Value}
    {f42 : Addr} {od42 an42 : Option Addr} {sl42 : Array (Option Value)} {oc42 kV42 dc42 pm42 cd42 ct42 : Value}
    {f43 : Addr} {od43 an43 : Option Addr} {sl43 : Array (Option Value)} {oc43 kV43 dc43 pm43 cd43 ct43 : Value}
    {f44 : Addr} {od44 an44 : Option Addr} {sl44 : Array (Option Value)} {oc44 kV44 dc44 pm44 cd44 ct44 : Value}
    {f45 : Addr} {od45 an45 : Option Addr} {sl45 : Array (Option Value)} {oc45 kV45 dc45 pm45 cd45 ct45 : Value}
    {f46 : Addr} {od46 an46 : Option Addr} {sl46 : Array (Option Value)} {oc46 kV46 dc46 pm46 cd46 ct46 : Value}
    {f47 : Addr} {od47 an47 : Option Addr} {sl47 : Array (Option Value)} {oc47 kV47 dc47 pm47 cd47 ct47 : Value}
    {f48 : Addr} {od48 an48 : Option Addr} {sl48 : Array (Option Value)} {oc48 kV48 dc48 pm48 cd48 ct48 : Value}
    {f49 : Addr} {od49 an49 : Option Addr} {sl49 : Array (Option Value)} {oc49 kV49 dc49 pm49 cd49 ct49 : Value}
    {u_MOST_THROWS : Value}
    {u_MOST_OUTCOMES : Value}
    (X : K.In h) (G : h.Ns mainGlobals mg) (hfa : mg "law" = some (.ref fa))
    (aC_BadDie : PySem.W.nsIn K mainGlobals "BadDie" = some (some (.ref C_BadDie)))
    (xC_BadDie : K.lookup C_BadDie = some (excClassObj nm_BadDie qn_BadDie C_BadDie N_BadDie bs_BadDie (.ref B_BadDie :: bm_BadDie) true sn_BadDie sub_BadDie ab_BadDie col_BadDie dd_BadDie e0_BadDie e1_BadDie e2_BadDie e3_BadDie e5_BadDie "ValueError.__new__"))
    (xB_BadDie : K.lookup B_BadDie = some (excClassObj nm2_BadDie qn2_BadDie B_BadDie N2_BadDie bs2_BadDie bm_BadDie true sn2_BadDie sub2_BadDie ab2_BadDie col2_BadDie dd2_BadDie e02_BadDie e12_BadDie e22_BadDie e32_BadDie e52_BadDie "ValueError.__new__"))
    (iB_BadDie : PySem.W.findIn K (.ref B_BadDie) "__init__" = some (some (.builtin "ValueError.__init__")))
    (rB_BadDie : refsVE (.ref B_BadDie :: bm_BadDie) = true)
    (sa_BadDie : PySem.W.findIn K (.ref C_BadDie) "__setattr__" = some (some (.builtin "object.__setattr__")))
    (ga_BadDie : PySem.W.findIn K (.ref C_BadDie) "__getattribute__" = some (some (.builtin "BaseException.__getattribute__")))
    (gg_BadDie : PySem.W.findIn K (.ref C_BadDie) "__getattr__" = some none)
    (nb0_BadDie : PySem.W.findIn K (.ref C_BadDie) "at" = some none)
    (nb1_BadDie : PySem.W.findIn K (.ref C_BadDie) "word" = some none)
    (iC_BadDie : PySem.W.findIn K (.ref C_BadDie) "__init__" = some (some (.ref fI_BadDie)))
    (tI_BadDie : PySem.W.typeIn K (.ref fI_BadDie) = some (.type "function"))
    (kC_BadDie : PySem.W.keepIn K (.ref C_BadDie) = true)
    (eC_BadDie : PySem.W.subIn K (.ref C_BadDie) (.type "BaseException") = some true)
    (vC_BadDie : PySem.W.subIn K (.ref C_BadDie) (.type "ValueError") = some true)
    (mC_BadDie : PySem.W.mroIn K C_BadDie (.ref C_BadDie) = some true)
    (tC_BadDie : PySem.W.typeIn K (.ref C_BadDie) = some (.type "type"))
    (hC_BadDie : PySem.W.hasDictIn K C_BadDie = true)
    (clC_BadDie : PySem.W.isClsIn K C_BadDie = true)
    (sC_BadDie : PySem.W.subIn K (.ref C_BadDie) (.ref C_BadDie) = some true)
    (op_BadDie : PySem.W.nsIn K cStatics "thirdparty.any" = some none)
    (nS_BadDie : PySem.W.nsIn K mainGlobals "super" = some none)
    (tS_BadDie : (P.main.scope.names.lookup ("super" : Str)).isSome = false)
    (lI_BadDie : K.lookup fI_BadDie = some ⟨oc_BadDie, od_BadDie, .func (ksFn "__init__" qual_BadDie (L2.defArgs Zy.sI) (L2.defBody Zy.sI) (L2.defScope Zy.sI) .none .none dc_BadDie pm_BadDie an_BadDie (.ref cda_BadDie) ct_BadDie cc_BadDie), osl_BadDie⟩)
    (cI_BadDie : PySem.W.codeIn K (.ref cda_BadDie) qual_BadDie = true)
    (lcc_BadDie : K.lookup cc_BadDie = some ⟨cl_BadDie, cld_BadDie, .cell (some (.ref C_BadDie)), csl_BadDie⟩)
    (lcd_BadDie : K.lookup cda_BadDie = some ⟨ccl_BadDie, cdd_BadDie, .fields avs_BadDie, ccs_BadDie⟩)
    (fv_BadDie : avs_BadDie[2]? = some (.str file_BadDie tf_BadDie))
    (fe_BadDie : ((P.main.file : Str) == file_BadDie) = true)
    (aC_BadTable : PySem.W.nsIn K mainGlobals "BadTable" = some (some (.ref C_BadTable)))
    (xC_BadTable : K.lookup C_BadTable = some (excClassObj nm_BadTable qn_BadTable C_BadTable N_BadTable bs_BadTable (.ref B_BadTable :: bm_BadTable) true sn_BadTable sub_BadTable ab_BadTable col_BadTable dd_BadTable e0_BadTable e1_BadTable e2_BadTable e3_BadTable e5_BadTable "ValueError.__new__"))
    (xB_BadTable : K.lookup B_BadTable = some (excClassObj nm2_BadTable qn2_BadTable B_BadTable N2_BadTable bs2_BadTable bm_BadTable true sn2_BadTable sub2_BadTable ab2_BadTable col2_BadTable dd2_BadTable e02_BadTable e12_BadTable e22_BadTable e32_BadTable e52_BadTable "ValueError.__new__"))
    (iB_BadTable : PySem.W.findIn K (.ref B_BadTable) "__init__" = some (some (.builtin "ValueError.__init__")))
    (rB_BadTable : refsVE (.ref B_BadTable :: bm_BadTable) = true)
    (sa_BadTable : PySem.W.findIn K (.ref C_BadTable) "__setattr__" = some (some (.builtin "object.__setattr__")))
    (ga_BadTable : PySem.W.findIn K (.ref C_BadTable) "__getattribute__" = some (some (.builtin "BaseException.__getattribute__")))
    (gg_BadTable : PySem.W.findIn K (.ref C_BadTable) "__getattr__" = some none)
    (nb0_BadTable : PySem.W.findIn K (.ref C_BadTable) "at" = some none)
    (nb1_BadTable : PySem.W.findIn K (.ref C_BadTable) "word" = some none)
    (iC_BadTable : PySem.W.findIn K (.ref C_BadTable) "__init__" = some (some (.ref fI_BadTable)))
    (tI_BadTable : PySem.W.typeIn K (.ref fI_BadTable) = some (.type "function"))
    (kC_BadTable : PySem.W.keepIn K (.ref C_BadTable) = true)
    (eC_BadTable : PySem.W.subIn K (.ref C_BadTable) (.type "BaseException") = some true)
    (vC_BadTable : PySem.W.subIn K (.ref C_BadTable) (.type "ValueError") = some true)
    (mC_BadTable : PySem.W.mroIn K C_BadTable (.ref C_BadTable) = some true)
    (tC_BadTable : PySem.W.typeIn K (.ref C_BadTable) = some (.type "type"))
    (hC_BadTable : PySem.W.hasDictIn K C_BadTable = true)
    (clC_BadTable : PySem.W.isClsIn K C_BadTable = true)
    (sC_BadTable : PySem.W.subIn K (.ref C_BadTable) (.ref C_BadTable) = some true)
    (op_BadTable : PySem.W.nsIn K cStatics "thirdparty.any" = some none)
    (nS_BadTable : PySem.W.nsIn K mainGlobals "super" = some none)
    (tS_BadTable : (P.main.scope.names.lookup ("super" : Str)).isSome = false)
    (lI_BadTable : K.lookup fI_BadTable = some ⟨oc_BadTable, od_BadTable, .func (ksFn "__init__" qual_BadTable (L2.defArgs Zv.sI) (L2.defBody Zv.sI) (L2.defScope Zv.sI) .none .none dc_BadTable pm_BadTable an_BadTable (.ref cda_BadTable) ct_BadTable cc_BadTable), osl_BadTable⟩)
    (cI_BadTable : PySem.W.codeIn K (.ref cda_BadTable) qual_BadTable = true)
    (lcc_BadTable : K.lookup cc_BadTable = some ⟨cl_BadTable, cld_BadTable, .cell (some (.ref C_BadTable)), csl_BadTable⟩)
    (lcd_BadTable : K.lookup cda_BadTable = some ⟨ccl_BadTable, cdd_BadTable, .fields avs_BadTable, ccs_BadTable⟩)
    (fv_BadTable : avs_BadTable[2]? = some (.str file_BadTable tf_BadTable))
    (fe_BadTable : ((P.main.file : Str) == file_BadTable) = true)
    (a0 : PySem.W.nsIn K mainGlobals "choices" = some (some (.ref f0)))
    (l0 : K.lookup f0 = some ⟨oc0, od0, .func (PySem.W.fnOf "choices" "choices" (defArgs s_choices) (defBody s_choices) (defScope s_choices) .none kV0 dc0 pm0 an0 cd0 ct0), sl0⟩)
    (c0 : PySem.W.codeIn K cd0 "choices" = true)
    (k0 : PySem.W.keepIn K (.ref f0) = true)
    (a1 : PySem.W.nsIn K mainGlobals "choice_row" = some (some (.ref f1)))
    (l1 : K.lookup f1 = some ⟨oc1, od1, .func (PySem.W.fnOf "choice_row" "choice_row" (defArgs s_choice_row) (defBody s_choice_row) (defScope s_choice_row) .none kV1 dc1 pm1 an1 cd1 ct1), sl1⟩)
    (c1 : PySem.W.codeIn K cd1 "choice_row" = true)
    (k1 : PySem.W.keepIn K (.ref f1) = true)
    (a2 : PySem.W.nsIn K mainGlobals "power" = some (some (.ref f2)))
    (l2 : K.lookup f2 = some ⟨oc2, od2, .func (PySem.W.fnOf "power" "power" (defArgs s_power) (defBody s_power) (defScope s_power) .none kV2 dc2 pm2 an2 cd2 ct2), sl2⟩)
    (c2 : PySem.W.codeIn K cd2 "power" = true)
    (k2 : PySem.W.keepIn K (.ref f2) = true)
    (a3 : PySem.W.nsIn K mainGlobals "heavy_faces" = some (some (.ref f3)))
    (l3 : K.lookup f3 = some ⟨oc3, od3, .func (PySem.W.fnOf "heavy_faces" "heavy_faces" (defArgs s_heavy_faces) (defBody s_heavy_faces) (defScope s_heavy_faces) .none kV3 dc3 pm3 an3 cd3 ct3), sl3⟩)
    (c3 : PySem.W.codeIn K cd3 "heavy_faces" = true)
    (k3 : PySem.W.keepIn K (.ref f3) = true)
    (a4 : PySem.W.nsIn K mainGlobals "light_faces" = some (some (.ref f4)))
    (l4 : K.lookup f4 = some ⟨oc4, od4, .func (PySem.W.fnOf "light_faces" "light_faces" (defArgs s_light_faces) (defBody s_light_faces) (defScope s_light_faces) .none kV4 dc4 pm4 an4 cd4 ct4), sl4⟩)
    (c4 : PySem.W.codeIn K cd4 "light_faces" = true)
    (k4 : PySem.W.keepIn K (.ref f4) = true)
    (a5 : PySem.W.nsIn K mainGlobals "die_form" = some (some (.ref f5)))
    (l5 : K.lookup f5 = some ⟨oc5, od5, .func (PySem.W.fnOf "die_form" "die_form" (defArgs s_die_form) (defBody s_die_form) (defScope s_die_form) .none kV5 dc5 pm5 an5 cd5 ct5), sl5⟩)
    (c5 : PySem.W.codeIn K cd5 "die_form" = true)
    (k5 : PySem.W.keepIn K (.ref f5) = true)
    (a6 : PySem.W.nsIn K mainGlobals "is_heavy" = some (some (.ref f6)))
    (l6 : K.lookup f6 = some ⟨oc6, od6, .func (PySem.W.fnOf "is_heavy" "is_heavy" (defArgs s_is_heavy) (defBody s_is_heavy) (defScope s_is_heavy) .none kV6 dc6 pm6 an6 cd6 ct6), sl6⟩)
    (c6 : PySem.W.codeIn K cd6 "is_heavy" = true)
    (k6 : PySem.W.keepIn K (.ref f6) = true)
    (a7 : PySem.W.nsIn K mainGlobals "face_place" = some (some (.ref f7)))
    (l7 : K.lookup f7 = some ⟨oc7, od7, .func (PySem.W.fnOf "face_place" "face_place" (defArgs s_face_place) (defBody s_face_place) (defScope s_face_place) .none kV7 dc7 pm7 an7 cd7 ct7), sl7⟩)
    (c7 : PySem.W.codeIn K cd7 "face_place" = true)
    (k7 : PySem.W.keepIn K (.ref f7) = true)
    (a8 : PySem.W.nsIn K mainGlobals "kind_size" = some (some (.ref f8)))
    (l8 : K.lookup f8 = some ⟨oc8, od8, .func (PySem.W.fnOf "kind_size" "kind_size" (defArgs s_kind_size) (defBody s_kind_size) (defScope s_kind_size) .none kV8 dc8 pm8 an8 cd8 ct8), sl8⟩)
    (c8 : PySem.W.codeIn K cd8 "kind_size" = true)
    (k8 : PySem.W.keepIn K (.ref f8) = true)
    (a9 : PySem.W.nsIn K mainGlobals "kind_mass" = some (some (.ref f9)))
    (l9 : K.lookup f9 = some ⟨oc9, od9, .func (PySem.W.fnOf "kind_mass" "kind_mass" (defArgs s_kind_mass) (defBody s_kind_mass) (defScope s_kind_mass) .none kV9 dc9 pm9 an9 cd9 ct9), sl9⟩)
    (c9 : PySem.W.codeIn K cd9 "kind_mass" = true)
    (k9 : PySem.W.keepIn K (.ref f9) = true)
    (a10 : PySem.W.nsIn K mainGlobals "row_number" = some (some (.ref f10)))
    (l10 : K.lookup f10 = some ⟨oc10, od10, .func (PySem.W.fnOf "row_number" "row_number" (defArgs s_row_number) (defBody s_row_number) (defScope s_row_number) .none kV10 dc10 pm10 an10 cd10 ct10), sl10⟩)
    (c10 : PySem.W.codeIn K cd10 "row_number" = true)
    (k10 : PySem.W.keepIn K (.ref f10) = true)
    (a11 : PySem.W.nsIn K mainGlobals "heavy_places" = some (some (.ref f11)))
    (l11 : K.lookup f11 = some ⟨oc11, od11, .func (PySem.W.fnOf "heavy_places" "heavy_places" (defArgs s_heavy_places) (defBody s_heavy_places) (defScope s_heavy_places) .none kV11 dc11 pm11 an11 cd11 ct11), sl11⟩)
    (c11 : PySem.W.codeIn K cd11 "heavy_places" = true)
    (k11 : PySem.W.keepIn K (.ref f11) = true)
    (a12 : PySem.W.nsIn K mainGlobals "row_of_number" = some (some (.ref f12)))
    (l12 : K.lookup f12 = some ⟨oc12, od12, .func (PySem.W.fnOf "row_of_number" "row_of_number" (defArgs s_row_of_number) (defBody s_row_of_number) (defScope s_row_of_number) .none kV12 dc12 pm12 an12 cd12 ct12), sl12⟩)
    (c12 : PySem.W.codeIn K cd12 "row_of_number" = true)
    (k12 : PySem.W.keepIn K (.ref f12) = true)
    (a13 : PySem.W.nsIn K mainGlobals "next_row" = some (some (.ref f13)))
    (l13 : K.lookup f13 = some ⟨oc13, od13, .func (PySem.W.fnOf "next_row" "next_row" (defArgs s_next_row) (defBody s_next_row) (defScope s_next_row) .none kV13 dc13 pm13 an13 cd13 ct13), sl13⟩)
    (c13 : PySem.W.codeIn K cd13 "next_row" = true)
    (k13 : PySem.W.keepIn K (.ref f13) = true)
    (a14 : PySem.W.nsIn K mainGlobals "row_steps" = some (some (.ref f14)))
    (l14 : K.lookup f14 = some ⟨oc14, od14, .func (PySem.W.fnOf "row_steps" "row_steps" (defArgs s_row_steps) (defBody s_row_steps) (defScope s_row_steps) .none kV14 dc14 pm14 an14 cd14 ct14), sl14⟩)
    (c14 : PySem.W.codeIn K cd14 "row_steps" = true)
    (k14 : PySem.W.keepIn K (.ref f14) = true)
    (a15 : PySem.W.nsIn K mainGlobals "kind_sizes" = some (some (.ref f15)))
    (l15 : K.lookup f15 = some ⟨oc15, od15, .func (PySem.W.fnOf "kind_sizes" "kind_sizes" (defArgs s_kind_sizes) (defBody s_kind_sizes) (defScope s_kind_sizes) .none kV15 dc15 pm15 an15 cd15 ct15), sl15⟩)
    (c15 : PySem.W.codeIn K cd15 "kind_sizes" = true)
    (k15 : PySem.W.keepIn K (.ref f15) = true)
    (a16 : PySem.W.nsIn K mainGlobals "kind_sums" = some (some (.ref f16)))
    (l16 : K.lookup f16 = some ⟨oc16, od16, .func (PySem.W.fnOf "kind_sums" "kind_sums" (defArgs s_kind_sums) (defBody s_kind_sums) (defScope s_kind_sums) .none kV16 dc16 pm16 an16 cd16 ct16), sl16⟩)
    (c16 : PySem.W.codeIn K cd16 "kind_sums" = true)
    (k16 : PySem.W.keepIn K (.ref f16) = true)
    (a17 : PySem.W.nsIn K mainGlobals "is_whole" = some (some (.ref f17)))
    (l17 : K.lookup f17 = some ⟨oc17, od17, .func (PySem.W.fnOf "is_whole" "is_whole" (defArgs s_is_whole) (defBody s_is_whole) (defScope s_is_whole) .none kV17 dc17 pm17 an17 cd17 ct17), sl17⟩)
    (c17 : PySem.W.codeIn K cd17 "is_whole" = true)
    (k17 : PySem.W.keepIn K (.ref f17) = true)
    (a18 : PySem.W.nsIn K mainGlobals "is_number" = some (some (.ref f18)))
    (l18 : K.lookup f18 = some ⟨oc18, od18, .func (PySem.W.fnOf "is_number" "is_number" (defArgs s_is_number) (defBody s_is_number) (defScope s_is_number) .none kV18 dc18 pm18 an18 cd18 ct18), sl18⟩)
    (c18 : PySem.W.codeIn K cd18 "is_number" = true)
    (k18 : PySem.W.keepIn K (.ref f18) = true)
    (a19 : PySem.W.nsIn K mainGlobals "is_between" = some (some (.ref f19)))
    (l19 : K.lookup f19 = some ⟨oc19, od19, .func (PySem.W.fnOf "is_between" "is_between" (defArgs s_is_between) (defBody s_is_between) (defScope s_is_between) .none kV19 dc19 pm19 an19 cd19 ct19), sl19⟩)
    (c19 : PySem.W.codeIn K cd19 "is_between" = true)
    (k19 : PySem.W.keepIn K (.ref f19) = true)
    (a20 : PySem.W.nsIn K mainGlobals "check_faces" = some (some (.ref f20)))
    (l20 : K.lookup f20 = some ⟨oc20, od20, .func (PySem.W.fnOf "check_faces" "check_faces" (defArgs s_check_faces) (defBody s_check_faces) (defScope s_check_faces) .none kV20 dc20 pm20 an20 cd20 ct20), sl20⟩)
    (c20 : PySem.W.codeIn K cd20 "check_faces" = true)
    (k20 : PySem.W.keepIn K (.ref f20) = true)
    (a21 : PySem.W.nsIn K mainGlobals "row_mass" = some (some (.ref f21)))
    (l21 : K.lookup f21 = some ⟨oc21, od21, .func (PySem.W.fnOf "row_mass" "row_mass" (defArgs s_row_mass) (defBody s_row_mass) (defScope s_row_mass) .none kV21 dc21 pm21 an21 cd21 ct21), sl21⟩)
    (c21 : PySem.W.codeIn K cd21 "row_mass" = true)
    (k21 : PySem.W.keepIn K (.ref f21) = true)
    (a22 : PySem.W.nsIn K mainGlobals "row_kind" = some (some (.ref f22)))
    (l22 : K.lookup f22 = some ⟨oc22, od22, .func (PySem.W.fnOf "row_kind" "row_kind" (defArgs s_row_kind) (defBody s_row_kind) (defScope s_row_kind) .none kV22 dc22 pm22 an22 cd22 ct22), sl22⟩)
    (c22 : PySem.W.codeIn K cd22 "row_kind" = true)
    (k22 : PySem.W.keepIn K (.ref f22) = true)
    (a23 : PySem.W.nsIn K mainGlobals "check_rows" = some (some (.ref f23)))
    (l23 : K.lookup f23 = some ⟨oc23, od23, .func (PySem.W.fnOf "check_rows" "check_rows" (defArgs s_check_rows) (defBody s_check_rows) (defScope s_check_rows) .none kV23 dc23 pm23 an23 cd23 ct23), sl23⟩)
    (c23 : PySem.W.codeIn K cd23 "check_rows" = true)
    (k23 : PySem.W.keepIn K (.ref f23) = true)
    (a24 : PySem.W.nsIn K mainGlobals "check_row_form" = some (some (.ref f24)))
    (l24 : K.lookup f24 = some ⟨oc24, od24, .func (PySem.W.fnOf "check_row_form" "check_row_form" (defArgs s_check_row_form) (defBody s_check_row_form) (defScope s_check_row_form) .none kV24 dc24 pm24 an24 cd24 ct24), sl24⟩)
    (c24 : PySem.W.codeIn K cd24 "check_row_form" = true)
    (k24 : PySem.W.keepIn K (.ref f24) = true)
    (a25 : PySem.W.nsIn K mainGlobals "check_table" = some (some (.ref f25)))
    (l25 : K.lookup f25 = some ⟨oc25, od25, .func (PySem.W.fnOf "check_table" "check_table" (defArgs s_check_table) (defBody s_check_table) (defScope s_check_table) .none kV25 dc25 pm25 an25 cd25 ct25), sl25⟩)
    (c25 : PySem.W.codeIn K cd25 "check_table" = true)
    (k25 : PySem.W.keepIn K (.ref f25) = true)
    (a26 : PySem.W.nsIn K mainGlobals "place_in_row" = some (some (.ref f26)))
    (l26 : K.lookup f26 = some ⟨oc26, od26, .func (PySem.W.fnOf "place_in_row" "place_in_row" (defArgs s_place_in_row) (defBody s_place_in_row) (defScope s_place_in_row) .none kV26 dc26 pm26 an26 cd26 ct26), sl26⟩)
    (c26 : PySem.W.codeIn K cd26 "place_in_row" = true)
    (k26 : PySem.W.keepIn K (.ref f26) = true)
    (a27 : PySem.W.nsIn K mainGlobals "outcome_of" = some (some (.ref f27)))
    (l27 : K.lookup f27 = some ⟨oc27, od27, .func (PySem.W.fnOf "outcome_of" "outcome_of" (defArgs s_outcome_of) (defBody s_outcome_of) (defScope s_outcome_of) .none kV27 dc27 pm27 an27 cd27 ct27), sl27⟩)
    (c27 : PySem.W.codeIn K cd27 "outcome_of" = true)
    (k27 : PySem.W.keepIn K (.ref f27) = true)
    (a28 : PySem.W.nsIn K mainGlobals "_law_jug" = some (some (.ref f28)))
    (l28 : K.lookup f28 = some ⟨oc28, od28, .func (PySem.W.fnOf "_law_jug" "_law_jug" (defArgs s__law_jug) (defBody s__law_jug) (defScope s__law_jug) .none kV28 dc28 pm28 an28 cd28 ct28), sl28⟩)
    (c28 : PySem.W.codeIn K cd28 "_law_jug" = true)
    (k28 : PySem.W.keepIn K (.ref f28) = true)
    (a29 : PySem.W.nsIn K mainGlobals "_law_pour" = some (some (.ref f29)))
    (l29 : K.lookup f29 = some ⟨oc29, od29, .func (PySem.W.fnOf "_law_pour" "_law_pour" (defArgs s__law_pour) (defBody s__law_pour) (defScope s__law_pour) .none kV29 dc29 pm29 an29 cd29 ct29), sl29⟩)
    (c29 : PySem.W.codeIn K cd29 "_law_pour" = true)
    (k29 : PySem.W.keepIn K (.ref f29) = true)
    (a30 : PySem.W.nsIn K mainGlobals "_law_die" = some (some (.ref f30)))
    (l30 : K.lookup f30 = some ⟨oc30, od30, .func (PySem.W.fnOf "_law_die" "_law_die" (defArgs s__law_die) (defBody s__law_die) (defScope s__law_die) .none kV30 dc30 pm30 an30 cd30 ct30), sl30⟩)
    (c30 : PySem.W.codeIn K cd30 "_law_die" = true)
    (k30 : PySem.W.keepIn K (.ref f30) = true)
    (a31 : PySem.W.nsIn K mainGlobals "_law_form" = some (some (.ref f31)))
    (l31 : K.lookup f31 = some ⟨oc31, od31, .func (PySem.W.fnOf "_law_form" "_law_form" (defArgs s__law_form) (defBody s__law_form) (defScope s__law_form) .none kV31 dc31 pm31 an31 cd31 ct31), sl31⟩)
    (c31 : PySem.W.codeIn K cd31 "_law_form" = true)
    (k31 : PySem.W.keepIn K (.ref f31) = true)
    (a32 : PySem.W.nsIn K mainGlobals "_law_choose" = some (some (.ref f32)))
    (l32 : K.lookup f32 = some ⟨oc32, od32, .func (PySem.W.fnOf "_law_choose" "_law_choose" (defArgs s__law_choose) (defBody s__law_choose) (defScope s__law_choose) .none kV32 dc32 pm32 an32 cd32 ct32), sl32⟩)
    (c32 : PySem.W.codeIn K cd32 "_law_choose" = true)
    (k32 : PySem.W.keepIn K (.ref f32) = true)
    (a33 : PySem.W.nsIn K mainGlobals "_law_power" = some (some (.ref f33)))
    (l33 : K.lookup f33 = some ⟨oc33, od33, .func (PySem.W.fnOf "_law_power" "_law_power" (defArgs s__law_power) (defBody s__law_power) (defScope s__law_power) .none kV33 dc33 pm33 an33 cd33 ct33), sl33⟩)
    (c33 : PySem.W.codeIn K cd33 "_law_power" = true)
    (k33 : PySem.W.keepIn K (.ref f33) = true)
    (a34 : PySem.W.nsIn K mainGlobals "_law_size" = some (some (.ref f34)))
    (l34 : K.lookup f34 = some ⟨oc34, od34, .func (PySem.W.fnOf "_law_size" "_law_size" (defArgs s__law_size) (defBody s__law_size) (defScope s__law_size) .none kV34 dc34 pm34 an34 cd34 ct34), sl34⟩)
    (c34 : PySem.W.codeIn K cd34 "_law_size" = true)
    (k34 : PySem.W.keepIn K (.ref f34) = true)
    (a35 : PySem.W.nsIn K mainGlobals "_law_mass" = some (some (.ref f35)))
    (l35 : K.lookup f35 = some ⟨oc35, od35, .func (PySem.W.fnOf "_law_mass" "_law_mass" (defArgs s__law_mass) (defBody s__law_mass) (defScope s__law_mass) .none kV35 dc35 pm35 an35 cd35 ct35), sl35⟩)
    (c35 : PySem.W.codeIn K cd35 "_law_mass" = true)
    (k35 : PySem.W.keepIn K (.ref f35) = true)
    (a36 : PySem.W.nsIn K mainGlobals "_law_kind" = some (some (.ref f36)))
    (l36 : K.lookup f36 = some ⟨oc36, od36, .func (PySem.W.fnOf "_law_kind" "_law_kind" (defArgs s__law_kind) (defBody s__law_kind) (defScope s__law_kind) .none kV36 dc36 pm36 an36 cd36 ct36), sl36⟩)
    (c36 : PySem.W.codeIn K cd36 "_law_kind" = true)
    (k36 : PySem.W.keepIn K (.ref f36) = true)
    (a37 : PySem.W.nsIn K mainGlobals "_law_number" = some (some (.ref f37)))
    (l37 : K.lookup f37 = some ⟨oc37, od37, .func (PySem.W.fnOf "_law_number" "_law_number" (defArgs s__law_number) (defBody s__law_number) (defScope s__law_number) .none kV37 dc37 pm37 an37 cd37 ct37), sl37⟩)
    (c37 : PySem.W.codeIn K cd37 "_law_number" = true)
    (k37 : PySem.W.keepIn K (.ref f37) = true)
    (a38 : PySem.W.nsIn K mainGlobals "_law_row" = some (some (.ref f38)))
    (l38 : K.lookup f38 = some ⟨oc38, od38, .func (PySem.W.fnOf "_law_row" "_law_row" (defArgs s__law_row) (defBody s__law_row) (defScope s__law_row) .none kV38 dc38 pm38 an38 cd38 ct38), sl38⟩)
    (c38 : PySem.W.codeIn K cd38 "_law_row" = true)
    (k38 : PySem.W.keepIn K (.ref f38) = true)
    (a39 : PySem.W.nsIn K mainGlobals "_law_outcome" = some (some (.ref f39)))
    (l39 : K.lookup f39 = some ⟨oc39, od39, .func (PySem.W.fnOf "_law_outcome" "_law_outcome" (defArgs s__law_outcome) (defBody s__law_outcome) (defScope s__law_outcome) .none kV39 dc39 pm39 an39 cd39 ct39), sl39⟩)
    (c39 : PySem.W.codeIn K cd39 "_law_outcome" = true)
    (k39 : PySem.W.keepIn K (.ref f39) = true)
    (a40 : PySem.W.nsIn K mainGlobals "_law_same" = some (some (.ref f40)))
    (l40 : K.lookup f40 = some ⟨oc40, od40, .func (PySem.W.fnOf "_law_same" "_law_same" (defArgs s__law_same) (defBody s__law_same) (defScope s__law_same) .none kV40 dc40 pm40 an40 cd40 ct40), sl40⟩)
    (c40 : PySem.W.codeIn K cd40 "_law_same" = true)
    (k40 : PySem.W.keepIn K (.ref f40) = true)
    (a41 : PySem.W.nsIn K mainGlobals "_law_heard" = some (some (.ref f41)))
    (l41 : K.lookup f41 = some ⟨oc41, od41, .func (PySem.W.fnOf "_law_heard" "_law_heard" (defArgs s__law_heard) (defBody s__law_heard) (defScope s__law_heard) .none kV41 dc41 pm41 an41 cd41 ct41), sl41⟩)
    (c41 : PySem.W.codeIn K cd41 "_law_heard" = true)
    (k41 : PySem.W.keepIn K (.ref f41) = true)
    (a42 : PySem.W.nsIn K mainGlobals "_law_fault" = some (some (.ref f42)))
    (l42 : K.lookup f42 = some ⟨oc42, od42, .func (PySem.W.fnOf "_law_fault" "_law_fault" (defArgs s__law_fault) (defBody s__law_fault) (defScope s__law_fault) .none kV42 dc42 pm42 an42 cd42 ct42), sl42⟩)
    (c42 : PySem.W.codeIn K cd42 "_law_fault" = true)
    (k42 : PySem.W.keepIn K (.ref f42) = true)
    (a43 : PySem.W.nsIn K mainGlobals "_law_faces" = some (some (.ref f43)))
    (l43 : K.lookup f43 = some ⟨oc43, od43, .func (PySem.W.fnOf "_law_faces" "_law_faces" (defArgs s__law_faces) (defBody s__law_faces) (defScope s__law_faces) .none kV43 dc43 pm43 an43 cd43 ct43), sl43⟩)
    (c43 : PySem.W.codeIn K cd43 "_law_faces" = true)
    (k43 : PySem.W.keepIn K (.ref f43) = true)
    (a44 : PySem.W.nsIn K mainGlobals "_law_some" = some (some (.ref f44)))
    (l44 : K.lookup f44 = some ⟨oc44, od44, .func (PySem.W.fnOf "_law_some" "_law_some" (defArgs s__law_some) (defBody s__law_some) (defScope s__law_some) .none kV44 dc44 pm44 an44 cd44 ct44), sl44⟩)
    (c44 : PySem.W.codeIn K cd44 "_law_some" = true)
    (k44 : PySem.W.keepIn K (.ref f44) = true)
    (a45 : PySem.W.nsIn K mainGlobals "_law_row_right" = some (some (.ref f45)))
    (l45 : K.lookup f45 = some ⟨oc45, od45, .func (PySem.W.fnOf "_law_row_right" "_law_row_right" (defArgs s__law_row_right) (defBody s__law_row_right) (defScope s__law_row_right) .none kV45 dc45 pm45 an45 cd45 ct45), sl45⟩)
    (c45 : PySem.W.codeIn K cd45 "_law_row_right" = true)
    (k45 : PySem.W.keepIn K (.ref f45) = true)
    (a46 : PySem.W.nsIn K mainGlobals "_law_number_right" = some (some (.ref f46)))
    (l46 : K.lookup f46 = some ⟨oc46, od46, .func (PySem.W.fnOf "_law_number_right" "_law_number_right" (defArgs s__law_number_right) (defBody s__law_number_right) (defScope s__law_number_right) .none kV46 dc46 pm46 an46 cd46 ct46), sl46⟩)
    (c46 : PySem.W.codeIn K cd46 "_law_number_right" = true)
    (k46 : PySem.W.keepIn K (.ref f46) = true)
    (a47 : PySem.W.nsIn K mainGlobals "_law_tabled" = some (some (.ref f47)))
    (l47 : K.lookup f47 = some ⟨oc47, od47, .func (PySem.W.fnOf "_law_tabled" "_law_tabled" (defArgs s__law_tabled) (defBody s__law_tabled) (defScope s__law_tabled) .none kV47 dc47 pm47 an47 cd47 ct47), sl47⟩)
    (c47 : PySem.W.codeIn K cd47 "_law_tabled" = true)
    (k47 : PySem.W.keepIn K (.ref f47) = true)
    (a48 : PySem.W.nsIn K mainGlobals "_law_faults" = some (some (.ref f48)))
    (l48 : K.lookup f48 = some ⟨oc48, od48, .func (PySem.W.fnOf "_law_faults" "_law_faults" (defArgs s__law_faults) (defBody s__law_faults) (defScope s__law_faults) .none kV48 dc48 pm48 an48 cd48 ct48), sl48⟩)
    (c48 : PySem.W.codeIn K cd48 "_law_faults" = true)
    (k48 : PySem.W.keepIn K (.ref f48) = true)
    (a49 : PySem.W.nsIn K mainGlobals "law" = some (some (.ref f49)))
    (l49 : K.lookup f49 = some ⟨oc49, od49, .func (PySem.W.fnOf "law" "law" (defArgs s_law) (defBody s_law) (defScope s_law) .none kV49 dc49 pm49 an49 cd49 ct49), sl49⟩)
    (c49 : PySem.W.codeIn K cd49 "law" = true)
    (k49 : PySem.W.keepIn K (.ref f49) = true)
    (z_abs : PySem.W.nsIn K mainGlobals "abs" = some none)
    (z_bool : PySem.W.nsIn K mainGlobals "bool" = some none)
    (z_enumerate : PySem.W.nsIn K mainGlobals "enumerate" = some none)
    (z_int : PySem.W.nsIn K mainGlobals "int" = some none)
    (z_isinstance : PySem.W.nsIn K mainGlobals "isinstance" = some none)
    (z_len : PySem.W.nsIn K mainGlobals "len" = some none)
    (z_list : PySem.W.nsIn K mainGlobals "list" = some none)
    (z_max : PySem.W.nsIn K mainGlobals "max" = some none)
    (z_min : PySem.W.nsIn K mainGlobals "min" = some none)
    (z_range : PySem.W.nsIn K mainGlobals "range" = some none)
    (z_str : PySem.W.nsIn K mainGlobals "str" = some none)
    (z_sum : PySem.W.nsIn K mainGlobals "sum" = some none)
    (z_tuple : PySem.W.nsIn K mainGlobals "tuple" = some none)
    (z_MOST_THROWS : PySem.W.nsIn K mainGlobals "MOST_THROWS" = some (some u_MOST_THROWS))
    (y_MOST_THROWS : RelV (.int 100) u_MOST_THROWS)
    (z_MOST_OUTCOMES : PySem.W.nsIn K mainGlobals "MOST_OUTCOMES" = some (some u_MOST_OUTCOMES))
    (y_MOST_OUTCOMES : RelV (.int 5) u_MOST_OUTCOMES) :
    ∃ fd : FuncData, (∀ (s : Shared) (v : Value), BindsTo s fd ⟨[v], []⟩ [("script", v)]) ∧ ∀ base : Heap, K.In base → base.Ns mainGlobals mg → FnOk P w K mg base CX0 7 fa fd ["script"] (spLaw K) := by
  have e := hfa.symm.trans (PySem.W.mg_of X G a49)
  cases e
  have along_BadDie : PySem.W.alongIn K "__init__" (.ref B_BadDie :: bm_BadDie) = some (some (.builtin "ValueError.__init__")) := by
    have q := iB_BadDie
    unfold PySem.W.findIn at q
    simp only [xB_BadDie, excClassObj] at q
    exact q
  have T_BadDie : Zy.SupTxt P K mg C_BadDie fI_BadDie := ⟨⟨nm_BadDie, qn_BadDie, N_BadDie, bs_BadDie, .ref B_BadDie :: bm_BadDie, sn_BadDie, sub_BadDie, ab_BadDie, col_BadDie, dd_BadDie, e0_BadDie, e1_BadDie, e2_BadDie, e3_BadDie, e5_BadDie, xC_BadDie, rB_BadDie, along_BadDie⟩, sa_BadDie, ga_BadDie, gg_BadDie, nb0_BadDie, nb1_BadDie, iC_BadDie, tI_BadDie, kC_BadDie, eC_BadDie, vC_BadDie, mC_BadDie, tC_BadDie, hC_BadDie, exm_of eC_BadDie clC_BadDie tC_BadDie sC_BadDie, op_BadDie, PySem.W.mg_none_of X G nS_BadDie, tS_BadDie, rfl,
    ⟨oc_BadDie, od_BadDie, dc_BadDie, pm_BadDie, an_BadDie, ct_BadDie, osl_BadDie, qual_BadDie, cda_BadDie, cc_BadDie, lI_BadDie, cI_BadDie, ⟨cl_BadDie, cld_BadDie, csl_BadDie, lcc_BadDie⟩, ccl_BadDie, cdd_BadDie, avs_BadDie, ccs_BadDie, file_BadDie, tf_BadDie, lcd_BadDie, fv_BadDie, fe_BadDie⟩⟩
  have gC_BadDie := PySem.W.mg_of X G aC_BadDie
  have along_BadTable : PySem.W.alongIn K "__init__" (.ref B_BadTable :: bm_BadTable) = some (some (.builtin "ValueError.__init__")) := by
    have q := iB_BadTable
    unfold PySem.W.findIn at q
    simp only [xB_BadTable, excClassObj] at q
    exact q
  have T_BadTable : Zv.SupTxt P K mg C_BadTable fI_BadTable := ⟨⟨nm_BadTable, qn_BadTable, N_BadTable, bs_BadTable, .ref B_BadTable :: bm_BadTable, sn_BadTable, sub_BadTable, ab_BadTable, col_BadTable, dd_BadTable, e0_BadTable, e1_BadTable, e2_BadTable, e3_BadTable, e5_BadTable, xC_BadTable, rB_BadTable, along_BadTable⟩, sa_BadTable, ga_BadTable, gg_BadTable, nb0_BadTable, nb1_BadTable, iC_BadTable, tI_BadTable, kC_BadTable, eC_BadTable, vC_BadTable, mC_BadTable, tC_BadTable, hC_BadTable, exm_of eC_BadTable clC_BadTable tC_BadTable sC_BadTable, op_BadTable, PySem.W.mg_none_of X G nS_BadTable, tS_BadTable, rfl,
    ⟨oc_BadTable, od_BadTable, dc_BadTable, pm_BadTable, an_BadTable, ct_BadTable, osl_BadTable, qual_BadTable, cda_BadTable, cc_BadTable, lI_BadTable, cI_BadTable, ⟨cl_BadTable, cld_BadTable, csl_BadTable, lcc_BadTable⟩, ccl_BadTable, cdd_BadTable, avs_BadTable, ccs_BadTable, file_BadTable, tf_BadTable, lcd_BadTable, fv_BadTable, fe_BadTable⟩⟩
  have gC_BadTable := PySem.W.mg_of X G aC_BadTable
  have B : Bu mg := ⟨PySem.W.mg_none_of X G z_abs, PySem.W.mg_none_of X G z_bool, PySem.W.mg_none_of X G z_enumerate, PySem.W.mg_none_of X G z_int, PySem.W.mg_none_of X G z_isinstance, PySem.W.mg_none_of X G z_len, PySem.W.mg_none_of X G z_list, PySem.W.mg_none_of X G z_max, PySem.W.mg_none_of X G z_min, PySem.W.mg_none_of X G z_range, PySem.W.mg_none_of X G z_str, PySem.W.mg_none_of X G z_sum, PySem.W.mg_none_of X G z_tuple, ⟨_, PySem.W.mg_of X G z_MOST_THROWS, y_MOST_THROWS⟩, ⟨_, PySem.W.mg_of X G z_MOST_OUTCOMES, y_MOST_OUTCOMES⟩⟩
  have F0 := fun_mk (st := s_choices) l0 c0 k0
  have b0 := F0.binds (ps := ["many", "few"]) fun _ _ _ _ _ _ us hl => match us, hl with | [_, _], _ => rfl
  have F1 := fun_mk (st := s_choice_row) l1 c1 k1
  have b1 := F1.binds (ps := ["many"]) fun _ _ _ _ _ _ us hl => match us, hl with | [_], _ => rfl
  have F2 := fun_mk (st := s_power) l2 c2 k2
  have b2 := F2.binds (ps := ["number", "times"]) fun _ _ _ _ _ _ us hl => match us, hl with | [_, _], _ => rfl
  have F3 := fun_mk (st := s_heavy_faces) l3 c3 k3
  have b3 := F3.binds (ps := ["die"]) fun _ _ _ _ _ _ us hl => match us, hl with | [_], _ => rfl
  have F4 := fun_mk (st := s_light_faces) l4 c4 k4
  have b4 := F4.binds (ps := ["die"]) fun _ _ _ _ _ _ us hl => match us, hl with | [_], _ => rfl
  have F5 := fun_mk (st := s_die_form) l5 c5 k5
  have b5 := F5.binds (ps := ["die"]) fun _ _ _ _ _ _ us hl => match us, hl with | [_], _ => rfl
  have F6 := fun_mk (st := s_is_heavy) l6 c6 k6
  have b6 := F6.binds (ps := ["die", "face"]) fun _ _ _ _ _ _ us hl => match us, hl with | [_, _], _ => rfl
  have F7 := fun_mk (st := s_face_place) l7 c7 k7
  have b7 := F7.binds (ps := ["die", "face"]) fun _ _ _ _ _ _ us hl => match us, hl with | [_, _], _ => rfl
  have F8 := fun_mk (st := s_kind_size) l8 c8 k8
  have b8 := F8.binds (ps := ["die", "throws", "kind"]) fun _ _ _ _ _ _ us hl => match us, hl with | [_, _, _], _ => rfl
  have F9 := fun_mk (st := s_kind_mass) l9 c9 k9
  have b9 := F9.binds (ps := ["die", "throws", "kind"]) fun _ _ _ _ _ _ us hl => match us, hl with | [_, _, _], _ => rfl
  have F10 := fun_mk (st := s_row_number) l10 c10 k10
  have b10 := F10.binds (ps := ["die", "faces"]) fun _ _ _ _ _ _ us hl => match us, hl with | [_, _], _ => rfl
  have F11 := fun_mk (st := s_heavy_places) l11 c11 k11
  have b11 := F11.binds (ps := ["throws", "kind", "place"]) fun _ _ _ _ _ _ us hl => match us, hl with | [_, _, _], _ => rfl
  have F12 := fun_mk (st := s_row_of_number) l12 c12 k12
  have b12 := F12.binds (ps := ["die", "throws", "kind", "number"]) fun _ _ _ _ _ _ us hl => match us, hl with | [_, _, _, _], _ => rfl
  have F13 := fun_mk (st := s_next_row) l13 c13 k13
  have b13 := F13.binds (ps := ["die", "faces"]) fun _ _ _ _ _ _ us hl => match us, hl with | [_, _], _ => rfl
  have F14 := fun_mk (st := s_row_steps) l14 c14 k14
  have b14 := F14.binds (ps := ["die", "faces", "steps"]) fun _ _ _ _ _ _ us hl => match us, hl with | [_, _, _], _ => rfl
  have F15 := fun_mk (st := s_kind_sizes) l15 c15 k15
  have b15 := F15.binds (ps := ["die", "throws"]) fun _ _ _ _ _ _ us hl => match us, hl with | [_, _], _ => rfl
  have F16 := fun_mk (st := s_kind_sums) l16 c16 k16
  have b16 := F16.binds (ps := ["die", "throws"]) fun _ _ _ _ _ _ us hl => match us, hl with | [_, _], _ => rfl
  have F17 := fun_mk (st := s_is_whole) l17 c17 k17
  have b17 := F17.binds (ps := ["value"]) fun _ _ _ _ _ _ us hl => match us, hl with | [_], _ => rfl
  have F18 := fun_mk (st := s_is_number) l18 c18 k18
  have b18 := F18.binds (ps := ["value"]) fun _ _ _ _ _ _ us hl => match us, hl with | [_], _ => rfl
  have F19 := fun_mk (st := s_is_between) l19 c19 k19
  have b19 := F19.binds (ps := ["value", "least", "most"]) fun _ _ _ _ _ _ us hl => match us, hl with | [_, _, _], _ => rfl
  have F20 := fun_mk (st := s_check_faces) l20 c20 k20
  have b20 := F20.binds (ps := ["die", "thing"]) fun _ _ _ _ _ _ us hl => match us, hl with | [_, _], _ => rfl
  have F21 := fun_mk (st := s_row_mass) l21 c21 k21
  have b21 := F21.binds (ps := ["die", "faces"]) fun _ _ _ _ _ _ us hl => match us, hl with | [_, _], _ => rfl
  have F22 := fun_mk (st := s_row_kind) l22 c22 k22
  have b22 := F22.binds (ps := ["die", "faces"]) fun _ _ _ _ _ _ us hl => match us, hl with | [_, _], _ => rfl
  have F23 := fun_mk (st := s_check_rows) l23 c23 k23
  have b23 := F23.binds (ps := ["die", "thing", "least"]) fun _ _ _ _ _ _ us hl => match us, hl with | [_, _, _], _ => rfl
  have F24 := fun_mk (st := s_check_row_form) l24 c24 k24
  have b24 := F24.binds (ps := ["at", "row", "many"]) fun _ _ _ _ _ _ us hl => match us, hl with | [_, _, _], _ => rfl
  have F25 := fun_mk (st := s_check_table) l25 c25 k25
  have b25 := F25.binds (ps := ["die", "thing"]) fun _ _ _ _ _ _ us hl => match us, hl with | [_, _], _ => rfl
  have F26 := fun_mk (st := s_place_in_row) l26 c26 k26
  have b26 := F26.binds (ps := ["row", "number"]) fun _ _ _ _ _ _ us hl => match us, hl with | [_, _], _ => rfl
  have F27 := fun_mk (st := s_outcome_of) l27 c27 k27
  have b27 := F27.binds (ps := ["die", "table", "faces"]) fun _ _ _ _ _ _ us hl => match us, hl with | [_, _, _], _ => rfl
  have F28 := fun_mk (st := s__law_jug) l28 c28 k28
  have b28 := F28.binds (ps := ["script"]) fun _ _ _ _ _ _ us hl => match us, hl with | [_], _ => rfl
  have F29 := fun_mk (st := s__law_pour) l29 c29 k29
  have b29 := F29.binds (ps := ["jug", "many"]) fun _ _ _ _ _ _ us hl => match us, hl with | [_, _], _ => rfl
  have F30 := fun_mk (st := s__law_die) l30 c30 k30
  have b30 := F30.binds (ps := ["jug", "most"]) fun _ _ _ _ _ _ us hl => match us, hl with | [_, _], _ => rfl
  have F31 := fun_mk (st := s__law_form) l31 c31 k31
  have b31 := F31.binds (ps := ["die"]) fun _ _ _ _ _ _ us hl => match us, hl with | [_], _ => rfl
  have F32 := fun_mk (st := s__law_choose) l32 c32 k32
  have b32 := F32.binds (ps := ["n", "k"]) fun _ _ _ _ _ _ us hl => match us, hl with | [_, _], _ => rfl
  have F33 := fun_mk (st := s__law_power) l33 c33 k33
  have b33 := F33.binds (ps := ["one", "many"]) fun _ _ _ _ _ _ us hl => match us, hl with | [_, _], _ => rfl
  have F34 := fun_mk (st := s__law_size) l34 c34 k34
  have b34 := F34.binds (ps := ["die", "throws", "kind"]) fun _ _ _ _ _ _ us hl => match us, hl with | [_, _, _], _ => rfl
  have F35 := fun_mk (st := s__law_mass) l35 c35 k35
  have b35 := F35.binds (ps := ["die", "faces"]) fun _ _ _ _ _ _ us hl => match us, hl with | [_, _], _ => rfl
  have F36 := fun_mk (st := s__law_kind) l36 c36 k36
  have b36 := F36.binds (ps := ["die", "faces"]) fun _ _ _ _ _ _ us hl => match us, hl with | [_, _], _ => rfl
  have F37 := fun_mk (st := s__law_number) l37 c37 k37
  have b37 := F37.binds (ps := ["die", "faces"]) fun _ _ _ _ _ _ us hl => match us, hl with | [_, _], _ => rfl
  have F38 := fun_mk (st := s__law_row) l38 c38 k38
  have b38 := F38.binds (ps := ["die", "throws", "kind", "number"]) fun _ _ _ _ _ _ us hl => match us, hl with | [_, _, _, _], _ => rfl
  have F39 := fun_mk (st := s__law_outcome) l39 c39 k39
  have b39 := F39.binds (ps := ["die", "table", "faces"]) fun _ _ _ _ _ _ us hl => match us, hl with | [_, _, _], _ => rfl
  have F40 := fun_mk (st := s__law_same) l40 c40 k40
  have b40 := F40.binds (ps := ["told", "due"]) fun _ _ _ _ _ _ us hl => match us, hl with | [_, _], _ => rfl
  have F41 := fun_mk (st := s__law_heard) l41 c41 k41
  have b41 := F41.binds (ps := ["die", "thing"]) fun _ _ _ _ _ _ us hl => match us, hl with | [_, _], _ => rfl
  have F42 := fun_mk (st := s__law_fault) l42 c42 k42
  have b42 := F42.binds (ps := ["die", "thing"]) fun _ _ _ _ _ _ us hl => match us, hl with | [_, _], _ => rfl
  have F43 := fun_mk (st := s__law_faces) l43 c43 k43
  have b43 := F43.binds (ps := ["jug", "die", "many"]) fun _ _ _ _ _ _ us hl => match us, hl with | [_, _, _], _ => rfl
  have F44 := fun_mk (st := s__law_some) l44 c44 k44
  have b44 := F44.binds (ps := ["jug", "size"]) fun _ _ _ _ _ _ us hl => match us, hl with | [_, _], _ => rfl
  have F45 := fun_mk (st := s__law_row_right) l45 c45 k45
  have b45 := F45.binds (ps := ["jug", "die", "faces"]) fun _ _ _ _ _ _ us hl => match us, hl with | [_, _, _], _ => rfl
  have F46 := fun_mk (st := s__law_number_right) l46 c46 k46
  have b46 := F46.binds (ps := ["jug", "die", "throws", "kind"]) fun _ _ _ _ _ _ us hl => match us, hl with | [_, _, _, _], _ => rfl
  have F47 := fun_mk (st := s__law_tabled) l47 c47 k47
  have b47 := F47.binds (ps := ["jug", "die", "throws"]) fun _ _ _ _ _ _ us hl => match us, hl with | [_, _, _], _ => rfl
  have F48 := fun_mk (st := s__law_faults) l48 c48 k48
  have b48 := F48.binds (ps := ["jug", "die", "faces"]) fun _ _ _ _ _ _ us hl => match us, hl with | [_, _, _], _ => rfl
  have F49 := fun_mk (st := s_law) l49 c49 k49
  have b49 := F49.binds (ps := ["script"]) fun _ _ _ _ _ _ us hl => match us, hl with | [_], _ => rfl
  refine ⟨PySem.W.fnOf "law" "law" (defArgs s_law) (defBody s_law) (defScope s_law) .none kV49 dc49 pm49 an49 cd49 ct49, fun s v => .of_eq rfl, fun base _ _ => ?_⟩
  have o0 := ok_choices (P := P) (w := w) (base := base) F0 B 
  have h_choices : Has CX0 P w K mg base "choices" 1 ["many", "few"] (spD K 2 m_choices) := Has.toM (m := (runB 4 den_choices)) ⟨⟨f0, _, PySem.W.mg_of X G a0, k0, b0, o0⟩⟩
  have o1 := ok_choice_row (P := P) (w := w) (base := base) F1 B 
  have h_choice_row : Has CX0 P w K mg base "choice_row" 1 ["many"] (spD K 1 m_choice_row) := Has.toM (m := (runB 3 den_choice_row)) ⟨⟨f1, _, PySem.W.mg_of X G a1, k1, b1, o1⟩⟩
  have o2 := ok_power (P := P) (w := w) (base := base) F2 B 
  have h_power : Has CX0 P w K mg base "power" 1 ["number", "times"] (spD K 2 m_power) := Has.toM (m := (runB 4 den_power)) ⟨⟨f2, _, PySem.W.mg_of X G a2, k2, b2, o2⟩⟩
  have o3 := ok_heavy_faces (P := P) (w := w) (base := base) F3 B 
  have h_heavy_faces : Has CX0 P w K mg base "heavy_faces" 1 ["die"] (spD K 1 m_heavy_faces) := Has.toM (m := (runB 3 den_heavy_faces)) ⟨⟨f3, _, PySem.W.mg_of X G a3, k3, b3, o3⟩⟩
  have o4 := ok_light_faces (P := P) (w := w) (base := base) F4 B 
  have h_light_faces : Has CX0 P w K mg base "light_faces" 1 ["die"] (spD K 1 m_light_faces) := Has.toM (m := (runB 3 den_light_faces)) ⟨⟨f4, _, PySem.W.mg_of X G a4, k4, b4, o4⟩⟩
  have o5 := ok_die_form (P := P) (w := w) (base := base) F5 B h_light_faces
  have h_die_form : Has CX0 P w K mg base "die_form" 2 ["die"] (spD K 1 m_die_form) := Has.toM (m := (runB 3 den_die_form)) ⟨⟨f5, _, PySem.W.mg_of X G a5, k5, b5, o5⟩⟩
  have o6 := ok_is_heavy (P := P) (w := w) (base := base) F6 B 
  have h_is_heavy : Has CX0 P w K mg base "is_heavy" 1 ["die", "face"] (spD K 2 m_is_heavy) := Has.toM (m := (runB 2 den_is_heavy)) ⟨⟨f6, _, PySem.W.mg_of X G a6, k6, b6, o6⟩⟩
  have o7 := ok_face_place (P := P) (w := w) (base := base) F7 B 
  have h_face_place : Has CX0 P w K mg base "face_place" 1 ["die", "face"] (spD K 2 m_face_place) := Has.toM (m := (runB 3 den_face_place)) ⟨⟨f7, _, PySem.W.mg_of X G a7, k7, b7, o7⟩⟩
  have o8 := ok_kind_size (P := P) (w := w) (base := base) F8 B h_die_form h_choices h_power
  have h_kind_size : Has CX0 P w K mg base "kind_size" 3 ["die", "throws", "kind"] (spD K 3 m_kind_size) := Has.toM (m := (runB 7 den_kind_size)) ⟨⟨f8, _, PySem.W.mg_of X G a8, k8, b8, o8⟩⟩
  have o9 := ok_kind_mass (P := P) (w := w) (base := base) F9 B h_die_form h_power
  have h_kind_mass : Has CX0 P w K mg base "kind_mass" 3 ["die", "throws", "kind"] (spD K 3 m_kind_mass) := Has.toM (m := (runB 7 den_kind_mass)) ⟨⟨f9, _, PySem.W.mg_of X G a9, k9, b9, o9⟩⟩
  have o10 := ok_row_number (P := P) (w := w) (base := base) F10 B h_die_form h_is_heavy h_choices h_face_place h_power
  have h_row_number : Has CX0 P w K mg base "row_number" 3 ["die", "faces"] (spD K 2 m_row_number) := Has.toM (m := (runB 11 den_row_number)) ⟨⟨f10, _, PySem.W.mg_of X G a10, k10, b10, o10⟩⟩
  have o11 := ok_heavy_places (P := P) (w := w) (base := base) F11 B h_choices
  have h_heavy_places : Has CX0 P w K mg base "heavy_places" 2 ["throws", "kind", "place"] (spD K 3 m_heavy_places) := Has.toM (m := (runB 6 den_heavy_places)) ⟨⟨f11, _, PySem.W.mg_of X G a11, k11, b11, o11⟩⟩
  have o12 := ok_row_of_number (P := P) (w := w) (base := base) F12 B h_kind_size h_die_form h_power h_heavy_places h_heavy_faces h_light_faces
  have h_row_of_number : Has CX0 P w K mg base "row_of_number" 4 ["die", "throws", "kind", "number"] (spD K 4 m_row_of_number) := Has.toM (m := (runB 14 den_row_of_number)) ⟨⟨f12, _, PySem.W.mg_of X G a12, k12, b12, o12⟩⟩
  have hk_row_of_number : HasK CX0 P w K mg base "row_of_number" 4 ["die", "throws", "kind", "number"] ["number", "kind", "throws", "die"] perm_row_of_number (spD K 4 m_row_of_number) := HasK.toM (m := (runB 14 den_row_of_number)) ⟨⟨f12, _, pv_row_of_number, pv_row_of_number, PySem.W.mg_of X G a12, k12, ⟨fun s us ws _ hl => match us, ws, hl with | [], [_, _, _, _], _ => .of_eq rfl, fun r z => pl_row_of_number r z⟩, pr_row_of_number, o12⟩⟩
  have o13 := ok_next_row (P := P) (w := w) (base := base) F13 B h_is_heavy h_row_number h_row_of_number
  have h_next_row : Has CX0 P w K mg base "next_row" 5 ["die", "faces"] (spD K 2 m_next_row) := Has.toM (m := (runB 4 den_next_row)) ⟨⟨f13, _, PySem.W.mg_of X G a13, k13, b13, o13⟩⟩
  have o14 := ok_row_steps (P := P) (w := w) (base := base) F14 B h_is_heavy h_kind_size h_row_number h_row_of_number
  have h_row_steps : Has CX0 P w K mg base "row_steps" 5 ["die", "faces", "steps"] (spD K 3 m_row_steps) := Has.toM (m := (runB 6 den_row_steps)) ⟨⟨f14, _, PySem.W.mg_of X G a14, k14, b14, o14⟩⟩
  have hk_row_steps : HasK CX0 P w K mg base "row_steps" 5 ["die", "faces", "steps"] ["die", "faces", "steps"] perm_row_steps (spD K 3 m_row_steps) := HasK.toM (m := (runB 6 den_row_steps)) ⟨⟨f14, _, pv_row_steps, pv_row_steps, PySem.W.mg_of X G a14, k14, ⟨fun s us ws _ hl => match us, ws, hl with | [], [_, _, _], _ => .of_eq rfl, fun r z => pl_row_steps r z⟩, pr_row_steps, o14⟩⟩
  have o15 := ok_kind_sizes (P := P) (w := w) (base := base) F15 B h_die_form h_choice_row h_power
  have h_kind_sizes : Has CX0 P w K mg base "kind_sizes" 3 ["die", "throws"] (spD K 2 m_kind_sizes) := Has.toM (m := (runB 8 den_kind_sizes)) ⟨⟨f15, _, PySem.W.mg_of X G a15, k15, b15, o15⟩⟩
  have o16 := ok_kind_sums (P := P) (w := w) (base := base) F16 B h_kind_sizes
  have h_kind_sums : Has CX0 P w K mg base "kind_sums" 4 ["die", "throws"] (spD K 2 m_kind_sums) := Has.toM (m := (runB 5 den_kind_sums)) ⟨⟨f16, _, PySem.W.mg_of X G a16, k16, b16, o16⟩⟩
  have o17 := ok_is_whole (P := P) (w := w) (base := base) F17 B 
  have h_is_whole : Has CX0 P w K mg base "is_whole" 1 ["value"] (spD K 1 m_is_whole) := Has.toM (m := (runB 1 den_is_whole)) ⟨⟨f17, _, PySem.W.mg_of X G a17, k17, b17, o17⟩⟩
  have o18 := ok_is_number (P := P) (w := w) (base := base) F18 B h_is_whole
  have h_is_number : Has CX0 P w K mg base "is_number" 2 ["value"] (spD K 1 m_is_number) := Has.toM (m := (runB 1 den_is_number)) ⟨⟨f18, _, PySem.W.mg_of X G a18, k18, b18, o18⟩⟩
  have o19 := ok_is_between (P := P) (w := w) (base := base) F19 B h_is_whole
  have h_is_between : Has CX0 P w K mg base "is_between" 2 ["value", "least", "most"] (spD K 3 m_is_between) := Has.toM (m := (runB 3 den_is_between)) ⟨⟨f19, _, PySem.W.mg_of X G a19, k19, b19, o19⟩⟩
  have o20 := ok_check_faces (P := P) (w := w) (base := base) F20 B T_BadDie gC_BadDie h_is_between
  have h_check_faces : Has (L2.CX P w) P w K mg base "check_faces" 3 ["die", "thing"] (spD K 2 (m_check_faces C_BadDie)) := Has.toM (m := (runX 4 (den_check_faces C_BadDie))) ⟨⟨f20, _, PySem.W.mg_of X G a20, k20, b20, o20⟩⟩
  have o21 := ok_row_mass (P := P) (w := w) (base := base) F21 B 
  have h_row_mass : Has CX0 P w K mg base "row_mass" 1 ["die", "faces"] (spD K 2 m_row_mass) := Has.toM (m := (runB 4 den_row_mass)) ⟨⟨f21, _, PySem.W.mg_of X G a21, k21, b21, o21⟩⟩
  have o22 := ok_row_kind (P := P) (w := w) (base := base) F22 B 
  have h_row_kind : Has CX0 P w K mg base "row_kind" 1 ["die", "faces"] (spD K 2 m_row_kind) := Has.toM (m := (runB 3 den_row_kind)) ⟨⟨f22, _, PySem.W.mg_of X G a22, k22, b22, o22⟩⟩
  have o23 := ok_check_rows (P := P) (w := w) (base := base) F23 B T_BadTable gC_BadTable h_kind_sizes
  have h_check_rows : Has (L2.CX P w) P w K mg base "check_rows" 4 ["die", "thing", "least"] (spD K 3 (m_check_rows C_BadTable)) := Has.toM (m := (runX 4 (den_check_rows C_BadTable))) ⟨⟨f23, _, PySem.W.mg_of X G a23, k23, b23, o23⟩⟩
  have o24 := ok_check_row_form (P := P) (w := w) (base := base) F24 B T_BadTable gC_BadTable h_is_number
  have h_check_row_form : Has (L2.CX P w) P w K mg base "check_row_form" 3 ["at", "row", "many"] (spD K 3 (m_check_row_form C_BadTable)) := Has.toM (m := (runX 4 (den_check_row_form C_BadTable))) ⟨⟨f24, _, PySem.W.mg_of X G a24, k24, b24, o24⟩⟩
  have o25 := ok_check_table (P := P) (w := w) (base := base) F25 B T_BadTable gC_BadTable h_check_rows h_check_row_form
  have h_check_table : Has (L2.CX P w) P w K mg base "check_table" 5 ["die", "thing"] (spD K 2 (m_check_table C_BadTable)) := Has.toM (m := (runX 5 (den_check_table C_BadTable))) ⟨⟨f25, _, PySem.W.mg_of X G a25, k25, b25, o25⟩⟩
  have o26 := ok_place_in_row (P := P) (w := w) (base := base) F26 B 
  have h_place_in_row : Has CX0 P w K mg base "place_in_row" 1 ["row", "number"] (spD K 2 m_place_in_row) := Has.toM (m := (runB 5 den_place_in_row)) ⟨⟨f26, _, PySem.W.mg_of X G a26, k26, b26, o26⟩⟩
  have o27 := ok_outcome_of (P := P) (w := w) (base := base) F27 B h_row_number h_row_kind h_place_in_row
  have h_outcome_of : Has CX0 P w K mg base "outcome_of" 4 ["die", "table", "faces"] (spD K 3 m_outcome_of) := Has.toM (m := (runB 3 den_outcome_of)) ⟨⟨f27, _, PySem.W.mg_of X G a27, k27, b27, o27⟩⟩
  have o28 := ok__law_jug (P := P) (w := w) (base := base) F28 B 
  have h__law_jug : Has CX0 P w K mg base "_law_jug" 1 ["script"] (spD K 1 m__law_jug) := Has.toM (m := (runB 5 den__law_jug)) ⟨⟨f28, _, PySem.W.mg_of X G a28, k28, b28, o28⟩⟩
  have o29 := ok__law_pour (P := P) (w := w) (base := base) F29 B 
  have h__law_pour : Has CX0 P w K mg base "_law_pour" 1 ["jug", "many"] (spD K 2 m__law_pour) := Has.toM (m := (runB 4 den__law_pour)) ⟨⟨f29, _, PySem.W.mg_of X G a29, k29, b29, o29⟩⟩
  have o30 := ok__law_die (P := P) (w := w) (base := base) F30 B h__law_pour
  have h__law_die : Has CX0 P w K mg base "_law_die" 2 ["jug", "most"] (spD K 2 m__law_die) := Has.toM (m := (runB 7 den__law_die)) ⟨⟨f30, _, PySem.W.mg_of X G a30, k30, b30, o30⟩⟩
  have o31 := ok__law_form (P := P) (w := w) (base := base) F31 B 
  have h__law_form : Has CX0 P w K mg base "_law_form" 1 ["die"] (spD K 1 m__law_form) := Has.toM (m := (runB 3 den__law_form)) ⟨⟨f31, _, PySem.W.mg_of X G a31, k31, b31, o31⟩⟩
  have o32 := ok__law_choose (P := P) (w := w) (base := base) F32 B 
  have h__law_choose : Has CX0 P w K mg base "_law_choose" 1 ["n", "k"] (spD K 2 m__law_choose) := Has.toM (m := (runB 4 den__law_choose)) ⟨⟨f32, _, PySem.W.mg_of X G a32, k32, b32, o32⟩⟩
  have o33 := ok__law_power (P := P) (w := w) (base := base) F33 B 
  have h__law_power : Has CX0 P w K mg base "_law_power" 1 ["one", "many"] (spD K 2 m__law_power) := Has.toM (m := (runB 4 den__law_power)) ⟨⟨f33, _, PySem.W.mg_of X G a33, k33, b33, o33⟩⟩
  have o34 := ok__law_size (P := P) (w := w) (base := base) F34 B h__law_form h__law_choose h__law_power
  have h__law_size : Has CX0 P w K mg base "_law_size" 2 ["die", "throws", "kind"] (spD K 3 m__law_size) := Has.toM (m := (runB 7 den__law_size)) ⟨⟨f34, _, PySem.W.mg_of X G a34, k34, b34, o34⟩⟩
  have o35 := ok__law_mass (P := P) (w := w) (base := base) F35 B 
  have h__law_mass : Has CX0 P w K mg base "_law_mass" 1 ["die", "faces"] (spD K 2 m__law_mass) := Has.toM (m := (runB 4 den__law_mass)) ⟨⟨f35, _, PySem.W.mg_of X G a35, k35, b35, o35⟩⟩
  have o36 := ok__law_kind (P := P) (w := w) (base := base) F36 B 
  have h__law_kind : Has CX0 P w K mg base "_law_kind" 1 ["die", "faces"] (spD K 2 m__law_kind) := Has.toM (m := (runB 3 den__law_kind)) ⟨⟨f36, _, PySem.W.mg_of X G a36, k36, b36, o36⟩⟩
  have o37 := ok__law_number (P := P) (w := w) (base := base) F37 B h__law_form h__law_power
  have h__law_number : Has CX0 P w K mg base "_law_number" 2 ["die", "faces"] (spD K 2 m__law_number) := Has.toM (m := (runB 13 den__law_number)) ⟨⟨f37, _, PySem.W.mg_of X G a37, k37, b37, o37⟩⟩
  have o38 := ok__law_row (P := P) (w := w) (base := base) F38 B h__law_form h__law_power h__law_choose
  have h__law_row : Has CX0 P w K mg base "_law_row" 2 ["die", "throws", "kind", "number"] (spD K 4 m__law_row) := Has.toM (m := (runB 17 den__law_row)) ⟨⟨f38, _, PySem.W.mg_of X G a38, k38, b38, o38⟩⟩
  have o39 := ok__law_outcome (P := P) (w := w) (base := base) F39 B h__law_number h__law_kind
  have h__law_outcome : Has CX0 P w K mg base "_law_outcome" 3 ["die", "table", "faces"] (spD K 3 m__law_outcome) := Has.toM (m := (runB 6 den__law_outcome)) ⟨⟨f39, _, PySem.W.mg_of X G a39, k39, b39, o39⟩⟩
  have o40 := ok__law_same (P := P) (w := w) (base := base) F40 B 
  have h__law_same : Has CX0 P w K mg base "_law_same" 1 ["told", "due"] (spD K 2 m__law_same) := Has.toM (m := (runB 6 den__law_same)) ⟨⟨f40, _, PySem.W.mg_of X G a40, k40, b40, o40⟩⟩
  have o41 := ok__law_heard (P := P) (w := w) (base := base) F41 B T_BadDie gC_BadDie h_check_faces
  have h__law_heard : Has CX0 P w K mg base "_law_heard" 4 ["die", "thing"] (spD K 2 (m__law_heard C_BadDie)) := Has.toM (m := (runB 3 (den__law_heard C_BadDie))) ⟨⟨f41, _, PySem.W.mg_of X G a41, k41, b41, o41⟩⟩
  have o42 := ok__law_fault (P := P) (w := w) (base := base) F42 B 
  have h__law_fault : Has CX0 P w K mg base "_law_fault" 1 ["die", "thing"] (spD K 2 m__law_fault) := Has.toM (m := (runB 3 den__law_fault)) ⟨⟨f42, _, PySem.W.mg_of X G a42, k42, b42, o42⟩⟩
  have o43 := ok__law_faces (P := P) (w := w) (base := base) F43 B h__law_pour
  have h__law_faces : Has CX0 P w K mg base "_law_faces" 2 ["jug", "die", "many"] (spD K 3 m__law_faces) := Has.toM (m := (runB 6 den__law_faces)) ⟨⟨f43, _, PySem.W.mg_of X G a43, k43, b43, o43⟩⟩
  have o44 := ok__law_some (P := P) (w := w) (base := base) F44 B h__law_pour
  have h__law_some : Has CX0 P w K mg base "_law_some" 2 ["jug", "size"] (spD K 2 m__law_some) := Has.toM (m := (runB 5 den__law_some)) ⟨⟨f44, _, PySem.W.mg_of X G a44, k44, b44, o44⟩⟩
  have o45 := ok__law_row_right (P := P) (w := w) (base := base) F45 B T_BadDie gC_BadDie h__law_kind h__law_number h__law_size h_kind_mass h_row_kind h_row_mass h_row_number h__law_mass h__law_same h_check_faces h_row_of_number h_kind_size h__law_row h_next_row h__law_some h__law_pour hk_row_steps
  have h__law_row_right : Has CX0 P w K mg base "_law_row_right" 6 ["jug", "die", "faces"] (spD K 3 (m__law_row_right C_BadDie)) := Has.toM (m := (runB 10 (den__law_row_right C_BadDie))) ⟨⟨f45, _, PySem.W.mg_of X G a45, k45, b45, o45⟩⟩
  have o46 := ok__law_number_right (P := P) (w := w) (base := base) F46 B h__law_size h__law_pour h_row_of_number h__law_same h__law_some h__law_row h__law_number h_row_number hk_row_of_number
  have h__law_number_right : Has CX0 P w K mg base "_law_number_right" 5 ["jug", "die", "throws", "kind"] (spD K 4 m__law_number_right) := Has.toM (m := (runB 9 den__law_number_right)) ⟨⟨f46, _, PySem.W.mg_of X G a46, k46, b46, o46⟩⟩
  have o47 := ok__law_tabled (P := P) (w := w) (base := base) F47 B T_BadTable gC_BadTable h__law_pour h__law_size h__law_some h_check_table h__law_same h__law_faces h__law_kind h__law_row h__law_outcome h_outcome_of
  have h__law_tabled : Has CX0 P w K mg base "_law_tabled" 6 ["jug", "die", "throws"] (spD K 3 (m__law_tabled C_BadTable)) := Has.toM (m := (runB 13 (den__law_tabled C_BadTable))) ⟨⟨f47, _, PySem.W.mg_of X G a47, k47, b47, o47⟩⟩
  have o48 := ok__law_faults (P := P) (w := w) (base := base) F48 B T_BadDie gC_BadDie h__law_pour h__law_fault h__law_heard h__law_same
  have h__law_faults : Has CX0 P w K mg base "_law_faults" 5 ["jug", "die", "faces"] (spD K 3 (m__law_faults C_BadDie)) := Has.toM (m := (runB 6 (den__law_faults C_BadDie))) ⟨⟨f48, _, PySem.W.mg_of X G a48, k48, b48, o48⟩⟩
  have o49 := ok_law (P := P) (w := w) (base := base) F49 B T_BadDie gC_BadDie T_BadTable gC_BadTable h__law_jug h__law_die h__law_pour h__law_faces h__law_row_right h__law_number_right h__law_faults h__law_size h_kind_sums h__law_same h__law_tabled h_row_of_number h_row_steps h_next_row h_row_number
  refine o49.imp fun vs H Q E ⟨a, ns, e1, hS, hl, q⟩ => ?_
  subst e1
  obtain ⟨L, eL⟩ := run_law C_BadDie C_BadTable ns hl
  refine ⟨[], [], [.ro ns], Own.nil, Rws.one (by simp only [Rw]; exact ⟨a, rfl, hS⟩), rfl, ?_⟩
  rw [eL]
  intro ρ' H' v st ow r
  obtain rfl : v = .bl true := by simpa [Rw] using r
  exact q H'
theorem sqs_of {K : PySem.W.Frag} {H : Hp} {a : Addr} {xs : List V} (hO : Only H) (h : SqL K H a xs) : SqS K [] H a xs := by
  rcases h with h | h
  · rcases h with h | ⟨ob, h⟩
    · rcases hO a with z | ⟨o, ys, z⟩
      · rw [h] at z; cases z
      · rw [h] at z; cases z
    · exact .inl ⟨ob, h⟩
  · exact .inr h
theorem walk {l : PySem.W.OpenLaw} {q : Program} {loose : List Str} {XP : (Str → Option Value) → Heap → Prop} {YP : World → Heap → Prop} {d : DefRec} {K : Params → PySem.W.Frag} (hn : l.most = some 63) (hdf : d.params.defaults = [])
    (hY : ∀ (w : World) (h : Heap), YP w h → (K w.params).In h)
    (F : ∀ (w : World) (mg : Str → Option Value) (fa : Addr) (h : Heap), (K w.params).In h → h.Ns mainGlobals mg → mg d.name = some (.ref fa) →
      ∃ fd : FuncData, (∀ (s : Shared) (u : Value), BindsTo s fd ⟨[u], []⟩ [("script", u)]) ∧ ∀ base : Heap, (K w.params).In base → base.Ns mainGlobals mg → FnOk l.prog w (K w.params) mg base CX0 7 fa fd ["script"] (spLaw (K w.params))) :
    PySem.W.WalkO q loose XP YP l.row.toRowW d [] (fun f vs => PySem.call f vs) :=
  L2.walk_of (n := 63) (k := 7) (x := "script") (CX := fun _ => CX0) (sp := fun w => spLaw (K w.params)) hn (by decide) hdf ⟨rfl, by decide, by decide⟩ hY F (fun _ _ a ns hl hO hS => ⟨a, ns, rfl, sqs_of hO hS, hl, fun _ => rfl⟩) fun _ _ _ _ _ z => z
end Q82

set_option Elab.async false
set_option linter.all false
open PySem PySem.W PyProof.Rows
set_option maxRecDepth 100000 in
set_option maxHeartbeats 0 in
theorem PySem.Challenge.cw_throwntrue_k82_whole_numbers_holds : PySem.Challenge.rw_throwntrue_k82_whole_numbers.Holds := by
  w_on; o_law; k_head; (case hw => w_witness2)
  k_fill
  refine Q82.walk (l := PySem.Challenge.rw_throwntrue_k82_whole_numbers) rfl rfl (fun w h Y => PySem.W.kIn_of Y) ?F
  case F =>
    intro w mg fa h KX G hmg
    refine' Q82.all_mk KX G hmg ?aC_BadDie ?xC_BadDie ?xB_BadDie ?iB_BadDie ?rB_BadDie ?sa_BadDie ?ga_BadDie ?gg_BadDie ?nb0_BadDie ?nb1_BadDie ?iC_BadDie ?tI_BadDie ?kC_BadDie ?eC_BadDie ?vC_BadDie ?mC_BadDie ?tC_BadDie ?hC_BadDie ?clC_BadDie ?sC_BadDie ?op_BadDie ?nS_BadDie ?tS_BadDie ?lI_BadDie ?cI_BadDie ?lcc_BadDie ?lcd_BadDie ?fv_BadDie ?fe_BadDie ?aC_BadTable ?xC_BadTable ?xB_BadTable ?iB_BadTable ?rB_BadTable ?sa_BadTable ?ga_BadTable ?gg_BadTable ?nb0_BadTable ?nb1_BadTable ?iC_BadTable ?tI_BadTable ?kC_BadTable ?eC_BadTable ?vC_BadTable ?mC_BadTable ?tC_BadTable ?hC_BadTable ?clC_BadTable ?sC_BadTable ?op_BadTable ?nS_BadTable ?tS_BadTable ?lI_BadTable ?cI_BadTable ?lcc_BadTable ?lcd_BadTable ?fv_BadTable ?fe_BadTable ?a0 ?l0 ?c0 ?k0 ?a1 ?l1 ?c1 ?k1 ?a2 ?l2 ?c2 ?k2 ?a3 ?l3 ?c3 ?k3 ?a4 ?l4 ?c4 ?k4 ?a5 ?l5 ?c5 ?k5 ?a6 ?l6 ?c6 ?k6 ?a7 ?l7 ?c7 ?k7 ?a8 ?l8 ?c8 ?k8 ?a9 ?l9 ?c9 ?k9 ?a10 ?l10 ?c10 ?k10 ?a11 ?l11 ?c11 ?k11 ?a12 ?l12 ?c12 ?k12 ?a13 ?l13 ?c13 ?k13 ?a14 ?l14 ?c14 ?k14 ?a15 ?l15 ?c15 ?k15 ?a16 ?l16 ?c16 ?k16 ?a17 ?l17 ?c17 ?k17 ?a18 ?l18 ?c18 ?k18 ?a19 ?l19 ?c19 ?k19 ?a20 ?l20 ?c20 ?k20 ?a21 ?l21 ?c21 ?k21 ?a22 ?l22 ?c22 ?k22 ?a23 ?l23 ?c23 ?k23 ?a24 ?l24 ?c24 ?k24 ?a25 ?l25 ?c25 ?k25 ?a26 ?l26 ?c26 ?k26 ?a27 ?l27 ?c27 ?k27 ?a28 ?l28 ?c28 ?k28 ?a29 ?l29 ?c29 ?k29 ?a30 ?l30 ?c30 ?k30 ?a31 ?l31 ?c31 ?k31 ?a32 ?l32 ?c32 ?k32 ?a33 ?l33 ?c33 ?k33 ?a34 ?l34 ?c34 ?k34 ?a35 ?l35 ?c35 ?k35 ?a36 ?l36 ?c36 ?k36 ?a37 ?l37 ?c37 ?k37 ?a38 ?l38 ?c38 ?k38 ?a39 ?l39 ?c39 ?k39 ?a40 ?l40 ?c40 ?k40 ?a41 ?l41 ?c41 ?k41 ?a42 ?l42 ?c42 ?k42 ?a43 ?l43 ?c43 ?k43 ?a44 ?l44 ?c44 ?k44 ?a45 ?l45 ?c45 ?k45 ?a46 ?l46 ?c46 ?k46 ?a47 ?l47 ?c47 ?k47 ?a48 ?l48 ?c48 ?k48 ?a49 ?l49 ?c49 ?k49 ?z_abs ?z_bool ?z_enumerate ?z_int ?z_isinstance ?z_len ?z_list ?z_max ?z_min ?z_range ?z_str ?z_sum ?z_tuple ?z_MOST_THROWS ?y_MOST_THROWS ?z_MOST_OUTCOMES ?y_MOST_OUTCOMES
    (case aC_BadDie => k_is)
    (case xC_BadDie => k_is)
    (case xB_BadDie => k_is)
    (case iB_BadDie => k_is)
    (case rB_BadDie => decide +kernel)
    (case sa_BadDie => k_is)
    (case ga_BadDie => k_is)
    (case gg_BadDie => k_is)
    (case nb0_BadDie => k_is)
    (case nb1_BadDie => k_is)
    (case iC_BadDie => k_is)
    (case tI_BadDie => k_is)
    (case kC_BadDie => k_is)
    (case eC_BadDie => k_is)
    (case vC_BadDie => k_is)
    (case mC_BadDie => k_is)
    (case tC_BadDie => k_is)
    (case hC_BadDie => k_is)
    (case clC_BadDie => k_is)
    (case sC_BadDie => first | rfl | k_is)
    (case op_BadDie => k_is)
    (case nS_BadDie => k_is)
    (case tS_BadDie => first | rfl | decide +kernel)
    (case lI_BadDie => k_is)
    (case cI_BadDie => k_is)
    (case lcc_BadDie => k_is)
    (case lcd_BadDie => k_is)
    (case fv_BadDie => first | rfl | with_unfolding_all rfl)
    (case fe_BadDie => first | rfl | decide +kernel)
    (case aC_BadTable => k_is)
    (case xC_BadTable => k_is)
    (case xB_BadTable => k_is)
    (case iB_BadTable => k_is)
    (case rB_BadTable => decide +kernel)
    (case sa_BadTable => k_is)
    (case ga_BadTable => k_is)
    (case gg_BadTable => k_is)
    (case nb0_BadTable => k_is)
    (case nb1_BadTable => k_is)
    (case iC_BadTable => k_is)
    (case tI_BadTable => k_is)
    (case kC_BadTable => k_is)
    (case eC_BadTable => k_is)
    (case vC_BadTable => k_is)
    (case mC_BadTable => k_is)
    (case tC_BadTable => k_is)
    (case hC_BadTable => k_is)
    (case clC_BadTable => k_is)
    (case sC_BadTable => first | rfl | k_is)
    (case op_BadTable => k_is)
    (case nS_BadTable => k_is)
    (case tS_BadTable => first | rfl | decide +kernel)
    (case lI_BadTable => k_is)
    (case cI_BadTable => k_is)
    (case lcc_BadTable => k_is)
    (case lcd_BadTable => k_is)
    (case fv_BadTable => first | rfl | with_unfolding_all rfl)
    (case fe_BadTable => first | rfl | decide +kernel)
    (case a0 => k_is)
    (case l0 => k_is)
    (case c0 => k_is)
    (case k0 => k_is)
    (case a1 => k_is)
    (case l1 => k_is)
    (case c1 => k_is)
    (case k1 => k_is)
    (case a2 => k_is)
    (case l2 => k_is)
    (case c2 => k_is)
    (case k2 => k_is)
    (case a3 => k_is)
    (case l3 => k_is)
    (case c3 => k_is)
    (case k3 => k_is)
    (case a4 => k_is)
    (case l4 => k_is)
    (case c4 => k_is)
    (case k4 => k_is)
    (case a5 => k_is)
    (case l5 => k_is)
    (case c5 => k_is)
    (case k5 => k_is)
    (case a6 => k_is)
    (case l6 => k_is)
    (case c6 => k_is)
    (case k6 => k_is)
    (case a7 => k_is)
    (case l7 => k_is)
    (case c7 => k_is)
    (case k7 => k_is)
    (case a8 => k_is)
    (case l8 => k_is)
    (case c8 => k_is)
    (case k8 => k_is)
    (case a9 => k_is)
    (case l9 => k_is)
    (case c9 => k_is)
    (case k9 => k_is)
    (case a10 => k_is)
    (case l10 => k_is)
    (case c10 => k_is)
    (case k10 => k_is)
    (case a11 => k_is)
    (case l11 => k_is)
    (case c11 => k_is)
    (case k11 => k_is)
    (case a12 => k_is)
    (case l12 => k_is)
    (case c12 => k_is)
    (case k12 => k_is)
    (case a13 => k_is)
    (case l13 => k_is)
    (case c13 => k_is)
    (case k13 => k_is)
    (case a14 => k_is)
    (case l14 => k_is)
    (case c14 => k_is)
    (case k14 => k_is)
    (case a15 => k_is)
    (case l15 => k_is)
    (case c15 => k_is)
    (case k15 => k_is)
    (case a16 => k_is)
    (case l16 => k_is)
    (case c16 => k_is)
    (case k16 => k_is)
    (case a17 => k_is)
    (case l17 => k_is)
    (case c17 => k_is)
    (case k17 => k_is)
    (case a18 => k_is)
    (case l18 => k_is)
    (case c18 => k_is)
    (case k18 => k_is)
    (case a19 => k_is)
    (case l19 => k_is)
    (case c19 => k_is)
    (case k19 => k_is)
    (case a20 => k_is)
    (case l20 => k_is)
    (case c20 => k_is)
    (case k20 => k_is)
    (case a21 => k_is)
    (case l21 => k_is)
    (case c21 => k_is)
    (case k21 => k_is)
    (case a22 => k_is)
    (case l22 => k_is)
    (case c22 => k_is)
    (case k22 => k_is)
    (case a23 => k_is)
    (case l23 => k_is)
    (case c23 => k_is)
    (case k23 => k_is)
    (case a24 => k_is)
    (case l24 => k_is)
    (case c24 => k_is)
    (case k24 => k_is)
    (case a25 => k_is)
    (case l25 => k_is)
    (case c25 => k_is)
    (case k25 => k_is)
    (case a26 => k_is)
    (case l26 => k_is)
    (case c26 => k_is)
    (case k26 => k_is)
    (case a27 => k_is)
    (case l27 => k_is)
    (case c27 => k_is)
    (case k27 => k_is)
    (case a28 => k_is)
    (case l28 => k_is)
    (case c28 => k_is)
    (case k28 => k_is)
    (case a29 => k_is)
    (case l29 => k_is)
    (case c29 => k_is)
    (case k29 => k_is)
    (case a30 => k_is)
    (case l30 => k_is)
    (case c30 => k_is)
    (case k30 => k_is)
    (case a31 => k_is)
    (case l31 => k_is)
    (case c31 => k_is)
    (case k31 => k_is)
    (case a32 => k_is)
    (case l32 => k_is)
    (case c32 => k_is)
    (case k32 => k_is)
    (case a33 => k_is)
    (case l33 => k_is)
    (case c33 => k_is)
    (case k33 => k_is)
    (case a34 => k_is)
    (case l34 => k_is)
    (case c34 => k_is)
    (case k34 => k_is)
    (case a35 => k_is)
    (case l35 => k_is)
    (case c35 => k_is)
    (case k35 => k_is)
    (case a36 => k_is)
    (case l36 => k_is)
    (case c36 => k_is)
    (case k36 => k_is)
    (case a37 => k_is)
    (case l37 => k_is)
    (case c37 => k_is)
    (case k37 => k_is)
    (case a38 => k_is)
    (case l38 => k_is)
    (case c38 => k_is)
    (case k38 => k_is)
    (case a39 => k_is)
    (case l39 => k_is)
    (case c39 => k_is)
    (case k39 => k_is)
    (case a40 => k_is)
    (case l40 => k_is)
    (case c40 => k_is)
    (case k40 => k_is)
    (case a41 => k_is)
    (case l41 => k_is)
    (case c41 => k_is)
    (case k41 => k_is)
    (case a42 => k_is)
    (case l42 => k_is)
    (case c42 => k_is)
    (case k42 => k_is)
    (case a43 => k_is)
    (case l43 => k_is)
    (case c43 => k_is)
    (case k43 => k_is)
    (case a44 => k_is)
    (case l44 => k_is)
    (case c44 => k_is)
    (case k44 => k_is)
    (case a45 => k_is)
    (case l45 => k_is)
    (case c45 => k_is)
    (case k45 => k_is)
    (case a46 => k_is)
    (case l46 => k_is)
    (case c46 => k_is)
    (case k46 => k_is)
    (case a47 => k_is)
    (case l47 => k_is)
    (case c47 => k_is)
    (case k47 => k_is)
    (case a48 => k_is)
    (case l48 => k_is)
    (case c48 => k_is)
    (case k48 => k_is)
    (case a49 => k_is)
    (case l49 => k_is)
    (case c49 => k_is)
    (case k49 => k_is)
    (case z_abs => k_is)
    (case z_bool => k_is)
    (case z_enumerate => k_is)
    (case z_int => k_is)
    (case z_isinstance => k_is)
    (case z_len => k_is)
    (case z_list => k_is)
    (case z_max => k_is)
    (case z_min => k_is)
    (case z_range => k_is)
    (case z_str => k_is)
    (case z_sum => k_is)
    (case z_tuple => k_is)
    (case z_MOST_THROWS => k_is)
    (case y_MOST_THROWS => first | rfl | exact ⟨_, rfl⟩ | decide)
    (case z_MOST_OUTCOMES => k_is)
    (case y_MOST_OUTCOMES => first | rfl | exact ⟨_, rfl⟩ | decide)

