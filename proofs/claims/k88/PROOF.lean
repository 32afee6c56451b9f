import PyProof.Rows.All
import Wide.All
import OpenK.AllK
import Wide.FinOn
import HandS.ForMost
import HandS.TupAny
import HandS.WideBits
import HandS.Wide
import HandS.IsInst
import HandS.Flow
import HandS.Style
import HandS.WordsExc
import HandS.TupMul
import HandS.ForSpec
import HandS.Exc
import HandS.ExcOwn
import OpenK.KMore
import PyProof.EqAt
import PyProof.EqKinds
import PyProof.TupleCall
import KE.KSuper
import KE.KExcSuper
import HandS.ExcInit
import HandS.ExcSuper
import PySem.Challenge.RW_throwntrue_k88_whole_joined_code
set_option Elab.async false
set_option linter.all false
set_option maxRecDepth 100000
namespace Zb
open PySem L2

inductive D where
  | non | bl (b : Bool) | int (i : Int) | str (s : Str) | ty (n : String) | adr (n : Nat) | tup (ds : List D) | ro (ns : List Int)
  deriving Inhabited
inductive OB where
  | lst (ds : List D) | dct (kvs : List (Key × D))
  deriving Inhabited
abbrev Sto := List OB
abbrev Sl := List (Option D)
inductive Res (α : Type) where
  | bad | ok (a : α) (l : Sto) | exc (C : Addr) (fs : List (Str × D)) (l : Sto)
def Res.bind {α β : Type} (r : Res α) (k : α → Sto → Res β) : Res β := match r with
  | .bad => .bad
  | .ok a l => k a l
  | .exc C fs l => .exc C fs l

/-- a list of ints that is read only and is none of the store's -/
def SqS (K : PySem.W.Frag) (ρ : List Addr) (H : Hp) (a : Addr) (xs : List V) : Prop :=
  (∃ ob, H a = some (.frz ob (.lst xs))) ∨
    ∃ (o : Obj) (its : Array Value) (n : Nat), K.lookup a = some o ∧ o.cls = .type "list" ∧ o.dict = none ∧ o.data = .seq its n ∧ its.size ≤ sizeLine ∧ Vals xs its.toList
theorem SqS.sq {K : PySem.W.Frag} {ρ : List Addr} {H : Hp} {a : Addr} {xs : List V} (h : SqS K ρ H a xs) : SqL K H a xs := by
  rcases h with ⟨ob, h⟩ | h
  · exact .inl (.inr ⟨ob, h⟩)
  · exact .inr h
mutual
def Rw (K : PySem.W.Frag) (ρ : List Addr) (H : Hp) : D → V → Prop
  | .non, v => v = .non
  | .bl b, v => v = .bl b
  | .int i, v => v = .int i
  | .str s, v => v = .str s
  | .ty n, v => v = .ty n
  | .adr n, v => ∃ a, ρ[n]? = some a ∧ v = .ref a
  | .tup ds, v => ∃ a vs, v = .ref a ∧ SqT K H a vs ∧ Rws K ρ H ds vs
  | .ro ns, v => ∃ a, v = .ref a ∧ SqS K ρ H a (ns.map V.int)
def Rws (K : PySem.W.Frag) (ρ : List Addr) (H : Hp) : List D → List V → Prop
  | [], vs => vs = []
  | d :: ds, vs => ∃ v r, vs = v :: r ∧ Rw K ρ H d v ∧ Rws K ρ H ds r
end

section
variable {K : PySem.W.Frag} {ρ ρ' : List Addr} {H H' : Hp}
def Tk (K : PySem.W.Frag) (H H' : Hp) : Prop := ∀ a xs, SqT K H a xs → SqT K H' a xs
theorem Tk.refl : Tk K H H := fun _ _ h => h
structure Mn (K : PySem.W.Frag) (ρ : List Addr) (H : Hp) (ρ' : List Addr) (H' : Hp) : Prop where
  px : ∀ (n : Nat) (a : Addr), ρ[n]? = some a → ρ'[n]? = some a
  tk : Tk K H H'
  ss : ∀ a xs, SqS K ρ H a xs → SqS K ρ' H' a xs
mutual
theorem Rw.mono (m : Mn K ρ H ρ' H') : ∀ (d : D) (v : V), Rw K ρ H d v → Rw K ρ' H' d v
  | .non, _, h => by simpa [Rw] using h
  | .bl _, _, h => by simpa [Rw] using h
  | .int _, _, h => by simpa [Rw] using h
  | .str _, _, h => by simpa [Rw] using h
  | .ty _, _, h => by simpa [Rw] using h
  | .adr n, v, h => by
    simp only [Rw] at h ⊢
    obtain ⟨a, e, h⟩ := h
    exact ⟨a, m.px n a e, h⟩
  | .tup ds, v, h => by
    simp only [Rw] at h ⊢
    obtain ⟨a, vs, e, h, r⟩ := h
    exact ⟨a, vs, e, m.tk a vs h, Rws.mono m ds vs r⟩
  | .ro ns, v, h => by
    simp only [Rw] at h ⊢
    obtain ⟨a, e, h⟩ := h
    exact ⟨a, e, m.ss a _ h⟩
theorem Rws.mono (m : Mn K ρ H ρ' H') : ∀ (ds : List D) (vs : List V), Rws K ρ H ds vs → Rws K ρ' H' ds vs
  | [], _, h => by simpa [Rws] using h
  | d :: ds, vs, h => by
    simp only [Rws] at h ⊢
    obtain ⟨v, r, e, h1, h2⟩ := h
    exact ⟨v, r, e, Rw.mono m d v h1, Rws.mono m ds r h2⟩
end
theorem Rws.length : ∀ {ds : List D} {vs : List V}, Rws K ρ H ds vs → vs.length = ds.length
  | [], _, h => by simp only [Rws] at h; subst h; rfl
  | d :: ds, _, h => by
    simp only [Rws] at h
    obtain ⟨v, r, e, _, h2⟩ := h
    subst e
    simp [Rws.length h2]
theorem Rws.get : ∀ {ds : List D} {vs : List V} {i : Nat} {d : D}, Rws K ρ H ds vs → ds[i]? = some d → ∃ v, vs[i]? = some v ∧ Rw K ρ H d v
  | [], _, _, _, h, e => by simp at e
  | d :: ds, _, 0, _, h, e => by
    simp only [Rws] at h
    obtain ⟨v, r, rfl, h1, h2⟩ := h
    simp at e; subst e
    exact ⟨v, rfl, h1⟩
  | d :: ds, _, i + 1, _, h, e => by
    simp only [Rws] at h
    obtain ⟨v, r, rfl, h1, h2⟩ := h
    obtain ⟨u, a, b⟩ := Rws.get (i := i) h2 (by simpa using e)
    exact ⟨u, by simpa using a, b⟩
theorem Rws.getV : ∀ {ds : List D} {vs : List V} {i : Nat} {v : V}, Rws K ρ H ds vs → vs[i]? = some v → ∃ d, ds[i]? = some d ∧ Rw K ρ H d v := fun {ds vs i v} h e => by
  have hl := Rws.length h
  have hi : i < ds.length := by rw [← hl]; exact (List.getElem?_eq_some_iff.mp e).1
  obtain ⟨u, a, b⟩ := Rws.get h (List.getElem?_eq_getElem hi)
  rw [e] at a; cases a
  exact ⟨_, List.getElem?_eq_getElem hi, b⟩
theorem Rws.nil : Rws K ρ H [] [] := by simp [Rws]
theorem Rws.cons {d : D} {v : V} {ds : List D} {vs : List V} (a : Rw K ρ H d v) (b : Rws K ρ H ds vs) : Rws K ρ H (d :: ds) (v :: vs) := by
  simp only [Rws]; exact ⟨v, vs, rfl, a, b⟩
theorem Rws.app : ∀ {ds es : List D} {vs us : List V}, Rws K ρ H ds vs → Rws K ρ H es us → Rws K ρ H (ds ++ es) (vs ++ us)
  | [], _, _, _, h, q => by simp only [Rws] at h; subst h; exact q
  | d :: ds, _, _, _, h, q => by
    simp only [Rws] at h
    obtain ⟨v, r, rfl, h1, h2⟩ := h
    exact Rws.cons h1 (Rws.app h2 q)
theorem Rws.one {d : D} {v : V} (a : Rw K ρ H d v) : Rws K ρ H [d] [v] := Rws.cons a Rws.nil
theorem Rws.take : ∀ {ds : List D} {vs : List V} (n : Nat), Rws K ρ H ds vs → Rws K ρ H (ds.take n) (vs.take n)
  | _, _, 0, _ => by simp [Rws]
  | [], _, n + 1, h => by simp only [Rws] at h; subst h; simp [Rws]
  | d :: ds, _, n + 1, h => by
    simp only [Rws] at h
    obtain ⟨v, r, rfl, h1, h2⟩ := h
    exact Rws.cons h1 (Rws.take n h2)
theorem Rws.drop : ∀ {ds : List D} {vs : List V} (n : Nat), Rws K ρ H ds vs → Rws K ρ H (ds.drop n) (vs.drop n)
  | _, _, 0, h => h
  | [], _, n + 1, h => by simp only [Rws] at h; subst h; simp [Rws]
  | d :: ds, _, n + 1, h => by
    simp only [Rws] at h
    obtain ⟨v, r, rfl, h1, h2⟩ := h
    exact Rws.drop n h2
theorem Rws.set {d : D} {v : V} (a : Rw K ρ H d v) : ∀ {ds : List D} {vs : List V} (n : Nat), Rws K ρ H ds vs → Rws K ρ H (ds.set n d) (vs.set n v)
  | [], _, n, h => by simp only [Rws] at h; subst h; simp [Rws]
  | e :: ds, _, 0, h => by
    simp only [Rws] at h
    obtain ⟨u, r, rfl, h1, h2⟩ := h
    exact Rws.cons a h2
  | e :: ds, _, n + 1, h => by
    simp only [Rws] at h
    obtain ⟨u, r, rfl, h1, h2⟩ := h
    exact Rws.cons h1 (Rws.set a n h2)
theorem Rws.rev {ds : List D} {vs : List V} (h : Rws K ρ H ds vs) : Rws K ρ H ds.reverse vs.reverse := by
  induction ds generalizing vs with
  | nil => simp only [Rws] at h; subst h; simp [Rws]
  | cons d ds ih =>
    simp only [Rws] at h
    obtain ⟨u, r, rfl, h1, h2⟩ := h
    rw [List.reverse_cons, List.reverse_cons]
    exact Rws.app (ih h2) (Rws.one h1)
theorem Rws.rep {ds : List D} {vs : List V} (h : Rws K ρ H ds vs) : ∀ k : Nat, Rws K ρ H (List.replicate k ds).flatten (List.replicate k vs).flatten
  | 0 => by simp [Rws]
  | k + 1 => by
    rw [List.replicate_succ, List.replicate_succ, List.flatten_cons, List.flatten_cons]
    exact Rws.app h (Rws.rep h k)
theorem Rws.nil_iff {ds : List D} {vs : List V} (h : Rws K ρ H ds vs) : vs = [] ↔ ds = [] := by
  have := Rws.length h
  constructor <;> intro e <;> subst e
  · exact List.eq_nil_of_length_eq_zero (by simpa using this.symm)
  · exact List.eq_nil_of_length_eq_zero (by simpa using this)

/-! ### the store -/
def Ow (K : PySem.W.Frag) (ρ : List Addr) (H : Hp) : OB → Addr → Prop
  | .lst ds, a => ∃ vs, H a = some (.lst vs) ∧ Rws K ρ H ds vs
  | .dct kvs, a => ∃ kv, H a = some (.dK kv) ∧ kv.map (·.1) = kvs.map (·.1) ∧ Rws K ρ H (kvs.map (·.2)) (kv.map (·.2))
structure Own (K : PySem.W.Frag) (ρ : List Addr) (l : Sto) (H : Hp) : Prop where
  nd : ρ.Nodup
  len : ρ.length = l.length
  at_ : ∀ (n : Nat) (o : OB) (a : Addr), l[n]? = some o → ρ[n]? = some a → Ow K ρ H o a
structure Step (ρ : List Addr) (H : Hp) (ρ' : List Addr) (H' : Hp) : Prop where
  pre : ∃ t, ρ' = ρ ++ t
  keep : ∀ a o, H a = some o → a ∉ ρ → H' a = some o
  new : ∀ a, a ∈ ρ' → a ∉ ρ → H a = none
theorem Step.refl : Step ρ H ρ H := ⟨⟨[], by simp⟩, fun _ _ h _ => h, fun a h n => absurd h n⟩
theorem Step.trans {ρ1 ρ2 ρ3 : List Addr} {H1 H2 H3 : Hp} (a : Step ρ1 H1 ρ2 H2) (b : Step ρ2 H2 ρ3 H3) : Step ρ1 H1 ρ3 H3 := by
  obtain ⟨t, rfl⟩ := a.pre
  obtain ⟨u, rfl⟩ := b.pre
  refine ⟨⟨t ++ u, by simp⟩, fun x o h n => ?_, fun x h n => ?_⟩
  · refine b.keep x o (a.keep x o h n) fun q => ?_
    rcases List.mem_append.mp q with q | q
    · exact n q
    · have := a.new x (List.mem_append_right _ q) n
      rw [h] at this; cases this
  · by_cases q : x ∈ ρ1 ++ t
    · exact a.new x q n
    · have := b.new x h q
      cases e : H1 x with
      | none => rfl
      | some o =>
        have := a.keep x o e n
        simp_all
theorem Step.px (s : Step ρ H ρ' H') : ∀ (n : Nat) (a : Addr), ρ[n]? = some a → ρ'[n]? = some a := fun n a e => by
  obtain ⟨t, rfl⟩ := s.pre
  rw [List.getElem?_append_left (List.getElem?_eq_some_iff.mp e).1]; exact e
theorem Own.mem {l : Sto} (o : Own K ρ l H) {a : Addr} (h : a ∈ ρ) : ∃ ob, Ow K ρ H ob a := by
  obtain ⟨n, hn⟩ := List.getElem?_of_mem h
  have hl : n < l.length := by rw [← o.len]; exact (List.getElem?_eq_some_iff.mp hn).1
  exact ⟨_, o.at_ n _ a (List.getElem?_eq_getElem hl) hn⟩
def stO : HO → Prop
  | .lst _ => True | .dK _ => True | _ => False
theorem Own.some_ {l : Sto} (o : Own K ρ l H) {a : Addr} (h : a ∈ ρ) : ∃ u, H a = some u ∧ stO u := by
  obtain ⟨ob, q⟩ := o.mem h
  cases ob with
  | lst ds => obtain ⟨vs, e, _⟩ := q; exact ⟨_, e, trivial⟩
  | dct ds => obtain ⟨vs, e, _⟩ := q; exact ⟨_, e, trivial⟩
theorem Step.tk {l : Sto} (s : Step ρ H ρ' H') (o : Own K ρ l H) : Tk K H H' := fun a xs h => by
  have na : ∀ u, H a = some u → ¬ stO u → a ∉ ρ := fun u hu hn q => by
    obtain ⟨u', e, st⟩ := o.some_ q
    rw [hu] at e; cases e
    exact hn st
  rcases h with (h | ⟨ob, h⟩) | h
  · exact .inl (.inl (s.keep _ _ h (na _ h (fun q => q))))
  · exact .inl (.inr ⟨ob, s.keep _ _ h (na _ h (fun q => q))⟩)
  · exact .inr h
theorem Step.mn {l : Sto} (s : Step ρ H ρ' H') (o : Own K ρ l H) : Mn K ρ H ρ' H' := ⟨s.px, s.tk o, fun a xs h => by
  rcases h with ⟨ob, h⟩ | h
  · refine .inl ⟨ob, s.keep _ _ h fun q => ?_⟩
    obtain ⟨u', e, st⟩ := o.some_ q
    rw [h] at e; cases e
    exact st
  · exact .inr h⟩
theorem Step.rw {l : Sto} (s : Step ρ H ρ' H') (o : Own K ρ l H) {d : D} {v : V} (h : Rw K ρ H d v) : Rw K ρ' H' d v := Rw.mono (s.mn o) d v h
theorem Step.rws {l : Sto} (s : Step ρ H ρ' H') (o : Own K ρ l H) {d : List D} {v : List V} (h : Rws K ρ H d v) : Rws K ρ' H' d v := Rws.mono (s.mn o) d v h

/-! ### slots -/
structure Slt (K : PySem.W.Frag) (ρ : List Addr) (H : Hp) (σ : L2.St) (g : Sl) : Prop where
  len : σ.length = g.length
  at_ : ∀ (i : Nat) (d : D), g[i]? = some (some d) → ∃ v, σ[i]? = some (some v) ∧ Rw K ρ H d v
theorem Slt.step {l : Sto} {σ : L2.St} {g : Sl} (h : Slt K ρ H σ g) (s : Step ρ H ρ' H') (o : Own K ρ l H) : Slt K ρ' H' σ g :=
  ⟨h.len, fun i d e => let ⟨v, a, b⟩ := h.at_ i d e; ⟨v, a, s.rw o b⟩⟩
theorem Slt.set {σ : L2.St} {g : Sl} {d : D} {v : V} (h : Slt K ρ H σ g) (i : Nat) (r : Rw K ρ H d v) : Slt K ρ H (σ.set i (some v)) (g.set i (some d)) := by
  refine ⟨by simp [h.len], fun j e hj => ?_⟩
  by_cases q : i = j
  · subst q
    have hi : i < g.length := by
      have := (List.getElem?_eq_some_iff.mp hj).1
      simpa using this
    rw [List.getElem?_set_self hi] at hj
    cases hj
    exact ⟨v, by rw [List.getElem?_set_self (by rw [h.len]; exact hi)], r⟩
  · rw [List.getElem?_set_ne q] at hj
    obtain ⟨u, a, b⟩ := h.at_ j e hj
    exact ⟨u, by rw [List.getElem?_set_ne q]; exact a, b⟩

/-! ### what is reached -/
def Post {α β : Type} (K : PySem.W.Frag) (E : XK) (ρ : List Addr) (H : Hp) (rel : List Addr → Hp → α → β → Prop) (r : Res α) (Q : β → Hp → Prop) : Prop := match r with
  | .bad => False
  | .ok a l' => ∀ ρ' H' b, Step ρ H ρ' H' → Own K ρ' l' H' → rel ρ' H' a b → Q b H'
  | .exc C fs l' => ∀ ρ' H' dd vs, Step ρ H ρ' H' → Own K ρ' l' H' → H' dd = some (.xd vs) → vs.map (·.1) = fs.map (·.1) → Rws K ρ' H' (fs.map (·.2)) (vs.map (·.2)) → E (.ref C) (some dd) H'
theorem Post.bind {α β γ δ : Type} {E : XK} {rel : List Addr → Hp → α → γ → Prop} {rel2 : List Addr → Hp → β → δ → Prop} {r : Res α} {k : α → Sto → Res β} {Q : δ → Hp → Prop} {Q1 : γ → Hp → Prop}
    (h : Post K E ρ H rel2 (r.bind k) Q)
    (hk : ∀ a l1 ρ1 H1 b, r = .ok a l1 → Step ρ H ρ1 H1 → Own K ρ1 l1 H1 → rel ρ1 H1 a b → Post K E ρ1 H1 rel2 (k a l1) Q → Q1 b H1) : Post K E ρ H rel r Q1 := by
  cases r with
  | bad => exact h
  | exc C fs l' => exact h
  | ok a l1 =>
    intro ρ1 H1 b s o rl
    refine hk a l1 ρ1 H1 b rfl s o rl ?_
    have h' : Post K E ρ H rel2 (k a l1) Q := h
    cases e : k a l1 with
    | bad => rw [e] at h'; exact h'
    | ok a2 l2 => rw [e] at h'; exact fun ρ' H' b' s' o' r' => h' ρ' H' b' (s.trans s') o' r'
    | exc C fs l2 => rw [e] at h'; exact fun ρ' H' dd vs s' o' e1 e2 e3 => h' ρ' H' dd vs (s.trans s') o' e1 e2 e3
abbrev rD (K : PySem.W.Frag) : List Addr → Hp → D → V → Prop := fun ρ H d v => Rw K ρ H d v
abbrev rDs (K : PySem.W.Frag) : List Addr → Hp → List D → List V → Prop := fun ρ H d v => Rws K ρ H d v
abbrev rB {α : Type} : List Addr → Hp → α → α → Prop := fun _ _ d v => d = v
end

/-! ### judgements -/
abbrev DE := Sl → Sto → Res D
abbrev DEs := Sl → Sto → Res (List D)
abbrev DB := Sl → Sto → Res Bool
abbrev DO := Sl → Sto → Res (Option Int)
section
variable (K : PySem.W.Frag) (E : XK)
def teOf (f : DE) : TE := fun σ H Q => ∃ ρ l g, Own K ρ l H ∧ Slt K ρ H σ g ∧ Post K E ρ H (rD K) (f g l) Q
def taOf (f : DEs) : TA := fun σ H Q => ∃ ρ l g, Own K ρ l H ∧ Slt K ρ H σ g ∧ Post K E ρ H (rDs K) (f g l) Q
def ttOf (f : DB) : TT := fun σ H Q => ∃ ρ l g, Own K ρ l H ∧ Slt K ρ H σ g ∧ Post K E ρ H rB (f g l) Q
def toOf (f : DO) : TO := fun σ H Q => ∃ ρ l g, Own K ρ l H ∧ Slt K ρ H σ g ∧ Post K E ρ H rB (f g l) Q
end
structure AE (X : Cx) (E : XK) (e : Expr) (f : DE) : Prop where
  pe : PE X e (teOf X.K E f)
structure AA (X : Cx) (E : XK) (es : List Expr) (f : DEs) : Prop where
  pa : PA X es (taOf X.K E f)
structure AT (X : Cx) (E : XK) (e : Expr) (f : DB) : Prop where
  pt : PT X e (ttOf X.K E f)
theorem PE.imp {X : Cx} {e : Expr} {t u : TE} (h : PE X e t) (q : ∀ σ H Q, u σ H Q → t σ H Q) : PE X e u := ⟨fun pins s σ H Q I k => h.run pins s σ H Q I (q σ H Q k)⟩
theorem PA.imp {X : Cx} {e : List Expr} {t u : TA} (h : PA X e t) (q : ∀ σ H Q, u σ H Q → t σ H Q) : PA X e u := ⟨fun pos pins s σ H Q I k => h.run pos pins s σ H Q I (q σ H Q k)⟩
theorem PT.imp {X : Cx} {e : Expr} {t u : TT} (h : PT X e t) (q : ∀ σ H Q, u σ H Q → t σ H Q) : PT X e u := ⟨fun pins s σ H Q I k => h.run pins s σ H Q I (q σ H Q k)⟩

section
variable {X : Cx} {E : XK} {a b c e : Expr} {es : List Expr} {fa fb fc f : DE} {fs : DEs} {pos : Pos}
theorem Post.here {α β : Type} {K : PySem.W.Frag} {ρ : List Addr} {l : Sto} {H : Hp} {rel : List Addr → Hp → α → β → Prop} {x : α} {y : β} {Q : β → Hp → Prop} (h : Post K E ρ H rel (.ok x l) Q) (o : Own K ρ l H) (r : rel ρ H x y) : Q y H := h ρ H y Step.refl o r

/-- a name -/
def dV (i : Nat) : DE := fun g l => match g[i]? with
  | some (some d) => .ok d l
  | _ => .bad
theorem ae_var {i : Nat} (h : PE X e (tVar i)) : AE X E e (dV i) := ⟨PE.imp h fun σ H Q ⟨ρ, l, g, o, s, p⟩ => by
  unfold dV at p
  cases hg : g[i]? with
  | none => rw [hg] at p; exact p.elim
  | some q =>
    cases q with
    | none => rw [hg] at p; exact p.elim
    | some d =>
      rw [hg] at p
      obtain ⟨v, hv, r⟩ := s.at_ i d hg
      exact ⟨v, hv, p.here o r⟩⟩
/-- constants -/
def dC (d : D) : DE := fun _ l => .ok d l
def isC : D → V → Prop
  | .non, v => v = .non
  | .bl b, v => v = .bl b
  | .int b, v => v = .int b
  | .str b, v => v = .str b
  | .ty b, v => v = .ty b
  | _, _ => False
theorem ae_c {d : D} {v : V} (hd : isC d v) (h : PE X e (tC v)) : AE X E e (dC d) := ⟨PE.imp h fun σ H Q ⟨ρ, l, g, o, s, p⟩ => by
  refine Post.here p o ?_
  cases d <;> simp_all [isC, Rw]⟩
theorem ae_int {i : Int} {j p} : AE X E (.Constant (.int i) j p) (dC (.int i)) := ae_c (v := .int i) rfl pe_int
theorem ae_bl {i : Bool} {j p} : AE X E (.Constant (.bool i) j p) (dC (.bl i)) := ae_c (v := .bl i) rfl pe_bl
theorem ae_str {i : Str} {j p} : AE X E (.Constant (.str i) j p) (dC (.str i)) := ae_c (v := .str i) rfl pe_str
theorem ae_non {j p} : AE X E (.Constant .none j p) (dC .non) := ae_c (v := .non) rfl pe_non

/-- argument lists -/
def dNil : DEs := fun _ l => .ok [] l
def dCons (f : DE) (fs : DEs) : DEs := fun g l => (f g l).bind fun d l1 => (fs g l1).bind fun ds l2 => .ok (d :: ds) l2
theorem aa_nil : AA X E [] dNil := ⟨PA.imp pa_nil fun σ H Q ⟨ρ, l, g, o, s, p⟩ => Post.here p o Rws.nil⟩
theorem aa_cons (ha : AE X E e f) (hr : AA X E es fs) (hs : starEach (e :: es) X.env = (false, eval e X.env) :: starEach es X.env := by rfl) : AA X E (e :: es) (dCons f fs) :=
  ⟨PA.imp (pa_cons ha.pe hr.pa hs) fun σ H Q ⟨ρ, l, g, o, s, p⟩ => by
    refine ⟨ρ, l, g, o, s, Post.bind p fun x l1 ρ1 H1 v e1 s1 o1 r1 p1 => ?_⟩
    refine ⟨ρ1, l1, g, o1, s.step s1 o, Post.bind p1 fun ds l2 ρ2 H2 vs e2 s2 o2 r2 p2 => ?_⟩
    exact Post.here p2 o2 (Rws.cons (s2.rw o1 r1) r2)⟩

/-- two operands -/
def dOp (h : D → D → Sto → Res D) (fa fb : DE) : DE := fun g l => (fa g l).bind fun x l1 => (fb g l1).bind fun y l2 => h x y l2
def OpS (K : PySem.W.Frag) (E : XK) (r : R2) (h : D → D → Sto → Res D) : Prop := ∀ ρ l H dx dy x y Q, Own K ρ l H → Rw K ρ H dx x → Rw K ρ H dy y → Post K E ρ H (rD K) (h dx dy l) Q → r x y H Q
theorem ae_op2 {r : R2} {h : D → D → Sto → Res D} (hp : PE X e (tOp r (teOf X.K E fa) (teOf X.K E fb))) (hs : OpS X.K E r h) : AE X E e (dOp h fa fb) :=
  ⟨PE.imp hp fun σ H Q ⟨ρ, l, g, o, s, p⟩ => by
    refine ⟨ρ, l, g, o, s, Post.bind p fun x l1 ρ1 H1 v e1 s1 o1 r1 p1 => ?_⟩
    refine ⟨ρ1, l1, g, o1, s.step s1 o, Post.bind p1 fun y l2 ρ2 H2 u e2 s2 o2 r2 p2 => ?_⟩
    exact hs ρ2 l2 H2 x y v u Q o2 (s2.rw o1 r1) r2 p2⟩
end
end Zb

set_option Elab.async false
set_option linter.all false
set_option maxRecDepth 100000
namespace Zb
open PySem L2
section
variable {K : PySem.W.Frag} {E : XK} {ρ : List Addr} {l : Sto} {H : Hp} {p : Addr}
/-! ### new objects -/
theorem px_app {t : List Addr} : ∀ (n : Nat) (a : Addr), ρ[n]? = some a → (ρ ++ t)[n]? = some a := fun n a e => by
  rw [List.getElem?_append_left (List.getElem?_eq_some_iff.mp e).1]; exact e
theorem Own.nop (o : Own K ρ l H) (hp : H p = none) : p ∉ ρ := fun q => by
  obtain ⟨xs, e, _⟩ := o.some_ q
  rw [hp] at e; cases e
theorem Ow.mono {ρ' : List Addr} {H' : Hp} {o : OB} {a : Addr} (m : Mn K ρ H ρ' H') (k : ∀ u, H a = some u → H' a = some u) (h : Ow K ρ H o a) : Ow K ρ' H' o a := by
  cases o with
  | lst ds => obtain ⟨vs, e, r⟩ := h; exact ⟨vs, k _ e, Rws.mono m _ _ r⟩
  | dct ds => obtain ⟨vs, e, q, r⟩ := h; exact ⟨vs, k _ e, q, Rws.mono m _ _ r⟩
theorem step_upd {u : HO} (hp : H p = none) : Step ρ H ρ (upd H p u) := ⟨⟨[], by simp⟩, fun a v e _ => by rw [upd_ne (ne_of_none e hp)]; exact e, fun a h n => absurd h n⟩
theorem Own.newT {xs : List V} (o : Own K ρ l H) (hp : H p = none) : Own K ρ l (upd H p (.tup xs)) ∧ Step ρ H ρ (upd H p (.tup xs)) := by
  have st : Step ρ H ρ (upd H p (.tup xs)) := step_upd hp
  exact ⟨⟨o.nd, o.len, fun n ob a e1 e2 => Ow.mono (st.mn o) (fun u e => by rw [upd_ne (ne_of_none e hp)]; exact e) (o.at_ n ob a e1 e2)⟩, st⟩
theorem step_app {u : HO} (hp : H p = none) : Step ρ H (ρ ++ [p]) (upd H p u) := ⟨⟨[p], rfl⟩, fun a v e _ => by rw [upd_ne (ne_of_none e hp)]; exact e, fun a h n => by
  rcases List.mem_append.mp h with h | h
  · exact absurd h n
  · simp at h; subst h; exact hp⟩
theorem Own.newO {u : HO} {ob : OB} (o : Own K ρ l H) (hp : H p = none) (w : Mn K ρ H (ρ ++ [p]) (upd H p u) → Ow K (ρ ++ [p]) (upd H p u) ob p) : Own K (ρ ++ [p]) (l ++ [ob]) (upd H p u) ∧ Step ρ H (ρ ++ [p]) (upd H p u) := by
  have st : Step ρ H (ρ ++ [p]) (upd H p u) := step_app hp
  refine ⟨⟨?_, by simp [o.len], fun n ob' a e1 e2 => ?_⟩, st⟩
  · rw [List.nodup_append]
    refine ⟨o.nd, by simp, fun a ha b hb => ?_⟩
    simp at hb; subst hb
    exact fun q => o.nop hp (q ▸ ha)
  · by_cases hn : n < l.length
    · rw [List.getElem?_append_left hn] at e1
      rw [List.getElem?_append_left (by rw [o.len]; exact hn)] at e2
      exact Ow.mono (st.mn o) (fun v e => by rw [upd_ne (ne_of_none e hp)]; exact e) (o.at_ n ob' a e1 e2)
    · have h1 := (List.getElem?_eq_some_iff.mp e1).1
      have hn' : n = l.length := by simp at h1; omega
      subst hn'
      have e3 : (ρ ++ [p])[l.length]? = some p := by rw [← o.len]; simp
      rw [e3] at e2; cases e2
      have e4 : (l ++ [ob])[l.length]? = some ob := by simp
      rw [e4] at e1; cases e1
      exact w (st.mn o)
theorem Own.newL {xs : List V} {ds : List D} (o : Own K ρ l H) (hp : H p = none) (r : Rws K ρ H ds xs) : Own K (ρ ++ [p]) (l ++ [.lst ds]) (upd H p (.lst xs)) ∧ Step ρ H (ρ ++ [p]) (upd H p (.lst xs)) :=
  o.newO hp fun m => ⟨xs, upd_same, Rws.mono m _ _ r⟩
/-- an object of the store is written -/
theorem Own.setO {n : Nat} {a : Addr} {u : HO} {ob : OB} {old : OB} (o : Own K ρ l H) (hn : ρ[n]? = some a) (ho : l[n]? = some old) (w : Mn K ρ H ρ (upd H a u) → Ow K ρ (upd H a u) ob a) :
    Own K ρ (l.set n ob) (upd H a u) ∧ Step ρ H ρ (upd H a u) := by
  have ha : a ∈ ρ := List.mem_of_getElem? hn
  have st : Step ρ H ρ (upd H a u) := ⟨⟨[], by simp⟩, fun b v e nb => by rw [upd_ne (fun q => nb (by rw [q]; exact ha))]; exact e, fun b h nb => absurd h nb⟩
  refine ⟨⟨o.nd, by simp [o.len], fun m ob' b e1 e2 => ?_⟩, st⟩
  by_cases q : n = m
  · subst q
    rw [hn] at e2; cases e2
    rw [List.getElem?_set_self (List.getElem?_eq_some_iff.mp ho).1] at e1
    cases e1
    exact w (st.mn o)
  · rw [List.getElem?_set_ne q] at e1
    have nb : b ≠ a := fun z => by
      subst z
      obtain ⟨h1, g1⟩ := List.getElem?_eq_some_iff.mp hn
      obtain ⟨h2, g2⟩ := List.getElem?_eq_some_iff.mp e2
      exact q ((List.getElem_inj o.nd).mp (g1.trans g2.symm))
    exact Ow.mono (st.mn o) (fun v e => by rw [upd_ne nb]; exact e) (o.at_ m ob' b e1 e2)
theorem Own.set {n : Nat} {a : Addr} {xs : List V} {ds : List D} {old : OB} (o : Own K ρ l H) (hn : ρ[n]? = some a) (ho : l[n]? = some old) (r : Rws K ρ H ds xs) :
    Own K ρ (l.set n (.lst ds)) (upd H a (.lst xs)) ∧ Step ρ H ρ (upd H a (.lst xs)) := o.setO hn ho fun m => ⟨xs, upd_same, Rws.mono m _ _ r⟩
theorem Own.lst {n : Nat} {ds : List D} {v : V} (o : Own K ρ l H) (r : Rw K ρ H (.adr n) v) (h : l[n]? = some (.lst ds)) : ∃ a vs, v = .ref a ∧ ρ[n]? = some a ∧ H a = some (.lst vs) ∧ Rws K ρ H ds vs := by
  simp only [Rw] at r
  obtain ⟨a, e, rfl⟩ := r
  obtain ⟨vs, h1, h2⟩ := o.at_ n _ a h e
  exact ⟨a, vs, rfl, e, h1, h2⟩
theorem Rw.tup_ {ds : List D} {v : V} (r : Rw K ρ H (.tup ds) v) : ∃ a vs, v = .ref a ∧ SqT K H a vs ∧ Rws K ρ H ds vs := by simpa [Rw] using r
theorem Rw.int_ {i : Int} {v : V} (r : Rw K ρ H (.int i) v) : v = .int i := by simpa [Rw] using r
theorem Rw.bl_ {i : Bool} {v : V} (r : Rw K ρ H (.bl i) v) : v = .bl i := by simpa [Rw] using r
theorem Rw.str_ {i : Str} {v : V} (r : Rw K ρ H (.str i) v) : v = .str i := by simpa [Rw] using r
theorem Rw.non_ {v : V} (r : Rw K ρ H .non v) : v = .non := by simpa [Rw] using r
theorem Rw.ty_ {n : String} {v : V} (r : Rw K ρ H (.ty n) v) : v = .ty n := by simpa [Rw] using r
theorem rw_int {i : Int} : Rw K ρ H (.int i) (.int i) := by simp [Rw]
theorem rw_bl {i : Bool} : Rw K ρ H (.bl i) (.bl i) := by simp [Rw]
theorem rw_str {i : Str} : Rw K ρ H (.str i) (.str i) := by simp [Rw]
theorem rw_non : Rw K ρ H .non .non := by simp [Rw]
theorem rw_tup {a : Addr} {vs : List V} {ds : List D} (h : SqT K H a vs) (r : Rws K ρ H ds vs) : Rw K ρ H (.tup ds) (.ref a) := by simp only [Rw]; exact ⟨a, vs, rfl, h, r⟩
theorem rw_adr {a : Addr} {n : Nat} (h : ρ[n]? = some a) : Rw K ρ H (.adr n) (.ref a) := by simp only [Rw]; exact ⟨a, h, rfl⟩

/-! ### a tuple, a list made: what is reached -/
theorem Post.mkT {Q : VK} {ds : List D} {vs : List V} (o : Own K ρ l H) (r : Rws K ρ H ds vs) (h : Post K E ρ H (rD K) (.ok (.tup ds) l) Q) (hp : H p = none) : Q (.ref p) (upd H p (.tup vs)) := by
  obtain ⟨o1, s1⟩ := o.newT (xs := vs) hp
  exact h ρ _ _ s1 o1 (rw_tup (SqT.of upd_same) (s1.rws o r))
theorem Post.mkL {Q : VK} {ds : List D} {vs : List V} (o : Own K ρ l H) (r : Rws K ρ H ds vs) (h : Post K E ρ H (rD K) (.ok (.adr l.length) (l ++ [.lst ds])) Q) (hp : H p = none) : Q (.ref p) (upd H p (.lst vs)) := by
  obtain ⟨o1, s1⟩ := o.newL hp r
  exact h _ _ _ s1 o1 (rw_adr (by rw [← o.len]; simp))
end

def small (n : Nat) : Bool := decide (n ≤ 16777216)
theorem small_le {n : Nat} (h : small n = true) : n ≤ sizeLine := by
  have := of_decide_eq_true h
  rw [sizeLine_eq]; exact this
theorem small_lt {n : Nat} (h : small (n + 1) = true) : n < sizeLine := by
  have := of_decide_eq_true h
  rw [sizeLine_eq]; omega

/-! ### displays -/
def dTup (fs : DEs) : DE := fun g l => (fs g l).bind fun ds l1 => if small ds.length then .ok (.tup ds) l1 else .bad
def dLst (fs : DEs) : DE := fun g l => (fs g l).bind fun ds l1 => if small ds.length then .ok (.adr l1.length) (l1 ++ [.lst ds]) else .bad
section
variable {X : Cx} {E : XK} {a b c e : Expr} {es : List Expr} {fa fb fc f : DE} {fs : DEs} {pos : Pos}
theorem Post.ite {α β : Type} {K : PySem.W.Frag} {ρ : List Addr} {H : Hp} {rel : List Addr → Hp → α → β → Prop} {c : Bool} {r : Res α} {Q : β → Hp → Prop} (h : Post K E ρ H rel (if c then r else .bad) Q) : c = true ∧ Post K E ρ H rel r Q := by
  cases c with
  | true => exact ⟨rfl, by simpa using h⟩
  | false => exact absurd (show Post K E ρ H rel .bad Q by simpa using h) (fun z => z)
theorem ae_tup {x1} (h : AA X E es fs) : AE X E (.Tuple es x1 pos) (dTup fs) := ⟨PE.imp (pe_tup h.pa) fun σ H Q ⟨ρ, l, g, o, s, p⟩ => by
  refine ⟨ρ, l, g, o, s, Post.bind p fun ds l1 ρ1 H1 vs e1 s1 o1 r1 p1 => ?_⟩
  obtain ⟨hc, p1⟩ := p1.ite
  refine ⟨by rw [r1.length]; exact small_le hc, fun q hq => Post.mkT o1 r1 p1 hq⟩⟩
theorem ae_lst (h : AA X E es fs) : AE X E (.List es pos) (dLst fs) := ⟨PE.imp (pe_lst h.pa) fun σ H Q ⟨ρ, l, g, o, s, p⟩ => by
  refine ⟨ρ, l, g, o, s, Post.bind p fun ds l1 ρ1 H1 vs e1 s1 o1 r1 p1 => ?_⟩
  obtain ⟨hc, p1⟩ := p1.ite
  refine ⟨by rw [r1.length]; exact small_le hc, fun q hq => Post.mkL o1 r1 p1 hq⟩⟩

/-! ### arithmetic -/
def mulOk (i j : Int) : Bool := decide (i.natAbs.log2 + j.natAbs.log2 < 1000000)
def divOk (j : Int) : Bool := decide (0 < j) && decide (j.natAbs.log2 < 9000)
def hAdd : D → D → Sto → Res D
  | .int i, .int j, l => .ok (.int (i + j)) l
  | .tup xs, .tup ys, l => if small (xs.length + ys.length) then .ok (.tup (xs ++ ys)) l else .bad
  | .str i, .str j, l => if small (i.length + j.length) then .ok (.str (i ++ j)) l else .bad
  | .adr n, .adr m, l => match l[n]?, l[m]? with
    | some (.lst xs), some (.lst ys) => if small (xs.length + ys.length) then .ok (.adr l.length) (l ++ [.lst (xs ++ ys)]) else .bad
    | _, _ => .bad
  | _, _, _ => .bad
def rAddA (K : PySem.W.Frag) : R2 := fun x y H Q => (rI0 (fun i j => .int (i + j)) x y H Q ∨ rCatA K x y H Q) ∨ ((∃ i j, x = .str i ∧ y = .str j ∧ i.length + j.length ≤ sizeLine ∧ Q (.str (i ++ j)) H) ∨ rCat x y H Q)
theorem op_addA : OpR X (binaryOp .Add) (rAddA X.K) := OpR.or (OpR.or op_add op_catA) (OpR.or op_add_str op_cat)
theorem hs_add : OpS X.K E (rAddA X.K) hAdd := fun ρ l H dx dy x y Q o rx ry p => by
  cases dx with
  | int i =>
    cases dy with
    | int j => rw [rx.int_, ry.int_]; exact .inl (.inl ⟨i, j, rfl, rfl, p.here o rw_int⟩)
    | _ => exact p.elim
  | tup xs =>
    cases dy with
    | tup ys =>
      obtain ⟨hc, p⟩ := Post.ite p
      obtain ⟨a, vs, rfl, t1, r1⟩ := rx.tup_
      obtain ⟨b, us, rfl, t2, r2⟩ := ry.tup_
      refine .inl (.inr ⟨a, b, vs, us, rfl, rfl, t1, t2, by rw [r1.length, r2.length]; exact small_le hc, fun e => ?_, fun e1 e2 => ?_, fun e1 e2 q hq => ?_⟩)
      · have := r1.nil_iff.mp e
        subst this
        exact p.here o ry
      · have := r2.nil_iff.mp e2
        subst this
        rw [List.append_nil] at p
        exact p.here o rx
      · exact Post.mkT o (r1.app r2) p hq
    | _ => exact p.elim
  | str i =>
    cases dy with
    | str j =>
      obtain ⟨hc, p⟩ := Post.ite p
      rw [rx.str_, ry.str_]
      exact .inr (.inl ⟨i, j, rfl, rfl, small_le hc, p.here o rw_str⟩)
    | _ => exact p.elim
  | adr n =>
    cases dy with
    | adr m =>
      simp only [hAdd] at p
      split at p
      · rename_i xs ys e1 e2
        obtain ⟨hc, p⟩ := Post.ite p
        obtain ⟨a, vs, rfl, _, h1, r1⟩ := o.lst rx e1
        obtain ⟨b, us, rfl, _, h2, r2⟩ := o.lst ry e2
        exact .inr (.inr ⟨a, b, vs, us, rfl, rfl, h1, h2, by rw [r1.length, r2.length]; exact small_le hc, fun q hq => Post.mkL o (r1.app r2) p hq⟩)
      · exact p.elim
    | _ => exact p.elim
  | _ => exact p.elim
theorem ae_add (ha : AE X E a fa) (hb : AE X E b fb) : AE X E (.BinOp a .Add b pos) (dOp hAdd fa fb) := ae_op2 (pe_op op_addA ha.pe hb.pe) hs_add
def hInt (c : Int → Int → Bool) (f : Int → Int → Int) : D → D → Sto → Res D
  | .int i, .int j, l => if c i j then .ok (.int (f i j)) l else .bad
  | _, _, _ => .bad
theorem hs_int {C : Int → Int → Prop} {c : Int → Int → Bool} {f : Int → Int → Int} (hc : ∀ i j, c i j = true → C i j) : OpS X.K E (rI C fun i j => .int (f i j)) (hInt c f) := fun ρ l H dx dy x y Q o rx ry p => by
  cases dx with
  | int i =>
    cases dy with
    | int j =>
      obtain ⟨h, p⟩ := Post.ite p
      rw [rx.int_, ry.int_]
      exact ⟨i, j, rfl, rfl, hc i j h, p.here o rw_int⟩
    | _ => exact p.elim
  | _ => exact p.elim
def yes2 (_ _ : Int) : Bool := true
theorem rI_of {g : Int → Int → V} {f : Value → Value → Sem Value} (h : OpR X f (rI0 g)) : OpR X f (rI (fun _ _ => True) g) := fun pins s σ H x y v u Q I rx ry ⟨i, j, e1, e2, _, q⟩ => h pins s σ H x y v u Q I rx ry ⟨i, j, e1, e2, q⟩
theorem ae_sub (ha : AE X E a fa) (hb : AE X E b fb) : AE X E (.BinOp a .Sub b pos) (dOp (hInt yes2 fun i j => i - j) fa fb) := ae_op2 (pe_op (rI_of op_sub) ha.pe hb.pe) (hs_int fun _ _ _ => trivial)
theorem ae_mod (ha : AE X E a fa) (hb : AE X E b fb) : AE X E (.BinOp a .Mod b pos) (dOp (hInt (fun _ j => decide (j ≠ 0)) Int.fmod) fa fb) := ae_op2 (pe_op op_modN ha.pe hb.pe) (hs_int fun _ _ h => of_decide_eq_true h)
theorem ae_div (ha : AE X E a fa) (hb : AE X E b fb) : AE X E (.BinOp a .FloorDiv b pos) (dOp (hInt (fun _ j => divOk j) fun i j => i / j) fa fb) := ae_op2 (pe_op op_fdivW ha.pe hb.pe) (hs_int fun _ j h => by
  unfold divOk at h
  rw [Bool.and_eq_true] at h
  exact ⟨of_decide_eq_true h.1, of_decide_eq_true h.2⟩)
def powOk (i j : Int) : Bool := decide (0 ≤ j) && decide (j ≤ 1000000) && decide (i.natAbs < 2 ^ 64)
theorem ae_pow (ha : AE X E a fa) (hb : AE X E b fb) : AE X E (.BinOp a .Pow b pos) (dOp (hInt powOk fun i j => i ^ j.toNat) fa fb) := ae_op2 (pe_op op_pow ha.pe hb.pe) (hs_int fun i j h => by
  unfold powOk at h
  rw [Bool.and_eq_true, Bool.and_eq_true] at h
  exact ⟨of_decide_eq_true h.1.1, of_decide_eq_true h.1.2, of_decide_eq_true h.2⟩)
theorem ae_shl (ha : AE X E a fa) (hb : AE X E b fb) : AE X E (.BinOp a .LShift b pos) (dOp (hInt powOk fun i j => i * 2 ^ j.toNat) fa fb) := ae_op2 (pe_op op_shl ha.pe hb.pe) (hs_int fun i j h => by
  unfold powOk at h
  rw [Bool.and_eq_true, Bool.and_eq_true] at h
  exact ⟨of_decide_eq_true h.1.1, of_decide_eq_true h.1.2, of_decide_eq_true h.2⟩)
theorem ae_shr (ha : AE X E a fa) (hb : AE X E b fb) : AE X E (.BinOp a .RShift b pos) (dOp (hInt (fun _ j => decide (0 ≤ j)) fun i j => i / 2 ^ j.toNat) fa fb) := ae_op2 (pe_op op_shr ha.pe hb.pe) (hs_int fun i j h => of_decide_eq_true h)
theorem ae_band (ha : AE X E a fa) (hb : AE X E b fb) : AE X E (.BinOp a .BitAnd b pos) (dOp (hInt yes2 Builtin.bitAnd) fa fb) := ae_op2 (pe_op (rI_of op_and) ha.pe hb.pe) (hs_int fun _ _ _ => trivial)

/-- an int that is no great one -/
def mid (i : Int) : Bool := decide (i.natAbs ≤ 1000000000000)
theorem mid_ {i : Int} (h : mid i = true) : -(2 ^ 62) < i ∧ i < 2 ^ 62 := by
  have h := of_decide_eq_true h
  omega
/-- a * b: ints, a list times an int -/
def hMul : D → D → Sto → Res D
  | .int i, .int j, l => if mulOk i j then .ok (.int (i * j)) l else .bad
  | .adr n, .int k, l => match l[n]? with
    | some (.lst xs) => if small (xs.length * k.toNat) && mid k then .ok (.adr l.length) (l ++ [.lst (List.replicate k.toNat xs).flatten]) else .bad
    | _ => .bad
  | _, _, _ => .bad
def rMulA : R2 := fun x y H Q => rI CMulW (fun i j => .int (i * j)) x y H Q ∨ rRep x y H Q
theorem op_mulA : OpR X (binaryOp .Mult) rMulA := OpR.or op_mulW op_rep
theorem hs_mul : OpS X.K E rMulA hMul := fun ρ l H dx dy x y Q o rx ry p => by
  cases dx with
  | int i =>
    cases dy with
    | int j =>
      obtain ⟨h, p⟩ := Post.ite p
      rw [rx.int_, ry.int_]
      exact .inl ⟨i, j, rfl, rfl, (by unfold CMulW; exact of_decide_eq_true h), p.here o rw_int⟩
    | _ => exact p.elim
  | adr n =>
    cases dy with
    | int k =>
      simp only [hMul] at p
      split at p
      · rename_i xs e1
        obtain ⟨hc, p⟩ := Post.ite p
        rw [Bool.and_eq_true] at hc
        obtain ⟨a, vs, rfl, _, h1, r1⟩ := o.lst rx e1
        rw [ry.int_]
        have b1 := (mid_ hc.2).2
        have b2 := (mid_ hc.2).1
        exact .inr ⟨a, k, vs, rfl, rfl, h1, by omega, by omega, by rw [r1.length]; exact small_le hc.1, fun q hq => Post.mkL o (r1.rep _) p hq⟩
      · exact p.elim
    | _ => exact p.elim
  | _ => exact p.elim
theorem ae_mul (ha : AE X E a fa) (hb : AE X E b fb) : AE X E (.BinOp a .Mult b pos) (dOp hMul fa fb) := ae_op2 (pe_op op_mulA ha.pe hb.pe) hs_mul

/-! ### one operand -/
def dUn (h : D → Sto → Res D) (fa : DE) : DE := fun g l => (fa g l).bind fun x l1 => h x l1
def hNeg : D → Sto → Res D
  | .int i, l => .ok (.int (-i)) l
  | _, _ => .bad
theorem ae_neg (ha : AE X E a fa) : AE X E (.UnaryOp .USub a pos) (dUn hNeg fa) := ⟨PE.imp (pe_un un_neg ha.pe) fun σ H Q ⟨ρ, l, g, o, s, p⟩ => by
  refine ⟨ρ, l, g, o, s, Post.bind p fun x l1 ρ1 H1 v e1 s1 o1 r1 p1 => ?_⟩
  cases x with
  | int i => rw [r1.int_]; exact ⟨i, rfl, p1.here o1 rw_int⟩
  | _ => exact p1.elim⟩
end
end Zb

set_option Elab.async false
set_option linter.all false
set_option maxRecDepth 100000
namespace Zb
open PySem L2
/-! ### data as data -/
mutual
def py : D → PyData
  | .non => .none | .bl b => .bool b | .int i => .int i | .str s => .str s | .ty _ => .none | .adr _ => .none | .ro _ => .none
  | .tup ds => .tuple (pys ds)
def pys : List D → List PyData
  | [] => []
  | d :: ds => py d :: pys ds
end
mutual
def pu : D → Bool
  | .ty _ => false | .adr _ => false | .ro _ => false | .tup ds => pus ds | _ => true
def pus : List D → Bool
  | [] => true
  | d :: ds => pu d && pus ds
end
def sh (d : D) : Bool := pu d && SeqAt.shaped (py d)
mutual
theorem dp_of {K : PySem.W.Frag} {ρ : List Addr} {H : Hp} : ∀ (d : D) (v : V), pu d = true → Rw K ρ H d v → Dp K H v (py d)
  | .non, v, _, r => by rw [r.non_]; exact .non
  | .bl b, v, _, r => by rw [r.bl_]; exact .bl b
  | .int b, v, _, r => by rw [r.int_]; exact .int b
  | .str b, v, _, r => by rw [r.str_]; exact .str b
  | .ty _, _, h, _ => by simp [pu] at h
  | .adr _, _, h, _ => by simp [pu] at h
  | .ro _, _, h, _ => by simp [pu] at h
  | .tup ds, v, h, r => by
    obtain ⟨a, vs, rfl, t, q⟩ := r.tup_
    exact .tup t (dps_of ds vs (by simpa [pu] using h) q)
theorem dps_of {K : PySem.W.Frag} {ρ : List Addr} {H : Hp} : ∀ (ds : List D) (vs : List V), pus ds = true → Rws K ρ H ds vs → DpAll K H vs (pys ds)
  | [], vs, _, r => by simp only [Rws] at r; subst r; exact .nil
  | d :: ds, vs, h, r => by
    simp only [Rws] at r
    obtain ⟨v, u, rfl, r1, r2⟩ := r
    simp only [pus, Bool.and_eq_true] at h
    exact .cons (dp_of d v h.1 r1) (dps_of ds u h.2 r2)
end
def fv : D → V
  | .non => .non | .bl b => .bl b | .int i => .int i | .str s => .str s | .ty n => .ty n | _ => .ref 0
def flatD : D → Bool
  | .non => true | .bl _ => true | .int _ => true | .str _ => true | _ => false
section
variable {K : PySem.W.Frag} {ρ : List Addr} {H : Hp}
theorem fv_of {d : D} {v : V} (h : flatD d = true) (r : Rw K ρ H d v) : v = fv d ∧ flatV v = true := by
  cases d with
  | non => rw [r.non_]; exact ⟨rfl, rfl⟩
  | bl b => rw [r.bl_]; exact ⟨rfl, rfl⟩
  | int b => rw [r.int_]; exact ⟨rfl, rfl⟩
  | str b => rw [r.str_]; exact ⟨rfl, rfl⟩
  | _ => cases h
theorem fvs_of : ∀ {ds : List D} {vs : List V}, ds.all flatD = true → Rws K ρ H ds vs → vs = ds.map fv ∧ vs.all flatV = true
  | [], vs, _, r => by simp only [Rws] at r; subst r; exact ⟨rfl, rfl⟩
  | d :: ds, vs, h, r => by
    simp only [Rws] at r
    obtain ⟨v, u, rfl, r1, r2⟩ := r
    rw [List.all_cons, Bool.and_eq_true] at h
    obtain ⟨e1, e2⟩ := fv_of h.1 r1
    obtain ⟨e3, e4⟩ := fvs_of h.2 r2
    exact ⟨by rw [e1, e3]; rfl, by rw [List.all_cons, e2, e4]; rfl⟩
end
def hEq : D → D → Sto → Res D
  | .int i, .int j, l => .ok (.bl (decide (i = j))) l
  | .str i, .str j, l => .ok (.bl (decide (i = j))) l
  | .bl i, .bl j, l => .ok (.bl (decide (i = j))) l
  | dx, dy, l => if sh dx && sh dy then .ok (.bl (PyData.eqv (py dx) (py dy))) l else .bad
def hNe : D → D → Sto → Res D
  | .int i, .int j, l => .ok (.bl (!decide (i = j))) l
  | .str i, .str j, l => .ok (.bl (!decide (i = j))) l
  | .bl i, .bl j, l => .ok (.bl (!decide (i = j))) l
  | dx, dy, l => if sh dx && sh dy then .ok (.bl (!PyData.eqv (py dx) (py dy))) l else .bad
section
variable {X : Cx} {E : XK} {a b c e : Expr} {es : List Expr} {fa fb fc f : DE} {fs : DEs} {ba bb : DB} {pos : Pos} {rest : List Expr}
def rEqA (K : PySem.W.Frag) : R2 := fun x y H Q => rEq x y H Q ∨ rEqD K x y H Q
def rNeA (K : PySem.W.Frag) : R2 := fun x y H Q => rNe x y H Q ∨ rNeD K x y H Q
theorem deep_of {K : PySem.W.Frag} {ρ : List Addr} {H : Hp} {dx dy : D} {x y : V} (hc : (sh dx && sh dy) = true) (rx : Rw K ρ H dx x) (ry : Rw K ρ H dy y) :
    Dp K H x (py dx) ∧ Dp K H y (py dy) ∧ SeqAt.shaped (py dx) = true ∧ SeqAt.shaped (py dy) = true := by
  simp only [sh, Bool.and_eq_true] at hc
  exact ⟨dp_of dx x hc.1.1 rx, dp_of dy y hc.2.1 ry, hc.1.2, hc.2.2⟩
theorem dc_int {i j : Int} : decide (V.int i = V.int j) = decide (i = j) := by simp
theorem dc_str {i j : Str} : decide (V.str i = V.str j) = decide (i = j) := by simp
theorem dc_bl {i j : Bool} : decide (V.bl i = V.bl j) = decide (i = j) := by simp
theorem hs_eq : OpS X.K E (rEqA X.K) hEq := fun ρ l H dx dy x y Q o rx ry p => by
  unfold hEq at p
  split at p
  · rw [rx.int_, ry.int_]
    refine .inl ⟨rfl, ?_⟩
    rw [dc_int]
    exact p.here o rw_bl
  · rw [rx.str_, ry.str_]
    refine .inl ⟨rfl, ?_⟩
    rw [dc_str]
    exact p.here o rw_bl
  · rw [rx.bl_, ry.bl_]
    refine .inl ⟨rfl, ?_⟩
    rw [dc_bl]
    exact p.here o rw_bl
  · obtain ⟨hc, p⟩ := Post.ite p
    obtain ⟨h1, h2, h3, h4⟩ := deep_of hc rx ry
    exact .inr ⟨_, _, h1, h2, h3, h4, p.here o rw_bl⟩
theorem hs_ne : OpS X.K E (rNeA X.K) hNe := fun ρ l H dx dy x y Q o rx ry p => by
  unfold hNe at p
  split at p
  · rw [rx.int_, ry.int_]
    refine .inl ⟨rfl, ?_⟩
    rw [dc_int]
    exact p.here o rw_bl
  · rw [rx.str_, ry.str_]
    refine .inl ⟨rfl, ?_⟩
    rw [dc_str]
    exact p.here o rw_bl
  · rw [rx.bl_, ry.bl_]
    refine .inl ⟨rfl, ?_⟩
    rw [dc_bl]
    exact p.here o rw_bl
  · obtain ⟨hc, p⟩ := Post.ite p
    obtain ⟨h1, h2, h3, h4⟩ := deep_of hc rx ry
    exact .inr ⟨_, _, h1, h2, h3, h4, p.here o rw_bl⟩
theorem ae_eq (hu : X.A.units + 64 < cLine) (ha : AE X E a fa) (hb : AE X E b fb) : AE X E (.Compare a [.Eq] [b] pos) (dOp hEq fa fb) := ae_op2 (pe_cmpR (OpR.or op_eq (op_eqD hu)) ha.pe hb.pe (nomark _)) hs_eq
theorem ae_ne (hu : X.A.units + 64 < cLine) (ha : AE X E a fa) (hb : AE X E b fb) : AE X E (.Compare a [.NotEq] [b] pos) (dOp hNe fa fb) := ae_op2 (pe_cmpR (OpR.or op_ne (op_neD hu)) ha.pe hb.pe (nomark _)) hs_ne
def hCmp (f : Int → Int → Bool) : D → D → Sto → Res D
  | .int i, .int j, l => .ok (.bl (f i j)) l
  | _, _, _ => .bad
theorem hs_cmp {f : Int → Int → Bool} : OpS X.K E (rI0 fun i j => .bl (f i j)) (hCmp f) := fun ρ l H dx dy x y Q o rx ry p => by
  unfold hCmp at p
  split at p
  · rw [rx.int_, ry.int_]
    exact ⟨_, _, rfl, rfl, p.here o rw_bl⟩
  · exact p.elim
theorem ae_lt (ha : AE X E a fa) (hb : AE X E b fb) : AE X E (.Compare a [.Lt] [b] pos) (dOp (hCmp fun i j => decide (i < j)) fa fb) := ae_op2 (pe_cmpR op_lt ha.pe hb.pe (nomark _)) hs_cmp
theorem ae_le (ha : AE X E a fa) (hb : AE X E b fb) : AE X E (.Compare a [.LtE] [b] pos) (dOp (hCmp fun i j => decide (i ≤ j)) fa fb) := ae_op2 (pe_cmpR op_le ha.pe hb.pe (nomark _)) hs_cmp
theorem ae_gt (ha : AE X E a fa) (hb : AE X E b fb) : AE X E (.Compare a [.Gt] [b] pos) (dOp (hCmp fun i j => decide (j < i)) fa fb) := ae_op2 (pe_cmpR op_gt ha.pe hb.pe (nomark _)) hs_cmp
theorem ae_ge (ha : AE X E a fa) (hb : AE X E b fb) : AE X E (.Compare a [.GtE] [b] pos) (dOp (hCmp fun i j => decide (j ≤ i)) fa fb) := ae_op2 (pe_cmpR op_ge ha.pe hb.pe (nomark _)) hs_cmp
/-- is None -/
def isN : D → Bool
  | .non => true | _ => false
def hIsN : D → D → Sto → Res D
  | x, .non, l => .ok (.bl (isN x)) l
  | _, _, _ => .bad
def hNotN : D → D → Sto → Res D
  | x, .non, l => .ok (.bl (!isN x)) l
  | _, _, _ => .bad
theorem isN_of {K : PySem.W.Frag} {ρ : List Addr} {H : Hp} {d : D} {v : V} (r : Rw K ρ H d v) : decide (v = .non) = isN d := by
  cases d with
  | non => rw [r.non_]; rfl
  | bl b => rw [r.bl_]; rfl
  | int b => rw [r.int_]; rfl
  | str b => rw [r.str_]; rfl
  | ty b => rw [r.ty_]; rfl
  | adr n => simp only [Rw] at r; obtain ⟨a, _, rfl⟩ := r; rfl
  | ro n => simp only [Rw] at r; obtain ⟨a, rfl, _⟩ := r; rfl
  | tup ds => obtain ⟨a, _, rfl, _⟩ := r.tup_; rfl
theorem ae_isN (ha : AE X E a fa) (hb : AE X E b fb) : AE X E (.Compare a [.Is] [b] pos) (dOp hIsN fa fb) := ae_op2 (pe_cmpR op_isN ha.pe hb.pe (nomark _)) fun ρ l H dx dy x y Q o rx ry p => by
  unfold hIsN at p
  split at p
  · rw [ry.non_]
    exact ⟨rfl, by rw [isN_of rx]; exact p.here o rw_bl⟩
  · exact p.elim
theorem ae_notN (ha : AE X E a fa) (hb : AE X E b fb) : AE X E (.Compare a [.IsNot] [b] pos) (dOp hNotN fa fb) := ae_op2 (pe_cmpR op_notN ha.pe hb.pe (nomark _)) fun ρ l H dx dy x y Q o rx ry p => by
  unfold hNotN at p
  split at p
  · rw [ry.non_]
    exact ⟨rfl, by rw [isN_of rx]; exact p.here o rw_bl⟩
  · exact p.elim
/-- in, not in: of flat things in a list, a tuple -/
def itemsOf (y : D) (l : Sto) : Option (List D) := match y with
  | .tup ds => some ds
  | .adr n => match l[n]? with
    | some (.lst ds) => some ds
    | _ => none
  | _ => none
def hIn (neg : Bool) (x y : D) (l : Sto) : Res D := match itemsOf y l with
  | some ds => if flatD x && ds.all flatD then .ok (.bl (if neg then !inV (fv x) (ds.map fv) else inV (fv x) (ds.map fv))) l else .bad
  | none => .bad
theorem items_of {K : PySem.W.Frag} {ρ : List Addr} {H : Hp} {l : Sto} {d : D} {v : V} {ds : List D} (o : Own K ρ l H) (r : Rw K ρ H d v) (h : itemsOf d l = some ds) :
    ∃ p vs, v = .ref p ∧ (SqL K H p vs ∨ SqT K H p vs) ∧ Rws K ρ H ds vs := by
  cases d with
  | tup es =>
    have e : es = ds := Option.some.inj h
    subst e
    obtain ⟨a, vs, rfl, t, q⟩ := r.tup_
    exact ⟨a, vs, rfl, .inr t, q⟩
  | adr n =>
    unfold itemsOf at h
    simp only at h
    split at h
    · rename_i es e1
      cases h
      obtain ⟨a, vs, rfl, _, h1, r1⟩ := o.lst r e1
      exact ⟨a, vs, rfl, .inl (SqL.of h1), r1⟩
    · cases h
  | _ => cases h
theorem hs_in {neg : Bool} : OpS X.K E (rIn X.K neg) (hIn neg) := fun ρ l H dx dy x y Q o rx ry p => by
  unfold hIn at p
  split at p
  · rename_i ds e
    obtain ⟨hc, p⟩ := Post.ite p
    rw [Bool.and_eq_true] at hc
    obtain ⟨a, vs, rfl, sq, r⟩ := items_of o ry e
    obtain ⟨e1, e2⟩ := fv_of hc.1 rx
    obtain ⟨e3, e4⟩ := fvs_of hc.2 r
    refine ⟨a, vs, rfl, sq, e2, e4, ?_⟩
    rw [e1, e3]
    exact p.here o rw_bl
  · exact p.elim
theorem ae_in (ha : AE X E a fa) (hb : AE X E b fb) (hm : behindInMarks .In b = false := by rfl) : AE X E (.Compare a [.In] [b] pos) (dOp (hIn false) fa fb) := ae_op2 (pe_cmpR op_in_seq ha.pe hb.pe hm) hs_in
theorem ae_notIn (ha : AE X E a fa) (hb : AE X E b fb) (hm : behindInMarks .NotIn b = false := by rfl) : AE X E (.Compare a [.NotIn] [b] pos) (dOp (hIn true) fa fb) := ae_op2 (pe_cmpR op_notIn_seq ha.pe hb.pe hm) hs_in

/-! ### truth -/
def tru : D → Sto → Option Bool
  | .non, _ => some false
  | .bl b, _ => some b
  | .int i, _ => some (i != 0)
  | .str y, _ => if small y.length then some ((y.length : Int) != 0) else none
  | .tup ds, _ => some (!ds.isEmpty)
  | .adr n, l => match l[n]? with
    | some (.lst ds) => some (!ds.isEmpty)
    | _ => none
  | _, _ => none
theorem emp_of {K : PySem.W.Frag} {ρ : List Addr} {H : Hp} {ds : List D} {vs : List V} (r : Rws K ρ H ds vs) : vs.isEmpty = ds.isEmpty := by
  have := r.length
  cases vs <;> cases ds <;> simp_all
theorem tru_of {K : PySem.W.Frag} {ρ : List Addr} {H : Hp} {l : Sto} {d : D} {v : V} {k : Bool} (o : Own K ρ l H) (r : Rw K ρ H d v) (h : tru d l = some k) : TruV K v H k := by
  cases d with
  | non => rw [r.non_]; exact (Option.some.inj h).symm
  | bl b => rw [r.bl_]; exact (Option.some.inj h).symm
  | int b => rw [r.int_]; exact (Option.some.inj h).symm
  | str b =>
    rw [r.str_]
    simp only [tru] at h
    split at h
    · rename_i hs; exact ⟨small_le hs, (Option.some.inj h).symm⟩
    · cases h
  | ty b => cases h
  | ro b => cases h
  | adr n =>
    simp only [tru] at h
    split at h
    · rename_i es e1
      obtain ⟨a, vs, rfl, _, h1, r1⟩ := o.lst r e1
      exact .inl ⟨vs, SqL.of h1, by rw [emp_of r1]; exact (Option.some.inj h).symm⟩
    · cases h
  | tup ds =>
    obtain ⟨a, vs, rfl, t, q⟩ := r.tup_
    exact .inr (.inl ⟨vs, t, by rw [emp_of q]; exact (Option.some.inj h).symm⟩)
def dTru (f : DE) : DB := fun g l => (f g l).bind fun d l1 => match tru d l1 with
  | some k => .ok k l1
  | none => .bad
theorem at_val (h : AE X E e f) (he : ∀ whole, isTrue e X.env whole = (do let v ← whole; standAt e.pos; holding [v] (truthy v)) := by intro _; rfl) : AT X E e (dTru f) := ⟨PT.imp (pt_truth h.pe he) fun σ H Q ⟨ρ, l, g, o, s, p⟩ => by
  refine ⟨ρ, l, g, o, s, Post.bind p fun x l1 ρ1 H1 v e1 s1 o1 r1 p1 => ?_⟩
  split at p1
  · rename_i k hk
    exact ⟨k, tru_of o1 r1 hk, p1.here o1 rfl⟩
  · exact p1.elim⟩
/-- and, or, not as tests -/
structure AW (X : Cx) (E : XK) (e : Expr) (f : DB) : Prop where
  pw : PW X e (ttOf X.K E f)
theorem PW.imp {X : Cx} {e : Expr} {t u : TT} (h : PW X e t) (q : ∀ σ H Q, u σ H Q → t σ H Q) : PW X e u := ⟨fun wh pins s σ H Q I k => h.run wh pins s σ H Q I (q σ H Q k)⟩
def dAnd (f h : DB) : DB := fun g l => (f g l).bind fun b l1 => if b = true then h g l1 else .ok false l1
def dOr (f h : DB) : DB := fun g l => (f g l).bind fun b l1 => if b = true then .ok true l1 else h g l1
def dNot (f : DB) : DB := fun g l => (f g l).bind fun b l1 => .ok (!b) l1
theorem aw_and1 (h : AT X E a ba) : AW X E (.BoolOp .And [a] pos) ba := ⟨pw_and1 h.pt⟩
theorem aw_or1 (h : AT X E a ba) : AW X E (.BoolOp .Or [a] pos) ba := ⟨pw_or1 h.pt⟩
theorem aw_and (h : AT X E a ba) (k : AW X E (.BoolOp .And (b :: rest) pos) bb) : AW X E (.BoolOp .And (a :: b :: rest) pos) (dAnd ba bb) := ⟨PW.imp (pw_and h.pt k.pw) fun σ H Q ⟨ρ, l, g, o, s, p⟩ => by
  refine ⟨ρ, l, g, o, s, Post.bind p fun x l1 ρ1 H1 v e1 s1 o1 r1 p1 => ?_⟩
  cases r1
  cases x with
  | true => exact ⟨ρ1, l1, g, o1, s.step s1 o, p1⟩
  | false => exact p1.here o1 rfl⟩
theorem aw_or (h : AT X E a ba) (k : AW X E (.BoolOp .Or (b :: rest) pos) bb) : AW X E (.BoolOp .Or (a :: b :: rest) pos) (dOr ba bb) := ⟨PW.imp (pw_or h.pt k.pw) fun σ H Q ⟨ρ, l, g, o, s, p⟩ => by
  refine ⟨ρ, l, g, o, s, Post.bind p fun x l1 ρ1 H1 v e1 s1 o1 r1 p1 => ?_⟩
  cases r1
  cases x with
  | false => exact ⟨ρ1, l1, g, o1, s.step s1 o, p1⟩
  | true => exact p1.here o1 rfl⟩
theorem at_w (h : AW X E e ba) : AT X E e ba := ⟨h.pw.pt⟩
theorem at_not (h : AT X E a ba) : AT X E (.UnaryOp .Not a pos) (dNot ba) := ⟨PT.imp (pt_not h.pt) fun σ H Q ⟨ρ, l, g, o, s, p⟩ => by
  refine ⟨ρ, l, g, o, s, Post.bind p fun x l1 ρ1 H1 v e1 s1 o1 r1 p1 => ?_⟩
  cases r1
  exact p1.here o1 rfl⟩
/-- .. as values -/
def dIfE (c : DB) (f h : DE) : DE := fun g l => (c g l).bind fun b l1 => if b = true then f g l1 else h g l1
theorem ae_if (h : AT X E c ba) (h1 : AE X E a fa) (h2 : AE X E b fb) : AE X E (.IfExp c a b pos) (dIfE ba fa fb) := ⟨PE.imp (pe_ifExp h.pt h1.pe h2.pe) fun σ H Q ⟨ρ, l, g, o, s, p⟩ => by
  refine ⟨ρ, l, g, o, s, Post.bind p fun x l1 ρ1 H1 v e1 s1 o1 r1 p1 => ?_⟩
  cases r1
  cases x with
  | false => exact ⟨ρ1, l1, g, o1, s.step s1 o, p1⟩
  | true => exact ⟨ρ1, l1, g, o1, s.step s1 o, p1⟩⟩
def dAndV (f h : DE) : DE := fun g l => (f g l).bind fun b l1 => match b with
  | .bl true => h g l1
  | .bl false => .ok (.bl false) l1
  | _ => .bad
def dOrV (f h : DE) : DE := fun g l => (f g l).bind fun b l1 => match b with
  | .bl false => h g l1
  | .bl true => .ok (.bl true) l1
  | _ => .bad
theorem ae_one {op} (h : AE X E a fa) : AE X E (.BoolOp op [a] pos) fa := ⟨pe_one h.pe⟩
theorem ae_and (h : AE X E a fa) (k : AE X E (.BoolOp .And (b :: rest) pos) fb) : AE X E (.BoolOp .And (a :: b :: rest) pos) (dAndV fa fb) := ⟨PE.imp (pe_and h.pe k.pe) fun σ H Q ⟨ρ, l, g, o, s, p⟩ => by
  refine ⟨ρ, l, g, o, s, Post.bind p fun x l1 ρ1 H1 v e1 s1 o1 r1 p1 => ?_⟩
  split at p1
  · rw [r1.bl_]; exact ⟨true, rfl, ⟨ρ1, l1, g, o1, s.step s1 o, p1⟩⟩
  · rw [r1.bl_]; exact ⟨false, rfl, p1.here o1 rw_bl⟩
  · exact p1.elim⟩
theorem ae_or (h : AE X E a fa) (k : AE X E (.BoolOp .Or (b :: rest) pos) fb) : AE X E (.BoolOp .Or (a :: b :: rest) pos) (dOrV fa fb) := ⟨PE.imp (pe_or h.pe k.pe) fun σ H Q ⟨ρ, l, g, o, s, p⟩ => by
  refine ⟨ρ, l, g, o, s, Post.bind p fun x l1 ρ1 H1 v e1 s1 o1 r1 p1 => ?_⟩
  split at p1
  · rw [r1.bl_]; exact ⟨false, rfl, ⟨ρ1, l1, g, o1, s.step s1 o, p1⟩⟩
  · rw [r1.bl_]; exact ⟨true, rfl, p1.here o1 rw_bl⟩
  · exact p1.elim⟩
def dNotV (f : DE) : DE := fun g l => (f g l).bind fun b l1 => match b with
  | .bl k => .ok (.bl (!k)) l1
  | _ => .bad
theorem ae_not (h : AE X E a fa) : AE X E (.UnaryOp .Not a pos) (dNotV fa) := ⟨PE.imp (pe_not h.pe) fun σ H Q ⟨ρ, l, g, o, s, p⟩ => by
  refine ⟨ρ, l, g, o, s, Post.bind p fun x l1 ρ1 H1 v e1 s1 o1 r1 p1 => ?_⟩
  split at p1
  · rw [r1.bl_]; exact ⟨_, rfl, p1.here o1 rw_bl⟩
  · exact p1.elim⟩
/-- a < b < c -/
def dChain (h1 h2 : D → D → Sto → Res D) (fa fb fc : DE) : DE := fun g l => (fa g l).bind fun x l1 => (fb g l1).bind fun y l2 => (h1 x y l2).bind fun z l3 => match z with
  | .bl true => (fc g l3).bind fun w l4 => h2 y w l4
  | .bl false => .ok (.bl false) l3
  | _ => .bad
theorem chain_of {K : PySem.W.Frag} {r r' : R2} {h1 h2 : D → D → Sto → Res D} (s1 : OpS K E r h1) (s2 : OpS K E r' h2) {σ H Q} (h : teOf K E (dChain h1 h2 fa fb fc) σ H Q) : tChain r r' (teOf K E fa) (teOf K E fb) (teOf K E fc) σ H Q := by
  obtain ⟨ρ, l, g, o, s, p⟩ := h
  refine ⟨ρ, l, g, o, s, Post.bind p fun x l1 ρ1 H1 v e1 st1 o1 r1 p1 => ?_⟩
  refine ⟨ρ1, l1, g, o1, s.step st1 o, Post.bind p1 fun y l2 ρ2 H2 u e2 st2 o2 r2 p2 => ?_⟩
  refine s1 ρ2 l2 H2 x y v u _ o2 (st2.rw o1 r1) r2 (Post.bind p2 fun z l3 ρ3 H3 zv e3 st3 o3 r3 p3 => ?_)
  have s2' := (s.step st1 o).step st2 o1
  split at p3
  · rw [r3.bl_]
    refine ⟨true, rfl, ?_⟩
    refine ⟨ρ3, l3, g, o3, s2'.step st3 o2, Post.bind p3 fun w l4 ρ4 H4 wv e4 st4 o4 r4 p4 => ?_⟩
    exact s2 ρ4 l4 H4 y w u wv Q o4 (st4.rw o3 (st3.rw o2 r2)) r4 p4
  · rw [r3.bl_]
    exact ⟨false, rfl, p3.here o3 rw_bl⟩
  · exact p3.elim
theorem ae_chain {op op' : CmpOp} {r r' : R2} {h1 h2 : D → D → Sto → Res D} (ho : OpR X (compareOp op) r) (ho' : OpR X (compareOp op') r') (s1 : OpS X.K E r h1) (s2 : OpS X.K E r' h2) (ha : AE X E a fa) (hb : AE X E b fb) (hc : AE X E c fc) (hm : lastMarks [op, op'] [b, c] = false := by rfl) :
    AE X E (.Compare a [op, op'] [b, c] pos) (dChain h1 h2 fa fb fc) := ⟨PE.imp (pe_chain ho ho' ha.pe hb.pe hc.pe hm) fun σ H Q h => chain_of s1 s2 h⟩
end
end Zb

set_option Elab.async false
set_option linter.all false
set_option maxRecDepth 100000
namespace Zb
open PySem L2
section
variable {X : Cx} {E : XK} {a b c e : Expr} {es : List Expr} {fa fb fc f : DE} {fs : DEs} {ba bb : DB} {pos p2 : Pos} {rest : List Expr}
/-! ### subscripts -/
def okO (o : Option D) (l : Sto) : Res D := match o with
  | some d => .ok d l
  | none => .bad
def hIx : D → D → Sto → Res D
  | .tup ds, .int i, l => okO (atI ds i) l
  | .adr n, .int i, l => match l[n]? with
    | some (.lst ds) => okO (atI ds i) l
    | _ => .bad
  | .str z, .int i, l => if small z.length then okO ((atI z.cps.toList i).map fun c => .str ⟨#[c]⟩) l else .bad
  | _, _, _ => .bad
theorem at_rws {K : PySem.W.Frag} {ρ : List Addr} {H : Hp} {ds : List D} {vs : List V} {i : Int} {d : D} (r : Rws K ρ H ds vs) (h : atI ds i = some d) : ∃ v, atI vs i = some v ∧ Rw K ρ H d v := by
  unfold atI at h ⊢
  rw [r.length]
  cases q : ixN ds.length i with
  | none => rw [q] at h; cases h
  | some j =>
    rw [q] at h
    exact r.get h
theorem Post.okO_ {K : PySem.W.Frag} {ρ : List Addr} {l : Sto} {H : Hp} {o : Option D} {Q : VK} (h : Post K E ρ H (rD K) (okO o l) Q) : ∃ d, o = some d ∧ Post K E ρ H (rD K) (.ok d l) Q := by
  cases o with
  | none => exact h.elim
  | some d => exact ⟨d, rfl, h⟩
theorem hs_ix : OpS X.K E (rIx X.K) hIx := fun ρ l H dx dy x y Q o rx ry p => by
  unfold hIx at p
  split at p
  · obtain ⟨d, e, p⟩ := p.okO_
    obtain ⟨q, vs, rfl, t, r⟩ := rx.tup_
    obtain ⟨v, e2, r2⟩ := at_rws r e
    rw [ry.int_]
    exact .inr (.inl ⟨q, vs, _, v, rfl, rfl, t, e2, p.here o r2⟩)
  · split at p
    · rename_i es e1
      obtain ⟨d, e, p⟩ := p.okO_
      obtain ⟨q, vs, rfl, _, h1, r⟩ := o.lst rx e1
      obtain ⟨v, e2, r2⟩ := at_rws r e
      rw [ry.int_]
      exact .inl ⟨q, vs, _, v, rfl, rfl, SqL.of h1, e2, p.here o r2⟩
    · exact p.elim
  · rename_i z i
    obtain ⟨hc, p⟩ := Post.ite p
    obtain ⟨d, e, p⟩ := p.okO_
    cases q : atI z.cps.toList i with
    | none => rw [q] at e; cases e
    | some c =>
      rw [q] at e
      cases e
      rw [rx.str_, ry.int_]
      exact .inr (.inr ⟨z, i, c, rfl, rfl, small_le hc, q, p.here o rw_str⟩)
  · exact p.elim
theorem ae_ix (ha : AE X E a fa) (hb : AE X E b fb) (hs : PlainIx b := by intro _ _; rfl) : AE X E (.Subscript a b pos) (dOp hIx fa fb) := ae_op2 (pe_ix ix_seq ha.pe hb.pe hs) hs_ix

/-! ### slices -/
def cutG {α : Type} (xs : List α) (lo hi : Option Int) : List α := (xs.drop (HT.sIx xs.length 0 lo)).take (HT.sIx xs.length xs.length hi - HT.sIx xs.length 0 lo)
theorem cut_rws {K : PySem.W.Frag} {ρ : List Addr} {H : Hp} {ds : List D} {vs : List V} (r : Rws K ρ H ds vs) (lo hi : Option Int) : Rws K ρ H (cutG ds lo hi) (cutV vs lo hi) := by
  unfold cutG cutV
  rw [r.length]
  exact (r.drop _).take _
theorem cut_map {α : Type} (g : Int → α) (ns : List Int) (lo hi : Option Int) : (cutG ns lo hi).map g = cutG (ns.map g) lo hi := by
  unfold cutG
  rw [List.length_map, List.map_take, List.map_drop]
theorem rws_ints {K : PySem.W.Frag} {ρ : List Addr} {H : Hp} : ∀ ns : List Int, Rws K ρ H (ns.map D.int) (ns.map V.int)
  | [] => Rws.nil
  | n :: ns => Rws.cons rw_int (rws_ints ns)
def hSl : D → Option Int → Option Int → Sto → Res D
  | .tup ds, lo, hi, l => .ok (.tup (cutG ds lo hi)) l
  | .adr n, lo, hi, l => match l[n]? with
    | some (.lst ds) => .ok (.adr l.length) (l ++ [.lst (cutG ds lo hi)])
    | _ => .bad
  | .ro ns, lo, hi, l => .ok (.adr l.length) (l ++ [.lst ((cutG ns lo hi).map D.int)])
  | _, _, _, _ => .bad
def rSlZ (K : PySem.W.Frag) : V → Option Int → Option Int → Hp → VK → Prop := fun x lo hi H Q => rSlL K x lo hi H Q ∨ rSlA K x lo hi H Q
theorem sl_any : SlR X (rSlZ X.K) := SlR.or sl_list sl_tupA
theorem whole_cut {α : Type} {xs : List α} {lo hi : Option Int} (h : HT.sIx xs.length 0 lo = 0 ∧ HT.sIx xs.length xs.length hi = xs.length) : cutG xs lo hi = xs := by
  unfold cutG
  rw [h.1, h.2]; simp
theorem sl_ok {K : PySem.W.Frag} {ρ : List Addr} {l : Sto} {H : Hp} {d : D} {x : V} {lo hi : Option Int} {Q : VK} (o : Own K ρ l H) (r : Rw K ρ H d x) (p : Post K E ρ H (rD K) (hSl d lo hi l) Q) : rSlZ K x lo hi H Q := by
  unfold hSl at p
  split at p
  · obtain ⟨a, vs, rfl, t, q⟩ := r.tup_
    refine .inr ⟨a, vs, rfl, t, fun e => ?_, fun _ z hz => Post.mkT o (cut_rws q _ _) p hz⟩
    rw [q.length] at e
    rw [whole_cut e] at p
    exact p.here o r
  · split at p
    · rename_i es e1
      obtain ⟨a, vs, rfl, _, h1, q⟩ := o.lst r e1
      exact .inl ⟨a, vs, rfl, SqL.of h1, fun z hz => Post.mkL o (cut_rws q _ _) p hz⟩
    · exact p.elim
  · simp only [Rw] at r
    obtain ⟨a, rfl, sq⟩ := r
    refine .inl ⟨a, _, rfl, sq.sq, fun z hz => ?_⟩
    rw [cut_map] at p
    exact Post.mkL o (cut_rws (rws_ints _) _ _) p hz
  · exact p.elim
structure AO (X : Cx) (E : XK) (e : Option Expr) (f : DO) : Prop where
  po : PO X e (toOf X.K E f)
def dONone : DO := fun _ l => .ok none l
def dOSome (f : DE) : DO := fun g l => (f g l).bind fun d l1 => match d with
  | .int i => .ok (some i) l1
  | _ => .bad
theorem PO.imp {X : Cx} {e : Option Expr} {t u : TO} (h : PO X e t) (q : ∀ σ H Q, u σ H Q → t σ H Q) : PO X e u := ⟨fun pins s σ H Q I k => h.run pins s σ H Q I (q σ H Q k)⟩
theorem ao_none : AO X E none dONone := ⟨PO.imp po_none fun σ H Q ⟨ρ, l, g, o, s, p⟩ => p.here o rfl⟩
theorem ao_some (h : AE X E e f) : AO X E (some e) (dOSome f) := ⟨PO.imp (po_some h.pe) fun σ H Q ⟨ρ, l, g, o, s, p⟩ => by
  refine ⟨ρ, l, g, o, s, Post.bind p fun x l1 ρ1 H1 v e1 s1 o1 r1 p1 => ?_⟩
  split at p1
  · rw [r1.int_]; exact ⟨_, rfl, p1.here o1 rfl⟩
  · exact p1.elim⟩
def dSl (f : DE) (lo hi : DO) : DE := fun g l => (f g l).bind fun d l1 => (lo g l1).bind fun i l2 => (hi g l2).bind fun j l3 => hSl d i j l3
theorem ae_sl {lo hi : Option Expr} {fl fh : DO} (he : AE X E e f) (hl : AO X E lo fl) (hh : AO X E hi fh) : AE X E (.Subscript e (.Slice lo hi none p2) pos) (dSl f fl fh) := ⟨PE.imp (pe_slice sl_any he.pe hl.po hh.po) fun σ H Q ⟨ρ, l, g, o, s, p⟩ => by
  refine ⟨ρ, l, g, o, s, Post.bind p fun x l1 ρ1 H1 v e1 s1 o1 r1 p1 => ?_⟩
  refine ⟨ρ1, l1, g, o1, s.step s1 o, Post.bind p1 fun y l2 ρ2 H2 u e2 s2 o2 r2 p2 => ?_⟩
  cases r2
  refine ⟨ρ2, l2, g, o2, (s.step s1 o).step s2 o1, Post.bind p2 fun z l3 ρ3 H3 w e3 s3 o3 r3 p3 => ?_⟩
  cases r3
  exact sl_ok o3 (s3.rw o2 (s2.rw o1 r1)) p3⟩
/-- xs[::-1] of a list -/
def hRev : D → Sto → Res D
  | .adr n, l => match l[n]? with
    | some (.lst ds) => .ok (.adr l.length) (l ++ [.lst ds.reverse])
    | _ => .bad
  | _, _ => .bad
theorem ae_rev {k : Nat} {p1 p2 p3 : Pos} (he : AE X E e f) : AE X E (.Subscript e (.Slice none none (some (.UnaryOp .USub (.Constant (.int 1) k p1) p2)) p3) pos) (dUn hRev f) := ⟨PE.imp (pe_revL he.pe) fun σ H Q ⟨ρ, l, g, o, s, p⟩ => by
  refine ⟨ρ, l, g, o, s, Post.bind p fun x l1 ρ1 H1 v e1 s1 o1 r1 p1 => ?_⟩
  unfold hRev at p1
  split at p1
  · split at p1
    · rename_i es e1
      obtain ⟨a, vs, rfl, _, h1, q⟩ := o1.lst r1 e1
      exact ⟨a, vs, rfl, SqL.of h1, fun z hz => Post.mkL o1 q.rev p1 hz⟩
    · exact p1.elim
  · exact p1.elim⟩

/-! ### built-in functions -/
def dCB (h : List D → Sto → Res D) (fs : DEs) : DE := fun g l => (fs g l).bind fun ds l1 => h ds l1
def CbS (K : PySem.W.Frag) (E : XK) (r : List V → Hp → VK → Prop) (h : List D → Sto → Res D) : Prop := ∀ ρ l H ds vs Q, Own K ρ l H → Rws K ρ H ds vs → Post K E ρ H (rD K) (h ds l) Q → r vs H Q
theorem ae_cb {r : List V → Hp → VK → Prop} {h : List D → Sto → Res D} (hp : PE X e (tCB r (taOf X.K E fs))) (hs : CbS X.K E r h) : AE X E e (dCB h fs) := ⟨PE.imp hp fun σ H Q ⟨ρ, l, g, o, s, p⟩ => by
  refine ⟨ρ, l, g, o, s, Post.bind p fun x l1 ρ1 H1 v e1 s1 o1 r1 p1 => ?_⟩
  exact hs ρ1 l1 H1 x v Q o1 r1 p1⟩
theorem Rws.one_ {K : PySem.W.Frag} {ρ : List Addr} {H : Hp} {d : D} {vs : List V} (r : Rws K ρ H [d] vs) : ∃ v, vs = [v] ∧ Rw K ρ H d v := by
  simp only [Rws] at r
  obtain ⟨v, u, rfl, r1, rfl⟩ := r
  exact ⟨v, rfl, r1⟩
theorem Rws.two_ {K : PySem.W.Frag} {ρ : List Addr} {H : Hp} {d d' : D} {vs : List V} (r : Rws K ρ H [d, d'] vs) : ∃ v v', vs = [v, v'] ∧ Rw K ρ H d v ∧ Rw K ρ H d' v' := by
  simp only [Rws] at r
  obtain ⟨v, u, rfl, r1, v', u', rfl, r2, rfl⟩ := r
  exact ⟨v, v', rfl, r1, r2⟩
def hLen : List D → Sto → Res D
  | [.tup ds], l => .ok (.int ds.length) l
  | [.adr n], l => match l[n]? with
    | some (.lst ds) => .ok (.int ds.length) l
    | _ => .bad
  | [.ro ns], l => .ok (.int ns.length) l
  | [.str z], l => if small z.length then .ok (.int z.length) l else .bad
  | _, _ => .bad
theorem cs_len : CbS X.K E (fun xs H Q => ∃ x n, xs = [x] ∧ LenV X.K x H n ∧ Q (.int n) H) hLen := fun ρ l H ds vs Q o r p => by
  unfold hLen at p
  split at p
  · obtain ⟨v, rfl, w1⟩ := r.one_
    obtain ⟨a, us, rfl, t, q⟩ := w1.tup_
    exact ⟨_, _, rfl, .inr ⟨us, t, q.length.symm⟩, p.here o rw_int⟩
  · obtain ⟨v, rfl, w1⟩ := r.one_
    split at p
    · rename_i es e1
      obtain ⟨a, us, rfl, _, h1, q⟩ := o.lst w1 e1
      exact ⟨_, _, rfl, .inl ⟨us, SqL.of h1, q.length.symm⟩, p.here o rw_int⟩
    · exact p.elim
  · obtain ⟨v, rfl, w1⟩ := r.one_
    simp only [Rw] at w1
    obtain ⟨a, rfl, sq⟩ := w1
    exact ⟨_, _, rfl, .inl ⟨_, sq.sq, by simp⟩, p.here o rw_int⟩
  · obtain ⟨v, rfl, w1⟩ := r.one_
    obtain ⟨hc, p⟩ := Post.ite p
    rw [w1.str_]
    exact ⟨_, _, rfl, ⟨small_le hc, rfl⟩, p.here o rw_int⟩
  · exact p.elim
theorem ae_len {p : Pos} (hg : Gl X "len") (hm : X.mg "len" = none) (ha : AA X E (e :: es) fs) (he : starEach (e :: es) X.env = (false, eval e X.env) :: starEach es X.env := by rfl) (hpl : (backTo pos (starEach es X.env)).any (·.1) = false := by rfl) : AE X E (.Call (.Name "len" p) (e :: es) [] pos) (dCB hLen fs) := ae_cb (pe_callB call_len hg hm PySem.boot_len ha.pa (he := he) (hpl := hpl)) cs_len
def hAbs : List D → Sto → Res D
  | [.int i], l => .ok (.int (if i < 0 then -i else i)) l
  | _, _ => .bad
theorem ae_abs {p : Pos} (hg : Gl X "abs") (hm : X.mg "abs" = none) (ha : AA X E (e :: es) fs) (he : starEach (e :: es) X.env = (false, eval e X.env) :: starEach es X.env := by rfl) (hpl : (backTo pos (starEach es X.env)).any (·.1) = false := by rfl) : AE X E (.Call (.Name "abs" p) (e :: es) [] pos) (dCB hAbs fs) := ae_cb (pe_callB call_abs hg hm (by decide +kernel) ha.pa (he := he) (hpl := hpl)) fun ρ l H ds vs Q o r p => by
  unfold hAbs at p
  split at p
  · obtain ⟨v, rfl, w1⟩ := r.one_
    rw [w1.int_]
    exact ⟨_, rfl, p.here o rw_int⟩
  · exact p.elim
def hInt1 : List D → Sto → Res D
  | [.int i], l => .ok (.int i) l
  | [.bl b], l => .ok (.int (if b then 1 else 0)) l
  | _, _ => .bad
theorem ae_int1 {p : Pos} (hg : Gl X "int") (hm : X.mg "int" = none) (ha : AA X E (e :: es) fs) (he : starEach (e :: es) X.env = (false, eval e X.env) :: starEach es X.env := by rfl) (hpl : (backTo pos (starEach es X.env)).any (·.1) = false := by rfl) : AE X E (.Call (.Name "int" p) (e :: es) [] pos) (dCB hInt1 fs) := ae_cb (pe_callTy call_int1 hg hm (by decide +kernel) ha.pa (he := he) (hpl := hpl)) fun ρ l H ds vs Q o r p => by
  unfold hInt1 at p
  split at p
  · obtain ⟨v, rfl, w1⟩ := r.one_
    rw [w1.int_]
    exact .inl ⟨_, rfl, p.here o rw_int⟩
  · obtain ⟨v, rfl, w1⟩ := r.one_
    rw [w1.bl_]
    exact .inr ⟨_, rfl, p.here o rw_int⟩
  · exact p.elim
def hMax2 : List D → Sto → Res D
  | [.int i, .int j], l => .ok (.int (if j > i then j else i)) l
  | _, _ => .bad
def hMin2 : List D → Sto → Res D
  | [.int i, .int j], l => .ok (.int (if j < i then j else i)) l
  | _, _ => .bad
theorem ae_max2 {p : Pos} (hc : X.calm = true) (hg : Gl X "max") (hm : X.mg "max" = none) (ha : AA X E (e :: es) fs) (he : starEach (e :: es) X.env = (false, eval e X.env) :: starEach es X.env := by rfl) (hpl : (backTo pos (starEach es X.env)).any (·.1) = false := by rfl) : AE X E (.Call (.Name "max" p) (e :: es) [] pos) (dCB hMax2 fs) := ae_cb (pe_callB (call_max2 hc) hg hm (by decide +kernel) ha.pa (he := he) (hpl := hpl)) fun ρ l H ds vs Q o r p => by
  unfold hMax2 at p
  split at p
  · obtain ⟨v, v', rfl, w1, w2⟩ := r.two_
    rw [w1.int_, w2.int_]
    exact ⟨_, _, rfl, p.here o rw_int⟩
  · exact p.elim
theorem ae_min2 {p : Pos} (hc : X.calm = true) (hg : Gl X "min") (hm : X.mg "min" = none) (ha : AA X E (e :: es) fs) (he : starEach (e :: es) X.env = (false, eval e X.env) :: starEach es X.env := by rfl) (hpl : (backTo pos (starEach es X.env)).any (·.1) = false := by rfl) : AE X E (.Call (.Name "min" p) (e :: es) [] pos) (dCB hMin2 fs) := ae_cb (pe_callB (call_min2 hc) hg hm (by decide +kernel) ha.pa (he := he) (hpl := hpl)) fun ρ l H ds vs Q o r p => by
  unfold hMin2 at p
  split at p
  · obtain ⟨v, v', rfl, w1, w2⟩ := r.two_
    rw [w1.int_, w2.int_]
    exact ⟨_, _, rfl, p.here o rw_int⟩
  · exact p.elim
/-- sum of a list of ints -/
def intsOf : List D → Option (List Int)
  | [] => some []
  | .int i :: r => (intsOf r).map (i :: ·)
  | _ => none
theorem ints_rws {K : PySem.W.Frag} {ρ : List Addr} {H : Hp} : ∀ {ds : List D} {vs : List V} {ns : List Int}, intsOf ds = some ns → Rws K ρ H ds vs → vs = ns.map V.int
  | [], vs, ns, h, r => by simp only [Rws] at r; cases h; subst r; rfl
  | .int i :: ds, vs, ns, h, r => by
    simp only [Rws] at r
    obtain ⟨v, u, rfl, r1, r2⟩ := r
    simp only [intsOf] at h
    cases q : intsOf ds with
    | none => rw [q] at h; cases h
    | some ms =>
      rw [q] at h; cases h
      rw [r1.int_, ints_rws q r2]; rfl
  | .non :: _, _, _, h, _ => by cases h
  | .bl _ :: _, _, _, h, _ => by cases h
  | .str _ :: _, _, _, h, _ => by cases h
  | .ty _ :: _, _, _, h, _ => by cases h
  | .adr _ :: _, _, _, h, _ => by cases h
  | .tup _ :: _, _, _, h, _ => by cases h
  | .ro _ :: _, _, _, h, _ => by cases h
def hSumL : List D → Sto → Res D
  | [.adr n], l => match l[n]? with
    | some (.lst ds) => match intsOf ds with
      | some ns => .ok (.int ns.sum) l
      | none => .bad
    | _ => .bad
  | _, _ => .bad
theorem ae_sumL {p : Pos} (hc : X.calm = true) (hg : Gl X "sum") (hm : X.mg "sum" = none) (ha : AA X E (e :: es) fs) (he : starEach (e :: es) X.env = (false, eval e X.env) :: starEach es X.env := by rfl) (hpl : (backTo pos (starEach es X.env)).any (·.1) = false := by rfl) : AE X E (.Call (.Name "sum" p) (e :: es) [] pos) (dCB hSumL fs) := ae_cb (pe_callB (cr_sum hc) hg hm (by decide +kernel) ha.pa (he := he) (hpl := hpl)) fun ρ l H ds vs Q o r p => by
  unfold hSumL at p
  split at p
  · obtain ⟨v, rfl, w1⟩ := r.one_
    split at p
    · rename_i es e1
      obtain ⟨a, us, rfl, _, h1, q⟩ := o.lst w1 e1
      split at p
      · rename_i ns e2
        have e3 := ints_rws e2 q
        subst e3
        exact ⟨a, ns, rfl, SqL.of h1, p.here o rw_int⟩
      · exact p.elim
    · exact p.elim
  · exact p.elim
/-- tuple(..), list(..) -/
def hTupOf : List D → Sto → Res D
  | [.tup ds], l => .ok (.tup ds) l
  | [.adr n], l => match l[n]? with
    | some (.lst ds) => .ok (.tup ds) l
    | _ => .bad
  | _, _ => .bad
def hLstOf : List D → Sto → Res D
  | [.tup ds], l => .ok (.adr l.length) (l ++ [.lst ds])
  | [.adr n], l => match l[n]? with
    | some (.lst ds) => .ok (.adr l.length) (l ++ [.lst ds])
    | _ => .bad
  | _, _ => .bad
theorem ae_tupOf {p : Pos} (hg : Gl X "tuple") (hm : X.mg "tuple" = none) (ha : AA X E (e :: es) fs) (he : starEach (e :: es) X.env = (false, eval e X.env) :: starEach es X.env := by rfl) (hpl : (backTo pos (starEach es X.env)).any (·.1) = false := by rfl) : AE X E (.Call (.Name "tuple" p) (e :: es) [] pos) (dCB hTupOf fs) := ae_cb (pe_callTy call_tuple_of hg hm (by decide +kernel) ha.pa (he := he) (hpl := hpl)) fun ρ l H ds vs Q o r p => by
  unfold hTupOf at p
  split at p
  · obtain ⟨v, rfl, w1⟩ := r.one_
    obtain ⟨a, us, rfl, t, q⟩ := w1.tup_
    exact ⟨a, us, rfl, .inr ⟨t, p.here o w1⟩⟩
  · obtain ⟨v, rfl, w1⟩ := r.one_
    split at p
    · rename_i es e1
      obtain ⟨a, us, rfl, _, h1, q⟩ := o.lst w1 e1
      exact ⟨a, us, rfl, .inl ⟨SqL.of h1, fun z hz => Post.mkT o q p hz⟩⟩
    · exact p.elim
  · exact p.elim
theorem ae_lstOf {p : Pos} (hg : Gl X "list") (hm : X.mg "list" = none) (ha : AA X E (e :: es) fs) (he : starEach (e :: es) X.env = (false, eval e X.env) :: starEach es X.env := by rfl) (hpl : (backTo pos (starEach es X.env)).any (·.1) = false := by rfl) : AE X E (.Call (.Name "list" p) (e :: es) [] pos) (dCB hLstOf fs) := ae_cb (pe_callTy call_list_of hg hm (by decide +kernel) ha.pa (he := he) (hpl := hpl)) fun ρ l H ds vs Q o r p => by
  unfold hLstOf at p
  split at p
  · obtain ⟨v, rfl, w1⟩ := r.one_
    obtain ⟨a, us, rfl, t, q⟩ := w1.tup_
    exact ⟨a, us, rfl, .inr t, fun z hz => Post.mkL o q p hz⟩
  · obtain ⟨v, rfl, w1⟩ := r.one_
    split at p
    · rename_i es e1
      obtain ⟨a, us, rfl, _, h1, q⟩ := o.lst w1 e1
      exact ⟨a, us, rfl, .inl (SqL.of h1), fun z hz => Post.mkL o q p hz⟩
    · exact p.elim
  · exact p.elim
/-! ### isinstance -/
def tyD : D → Sto → Option String
  | .non, _ => some "NoneType" | .bl _, _ => some "bool" | .int _, _ => some "int" | .str _, _ => some "str"
  | .tup _, _ => some "tuple"
  | .adr n, l => match l[n]? with
    | some (.lst _) => some "list"
    | some (.dct _) => some "dict"
    | none => none
  | .ro _, _ => some "list"
  | .ty _, _ => none
theorem ty_of {K : PySem.W.Frag} {ρ : List Addr} {l : Sto} {H : Hp} {d : D} {v : V} {t : String} (o : Own K ρ l H) (r : Rw K ρ H d v) (h : tyD d l = some t) : TyX K H v (.type t) := by
  cases d with
  | non => cases h; rw [r.non_]; exact .base .non
  | bl b => cases h; rw [r.bl_]; exact .base (.bl b)
  | int b => cases h; rw [r.int_]; exact .base (.int b)
  | str b => cases h; rw [r.str_]; exact .base (.str b)
  | ty b => cases h
  | ro ns =>
    cases h
    simp only [Rw] at r
    obtain ⟨a, rfl, ⟨ob, e⟩ | ⟨ob, its, n, e, c, _⟩⟩ := r
    · exact .base (.frz e)
    · exact .kList e c
  | tup ds =>
    cases h
    obtain ⟨a, us, rfl, t, q⟩ := r.tup_
    rcases t with (t | ⟨ob, t⟩) | ⟨ob, its, n, e, c, _⟩
    · exact .base (.tup t)
    · exact .fTuple t
    · exact .kTuple e c
  | adr n =>
    simp only [Rw] at r
    obtain ⟨a, ha, rfl⟩ := r
    simp only [tyD] at h
    split at h
    · rename_i ds e1
      cases h
      obtain ⟨vs, h1, _⟩ := o.at_ n _ a e1 ha
      exact .base (.lst h1)
    · rename_i ds e1
      cases h
      obtain ⟨vs, h1, _⟩ := o.at_ n _ a e1 ha
      exact .base (.dK h1)
    · cases h
def hIsi1 : List D → Sto → Res D
  | [x, .ty t], l => match tyD x l with
    | some s => match kitB s t with
      | some b => .ok (.bl b) l
      | none => .bad
    | none => .bad
  | _, _ => .bad
theorem cls_of {t : String} : ClsV (.ty t) (.type t) := .ty t
theorem ae_isi {p : Pos} (hg : Gl X "isinstance") (hm : X.mg "isinstance" = none) (ha : AA X E (e :: es) fs) (he : starEach (e :: es) X.env = (false, eval e X.env) :: starEach es X.env := by rfl) (hpl : (backTo pos (starEach es X.env)).any (·.1) = false := by rfl) : AE X E (.Call (.Name "isinstance" p) (e :: es) [] pos) (dCB hIsi1 fs) := ae_cb (pe_callB call_isi hg hm (by decide +kernel) ha.pa (he := he) (hpl := hpl)) fun ρ l H ds vs Q o r p => by
  unfold hIsi1 at p
  split at p
  · obtain ⟨v, v', rfl, w1, w2⟩ := r.two_
    split at p
    · rename_i s e1
      split at p
      · rename_i b e2
        rw [w2.ty_]
        exact ⟨v, _, _, _, b, rfl, cls_of, ty_of o w1 e1, kit_ty e2, p.here o rw_bl⟩
      · exact p.elim
    · exact p.elim
  · exact p.elim
def hIsi2 (t u : String) : D → Sto → Res D := fun x l => match tyD x l with
  | some s => match kitB s t, kitB s u with
    | some b, some c => .ok (.bl (b || c)) l
    | _, _ => .bad
  | none => .bad
theorem ae_isi2 {p px : Pos} {k : Nat} {t u : String} {x1 x2 : Expr} (hg : Gl X "isinstance") (hm : X.mg "isinstance" = none) (ha : AE X E e f) (h1 : PE X x1 (tC (.ty t))) (h2 : PE X x2 (tC (.ty u)))
    (q1 : starEach [e, .Tuple [x1, x2] k px] X.env = (false, eval e X.env) :: starEach [.Tuple [x1, x2] k px] X.env := by rfl)
    (q2 : starEach [x1, x2] X.env = (false, eval x1 X.env) :: starEach [x2] X.env := by rfl) (q3 : starEach [x2] X.env = (false, eval x2 X.env) :: starEach [] X.env := by rfl)
    (q4 : starEach [.Tuple [x1, x2] k px] X.env = (false, eval (.Tuple [x1, x2] k px) X.env) :: starEach [] X.env := by rfl) (q5 : (backTo pos (starEach [.Tuple [x1, x2] k px] X.env)).any (·.1) = false := by rfl) :
    AE X E (.Call (.Name "isinstance" p) [e, .Tuple [x1, x2] k px] [] pos) (dUn (hIsi2 t u) f) :=
  ⟨PE.imp (pe_callB call_isiT hg hm (by decide +kernel) (pa_cons ha.pe (pa_cons (pe_tup (pa_cons h1 (pa_cons h2 pa_nil q3) q2)) pa_nil q4) q1) (he := q1) (hpl := q5)) fun σ H Q ⟨ρ, l, g, o, s, p⟩ => by
    refine ⟨ρ, l, g, o, s, Post.bind p fun x l1 ρ1 H1 v e1 s1 o1 r1 p1 => ?_⟩
    refine ⟨by show 2 ≤ sizeLine; rw [sizeLine_eq]; decide, fun z hz => ?_⟩
    unfold hIsi2 at p1
    split at p1
    · rename_i ts e2
      split at p1
      · rename_i b c e3 e4
        have st : Step ρ1 H1 ρ1 (upd H1 z (.tup [.ty t, .ty u])) := step_upd hz
        have o2 := (o1.newT (xs := [.ty t, .ty u]) hz).1
        refine ⟨v, z, [.ty t, .ty u], .type ts, [.type t, .type u], b || c, rfl, upd_same, .cons cls_of (.cons cls_of .nil), ty_of o2 (st.rw o1 r1) e2, ?_, ?_⟩
        · refine kitAny_cons (kit_ty e3) (fun hb => ?_) (fun hb => by rw [hb]; rfl)
          refine kitAny_cons (kit_ty e4) (fun hc => ?_) (fun hc => by rw [hc, Bool.or_true])
          rw [hb, hc]; exact kitAny_nil
        · exact p1 ρ1 _ _ st o2 rw_bl
      · exact p1.elim
    · exact p1.elim⟩
end
end Zb

set_option Elab.async false
set_option linter.all false
set_option maxRecDepth 100000
namespace Zb
open PySem L2
/-! ### methods of lists -/
def isL (d : D) (l : Sto) : Bool := match d with
  | .adr n => match l[n]? with
    | some (.lst _) => true
    | _ => false
  | _ => false
def dMe (h : D → List D → Sto → Res D) (fo : DE) (fs : DEs) : DE := fun g l => (fo g l).bind fun x l1 => if isL x l1 then (fs g l1).bind fun ds l2 => h x ds l2 else .bad
def dMe0 (h : D → List D → Sto → Res D) (fo : DE) : DE := fun g l => (fo g l).bind fun x l1 => if isL x l1 then h x [] l1 else .bad
def MtS (K : PySem.W.Frag) (E : XK) (r : V → List V → Hp → VK → Prop) (h : D → List D → Sto → Res D) : Prop := ∀ ρ l H dx ds x vs Q, Own K ρ l H → Rw K ρ H dx x → Rws K ρ H ds vs → Post K E ρ H (rD K) (h dx ds l) Q → r x vs H Q
section
variable {X : Cx} {E : XK} {a b c e o : Expr} {es : List Expr} {fa fb fc f fo : DE} {fs : DEs} {ba bb : DB} {pos p2 apos : Pos} {rest : List Expr}
theorem isL_ty {K : PySem.W.Frag} {ρ : List Addr} {l : Sto} {H : Hp} {d : D} {v : V} (ow : Own K ρ l H) (r : Rw K ρ H d v) (h : isL d l = true) : tyV K "list" v H := by
  unfold isL at h
  split at h
  · split at h
    · rename_i ds e1
      obtain ⟨a, vs, rfl, _, h1, _⟩ := ow.lst r e1
      exact .inl ⟨rfl, vs, SqL.of h1⟩
    · cases h
  · cases h
theorem ae_me {r : V → List V → Hp → VK → Prop} {h : D → List D → Sto → Res D} (hp : PE X e (tBM X.K "list" r (teOf X.K E fo) (taOf X.K E fs))) (hs : MtS X.K E r h) : AE X E e (dMe h fo fs) := ⟨PE.imp hp fun σ H Q ⟨ρ, l, g, ow, s, p⟩ => by
  refine ⟨ρ, l, g, ow, s, Post.bind p fun x l1 ρ1 H1 v e1 s1 o1 r1 p1 => ?_⟩
  obtain ⟨hc, p1⟩ := Post.ite p1
  refine ⟨isL_ty o1 r1 hc, ⟨ρ1, l1, g, o1, s.step s1 ow, Post.bind p1 fun y l2 ρ2 H2 u e2 s2 o2 r2 p2 => ?_⟩⟩
  exact hs ρ2 l2 H2 x y v u Q o2 (s2.rw o1 r1) r2 p2⟩
theorem ae_me0 {r : V → List V → Hp → VK → Prop} {h : D → List D → Sto → Res D} (hp : PE X e (tBM0 X.K "list" r (teOf X.K E fo))) (hs : MtS X.K E r h) : AE X E e (dMe0 h fo) := ⟨PE.imp hp fun σ H Q ⟨ρ, l, g, ow, s, p⟩ => by
  refine ⟨ρ, l, g, ow, s, Post.bind p fun x l1 ρ1 H1 v e1 s1 o1 r1 p1 => ?_⟩
  obtain ⟨hc, p1⟩ := Post.ite p1
  exact ⟨isL_ty o1 r1 hc, hs ρ1 l1 H1 x [] v [] Q o1 r1 Rws.nil p1⟩⟩
def hApp : D → List D → Sto → Res D
  | .adr n, [d], l => match l[n]? with
    | some (.lst ds) => if small (ds.length + 1) then .ok .non (l.set n (.lst (ds ++ [d]))) else .bad
    | _ => .bad
  | _, _, _ => .bad
theorem Post.wr {K : PySem.W.Frag} {ρ : List Addr} {l : Sto} {H : Hp} {n : Nat} {q : Addr} {old : OB} {ds : List D} {vs : List V} {d : D} {v : V} {Q : VK} (ow : Own K ρ l H) (hn : ρ[n]? = some q) (ho : l[n]? = some old) (r : Rws K ρ H ds vs) (rv : Rw K ρ H d v) (p : Post K E ρ H (rD K) (.ok d (l.set n (.lst ds))) Q) : Q v (upd H q (.lst vs)) := by
  obtain ⟨o1, s1⟩ := ow.set hn ho r
  exact p ρ _ _ s1 o1 (s1.rw ow rv)
theorem ms_app : MtS X.K E rAppend hApp := fun ρ l H dx ds x vs Q ow rx r p => by
  unfold hApp at p
  split at p
  · split at p
    · rename_i es e1
      obtain ⟨hc, p⟩ := Post.ite p
      obtain ⟨q, us, rfl, hn, h1, r1⟩ := ow.lst rx e1
      obtain ⟨v, rfl, w1⟩ := r.one_
      exact ⟨q, us, v, rfl, rfl, h1, by rw [r1.length]; exact small_lt hc, Post.wr ow hn e1 (r1.app (Rws.one w1)) rw_non p⟩
    · exact p.elim
  · exact p.elim
def hPop : D → List D → Sto → Res D
  | .adr n, [], l => match l[n]? with
    | some (.lst ds) => match ds[ds.length - 1]? with
      | some d => .ok d (l.set n (.lst ds.dropLast))
      | none => .bad
    | _ => .bad
  | _, _, _ => .bad
theorem Rws.dropLast {K : PySem.W.Frag} {ρ : List Addr} {H : Hp} {ds : List D} {vs : List V} (r : Rws K ρ H ds vs) : Rws K ρ H ds.dropLast vs.dropLast := by
  rw [List.dropLast_eq_take, List.dropLast_eq_take, r.length]
  exact r.take _
theorem ms_pop : MtS X.K E rPop hPop := fun ρ l H dx ds x vs Q ow rx r p => by
  unfold hPop at p
  split at p
  · split at p
    · rename_i es e1
      split at p
      · rename_i d e2
        obtain ⟨q, us, rfl, hn, h1, r1⟩ := ow.lst rx e1
        obtain ⟨v, e3, r2⟩ := r1.get e2
        simp only [Rws] at r
        exact ⟨q, us, v, rfl, r, h1, by rw [r1.length]; exact e3, Post.wr ow hn e1 r1.dropLast r2 p⟩
      · exact p.elim
    · exact p.elim
  · exact p.elim
/-- extend by a list or a tuple -/
def hExt : D → List D → Sto → Res D
  | .adr n, [y], l => match l[n]?, itemsOf y l with
    | some (.lst ds), some es => if small (ds.length + es.length) then .ok .non (l.set n (.lst (ds ++ es))) else .bad
    | _, _ => .bad
  | _, _, _ => .bad
end
section
open PySem PySem.Spec PyProof.Rows
theorem ext_tup (a b : Addr) (xs ys : Array Value) (m k : Nat) (dd : Option Addr) (sl : Array (Option Value))
    (c0 : ¬ (!xs.isEmpty && Builtin.List.listTooLong (xs.size + ys.size)) = true) (c1 : xs.size ≤ sizeLine) (c2 : xs.size + ys.size ≤ sizeLine + 1) :
    Meets (Builtin.«list.extend» ⟨[.ref a, .ref b], []⟩) (fun _ R s => (s.heap.get? a = some { cls := .type "list", dict := none, data := .seq xs m, slots := #[] } ∧
      s.heap.get? b = some { cls := .type "tuple", dict := dd, data := .seq ys k, slots := sl }) ∧ R (.ok (.ret Value.none)) { s with heap := s.heap.update a (Obj.mapSeq fun z => z ++ ys), toks := s.toks }) := .of_wp fun prog w A R s hh => by
  obtain ⟨hp, g, d, tk, os⟩ := s
  obtain ⟨⟨ha, hb⟩, hh⟩ := hh
  have q1 := AutoSeq1.idx_int
  have q2 := AutoSeq1.sub_tuple_tuple
  have q3 := AutoSeq1.sub_list_list
  have q4 := AutoSeq1.sub_tuple_list
  have q5 := AutoSeq1.sub_list_tuple
  have q6 : (xs ++ ys).size ≤ sizeLine + 1 := by
    rw [Array.size_append]
    exact c2
  wp_walk using (wpAny_updateSeq ha rfl (hz := c1) (_hz' := q6)), wpAny_loadPart' ha, wpAny_loadPart' hb
  exact ⟨_, rfl, hh⟩
variable {X : Cx} {E : XK}
def rExtT (K : PySem.W.Frag) : V → List V → Hp → VK → Prop := fun x vs H Q => ∃ l b xs zs, x = .ref l ∧ vs = [.ref b] ∧ H l = some (.lst xs) ∧ SqT K H b zs ∧ xs.length + zs.length ≤ sizeLine ∧ Q .non (upd H l (.lst (xs ++ zs)))
theorem mt_extT : MtM X "list.extend" (rExtT X.K) := by
  intro pins s σ H x vs v us Q I rx rv hh
  obtain ⟨a, b, xs, zs, rfl, rfl, hA, hB, hz, q⟩ := hh
  cases rx
  obtain ⟨u, rfl, ru⟩ := rv.one
  cases ru
  obtain ⟨z1, i1, m, r1, l1, e1⟩ := I.lstM hA
  obtain ⟨i2, r2, ⟨⟨cc, dd, dt, sl⟩, e2, ec, k, ed⟩, z2⟩ := I.tuple hB
  simp only at ec ed
  subst ec ed
  have l2 := r2.length
  have n1 : i1.toArray.size + i2.toArray.size ≤ sizeLine := by
    simp only [List.size_toArray]
    omega
  have n2 : ¬ (!i1.toArray.isEmpty && Builtin.List.listTooLong (i1.toArray.size + i2.toArray.size)) = true := by
    rw [notLongL n1]
    simp
  refine call_meets F.slot_list_extend ⟨_, e1, rfl⟩ F.entry_list_extend (F.args_list_extend_2 _ _) (ext_tup a b i1.toArray i2.toArray m k dd sl n2 (by simp only [List.size_toArray]; omega) (by omega)) ⟨⟨e1, e2⟩, ?_⟩
  exact ⟨.non, _, I.lset (its' := i1 ++ i2) hA e1 (by simp) (r1.append r2) (by rw [List.length_append]; omega), rfl, q⟩
def rExtA (K : PySem.W.Frag) : V → List V → Hp → VK → Prop := fun x vs H Q => rExtend x vs H Q ∨ rExtT K x vs H Q
theorem mt_extA : MtM X "list.extend" (rExtA X.K) := fun pins s σ H x vs v us Q I rx rv hh => hh.elim (fun z => mt_extend pins s σ H x vs v us Q I rx rv z) fun z => mt_extT pins s σ H x vs v us Q I rx rv z
theorem ms_ext : MtS X.K E (rExtA X.K) hExt := fun ρ l H dx ds x vs Q ow rx r p => by
  unfold hExt at p
  split at p
  · rename_i n y
    split at p
    · rename_i es fs e1 e2
      obtain ⟨hc, p⟩ := Post.ite p
      obtain ⟨q, us, rfl, hn, h1, r1⟩ := ow.lst rx e1
      obtain ⟨v, rfl, w1⟩ := r.one_
      cases y with
      | tup ys =>
        obtain ⟨b, zs, rfl, t, r2⟩ := w1.tup_
        have ee : ys = fs := Option.some.inj e2
        subst ee
        exact .inr ⟨q, b, us, zs, rfl, rfl, h1, t, by rw [r1.length, r2.length]; exact small_le hc, Post.wr ow hn e1 (r1.app r2) rw_non p⟩
      | adr m =>
        simp only [itemsOf] at e2
        split at e2
        · rename_i ys e3
          cases e2
          obtain ⟨b, zs, rfl, _, h2, r2⟩ := ow.lst w1 e3
          exact .inl ⟨q, b, us, zs, rfl, rfl, h1, h2, by rw [r1.length, r2.length]; exact small_le hc, Post.wr ow hn e1 (r1.app r2) rw_non p⟩
        · cases e2
      | _ => cases e2
    · exact p.elim
  · exact p.elim
end

/-! ### promises -/
section
variable {K : PySem.W.Frag} {E : XK} {ρ : List Addr} {l : Sto} {H H' : Hp}
mutual
theorem Rw.pure_ {ρ' : List Addr} (t : Tk K H H') : ∀ (d : D) (v : V), pu d = true → Rw K ρ H d v → Rw K ρ' H' d v
  | .non, _, _, h => by simpa [Rw] using h
  | .bl _, _, _, h => by simpa [Rw] using h
  | .int _, _, _, h => by simpa [Rw] using h
  | .str _, _, _, h => by simpa [Rw] using h
  | .ty _, _, p, _ => by simp [pu] at p
  | .adr _, _, p, _ => by simp [pu] at p
  | .ro _, _, p, _ => by simp [pu] at p
  | .tup ds, v, p, h => by
    obtain ⟨a, vs, rfl, q, r⟩ := h.tup_
    exact rw_tup (t a vs q) (Rws.pure_ t ds vs (by simpa [pu] using p) r)
theorem Rws.pure_ {ρ' : List Addr} (t : Tk K H H') : ∀ (ds : List D) (vs : List V), pus ds = true → Rws K ρ H ds vs → Rws K ρ' H' ds vs
  | [], vs, _, h => by simpa [Rws] using h
  | d :: ds, vs, p, h => by
    simp only [Rws] at h
    obtain ⟨v, u, rfl, r1, r2⟩ := h
    simp only [pus, Bool.and_eq_true] at p
    exact Rws.cons (Rw.pure_ t d v p.1 r1) (Rws.pure_ t ds u p.2 r2)
end
theorem same_step (s : Same H H') : Step ρ H ρ H' := ⟨⟨[], by simp⟩, fun a o e _ => s a o e, fun a h n => absurd h n⟩
theorem Own.same (o : Own K ρ l H) (s : Same H H') : Own K ρ l H' := ⟨o.nd, o.len, fun n ob a e1 e2 => Ow.mono ((same_step s).mn o) (fun u e => s a u e) (o.at_ n ob a e1 e2)⟩
theorem Own.newS {p : Addr} {ob : OB} (o : Own K ρ l H) (hp : H p = none) (s : Same H H') (w : Ow K (ρ ++ [p]) H' ob p) : Own K (ρ ++ [p]) (l ++ [ob]) H' := by
  have st : Step ρ H (ρ ++ [p]) H' := ⟨⟨[p], rfl⟩, fun a o e _ => s a o e, fun a h n => by
    rcases List.mem_append.mp h with h | h
    · exact absurd h n
    · simp at h; subst h; exact hp⟩
  refine ⟨?_, by simp [o.len], fun n ob' a e1 e2 => ?_⟩
  · rw [List.nodup_append]
    refine ⟨o.nd, by simp, fun a ha b hb => ?_⟩
    simp at hb; subst hb
    exact fun q => o.nop hp (q ▸ ha)
  · by_cases hn : n < l.length
    · rw [List.getElem?_append_left hn] at e1
      rw [List.getElem?_append_left (by rw [o.len]; exact hn)] at e2
      exact Ow.mono (st.mn o) (fun v e => s a v e) (o.at_ n ob' a e1 e2)
    · have h1 := (List.getElem?_eq_some_iff.mp e1).1
      have hn' : n = l.length := by simp at h1; omega
      subst hn'
      have e3 : (ρ ++ [p])[l.length]? = some p := by rw [← o.len]; simp
      rw [e3] at e2; cases e2
      have e4 : (l ++ [ob])[l.length]? = some ob := by simp
      rw [e4] at e1; cases e1
      exact w
theorem Own.nil : Own K [] [] H := ⟨List.nodup_nil, rfl, fun n o a h _ => by simp at h⟩
theorem Step.same (s : Step [] H ρ H') : Same H H' := fun a o e => s.keep a o e (by simp)
end
def spD (K : PySem.W.Frag) (n : Nat) (m : List D → Sto → Res D) : Sp := fun vs H Q E => ∃ ρ l ds, Own K ρ l H ∧ Rws K ρ H ds vs ∧ ds.length = n ∧ Post K E ρ H (rD K) (m ds l) Q
/-- pure data in, pure data out -/
def spP (K : PySem.W.Frag) (n : Nat) (pf : List D → Option D) : Sp := fun vs H Q _ => ∃ ds d, Rws K [] H ds vs ∧ ds.length = n ∧ pf ds = some d ∧ ∀ v H', Same H H' → Rw K [] H' d v → Q v H'
/-- pure data in, a new list of pure data out -/
def spL (K : PySem.W.Frag) (n : Nat) (lf : List D → Option (List D)) : Sp := fun vs H Q _ => ∃ ds xs, Rws K [] H ds vs ∧ ds.length = n ∧ lf ds = some xs ∧ ∀ p us H', H p = none → Same H H' → H' p = some (.lst us) → Rws K [] H' xs us → Q (.ref p) H'
def Res.nox {α : Type} : Res α → Res α
  | .exc _ _ _ => .bad
  | r => r
def dCall (n : Nat) (m : List D → Sto → Res D) (fs : DEs) : DE := fun g l => (fs g l).bind fun ds l1 => if ds.length == n then (m ds l1).nox else .bad
def dCallP (n : Nat) (pf : List D → Option D) (fs : DEs) : DE := fun g l => (fs g l).bind fun ds l1 => if pus ds && ds.length == n then okO ((pf ds).bind fun d => if pu d then some d else none) l1 else .bad
def dCallL (n : Nat) (lf : List D → Option (List D)) (fs : DEs) : DE := fun g l => (fs g l).bind fun ds l1 => if pus ds && ds.length == n then (match lf ds with
  | some xs => if pus xs then .ok (.adr l1.length) (l1 ++ [.lst xs]) else .bad
  | none => .bad) else .bad
section
variable {X : Cx} {E : XK} {e : Expr} {es : List Expr} {fs : DEs} {pos p : Pos} {k n : Nat} {f : Addr} {fd : FuncData} {ps : List Str} {x : Str}
theorem call_of {m : List D → Sto → Res D} {σ H Q} (h : teOf X.K E (dCall n m fs) σ H Q) : tCall (spD X.K n m) [] E0 (taOf X.K E fs) σ H Q := by
  obtain ⟨ρ, l, g, ow, s, p⟩ := h
  refine ⟨ρ, l, g, ow, s, Post.bind p fun ds l1 ρ1 H1 vs e1 s1 o1 r1 p1 => ?_⟩
  obtain ⟨hc, p1⟩ := Post.ite p1
  rw [List.append_nil]
  refine ⟨ρ1, l1, ds, o1, r1, by simpa using hc, ?_⟩
  cases q : m ds l1 with
  | bad => rw [q] at p1; exact p1
  | ok a l2 => rw [q] at p1; exact p1
  | exc C gs l2 => rw [q] at p1; exact p1.elim
theorem callP_of {pf : List D → Option D} {σ H Q} (h : teOf X.K E (dCallP n pf fs) σ H Q) : tCall (spP X.K n pf) [] E0 (taOf X.K E fs) σ H Q := by
  obtain ⟨ρ, l, g, ow, s, p⟩ := h
  refine ⟨ρ, l, g, ow, s, Post.bind p fun ds l1 ρ1 H1 vs e1 s1 o1 r1 p1 => ?_⟩
  obtain ⟨hc, p1⟩ := Post.ite p1
  rw [Bool.and_eq_true] at hc
  obtain ⟨d, e2, p1⟩ := p1.okO_
  obtain ⟨d', e3, e4⟩ := Option.bind_eq_some_iff.mp e2
  split at e4
  · rename_i hp
    cases e4
    rw [List.append_nil]
    exact ⟨ds, d, Rws.pure_ Tk.refl ds vs hc.1 r1, by simpa using hc.2, e3, fun v H' sm r => p1 ρ1 H' v (same_step sm) (o1.same sm) (Rw.pure_ Tk.refl d v hp r)⟩
  · cases e4
theorem callL_of {lf : List D → Option (List D)} {σ H Q} (h : teOf X.K E (dCallL n lf fs) σ H Q) : tCall (spL X.K n lf) [] E0 (taOf X.K E fs) σ H Q := by
  obtain ⟨ρ, l, g, ow, s, p⟩ := h
  refine ⟨ρ, l, g, ow, s, Post.bind p fun ds l1 ρ1 H1 vs e1 s1 o1 r1 p1 => ?_⟩
  obtain ⟨hc, p1⟩ := Post.ite p1
  rw [Bool.and_eq_true] at hc
  split at p1
  · rename_i xs e2
    obtain ⟨hp, p1⟩ := Post.ite p1
    rw [List.append_nil]
    refine ⟨ds, xs, Rws.pure_ Tk.refl ds vs hc.1 r1, by simpa using hc.2, e2, fun z us H' hz sm hu r => ?_⟩
    have st : Step ρ1 H1 (ρ1 ++ [z]) H' := ⟨⟨[z], rfl⟩, fun a ob q _ => sm a ob q, fun a ha hn => by
      rcases List.mem_append.mp ha with ha | ha
      · exact absurd ha hn
      · simp at ha; subst ha; exact hz⟩
    have px : ∀ (i : Nat) (a : Addr), ρ1[i]? = some a → (ρ1 ++ [z])[i]? = some a := px_app
    exact p1 _ _ _ st (o1.newS hz sm ⟨us, hu, Rws.pure_ Tk.refl xs us hp r⟩) (rw_adr (by rw [← o1.len]; simp))
  · exact p1.elim
end
end Zb

set_option Elab.async false
set_option linter.all false
set_option maxRecDepth 100000
namespace Zb
open PySem L2
/-! ### statements -/
inductive Out where
  | bad | nx (g : Sl) (l : Sto) | rt (d : D) (l : Sto) | bk (g : Sl) (l : Sto) | ct (g : Sl) (l : Sto) | ex (C : Addr) (fs : List (Str × D)) (l : Sto)
abbrev DS := Sl → Sto → Out
def Res.out {α : Type} (r : Res α) (k : α → Sto → Out) : Out := match r with
  | .bad => .bad
  | .ok a l => k a l
  | .exc C fs l => .ex C fs l
section
variable (K : PySem.W.Frag) (E : XK)
def OutP (ρ : List Addr) (H : Hp) (D : Ends) (r : Out) : Prop := match r with
  | .bad => False
  | .nx g l => ∀ ρ' H' σ', Step ρ H ρ' H' → Own K ρ' l H' → Slt K ρ' H' σ' g → D.nx σ' H'
  | .bk g l => ∀ ρ' H' σ', Step ρ H ρ' H' → Own K ρ' l H' → Slt K ρ' H' σ' g → D.bk σ' H'
  | .ct g l => ∀ ρ' H' σ', Step ρ H ρ' H' → Own K ρ' l H' → Slt K ρ' H' σ' g → D.ct σ' H'
  | .rt d l => ∀ ρ' H' v, Step ρ H ρ' H' → Own K ρ' l H' → Rw K ρ' H' d v → D.rt v H'
  | .ex C fs l => ∀ ρ' H' dd vs, Step ρ H ρ' H' → Own K ρ' l H' → H' dd = some (.xd vs) → vs.map (·.1) = fs.map (·.1) → Rws K ρ' H' (fs.map (·.2)) (vs.map (·.2)) → E (.ref C) (some dd) H'
def tsOf (f : DS) : TS := fun D σ H => ∃ ρ l g, Own K ρ l H ∧ Slt K ρ H σ g ∧ OutP K E ρ H D (f g l)
end
structure AS (X : Cx) (E : XK) (st : Stmt) (f : DS) : Prop where
  ps : PS X st (tsOf X.K E f)
structure ASs (X : Cx) (E : XK) (st : List Stmt) (f : DS) : Prop where
  pss : PSs X st (tsOf X.K E f)
theorem PS.imp {X : Cx} {e : Stmt} {t u : TS} (h : PS X e t) (q : ∀ D σ H, u D σ H → t D σ H) : PS X e u := ⟨fun pins s σ H D I k => h.run pins s σ H D I (q D σ H k)⟩
theorem PSs.imp {X : Cx} {e : List Stmt} {t u : TS} (h : PSs X e t) (q : ∀ D σ H, u D σ H → t D σ H) : PSs X e u := ⟨fun pins s σ H D I k => h.run pins s σ H D I (q D σ H k)⟩
section
variable {K : PySem.W.Frag} {E : XK} {ρ ρ1 : List Addr} {H H1 : Hp} {D : Ends}
theorem OutP.step {r : Out} (h : OutP K E ρ H D r) (s : Step ρ H ρ1 H1) : OutP K E ρ1 H1 D r := by
  cases r with
  | bad => exact h
  | nx g l => exact fun ρ' H' σ' s' o q => h ρ' H' σ' (s.trans s') o q
  | bk g l => exact fun ρ' H' σ' s' o q => h ρ' H' σ' (s.trans s') o q
  | ct g l => exact fun ρ' H' σ' s' o q => h ρ' H' σ' (s.trans s') o q
  | rt d l => exact fun ρ' H' v s' o q => h ρ' H' v (s.trans s') o q
  | ex C fs l => exact fun ρ' H' dd vs s' o a b c => h ρ' H' dd vs (s.trans s') o a b c
theorem OutP.of {α β : Type} {rel : List Addr → Hp → α → β → Prop} {r : Res α} {k : α → Sto → Out} {Q : β → Hp → Prop} (h : OutP K E ρ H D (r.out k))
    (hk : ∀ a l1 ρ1 H1 b, r = .ok a l1 → Step ρ H ρ1 H1 → Own K ρ1 l1 H1 → rel ρ1 H1 a b → OutP K E ρ1 H1 D (k a l1) → Q b H1) : Post K E ρ H rel r Q := by
  cases r with
  | bad => exact h
  | ok a l1 => exact fun ρ1 H1 b s o q => hk a l1 ρ1 H1 b rfl s o q (OutP.step (show OutP K E ρ H D (k a l1) from h) s)
  | exc C fs l1 => exact h
theorem OutP.ite {c : Bool} {r : Out} (h : OutP K E ρ H D (if c then r else .bad)) : c = true ∧ OutP K E ρ H D r := by
  cases c with
  | true => exact ⟨rfl, by simpa using h⟩
  | false => exact absurd (show OutP K E ρ H D .bad by simpa using h) (fun z => z)
end
/-! the small ones -/
def sNx : DS := fun g l => .nx g l
def sSeq (f h : DS) : DS := fun g l => match f g l with
  | .nx g1 l1 => h g1 l1
  | r => r
def sExpr (f : DE) : DS := fun g l => (f g l).out fun _ l1 => .nx g l1
def sRet (f : DE) : DS := fun g l => (f g l).out fun d l1 => .rt d l1
def sRetN : DS := fun _ l => .rt .non l
def sIf (c : DB) (f h : DS) : DS := fun g l => (c g l).out fun b l1 => if b = true then f g l1 else h g l1
def sBk : DS := fun g l => .bk g l
def sCt : DS := fun g l => .ct g l
def sSet (i : Nat) (f : DE) : DS := fun g l => (f g l).out fun d l1 => .nx (g.set i (some d)) l1
section
variable {X : Cx} {E : XK} {st : Stmt} {rest : List Stmt} {t u : DS} {e a b c : Expr} {f fa fb fc : DE} {pos pos' : Pos} {ba : DB} {body orelse : List Stmt}
theorem as_nil : ASs X E [] sNx := ⟨PSs.imp pss_nil fun D σ H ⟨ρ, l, g, o, s, p⟩ => p ρ H σ Step.refl o s⟩
theorem as_pass : AS X E (.Pass pos) sNx := ⟨PS.imp ps_pass fun D σ H ⟨ρ, l, g, o, s, p⟩ => p ρ H σ Step.refl o s⟩
theorem as_break : AS X E (.Break pos) sBk := ⟨PS.imp ps_break fun D σ H ⟨ρ, l, g, o, s, p⟩ => p ρ H σ Step.refl o s⟩
theorem as_cont : AS X E (.Continue pos) sCt := ⟨PS.imp ps_continue fun D σ H ⟨ρ, l, g, o, s, p⟩ => p ρ H σ Step.refl o s⟩
theorem as_one (h : AS X E st t) : ASs X E [st] t := ⟨pss_one h.ps⟩
theorem as_cons (h : AS X E st t) (k : ASs X E rest u) : ASs X E (st :: rest) (sSeq t u) := ⟨PSs.imp (pss_cons h.ps k.pss) fun D σ H ⟨ρ, l, g, o, s, p⟩ => by
  refine ⟨ρ, l, g, o, s, ?_⟩
  unfold sSeq at p
  cases q : t g l with
  | bad => rw [q] at p; exact p.elim
  | nx g1 l1 =>
    rw [q] at p
    exact fun ρ' H' σ' s' o' z => ⟨ρ', l1, g1, o', z, p.step s'⟩
  | rt d l1 => rw [q] at p; exact p
  | bk g1 l1 => rw [q] at p; exact p
  | ct g1 l1 => rw [q] at p; exact p
  | ex C fs l1 => rw [q] at p; exact p⟩
theorem as_expr (h : AE X E e f) (hs : swapsWith e none pos.line X.env = pure false := by rfl) : AS X E (.Expr e pos) (sExpr f) := ⟨PS.imp (ps_expr h.pe hs) fun D σ H ⟨ρ, l, g, o, s, p⟩ =>
  ⟨ρ, l, g, o, s, OutP.of (rel := rD X.K) p fun d l1 ρ1 H1 v e1 s1 o1 r1 p1 => p1 ρ1 H1 σ Step.refl o1 (s.step s1 o)⟩⟩
theorem as_ret (h : AE X E e f) : AS X E (.Return (some e) pos) (sRet f) := ⟨PS.imp (ps_ret h.pe) fun D σ H ⟨ρ, l, g, o, s, p⟩ =>
  ⟨ρ, l, g, o, s, OutP.of (rel := rD X.K) p fun d l1 ρ1 H1 v e1 s1 o1 r1 p1 => p1 ρ1 H1 v Step.refl o1 r1⟩⟩
theorem as_retN : AS X E (.Return none pos) sRetN := ⟨PS.imp ps_retN fun D σ H ⟨ρ, l, g, o, s, p⟩ => p ρ H .non Step.refl o rw_non⟩
theorem as_if (h : AT X E c ba) (h1 : ASs X E body t) (h2 : ASs X E orelse u) : AS X E (.If c body orelse pos) (sIf ba t u) := ⟨PS.imp (ps_if h.pt h1.pss h2.pss) fun D σ H ⟨ρ, l, g, o, s, p⟩ =>
  ⟨ρ, l, g, o, s, OutP.of (rel := rB) p fun d l1 ρ1 H1 v e1 s1 o1 r1 p1 => by
    cases r1
    cases d with
    | true => exact ⟨ρ1, l1, g, o1, s.step s1 o, p1⟩
    | false => exact ⟨ρ1, l1, g, o1, s.step s1 o, p1⟩⟩⟩
theorem as_set {i : Nat} {x : Str} (hN : X.N.Nodup) (hi : X.N[i]? = some x) (hx : Loc X.env.scope x) (h : AE X E e f) (hs : swapsWith e (some (.Name x pos')) pos.line X.env = pure false := by rfl)
    (hf : X.fn x = true ∨ X.env.scope.names.lookup x = some .local := by first | exact .inl rfl | exact .inr rfl | assumption) : AS X E (.Assign [.Name x pos'] e pos) (sSet i f) := ⟨PS.imp (ps_set hN hi hx h.pe hs hf) fun D σ H ⟨ρ, l, g, o, s, p⟩ =>
  ⟨ρ, l, g, o, s, OutP.of (rel := rD X.K) p fun d l1 ρ1 H1 v e1 s1 o1 r1 p1 => p1 ρ1 H1 _ Step.refl o1 ((s.step s1 o).set i r1)⟩⟩
/-! targets -/
def tgOf (K : PySem.W.Frag) (f : D → Sto → Sl → Option Sl) : TG := fun v σ H Q => ∃ ρ l g d, Own K ρ l H ∧ Slt K ρ H σ g ∧ Rw K ρ H d v ∧ match f d l g with
  | some g' => ∀ σ', Slt K ρ H σ' g' → Q σ' H
  | none => False
def setsD : List Nat → List D → Sl → Option Sl
  | [], [], g => some g
  | i :: is, d :: ds, g => setsD is ds (g.set i (some d))
  | _, _, _ => none
def tgsOf (K : PySem.W.Frag) (is : List Nat) : TGs := fun vs σ H Q => ∃ ρ l g ds, Own K ρ l H ∧ Slt K ρ H σ g ∧ Rws K ρ H ds vs ∧ match setsD is ds g with
  | some g' => ∀ σ', Slt K ρ H σ' g' → Q σ' H
  | none => False
structure AG (X : Cx) (tg : Expr) (f : D → Sto → Sl → Option Sl) : Prop where
  pg : PG X tg (tgOf X.K f)
structure AGs (X : Cx) (tgs : List Expr) (is : List Nat) : Prop where
  pgs : PGs X tgs (tgsOf X.K is)
theorem PG.imp {X : Cx} {e : Expr} {t u : TG} (h : PG X e t) (q : ∀ v σ H Q, u v σ H Q → t v σ H Q) : PG X e u := ⟨fun pins s σ H v w Q I r k => h.run pins s σ H v w Q I r (q v σ H Q k)⟩
theorem PGs.imp {X : Cx} {e : List Expr} {t u : TGs} (h : PGs X e t) (q : ∀ v σ H Q, u v σ H Q → t v σ H Q) : PGs X e u := ⟨fun pins s σ H v w Q I r k => h.run pins s σ H v w Q I r (q v σ H Q k)⟩
def gN (i : Nat) : D → Sto → Sl → Option Sl := fun d _ g => some (g.set i (some d))
def gT (is : List Nat) : D → Sto → Sl → Option Sl := fun d _ g => match d with
  | .tup ds => setsD is ds g
  | _ => none
theorem ag_name {i : Nat} {x : Str} (hN : X.N.Nodup) (hi : X.N[i]? = some x) (hx : Loc X.env.scope x) (hf : X.fn x = true ∨ X.env.scope.names.lookup x = some .local := by first | exact .inl rfl | exact .inr rfl | assumption) : AG X (.Name x pos) (gN i) :=
  ⟨PG.imp (pg_name hN hi hx hf) fun v σ H Q ⟨ρ, l, g, d, o, s, r, p⟩ => p _ (s.set i r)⟩
theorem ags_nil : AGs X [] [] := ⟨PGs.imp pgs_nil fun vs σ H Q ⟨ρ, l, g, ds, o, s, r, p⟩ => by
  cases ds with
  | nil => simp only [Rws] at r; exact ⟨r, p _ s⟩
  | cons d ds => exact p.elim⟩
theorem ags_cons {x : Str} {i : Nat} {es : List Expr} {is : List Nat} (hN : X.N.Nodup) (hi : X.N[i]? = some x) (hx : Loc X.env.scope x) (k : AGs X es is)
    (hf : X.fn x = true ∨ X.env.scope.names.lookup x = some .local := by first | exact .inl rfl | exact .inr rfl | assumption)
    (hs : (assignEach (.Name x pos :: es) X.env).map (·.2) = assign (.Name x pos) X.env :: (assignEach es X.env).map (·.2) := by rfl) : AGs X (.Name x pos :: es) (i :: is) :=
  ⟨PGs.imp (pgs_cons (pg_name hN hi hx hf) k.pgs hs) fun vs σ H Q ⟨ρ, l, g, ds, o, s, r, p⟩ => by
    cases ds with
    | nil => exact p.elim
    | cons d ds =>
      simp only [Rws] at r
      obtain ⟨v, u, rfl, r1, r2⟩ := r
      exact ⟨v, u, rfl, ρ, l, g.set i (some d), ds, o, s.set i r1, r2, p⟩⟩
theorem setsD_len : ∀ {is : List Nat} {ds : List D} {g g' : Sl}, setsD is ds g = some g' → ds.length = is.length
  | [], [], _, _, _ => rfl
  | i :: is, d :: ds, g, g', h => by
    have := setsD_len (is := is) (ds := ds) h
    simp [this]
  | [], _ :: _, _, _, h => by cases h
  | _ :: _, [], _, _, h => by cases h
theorem ag_tup {es : List Expr} {k : Nat} {is : List Nat} (hc : X.calm = true) (h : AGs X es is)
    (hn : (assignEach es X.env).length = is.length := by rfl) (hst : (assignEach es X.env).findIdx? (·.1) = none := by rfl) : AG X (.Tuple es k pos) (gT is) := ⟨PG.imp (pg_tup hc h.pgs hn hst) fun v σ H Q ⟨ρ, l, g, d, o, s, r, p⟩ => by
  cases d with
  | tup ds =>
    obtain ⟨a, vs, rfl, t, q⟩ := r.tup_
    have hl : ds.length = is.length := by
      cases z : setsD is ds g with
      | none => simp only [gT, z] at p
      | some g' => exact setsD_len z
    exact ⟨a, vs, rfl, t, by rw [q.length, hl], ρ, l, g, ds, o, s, q, p⟩
  | _ => exact p.elim⟩
def sAsg (gt : D → Sto → Sl → Option Sl) (f : DE) : DS := fun g l => (f g l).out fun d l1 => match gt d l1 g with
  | some g' => .nx g' l1
  | none => .bad
theorem as_asg {tg : Expr} {gt : D → Sto → Sl → Option Sl} (he : AE X E e f) (hg : AG X tg gt) (hs : swapsWithSole [tg] e pos.line X.env = pure false := by rfl) (hw : swappedStores [tg] e X.env = pure none := by rfl)
    (h1 : (assignEach [tg] X.env).map (·.2) = [assign tg X.env] := by rfl) : AS X E (.Assign [tg] e pos) (sAsg gt f) := ⟨PS.imp (ps_asg he.pe hg.pg hs hw h1) fun D σ H ⟨ρ, l, g, o, s, p⟩ =>
  ⟨ρ, l, g, o, s, OutP.of (rel := rD X.K) p fun d l1 ρ1 H1 v e1 s1 o1 r1 p1 => ⟨ρ1, l1, g, d, o1, s.step s1 o, r1, by
    cases q : gt d l1 g with
    | none => rw [q] at p1; exact p1
    | some g' => rw [q] at p1; exact fun σ' z => p1 ρ1 H1 σ' Step.refl o1 z⟩⟩⟩
/-- a, b = x, y -/
def sPar (i j : Nat) (fs : DEs) : DS := fun g l => (fs g l).out fun ds l1 => match ds with
  | [d, d'] => .nx ((g.set i (some d)).set j (some d')) l1
  | _ => .bad
def sPar3 (i j k : Nat) (fs : DEs) : DS := fun g l => (fs g l).out fun ds l1 => match ds with
  | [d, d', d''] => .nx (((g.set i (some d)).set j (some d')).set k (some d'')) l1
  | _ => .bad
theorem par_of {i j : Nat} {fs : DEs} {D σ H} (h : tsOf X.K E (sPar i j fs) D σ H) : tPar i j (taOf X.K E fs) D σ H := by
  obtain ⟨ρ, l, g, o, s, p⟩ := h
  refine ⟨ρ, l, g, o, s, OutP.of (rel := rDs X.K) p fun ds l1 ρ1 H1 vs e1 s1 o1 r1 p1 => ?_⟩
  split at p1
  · obtain ⟨v, v', rfl, w1, w2⟩ := r1.two_
    exact ⟨v, v', rfl, p1 ρ1 H1 _ Step.refl o1 (((s.step s1 o).set i w1).set j w2)⟩
  · exact p1.elim
theorem as_par {i j : Nat} {x y : Str} {px py pt : Pos} {kt k2 pt2} {fs : DEs} (hc : X.calm = true) (hN : X.N.Nodup) (hi : X.N[i]? = some x) (hj : X.N[j]? = some y) (hij : i ≠ j)
    (hx : X.env.scope.names.lookup x = some .local) (hy : X.env.scope.names.lookup y = some .local) (ha : AA X E [a, b] fs)
    (hw : swappedStores [.Tuple [.Name x px, .Name y py] kt pt] (.Tuple [a, b] k2 pt2) X.env = pure (some [x, y]))
    (hs : swapsWithSole [.Tuple [.Name x px, .Name y py] kt pt] (.Tuple [a, b] k2 pt2) pos.line X.env = pure false := by rfl) :
    AS X E (.Assign [.Tuple [.Name x px, .Name y py] kt pt] (.Tuple [a, b] k2 pt2) pos) (sPar i j fs) := ⟨PS.imp (ps_par hc hN hi hj hij hx hy ha.pa hw hs) fun D σ H h => par_of h⟩
theorem Rws.three_ {K : PySem.W.Frag} {ρ : List Addr} {H : Hp} {d d' d'' : D} {vs : List V} (r : Rws K ρ H [d, d', d''] vs) : ∃ v v' v'', vs = [v, v', v''] ∧ Rw K ρ H d v ∧ Rw K ρ H d' v' ∧ Rw K ρ H d'' v'' := by
  simp only [Rws] at r
  obtain ⟨v, u, rfl, r1, v', u', rfl, r2, v'', u'', rfl, r3, rfl⟩ := r
  exact ⟨v, v', v'', rfl, r1, r2, r3⟩
theorem par3_of {i j k : Nat} {fs : DEs} {D σ H} (h : tsOf X.K E (sPar3 i j k fs) D σ H) : tPar3 i j k (taOf X.K E fs) D σ H := by
  obtain ⟨ρ, l, g, o, s, p⟩ := h
  refine ⟨ρ, l, g, o, s, OutP.of (rel := rDs X.K) p fun ds l1 ρ1 H1 vs e1 s1 o1 r1 p1 => ?_⟩
  split at p1
  · obtain ⟨v, v', v'', rfl, w1, w2, w3⟩ := r1.three_
    exact ⟨v, v', v'', rfl, p1 ρ1 H1 _ Step.refl o1 ((((s.step s1 o).set i w1).set j w2).set k w3)⟩
  · exact p1.elim
/-- xs[i] = e -/
def hSetL : D → D → D → Sto → Option Sto
  | .adr n, .int i, d, l => match l[n]? with
    | some (.lst ds) => match ixN ds.length i with
      | some j => some (l.set n (.lst (ds.set j d)))
      | none => none
    | _ => none
  | _, _, _, _ => none
def sSub (fo fi f : DE) : DS := fun g l => (f g l).out fun d l1 => (fo g l1).out fun x l2 => (fi g l2).out fun y l3 => match hSetL x y d l3 with
  | some l4 => .nx g l4
  | none => .bad
theorem setL_of {K : PySem.W.Frag} {ρ : List Addr} {l l' : Sto} {H : Hp} {dx dy d : D} {x y v : V} {Q : Hp → Prop} (o : Own K ρ l H) (rx : Rw K ρ H dx x) (ry : Rw K ρ H dy y) (rv : Rw K ρ H d v) (h : hSetL dx dy d l = some l')
    (q : ∀ H', Step ρ H ρ H' → Own K ρ l' H' → Q H') : rSetL x y v H Q := by
  unfold hSetL at h
  split at h
  · split at h
    · rename_i es e1
      split at h
      · rename_i j e2
        cases h
        obtain ⟨a, us, rfl, hn, h1, r1⟩ := o.lst rx e1
        obtain ⟨o1, s1⟩ := o.set hn e1 (r1.set rv j)
        rw [ry.int_]
        exact ⟨a, us, _, j, rfl, rfl, h1, by rw [r1.length]; exact e2, q _ s1 o1⟩
      · cases h
    · cases h
  · cases h
theorem as_sub {oo ii : Expr} {fo fi : DE} (he : AE X E e f) (ho : AE X E oo fo) (hi : AE X E ii fi)
    (ha : ∀ v, assign (.Subscript oo ii pos') X.env v = (do
      let ov ← holding [v] (eval oo X.env)
      let iv ← holding [v, ov] (eval ii X.env)
      standAt pos'
      holding [v, ov, iv] (setItem ov iv v)
      release [v, ov, iv] []) := by intro _; rfl)
    (hs : swapsWithSole [.Subscript oo ii pos'] e pos.line X.env = pure false := by rfl) (hw : swappedStores [.Subscript oo ii pos'] e X.env = pure none := by rfl)
    (h1 : (assignEach [.Subscript oo ii pos'] X.env).map (·.2) = [assign (.Subscript oo ii pos') X.env] := by rfl) :
    AS X E (.Assign [.Subscript oo ii pos'] e pos) (sSub fo fi f) := ⟨PS.imp (ps_asg he.pe (pg_sub ho.pe hi.pe set_list ha) hs hw h1) fun D σ H ⟨ρ, l, g, o, s, p⟩ =>
  ⟨ρ, l, g, o, s, OutP.of (rel := rD X.K) p fun d l1 ρ1 H1 v e1 s1 o1 r1 p1 =>
    ⟨ρ1, l1, g, o1, s.step s1 o, OutP.of (rel := rD X.K) p1 fun x l2 ρ2 H2 xv e2 s2 o2 r2 p2 =>
      ⟨ρ2, l2, g, o2, (s.step s1 o).step s2 o1, OutP.of (rel := rD X.K) p2 fun y l3 ρ3 H3 yv e3 s3 o3 r3 p3 => by
        cases q : hSetL x y d l3 with
        | none => rw [q] at p3; exact p3.elim
        | some l4 =>
          rw [q] at p3
          exact setL_of o3 (s3.rw o2 r2) r3 (s3.rw o2 (s2.rw o1 r1)) q fun H' s4 o4 => p3 ρ3 H' σ s4 o4 ((((s.step s1 o).step s2 o1).step s3 o2).step s4 o3)⟩⟩⟩⟩
/-- x += e of a name, by an operator's abstract function -/
def sAug (i : Nat) (h : D → D → Sto → Res D) (f : DE) : DS := fun g l => match g[i]? with
  | some (some x) => (f g l).out fun y l1 => (h x y l1).out fun z l2 => .nx (g.set i (some z)) l2
  | _ => .bad
theorem as_aug {i : Nat} {x : Str} {op : Operator} {r : R2} {h : D → D → Sto → Res D} (hN : X.N.Nodup) (hi : X.N[i]? = some x) (hx : Loc X.env.scope x) (ho : PIp X op r) (hs : OpS X.K E r h) (he : AE X E e f)
    (hf : X.fn x = true ∨ X.env.scope.names.lookup x = some .local := by first | exact .inl rfl | exact .inr rfl | assumption) : AS X E (.AugAssign (.Name x pos') op e pos) (sAug i h f) := ⟨PS.imp (ps_aug hN hi hx he.pe ho hf) fun D σ H ⟨ρ, l, g, o, s, p⟩ => by
  unfold sAug at p
  split at p
  · rename_i d hd
    obtain ⟨v, hv, r0⟩ := s.at_ i d hd
    refine ⟨v, hv, ρ, l, g, o, s, OutP.of (rel := rD X.K) p fun y l1 ρ1 H1 u e1 s1 o1 r1 p1 => ?_⟩
    refine hs ρ1 l1 H1 d y v u _ o1 (s1.rw o r0) r1 (OutP.of (rel := rD X.K) p1 fun z l2 ρ2 H2 w e2 s2 o2 r2 p2 => ?_)
    exact p2 ρ2 H2 _ Step.refl o2 (((s.step s1 o).step s2 o1).set i r2)
  · exact p.elim⟩
theorem pip_of {op : Operator} {r : R2} (h : OpR X (inplaceOp op) r) : PIp X op r := fun pins s σ H x y v u Q I rx ry q => h pins s σ H x y v u Q I rx ry q
theorem hs_int0 {f : Int → Int → Int} : OpS X.K E (rI0 fun i j => .int (f i j)) (hInt yes2 f) := fun ρ l H dx dy x y Q o rx ry p => by
  unfold hInt at p
  split at p
  · obtain ⟨_, p⟩ := Post.ite p
    rw [rx.int_, ry.int_]
    exact ⟨_, _, rfl, rfl, p.here o rw_int⟩
  · exact p.elim
/-- xs[i] += e -/
def rGetL (K : PySem.W.Frag) : V → V → Hp → VK → Prop := fun x y H Q => ∃ p xs i v, x = .ref p ∧ y = .int i ∧ SqL K H p xs ∧ 0 ≤ i ∧ i < 2 ^ 62 ∧ xs[i.toNat]? = some v ∧ Q v H
theorem get_list : PGet X (rGetL X.K) := fun pins s σ H o i ov iv Q I ro ri h => by
  obtain ⟨p, xs, k, v, rfl, rfl, hq, h0, h1, he, q⟩ := h
  cases ro
  obtain ⟨t, rfl⟩ := ri
  obtain ⟨its, r, pl, hz⟩ := I.list hq
  obtain ⟨w, ew, rw'⟩ := r.get he
  exact wpAny_getItem_list pl.isList h0 (by omega) (by simpa using ew) ⟨v, H, I, rw', q⟩
def hGetL : D → D → Sto → Res D
  | .adr n, .int i, l => match l[n]? with
    | some (.lst ds) => if decide (0 ≤ i) && mid i then okO ds[i.toNat]? l else .bad
    | _ => .bad
  | _, _, _ => .bad
theorem hs_getL : OpS X.K E (rGetL X.K) hGetL := fun ρ l H dx dy x y Q o rx ry p => by
  unfold hGetL at p
  split at p
  · split at p
    · rename_i es e1
      obtain ⟨hc, p⟩ := Post.ite p
      rw [Bool.and_eq_true] at hc
      obtain ⟨d, e, p⟩ := p.okO_
      obtain ⟨a, us, rfl, hn, h1, r1⟩ := o.lst rx e1
      obtain ⟨v, e3, r2⟩ := r1.get e
      rw [ry.int_]
      exact ⟨a, us, _, v, rfl, rfl, SqL.of h1, of_decide_eq_true hc.1, (mid_ hc.2).2, e3, p.here o r2⟩
    · exact p.elim
  · exact p.elim
def sAugS (h : D → D → Sto → Res D) (fo fi f : DE) : DS := fun g l => (fo g l).out fun x l1 => (fi g l1).out fun y l2 => (hGetL x y l2).out fun z l3 => (f g l3).out fun w l4 => (h z w l4).out fun n l5 => match hSetL x y n l5 with
  | some l6 => .nx g l6
  | none => .bad
theorem as_augS {oo ii : Expr} {fo fi : DE} {op : Operator} {r : R2} {h : D → D → Sto → Res D} {tpos : Pos} (ho : AE X E oo fo) (hi : AE X E ii fi) (he : AE X E e f) (hp : PIp X op r) (hs : OpS X.K E r h)
    (ha : ∀ ov iv new, augStore ii ov iv new = (do holding [new, ov, iv] (setItem ov iv new); release [new, ov, iv] []; pure .next) := by intros; rfl) : AS X E (.AugAssign (.Subscript oo ii tpos) op e pos) (sAugS h fo fi f) := ⟨PS.imp (ps_augS ho.pe hi.pe get_list he.pe hp set_list ha) fun D σ H ⟨ρ, l, g, o, s, p⟩ => by
  refine ⟨ρ, l, g, o, s, OutP.of (rel := rD X.K) p fun x l1 ρ1 H1 xv e1 s1 o1 r1 p1 => ?_⟩
  have t1 := s.step s1 o
  refine ⟨ρ1, l1, g, o1, t1, OutP.of (rel := rD X.K) p1 fun y l2 ρ2 H2 yv e2 s2 o2 r2 p2 => ?_⟩
  have t2 := t1.step s2 o1
  refine hs_getL (E := E) ρ2 l2 H2 x y xv yv _ o2 (s2.rw o1 r1) r2 (OutP.of (rel := rD X.K) p2 fun z l3 ρ3 H3 zv e3 s3 o3 r3 p3 => ?_)
  have t3 := t2.step s3 o2
  refine ⟨ρ3, l3, g, o3, t3, OutP.of (rel := rD X.K) p3 fun w l4 ρ4 H4 wv e4 s4 o4 r4 p4 => ?_⟩
  have t4 := t3.step s4 o3
  refine hs ρ4 l4 H4 z w zv wv _ o4 (s4.rw o3 r3) r4 (OutP.of (rel := rD X.K) p4 fun n l5 ρ5 H5 nv e5 s5 o5 r5 p5 => ?_)
  have t5 := t4.step s5 o4
  cases q : hSetL x y n l5 with
  | none => rw [q] at p5; exact p5.elim
  | some l6 =>
    rw [q] at p5
    have x5 : Rw X.K ρ5 H5 x xv := s5.rw o4 (s4.rw o3 (s3.rw o2 (s2.rw o1 r1)))
    have y5 : Rw X.K ρ5 H5 y yv := s5.rw o4 (s4.rw o3 (s3.rw o2 r2))
    exact setL_of o5 x5 y5 r5 q fun H' s6 o6 => p5 ρ5 H' σ s6 o6 (t5.step s6 o5)⟩
/-! while -/
def sWhile : Nat → DB → DS → DS
  | 0, _, _ => fun _ _ => .bad
  | n + 1, c, b => fun g l => (c g l).out fun k l1 => if k = true then (match b g l1 with
    | .nx g2 l2 => sWhile n c b g2 l2
    | .ct g2 l2 => sWhile n c b g2 l2
    | .bk g2 l2 => .nx g2 l2
    | r => r) else .nx g l1
theorem as_while {n : Nat} (hp : PassesOwn (model X.prog X.w) X.A X.env X.xe) (hc : AT X E c ba) (hb : ASs X E body t) : AS X E (.While c body [] pos) (sWhile n ba t) := ⟨PS.imp (ps_while hp hc.pt hb.pss) fun D σ H h => by
  refine ⟨fun m σ H => tsOf X.K E (sWhile m ba t) D σ H, ⟨n, h⟩, fun m σ H w => ?_⟩
  obtain ⟨ρ, l, g, o, s, p⟩ := w
  cases m with
  | zero => exact p.elim
  | succ m =>
    refine ⟨ρ, l, g, o, s, OutP.of (rel := rB) p fun k l1 ρ1 H1 b e1 s1 o1 r1 p1 => ?_⟩
    cases r1
    cases k with
    | false => exact p1 ρ1 H1 σ Step.refl o1 (s.step s1 o)
    | true =>
      rw [if_pos rfl] at p1 ⊢
      refine ⟨fun σ' H' => tsOf X.K E (sWhile m ba t) D σ' H', fun σ' H' z => ⟨m, Nat.lt_succ_self _, z⟩, ρ1, l1, g, o1, s.step s1 o, ?_⟩
      cases q : t g l1 with
      | bad => rw [q] at p1; exact p1.elim
      | nx g2 l2 => rw [q] at p1; exact fun ρ' H' σ' s' o' z => ⟨ρ', l2, g2, o', z, OutP.step p1 s'⟩
      | ct g2 l2 => rw [q] at p1; exact fun ρ' H' σ' s' o' z => ⟨ρ', l2, g2, o', z, OutP.step p1 s'⟩
      | bk g2 l2 => rw [q] at p1; exact fun ρ' H' σ' s' o' z => p1 ρ' H' σ' s' o' z
      | rt d l2 => rw [q] at p1; exact p1
      | ex C fs l2 => rw [q] at p1; exact p1⟩
end
end Zb

set_option Elab.async false
set_option linter.all false
set_option maxRecDepth 100000
namespace Zb
open PySem L2
/-! ### what is walked -/
structure ItD where
  ds : List D
  src : Option Nat
def ItD.ok (it : ItD) (l : Sto) : Prop := match it.src with
  | none => True
  | some n => l[n]? = some (.lst it.ds)
structure JR (K : PySem.W.Frag) (ρ0 : List Addr) (H0 : Hp) (it : ItD) (J : It) : Prop where
  go : ∀ i ρ l H, i < it.ds.length → Own K ρ l H → Step ρ0 H0 ρ H → it.ok l → J.go i H
  yld : ∀ i ρ l H x H', i < it.ds.length → Own K ρ l H → Step ρ0 H0 ρ H → it.ok l → J.yld i H x H' → ∃ d, it.ds[i]? = some d ∧ Own K ρ l H' ∧ Step ρ H ρ H' ∧ Rw K ρ H' d x
  stop : ∀ ρ l H, Own K ρ l H → Step ρ0 H0 ρ H → it.ok l → J.stop it.ds.length H
abbrev DI := Sl → Sto → Res ItD
def iOf (K : PySem.W.Frag) (E : XK) (fi : DI) : TI := fun σ H R => ∃ ρ l g, Own K ρ l H ∧ Slt K ρ H σ g ∧ Post K E ρ H (fun ρ H it J => JR K ρ H it J) (fi g l) R
structure AI (X : Cx) (E : XK) (tg iter : Expr) (fi : DI) : Prop where
  pi : PI X tg iter (iOf X.K E fi)
theorem PI.imp {X : Cx} {tg e : Expr} {t u : TI} (h : PI X tg e t) (q : ∀ σ H R, u σ H R → t σ H R) : PI X tg e u := ⟨fun pins s σ H R I k => h.run pins s σ H R I (q σ H R k)⟩
theorem PI.or {X : Cx} {tg e : Expr} {t u : TI} (h : PI X tg e t) (k : PI X tg e u) : PI X tg e (fun σ H R => t σ H R ∨ u σ H R) := ⟨fun pins s σ H R I z => z.elim (h.run pins s σ H R I) (k.run pins s σ H R I)⟩
section
variable {X : Cx} {E : XK} {tg e a b c : Expr} {es : List Expr} {f : DE} {fs : DEs} {pos p : Pos}
def signs (z : Str) : List D := z.cps.toList.map fun c => .str ⟨#[c]⟩
def dIt (f : DE) : DI := fun g l => (f g l).bind fun d l1 => match d with
  | .tup ds => .ok ⟨ds, none⟩ l1
  | .adr n => match l1[n]? with
    | some (.lst ds) => .ok ⟨ds, some n⟩ l1
    | _ => .bad
  | .ro ns => .ok ⟨ns.map D.int, none⟩ l1
  | .str z => .ok ⟨signs z, none⟩ l1
  | _ => .bad
theorem jr_tup {K : PySem.W.Frag} {ρ0 : List Addr} {l0 : Sto} {H0 : Hp} {q : Addr} {vs : List V} {ds : List D} (o0 : Own K ρ0 l0 H0) (t : SqT K H0 q vs) (r : Rws K ρ0 H0 ds vs) : JR K ρ0 H0 ⟨ds, none⟩ (Itt K q) where
  go := fun i ρ l H hi o s _ => by
    have t1 := s.tk o0 _ _ t
    have hl : i < vs.length := by rw [r.length]; exact hi
    exact ⟨vs, vs[i], t1, List.getElem?_eq_getElem hl⟩
  yld := fun i ρ l H x H' hi o s _ y => by
    obtain ⟨rfl, y⟩ := y
    have t1 := s.tk o0 _ _ t
    obtain ⟨d, e1, e2⟩ := (s.rws o0 r).getV (y vs t1)
    exact ⟨d, e1, o, Step.refl, e2⟩
  stop := fun ρ l H o s _ => ⟨vs, s.tk o0 _ _ t, by rw [r.length]; exact Nat.le_refl _⟩
theorem jr_lst {K : PySem.W.Frag} {ρ0 : List Addr} {l0 : Sto} {H0 : Hp} {q : Addr} {n : Nat} {ds : List D} (o0 : Own K ρ0 l0 H0) (hn : ρ0[n]? = some q) : JR K ρ0 H0 ⟨ds, some n⟩ (Itl K q) where
  go := fun i ρ l H hi o s k => by
    have k : l[n]? = some (.lst ds) := k
    obtain ⟨vs, h1, r⟩ := o.at_ n _ q k (s.px n q hn)
    have hl : i < vs.length := by rw [r.length]; exact hi
    exact ⟨vs, vs[i], SqL.of h1, List.getElem?_eq_getElem hl⟩
  yld := fun i ρ l H x H' hi o s k y => by
    obtain ⟨rfl, y⟩ := y
    have k : l[n]? = some (.lst ds) := k
    obtain ⟨vs, h1, r⟩ := o.at_ n _ q k (s.px n q hn)
    obtain ⟨d, e1, e2⟩ := r.getV (y vs (SqL.of h1))
    exact ⟨d, e1, o, Step.refl, e2⟩
  stop := fun ρ l H o s k => by
    have k : l[n]? = some (.lst ds) := k
    obtain ⟨vs, h1, r⟩ := o.at_ n _ q k (s.px n q hn)
    exact ⟨vs, SqL.of h1, by rw [r.length]; exact Nat.le_refl _⟩
theorem jr_ro {K : PySem.W.Frag} {ρ0 : List Addr} {l0 : Sto} {H0 : Hp} {q : Addr} {ns : List Int} (o0 : Own K ρ0 l0 H0) (t : SqS K ρ0 H0 q (ns.map V.int)) : JR K ρ0 H0 ⟨ns.map D.int, none⟩ (Itl K q) where
  go := fun i ρ l H hi o s _ => by
    have t1 := ((s.mn o0).ss _ _ t).sq
    have hl : i < (ns.map V.int).length := by simpa using hi
    exact ⟨_, (ns.map V.int)[i], t1, List.getElem?_eq_getElem hl⟩
  yld := fun i ρ l H x H' hi o s _ y => by
    obtain ⟨rfl, y⟩ := y
    have t1 := ((s.mn o0).ss _ _ t).sq
    obtain ⟨d, e1, e2⟩ := (rws_ints (K := K) (ρ := ρ) (H := H') ns).getV (y _ t1)
    exact ⟨d, e1, o, Step.refl, e2⟩
  stop := fun ρ l H o s _ => ⟨_, ((s.mn o0).ss _ _ t).sq, by simp⟩
theorem jr_str {K : PySem.W.Frag} {ρ0 : List Addr} {H0 : Hp} {z : Str} : JR K ρ0 H0 ⟨signs z, none⟩ (Its z) where
  go := fun i ρ l H hi o s _ => by simpa [signs, Its] using hi
  yld := fun i ρ l H x H' hi o s _ y => by
    obtain ⟨rfl, c, e, rfl⟩ := y
    exact ⟨.str ⟨#[c]⟩, by simp [signs, e], o, Step.refl, rw_str⟩
  stop := fun ρ l H o s _ => by simp [signs, Its]
theorem ai_of (h : AE X E e f) : AI X E tg e (dIt f) := ⟨PI.imp (PI.or (pi_list h.pe) (PI.or (pi_tup h.pe) (pi_str h.pe))) fun σ H R ⟨ρ, l, g, o, s, p⟩ => by
  unfold dIt at p
  cases q : f g l with
  | bad => rw [q] at p; exact p.elim
  | exc C fs l1 =>
    rw [q] at p
    exact .inl ⟨ρ, l, g, o, s, by rw [q]; exact p⟩
  | ok d l1 =>
    rw [q] at p
    simp only [Res.bind] at p
    have go : ∀ (Q : V → Hp → Prop), (∀ ρ1 H1 v, Step ρ H ρ1 H1 → Own X.K ρ1 l1 H1 → Rw X.K ρ1 H1 d v → Q v H1) → teOf X.K E f σ H Q := fun Q k => ⟨ρ, l, g, o, s, by rw [q]; exact k⟩
    split at p
    · refine .inr (.inl (go _ fun ρ1 H1 v s1 o1 r1 => ?_))
      obtain ⟨a, vs, rfl, t, r⟩ := r1.tup_
      exact ⟨a, rfl, ⟨vs, t⟩, p ρ1 H1 _ s1 o1 (jr_tup o1 t r)⟩
    · split at p
      · rename_i n _ ds e1
        refine .inl (go _ fun ρ1 H1 v s1 o1 r1 => ?_)
        obtain ⟨a, vs, rfl, hn, h1, r⟩ := o1.lst r1 e1
        exact ⟨a, rfl, ⟨vs, SqL.of h1⟩, p ρ1 H1 _ s1 o1 (jr_lst o1 hn)⟩
      · exact p.elim
    · refine .inl (go _ fun ρ1 H1 v s1 o1 r1 => ?_)
      simp only [Rw] at r1
      obtain ⟨a, rfl, t⟩ := r1
      exact ⟨a, rfl, ⟨_, t.sq⟩, p ρ1 H1 _ s1 o1 (jr_ro o1 t)⟩
    · refine .inr (.inr (go _ fun ρ1 H1 v s1 o1 r1 => ?_))
      rw [r1.str_]
      exact ⟨_, rfl, p ρ1 H1 _ s1 o1 jr_str⟩
    · exact p.elim⟩
/-! ranges -/
def in62 (i : Int) : Bool := mid i
theorem in62_ {i : Int} (h : in62 i = true) : -(2 ^ 62) ≤ i ∧ i < 2 ^ 62 := by
  have := mid_ h
  exact ⟨Int.le_of_lt this.1, this.2⟩
def rng (lo : Int) (n : Nat) : List D := (List.range n).map fun i => .int (lo + (i : Nat))
def rngC (lo c : Int) (n : Nat) : List D := (List.range n).map fun i => .int (lo + (i : Nat) * c)
theorem jr_rng {K : PySem.W.Frag} {ρ0 : List Addr} {H0 : Hp} {lo : Int} {n : Nat} : JR K ρ0 H0 ⟨rng lo n, none⟩ (Itr lo n) where
  go := fun i ρ l H hi o s _ => by simpa [rng, Itr] using hi
  yld := fun i ρ l H x H' hi o s _ y => by
    obtain ⟨rfl, rfl⟩ := y
    have hi' : i < n := by simpa [rng] using hi
    exact ⟨.int (lo + i), by simp [rng, hi'], o, Step.refl, rw_int⟩
  stop := fun ρ l H o s _ => by simp [rng, Itr]
theorem jr_rngC {K : PySem.W.Frag} {ρ0 : List Addr} {H0 : Hp} {lo c : Int} {n : Nat} : JR K ρ0 H0 ⟨rngC lo c n, none⟩ (Itc lo c n) where
  go := fun i ρ l H hi o s _ => by simpa [rngC, Itc] using hi
  yld := fun i ρ l H x H' hi o s _ y => by
    obtain ⟨rfl, rfl⟩ := y
    have hi' : i < n := by simpa [rngC] using hi
    exact ⟨.int (lo + (i : Nat) * c), by simp [rngC, hi'], o, Step.refl, rw_int⟩
  stop := fun ρ l H o s _ => by simp [rngC, Itc]
def dRng1 (fs : DEs) : DI := fun g l => (fs g l).bind fun ds l1 => match ds with
  | [.int j] => if in62 j then .ok ⟨rng 0 j.toNat, none⟩ l1 else .bad
  | _ => .bad
def dRng2 (fs : DEs) : DI := fun g l => (fs g l).bind fun ds l1 => match ds with
  | [.int i, .int j] => if in62 i && in62 j then .ok ⟨rng i (j - i).toNat, none⟩ l1 else .bad
  | _ => .bad
theorem ai_range1 (hg : Gl X "range") (hm : X.mg "range" = none) (ha : AA X E [a] fs) (hs : starEach [a] X.env = [(false, eval a X.env)] := by rfl) : AI X E tg (.Call (.Name "range" p) [a] [] pos) (dRng1 fs) := ⟨PI.imp (pi_range1 hg hm ha.pa hs) fun σ H R ⟨ρ, l, g, o, s, pp⟩ => by
  refine ⟨ρ, l, g, o, s, ?_⟩
  unfold dRng1 at pp
  refine Post.bind pp fun ds l1 ρ1 H1 vs e1 s1 o1 r1 p1 => ?_
  split at p1
  · obtain ⟨hc, p1⟩ := Post.ite p1
    obtain ⟨v, rfl, w⟩ := r1.one_
    rw [w.int_]
    exact ⟨_, rfl, (in62_ hc).1, (in62_ hc).2, p1.here o1 jr_rng⟩
  · exact p1.elim⟩
theorem ai_range2 (hg : Gl X "range") (hm : X.mg "range" = none) (ha : AA X E [a, b] fs) (hs : starEach [a, b] X.env = [(false, eval a X.env), (false, eval b X.env)] := by rfl) (hs2 : starEach [b] X.env = [(false, eval b X.env)] := by rfl) : AI X E tg (.Call (.Name "range" p) [a, b] [] pos) (dRng2 fs) := ⟨PI.imp (pi_range2 hg hm ha.pa hs hs2) fun σ H R ⟨ρ, l, g, o, s, pp⟩ => by
  refine ⟨ρ, l, g, o, s, ?_⟩
  unfold dRng2 at pp
  refine Post.bind pp fun ds l1 ρ1 H1 vs e1 s1 o1 r1 p1 => ?_
  split at p1
  · obtain ⟨hc, p1⟩ := Post.ite p1
    obtain ⟨v, v', rfl, w, w'⟩ := r1.two_
    rw [Bool.and_eq_true] at hc
    rw [w.int_, w'.int_]
    exact ⟨_, _, rfl, ⟨(in62_ hc.1).1, (in62_ hc.1).2, (in62_ hc.2).1, (in62_ hc.2).2⟩, p1.here o1 jr_rng⟩
  · exact p1.elim⟩
end
/-! ### for -/
open Classical in
noncomputable def sForL (it : ItD) (gt : D → Sto → Sl → Option Sl) (b : DS) : List D → DS
  | [] => fun g l => if it.ok l then .nx g l else .bad
  | d :: r => fun g l => if it.ok l then (match gt d l g with
    | none => .bad
    | some g1 => match b g1 l with
      | .nx g2 l2 => sForL it gt b r g2 l2
      | .ct g2 l2 => sForL it gt b r g2 l2
      | .bk g2 l2 => .nx g2 l2
      | q => q) else .bad
noncomputable def sFor (fi : DI) (gt : D → Sto → Sl → Option Sl) (b : DS) : DS := fun g l => (fi g l).out fun it l1 => sForL it gt b it.ds g l1
section
variable {X : Cx} {E : XK} {tg e a b c iter : Expr} {es : List Expr} {f : DE} {fs : DEs} {pos p : Pos} {body : List Stmt} {t : DS} {fi : DI} {gt : D → Sto → Sl → Option Sl}
theorem forL_ok {K : PySem.W.Frag} {it : ItD} {ds : List D} {g : Sl} {l : Sto} {ρ : List Addr} {H : Hp} {D : Ends} (p : OutP K E ρ H D (sForL it gt t ds g l)) : it.ok l := by
  cases ds with
  | nil =>
    simp only [sForL] at p
    split at p
    · assumption
    · exact p.elim
  | cons d r =>
    simp only [sForL] at p
    split at p
    · assumption
    · exact p.elim
theorem as_for (hp : PassesOwn (model X.prog X.w) X.A X.env X.xe) (hc : X.calm = true) (hi : AI X E tg iter fi) (hg : AG X tg gt) (hb : ASs X E body t) (hs : ∀ x, foldedSetIterable iter X.env x = pure x := by intro _; rfl) :
    AS X E (.For tg iter body [] pos) (sFor fi gt t) := ⟨PS.imp (ps_for hp hc hi.pi hg.pg hb.pss hs) fun D σ H ⟨ρ, l, g, o, s, p⟩ => by
  refine ⟨ρ, l, g, o, s, OutP.of (rel := fun ρ H it J => JR X.K ρ H it J) p fun it l1 ρ1 H1 J e1 s1 o1 jr p1 => ?_⟩
  refine ⟨fun i m σ H => m = it.ds.length - i ∧ i ≤ it.ds.length ∧ ∃ ρ l g, Step ρ1 H1 ρ H ∧ Own X.K ρ l H ∧ Slt X.K ρ H σ g ∧ OutP X.K E ρ H D (sForL it gt t (it.ds.drop i) g l),
    ⟨_, rfl, Nat.zero_le _, ρ1, l1, g, Step.refl, o1, s.step s1 o, by rw [List.drop_zero]; exact p1⟩, ?_⟩
  rintro i m σ' H' ⟨rfl, hi, ρ', l', g', st, o', s', p'⟩
  have ok := forL_ok p'
  by_cases hlt : i < it.ds.length
  · refine .inr ⟨jr.go i ρ' l' H' hlt o' st ok, fun σ H => ∃ ρ l g, Step ρ1 H1 ρ H ∧ Own X.K ρ l H ∧ Slt X.K ρ H σ g ∧ OutP X.K E ρ H D (sForL it gt t (it.ds.drop (i + 1)) g l),
      fun σ2 H2 z => ⟨it.ds.length - (i + 1), by omega, rfl, hlt, z⟩, fun x H2 y => ?_⟩
    obtain ⟨d, ed, o2, s2, r2⟩ := jr.yld i ρ' l' H' x H2 hlt o' st ok y
    rw [List.drop_eq_getElem_cons hlt] at p'
    have eg : it.ds[i] = d := by
      rw [List.getElem?_eq_getElem hlt] at ed
      exact Option.some.inj ed
    rw [eg] at p'
    simp only [sForL, if_pos ok] at p'
    have p2 := p'.step s2
    refine ⟨ρ', l', g', d, o2, s'.step s2 o', r2, ?_⟩
    cases q : gt d l' g' with
    | none => rw [q] at p2; exact p2.elim
    | some g1 =>
      rw [q] at p2
      refine fun σ3 z => ⟨ρ', l', g1, o2, z, ?_⟩
      have st2 := st.trans s2
      simp only at p2
      cases qb : t g1 l' with
      | bad => rw [qb] at p2; exact p2.elim
      | nx g2 l2 => rw [qb] at p2; exact fun ρ3 H3 σ4 s3 o3 z3 => ⟨ρ3, l2, g2, st2.trans s3, o3, z3, OutP.step p2 s3⟩
      | ct g2 l2 => rw [qb] at p2; exact fun ρ3 H3 σ4 s3 o3 z3 => ⟨ρ3, l2, g2, st2.trans s3, o3, z3, OutP.step p2 s3⟩
      | bk g2 l2 => rw [qb] at p2; exact fun ρ3 H3 σ4 s3 o3 z3 => p2 ρ3 H3 σ4 s3 o3 z3
      | rt d2 l2 => rw [qb] at p2; exact p2
      | ex C gs l2 => rw [qb] at p2; exact p2
  · have e : i = it.ds.length := by omega
    subst e
    rw [List.drop_length] at p'
    simp only [sForL, if_pos ok] at p'
    exact .inl ⟨jr.stop ρ' l' H' o' st ok, p' ρ' H' σ' Step.refl o' s'⟩⟩
end
end Zb

set_option Elab.async false
set_option linter.all false
set_option maxRecDepth 100000
namespace Zb
open PySem L2
/-! ### list comprehensions -/
section
variable {K : PySem.W.Frag} {ρ : List Addr} {l : Sto} {H : Hp}
theorem Own.add {p : Addr} {ob : OB} (o : Own K ρ l H) (hp : p ∉ ρ) (m : Mn K ρ H (ρ ++ [p]) H) (w : Ow K (ρ ++ [p]) H ob p) : Own K (ρ ++ [p]) (l ++ [ob]) H := by
  refine ⟨?_, by simp [o.len], fun n ob' a e1 e2 => ?_⟩
  · rw [List.nodup_append]
    refine ⟨o.nd, by simp, fun a ha b hb => ?_⟩
    simp at hb; subst hb
    exact fun q => hp (q ▸ ha)
  · by_cases hn : n < l.length
    · rw [List.getElem?_append_left hn] at e1
      rw [List.getElem?_append_left (by rw [o.len]; exact hn)] at e2
      exact Ow.mono m (fun v e => e) (o.at_ n ob' a e1 e2)
    · have h1 := (List.getElem?_eq_some_iff.mp e1).1
      have hn' : n = l.length := by simp at h1; omega
      subst hn'
      have e3 : (ρ ++ [p])[l.length]? = some p := by rw [← o.len]; simp
      rw [e3] at e2; cases e2
      have e4 : (l ++ [ob])[l.length]? = some ob := by simp
      rw [e4] at e1; cases e1
      exact w
theorem mn_out {p : Addr} {xs ys : List V} (hp : H p = some (.lst xs)) : Mn K ρ H ρ (upd H p (.lst ys)) := by
  have ne : ∀ a u, H a = some u → (∀ zs, u ≠ .lst zs) → a ≠ p := fun a u e n q => by
    subst q
    rw [hp] at e; cases e
    exact n xs rfl
  refine ⟨fun _ _ h => h, fun a zs h => ?_, fun a zs h => ?_⟩
  · rcases h with (h | ⟨ob, h⟩) | h
    · exact .inl (.inl (by rw [upd_ne (ne a _ h (fun _ q => by cases q))]; exact h))
    · exact .inl (.inr ⟨ob, by rw [upd_ne (ne a _ h (fun _ q => by cases q))]; exact h⟩)
    · exact .inr h
  · rcases h with ⟨ob, h⟩ | h
    · exact .inl ⟨ob, by rw [upd_ne (ne a _ h (fun _ q => by cases q))]; exact h⟩
    · exact .inr h
theorem Own.out {p : Addr} {xs ys : List V} (o : Own K ρ l H) (hn : p ∉ ρ) (hp : H p = some (.lst xs)) : Own K ρ l (upd H p (.lst ys)) :=
  ⟨o.nd, o.len, fun n ob a e1 e2 => Ow.mono (mn_out hp) (fun v e => by rw [upd_ne (fun q => hn (by rw [← q]; exact List.mem_of_getElem? e2))]; exact e) (o.at_ n ob a e1 e2)⟩
theorem Slt.mn {ρ' : List Addr} {H' : Hp} {σ : L2.St} {g : Sl} (h : Slt K ρ H σ g) (m : Mn K ρ H ρ' H') : Slt K ρ' H' σ g := ⟨h.len, fun i d e => let ⟨v, a, b⟩ := h.at_ i d e; ⟨v, a, Rw.mono m d v b⟩⟩
end
def wipeD (g : Sl) : List Nat → Sl
  | [] => g
  | v :: vs => (wipeD g vs).set v none
theorem Slt.wipe {K : PySem.W.Frag} {ρ : List Addr} {H : Hp} {σ : L2.St} {g : Sl} (h : Slt K ρ H σ g) : ∀ vs, Slt K ρ H (L2.wipe σ vs) (wipeD g vs)
  | [] => h
  | v :: vs => by
    have ih := Slt.wipe h vs
    refine ⟨by simp [L2.wipe, wipeD, ih.len], fun i d e => ?_⟩
    by_cases q : v = i
    · subst q
      have hv : v < (wipeD g vs).length := by
        have := (List.getElem?_eq_some_iff.mp e).1
        simpa [wipeD] using this
      simp [wipeD, hv] at e
    · simp only [wipeD, List.getElem?_set_ne q] at e
      obtain ⟨u, a, b⟩ := ih.at_ i d e
      exact ⟨u, by simp only [L2.wipe, List.getElem?_set_ne q]; exact a, b⟩
theorem wipe_set_in {x : Option V} {i : Nat} : ∀ {vs : List Nat} {σ : L2.St}, i ∈ vs → L2.wipe (σ.set i x) vs = L2.wipe σ vs
  | v :: vs, σ, h => by
    by_cases q : i ∈ vs
    · simp only [L2.wipe, wipe_set_in q]
    · have e : i = v := by
        rcases List.mem_cons.mp h with h | h
        · exact h
        · exact absurd h q
      subst e
      have : ∀ (vs : List Nat) (σ : L2.St), i ∉ vs → L2.wipe (σ.set i x) vs = (L2.wipe σ vs).set i x := by
        intro vs
        induction vs with
        | nil => intro σ _; rfl
        | cons w ws ih =>
          intro σ hn
          have n1 : i ≠ w := fun z => hn (by rw [z]; exact List.mem_cons_self)
          have n2 : i ∉ ws := fun z => hn (List.mem_cons_of_mem _ z)
          simp only [L2.wipe, ih σ n2]
          exact List.set_comm _ _ n1
      simp only [L2.wipe, this vs σ q, List.set_set]
theorem wipe_wipe (σ : L2.St) : ∀ vs ws : List Nat, (∀ v ∈ ws, v ∈ vs) → L2.wipe (L2.wipe σ ws) vs = L2.wipe σ vs
  | vs, [], _ => rfl
  | vs, w :: ws, h => by
    simp only [L2.wipe]
    rw [wipe_set_in (h w List.mem_cons_self)]
    exact wipe_wipe σ vs ws fun v hv => h v (List.mem_cons_of_mem _ hv)
theorem wipe_self (σ : L2.St) (vs : List Nat) : L2.wipe (L2.wipe σ vs) vs = L2.wipe σ vs := wipe_wipe σ vs vs fun _ h => h
open Classical in
noncomputable def lcL (it : ItD) (gt : D → Sto → Sl → Option Sl) (ct : DB) (fe : DE) (gw : Sl) : List D → Sto → List D → Res (List D)
  | [], l, acc => if it.ok l then .ok acc l else .bad
  | d :: r, l, acc => if it.ok l then (match gt d l gw with
    | none => .bad
    | some g1 => (ct g1 l).nox.bind fun b l1 => if b = true then (fe g1 l1).nox.bind fun y l2 => if small (acc.length + 1) then lcL it gt ct fe gw r l2 (acc ++ [y]) else .bad else lcL it gt ct fe gw r l1 acc) else .bad
noncomputable def dLc (fi : DI) (gt : D → Sto → Sl → Option Sl) (ct : DB) (fe : DE) (vs : List Nat) : DE := fun g l => (fi g l).bind fun it l1 => (lcL it gt ct fe (wipeD g vs) it.ds l1 []).bind fun acc l2 => .ok (.adr l2.length) (l2 ++ [.lst acc])
/-- a target that is wiped again -/
structure AGw (tg : TG) (K : PySem.W.Frag) (vs : List Nat) (gt : D → Sto → Sl → Option Sl) : Prop where
  go : ∀ ρ l g σ H d v g', Own K ρ l H → Slt K ρ H σ g → Rw K ρ H d v → gt d l g = some g' → ∀ Q : L2.St → Hp → Prop, (∀ σ', Slt K ρ H σ' g' → L2.wipe σ' vs = L2.wipe σ vs → Q σ' H) → tg v σ H Q
theorem agw_name {K : PySem.W.Frag} {i : Nat} {vs : List Nat} (h : i ∈ vs) : AGw (gName i) K vs (gN i) := ⟨fun ρ l g σ H d v g' o s r e Q q => by
  cases e
  exact q _ (s.set i r) (wipe_set_in h)⟩
theorem agw_two {K : PySem.W.Frag} {i j : Nat} {vs : List Nat} (h : i ∈ vs) (k : j ∈ vs) : AGw (gTup K 2 (gCons (gName i) (gCons (gName j) gNil))) K vs (gT [i, j]) := ⟨fun ρ l g σ H d v g' o s r e Q q => by
  cases d with
  | tup ds =>
    obtain ⟨a, us, rfl, t, w⟩ := r.tup_
    simp only [gT] at e
    match ds, e, w with
    | [x, y], e, w =>
      obtain ⟨v1, v2, rfl, w1, w2⟩ := w.two_
      cases e
      refine ⟨a, _, rfl, t, rfl, v1, _, rfl, v2, _, rfl, rfl, ?_⟩
      exact q _ ((s.set i w1).set j w2) (by rw [wipe_set_in k, wipe_set_in h])
    | [], e, _ => cases e
    | [_], e, _ => cases e
    | _ :: _ :: _ :: _, e, _ => cases e
  | _ => cases e⟩
theorem agw_three {K : PySem.W.Frag} {i j m : Nat} {vs : List Nat} (h : i ∈ vs) (k : j ∈ vs) (h3 : m ∈ vs) : AGw (gTup K 3 (gCons (gName i) (gCons (gName j) (gCons (gName m) gNil)))) K vs (gT [i, j, m]) := ⟨fun ρ l g σ H d v g' o s r e Q q => by
  cases d with
  | tup ds =>
    obtain ⟨a, us, rfl, t, w⟩ := r.tup_
    simp only [gT] at e
    match ds, e, w with
    | [x, y, z], e, w =>
      obtain ⟨v1, v2, v3, rfl, w1, w2, w3⟩ := w.three_
      cases e
      refine ⟨a, _, rfl, t, rfl, v1, _, rfl, v2, _, rfl, v3, _, rfl, rfl, ?_⟩
      exact q _ (((s.set i w1).set j w2).set m w3) (by rw [wipe_set_in h3, wipe_set_in k, wipe_set_in h])
    | [], e, _ => cases e
    | [_], e, _ => cases e
    | [_, _], e, _ => cases e
    | _ :: _ :: _ :: _ :: _, e, _ => cases e
  | _ => cases e⟩
section
variable {X : Cx} {E : XK} {K : PySem.W.Frag} {tg : TG} {vs : List Nat} {gt : D → Sto → Sl → Option Sl} {fi : DI} {ct : DB} {fe : DE}
theorem lcL_ok {it : ItD} {ds : List D} {gw : Sl} {l : Sto} {acc : List D} {α : Type} {k : List D → Sto → Res α} (p : (lcL it gt ct fe gw ds l acc).bind k ≠ .bad) : it.ok l := by
  cases ds with
  | nil =>
    simp only [lcL] at p
    split at p
    · assumption
    · exact absurd rfl p
  | cons d r =>
    simp only [lcL] at p
    split at p
    · assumption
    · exact absurd rfl p
theorem Post.ne {α β : Type} {ρ : List Addr} {H : Hp} {rel : List Addr → Hp → α → β → Prop} {r : Res α} {Q : β → Hp → Prop} (p : Post K E ρ H rel r Q) : r ≠ .bad := fun e => by rw [e] at p; exact p
theorem lc_of (ag : AGw tg K vs gt) {σ H Q} (h : teOf K E (dLc fi gt ct fe vs) σ H Q) : tLc (iOf K E fi) tg (ttOf K E0 ct) (teOf K E0 fe) vs σ H Q := by
  obtain ⟨ρ, l, g, o, s, p⟩ := h
  refine ⟨ρ, l, g, o, s, Post.bind p fun it l1 ρ1 H1 J e1 s1 o1 jr p1 => ?_⟩
  intro Dl hD
  have nD : Dl ∉ ρ1 := o1.nop hD
  have sw := (s.step s1 o).wipe vs
  have up0 : Step ρ1 H1 ρ1 (upd H1 Dl (.lst [])) := step_upd hD
  refine ⟨fun i m H => m = it.ds.length - i ∧ i ≤ it.ds.length ∧ ∃ ρ l acc av, Step ρ1 H1 ρ H ∧ Own K ρ l H ∧ Slt K ρ H (L2.wipe σ vs) (wipeD g vs) ∧ Dl ∉ ρ ∧ H Dl = some (.lst av) ∧ Rws K ρ H acc av ∧
      Post K E ρ1 H1 (rD K) ((lcL it gt ct fe (wipeD g vs) (it.ds.drop i) l acc).bind fun acc l2 => .ok (.adr l2.length) (l2 ++ [.lst acc])) Q,
    ⟨_, rfl, Nat.zero_le _, ρ1, l1, [], [], up0, ⟨o1.nd, o1.len, fun n ob a q1 q2 => Ow.mono (up0.mn o1) (fun u e => by rw [upd_ne (ne_of_none e hD)]; exact e) (o1.at_ n ob a q1 q2)⟩, sw.step up0 o1, nD, upd_same, Rws.nil, by rw [List.drop_zero]; exact p1⟩, ?_⟩
  rintro i m H2 ⟨rfl, hi, ρ2, l2, acc, av, st, o2, s2, nD2, hD2, ra, p2⟩
  have ok := lcL_ok (Post.ne p2)
  by_cases hlt : i < it.ds.length
  · refine .inr ⟨jr.go i ρ2 l2 H2 hlt o2 st ok, fun H => ∃ ρ l acc av, Step ρ1 H1 ρ H ∧ Own K ρ l H ∧ Slt K ρ H (L2.wipe σ vs) (wipeD g vs) ∧ Dl ∉ ρ ∧ H Dl = some (.lst av) ∧ Rws K ρ H acc av ∧
      Post K E ρ1 H1 (rD K) ((lcL it gt ct fe (wipeD g vs) (it.ds.drop (i + 1)) l acc).bind fun acc l2 => .ok (.adr l2.length) (l2 ++ [.lst acc])) Q, fun H' z => ⟨_, by omega, rfl, hlt, z⟩, fun x H3 y => ?_⟩
    obtain ⟨d, ed, o3, st3, r3⟩ := jr.yld i ρ2 l2 H2 x H3 hlt o2 st ok y
    rw [List.drop_eq_getElem_cons hlt] at p2
    have eg : it.ds[i] = d := by
      rw [List.getElem?_eq_getElem hlt] at ed
      exact Option.some.inj ed
    rw [eg] at p2
    simp only [lcL, if_pos ok] at p2
    have hD3 : H3 Dl = some (.lst av) := st3.keep _ _ hD2 nD2
    have s3 := s2.step st3 o2
    have ra3 := st3.rws o2 ra
    cases q : gt d l2 (wipeD g vs) with
    | none => rw [q] at p2; exact p2.elim
    | some g1 =>
      rw [q] at p2
      simp only at p2
      refine ag.go ρ2 l2 _ _ H3 d x g1 o3 s3 r3 q _ fun σ4 s4 hw => ⟨by rw [hw, wipe_self], ρ2, l2, g1, o3, s4, ?_⟩
      cases qc : ct g1 l2 with
      | bad => rw [qc] at p2; exact p2.elim
      | exc C fs l3 => rw [qc] at p2; exact p2.elim
      | ok b l3 =>
        rw [qc] at p2
        simp only [Res.nox, Res.bind] at p2
        intro ρ4 H4 b' st4 o4 eb
        cases eb
        have nD4 : Dl ∉ ρ4 := fun z => by
          have := st4.new Dl z nD2
          rw [hD3] at this; cases this
        have hD4 : H4 Dl = some (.lst av) := st4.keep _ _ hD3 nD2
        have s5 := s4.step st4 o3
        have ra4 := st4.rws o3 ra3
        cases b with
        | false =>
          rw [if_neg Bool.false_ne_true] at p2 ⊢
          exact ⟨ρ4, l3, acc, av, (st.trans st3).trans st4, o4, s3.step st4 o3, nD4, hD4, ra4, p2⟩
        | true =>
          rw [if_pos rfl] at p2 ⊢
          refine ⟨ρ4, l3, g1, o4, s5, ?_⟩
          cases qe : fe g1 l3 with
          | bad => rw [qe] at p2; exact p2.elim
          | exc C fs l4 => rw [qe] at p2; exact p2.elim
          | ok y l4 =>
            rw [qe] at p2
            simp only [Res.nox, Res.bind] at p2
            intro ρ5 H5 yv st5 o5 r5
            by_cases hs : small (acc.length + 1) = true
            · rw [if_pos hs] at p2
              have nD5 : Dl ∉ ρ5 := fun z => by
                have := st5.new Dl z nD4
                rw [hD4] at this; cases this
              have hD5 : H5 Dl = some (.lst av) := st5.keep _ _ hD4 nD4
              have m5 : Mn K ρ5 H5 ρ5 (upd H5 Dl (.lst (av ++ [yv]))) := mn_out hD5
              have ra5 := st5.rws o4 ra4
              have stF := ((st.trans st3).trans st4).trans st5
              refine ⟨av, hD5, by rw [ra5.length]; exact small_lt hs, ρ5, l4, acc ++ [y], av ++ [yv], ⟨stF.pre, fun a ob e n => ?_, stF.new⟩, o5.out nD5 hD5, ((s3.step st4 o3).step st5 o4).mn m5, nD5, upd_same, Rws.mono m5 _ _ (ra5.app (Rws.one r5)), p2⟩
              rw [upd_ne (fun z => by rw [z, hD] at e; cases e)]
              exact stF.keep a ob e n
            · rw [if_neg hs] at p2
              exact p2.elim
  · have e : i = it.ds.length := by omega
    subst e
    rw [List.drop_length] at p2
    simp only [lcL, if_pos ok, Res.bind] at p2
    refine .inl ⟨jr.stop ρ2 l2 H2 o2 st ok, ?_⟩
    have m2 : Mn K ρ2 H2 (ρ2 ++ [Dl]) H2 := ⟨px_app, Tk.refl, fun _ _ h => h⟩
    have o3 : Own K (ρ2 ++ [Dl]) (l2 ++ [.lst acc]) H2 := o2.add nD2 m2 ⟨av, hD2, Rws.mono m2 _ _ ra⟩
    obtain ⟨t, ht⟩ := st.pre
    refine p2 (ρ2 ++ [Dl]) H2 _ ⟨⟨t ++ [Dl], by rw [ht]; simp⟩, st.keep, fun a ha hn => ?_⟩ o3 (rw_adr (by rw [← o2.len]; simp))
    rcases List.mem_append.mp ha with ha | ha
    · exact st.new a ha hn
    · simp at ha; subst ha; exact hD
theorem ae_lc {elt tg' iter : Expr} {ifs : List Expr} {scope : Scope} {own : List (Str × Nat)} {pos : Pos} (hc : X.calm = true) (hN : X.N.Nodup) (hi : AI X E tg' iter fi) (ok : BlkOk X.N X.env.scope scope own)
    (hg : ∀ (s : Shared) (H : Hp) (C : Addr) (cl : List (Str × Addr)) (fp : List Addr), PG (X.blk s H scope (compEnvC scope cl C X.env) fp) tg' tg)
    (ht : ∀ (s : Shared) (H : Hp) (C : Addr) (cl : List (Str × Addr)) (fp : List Addr), PTs (X.blk s H scope (compEnvC scope cl C X.env) fp) ifs (ttOf X.K E0 ct))
    (he : ∀ (s : Shared) (H : Hp) (C : Addr) (cl : List (Str × Addr)) (fp : List Addr), AE (X.blk s H scope (compEnvC scope cl C X.env) fp) E0 elt fe)
    (ag : AGw tg X.K (own.map (·.2)) gt) (hs : ∀ x, foldedSetIterable iter X.env x = pure x := by intro _; rfl) :
    AE X E (.ListComp elt [⟨tg', iter, ifs, 0⟩] scope pos) (dLc fi gt ct fe (own.map (·.2))) := ⟨PE.imp (pe_lc hc hN hi.pi ok hg ht (fun s H C cl fp => (he s H C cl fp).pe) hs) fun σ H Q h => lc_of ag h⟩
theorem as_setLc {i : Nat} {y : Str} {py : Pos} {elt tg' iter : Expr} {ifs : List Expr} {scope : Scope} {own : List (Str × Nat)} {pos spos : Pos} (hc : X.calm = true) (hN : X.N.Nodup) (hy : X.N[i]? = some y) (hyl : X.env.scope.names.lookup y = some .local)
    (hsw : swapsWith (.ListComp elt [⟨tg', iter, ifs, 0⟩] scope pos) (some (.Name y py)) spos.line X.env = pure true) (hi : AI X E tg' iter fi) (ok : BlkOk X.N X.env.scope scope own)
    (hg : ∀ (s : Shared) (H : Hp) (C : Addr) (cl : List (Str × Addr)) (fp : List Addr), PG (X.blk s H scope (compEnvC scope cl C X.env) fp) tg' tg)
    (ht : ∀ (s : Shared) (H : Hp) (C : Addr) (cl : List (Str × Addr)) (fp : List Addr), PTs (X.blk s H scope (compEnvC scope cl C X.env) fp) ifs (ttOf X.K E0 ct))
    (he : ∀ (s : Shared) (H : Hp) (C : Addr) (cl : List (Str × Addr)) (fp : List Addr), AE (X.blk s H scope (compEnvC scope cl C X.env) fp) E0 elt fe)
    (ag : AGw tg X.K (own.map (·.2)) gt) (hs : ∀ x, foldedSetIterable iter X.env x = pure x := by intro _; rfl) :
    AS X E (.Assign [.Name y py] (.ListComp elt [⟨tg', iter, ifs, 0⟩] scope pos) spos) (sSet i (dLc fi gt ct fe (own.map (·.2)))) := ⟨PS.imp (ps_setLc hc hN hy hyl hsw hi.pi ok hg ht (fun s H C cl fp => (he s H C cl fp).pe) hs) fun D σ H ⟨ρ, l, g, o, s, p⟩ =>
      lc_of ag ⟨ρ, l, g, o, s, OutP.of (rel := rD X.K) p fun d l1 ρ1 H1 v e1 s1 o1 r1 p1 => p1 ρ1 H1 _ Step.refl o1 ((s.step s1 o).set i r1)⟩⟩
/-- no test -/
def dYes : DB := fun _ l => .ok true l
theorem pts_none : PTs X [] (ttOf X.K E0 dYes) := ⟨fun pins s σ H Q I h => by
  obtain ⟨ρ, l, g, o, sl, p⟩ := h
  exact pts_nil.run pins s σ H Q I (Post.here p o rfl)⟩
theorem pts_one_ {c : Expr} {b : DB} (h : AT X E0 c b) : PTs X [c] (ttOf X.K E0 b) := pts_one h.pt
end
end Zb

set_option Elab.async false
set_option linter.all false
set_option maxRecDepth 100000
namespace Zb
open PySem L2 PySem.Spec PyProof.Rows
/-! ### defs -/
def startD (n : Nat) (ds : List D) : Sl := ds.map some ++ List.replicate (n - ds.length) none
/-- what a def whose body is den hands back; nothing is raised -/
def runB (n : Nat) (den : DS) : List D → Sto → Res D := fun ds l => match den (startD n ds) l with
  | .rt d l' => .ok d l'
  | .nx _ l' => .ok .non l'
  | _ => .bad
theorem slt_start {K : PySem.W.Frag} {ρ : List Addr} {H : Hp} {N : List Str} {ds : List D} {vs : List V} (r : Rws K ρ H ds vs) : Slt K ρ H (L2.start N vs) (startD N.length ds) := by
  have hl := r.length
  refine ⟨by simp [L2.start, startD, hl], fun i d e => ?_⟩
  unfold startD at e
  unfold L2.start
  by_cases h : i < ds.length
  · rw [List.getElem?_append_left (by simpa using h), List.getElem?_map] at e
    rw [List.getElem?_append_left (by simpa [hl] using h), List.getElem?_map]
    cases q : ds[i]? with
    | none => rw [q] at e; cases e
    | some d' =>
      rw [q] at e
      have e' : d' = d := by simpa using e
      subst e'
      obtain ⟨v, a, b⟩ := r.get q
      exact ⟨v, by rw [a]; rfl, b⟩
  · rw [List.getElem?_append_right (by simpa using h)] at e
    exact absurd e (by
      intro q
      have := List.getElem?_eq_some_iff.mp q
      obtain ⟨h1, h2⟩ := this
      simp at h2)
section
variable {P : Program} {w : World} {K : PySem.W.Frag} {mg : Str → Option Value} {base : Heap} {k n : Nat} {f : Addr} {fd : FuncData} {ps N : List Str} {x qual : Str} {st : Stmt}
theorem ok_body {den : DS} (F : Fun K x qual st f fd) (S : FnScope N ps (defScope st))
    (hb : ∀ (cdv : Value) (A : Around) (outer : List Env) (s : Shared) (H : Hp) (E : XK), Room k (A.deeper (envOfC qual (defScope st) s.heap.objs.size f cdv)) →
      ASs (cxOf CX0 P w K mg base N qual (defScope st) f cdv A outer s H E).nox E0 (defBody st) den) : FnOk P w K mg base CX0 (k + 1) f fd ps (spD K ps.length (runB N.length den)) := by
  refine F.ok S (fun vs H Q E h => ?_) (fun cdv A outer s H vs Q E hr h => ?_)
  · obtain ⟨ρ, l, ds, o, r, hl, _⟩ := h
    rw [r.length, hl]
  · obtain ⟨ρ, l, ds, o, r, hl, p⟩ := h
    refine ⟨_, (hb cdv A outer s H E hr).pss, ρ, l, startD N.length ds, o, slt_start r, ?_⟩
    unfold runB at p
    cases q : den (startD N.length ds) l with
    | bad => rw [q] at p; exact p
    | nx g l' => rw [q] at p; exact fun ρ' H' σ' s' o' _ => p ρ' H' .non s' o' rw_non
    | rt d l' => rw [q] at p; exact fun ρ' H' v s' o' r' => p ρ' H' v s' o' r'
    | bk g l' => rw [q] at p; exact p.elim
    | ct g l' => rw [q] at p; exact p.elim
    | ex C gs l' => rw [q] at p; exact p.elim
/-! other promises out of it -/
theorem imp_D {CX : CXT} {m m' : List D → Sto → Res D} (F : FnOk P w K mg base CX k f fd ps (spD K n m)) (h : ∀ ds l, ds.length = n → m' ds l ≠ .bad → m ds l = m' ds l) : FnOk P w K mg base CX k f fd ps (spD K n m') :=
  F.imp fun vs H Q E ⟨ρ, l, ds, o, r, hl, p⟩ => ⟨ρ, l, ds, o, r, hl, by rw [h ds l hl (Post.ne p)]; exact p⟩
theorem imp_P {CX : CXT} {m : List D → Sto → Res D} {pf : List D → Option D} (F : FnOk P w K mg base CX k f fd ps (spD K n m)) (h : ∀ ds d, ds.length = n → pf ds = some d → ∃ l', m ds [] = .ok d l' ∧ pu d = true) : FnOk P w K mg base CX k f fd ps (spP K n pf) :=
  F.imp fun vs H Q E ⟨ds, d, r, hl, e, q⟩ => ⟨[], [], ds, Own.nil, r, hl, by
    obtain ⟨l', e2, hp⟩ := h ds d hl e
    rw [e2]
    exact fun ρ' H' v s o r' => q v H' s.same (Rw.pure_ Tk.refl d v hp r')⟩
theorem imp_L {CX : CXT} {m : List D → Sto → Res D} {lf : List D → Option (List D)} (F : FnOk P w K mg base CX k f fd ps (spD K n m)) (h : ∀ ds xs, ds.length = n → lf ds = some xs → ∃ l' j, m ds [] = .ok (.adr j) l' ∧ l'[j]? = some (.lst xs) ∧ pus xs = true) : FnOk P w K mg base CX k f fd ps (spL K n lf) :=
  F.imp fun vs H Q E ⟨ds, xs, r, hl, e, q⟩ => ⟨[], [], ds, Own.nil, r, hl, by
    obtain ⟨l', j, e2, e3, hp⟩ := h ds xs hl e
    rw [e2]
    intro ρ' H' v s o r'
    simp only [Rw] at r'
    obtain ⟨a, ha, rfl⟩ := r'
    obtain ⟨us, h1, r2⟩ := o.at_ j _ a e3 ha
    exact q a us H' (s.new a (List.mem_of_getElem? ha) (by simp)) s.same h1 (Rws.pure_ Tk.refl xs us hp r2)⟩
end
/-! what is left in the store behind a call may be forgotten -/
mutual
def clD (n : Nat) : D → Bool
  | .adr m => decide (m < n)
  | .tup ds => clDs n ds
  | _ => true
def clDs (n : Nat) : List D → Bool
  | [] => true
  | d :: ds => clD n d && clDs n ds
end
def clO (n : Nat) : OB → Bool
  | .lst ds => clDs n ds
  | .dct kvs => clDs n (kvs.map (·.2))
section
variable {K : PySem.W.Frag} {ρ t : List Addr} {l : Sto} {H : Hp}
mutual
theorem Rw.cl : ∀ (d : D) (v : V), clD ρ.length d = true → Rw K (ρ ++ t) H d v → Rw K ρ H d v
  | .non, _, _, h => by simpa [Rw] using h
  | .bl _, _, _, h => by simpa [Rw] using h
  | .int _, _, _, h => by simpa [Rw] using h
  | .str _, _, _, h => by simpa [Rw] using h
  | .ty _, _, _, h => by simpa [Rw] using h
  | .ro _, _, _, h => by
    simp only [Rw] at h ⊢
    exact h
  | .adr m, v, c, h => by
    simp only [Rw] at h ⊢
    obtain ⟨a, e, rfl⟩ := h
    have hm : m < ρ.length := by simpa [clD] using c
    rw [List.getElem?_append_left hm] at e
    exact ⟨a, e, rfl⟩
  | .tup ds, v, c, h => by
    obtain ⟨a, vs, rfl, q, r⟩ := h.tup_
    exact rw_tup q (Rws.cl ds vs (by simpa [clD] using c) r)
theorem Rws.cl : ∀ (ds : List D) (vs : List V), clDs ρ.length ds = true → Rws K (ρ ++ t) H ds vs → Rws K ρ H ds vs
  | [], _, _, h => by simpa [Rws] using h
  | d :: ds, vs, c, h => by
    simp only [Rws] at h
    obtain ⟨v, u, rfl, r1, r2⟩ := h
    simp only [clDs, Bool.and_eq_true] at c
    exact Rws.cons (Rw.cl d v c.1 r1) (Rws.cl ds u c.2 r2)
end
theorem Ow.cl {o : OB} {a : Addr} (c : clO ρ.length o = true) (h : Ow K (ρ ++ t) H o a) : Ow K ρ H o a := by
  cases o with
  | lst ds => obtain ⟨vs, e, r⟩ := h; exact ⟨vs, e, Rws.cl _ _ c r⟩
  | dct ds => obtain ⟨vs, e, q, r⟩ := h; exact ⟨vs, e, q, Rws.cl _ _ c r⟩
variable {P : Program} {w : World} {mg : Str → Option Value} {base : Heap} {k n : Nat} {f : Addr} {fd : FuncData} {ps : List Str}
theorem imp_S {CX : CXT} {m m' : List D → Sto → Res D} (F : FnOk P w K mg base CX k f fd ps (spD K n m))
    (h : ∀ ds l, ds.length = n → m' ds l ≠ .bad → ∃ d l2 junk, m' ds l = .ok d l2 ∧ m ds l = .ok d (l2 ++ junk) ∧ l2.length = l.length ∧ clD l.length d = true ∧ ∀ o ∈ l2, clO l.length o = true) : FnOk P w K mg base CX k f fd ps (spD K n m') :=
  F.imp fun vs H Q E ⟨ρ, l, ds, o, r, hl, p⟩ => ⟨ρ, l, ds, o, r, hl, by
    obtain ⟨d, l2, junk, e1, e2, e3, e4, e5⟩ := h ds l hl (Post.ne p)
    rw [e1] at p
    rw [e2]
    intro ρ' H' v s o' r'
    obtain ⟨t, rfl⟩ := s.pre
    have hρ : ρ.length = l.length := o.len
    refine p ρ H' v ⟨⟨[], by simp⟩, s.keep, fun a h n => absurd h n⟩ ⟨o.nd, by rw [hρ, e3], fun i ob a q1 q2 => ?_⟩ (Rw.cl d v (by rw [hρ]; exact e4) r')
    have hi : i < l2.length := (List.getElem?_eq_some_iff.mp q1).1
    refine Ow.cl (t := t) (by rw [hρ]; exact e5 ob (List.mem_of_getElem? q1)) (o'.at_ i ob a (by rw [List.getElem?_append_left hi]; exact q1) (by rw [List.getElem?_append_left (List.getElem?_eq_some_iff.mp q2).1]; exact q2))⟩
end
end Zb

set_option Elab.async false
set_option linter.all false
set_option maxRecDepth 100000
namespace Zb
open PySem L2 PySem.Spec PyProof.Rows
/-- a def of the module that keeps a promise -/
structure Has (CX : CXT) (P : Program) (w : World) (K : PySem.W.Frag) (mg : Str → Option Value) (base : Heap) (x : Str) (k : Nat) (ps : List Str) (sp : Sp) : Prop where
  ex : ∃ (f : Addr) (fd : FuncData), mg x = some (.ref f) ∧ PySem.W.keepIn K (.ref f) = true ∧ Binds K fd ps [] ∧ FnOk P w K mg base CX k f fd ps sp
section
variable {P : Program} {w : World} {K : PySem.W.Frag} {mg : Str → Option Value} {base : Heap} {x : Str} {k n : Nat} {ps : List Str}
theorem Has.mono {CX : CXT} {j : Nat} {sp : Sp} (h : Has CX P w K mg base x j ps sp) (l : j ≤ k) : Has CX P w K mg base x k ps sp :=
  let ⟨f, fd, a, b, c, d⟩ := h.ex; ⟨f, fd, a, b, c, d.mono l⟩
theorem Has.toD {CX : CXT} {m m' : List D → Sto → Res D} (h : Has CX P w K mg base x k ps (spD K n m)) (q : ∀ ds l, ds.length = n → m' ds l ≠ .bad → m ds l = m' ds l) : Has CX P w K mg base x k ps (spD K n m') :=
  let ⟨f, fd, a, b, c, d⟩ := h.ex; ⟨f, fd, a, b, c, imp_D d q⟩
theorem Has.toP {CX : CXT} {m : List D → Sto → Res D} {pf : List D → Option D} (h : Has CX P w K mg base x k ps (spD K n m)) (q : ∀ ds d, ds.length = n → pf ds = some d → ∃ l', m ds [] = .ok d l' ∧ pu d = true) : Has CX P w K mg base x k ps (spP K n pf) :=
  let ⟨f, fd, a, b, c, d⟩ := h.ex; ⟨f, fd, a, b, c, imp_P d q⟩
theorem Has.toL {CX : CXT} {m : List D → Sto → Res D} {lf : List D → Option (List D)} (h : Has CX P w K mg base x k ps (spD K n m)) (q : ∀ ds xs, ds.length = n → lf ds = some xs → ∃ l' j, m ds [] = .ok (.adr j) l' ∧ l'[j]? = some (.lst xs) ∧ pus xs = true) : Has CX P w K mg base x k ps (spL K n lf) :=
  let ⟨f, fd, a, b, c, d⟩ := h.ex; ⟨f, fd, a, b, c, imp_L d q⟩
theorem Has.toS {CX : CXT} {m m' : List D → Sto → Res D} (h : Has CX P w K mg base x k ps (spD K n m))
    (q : ∀ ds l, ds.length = n → m' ds l ≠ .bad → ∃ d l2 junk, m' ds l = .ok d l2 ∧ m ds l = .ok d (l2 ++ junk) ∧ l2.length = l.length ∧ clD l.length d = true ∧ ∀ o ∈ l2, clO l.length o = true) : Has CX P w K mg base x k ps (spD K n m') :=
  let ⟨f, fd, a, b, c, d⟩ := h.ex; ⟨f, fd, a, b, c, imp_S d q⟩
end
section
variable {X : Cx} {E : XK} {e : Expr} {es : List Expr} {fs : DEs} {pos p : Pos} {x : Str} {k n : Nat} {ps : List Str}
theorem ae_callD {CX : CXT} {m : List D → Sto → Res D} (h : Has CX X.prog X.w X.K X.mg X.base x k ps (spD X.K n m)) (hr : Room k X.A) (hg : Gl X x) (ha : AA X E (e :: es) fs) (hx : Passes CX X E0 := by first | exact pass0 | exact passL) (hdb : (x == ("__debug__" : Str)) = false := by decide)
    (he : starEach (e :: es) X.env = (false, eval e X.env) :: starEach es X.env := by rfl) (hpl : (backTo pos (starEach es X.env)).any (·.1) = false := by rfl) : AE X E (.Call (.Name x p) (e :: es) [] pos) (dCall n m fs) := by
  obtain ⟨f, fd, a, b, c, d⟩ := h.ex
  exact ⟨PE.imp (pe_call d hr hg a b c .nil hx ha.pa (hdb := hdb) (he := he) (hpl := hpl)) fun σ H Q h => call_of h⟩
theorem ae_callP {CX : CXT} {pf : List D → Option D} (h : Has CX X.prog X.w X.K X.mg X.base x k ps (spP X.K n pf)) (hr : Room k X.A) (hg : Gl X x) (ha : AA X E (e :: es) fs) (hx : Passes CX X E0 := by first | exact pass0 | exact passL) (hdb : (x == ("__debug__" : Str)) = false := by decide)
    (he : starEach (e :: es) X.env = (false, eval e X.env) :: starEach es X.env := by rfl) (hpl : (backTo pos (starEach es X.env)).any (·.1) = false := by rfl) : AE X E (.Call (.Name x p) (e :: es) [] pos) (dCallP n pf fs) := by
  obtain ⟨f, fd, a, b, c, d⟩ := h.ex
  exact ⟨PE.imp (pe_call d hr hg a b c .nil hx ha.pa (hdb := hdb) (he := he) (hpl := hpl)) fun σ H Q h => callP_of h⟩
theorem ae_callL {CX : CXT} {lf : List D → Option (List D)} (h : Has CX X.prog X.w X.K X.mg X.base x k ps (spL X.K n lf)) (hr : Room k X.A) (hg : Gl X x) (ha : AA X E (e :: es) fs) (hx : Passes CX X E0 := by first | exact pass0 | exact passL) (hdb : (x == ("__debug__" : Str)) = false := by decide)
    (he : starEach (e :: es) X.env = (false, eval e X.env) :: starEach es X.env := by rfl) (hpl : (backTo pos (starEach es X.env)).any (·.1) = false := by rfl) : AE X E (.Call (.Name x p) (e :: es) [] pos) (dCallL n lf fs) := by
  obtain ⟨f, fd, a, b, c, d⟩ := h.ex
  exact ⟨PE.imp (pe_call d hr hg a b c .nil hx ha.pa (hdb := hdb) (he := he) (hpl := hpl)) fun σ H Q h => callL_of h⟩
end
/-- the number of turns that a while may take at the most -/
def fuel : Nat := 1000000000
end Zb

set_option Elab.async false
set_option linter.all false
set_option maxRecDepth 100000
namespace Zb
open PySem L2 PySem.Spec PyProof.Rows
/-! ### dicts whose keys are ints and texts -/
def keyD : D → Option Key
  | .int i => some (.inl i)
  | .str s => some (.inr s)
  | _ => none
def valD (kvs : List (Key × D)) (k : Key) : Option D := (kvs.find? fun kv => decide (kv.1 = k)).map (·.2)
section
variable {K : PySem.W.Frag} {ρ : List Addr} {l : Sto} {H : Hp} {E : XK}
theorem val_rel : ∀ {kvs : List (Key × D)} {kv : List (Key × V)} (k : Key), kv.map (·.1) = kvs.map (·.1) → Rws K ρ H (kvs.map (·.2)) (kv.map (·.2)) →
    (valD kvs k = none → valV kv k = none) ∧ ∀ d, valD kvs k = some d → ∃ v, valV kv k = some v ∧ Rw K ρ H d v
  | [], [], k, _, _ => ⟨fun _ => rfl, fun d h => by cases h⟩
  | [], _ :: _, k, h, _ => by simp at h
  | _ :: _, [], k, h, _ => by simp at h
  | (k1, d1) :: kvs, (k2, v2) :: kv, k, h, r => by
    simp only [List.map_cons, List.cons.injEq] at h
    obtain ⟨e, h⟩ := h
    subst e
    simp only [List.map_cons, Rws] at r
    obtain ⟨v, u, ev, r1, r2⟩ := r
    simp only [List.cons.injEq] at ev
    obtain ⟨rfl, rfl⟩ := ev
    have ih := val_rel (kvs := kvs) (kv := kv) k h r2
    unfold valD valV at ih ⊢
    by_cases q : k2 = k
    · subst q
      simp only [List.find?_cons, decide_true, Option.map_some]
      exact ⟨(fun z => by cases z), (fun d z => by cases z; exact ⟨_, rfl, r1⟩)⟩
    · simp only [List.find?_cons, decide_eq_false q]
      exact ih
theorem Own.dct {n : Nat} {ds : List (Key × D)} {v : V} (o : Own K ρ l H) (r : Rw K ρ H (.adr n) v) (h : l[n]? = some (.dct ds)) :
    ∃ a kv, v = .ref a ∧ ρ[n]? = some a ∧ H a = some (.dK kv) ∧ kv.map (·.1) = ds.map (·.1) ∧ Rws K ρ H (ds.map (·.2)) (kv.map (·.2)) := by
  simp only [Rw] at r
  obtain ⟨a, e, rfl⟩ := r
  obtain ⟨vs, h1, h2, h3⟩ := o.at_ n _ a h e
  exact ⟨a, vs, rfl, e, h1, h2, h3⟩
theorem key_rel {d : D} {k : Key} {v : V} (h : keyD d = some k) (r : Rw K ρ H d v) : v = kV k := by
  cases d with
  | int i => cases h; rw [r.int_]; rfl
  | str i => cases h; rw [r.str_]; rfl
  | _ => cases h
end
def hDIn (neg : Bool) (y x : D) (l : Sto) : Res D := match x, keyD y with
  | .adr n, some k => match l[n]? with
    | some (.dct kvs) => .ok (.bl (if neg then !(valD kvs k).isSome else (valD kvs k).isSome)) l
    | _ => .bad
  | _, _ => .bad
def hDGet (x y : D) (l : Sto) : Res D := match x, keyD y with
  | .adr n, some k => match l[n]? with
    | some (.dct kvs) => okO (valD kvs k) l
    | _ => .bad
  | _, _ => .bad
section
variable {X : Cx} {E : XK} {a b e : Expr} {fa fb : DE} {pos : Pos}
theorem some_rel {kvs : List (Key × D)} {kv : List (Key × V)} {K : PySem.W.Frag} {ρ : List Addr} {H : Hp} {k : Key} (h : kv.map (·.1) = kvs.map (·.1)) (r : Rws K ρ H (kvs.map (·.2)) (kv.map (·.2))) : (valV kv k).isSome = (valD kvs k).isSome := by
  obtain ⟨h1, h2⟩ := val_rel k h r
  cases q : valD kvs k with
  | none => rw [h1 q]; rfl
  | some d => obtain ⟨v, e, _⟩ := h2 d q; rw [e]; rfl
theorem ae_din (hu : X.A.units + 1 < cLine) (ha : AE X E a fa) (hb : AE X E b fb) (hm : behindInMarks .In b = false := by rfl) : AE X E (.Compare a [.In] [b] pos) (dOp (hDIn false) fa fb) := ⟨PE.imp (pe_cmp (pc_din hu ha.pe hb.pe) hm) fun σ H Q ⟨ρ, l, g, o, s, p⟩ => by
  refine ⟨ρ, l, g, o, s, Post.bind p fun y l1 ρ1 H1 v e1 s1 o1 r1 p1 => ?_⟩
  refine ⟨ρ1, l1, g, o1, s.step s1 o, Post.bind p1 fun x l2 ρ2 H2 u e2 s2 o2 r2 p2 => ?_⟩
  unfold hDIn at p2
  split at p2
  · rename_i n k hk
    split at p2
    · rename_i kvs e3
      obtain ⟨q, kv, rfl, _, h1, h2, h3⟩ := o2.dct r2 e3
      refine ⟨q, valV kv k, rfl, ?_, ?_⟩
      · rw [key_rel hk (s2.rw o1 r1)]; exact DGet.k h1
      · rw [some_rel h2 h3]; exact p2.here o2 rw_bl
    · exact p2.elim
  · exact p2.elim⟩
theorem ae_dnotin (hu : X.A.units + 1 < cLine) (ha : AE X E a fa) (hb : AE X E b fb) (hm : behindInMarks .NotIn b = false := by rfl) : AE X E (.Compare a [.NotIn] [b] pos) (dOp (hDIn true) fa fb) := ⟨PE.imp (pe_cmp (pc_dnotin hu ha.pe hb.pe) hm) fun σ H Q ⟨ρ, l, g, o, s, p⟩ => by
  refine ⟨ρ, l, g, o, s, Post.bind p fun y l1 ρ1 H1 v e1 s1 o1 r1 p1 => ?_⟩
  refine ⟨ρ1, l1, g, o1, s.step s1 o, Post.bind p1 fun x l2 ρ2 H2 u e2 s2 o2 r2 p2 => ?_⟩
  unfold hDIn at p2
  split at p2
  · rename_i n k hk
    split at p2
    · rename_i kvs e3
      obtain ⟨q, kv, rfl, _, h1, h2, h3⟩ := o2.dct r2 e3
      refine ⟨q, valV kv k, rfl, ?_, ?_⟩
      · rw [key_rel hk (s2.rw o1 r1)]; exact DGet.k h1
      · rw [some_rel h2 h3]; exact p2.here o2 rw_bl
    · exact p2.elim
  · exact p2.elim⟩
theorem ae_dget (hu : X.A.units + 1 < cLine) (ha : AE X E a fa) (hb : AE X E b fb) (hs : NoSl b := by intro _ _; rfl) : AE X E (.Subscript a b pos) (dOp hDGet fa fb) := ⟨PE.imp (pe_dget hu ha.pe hb.pe hs) fun σ H Q ⟨ρ, l, g, o, s, p⟩ => by
  refine ⟨ρ, l, g, o, s, Post.bind p fun x l1 ρ1 H1 v e1 s1 o1 r1 p1 => ?_⟩
  refine ⟨ρ1, l1, g, o1, s.step s1 o, Post.bind p1 fun y l2 ρ2 H2 u e2 s2 o2 r2 p2 => ?_⟩
  unfold hDGet at p2
  split at p2
  · rename_i n k hk
    split at p2
    · rename_i kvs e3
      obtain ⟨q, kv, rfl, _, h1, h2, h3⟩ := o2.dct (s2.rw o1 r1) e3
      obtain ⟨d, e4, p2⟩ := p2.okO_
      obtain ⟨v, e5, r5⟩ := (val_rel k h2 h3).2 d e4
      refine ⟨q, v, rfl, ?_, p2.here o2 r5⟩
      rw [key_rel hk r2, ← e5]; exact DGet.k h1
    · exact p2.elim
  · exact p2.elim⟩
/-- a display of written texts and ints -/
def dDct (cs : List (Str × Int)) : DE := fun _ l => .ok (.adr l.length) (l ++ [.dct (cs.map fun c => (.inr c.1, .int c.2))])
theorem putK_new {kvs : List (Key × V)} {k : Key} {v : V} (h : k ∉ kvs.map (·.1)) : putK kvs k v = kvs ++ [(k, v)] := by
  unfold putK
  rw [if_neg]
  intro q
  obtain ⟨kv, hm, e⟩ := List.any_eq_true.mp q
  exact h (List.mem_map.mpr ⟨kv, hm, of_decide_eq_true e⟩)
theorem merge_new : ∀ (more kvs : List (Key × V)), ((kvs ++ more).map (·.1)).Nodup → mergeK kvs more = kvs ++ more
  | [], kvs, _ => by simp [mergeK]
  | m :: more, kvs, h => by
    have h1 : m.1 ∉ kvs.map (·.1) := by
      intro q
      rw [List.map_append, List.nodup_append] at h
      exact h.2.2 m.1 q m.1 (by simp) rfl
    show mergeK (putK kvs m.1 m.2) more = _
    rw [putK_new h1, merge_new more _ (by simpa using h)]
    simp
theorem pairs_c : ∀ (cs : List (Str × Int)) (σ : L2.St) (H : Hp) (Q : List (V × V) → Hp → Prop), Q (cs.map fun c => (.str c.1, .int c.2)) H → tPairs (cs.map fun c => (tC (.str c.1), tC (.int c.2))) σ H Q
  | [], _, _, _, h => h
  | c :: cs, σ, H, Q, h => pairs_c cs σ H (fun ps H3 => Q ((.str c.1, .int c.2) :: ps) H3) h
theorem rws_c {K : PySem.W.Frag} {ρ : List Addr} {H : Hp} : ∀ cs : List (Str × Int), Rws K ρ H (cs.map fun c => .int c.2) (cs.map fun c => .int c.2)
  | [] => Rws.nil
  | c :: cs => Rws.cons rw_int (rws_c cs)
theorem ae_dct {cs : List (Str × Int)} (h : PE X e (tDisp (cs.map fun c => (tC (.str c.1), tC (.int c.2))))) (nd : (cs.map (·.1)).Nodup) (hl : cs.length ≤ 15) : AE X E e (dDct cs) := ⟨PE.imp h fun σ H Q ⟨ρ, l, g, o, s, p⟩ => by
  intro q hq
  refine pairs_c cs σ _ _ ⟨upd_same, cs.map (fun c => (Sum.inr c.1, V.int c.2)), by simp [kV], by simpa using hl, ?_⟩
  have nd2 : ((cs.map (fun c => ((Sum.inr c.1 : Key), V.int c.2))).map (·.1)).Nodup := by
    rw [List.map_map]
    have e : ((fun x : Key × V => x.1) ∘ fun c : Str × Int => ((Sum.inr c.1 : Key), V.int c.2)) = (fun s : Str => (Sum.inr s : Key)) ∘ (·.1) := rfl
    rw [e, ← List.map_map]
    exact List.Pairwise.map _ (fun a b h q => h (Sum.inr.inj q)) nd
  rw [merge_new _ [] (by simpa using nd2), List.nil_append]
  have up : upd (upd H q (.dK [])) q (.dK (cs.map fun c => ((Sum.inr c.1 : Key), V.int c.2))) = upd H q (.dK (cs.map fun c => ((Sum.inr c.1 : Key), V.int c.2))) := upd_upd
  rw [up]
  obtain ⟨o1, s1⟩ := o.newO (u := .dK (cs.map fun c => ((Sum.inr c.1 : Key), V.int c.2))) (ob := .dct (cs.map fun c => (.inr c.1, .int c.2))) hq fun m => ⟨_, upd_same, by simp, by
    rw [List.map_map, List.map_map]
    exact rws_c cs⟩
  exact p _ _ _ s1 o1 (rw_adr (by rw [← o.len]; simp))⟩
end
end Zb

set_option Elab.async false
set_option linter.all false
set_option maxRecDepth 100000
namespace Zb
open PySem L2 PySem.Spec PyProof.Rows
/-! ### calls with a jug, with lists that are read, with a new list -/
inductive Kd where
  | P | L
structure Jug where
  f : Int
  gs : List Int
def Jug.ob (q : Nat) (J : Jug) : OB := .lst [.int J.f, .adr q]
def Jug.gob (J : Jug) : OB := .lst (J.gs.map D.int)
def insOne : Kd → D → Sto → Option D
  | .P, d, _ => if pu d then some d else none
  | .L, .adr n, l => match l[n]? with
    | some (.lst xs) => if pus xs then some (.tup xs) else none
    | _ => none
  | .L, _, _ => none
def ins : List Kd → List D → Sto → Option (List D)
  | [], [], _ => some []
  | k :: ks, d :: ds, l => match insOne k d l with
    | some e => (ins ks ds l).map (e :: ·)
    | none => none
  | _, _, _ => none
def idx : List Kd → List D → List Nat
  | .L :: ks, .adr n :: ds => n :: idx ks ds
  | _ :: ks, _ :: ds => idx ks ds
  | _, _ => []
def smA : List Kd → Nat → List D → List D
  | .L :: ks, k, _ :: ds => .adr k :: smA ks (k + 1) ds
  | .P :: ks, k, d :: ds => d :: smA ks k ds
  | _, _, _ => []
def smL : List Kd → List D → List OB
  | .L :: ks, .tup xs :: ds => .lst xs :: smL ks ds
  | .P :: ks, _ :: ds => smL ks ds
  | _, _ => []
def resK (rl : Bool) (d : D) (l : Sto) : Res D := match rl, d with
  | false, d => if pu d then .ok d l else .bad
  | true, .tup xs => if pus xs then .ok (.adr l.length) (l ++ [.lst xs]) else .bad
  | _, _ => .bad
def getJ (l : Sto) (w : Nat) : Option (Nat × Jug) := match l[w]? with
  | some (.lst [.int f, .adr q]) => match l[q]? with
    | some (.lst gs) => (intsOf gs).map fun ns => (q, ⟨f, ns⟩)
    | _ => none
  | _ => none
def putJ (l : Sto) (w q : Nat) (J : Jug) : Sto := (l.set w (J.ob q)).set q J.gob
def callF (ks : List Kd) (rl : Bool) (f : List D → Option D) (ds : List D) (l : Sto) : Res D := match ins ks ds l with
  | some es => if (idx ks ds).Nodup then (match f es with
    | some d => resK rl d l
    | none => .bad) else .bad
  | none => .bad
def callJ (ks : List Kd) (rl : Bool) (j : Jug → List D → Option (D × Jug)) (ds : List D) (l : Sto) : Res D := match ds with
  | .adr w :: ds => (match getJ l w with
    | some (q, J) => (match ins ks ds l with
      | some es => if (w :: q :: idx ks ds).Nodup then (match j J es with
        | some (d, J') => resK rl d (putJ l w q J')
        | none => .bad) else .bad
      | none => .bad)
    | none => .bad)
  | _ => .bad
/-- what the def hands back in its own small store -/
def outK (rl : Bool) (b : Nat) (d d' : D) (L : Sto) : Prop := match rl with
  | false => d' = d
  | true => ∃ xs k, d = .tup xs ∧ d' = .adr k ∧ L[k]? = some (.lst xs) ∧ b ≤ k

section
variable {K : PySem.W.Frag} {E : XK} {ρ : List Addr} {l : Sto} {H H' : Hp}
theorem nodup_inj {ρ : List Addr} (h : ρ.Nodup) {i j : Nat} (hi : i < ρ.length) (hj : j < ρ.length) (e : ρ[i] = ρ[j]) : i = j := by
  have := List.pairwise_iff_getElem.mp h
  rcases Nat.lt_trichotomy i j with q | q | q
  · exact absurd e (this i j hi hj q)
  · exact q
  · exact absurd e.symm (this j i hj hi q)
def adrs (ρ : List Addr) (is : List Nat) : List Addr := is.map fun n => ρ.getD n 0
theorem adrs_get {is : List Nat} {j n : Nat} (h : is[j]? = some n) (b : n < ρ.length) : ∃ a, ρ[n]? = some a ∧ (adrs ρ is)[j]? = some a := by
  refine ⟨ρ[n], List.getElem?_eq_getElem b, ?_⟩
  simp [adrs, h, List.getD_eq_getElem?_getD, List.getElem?_eq_getElem b]
theorem adrs_nodup {is : List Nat} (h : is.Nodup) (b : ∀ n ∈ is, n < ρ.length) (nd : ρ.Nodup) : (adrs ρ is).Nodup := by
  induction is with
  | nil => simp [adrs]
  | cons i is ih =>
    simp only [List.nodup_cons] at h
    have ih' := ih h.2 (fun n hn => b n (List.mem_cons_of_mem _ hn))
    have e : adrs ρ (i :: is) = ρ.getD i 0 :: adrs ρ is := rfl
    rw [e, List.nodup_cons]
    refine ⟨fun hm => h.1 ?_, ih'⟩
    obtain ⟨n, hn, e⟩ := List.mem_map.mp hm
    have b1 := b i List.mem_cons_self
    have b2 := b n (List.mem_cons_of_mem _ hn)
    simp only [List.getD_eq_getElem?_getD, List.getElem?_eq_getElem b1, List.getElem?_eq_getElem b2, Option.getD_some] at e
    have := nodup_inj nd b2 b1 e
    subst this; exact hn
theorem adrs_mem {is : List Nat} {a : Addr} (b : ∀ n ∈ is, n < ρ.length) (h : a ∈ adrs ρ is) : a ∈ ρ := by
  obtain ⟨n, hn, e⟩ := List.mem_map.mp h
  have b1 := b n hn
  simp only [List.getD_eq_getElem?_getD, List.getElem?_eq_getElem b1, Option.getD_some] at e
  subst e; exact List.getElem_mem _
theorem frame {is : List Nat} {t : List Addr} {l2 : Sto} (o : Own K ρ l H) (b : ∀ n ∈ is, n < ρ.length) (s : Step (adrs ρ is) H (adrs ρ is ++ t) H') (hl : l2.length = l.length)
    (same : ∀ n, n ∉ is → l2[n]? = l[n]?) (new : ∀ (j n : Nat) (ob : OB) (a : Addr), is[j]? = some n → l2[n]? = some ob → ρ[n]? = some a → Mn K ρ H ρ H' → Ow K ρ H' ob a) : Own K ρ l2 H' ∧ Step ρ H ρ H' := by
  have st : Step ρ H ρ H' := ⟨⟨[], by simp⟩, fun a u e hn => s.keep a u e fun q => hn (adrs_mem b q), fun a h n => absurd h n⟩
  refine ⟨⟨o.nd, by rw [o.len, hl], fun n ob a e1 e2 => ?_⟩, st⟩
  by_cases q : n ∈ is
  · obtain ⟨j, hj⟩ := List.getElem?_of_mem q
    exact new j n ob a hj e1 e2 (st.mn o)
  · rw [same n q] at e1
    refine Ow.mono (st.mn o) (fun u e => s.keep a u e fun hm => ?_) (o.at_ n ob a e1 e2)
    obtain ⟨m, hm1, hm2⟩ := List.mem_map.mp hm
    have b1 := b m hm1
    simp only [List.getD_eq_getElem?_getD, List.getElem?_eq_getElem b1, Option.getD_some] at hm2
    obtain ⟨b2, e3⟩ := List.getElem?_eq_some_iff.mp e2
    rw [← e3] at hm2
    have := nodup_inj o.nd b1 b2 hm2
    subst this; exact q hm1
theorem ins_inv {ks : List Kd} {k : Kd} {ds es : List D} (h : ins (k :: ks) ds l = some es) : ∃ d ds' e es', ds = d :: ds' ∧ insOne k d l = some e ∧ ins ks ds' l = some es' ∧ es = e :: es' := by
  cases ds with
  | nil => simp [ins] at h
  | cons d ds =>
    simp only [ins] at h
    cases q : insOne k d l with
    | none => rw [q] at h; cases h
    | some e =>
      rw [q] at h
      cases q2 : ins ks ds l with
      | none => rw [q2] at h; cases h
      | some es' => rw [q2] at h; cases h; exact ⟨d, ds, e, es', rfl, q, q2, rfl⟩
theorem insP {d e : D} (h : insOne .P d l = some e) : pu d = true ∧ e = d := by
  simp only [insOne] at h
  split at h
  · cases h; exact ⟨by assumption, rfl⟩
  · cases h
theorem insL {d e : D} (h : insOne .L d l = some e) : ∃ n xs, d = .adr n ∧ l[n]? = some (.lst xs) ∧ pus xs = true ∧ e = .tup xs := by
  cases d with
  | adr n =>
    simp only [insOne] at h
    split at h
    · split at h
      · cases h; exact ⟨n, _, rfl, by assumption, by assumption, rfl⟩
      · cases h
    · cases h
  | _ => simp [insOne] at h
theorem ins_nil {ds es : List D} (h : ins [] ds l = some es) : ds = [] ∧ es = [] := by
  cases ds with
  | nil => simp [ins] at h; exact ⟨rfl, h⟩
  | cons d ds => simp [ins] at h
theorem idx_lt (o : Own K ρ l H) : ∀ {ks : List Kd} {ds es : List D}, ins ks ds l = some es → ∀ n ∈ idx ks ds, n < ρ.length
  | [], _, _, h, n, hn => by obtain ⟨rfl, rfl⟩ := ins_nil h; simp [idx] at hn
  | .P :: ks, _, _, h, n, hn => by
    obtain ⟨d, ds, e, es, rfl, h1, h2, rfl⟩ := ins_inv h
    exact idx_lt o h2 n (by simpa [idx] using hn)
  | .L :: ks, _, _, h, n, hn => by
    obtain ⟨d, ds, e, es, rfl, h1, h2, rfl⟩ := ins_inv h
    obtain ⟨m, xs, rfl, h3, h4, rfl⟩ := insL h1
    simp only [idx, List.mem_cons] at hn
    rcases hn with rfl | hn
    · rw [o.len]; exact (List.getElem?_eq_some_iff.mp h3).1
    · exact idx_lt o h2 n hn
theorem smL_len (k : Nat) : ∀ {ks : List Kd} {ds es : List D}, ins ks ds l = some es → (smL ks es).length = (idx ks ds).length ∧ (smA ks k es).length = ks.length
  | [], _, _, h => by obtain ⟨rfl, rfl⟩ := ins_nil h; simp [idx, smL, smA]
  | .P :: ks, _, _, h => by
    obtain ⟨d, ds, e, es, rfl, h1, h2, rfl⟩ := ins_inv h
    have := smL_len k h2
    simpa [idx, smL, smA] using this
  | .L :: ks, _, _, h => by
    obtain ⟨d, ds, e, es, rfl, h1, h2, rfl⟩ := ins_inv h
    obtain ⟨m, xs, rfl, h3, h4, rfl⟩ := insL h1
    have := smL_len (k + 1) h2
    simpa [idx, smL, smA] using this
/-- the arguments, told in the small store -/
theorem sm_args (o : Own K ρ l H) (m : Tk K H H') : ∀ {ks : List Kd} {ds es : List D} {vs : List V} (p : List Addr), ins ks ds l = some es → Rws K ρ H ds vs → Rws K (p ++ adrs ρ (idx ks ds)) H' (smA ks p.length es) vs
  | [], _, _, _, p, h, r => by obtain ⟨rfl, rfl⟩ := ins_nil h; simp only [Rws] at r; subst r; simp [smA, Rws]
  | .P :: ks, _, _, vs, p, h, r => by
    obtain ⟨d, ds, e, es, rfl, h1, h2, rfl⟩ := ins_inv h
    obtain ⟨pd, rfl⟩ := insP h1
    simp only [Rws] at r
    obtain ⟨v, us, rfl, r1, r2⟩ := r
    exact Rws.cons (Rw.pure_ m e v pd r1) (sm_args o m p h2 r2)
  | .L :: ks, _, _, vs, p, h, r => by
    obtain ⟨d, ds, e, es, rfl, h1, h2, rfl⟩ := ins_inv h
    obtain ⟨n, xs, rfl, h3, h4, rfl⟩ := insL h1
    simp only [Rws] at r
    obtain ⟨v, us, rfl, r1, r2⟩ := r
    simp only [Rw] at r1
    obtain ⟨a, ha, rfl⟩ := r1
    have hn : n < ρ.length := (List.getElem?_eq_some_iff.mp ha).1
    have e1 : ρ.getD n 0 = a := by rw [List.getD_eq_getElem?_getD, ha]; rfl
    have e2 : p ++ adrs ρ (idx (.L :: ks) (.adr n :: ds)) = (p ++ [a]) ++ adrs ρ (idx ks ds) := by simp only [idx, adrs, List.map_cons, e1]; simp
    rw [e2]
    refine Rws.cons (rw_adr (by simp)) ?_
    have := sm_args o m (p ++ [a]) h2 r2
    simpa using this
/-- the lists, told in any store -/
theorem sm_lists {is : List Nat} (o : Own K ρ l H) (m : Tk K H H') (ρ' : List Addr) (keep : ∀ n ∈ is, ∀ a, ρ[n]? = some a → ∀ u, H a = some u → H' a = some u) : ∀ {ks : List Kd} {ds es : List D}, ins ks ds l = some es → (∀ n ∈ idx ks ds, n ∈ is) →
    ∀ (j : Nat) (ob : OB) (a : Addr), (smL ks es)[j]? = some ob → (adrs ρ (idx ks ds))[j]? = some a → Ow K ρ' H' ob a
  | [], _, _, h, _, j, ob, a, e1, _ => by obtain ⟨rfl, rfl⟩ := ins_nil h; simp [smL] at e1
  | .P :: ks, _, _, h, hs, j, ob, a, e1, e2 => by
    obtain ⟨d, ds, e, es, rfl, h1, h2, rfl⟩ := ins_inv h
    exact sm_lists o m ρ' keep h2 (by simpa [idx] using hs) j ob a (by simpa [smL] using e1) (by simpa [idx] using e2)
  | .L :: ks, _, _, h, hs, j, ob, a, e1, e2 => by
    obtain ⟨d, ds, e, es, rfl, h1, h2, rfl⟩ := ins_inv h
    obtain ⟨n, xs, rfl, h3, h4, rfl⟩ := insL h1
    have hn : n < ρ.length := by rw [o.len]; exact (List.getElem?_eq_some_iff.mp h3).1
    have e3 : adrs ρ (idx (.L :: ks) (.adr n :: ds)) = ρ[n] :: adrs ρ (idx ks ds) := by simp [idx, adrs, List.getElem?_eq_getElem hn]
    rw [e3] at e2
    simp only [idx, List.mem_cons, forall_eq_or_imp] at hs
    cases j with
    | zero =>
      simp only [smL, List.getElem?_cons_zero, Option.some.injEq] at e1 e2
      subst e1; subst e2
      obtain ⟨us, q1, q2⟩ := o.at_ n _ _ h3 (List.getElem?_eq_getElem hn)
      exact ⟨us, keep n hs.1 _ (List.getElem?_eq_getElem hn) _ q1, Rws.pure_ m xs us h4 q2⟩
    | succ j => exact sm_lists o m ρ' keep h2 hs.2 j ob a (by simpa [smL] using e1) (by simpa using e2)
end
end Zb

set_option Elab.async false
set_option linter.all false
set_option maxRecDepth 100000
namespace Zb
open PySem L2 PySem.Spec PyProof.Rows
section
variable {K : PySem.W.Frag} {E : XK} {ρ : List Addr} {l : Sto} {H H' : Hp}
theorem finish {rl : Bool} {b : Nat} {d d' : D} {v : V} {ρs ρ' : List Addr} {L l2 : Sto} {Q : VK} (o : Own K ρ l H) (o2 : Own K ρ l2 H') (st : Step ρ H ρ H') (o' : Own K ρ' L H') (s : Step ρs H ρ' H') (hout : outK rl b d d' L) (hb : ρs.length ≤ b)
    (r : Rw K ρ' H' d' v) (p : Post K E ρ H (rD K) (resK rl d l2) Q) : Q v H' := by
  cases rl with
  | false =>
    cases hout
    simp only [resK] at p
    obtain ⟨pd, p⟩ := Post.ite p
    exact p ρ H' v st o2 (Rw.pure_ Tk.refl _ v pd r)
  | true =>
    obtain ⟨xs, k, rfl, rfl, e, hk⟩ := hout
    simp only [resK] at p
    obtain ⟨pd, p⟩ := Post.ite p
    simp only [Rw] at r
    obtain ⟨a, ha, rfl⟩ := r
    obtain ⟨us, h1, r2⟩ := o'.at_ k _ a e ha
    have hns : a ∉ ρs := fun q => by
      obtain ⟨j, hj⟩ := List.getElem?_of_mem q
      have hj2 := s.px j a hj
      have hj1 := (List.getElem?_eq_some_iff.mp hj).1
      obtain ⟨b1, e1⟩ := List.getElem?_eq_some_iff.mp hj2
      obtain ⟨b2, e2⟩ := List.getElem?_eq_some_iff.mp ha
      have := nodup_inj o'.nd b1 b2 (e1.trans e2.symm)
      omega
    have hnew := s.new a (List.mem_of_getElem? ha) hns
    have hna := o.nop hnew
    have m : Mn K ρ H' (ρ ++ [a]) H' := ⟨fun n b h => px_app n b h, Tk.refl, fun _ _ h => h⟩
    refine p (ρ ++ [a]) H' _ ⟨⟨[a], rfl⟩, st.keep, fun b hb hn => ?_⟩ (o2.add hna m ⟨us, h1, Rws.pure_ Tk.refl xs us pd r2⟩) (rw_adr (by rw [← o2.len]; simp))
    rcases List.mem_append.mp hb with hb | hb
    · exact absurd hb hn
    · simp at hb; subst hb; exact hnew
theorem ints_map : ∀ {ds : List D} {ns : List Int}, intsOf ds = some ns → ds = ns.map D.int
  | [], _, h => by simp [intsOf] at h; subst h; rfl
  | .int i :: ds, _, h => by
    simp only [intsOf] at h
    cases q : intsOf ds with
    | none => rw [q] at h; cases h
    | some ns' => rw [q] at h; cases h; rw [ints_map q]; rfl
  | .non :: _, _, h => by simp [intsOf] at h
  | .bl _ :: _, _, h => by simp [intsOf] at h
  | .str _ :: _, _, h => by simp [intsOf] at h
  | .ty _ :: _, _, h => by simp [intsOf] at h
  | .adr _ :: _, _, h => by simp [intsOf] at h
  | .ro _ :: _, _, h => by simp [intsOf] at h
  | .tup _ :: _, _, h => by simp [intsOf] at h
theorem pus_int : ∀ ns : List Int, pus (ns.map D.int) = true
  | [] => rfl
  | n :: ns => by simp [pus, pu, pus_int ns]
theorem getJ_inv {w q : Nat} {J : Jug} (h : getJ l w = some (q, J)) : l[w]? = some (J.ob q) ∧ l[q]? = some J.gob := by
  unfold getJ at h
  split at h
  · split at h
    · rename_i _ f q' e1 _ gs e2
      cases z : intsOf gs with
      | none => rw [z] at h; cases h
      | some ns =>
        rw [z] at h
        cases h
        exact ⟨e1, by rw [e2, ints_map z]; rfl⟩
    · cases h
  · cases h
theorem smL_get : ∀ {ks : List Kd} {ds es : List D}, ins ks ds l = some es → ∀ (j n : Nat), (idx ks ds)[j]? = some n → ∃ xs, l[n]? = some (.lst xs) ∧ (smL ks es)[j]? = some (.lst xs) ∧ pus xs = true
  | [], _, _, h, j, n, e => by obtain ⟨rfl, rfl⟩ := ins_nil h; simp [idx] at e
  | .P :: ks, _, _, h, j, n, e => by
    obtain ⟨d, ds, e', es, rfl, h1, h2, rfl⟩ := ins_inv h
    exact smL_get h2 j n (by simpa [idx] using e)
  | .L :: ks, _, _, h, j, n, e => by
    obtain ⟨d, ds, e', es, rfl, h1, h2, rfl⟩ := ins_inv h
    obtain ⟨m, xs, rfl, h3, h4, rfl⟩ := insL h1
    cases j with
    | zero => simp only [idx, List.getElem?_cons_zero, Option.some.injEq] at e; subst e; exact ⟨xs, h3, rfl, h4⟩
    | succ j => exact smL_get h2 j n (by simpa [idx] using e)
variable {P : Program} {w : World} {mg : Str → Option Value} {base : Heap} {k n : Nat} {f : Addr} {fd : FuncData} {ps : List Str}
theorem imp_F {CX : CXT} {m : List D → Sto → Res D} {ks : List Kd} {rl : Bool} {pf : List D → Option D} (F : FnOk P w K mg base CX k f fd ps (spD K ks.length m))
    (q : ∀ es d, es.length = ks.length → pf es = some d → ∃ d' junk, m (smA ks 0 es) (smL ks es) = .ok d' (smL ks es ++ junk) ∧ outK rl (smL ks es).length d d' (smL ks es ++ junk)) : FnOk P w K mg base CX k f fd ps (spD K ks.length (callF ks rl pf)) :=
  F.imp fun vs H Q E ⟨ρ, l, ds, o, r, hl, p⟩ => by
    unfold callF at p
    split at p
    · rename_i es he
      split at p
      · rename_i nd
        split at p
        · rename_i d hd
          have hb := idx_lt o he
          obtain ⟨sl, sa⟩ := smL_len 0 he
          have hes : es.length = ks.length := by
            have : ∀ {ks : List Kd} {ds es : List D}, ins ks ds l = some es → es.length = ks.length := by
              intro ks
              induction ks with
              | nil => intro ds es h; obtain ⟨rfl, rfl⟩ := ins_nil h; rfl
              | cons k ks ih => intro ds es h; obtain ⟨d, ds, e', es, rfl, h1, h2, rfl⟩ := ins_inv h; simp [ih h2]
            exact this he
          obtain ⟨d', junk, e1, e2⟩ := q es d hes hd
          have own : Own K (adrs ρ (idx ks ds)) (smL ks es) H := ⟨adrs_nodup nd hb o.nd, by rw [sl]; simp [adrs], fun n ob a h1 h2 =>
            sm_lists (is := idx ks ds) o Tk.refl _ (fun _ _ _ _ u hu => hu) he (fun _ h => h) n ob a h1 h2⟩
          refine ⟨adrs ρ (idx ks ds), smL ks es, smA ks 0 es, own, by simpa using sm_args o Tk.refl [] he r, sa, ?_⟩
          rw [e1]
          intro ρ' H' v s o' r'
          obtain ⟨t, rfl⟩ := s.pre
          have fr := frame (l2 := l) o hb s rfl (fun _ _ => rfl) fun j n ob a h1 h2 h3 m => by
            obtain ⟨xs, g1, g2, g3⟩ := smL_get he j n h1
            rw [g1] at h2; cases h2
            have hj : j < (smL ks es).length := (List.getElem?_eq_some_iff.mp g2).1
            obtain ⟨a', h4, h5⟩ := adrs_get (ρ := ρ) h1 (hb n (List.mem_of_getElem? h1))
            rw [h3] at h4; cases h4
            obtain ⟨us, u1, u2⟩ := o'.at_ j _ a (by rw [List.getElem?_append_left hj]; exact g2) (by rw [List.getElem?_append_left (List.getElem?_eq_some_iff.mp h5).1]; exact h5)
            exact ⟨us, u1, Rws.pure_ Tk.refl xs us g3 u2⟩
          exact finish o fr.1 fr.2 o' s e2 (by rw [sl]; simp [adrs]) r' p
        · exact p.elim
      · exact p.elim
    · exact p.elim
theorem ins_len {ks : List Kd} : ∀ {ds es : List D}, ins ks ds l = some es → es.length = ks.length := by
  induction ks with
  | nil => intro ds es h; obtain ⟨rfl, rfl⟩ := ins_nil h; rfl
  | cons k ks ih => intro ds es h; obtain ⟨d, ds, e', es, rfl, h1, h2, rfl⟩ := ins_inv h; simp [ih h2]
theorem imp_J {CX : CXT} {m : List D → Sto → Res D} {ks : List Kd} {rl : Bool} {pj : Jug → List D → Option (D × Jug)} (F : FnOk P w K mg base CX k f fd ps (spD K (ks.length + 1) m))
    (q : ∀ J es d J', es.length = ks.length → pj J es = some (d, J') → ∃ d' junk, m (.adr 0 :: smA ks 2 es) (J.ob 1 :: J.gob :: smL ks es) = .ok d' (J'.ob 1 :: J'.gob :: (smL ks es ++ junk)) ∧ outK rl (2 + (smL ks es).length) d d' (J'.ob 1 :: J'.gob :: (smL ks es ++ junk))) : FnOk P w K mg base CX k f fd ps (spD K (ks.length + 1) (callJ ks rl pj)) :=
  F.imp fun vs H Q E ⟨ρ, l, ds, o, r, hl, p⟩ => by
    unfold callJ at p
    split at p
    · rename_i wi ds
      split at p
      · rename_i qi J hJ
        split at p
        · rename_i es he
          split at p
          · rename_i nd
            split at p
            · rename_i d J' hd
              obtain ⟨gw, gq⟩ := getJ_inv hJ
              have hb := idx_lt o he
              obtain ⟨sl, sa⟩ := smL_len 2 he
              obtain ⟨d', junk, e1, e2⟩ := q J es d J' (ins_len he) hd
              have bw : wi < ρ.length := by rw [o.len]; exact (List.getElem?_eq_some_iff.mp gw).1
              have bq : qi < ρ.length := by rw [o.len]; exact (List.getElem?_eq_some_iff.mp gq).1
              have ew := List.getElem?_eq_getElem bw
              have eq := List.getElem?_eq_getElem bq
              have hball : ∀ n ∈ wi :: qi :: idx ks ds, n < ρ.length := by
                intro n hn
                simp only [List.mem_cons] at hn
                rcases hn with rfl | rfl | hn
                · exact bw
                · exact bq
                · exact hb n hn
              have ea : adrs ρ (wi :: qi :: idx ks ds) = [ρ[wi], ρ[qi]] ++ adrs ρ (idx ks ds) := by simp [adrs, ew, eq]
              simp only [Rws] at r
              obtain ⟨v, us, rfl, r1, r2⟩ := r
              simp only [Rw] at r1
              obtain ⟨a1, h1, rfl⟩ := r1
              rw [ew] at h1; cases h1
              have own : Own K (adrs ρ (wi :: qi :: idx ks ds)) (J.ob 1 :: J.gob :: smL ks es) H := ⟨adrs_nodup nd hball o.nd, by simp [sl, adrs], fun n ob a h1 h2 => by
                rw [ea] at h2 ⊢
                match n, h1, h2 with
                | 0, h1, h2 =>
                  simp at h1 h2; subst h1; subst h2
                  obtain ⟨vs, u1, u2⟩ := o.at_ wi _ _ gw ew
                  obtain ⟨v1, v2, rfl, w1, w2⟩ := u2.two_
                  refine ⟨_, u1, Rws.cons (by simpa [Rw] using w1) (Rws.one ?_)⟩
                  simp only [Rw] at w2
                  obtain ⟨b, hb1, rfl⟩ := w2
                  rw [eq] at hb1; cases hb1
                  exact rw_adr (by simp)
                | 1, h1, h2 =>
                  simp at h1 h2; subst h1; subst h2
                  obtain ⟨vs, u1, u2⟩ := o.at_ qi _ _ gq eq
                  exact ⟨_, u1, Rws.pure_ Tk.refl _ _ (pus_int _) u2⟩
                | n + 2, h1, h2 =>
                  exact sm_lists (is := idx ks ds) o Tk.refl _ (fun _ _ _ _ u hu => hu) he (fun _ h => h) n ob a (by simpa using h1) (by simpa using h2)⟩
              refine ⟨_, _, .adr 0 :: smA ks 2 es, own, ?_, by simp [sa], ?_⟩
              · rw [ea]
                refine Rws.cons (rw_adr (by simp)) ?_
                exact sm_args o Tk.refl [_, _] he r2
              · rw [e1]
                intro ρ' H' v s o' r'
                obtain ⟨t, rfl⟩ := s.pre
                simp only [List.nodup_cons, List.mem_cons, not_or] at nd
                have lw : wi < l.length := (List.getElem?_eq_some_iff.mp gw).1
                have lq : qi < l.length := (List.getElem?_eq_some_iff.mp gq).1
                have fr := frame (l2 := putJ l wi qi J') o hball s (by simp [putJ]) (fun n hn => by
                  simp only [List.mem_cons, not_or] at hn
                  simp only [putJ]
                  rw [List.getElem?_set_ne (fun z => hn.2.1 z.symm), List.getElem?_set_ne (fun z => hn.1 z.symm)]) fun j n ob a h1 h2 h3 m => by
                  match j, h1 with
                  | 0, h1 =>
                    simp at h1; subst h1
                    have h2' : putJ l wi qi J' = (l.set qi J'.gob).set wi (J'.ob qi) := by simp only [putJ]; rw [List.set_comm]; exact nd.1.1
                    rw [h2', List.getElem?_set_self (by simpa using lw)] at h2
                    cases h2
                    rw [ew] at h3; cases h3
                    obtain ⟨vs, u1, u2⟩ := o'.at_ 0 (J'.ob 1) ρ[wi] rfl (by rw [ea]; rfl)
                    obtain ⟨v1, v2, rfl, w1, w2⟩ := u2.two_
                    refine ⟨_, u1, Rws.cons (by simpa [Rw] using w1) (Rws.one ?_)⟩
                    simp only [Rw] at w2
                    obtain ⟨b, hb1, rfl⟩ := w2
                    rw [ea] at hb1
                    simp at hb1; subst hb1
                    exact rw_adr eq
                  | 1, h1 =>
                    simp at h1; subst h1
                    simp only [putJ] at h2
                    rw [List.getElem?_set_self (by simpa using lq)] at h2
                    cases h2
                    rw [eq] at h3; cases h3
                    obtain ⟨vs, u1, u2⟩ := o'.at_ 1 J'.gob ρ[qi] rfl (by rw [ea]; rfl)
                    exact ⟨_, u1, Rws.pure_ Tk.refl _ _ (pus_int _) u2⟩
                  | j + 2, h1 =>
                    have h1' : (idx ks ds)[j]? = some n := by simpa using h1
                    have hmem := List.mem_of_getElem? h1'
                    obtain ⟨xs, g1, g2, g3⟩ := smL_get he j n h1'
                    simp only [putJ] at h2
                    rw [List.getElem?_set_ne (fun z : qi = n => nd.2.1 (z ▸ hmem)), List.getElem?_set_ne (fun z : wi = n => nd.1.2 (z ▸ hmem)), g1] at h2
                    cases h2
                    have hj : j < (smL ks es).length := (List.getElem?_eq_some_iff.mp g2).1
                    obtain ⟨a', h4, h5⟩ := adrs_get (ρ := ρ) h1' (hb n hmem)
                    rw [h3] at h4; cases h4
                    have hj2 : j < (adrs ρ (idx ks ds)).length := (List.getElem?_eq_some_iff.mp h5).1
                    obtain ⟨us, u1, u2⟩ := o'.at_ (j + 2) _ a (by simp only [List.getElem?_cons_succ]; rw [List.getElem?_append_left hj]; exact g2) (by
                      rw [ea]
                      show ((ρ[qi] :: (adrs ρ (idx ks ds))) ++ t)[j + 1]? = some a
                      show ((adrs ρ (idx ks ds)) ++ t)[j]? = some a
                      rw [List.getElem?_append_left hj2]; exact h5)
                    exact ⟨us, u1, Rws.pure_ Tk.refl xs us g3 u2⟩
                exact finish o fr.1 fr.2 o' s e2 (by rw [ea]; simp [sl, adrs]; omega) r' p
            · exact p.elim
          · exact p.elim
        · exact p.elim
      · exact p.elim
    · exact p.elim
variable {x : Str}
theorem Has.toF {CX : CXT} {m : List D → Sto → Res D} {ks : List Kd} {rl : Bool} {pf : List D → Option D} (h : Has CX P w K mg base x k ps (spD K ks.length m))
    (q : ∀ es d, es.length = ks.length → pf es = some d → ∃ d' junk, m (smA ks 0 es) (smL ks es) = .ok d' (smL ks es ++ junk) ∧ outK rl (smL ks es).length d d' (smL ks es ++ junk)) : Has CX P w K mg base x k ps (spD K ks.length (callF ks rl pf)) :=
  let ⟨f, fd, a, b, c, d⟩ := h.ex; ⟨f, fd, a, b, c, imp_F d q⟩
theorem Has.toJ {CX : CXT} {m : List D → Sto → Res D} {ks : List Kd} {rl : Bool} {pj : Jug → List D → Option (D × Jug)} (h : Has CX P w K mg base x k ps (spD K (ks.length + 1) m))
    (q : ∀ J es d J', es.length = ks.length → pj J es = some (d, J') → ∃ d' junk, m (.adr 0 :: smA ks 2 es) (J.ob 1 :: J.gob :: smL ks es) = .ok d' (J'.ob 1 :: J'.gob :: (smL ks es ++ junk)) ∧ outK rl (2 + (smL ks es).length) d d' (J'.ob 1 :: J'.gob :: (smL ks es ++ junk))) : Has CX P w K mg base x k ps (spD K (ks.length + 1) (callJ ks rl pj)) :=
  let ⟨f, fd, a, b, c, d⟩ := h.ex; ⟨f, fd, a, b, c, imp_J d q⟩
end
end Zb

set_option Elab.async false
set_option linter.all false
set_option maxRecDepth 100000
set_option maxHeartbeats 4000000
namespace Zb
open PySem L2 PySem.Spec PyProof.Rows
/-! ### a tuple times any int -/
theorem tuple_mul1 (l : Addr) (items : Array Value) (n : Nat) (dd : Option Addr) (sl : Array (Option Value)) (x : Int) (u : Tok) (c0 : (decide (x < -(2 ^ 63)) || decide (x ≥ 2 ^ 63)) = false) (c1 : (items.isEmpty || x == 1) = true) :
    Meets (Builtin.«tuple.__mul__» ⟨[.ref l, .int x u], []⟩) (fun _ R s => s.heap.get? l = some { cls := .type "tuple", dict := dd, data := .seq items n, slots := sl } ∧ R (.ok (.ret (Value.ref l))) s) :=
  .of_wp fun prog w A R s h => by
    obtain ⟨hp, g, d, tk, os⟩ := s
    obtain ⟨hl, h⟩ := h
    have f1 := AutoSeq1.idx_int
    wp_walk using wpAny_loadPart' hl
    repeat (first
      | (refine wpAny_ite_false (decide_eq_false (by rw [c0]; exact Bool.false_ne_true)) ?_; wp_walk using wpAny_loadPart' hl)
      | (refine wpAny_ite_true (decide_eq_true (by rw [c1])) ?_; wp_walk using wpAny_loadPart' hl))
    exact ⟨_, rfl, h⟩
theorem tuple_mul0 (l : Addr) (items : Array Value) (n : Nat) (dd : Option Addr) (sl : Array (Option Value)) (x : Int) (u : Tok) (c0 : (decide (x < -(2 ^ 63)) || decide (x ≥ 2 ^ 63)) = false) (c1 : (items.isEmpty || x == 1) = false) (c2 : (decide (x ≤ 0) || items.isEmpty) = true) :
    Meets (Builtin.«tuple.__mul__» ⟨[.ref l, .int x u], []⟩) (fun _ R s => s.heap.get? l = some { cls := .type "tuple", dict := dd, data := .seq items n, slots := sl } ∧
      R (.ok (.ret (Value.ref s.heap.objs.size))) { s with heap := s.heap.push { cls := Value.type "tuple", data := Data.seq #[] }, toks := s.toks }) :=
  .of_wp fun prog w A R s h => by
    obtain ⟨hp, g, d, tk, os⟩ := s
    obtain ⟨hl, h⟩ := h
    have f1 := AutoSeq1.idx_int
    wp_walk using wpAny_loadPart' hl
    repeat (first
      | (refine wpAny_ite_false (decide_eq_false (by rw [c0]; exact Bool.false_ne_true)) ?_; wp_walk using wpAny_loadPart' hl)
      | (refine wpAny_ite_false (decide_eq_false (by rw [c1]; exact Bool.false_ne_true)) ?_; wp_walk using wpAny_loadPart' hl)
      | (refine wpAny_ite_true (decide_eq_true (by rw [c2])) ?_; wp_walk using wpAny_loadPart' hl))
    exact ⟨_, rfl, h⟩
def rRepA (K : PySem.W.Frag) : R2 := fun x y H Q => ∃ l k xs, x = .ref l ∧ y = .int k ∧ SqT K H l xs ∧ -(2 ^ 62) < k ∧ k < 2 ^ 62 ∧ xs.length * k.toNat ≤ sizeLine ∧ ((xs.isEmpty || k == 1) = true → Q (.ref l) H) ∧
  ((xs.isEmpty || k == 1) = false → ∀ p, H p = none → Q (.ref p) (upd H p (.tup (List.replicate k.toNat xs).flatten)))
section
variable {X : Cx}
theorem op_repA : OpR X (binaryOp .Mult) (rRepA X.K) := by
  intro pins s σ H x y v u Q I rx ry h
  obtain ⟨l, k, xs, rfl, rfl, hT, h1, h2, hz, q1, q2⟩ := h
  cases rx
  obtain ⟨t, rfl⟩ := ry
  obtain ⟨its, r, ⟨⟨cls, dd, data, sl⟩, ho, hc, n, hd⟩, hs⟩ := I.tuple hT
  simp only at hc hd
  subst hc hd
  have hle : its.length = xs.length := r.length.symm
  have hi : its.toArray.isEmpty = xs.isEmpty := by
    cases its with
    | nil => cases xs with
      | nil => rfl
      | cons a b => cases hle
    | cons a b => cases xs with
      | nil => cases hle
      | cons a b => rfl
  have hsz0 : its.toArray.size = xs.length := by rw [List.size_toArray, hle]
  have c0 : (decide (k < -(2 ^ 63)) || decide (k ≥ 2 ^ 63)) = false := by
    rw [decide_eq_false (by omega), decide_eq_false (by omega)] <;> rfl
  cases c : (xs.isEmpty || k == 1) with
  | true =>
    have c1 : (its.toArray.isEmpty || k == 1) = true := by rw [hi]; exact c
    refine wpAny_binaryOp_repeat_ref (T := "tuple") (U := "int") (by decide) ⟨_, ho, rfl⟩ (fun s' => typeIs_int s' k t) noFill_tuple_mul F.fills_int_mul F.slot_int_rmul repeat_tuple F.slot_int_index.lookup
      (call_meets F.slot_int_rmul (typeIs_int s k t) F.entry_int_rmul (F.args_int_rmul_2 _ _) (int_rmul_tuple k t l its.toArray n dd sl)
        ⟨ho, rfl, ⟨_, ho, rfl⟩, call_meets F.slot_tuple_mul ⟨_, ho, rfl⟩ F.entry_tuple_mul (F.args_tuple_mul_2 _ _) (tuple_mul1 l its.toArray n dd sl k t c0 c1) ⟨ho, ?_⟩⟩)
    exact ⟨.ref l, _, I, rfl, q1 c⟩
  | false =>
    have c1 : (its.toArray.isEmpty || k == 1) = false := by rw [hi]; exact c
    have hx : xs.isEmpty = false := by
      cases e : xs.isEmpty with
      | true => rw [e] at c; cases c
      | false => rfl
    have hk1 : k ≠ 1 := fun e => by rw [e, hx] at c; cases c
    by_cases hk : k ≤ 0
    · have c2 : (decide (k ≤ 0) || its.toArray.isEmpty) = true := by rw [decide_eq_true hk]; rfl
      refine wpAny_binaryOp_repeat_ref (T := "tuple") (U := "int") (by decide) ⟨_, ho, rfl⟩ (fun s' => typeIs_int s' k t) noFill_tuple_mul F.fills_int_mul F.slot_int_rmul repeat_tuple F.slot_int_index.lookup
        (call_meets F.slot_int_rmul (typeIs_int s k t) F.entry_int_rmul (F.args_int_rmul_2 _ _) (int_rmul_tuple k t l its.toArray n dd sl)
          ⟨ho, rfl, ⟨_, ho, rfl⟩, call_meets F.slot_tuple_mul ⟨_, ho, rfl⟩ F.entry_tuple_mul (F.args_tuple_mul_2 _ _) (tuple_mul0 l its.toArray n dd sl k t c0 c1 c2) ⟨ho, ?_⟩⟩)
      have e0 : (List.replicate k.toNat xs).flatten = [] := by
        have : k.toNat = 0 := by omega
        rw [this]; rfl
      have q := q2 c
      rw [e0] at q
      refine ⟨.ref s.heap.objs.size, _, I.laid (t' := s.toks) (o := .tup []) (fun b ob q => Heap.get?_push_of_some _ q) (Nat.le_refl _) ?_, rfl, q _ (I.hok.fresh (Nat.le_refl _))⟩
      exact ⟨by rw [sizeLine_eq]; exact Nat.zero_le _, [], .nil, IsTup.new _ _⟩
    · have hm : ((its.toArray.size : Nat) : Int) * k ≤ 16777216 := by
        rw [hsz0]
        have : ((xs.length : Nat) : Int) * k = ((xs.length * k.toNat : Nat) : Int) := by
          rw [Int.natCast_mul, Int.toNat_of_nonneg (by omega)]
        rw [this]
        rw [sizeLine_eq] at hz
        omega
      have flen : (List.replicate k.toNat its).flatten.length ≤ sizeLine := by
        rw [PyProof.Rows.lm_len_rep_flat, hle, Nat.mul_comm]
        exact hz
      have c2 : (decide (k ≤ 0) || its.toArray.isEmpty) = false := by
        rw [hi, hx, Bool.or_false]
        exact decide_eq_false (by omega)
      have c4 : Builtin.Tuple.tupleTooMany (((its.toArray.size : Nat) : Int) * k) = false := by
        unfold Builtin.Tuple.tupleTooMany
        rw [sizeLine_eq]
        exact decide_eq_false (by omega)
      refine wpAny_binaryOp_repeat_ref (T := "tuple") (U := "int") (by decide) ⟨_, ho, rfl⟩ (fun s' => typeIs_int s' k t) noFill_tuple_mul F.fills_int_mul F.slot_int_rmul repeat_tuple F.slot_int_index.lookup
        (call_meets F.slot_int_rmul (typeIs_int s k t) F.entry_int_rmul (F.args_int_rmul_2 _ _) (int_rmul_tuple k t l its.toArray n dd sl)
          ⟨ho, rfl, ⟨_, ho, rfl⟩, call_meets F.slot_tuple_mul ⟨_, ho, rfl⟩ F.entry_tuple_mul (F.args_tuple_mul_2 _ _) (tuple_mulW l its.toArray n dd sl k t c0 c1 c2 (by omega) c4 (by rw [size_rep, List.size_toArray]; exact flen)) ⟨ho, ?_⟩⟩)
      rw [size_rep]
      refine ⟨.ref s.heap.objs.size, _, I.laid (t' := s.toks) (o := .tup (List.replicate k.toNat xs).flatten) (fun b ob q => Heap.get?_push_of_some _ q) (Nat.le_refl _) ?_, rfl, q2 c _ (I.hok.fresh (Nat.le_refl _))⟩
      exact ⟨by rw [PyProof.Rows.lm_len_rep_flat, Nat.mul_comm]; exact hz, _, r.rep k.toNat, IsTup.new _ _⟩
end
/-- a * b: ints, a list or a tuple times an int -/
def hMulT : D → D → Sto → Res D
  | .tup xs, .int k, l => if small (xs.length * k.toNat) && mid k then .ok (.tup (List.replicate k.toNat xs).flatten) l else .bad
  | x, y, l => hMul x y l
section
variable {X : Cx} {E : XK} {a b e : Expr} {fa fb : DE} {pos : Pos}
def rMulT (K : PySem.W.Frag) : R2 := fun x y H Q => rMulA x y H Q ∨ rRepA K x y H Q
theorem flat_nil {α : Type} : ∀ k : Nat, (List.replicate k ([] : List α)).flatten = []
  | 0 => rfl
  | k + 1 => by rw [List.replicate_succ, List.flatten_cons, flat_nil k]; rfl
theorem hs_mulT : OpS X.K E (rMulT X.K) hMulT := fun ρ l H dx dy x y Q o rx ry p => by
  unfold hMulT at p
  split at p
  · rename_i xs k
    obtain ⟨hc, p⟩ := Post.ite p
    rw [Bool.and_eq_true] at hc
    obtain ⟨a, vs, rfl, t, r⟩ := rx.tup_
    have b1 := (mid_ hc.2).2
    have b2 := (mid_ hc.2).1
    rw [ry.int_]
    refine .inr ⟨a, k, vs, rfl, rfl, t, b2, b1, by rw [r.length]; exact small_le hc.1, fun c => ?_, fun c q hq => ?_⟩
    · refine Post.here p o (rw_tup t ?_)
      rw [Bool.or_eq_true] at c
      rcases c with c | c
      · have e1 : vs = [] := by simpa using c
        have e2 := r.nil_iff.mp e1
        subst e1; subst e2
        rw [flat_nil]; exact Rws.nil
      · have e1 : k = 1 := by simpa using c
        subst e1
        have : (List.replicate (1 : Int).toNat xs).flatten = xs := by
          show (List.replicate 1 xs).flatten = xs
          simp
        rw [this]; exact r
    · exact Post.mkT o (r.rep _) p hq
  · exact .inl (hs_mul ρ l H dx dy x y Q o rx ry p)
theorem ae_mulT (ha : AE X E a fa) (hb : AE X E b fb) : AE X E (.BinOp a .Mult b pos) (dOp hMulT fa fb) := ae_op2 (pe_op (OpR.or op_mulA op_repA) ha.pe hb.pe) hs_mulT
end
end Zb

set_option Elab.async false
set_option linter.all false
set_option maxRecDepth 100000
namespace Zb
open PySem L2 PySem.Spec PyProof.Rows
theorem ae_gl {X : Cx} {E : XK} {d : D} {v : V} {x : Str} {pos : Pos} (hd : isC d v) (hg : Gl X x) (h : ∃ u, X.mg x = some u ∧ RelV v u) (hn : (x == ("__debug__" : Str)) = false := by decide) : AE X E (.Name x pos) (dC d) := by
  obtain ⟨u, hm, r⟩ := h
  exact ae_c hd (pe_glob hg hm r hn)
theorem _root_.L2.Room.units1 {k : Nat} {A : Around} (r : Room k A) : A.units + 1 < cLine := by have := r.un; omega
/-! ### comparisons as tests -/
def dBl (f : DE) : DB := fun g l => (f g l).bind fun d l1 => match d with
  | .bl k => .ok k l1
  | _ => .bad
section
variable {X : Cx} {E : XK} {a b c e : Expr} {fa fb fc f : DE} {pos : Pos}
theorem bl_of {K : PySem.W.Frag} {σ H Q} (h : ttOf K E (dBl f) σ H Q) : teOf K E f σ H (fun x H' => ∃ k, x = .bl k ∧ Q k H') := by
  obtain ⟨ρ, l, g, o, s, p⟩ := h
  refine ⟨ρ, l, g, o, s, Post.bind p fun d l1 ρ1 H1 v e1 s1 o1 r1 p1 => ?_⟩
  cases d with
  | bl k => rw [r1.bl_]; exact ⟨k, rfl, p1.here o1 rfl⟩
  | _ => exact p1.elim
theorem op2_of {K : PySem.W.Frag} {r : R2} {h : D → D → Sto → Res D} (hs : OpS K E r h) {σ H Q} (w : teOf K E (dOp h fa fb) σ H Q) : tOp r (teOf K E fa) (teOf K E fb) σ H Q := by
  obtain ⟨ρ, l, g, o, s, p⟩ := w
  refine ⟨ρ, l, g, o, s, Post.bind p fun x l1 ρ1 H1 v e1 s1 o1 r1 p1 => ?_⟩
  refine ⟨ρ1, l1, g, o1, s.step s1 o, Post.bind p1 fun y l2 ρ2 H2 u e2 s2 o2 r2 p2 => ?_⟩
  exact hs ρ2 l2 H2 x y v u Q o2 (s2.rw o1 r1) r2 p2
theorem at_cmp {op : CmpOp} {r : R2} {h : D → D → Sto → Res D} (ho : OpR X (compareOp op) r) (hs : OpS X.K E r h) (ha : AE X E a fa) (hb : AE X E b fb) (hm : behindInMarks op b = false) : AT X E (.Compare a [op] [b] pos) (dBl (dOp h fa fb)) :=
  ⟨PT.imp (pt_cmpR ho ha.pe hb.pe hm) fun σ H Q w => op2_of hs (bl_of w)⟩
theorem at_eq (hu : X.A.units + 64 < cLine) (ha : AE X E a fa) (hb : AE X E b fb) : AT X E (.Compare a [.Eq] [b] pos) (dBl (dOp hEq fa fb)) := at_cmp (OpR.or op_eq (op_eqD hu)) hs_eq ha hb (nomark _)
theorem at_ne (hu : X.A.units + 64 < cLine) (ha : AE X E a fa) (hb : AE X E b fb) : AT X E (.Compare a [.NotEq] [b] pos) (dBl (dOp hNe fa fb)) := at_cmp (OpR.or op_ne (op_neD hu)) hs_ne ha hb (nomark _)
theorem at_lt (ha : AE X E a fa) (hb : AE X E b fb) : AT X E (.Compare a [.Lt] [b] pos) (dBl (dOp (hCmp fun i j => decide (i < j)) fa fb)) := at_cmp op_lt hs_cmp ha hb (nomark _)
theorem at_le (ha : AE X E a fa) (hb : AE X E b fb) : AT X E (.Compare a [.LtE] [b] pos) (dBl (dOp (hCmp fun i j => decide (i ≤ j)) fa fb)) := at_cmp op_le hs_cmp ha hb (nomark _)
theorem at_gt (ha : AE X E a fa) (hb : AE X E b fb) : AT X E (.Compare a [.Gt] [b] pos) (dBl (dOp (hCmp fun i j => decide (j < i)) fa fb)) := at_cmp op_gt hs_cmp ha hb (nomark _)
theorem at_ge (ha : AE X E a fa) (hb : AE X E b fb) : AT X E (.Compare a [.GtE] [b] pos) (dBl (dOp (hCmp fun i j => decide (j ≤ i)) fa fb)) := at_cmp op_ge hs_cmp ha hb (nomark _)
theorem at_in (ha : AE X E a fa) (hb : AE X E b fb) (hm : behindInMarks .In b = false := by rfl) : AT X E (.Compare a [.In] [b] pos) (dBl (dOp (hIn false) fa fb)) := at_cmp op_in_seq hs_in ha hb hm
theorem at_notIn (ha : AE X E a fa) (hb : AE X E b fb) (hm : behindInMarks .NotIn b = false := by rfl) : AT X E (.Compare a [.NotIn] [b] pos) (dBl (dOp (hIn true) fa fb)) := at_cmp op_notIn_seq hs_in ha hb hm
theorem hs_isN : OpS X.K E (fun x y H Q => y = .non ∧ Q (.bl (decide (x = .non))) H) hIsN := fun ρ l H dx dy x y Q o rx ry p => by
  unfold hIsN at p
  split at p
  · exact ⟨ry.non_, by rw [isN_of rx]; exact p.here o rw_bl⟩
  · exact p.elim
theorem hs_notN : OpS X.K E (fun x y H Q => y = .non ∧ Q (.bl (!decide (x = .non))) H) hNotN := fun ρ l H dx dy x y Q o rx ry p => by
  unfold hNotN at p
  split at p
  · exact ⟨ry.non_, by rw [isN_of rx]; exact p.here o rw_bl⟩
  · exact p.elim
theorem at_isN (ha : AE X E a fa) (hb : AE X E b fb) : AT X E (.Compare a [.Is] [b] pos) (dBl (dOp hIsN fa fb)) := at_cmp op_isN hs_isN ha hb (nomark _)
theorem at_notN (ha : AE X E a fa) (hb : AE X E b fb) : AT X E (.Compare a [.IsNot] [b] pos) (dBl (dOp hNotN fa fb)) := at_cmp op_notN hs_notN ha hb (nomark _)
theorem din_of {K : PySem.W.Frag} {σ H Q} (w : teOf K E (dOp (hDIn false) fa fb) σ H Q) : tDIn (teOf K E fa) (teOf K E fb) σ H Q := by
  obtain ⟨ρ, l, g, o, s, p⟩ := w
  refine ⟨ρ, l, g, o, s, Post.bind p fun y l1 ρ1 H1 v e1 s1 o1 r1 p1 => ?_⟩
  refine ⟨ρ1, l1, g, o1, s.step s1 o, Post.bind p1 fun x l2 ρ2 H2 u e2 s2 o2 r2 p2 => ?_⟩
  unfold hDIn at p2
  split at p2
  · rename_i n k hk
    split at p2
    · rename_i kvs e3
      obtain ⟨q, kv, rfl, _, h1, h2, h3⟩ := o2.dct r2 e3
      refine ⟨q, valV kv k, rfl, ?_, ?_⟩
      · rw [key_rel hk (s2.rw o1 r1)]; exact DGet.k h1
      · rw [some_rel h2 h3]; exact p2.here o2 rw_bl
    · exact p2.elim
  · exact p2.elim
theorem dnotin_of {K : PySem.W.Frag} {σ H Q} (w : teOf K E (dOp (hDIn true) fa fb) σ H Q) : tDNotIn (teOf K E fa) (teOf K E fb) σ H Q := by
  obtain ⟨ρ, l, g, o, s, p⟩ := w
  refine ⟨ρ, l, g, o, s, Post.bind p fun y l1 ρ1 H1 v e1 s1 o1 r1 p1 => ?_⟩
  refine ⟨ρ1, l1, g, o1, s.step s1 o, Post.bind p1 fun x l2 ρ2 H2 u e2 s2 o2 r2 p2 => ?_⟩
  unfold hDIn at p2
  split at p2
  · rename_i n k hk
    split at p2
    · rename_i kvs e3
      obtain ⟨q, kv, rfl, _, h1, h2, h3⟩ := o2.dct r2 e3
      refine ⟨q, valV kv k, rfl, ?_, ?_⟩
      · rw [key_rel hk (s2.rw o1 r1)]; exact DGet.k h1
      · rw [some_rel h2 h3]; exact p2.here o2 rw_bl
    · exact p2.elim
  · exact p2.elim
theorem at_din (hu : X.A.units + 1 < cLine) (ha : AE X E a fa) (hb : AE X E b fb) (hm : behindInMarks .In b = false := by rfl) : AT X E (.Compare a [.In] [b] pos) (dBl (dOp (hDIn false) fa fb)) :=
  ⟨PT.imp (pt_cmp (pc_din hu ha.pe hb.pe) hm) fun σ H Q w => din_of (bl_of w)⟩
theorem at_dnotin (hu : X.A.units + 1 < cLine) (ha : AE X E a fa) (hb : AE X E b fb) (hm : behindInMarks .NotIn b = false := by rfl) : AT X E (.Compare a [.NotIn] [b] pos) (dBl (dOp (hDIn true) fa fb)) :=
  ⟨PT.imp (pt_cmp (pc_dnotin hu ha.pe hb.pe) hm) fun σ H Q w => dnotin_of (bl_of w)⟩
theorem pe_at {e : Expr} {t : TE} (h : PT X e (tTest t)) {h2 : teOf X.K E f = t} : AT X E e (dBl f) := ⟨PT.imp h fun σ H Q w => by rw [← h2]; exact bl_of w⟩
theorem at_chain {op op' : CmpOp} {r r' : R2} {h1 h2 : D → D → Sto → Res D} (ho : OpR X (compareOp op) r) (ho' : OpR X (compareOp op') r') (s1 : OpS X.K E r h1) (s2 : OpS X.K E r' h2) (ha : AE X E a fa) (hb : AE X E b fb) (hc : AE X E c fc) (hm : lastMarks [op, op'] [b, c] = false := by rfl) :
    AT X E (.Compare a [op, op'] [b, c] pos) (dBl (dChain h1 h2 fa fb fc)) := ⟨PT.imp (pt_chain ho ho' ha.pe hb.pe hc.pe hm) fun σ H Q h => chain_of s1 s2 (bl_of h)⟩
/-! ### comprehensions, the slots told ahead -/
variable {i : Nat} {y : Str} {py : Pos} {elt tg' iter : Expr} {ifs : List Expr} {scope : Scope} {own : List (Str × Nat)} {vs : List Nat} {spos : Pos} {fi : DI} {gt : D → Sto → Sl → Option Sl} {ct : DB} {fe : DE} {tg : TG}
theorem ae_lcv (own : List (Str × Nat)) (hv : own.map (·.2) = vs) (hc : X.calm = true) (hN : X.N.Nodup) (hi : AI X E tg' iter fi) (ok : BlkOk X.N X.env.scope scope own)
    (hg : ∀ (s : Shared) (H : Hp) (C : Addr) (cl : List (Str × Addr)) (fp : List Addr), PG (X.blk s H scope (compEnvC scope cl C X.env) fp) tg' tg)
    (ht : ∀ (s : Shared) (H : Hp) (C : Addr) (cl : List (Str × Addr)) (fp : List Addr), PTs (X.blk s H scope (compEnvC scope cl C X.env) fp) ifs (ttOf X.K E0 ct))
    (he : ∀ (s : Shared) (H : Hp) (C : Addr) (cl : List (Str × Addr)) (fp : List Addr), AE (X.blk s H scope (compEnvC scope cl C X.env) fp) E0 elt fe)
    (ag : AGw tg X.K vs gt) (hs : ∀ x, foldedSetIterable iter X.env x = pure x := by intro _; rfl) :
    AE X E (.ListComp elt [⟨tg', iter, ifs, 0⟩] scope pos) (dLc fi gt ct fe vs) := by
  subst hv
  exact ae_lc hc hN hi ok hg ht he ag hs
theorem as_setLcv (own : List (Str × Nat)) (hv : own.map (·.2) = vs) (hc : X.calm = true) (hN : X.N.Nodup) (hy : X.N[i]? = some y) (hyl : X.env.scope.names.lookup y = some .local)
    (hsw : swapsWith (.ListComp elt [⟨tg', iter, ifs, 0⟩] scope pos) (some (.Name y py)) spos.line X.env = pure true) (hi : AI X E tg' iter fi) (ok : BlkOk X.N X.env.scope scope own)
    (hg : ∀ (s : Shared) (H : Hp) (C : Addr) (cl : List (Str × Addr)) (fp : List Addr), PG (X.blk s H scope (compEnvC scope cl C X.env) fp) tg' tg)
    (ht : ∀ (s : Shared) (H : Hp) (C : Addr) (cl : List (Str × Addr)) (fp : List Addr), PTs (X.blk s H scope (compEnvC scope cl C X.env) fp) ifs (ttOf X.K E0 ct))
    (he : ∀ (s : Shared) (H : Hp) (C : Addr) (cl : List (Str × Addr)) (fp : List Addr), AE (X.blk s H scope (compEnvC scope cl C X.env) fp) E0 elt fe)
    (ag : AGw tg X.K vs gt) (hs : ∀ x, foldedSetIterable iter X.env x = pure x := by intro _; rfl) :
    AS X E (.Assign [.Name y py] (.ListComp elt [⟨tg', iter, ifs, 0⟩] scope pos) spos) (sSet i (dLc fi gt ct fe vs)) := by
  subst hv
  exact as_setLc hc hN hy hyl hsw hi ok hg ht he ag hs
/-! ### methods of lists -/
variable {es : List Expr} {o : Expr} {fo : DE} {fs : DEs} {apos cpos : Pos}
theorem ae_append (ho : AE X E o fo) (ha : AA X E (e :: es) fs) (hbase : attributeBase o "append" X.env (eval o X.env) = eval o X.env := by rfl)
    (hfew : ((backTo cpos (starEach (e :: es) X.env)).all (fun x => !x.1) && (backToKw cpos (keywordEach [] X.env)).all (fun x => x.1.isSome)
      && decide ((e :: es).length + ([] : List Keyword).length + (if ([] : List Keyword).isEmpty then 0 else 1) < 30)) = true := by rfl)
    (hline : (apos.endLine == cpos.line) = true := by rfl) (hs : starEach (e :: es) X.env = (false, eval e X.env) :: starEach es X.env := by rfl) (hplain : (backTo cpos (starEach es X.env)).any (·.1) = false := by rfl) :
    AE X E (.Call (.Attribute o "append" apos) (e :: es) [] cpos) (dMe hApp fo fs) := ae_me (pe_bm PySem.F.plainAttrs_list PySem.F.slot_list_append PySem.F.type_list_append mt_append ho.pe ha.pa hbase hfew hline hs hplain) ms_app
theorem ae_extend (ho : AE X E o fo) (ha : AA X E (e :: es) fs) (hbase : attributeBase o "extend" X.env (eval o X.env) = eval o X.env := by rfl)
    (hfew : ((backTo cpos (starEach (e :: es) X.env)).all (fun x => !x.1) && (backToKw cpos (keywordEach [] X.env)).all (fun x => x.1.isSome)
      && decide ((e :: es).length + ([] : List Keyword).length + (if ([] : List Keyword).isEmpty then 0 else 1) < 30)) = true := by rfl)
    (hline : (apos.endLine == cpos.line) = true := by rfl) (hs : starEach (e :: es) X.env = (false, eval e X.env) :: starEach es X.env := by rfl) (hplain : (backTo cpos (starEach es X.env)).any (·.1) = false := by rfl) :
    AE X E (.Call (.Attribute o "extend" apos) (e :: es) [] cpos) (dMe hExt fo fs) := ae_me (pe_bm PySem.F.plainAttrs_list PySem.F.slot_list_extend PySem.F.type_list_extend mt_extA ho.pe ha.pa hbase hfew hline hs hplain) ms_ext
theorem ae_pop (ho : AE X E o fo) (hbase : attributeBase o "pop" X.env (eval o X.env) = eval o X.env := by rfl) (hline : (apos.endLine == cpos.line) = true := by rfl) :
    AE X E (.Call (.Attribute o "pop" apos) [] [] cpos) (dMe0 hPop fo) := ae_me0 (pe_bm0 PySem.F.plainAttrs_list PySem.F.slot_list_pop PySem.F.type_list_pop mt_pop ho.pe hbase hline) ms_pop
end
end Zb

set_option Elab.async false
set_option linter.all false
set_option maxRecDepth 100000
namespace Zb
open PySem L2 PySem.Spec PyProof.Rows
/-! ### defs that raise -/
def runX (n : Nat) (den : DS) : List D → Sto → Res D := fun ds l => match den (startD n ds) l with
  | .rt d l' => .ok d l'
  | .nx _ l' => .ok .non l'
  | .ex C fs l' => .exc C fs l'
  | _ => .bad
section
variable {P : Program} {w : World} {K : PySem.W.Frag} {mg : Str → Option Value} {base : Heap} {k n : Nat} {f : Addr} {fd : FuncData} {ps N : List Str} {x qual : Str} {st : Stmt}
theorem ok_bodyX {den : DS} (F : Fun K x qual st f fd) (S : FnScope N ps (defScope st))
    (hb : ∀ (cdv : Value) (A : Around) (outer : List Env) (s : Shared) (H : Hp) (E : XK), Room k (A.deeper (envOfC qual (defScope st) s.heap.objs.size f cdv)) →
      ASs (cxOf (L2.CX P w) P w K mg base N qual (defScope st) f cdv A outer s H E) E (defBody st) den) : FnOk P w K mg base (L2.CX P w) (k + 1) f fd ps (spD K ps.length (runX N.length den)) := by
  refine F.okX S (fun vs H Q E h => ?_) (fun cdv A outer s H vs Q E hr h => ?_)
  · obtain ⟨ρ, l, ds, o, r, hl, _⟩ := h
    rw [r.length, hl]
  · obtain ⟨ρ, l, ds, o, r, hl, p⟩ := h
    refine ⟨_, (hb cdv A outer s H E hr).pss, ρ, l, startD N.length ds, o, slt_start r, ?_⟩
    unfold runX at p
    cases q : den (startD N.length ds) l with
    | bad => rw [q] at p; exact p
    | nx g l' => rw [q] at p; exact fun ρ' H' σ' s' o' _ => p ρ' H' .non s' o' rw_non
    | rt d l' => rw [q] at p; exact fun ρ' H' v s' o' r' => p ρ' H' v s' o' r'
    | bk g l' => rw [q] at p; exact p.elim
    | ct g l' => rw [q] at p; exact p.elim
    | ex C gs l' => rw [q] at p; exact p
end
section
variable {X : Cx} {E : XK} {e : Expr} {es : List Expr} {fs : DEs} {pos p : Pos} {x : Str} {k n : Nat} {ps : List Str}
/-! ### calls that may raise -/
def dCallX (n : Nat) (m : List D → Sto → Res D) (fs : DEs) : DE := fun g l => (fs g l).bind fun ds l1 => if ds.length == n then m ds l1 else .bad
theorem callX_of {m : List D → Sto → Res D} {σ H Q} (h : teOf X.K E (dCallX n m fs) σ H Q) : tCall (spD X.K n m) [] E (taOf X.K E fs) σ H Q := by
  obtain ⟨ρ, l, g, o, s, q⟩ := h
  refine ⟨ρ, l, g, o, s, Post.bind q fun ds l1 ρ1 H1 vs e1 s1 o1 r1 q1 => ?_⟩
  obtain ⟨hc, q1⟩ := Post.ite q1
  rw [List.append_nil]
  exact ⟨ρ1, l1, ds, o1, r1, by simpa using hc, q1⟩
theorem passX (tk : Takes X (fun c d _ H => E c d H)) : Passes (L2.CX X.prog X.w) X E := passes_call tk fun _ _ _ _ h => h
theorem ae_callX {CX : CXT} {m : List D → Sto → Res D} (h : Has CX X.prog X.w X.K X.mg X.base x k ps (spD X.K n m)) (hx : Passes CX X E) (hr : Room k X.A) (hg : Gl X x) (ha : AA X E (e :: es) fs) (hdb : (x == ("__debug__" : Str)) = false := by decide)
    (he : starEach (e :: es) X.env = (false, eval e X.env) :: starEach es X.env := by rfl) (hpl : (backTo pos (starEach es X.env)).any (·.1) = false := by rfl) : AE X E (.Call (.Name x p) (e :: es) [] pos) (dCallX n m fs) := by
  obtain ⟨f, fd, a, b, c, d⟩ := h.ex
  exact ⟨PE.imp (pe_call d hr hg a b c .nil hx ha.pa (hdb := hdb) (he := he) (hpl := hpl)) fun σ H Q h => callX_of h⟩
/-! ### calls by keywords alone -/
/-- the def binds its keywords ks so: g, gD put them in the parameters' order -/
structure HasK (CX : CXT) (P : Program) (w : World) (K : PySem.W.Frag) (mg : Str → Option Value) (base : Heap) (x : Str) (k : Nat) (ps ks : List Str) (gD : List D → List D) (sp : Sp) : Prop where
  ex : ∃ (f : Addr) (fd : FuncData) (g : List Value → List Value → List Value) (gV : List V → List V → List V), mg x = some (.ref f) ∧ PySem.W.keepIn K (.ref f) = true ∧ KBinds K fd ps ks g gV ∧ (∀ ρ H ds vs, Rws K ρ H ds vs → Rws K ρ H (gD ds) (gV [] vs)) ∧ FnOk P w K mg base CX k f fd ps sp
structure AK (X : Cx) (E : XK) (kws : List Keyword) (fs : DEs) : Prop where
  pk : PK X kws (taOf X.K E fs)
theorem ak_nil : AK X E [] dNil := ⟨⟨fun pos pins s σ H Q I ⟨ρ, l, g, o, sl, p⟩ => pk_nil.run pos pins s σ H Q I (Post.here p o Rws.nil)⟩⟩
theorem ak_cons {nm : Option Str} {kpos : Pos} {kws : List Keyword} {f : DE} (ha : AE X E e f) (hr : AK X E kws fs) : AK X E (⟨nm, e, kpos⟩ :: kws) (dCons f fs) :=
  ⟨⟨fun pos pins s σ H Q I ⟨ρ, l, g, o, sl, p⟩ => (pk_cons ha.pe hr.pk).run pos pins s σ H Q I (by
    refine ⟨ρ, l, g, o, sl, Post.bind p fun x l1 ρ1 H1 v e1 s1 o1 r1 p1 => ?_⟩
    refine ⟨ρ1, l1, g, o1, sl.step s1 o, Post.bind p1 fun ds l2 ρ2 H2 vs e2 s2 o2 r2 p2 => ?_⟩
    exact Post.here p2 o2 (Rws.cons (s2.rw o1 r1) r2))⟩⟩
def dCallKX (n : Nat) (gD : List D → List D) (m : List D → Sto → Res D) (fs : DEs) : DE := fun g l => (fs g l).bind fun ds l1 => if (gD ds).length == n then m (gD ds) l1 else .bad
theorem pe_callK0 {CX : CXT} {f : Addr} {fd : FuncData} {sp : Sp} {ks : List Str} {g : List Value → List Value → List Value} {gV : List V → List V → List V} {kws : List Keyword} {tk : TA} (F : FnOk X.prog X.w X.K X.mg X.base CX k f fd ps sp) (hr : Room k X.A) (hg : Gl X x) (hm : X.mg x = some (.ref f)) (hk : PySem.W.keepIn X.K (.ref f) = true) (hb : KBinds X.K fd ps ks g gV) (hx : Passes CX X E)
    (hkw : PK X kws tk) (hall : (backToKw pos (keywordEach kws X.env)).all (·.1.isSome) = true := by rfl) (hks : (backToKw pos (keywordEach kws X.env)).filterMap (·.1) = ks := by rfl)
    (hdb : (x == ("__debug__" : Str)) = false := by decide)
    (hpl : ((backTo pos (starEach [] X.env)).any (·.1) || (backToKw pos (keywordEach kws X.env)).any (·.1.isNone)) = false := by rfl) :
    PE X (.Call (.Name x p) [] kws pos) (tCallK sp gV E tNil tk) := by
  refine ⟨fun pins s σ H Q I h => ?_⟩
  refine wpAny_Call_Name_kw (ld_glob I hg hm ?_ hdb)
  refine PySem.W.callWith_KW0 (h₀ := X.base) I.ok.mod.kin hk hall ?_ hpl
  refine thn (hkw.run pos pins s σ H _ I h) fun ws s2 ⟨zs, H2, I2, rz, q2⟩ => ⟨I2.kIn, ?_⟩
  rw [hks]
  exact run_fnk F hr hb hx I2 .nil rz q2
theorem ae_callKX {CX : CXT} {ks : List Str} {gD : List D → List D} {kws : List Keyword} {m : List D → Sto → Res D} (h : HasK CX X.prog X.w X.K X.mg X.base x k ps ks gD (spD X.K n m)) (hx : Passes CX X E) (hr : Room k X.A) (hg : Gl X x) (ha : AK X E kws fs)
    (hall : (backToKw pos (keywordEach kws X.env)).all (·.1.isSome) = true := by rfl) (hks : (backToKw pos (keywordEach kws X.env)).filterMap (·.1) = ks := by rfl)
    (hdb : (x == ("__debug__" : Str)) = false := by decide)
    (hpl : ((backTo pos (starEach [] X.env)).any (·.1) || (backToKw pos (keywordEach kws X.env)).any (·.1.isNone)) = false := by rfl) :
    AE X E (.Call (.Name x p) [] kws pos) (dCallKX n gD m fs) := by
  obtain ⟨f, fd, g, gV, a, b, c, d, F⟩ := h.ex
  refine ⟨PE.imp (pe_callK0 F hr hg a b c hx ha.pk hall hks hdb hpl) fun σ H Q h => ?_⟩
  obtain ⟨ρ, l, gg, o, s, q⟩ := h
  refine ⟨ρ, l, gg, o, s, Post.bind q fun ds l1 ρ1 H1 vs e1 s1 o1 r1 q1 => ?_⟩
  obtain ⟨hc, q1⟩ := Post.ite q1
  exact ⟨ρ1, l1, gD ds, o1, d _ _ _ _ r1, by simpa using hc, q1⟩
end
end Zb

set_option Elab.async false
set_option linter.all false
set_option maxRecDepth 100000
namespace Zb
open PySem L2 PySem.Spec PyProof.Rows
/-! ### what a def computes, read off its run in a small store -/
open Classical in
noncomputable def cutK (rl : Bool) (b : Nat) (d' : D) (L : Sto) : Option D := match rl, d' with
  | false, d' => some d'
  | true, .adr k => if b ≤ k then (match L[k]? with
    | some (.lst xs) => some (.tup xs)
    | _ => none) else none
  | _, _ => none
open Classical in
noncomputable def pfOf (run : List D → Sto → Res D) (ks : List Kd) (rl : Bool) : List D → Option D := fun es => match run (smA ks 0 es) (smL ks es) with
  | .ok d' L => if L.take (smL ks es).length = smL ks es then cutK rl (smL ks es).length d' L else none
  | _ => none
open Classical in
noncomputable def pjOf (run : List D → Sto → Res D) (ks : List Kd) (rl : Bool) : Jug → List D → Option (D × Jug) := fun J es => match run (.adr 0 :: smA ks 2 es) (J.ob 1 :: J.gob :: smL ks es) with
  | .ok d' L => if h : ∃ J' : Jug, L.take (2 + (smL ks es).length) = J'.ob 1 :: J'.gob :: smL ks es then (cutK rl (2 + (smL ks es).length) d' L).map fun d => (d, h.choose) else none
  | _ => none
theorem cutK_out {rl : Bool} {b : Nat} {d d' : D} {L : Sto} (h : cutK rl b d' L = some d) : outK rl b d d' L := by
  cases rl with
  | false => simp only [cutK, Option.some.injEq] at h; exact h
  | true =>
    cases d' with
    | adr k =>
      simp only [cutK] at h
      split at h
      · split at h
        · rename_i hk _ xs e
          cases h
          exact ⟨xs, k, rfl, rfl, e, hk⟩
        · cases h
      · cases h
    | _ => simp [cutK] at h
theorem take_app {α : Type} {L t : List α} {n : Nat} (h : L.take n = t) : L = t ++ L.drop n := by rw [← h, List.take_append_drop]
section
variable {CX : CXT} {P : Program} {w : World} {K : PySem.W.Frag} {mg : Str → Option Value} {base : Heap} {x : Str} {k : Nat} {ps : List Str} {m : List D → Sto → Res D} {ks : List Kd} {rl : Bool}
theorem Has.toFo (h : Has CX P w K mg base x k ps (spD K ks.length m)) : Has CX P w K mg base x k ps (spD K ks.length (callF ks rl (pfOf m ks rl))) := h.toF fun es d _ e => by
  unfold pfOf at e
  split at e
  · rename_i d' L e1
    split at e
    · rename_i e2
      refine ⟨d', L.drop (smL ks es).length, ?_, ?_⟩
      · rw [e1, ← take_app e2]
      · rw [← take_app e2]; exact cutK_out e
    · cases e
  · cases e
theorem Has.toJo (h : Has CX P w K mg base x k ps (spD K (ks.length + 1) m)) : Has CX P w K mg base x k ps (spD K (ks.length + 1) (callJ ks rl (pjOf m ks rl))) := h.toJ fun J es d J' _ e => by
  unfold pjOf at e
  split at e
  · rename_i d' L e1
    split at e
    · rename_i e2
      cases q : cutK rl (2 + (smL ks es).length) d' L with
      | none => rw [q] at e; cases e
      | some d0 =>
        rw [q] at e
        cases e
        have e3 := e2.choose_spec
        have e4 := take_app e3
        refine ⟨d', L.drop (2 + (smL ks es).length), ?_, ?_⟩
        · rw [e1]
          exact congrArg (Res.ok d') (by simpa using e4)
        · have := cutK_out q
          rw [e4] at this
          simpa using this
    · cases e
  · cases e
end
theorem Jug.ob_inj {J J' : Jug} (h : J.ob 1 = J'.ob 1) (h2 : J.gob = J'.gob) : J = J' := by
  cases J with
  | mk f gs =>
    cases J' with
    | mk f' gs' =>
      simp only [Jug.ob, Jug.gob, OB.lst.injEq, List.cons.injEq, D.int.injEq, and_true] at h h2
      subst h
      have : gs = gs' := by
        have hi : Function.Injective D.int := fun a b e => by cases e; rfl
        exact List.map_inj_right (fun a b e => by cases e; rfl) |>.mp h2
      subst this; rfl
section
variable {run : List D → Sto → Res D} {ks : List Kd} {rl : Bool}
/-- a call, by the run in the small store -/
theorem callF_p {ds es : List D} {l junk : Sto} {d : D} (h1 : ins ks ds l = some es) (h2 : (idx ks ds).Nodup) (h3 : run (smA ks 0 es) (smL ks es) = .ok d (smL ks es ++ junk)) (h4 : pu d = true) :
    callF ks false (pfOf run ks false) ds l = .ok d l := by
  unfold callF pfOf
  rw [h1]
  simp [h2, h3, cutK, resK, h4]
theorem callF_l {ds es xs : List D} {l junk : Sto} {j : Nat} (h1 : ins ks ds l = some es) (h2 : (idx ks ds).Nodup) (h3 : run (smA ks 0 es) (smL ks es) = .ok (.adr j) (smL ks es ++ junk)) (hj : (smL ks es).length ≤ j) (h4 : (smL ks es ++ junk)[j]? = some (.lst xs)) (h5 : pus xs = true) :
    callF ks true (pfOf run ks true) ds l = .ok (.adr l.length) (l ++ [.lst xs]) := by
  unfold callF pfOf
  rw [h1]
  simp [h2, h3, cutK, resK, hj, h4, h5]
theorem callJ_p {w q : Nat} {ds es : List D} {l junk : Sto} {d : D} {J J' : Jug} (h0 : getJ l w = some (q, J)) (h1 : ins ks ds l = some es) (h2 : (w :: q :: idx ks ds).Nodup)
    (h3 : run (.adr 0 :: smA ks 2 es) (J.ob 1 :: J.gob :: smL ks es) = .ok d (J'.ob 1 :: J'.gob :: (smL ks es ++ junk))) (h4 : pu d = true) :
    callJ ks false (pjOf run ks false) (.adr w :: ds) l = .ok d (putJ l w q J') := by
  unfold callJ pjOf
  simp only [h0, h1, h3]
  have e : List.take (2 + (smL ks es).length) (J'.ob 1 :: J'.gob :: (smL ks es ++ junk)) = J'.ob 1 :: J'.gob :: smL ks es := by
    rw [Nat.add_comm 2, List.take_succ_cons, List.take_succ_cons, List.take_left']; rfl
  have hx : ∃ J'' : Jug, List.take (2 + (smL ks es).length) (J'.ob 1 :: J'.gob :: (smL ks es ++ junk)) = J''.ob 1 :: J''.gob :: smL ks es := ⟨J', e⟩
  have ej : hx.choose = J' := by
    have this := e.symm.trans hx.choose_spec
    simp only [List.cons.injEq, and_true] at this
    exact (Jug.ob_inj this.1 this.2).symm
  rw [if_pos h2, dif_pos hx]
  simp only [cutK, Option.map_some, ej, resK, h4, if_true]
theorem callJ_l {w q : Nat} {ds es xs : List D} {l junk : Sto} {j : Nat} {J J' : Jug} (h0 : getJ l w = some (q, J)) (h1 : ins ks ds l = some es) (h2 : (w :: q :: idx ks ds).Nodup)
    (h3 : run (.adr 0 :: smA ks 2 es) (J.ob 1 :: J.gob :: smL ks es) = .ok (.adr j) (J'.ob 1 :: J'.gob :: (smL ks es ++ junk))) (hj : 2 + (smL ks es).length ≤ j) (h4 : (J'.ob 1 :: J'.gob :: (smL ks es ++ junk))[j]? = some (.lst xs)) (h5 : pus xs = true) :
    callJ ks true (pjOf run ks true) (.adr w :: ds) l = .ok (.adr (putJ l w q J').length) (putJ l w q J' ++ [.lst xs]) := by
  unfold callJ pjOf
  simp only [h0, h1, h3]
  have e : List.take (2 + (smL ks es).length) (J'.ob 1 :: J'.gob :: (smL ks es ++ junk)) = J'.ob 1 :: J'.gob :: smL ks es := by
    rw [Nat.add_comm 2, List.take_succ_cons, List.take_succ_cons, List.take_left']; rfl
  have hx : ∃ J'' : Jug, List.take (2 + (smL ks es).length) (J'.ob 1 :: J'.gob :: (smL ks es ++ junk)) = J''.ob 1 :: J''.gob :: smL ks es := ⟨J', e⟩
  have ej : hx.choose = J' := by
    have this := e.symm.trans hx.choose_spec
    simp only [List.cons.injEq, and_true] at this
    exact (Jug.ob_inj this.1 this.2).symm
  rw [if_pos h2, dif_pos hx]
  simp only [cutK, if_pos hj, h4, Option.map_some, ej, resK, h5, if_true]
end
/-! ### written texts -/
theorem chars_inj : ∀ {a b : List Char}, a.map Char.toNat = b.map Char.toNat → a = b
  | [], [], _ => rfl
  | [], _ :: _, h => by simp at h
  | _ :: _, [], h => by simp at h
  | x :: a, y :: b, h => by
    simp only [List.map_cons, List.cons.injEq] at h
    rw [chars_inj h.2]
    have : x = y := Char.ext (UInt32.toNat_inj.mp h.1)
    rw [this]
@[simp] theorem ofString_inj {a b : String} : (Str.ofString a = Str.ofString b) ↔ a = b := by
  constructor
  · intro h
    rw [Str.ofString_eq_toList, Str.ofString_eq_toList] at h
    have h1 : (a.toList.map Char.toNat).toArray = (b.toList.map Char.toNat).toArray := congrArg Str.cps h
    have h2 := chars_inj (List.toArray_inj h1)
    exact String.toList_inj.mp h2
  · rintro rfl; rfl
example : (("throw" : Str) = "set") = False := by simp
end Zb

set_option Elab.async false
set_option linter.all false
set_option maxRecDepth 100000
namespace Zb
open PySem L2 PySem.Spec PyProof.Rows
/-! ### what a run computes, by rewriting: only what is run next is looked at -/
section
variable {α β : Type}
@[simp] theorem bind_ok (a : α) (l : Sto) (k : α → Sto → Res β) : (Res.ok a l).bind k = k a l := rfl
@[simp] theorem bind_bad (k : α → Sto → Res β) : (Res.bad : Res α).bind k = .bad := rfl
@[simp] theorem bind_exc (C : Addr) (fs : List (Str × D)) (l : Sto) (k : α → Sto → Res β) : (Res.exc C fs l : Res α).bind k = .exc C fs l := rfl
@[simp] theorem out_ok (a : α) (l : Sto) (k : α → Sto → Out) : (Res.ok a l).out k = k a l := rfl
@[simp] theorem out_bad (k : α → Sto → Out) : (Res.bad : Res α).out k = .bad := rfl
@[simp] theorem out_exc (C : Addr) (fs : List (Str × D)) (l : Sto) (k : α → Sto → Out) : (Res.exc C fs l : Res α).out k = .ex C fs l := rfl
@[simp] theorem nox_ok (a : α) (l : Sto) : (Res.ok a l).nox = .ok a l := rfl
@[simp] theorem nox_bad : (Res.bad : Res α).nox = .bad := rfl
end
def Out.seq (r : Out) (h : DS) : Out := match r with
  | .nx g1 l1 => h g1 l1
  | r => r
@[simp] theorem sSeq_e (f h : DS) (g : Sl) (l : Sto) : sSeq f h g l = (f g l).seq h := rfl
@[simp] theorem seq_nx (g : Sl) (l : Sto) (h : DS) : (Out.nx g l).seq h = h g l := rfl
@[simp] theorem seq_bad (h : DS) : Out.bad.seq h = .bad := rfl
@[simp] theorem seq_rt (d : D) (l : Sto) (h : DS) : (Out.rt d l).seq h = .rt d l := rfl
@[simp] theorem seq_bk (g : Sl) (l : Sto) (h : DS) : (Out.bk g l).seq h = .bk g l := rfl
@[simp] theorem seq_ct (g : Sl) (l : Sto) (h : DS) : (Out.ct g l).seq h = .ct g l := rfl
@[simp] theorem seq_ex (C : Addr) (fs : List (Str × D)) (l : Sto) (h : DS) : (Out.ex C fs l).seq h = .ex C fs l := rfl
def Out.toB (r : Out) : Res D := match r with
  | .rt d l' => .ok d l'
  | .nx _ l' => .ok .non l'
  | _ => .bad
@[simp] theorem toB_rt (d : D) (l : Sto) : (Out.rt d l).toB = .ok d l := rfl
@[simp] theorem toB_nx (g : Sl) (l : Sto) : (Out.nx g l).toB = .ok .non l := rfl
@[simp] theorem toB_bad : Out.bad.toB = .bad := rfl
@[simp] theorem runB_e (n : Nat) (den : DS) (ds : List D) (l : Sto) : runB n den ds l = (den (startD n ds) l).toB := rfl
def Out.toX (r : Out) : Res D := match r with
  | .rt d l' => .ok d l'
  | .nx _ l' => .ok .non l'
  | .ex C fs l' => .exc C fs l'
  | _ => .bad
@[simp] theorem toX_rt (d : D) (l : Sto) : (Out.rt d l).toX = .ok d l := rfl
@[simp] theorem toX_nx (g : Sl) (l : Sto) : (Out.nx g l).toX = .ok .non l := rfl
@[simp] theorem toX_ex (C : Addr) (fs : List (Str × D)) (l : Sto) : (Out.ex C fs l).toX = .exc C fs l := rfl
@[simp] theorem runX_e (n : Nat) (den : DS) (ds : List D) (l : Sto) : runX n den ds l = (den (startD n ds) l).toX := rfl
@[simp] theorem startD_nil (n : Nat) : startD n [] = List.replicate n none := rfl
@[simp] theorem startD_cons (n : Nat) (d : D) (ds : List D) : startD (n + 1) (d :: ds) = some d :: startD n ds := by simp [startD]
@[simp] theorem small_e (n : Nat) : small n = decide (n ≤ 16777216) := rfl
@[simp] theorem sRetN_e (g : Sl) (l : Sto) : sRetN g l = .rt .non l := rfl
@[simp] theorem mid_nat (n : Nat) : mid (n : Int) = decide (n ≤ 1000000000000) := by simp [mid]
@[simp] theorem in62_e (i : Int) : in62 i = mid i := rfl
@[simp] theorem mid_lit (n : Nat) : mid (no_index (OfNat.ofNat n)) = decide (OfNat.ofNat n ≤ 1000000000000) := mid_nat n
@[simp] theorem mid_0 : mid 0 = true := rfl
@[simp] theorem mid_1 : mid 1 = true := rfl
/-! operators -/
section
variable (l : Sto) (i j : Int) (xs ys : List D) (n m : Nat) (s t : Str) (b c : Bool) (x : D)
@[simp] theorem okO_some : okO (some x) l = .ok x l := rfl
@[simp] theorem okO_none : okO none l = .bad := rfl
@[simp] theorem hAdd_int : hAdd (.int i) (.int j) l = .ok (.int (i + j)) l := rfl
@[simp] theorem hAdd_tup : hAdd (.tup xs) (.tup ys) l = if small (xs.length + ys.length) then .ok (.tup (xs ++ ys)) l else .bad := rfl
@[simp] theorem hAdd_adr : hAdd (.adr n) (.adr m) l = (match l[n]?, l[m]? with
    | some (.lst xs), some (.lst ys) => if small (xs.length + ys.length) then .ok (.adr l.length) (l ++ [.lst (xs ++ ys)]) else .bad
    | _, _ => .bad) := rfl
@[simp] theorem hInt_int (c : Int → Int → Bool) (f : Int → Int → Int) : hInt c f (.int i) (.int j) l = if c i j then .ok (.int (f i j)) l else .bad := rfl
@[simp] theorem yes2_e : yes2 i j = true := rfl
@[simp] theorem hMul_int : hMul (.int i) (.int j) l = if mulOk i j then .ok (.int (i * j)) l else .bad := rfl
@[simp] theorem hMul_adr : hMul (.adr n) (.int j) l = (match l[n]? with
    | some (.lst xs) => if small (xs.length * j.toNat) && mid j then .ok (.adr l.length) (l ++ [.lst (List.replicate j.toNat xs).flatten]) else .bad
    | _ => .bad) := rfl
@[simp] theorem hMulT_int : hMulT (.int i) (.int j) l = hMul (.int i) (.int j) l := rfl
@[simp] theorem hMulT_adr : hMulT (.adr n) (.int j) l = hMul (.adr n) (.int j) l := rfl
@[simp] theorem hMulT_tup : hMulT (.tup xs) (.int j) l = if small (xs.length * j.toNat) && mid j then .ok (.tup (List.replicate j.toNat xs).flatten) l else .bad := rfl
@[simp] theorem hNeg_int : hNeg (.int i) l = .ok (.int (-i)) l := rfl
@[simp] theorem hEq_int : hEq (.int i) (.int j) l = .ok (.bl (decide (i = j))) l := rfl
@[simp] theorem hEq_str : hEq (.str s) (.str t) l = .ok (.bl (decide (s = t))) l := rfl
@[simp] theorem hEq_bl : hEq (.bl b) (.bl c) l = .ok (.bl (decide (b = c))) l := rfl
@[simp] theorem hEq_tup : hEq (.tup xs) (.tup ys) l = if sh (.tup xs) && sh (.tup ys) then .ok (.bl (PyData.eqv (py (.tup xs)) (py (.tup ys)))) l else .bad := rfl
@[simp] theorem hNe_int : hNe (.int i) (.int j) l = .ok (.bl (!decide (i = j))) l := rfl
@[simp] theorem hNe_str : hNe (.str s) (.str t) l = .ok (.bl (!decide (s = t))) l := rfl
@[simp] theorem hNe_bl : hNe (.bl b) (.bl c) l = .ok (.bl (!decide (b = c))) l := rfl
@[simp] theorem hNe_tup : hNe (.tup xs) (.tup ys) l = if sh (.tup xs) && sh (.tup ys) then .ok (.bl (!PyData.eqv (py (.tup xs)) (py (.tup ys)))) l else .bad := rfl
@[simp] theorem hNe_nn : hNe .non .non l = if sh .non && sh .non then .ok (.bl (!PyData.eqv (py .non) (py .non))) l else .bad := rfl
@[simp] theorem hNe_nt : hNe .non (.tup ys) l = if sh .non && sh (.tup ys) then .ok (.bl (!PyData.eqv (py .non) (py (.tup ys)))) l else .bad := rfl
@[simp] theorem hNe_tn : hNe (.tup ys) .non l = if sh (.tup ys) && sh .non then .ok (.bl (!PyData.eqv (py (.tup ys)) (py .non))) l else .bad := rfl
@[simp] theorem hCmp_int (f : Int → Int → Bool) : hCmp f (.int i) (.int j) l = .ok (.bl (f i j)) l := rfl
@[simp] theorem isN_non : isN .non = true := rfl
@[simp] theorem isN_tup : isN (.tup xs) = false := rfl
@[simp] theorem isN_int : isN (.int i) = false := rfl
@[simp] theorem isN_bl : isN (.bl b) = false := rfl
@[simp] theorem isN_str : isN (.str s) = false := rfl
@[simp] theorem isN_adr : isN (.adr n) = false := rfl
@[simp] theorem hIsN_e : hIsN x .non l = .ok (.bl (isN x)) l := by cases x <;> rfl
@[simp] theorem hNotN_e : hNotN x .non l = .ok (.bl (!isN x)) l := by cases x <;> rfl
@[simp] theorem items_tup : itemsOf (.tup xs) l = some xs := rfl
@[simp] theorem items_adr : itemsOf (.adr n) l = (match l[n]? with
  | some (.lst ds) => some ds
  | _ => none) := rfl
@[simp] theorem hIn_e (neg : Bool) (y : D) : hIn neg x y l = (match itemsOf y l with
  | some ds => if flatD x && ds.all flatD then .ok (.bl (if neg then !inV (fv x) (ds.map fv) else inV (fv x) (ds.map fv))) l else .bad
  | none => .bad) := rfl
@[simp] theorem flat_int : flatD (.int i) = true := rfl
@[simp] theorem flat_str : flatD (.str s) = true := rfl
@[simp] theorem fv_int : fv (.int i) = .int i := rfl
@[simp] theorem fv_str : fv (.str s) = .str s := rfl
@[simp] theorem tru_non : tru .non l = some false := rfl
@[simp] theorem tru_bl : tru (.bl b) l = some b := rfl
@[simp] theorem tru_int : tru (.int i) l = some (i != 0) := rfl
@[simp] theorem tru_tup : tru (.tup xs) l = some (!xs.isEmpty) := rfl
@[simp] theorem tru_adr : tru (.adr n) l = (match l[n]? with
    | some (.lst ds) => some (!ds.isEmpty)
    | _ => none) := rfl
@[simp] theorem hIx_tup : hIx (.tup xs) (.int i) l = okO (atI xs i) l := rfl
@[simp] theorem hIx_adr : hIx (.adr n) (.int i) l = (match l[n]? with
    | some (.lst ds) => okO (atI ds i) l
    | _ => .bad) := rfl
@[simp] theorem atI_nat_e : atI xs ((n : Nat) : Int) = xs[n]? := by
  unfold atI ixN
  rw [if_pos (by omega)]
  by_cases h : n < xs.length
  · rw [if_pos (by omega)]; simp
  · rw [if_neg (by omega)]; simp; omega
@[simp] theorem atI_zero : atI xs 0 = xs[0]? := atI_nat_e xs 0
@[simp] theorem atI_one : atI xs 1 = xs[1]? := atI_nat_e xs 1
@[simp] theorem atI_lit : atI xs (no_index (OfNat.ofNat n)) = xs[(OfNat.ofNat n : Nat)]? := atI_nat_e xs n
@[simp] theorem atI_last : atI xs (-1) = xs[xs.length - 1]? := by
  unfold atI ixN
  rw [if_neg (by omega)]
  by_cases h : xs.length = 0
  · rw [if_neg (by omega)]
    have : xs = [] := List.eq_nil_of_length_eq_zero h
    subst this; rfl
  · rw [if_pos (by omega)]
    have : ((-1 : Int) + (xs.length : Nat)).toNat = xs.length - 1 := by omega
    rw [this]; rfl
theorem cutG_to {α : Type} (xs : List α) (k : Nat) : cutG xs none (some (k : Int)) = xs.take k := by
  unfold cutG
  rw [HT.sIx_none, HT.sIx_nat]
  simp only [List.drop_zero, Nat.sub_zero]
  rw [Nat.min_def]
  split
  · rfl
  · rw [List.take_of_length_le (by omega), List.take_of_length_le (by omega)]
theorem cutG_from {α : Type} (xs : List α) (k : Nat) : cutG xs (some (k : Int)) none = xs.drop k := by
  unfold cutG
  rw [HT.sIx_none, HT.sIx_nat]
  rw [List.take_of_length_le (by rw [List.length_drop]; omega)]
  rw [Nat.min_def]
  split
  · rfl
  · rw [List.drop_eq_nil_of_le (by omega), List.drop_eq_nil_of_le (by omega)]
@[simp] theorem cutG_to_n {α : Type} (xs : List α) (k : Nat) : cutG xs none (some (k : Int)) = xs.take k := cutG_to xs k
@[simp] theorem cutG_to_l {α : Type} (xs : List α) (k : Nat) : cutG xs none (some (no_index (OfNat.ofNat k))) = xs.take (OfNat.ofNat k) := cutG_to xs k
@[simp] theorem cutG_to_1 {α : Type} (xs : List α) : cutG xs none (some 1) = xs.take 1 := cutG_to xs 1
@[simp] theorem cutG_from_n {α : Type} (xs : List α) (k : Nat) : cutG xs (some (k : Int)) none = xs.drop k := cutG_from xs k
@[simp] theorem cutG_from_l {α : Type} (xs : List α) (k : Nat) : cutG xs (some (no_index (OfNat.ofNat k))) none = xs.drop (OfNat.ofNat k) := cutG_from xs k
@[simp] theorem cutG_from_1 {α : Type} (xs : List α) : cutG xs (some 1) none = xs.drop 1 := cutG_from xs 1
@[simp] theorem hSl_tup (lo hi : Option Int) : hSl (.tup xs) lo hi l = .ok (.tup (cutG xs lo hi)) l := rfl
@[simp] theorem hSl_adr (lo hi : Option Int) : hSl (.adr n) lo hi l = (match l[n]? with
    | some (.lst ds) => .ok (.adr l.length) (l ++ [.lst (cutG ds lo hi)])
    | _ => .bad) := rfl
@[simp] theorem hSl_ro (ns : List Int) (lo hi : Option Int) : hSl (.ro ns) lo hi l = .ok (.adr l.length) (l ++ [.lst ((cutG ns lo hi).map D.int)]) := rfl
@[simp] theorem hRev_adr : hRev (.adr n) l = (match l[n]? with
    | some (.lst ds) => .ok (.adr l.length) (l ++ [.lst ds.reverse])
    | _ => .bad) := rfl
@[simp] theorem hLen_tup : hLen [.tup xs] l = .ok (.int xs.length) l := rfl
@[simp] theorem hLen_adr : hLen [.adr n] l = (match l[n]? with
    | some (.lst ds) => .ok (.int ds.length) l
    | _ => .bad) := rfl
@[simp] theorem hAbs_int : hAbs [.int i] l = .ok (.int (if i < 0 then -i else i)) l := rfl
@[simp] theorem hInt1_int : hInt1 [.int i] l = .ok (.int i) l := rfl
@[simp] theorem hInt1_bl : hInt1 [.bl b] l = .ok (.int (if b then 1 else 0)) l := rfl
@[simp] theorem hMax2_int : hMax2 [.int i, .int j] l = .ok (.int (if j > i then j else i)) l := rfl
@[simp] theorem hMin2_int : hMin2 [.int i, .int j] l = .ok (.int (if j < i then j else i)) l := rfl
@[simp] theorem hSumL_adr : hSumL [.adr n] l = (match l[n]? with
    | some (.lst ds) => match intsOf ds with
      | some ns => .ok (.int ns.sum) l
      | none => .bad
    | _ => .bad) := rfl
@[simp] theorem ints_map_e : ∀ ns : List Int, intsOf (ns.map D.int) = some ns
  | [] => rfl
  | n :: ns => by simp [intsOf, ints_map_e ns]
@[simp] theorem hTupOf_tup : hTupOf [.tup xs] l = .ok (.tup xs) l := rfl
@[simp] theorem hTupOf_adr : hTupOf [.adr n] l = (match l[n]? with
    | some (.lst ds) => .ok (.tup ds) l
    | _ => .bad) := rfl
@[simp] theorem hLstOf_tup : hLstOf [.tup xs] l = .ok (.adr l.length) (l ++ [.lst xs]) := rfl
@[simp] theorem hLstOf_adr : hLstOf [.adr n] l = (match l[n]? with
    | some (.lst ds) => .ok (.adr l.length) (l ++ [.lst ds])
    | _ => .bad) := rfl
@[simp] theorem tyD_non : tyD .non l = some "NoneType" := rfl
@[simp] theorem tyD_bl : tyD (.bl b) l = some "bool" := rfl
@[simp] theorem tyD_int : tyD (.int i) l = some "int" := rfl
@[simp] theorem tyD_str : tyD (.str s) l = some "str" := rfl
@[simp] theorem tyD_tup : tyD (.tup xs) l = some "tuple" := rfl
@[simp] theorem tyD_adr : tyD (.adr n) l = (match l[n]? with
    | some (.lst _) => some "list"
    | some (.dct _) => some "dict"
    | none => none) := rfl
@[simp] theorem hIsi1_e (t : String) : hIsi1 [x, .ty t] l = (match tyD x l with
    | some s => match kitB s t with
      | some b => .ok (.bl b) l
      | none => .bad
    | none => .bad) := by cases x <;> rfl
@[simp] theorem hIsi2_e (t u : String) : hIsi2 t u x l = (match tyD x l with
  | some s => match kitB s t, kitB s u with
    | some b, some c => .ok (.bl (b || c)) l
    | _, _ => .bad
  | none => .bad) := rfl
@[simp] theorem isL_adr : isL (.adr n) l = (match l[n]? with
    | some (.lst _) => true
    | _ => false) := rfl
@[simp] theorem hApp_e : hApp (.adr n) [x] l = (match l[n]? with
    | some (.lst ds) => if small (ds.length + 1) then .ok .non (l.set n (.lst (ds ++ [x]))) else .bad
    | _ => .bad) := rfl
@[simp] theorem hPop_e : hPop (.adr n) [] l = (match l[n]? with
    | some (.lst ds) => match ds[ds.length - 1]? with
      | some d => .ok d (l.set n (.lst ds.dropLast))
      | none => .bad
    | _ => .bad) := rfl
@[simp] theorem hExt_e : hExt (.adr n) [x] l = (match l[n]?, itemsOf x l with
    | some (.lst ds), some es => if small (ds.length + es.length) then .ok .non (l.set n (.lst (ds ++ es))) else .bad
    | _, _ => .bad) := rfl
@[simp] theorem hSetL_e : hSetL (.adr n) (.int i) x l = (match l[n]? with
    | some (.lst ds) => match ixN ds.length i with
      | some j => some (l.set n (.lst (ds.set j x)))
      | none => none
    | _ => none) := rfl
@[simp] theorem ixN_nat : ixN m ((n : Nat) : Int) = if n < m then some n else none := by
  unfold ixN
  rw [if_pos (by omega)]
  by_cases h : n < m
  · rw [if_pos (by omega), if_pos h]; simp
  · rw [if_neg (by omega), if_neg h]
@[simp] theorem ixN_zero : ixN m 0 = if 0 < m then some 0 else none := ixN_nat 0 m
@[simp] theorem ixN_one : ixN m 1 = if 1 < m then some 1 else none := ixN_nat 1 m
@[simp] theorem hGetL_e : hGetL (.adr n) (.int i) l = (match l[n]? with
    | some (.lst ds) => if decide (0 ≤ i) && mid i then okO ds[i.toNat]? l else .bad
    | _ => .bad) := rfl
@[simp] theorem setsD_nil (g : Sl) : setsD [] [] g = some g := rfl
@[simp] theorem setsD_cons (is : List Nat) (g : Sl) : setsD (n :: is) (x :: xs) g = setsD is xs (g.set n (some x)) := rfl
@[simp] theorem gN_e (g : Sl) : gN n x l g = some (g.set n (some x)) := rfl
@[simp] theorem gT_e (is : List Nat) (g : Sl) : gT is (.tup xs) l g = setsD is xs g := rfl
@[simp] theorem keyD_int : keyD (.int i) = some (.inl i) := rfl
@[simp] theorem keyD_str : keyD (.str s) = some (.inr s) := rfl
@[simp] theorem hDIn_e (neg : Bool) (y : D) : hDIn neg y (.adr n) l = (match keyD y with
  | some k => (match l[n]? with
    | some (.dct kvs) => .ok (.bl (if neg then !(valD kvs k).isSome else (valD kvs k).isSome)) l
    | _ => .bad)
  | none => .bad) := by cases y <;> rfl
@[simp] theorem hDGet_e (y : D) : hDGet (.adr n) y l = (match keyD y with
  | some k => (match l[n]? with
    | some (.dct kvs) => okO (valD kvs k) l
    | _ => .bad)
  | none => .bad) := by cases y <;> rfl
@[simp] theorem pu_non : pu .non = true := rfl
@[simp] theorem pu_int : pu (.int i) = true := rfl
@[simp] theorem pu_bl : pu (.bl b) = true := rfl
@[simp] theorem pu_str : pu (.str s) = true := rfl
@[simp] theorem pu_tup : pu (.tup xs) = pus xs := by simp [pu]
@[simp] theorem pus_nil : pus [] = true := rfl
@[simp] theorem pus_cons : pus (x :: xs) = (pu x && pus xs) := by simp [pus]
@[simp] theorem pus_ints (ns : List Int) : pus (ns.map D.int) = true := pus_int ns
theorem pus_app : ∀ xs ys : List D, pus (xs ++ ys) = (pus xs && pus ys)
  | [], ys => by simp
  | x :: xs, ys => by simp [pus_app xs ys, Bool.and_assoc]
end
def dChain_k4 (h1 h2 : D → D → Sto → Res D) (fa fb fc : DE) (g : Sl) (x y z : D) : D → Sto → Res D := fun w l => h2 y w l
@[simp] theorem dChain_k4_e (h1 h2 : D → D → Sto → Res D) (fa fb fc : DE) (g : Sl) (x y z w : D) (l : Sto) : dChain_k4 h1 h2 fa fb fc g x y z w l = h2 y w l := rfl
def dCons_k2 (f : DE) (fs : DEs) (g : Sl) (d : D) : List D → Sto → Res (List D) := fun ds l => .ok (d :: ds) l
def dCons_k1 (f : DE) (fs : DEs) (g : Sl)  : D → Sto → Res (List D) := fun d l => (fs g l).bind (dCons_k2 f fs g  d)
@[simp] theorem dCons_k1_e (f : DE) (fs : DEs) (g : Sl)  (d : D) (l : Sto) : dCons_k1 f fs g  d l = ((fs g l).bind (dCons_k2 f fs g  d)) := rfl
@[simp] theorem dCons_k2_e (f : DE) (fs : DEs) (g : Sl) (d : D) (ds : List D) (l : Sto) : dCons_k2 f fs g d ds l = (.ok (d :: ds) l) := rfl
@[simp] theorem dCons_e (f : DE) (fs : DEs) (g : Sl) (l : Sto) : dCons f fs g l = (f g l).bind (dCons_k1 f fs g) := rfl
def dOp_k2 (h : D → D → Sto → Res D) (fa fb : DE) (g : Sl) (x : D) : D → Sto → Res D := fun y l => h x y l
def dOp_k1 (h : D → D → Sto → Res D) (fa fb : DE) (g : Sl)  : D → Sto → Res D := fun x l => (fb g l).bind (dOp_k2 h fa fb g  x)
@[simp] theorem dOp_k1_e (h : D → D → Sto → Res D) (fa fb : DE) (g : Sl)  (x : D) (l : Sto) : dOp_k1 h fa fb g  x l = ((fb g l).bind (dOp_k2 h fa fb g  x)) := rfl
@[simp] theorem dOp_k2_e (h : D → D → Sto → Res D) (fa fb : DE) (g : Sl) (x : D) (y : D) (l : Sto) : dOp_k2 h fa fb g x y l = (h x y l) := rfl
@[simp] theorem dOp_e (h : D → D → Sto → Res D) (fa fb : DE) (g : Sl) (l : Sto) : dOp h fa fb g l = (fa g l).bind (dOp_k1 h fa fb g) := rfl
def dTup_k1 (fs : DEs) (g : Sl)  : List D → Sto → Res D := fun ds l => if small ds.length then .ok (.tup ds) l else .bad
@[simp] theorem dTup_k1_e (fs : DEs) (g : Sl)  (ds : List D) (l : Sto) : dTup_k1 fs g  ds l = (if small ds.length then .ok (.tup ds) l else .bad) := rfl
@[simp] theorem dTup_e (fs : DEs) (g : Sl) (l : Sto) : dTup fs g l = (fs g l).bind (dTup_k1 fs g) := rfl
def dLst_k1 (fs : DEs) (g : Sl)  : List D → Sto → Res D := fun ds l => if small ds.length then .ok (.adr l.length) (l ++ [.lst ds]) else .bad
@[simp] theorem dLst_k1_e (fs : DEs) (g : Sl)  (ds : List D) (l : Sto) : dLst_k1 fs g  ds l = (if small ds.length then .ok (.adr l.length) (l ++ [.lst ds]) else .bad) := rfl
@[simp] theorem dLst_e (fs : DEs) (g : Sl) (l : Sto) : dLst fs g l = (fs g l).bind (dLst_k1 fs g) := rfl
def dUn_k1 (h : D → Sto → Res D) (fa : DE) (g : Sl)  : D → Sto → Res D := fun x l => h x l
@[simp] theorem dUn_k1_e (h : D → Sto → Res D) (fa : DE) (g : Sl)  (x : D) (l : Sto) : dUn_k1 h fa g  x l = (h x l) := rfl
@[simp] theorem dUn_e (h : D → Sto → Res D) (fa : DE) (g : Sl) (l : Sto) : dUn h fa g l = (fa g l).bind (dUn_k1 h fa g) := rfl
def dTru_k1 (f : DE) (g : Sl)  : D → Sto → Res Bool := fun d l => (match tru d l with
  | some k => .ok k l
  | none => .bad)
@[simp] theorem dTru_k1_e (f : DE) (g : Sl)  (d : D) (l : Sto) : dTru_k1 f g  d l = ((match tru d l with
  | some k => .ok k l
  | none => .bad)) := rfl
@[simp] theorem dTru_e (f : DE) (g : Sl) (l : Sto) : dTru f g l = (f g l).bind (dTru_k1 f g) := rfl
def dAnd_k1 (f h : DB) (g : Sl)  : Bool → Sto → Res Bool := fun b l => if b = true then h g l else .ok false l
@[simp] theorem dAnd_k1_e (f h : DB) (g : Sl)  (b : Bool) (l : Sto) : dAnd_k1 f h g  b l = (if b = true then h g l else .ok false l) := rfl
@[simp] theorem dAnd_e (f h : DB) (g : Sl) (l : Sto) : dAnd f h g l = (f g l).bind (dAnd_k1 f h g) := rfl
def dOr_k1 (f h : DB) (g : Sl)  : Bool → Sto → Res Bool := fun b l => if b = true then .ok true l else h g l
@[simp] theorem dOr_k1_e (f h : DB) (g : Sl)  (b : Bool) (l : Sto) : dOr_k1 f h g  b l = (if b = true then .ok true l else h g l) := rfl
@[simp] theorem dOr_e (f h : DB) (g : Sl) (l : Sto) : dOr f h g l = (f g l).bind (dOr_k1 f h g) := rfl
def dNot_k1 (f : DB) (g : Sl)  : Bool → Sto → Res Bool := fun b l => .ok (!b) l
@[simp] theorem dNot_k1_e (f : DB) (g : Sl)  (b : Bool) (l : Sto) : dNot_k1 f g  b l = (.ok (!b) l) := rfl
@[simp] theorem dNot_e (f : DB) (g : Sl) (l : Sto) : dNot f g l = (f g l).bind (dNot_k1 f g) := rfl
def dIfE_k1 (c : DB) (f h : DE) (g : Sl)  : Bool → Sto → Res D := fun b l => if b = true then f g l else h g l
@[simp] theorem dIfE_k1_e (c : DB) (f h : DE) (g : Sl)  (b : Bool) (l : Sto) : dIfE_k1 c f h g  b l = (if b = true then f g l else h g l) := rfl
@[simp] theorem dIfE_e (c : DB) (f h : DE) (g : Sl) (l : Sto) : dIfE c f h g l = (c g l).bind (dIfE_k1 c f h g) := rfl
def dAndV_k1 (f h : DE) (g : Sl)  : D → Sto → Res D := fun b l => (match b with
  | .bl true => h g l
  | .bl false => .ok (.bl false) l
  | _ => .bad)
@[simp] theorem dAndV_k1_e (f h : DE) (g : Sl)  (b : D) (l : Sto) : dAndV_k1 f h g  b l = ((match b with
  | .bl true => h g l
  | .bl false => .ok (.bl false) l
  | _ => .bad)) := rfl
@[simp] theorem dAndV_e (f h : DE) (g : Sl) (l : Sto) : dAndV f h g l = (f g l).bind (dAndV_k1 f h g) := rfl
def dOrV_k1 (f h : DE) (g : Sl)  : D → Sto → Res D := fun b l => (match b with
  | .bl false => h g l
  | .bl true => .ok (.bl true) l
  | _ => .bad)
@[simp] theorem dOrV_k1_e (f h : DE) (g : Sl)  (b : D) (l : Sto) : dOrV_k1 f h g  b l = ((match b with
  | .bl false => h g l
  | .bl true => .ok (.bl true) l
  | _ => .bad)) := rfl
@[simp] theorem dOrV_e (f h : DE) (g : Sl) (l : Sto) : dOrV f h g l = (f g l).bind (dOrV_k1 f h g) := rfl
def dNotV_k1 (f : DE) (g : Sl)  : D → Sto → Res D := fun b l => (match b with
  | .bl k => .ok (.bl (!k)) l
  | _ => .bad)
@[simp] theorem dNotV_k1_e (f : DE) (g : Sl)  (b : D) (l : Sto) : dNotV_k1 f g  b l = ((match b with
  | .bl k => .ok (.bl (!k)) l
  | _ => .bad)) := rfl
@[simp] theorem dNotV_e (f : DE) (g : Sl) (l : Sto) : dNotV f g l = (f g l).bind (dNotV_k1 f g) := rfl
def dBl_k1 (f : DE) (g : Sl)  : D → Sto → Res Bool := fun d l => (match d with
  | .bl k => .ok k l
  | _ => .bad)
@[simp] theorem dBl_k1_e (f : DE) (g : Sl)  (d : D) (l : Sto) : dBl_k1 f g  d l = ((match d with
  | .bl k => .ok k l
  | _ => .bad)) := rfl
@[simp] theorem dBl_e (f : DE) (g : Sl) (l : Sto) : dBl f g l = (f g l).bind (dBl_k1 f g) := rfl
def dChain_k3 (h1 h2 : D → D → Sto → Res D) (fa fb fc : DE) (g : Sl) (x : D) (y : D) : D → Sto → Res D := fun z l => (match z with
  | .bl true => (fc g l).bind (dChain_k4 h1 h2 fa fb fc g x y z)
  | .bl false => .ok (.bl false) l
  | _ => .bad)
def dChain_k2 (h1 h2 : D → D → Sto → Res D) (fa fb fc : DE) (g : Sl) (x : D) : D → Sto → Res D := fun y l => (h1 x y l).bind (dChain_k3 h1 h2 fa fb fc g x y)
def dChain_k1 (h1 h2 : D → D → Sto → Res D) (fa fb fc : DE) (g : Sl)  : D → Sto → Res D := fun x l => (fb g l).bind (dChain_k2 h1 h2 fa fb fc g  x)
@[simp] theorem dChain_k1_e (h1 h2 : D → D → Sto → Res D) (fa fb fc : DE) (g : Sl)  (x : D) (l : Sto) : dChain_k1 h1 h2 fa fb fc g  x l = ((fb g l).bind (dChain_k2 h1 h2 fa fb fc g  x)) := rfl
@[simp] theorem dChain_k2_e (h1 h2 : D → D → Sto → Res D) (fa fb fc : DE) (g : Sl) (x : D) (y : D) (l : Sto) : dChain_k2 h1 h2 fa fb fc g x y l = ((h1 x y l).bind (dChain_k3 h1 h2 fa fb fc g x y)) := rfl
@[simp] theorem dChain_k3_e (h1 h2 : D → D → Sto → Res D) (fa fb fc : DE) (g : Sl) (x : D) (y : D) (z : D) (l : Sto) : dChain_k3 h1 h2 fa fb fc g x y z l = ((match z with
  | .bl true => (fc g l).bind (dChain_k4 h1 h2 fa fb fc g x y z)
  | .bl false => .ok (.bl false) l
  | _ => .bad)) := rfl
@[simp] theorem dChain_e (h1 h2 : D → D → Sto → Res D) (fa fb fc : DE) (g : Sl) (l : Sto) : dChain h1 h2 fa fb fc g l = (fa g l).bind (dChain_k1 h1 h2 fa fb fc g) := rfl
def dOSome_k1 (f : DE) (g : Sl)  : D → Sto → Res (Option Int) := fun d l => (match d with
  | .int i => .ok (some i) l
  | _ => .bad)
@[simp] theorem dOSome_k1_e (f : DE) (g : Sl)  (d : D) (l : Sto) : dOSome_k1 f g  d l = ((match d with
  | .int i => .ok (some i) l
  | _ => .bad)) := rfl
@[simp] theorem dOSome_e (f : DE) (g : Sl) (l : Sto) : dOSome f g l = (f g l).bind (dOSome_k1 f g) := rfl
def dSl_k3 (f : DE) (lo hi : DO) (g : Sl) (d : D) (i : Option Int) : Option Int → Sto → Res D := fun j l => hSl d i j l
def dSl_k2 (f : DE) (lo hi : DO) (g : Sl) (d : D) : Option Int → Sto → Res D := fun i l => (hi g l).bind (dSl_k3 f lo hi g d i)
def dSl_k1 (f : DE) (lo hi : DO) (g : Sl)  : D → Sto → Res D := fun d l => (lo g l).bind (dSl_k2 f lo hi g  d)
@[simp] theorem dSl_k1_e (f : DE) (lo hi : DO) (g : Sl)  (d : D) (l : Sto) : dSl_k1 f lo hi g  d l = ((lo g l).bind (dSl_k2 f lo hi g  d)) := rfl
@[simp] theorem dSl_k2_e (f : DE) (lo hi : DO) (g : Sl) (d : D) (i : Option Int) (l : Sto) : dSl_k2 f lo hi g d i l = ((hi g l).bind (dSl_k3 f lo hi g d i)) := rfl
@[simp] theorem dSl_k3_e (f : DE) (lo hi : DO) (g : Sl) (d : D) (i : Option Int) (j : Option Int) (l : Sto) : dSl_k3 f lo hi g d i j l = (hSl d i j l) := rfl
@[simp] theorem dSl_e (f : DE) (lo hi : DO) (g : Sl) (l : Sto) : dSl f lo hi g l = (f g l).bind (dSl_k1 f lo hi g) := rfl
def dCB_k1 (h : List D → Sto → Res D) (fs : DEs) (g : Sl)  : List D → Sto → Res D := fun ds l => h ds l
@[simp] theorem dCB_k1_e (h : List D → Sto → Res D) (fs : DEs) (g : Sl)  (ds : List D) (l : Sto) : dCB_k1 h fs g  ds l = (h ds l) := rfl
@[simp] theorem dCB_e (h : List D → Sto → Res D) (fs : DEs) (g : Sl) (l : Sto) : dCB h fs g l = (fs g l).bind (dCB_k1 h fs g) := rfl
def dMe_k2 (h : D → List D → Sto → Res D) (fo : DE) (fs : DEs) (g : Sl) (x : D) : List D → Sto → Res D := fun ds l => h x ds l
def dMe_k1 (h : D → List D → Sto → Res D) (fo : DE) (fs : DEs) (g : Sl)  : D → Sto → Res D := fun x l => if isL x l = true then (fs g l).bind (dMe_k2 h fo fs g  x) else .bad
@[simp] theorem dMe_k1_e (h : D → List D → Sto → Res D) (fo : DE) (fs : DEs) (g : Sl)  (x : D) (l : Sto) : dMe_k1 h fo fs g  x l = (if isL x l = true then (fs g l).bind (dMe_k2 h fo fs g  x) else .bad) := rfl
@[simp] theorem dMe_k2_e (h : D → List D → Sto → Res D) (fo : DE) (fs : DEs) (g : Sl) (x : D) (ds : List D) (l : Sto) : dMe_k2 h fo fs g x ds l = (h x ds l) := rfl
@[simp] theorem dMe_e (h : D → List D → Sto → Res D) (fo : DE) (fs : DEs) (g : Sl) (l : Sto) : dMe h fo fs g l = (fo g l).bind (dMe_k1 h fo fs g) := rfl
def dMe0_k1 (h : D → List D → Sto → Res D) (fo : DE) (g : Sl)  : D → Sto → Res D := fun x l => if isL x l = true then h x [] l else .bad
@[simp] theorem dMe0_k1_e (h : D → List D → Sto → Res D) (fo : DE) (g : Sl)  (x : D) (l : Sto) : dMe0_k1 h fo g  x l = (if isL x l = true then h x [] l else .bad) := rfl
@[simp] theorem dMe0_e (h : D → List D → Sto → Res D) (fo : DE) (g : Sl) (l : Sto) : dMe0 h fo g l = (fo g l).bind (dMe0_k1 h fo g) := rfl
def dCall_k1 (n : Nat) (m : List D → Sto → Res D) (fs : DEs) (g : Sl)  : List D → Sto → Res D := fun ds l => if ds.length == n then (m ds l).nox else .bad
@[simp] theorem dCall_k1_e (n : Nat) (m : List D → Sto → Res D) (fs : DEs) (g : Sl)  (ds : List D) (l : Sto) : dCall_k1 n m fs g  ds l = (if ds.length == n then (m ds l).nox else .bad) := rfl
@[simp] theorem dCall_e (n : Nat) (m : List D → Sto → Res D) (fs : DEs) (g : Sl) (l : Sto) : dCall n m fs g l = (fs g l).bind (dCall_k1 n m fs g) := rfl
def dCallX_k1 (n : Nat) (m : List D → Sto → Res D) (fs : DEs) (g : Sl)  : List D → Sto → Res D := fun ds l => if ds.length == n then m ds l else .bad
@[simp] theorem dCallX_k1_e (n : Nat) (m : List D → Sto → Res D) (fs : DEs) (g : Sl)  (ds : List D) (l : Sto) : dCallX_k1 n m fs g  ds l = (if ds.length == n then m ds l else .bad) := rfl
@[simp] theorem dCallX_e (n : Nat) (m : List D → Sto → Res D) (fs : DEs) (g : Sl) (l : Sto) : dCallX n m fs g l = (fs g l).bind (dCallX_k1 n m fs g) := rfl
def dCallKX_k1 (n : Nat) (gD : List D → List D) (m : List D → Sto → Res D) (fs : DEs) (g : Sl)  : List D → Sto → Res D := fun ds l => if (gD ds).length == n then m (gD ds) l else .bad
@[simp] theorem dCallKX_k1_e (n : Nat) (gD : List D → List D) (m : List D → Sto → Res D) (fs : DEs) (g : Sl)  (ds : List D) (l : Sto) : dCallKX_k1 n gD m fs g  ds l = (if (gD ds).length == n then m (gD ds) l else .bad) := rfl
@[simp] theorem dCallKX_e (n : Nat) (gD : List D → List D) (m : List D → Sto → Res D) (fs : DEs) (g : Sl) (l : Sto) : dCallKX n gD m fs g l = (fs g l).bind (dCallKX_k1 n gD m fs g) := rfl
def sExpr_k1 (f : DE) (g : Sl)  : D → Sto → Out := fun d l => .nx g l
@[simp] theorem sExpr_k1_e (f : DE) (g : Sl)  (d : D) (l : Sto) : sExpr_k1 f g  d l = (.nx g l) := rfl
@[simp] theorem sExpr_e (f : DE) (g : Sl) (l : Sto) : sExpr f g l = (f g l).out (sExpr_k1 f g) := rfl
def sRet_k1 (f : DE) (g : Sl)  : D → Sto → Out := fun d l => .rt d l
@[simp] theorem sRet_k1_e (f : DE) (g : Sl)  (d : D) (l : Sto) : sRet_k1 f g  d l = (.rt d l) := rfl
@[simp] theorem sRet_e (f : DE) (g : Sl) (l : Sto) : sRet f g l = (f g l).out (sRet_k1 f g) := rfl
def sIf_k1 (c : DB) (f h : DS) (g : Sl)  : Bool → Sto → Out := fun b l => if b = true then f g l else h g l
@[simp] theorem sIf_k1_e (c : DB) (f h : DS) (g : Sl)  (b : Bool) (l : Sto) : sIf_k1 c f h g  b l = (if b = true then f g l else h g l) := rfl
@[simp] theorem sIf_e (c : DB) (f h : DS) (g : Sl) (l : Sto) : sIf c f h g l = (c g l).out (sIf_k1 c f h g) := rfl
def sSet_k1 (i : Nat) (f : DE) (g : Sl)  : D → Sto → Out := fun d l => .nx (g.set i (some d)) l
@[simp] theorem sSet_k1_e (i : Nat) (f : DE) (g : Sl)  (d : D) (l : Sto) : sSet_k1 i f g  d l = (.nx (g.set i (some d)) l) := rfl
@[simp] theorem sSet_e (i : Nat) (f : DE) (g : Sl) (l : Sto) : sSet i f g l = (f g l).out (sSet_k1 i f g) := rfl
def sAsg_k1 (gt : D → Sto → Sl → Option Sl) (f : DE) (g : Sl)  : D → Sto → Out := fun d l => (match gt d l g with
  | some g' => .nx g' l
  | none => .bad)
@[simp] theorem sAsg_k1_e (gt : D → Sto → Sl → Option Sl) (f : DE) (g : Sl)  (d : D) (l : Sto) : sAsg_k1 gt f g  d l = ((match gt d l g with
  | some g' => .nx g' l
  | none => .bad)) := rfl
@[simp] theorem sAsg_e (gt : D → Sto → Sl → Option Sl) (f : DE) (g : Sl) (l : Sto) : sAsg gt f g l = (f g l).out (sAsg_k1 gt f g) := rfl
def sPar_k1 (i j : Nat) (fs : DEs) (g : Sl)  : List D → Sto → Out := fun ds l => (match ds with
  | [d, d'] => .nx ((g.set i (some d)).set j (some d')) l
  | _ => .bad)
@[simp] theorem sPar_k1_e (i j : Nat) (fs : DEs) (g : Sl)  (ds : List D) (l : Sto) : sPar_k1 i j fs g  ds l = ((match ds with
  | [d, d'] => .nx ((g.set i (some d)).set j (some d')) l
  | _ => .bad)) := rfl
@[simp] theorem sPar_e (i j : Nat) (fs : DEs) (g : Sl) (l : Sto) : sPar i j fs g l = (fs g l).out (sPar_k1 i j fs g) := rfl
def sPar3_k1 (i j k : Nat) (fs : DEs) (g : Sl)  : List D → Sto → Out := fun ds l => (match ds with
  | [d, d', d''] => .nx (((g.set i (some d)).set j (some d')).set k (some d'')) l
  | _ => .bad)
@[simp] theorem sPar3_k1_e (i j k : Nat) (fs : DEs) (g : Sl)  (ds : List D) (l : Sto) : sPar3_k1 i j k fs g  ds l = ((match ds with
  | [d, d', d''] => .nx (((g.set i (some d)).set j (some d')).set k (some d'')) l
  | _ => .bad)) := rfl
@[simp] theorem sPar3_e (i j k : Nat) (fs : DEs) (g : Sl) (l : Sto) : sPar3 i j k fs g l = (fs g l).out (sPar3_k1 i j k fs g) := rfl
def sSub_k3 (fo fi f : DE) (g : Sl) (d : D) (x : D) : D → Sto → Out := fun y l => (match hSetL x y d l with
  | some l4 => .nx g l4
  | none => .bad)
def sSub_k2 (fo fi f : DE) (g : Sl) (d : D) : D → Sto → Out := fun x l => (fi g l).out (sSub_k3 fo fi f g d x)
def sSub_k1 (fo fi f : DE) (g : Sl)  : D → Sto → Out := fun d l => (fo g l).out (sSub_k2 fo fi f g  d)
@[simp] theorem sSub_k1_e (fo fi f : DE) (g : Sl)  (d : D) (l : Sto) : sSub_k1 fo fi f g  d l = ((fo g l).out (sSub_k2 fo fi f g  d)) := rfl
@[simp] theorem sSub_k2_e (fo fi f : DE) (g : Sl) (d : D) (x : D) (l : Sto) : sSub_k2 fo fi f g d x l = ((fi g l).out (sSub_k3 fo fi f g d x)) := rfl
@[simp] theorem sSub_k3_e (fo fi f : DE) (g : Sl) (d : D) (x : D) (y : D) (l : Sto) : sSub_k3 fo fi f g d x y l = ((match hSetL x y d l with
  | some l4 => .nx g l4
  | none => .bad)) := rfl
@[simp] theorem sSub_e (fo fi f : DE) (g : Sl) (l : Sto) : sSub fo fi f g l = (f g l).out (sSub_k1 fo fi f g) := rfl
def sAugS_k5 (h : D → D → Sto → Res D) (fo fi f : DE) (g : Sl) (x : D) (y : D) (z : D) (w : D) : D → Sto → Out := fun n l => (match hSetL x y n l with
  | some l6 => .nx g l6
  | none => .bad)
def sAugS_k4 (h : D → D → Sto → Res D) (fo fi f : DE) (g : Sl) (x : D) (y : D) (z : D) : D → Sto → Out := fun w l => (h z w l).out (sAugS_k5 h fo fi f g x y z w)
def sAugS_k3 (h : D → D → Sto → Res D) (fo fi f : DE) (g : Sl) (x : D) (y : D) : D → Sto → Out := fun z l => (f g l).out (sAugS_k4 h fo fi f g x y z)
def sAugS_k2 (h : D → D → Sto → Res D) (fo fi f : DE) (g : Sl) (x : D) : D → Sto → Out := fun y l => (hGetL x y l).out (sAugS_k3 h fo fi f g x y)
def sAugS_k1 (h : D → D → Sto → Res D) (fo fi f : DE) (g : Sl)  : D → Sto → Out := fun x l => (fi g l).out (sAugS_k2 h fo fi f g  x)
@[simp] theorem sAugS_k1_e (h : D → D → Sto → Res D) (fo fi f : DE) (g : Sl)  (x : D) (l : Sto) : sAugS_k1 h fo fi f g  x l = ((fi g l).out (sAugS_k2 h fo fi f g  x)) := rfl
@[simp] theorem sAugS_k2_e (h : D → D → Sto → Res D) (fo fi f : DE) (g : Sl) (x : D) (y : D) (l : Sto) : sAugS_k2 h fo fi f g x y l = ((hGetL x y l).out (sAugS_k3 h fo fi f g x y)) := rfl
@[simp] theorem sAugS_k3_e (h : D → D → Sto → Res D) (fo fi f : DE) (g : Sl) (x : D) (y : D) (z : D) (l : Sto) : sAugS_k3 h fo fi f g x y z l = ((f g l).out (sAugS_k4 h fo fi f g x y z)) := rfl
@[simp] theorem sAugS_k4_e (h : D → D → Sto → Res D) (fo fi f : DE) (g : Sl) (x : D) (y : D) (z : D) (w : D) (l : Sto) : sAugS_k4 h fo fi f g x y z w l = ((h z w l).out (sAugS_k5 h fo fi f g x y z w)) := rfl
@[simp] theorem sAugS_k5_e (h : D → D → Sto → Res D) (fo fi f : DE) (g : Sl) (x : D) (y : D) (z : D) (w : D) (n : D) (l : Sto) : sAugS_k5 h fo fi f g x y z w n l = ((match hSetL x y n l with
  | some l6 => .nx g l6
  | none => .bad)) := rfl
@[simp] theorem sAugS_e (h : D → D → Sto → Res D) (fo fi f : DE) (g : Sl) (l : Sto) : sAugS h fo fi f g l = (fo g l).out (sAugS_k1 h fo fi f g) := rfl
def dIt_k1 (f : DE) (g : Sl)  : D → Sto → Res ItD := fun d l => (match d with
  | .tup ds => .ok ⟨ds, none⟩ l
  | .adr n => match l[n]? with
    | some (.lst ds) => .ok ⟨ds, some n⟩ l
    | _ => .bad
  | .ro ns => .ok ⟨ns.map D.int, none⟩ l
  | .str z => .ok ⟨signs z, none⟩ l
  | _ => .bad)
@[simp] theorem dIt_k1_e (f : DE) (g : Sl)  (d : D) (l : Sto) : dIt_k1 f g  d l = ((match d with
  | .tup ds => .ok ⟨ds, none⟩ l
  | .adr n => match l[n]? with
    | some (.lst ds) => .ok ⟨ds, some n⟩ l
    | _ => .bad
  | .ro ns => .ok ⟨ns.map D.int, none⟩ l
  | .str z => .ok ⟨signs z, none⟩ l
  | _ => .bad)) := rfl
@[simp] theorem dIt_e (f : DE) (g : Sl) (l : Sto) : dIt f g l = (f g l).bind (dIt_k1 f g) := rfl
def dRng1_k1 (fs : DEs) (g : Sl)  : List D → Sto → Res ItD := fun ds l => (match ds with
  | [.int j] => if in62 j then .ok ⟨rng 0 j.toNat, none⟩ l else .bad
  | _ => .bad)
@[simp] theorem dRng1_k1_e (fs : DEs) (g : Sl)  (ds : List D) (l : Sto) : dRng1_k1 fs g  ds l = ((match ds with
  | [.int j] => if in62 j then .ok ⟨rng 0 j.toNat, none⟩ l else .bad
  | _ => .bad)) := rfl
@[simp] theorem dRng1_e (fs : DEs) (g : Sl) (l : Sto) : dRng1 fs g l = (fs g l).bind (dRng1_k1 fs g) := rfl
def dRng2_k1 (fs : DEs) (g : Sl)  : List D → Sto → Res ItD := fun ds l => (match ds with
  | [.int i, .int j] => if in62 i && in62 j then .ok ⟨rng i (j - i).toNat, none⟩ l else .bad
  | _ => .bad)
@[simp] theorem dRng2_k1_e (fs : DEs) (g : Sl)  (ds : List D) (l : Sto) : dRng2_k1 fs g  ds l = ((match ds with
  | [.int i, .int j] => if in62 i && in62 j then .ok ⟨rng i (j - i).toNat, none⟩ l else .bad
  | _ => .bad)) := rfl
@[simp] theorem dRng2_e (fs : DEs) (g : Sl) (l : Sto) : dRng2 fs g l = (fs g l).bind (dRng2_k1 fs g) := rfl
noncomputable def sFor_k1 (fi : DI) (gt : D → Sto → Sl → Option Sl) (b : DS) (g : Sl)  : ItD → Sto → Out := fun it l => sForL it gt b it.ds g l
@[simp] theorem sFor_k1_e (fi : DI) (gt : D → Sto → Sl → Option Sl) (b : DS) (g : Sl)  (it : ItD) (l : Sto) : sFor_k1 fi gt b g  it l = (sForL it gt b it.ds g l) := rfl
@[simp] theorem sFor_e (fi : DI) (gt : D → Sto → Sl → Option Sl) (b : DS) (g : Sl) (l : Sto) : sFor fi gt b g l = (fi g l).out (sFor_k1 fi gt b g) := rfl
noncomputable def dLc_k2 (fi : DI) (gt : D → Sto → Sl → Option Sl) (ct : DB) (fe : DE) (vs : List Nat) (g : Sl) (it : ItD) : List D → Sto → Res D := fun acc l => .ok (.adr l.length) (l ++ [.lst acc])
noncomputable def dLc_k1 (fi : DI) (gt : D → Sto → Sl → Option Sl) (ct : DB) (fe : DE) (vs : List Nat) (g : Sl)  : ItD → Sto → Res D := fun it l => (lcL it gt ct fe (wipeD g vs) it.ds l []).bind (dLc_k2 fi gt ct fe vs g  it)
@[simp] theorem dLc_k1_e (fi : DI) (gt : D → Sto → Sl → Option Sl) (ct : DB) (fe : DE) (vs : List Nat) (g : Sl)  (it : ItD) (l : Sto) : dLc_k1 fi gt ct fe vs g  it l = ((lcL it gt ct fe (wipeD g vs) it.ds l []).bind (dLc_k2 fi gt ct fe vs g  it)) := rfl
@[simp] theorem dLc_k2_e (fi : DI) (gt : D → Sto → Sl → Option Sl) (ct : DB) (fe : DE) (vs : List Nat) (g : Sl) (it : ItD) (acc : List D) (l : Sto) : dLc_k2 fi gt ct fe vs g it acc l = (.ok (.adr l.length) (l ++ [.lst acc])) := rfl
@[simp] theorem dLc_e (fi : DI) (gt : D → Sto → Sl → Option Sl) (ct : DB) (fe : DE) (vs : List Nat) (g : Sl) (l : Sto) : dLc fi gt ct fe vs g l = (fi g l).bind (dLc_k1 fi gt ct fe vs g) := rfl
@[simp] theorem dV_e (i : Nat) (g : Sl) (l : Sto) : dV i g l = (match g[i]? with
  | some (some d) => .ok d l
  | _ => .bad) := rfl
@[simp] theorem dC_e (d : D) (g : Sl) (l : Sto) : dC d g l = .ok d l := rfl
@[simp] theorem dNil_e (g : Sl) (l : Sto) : dNil g l = .ok [] l := rfl
@[simp] theorem dONone_e (g : Sl) (l : Sto) : dONone g l = .ok none l := rfl
@[simp] theorem dYes_e (g : Sl) (l : Sto) : dYes g l = .ok true l := rfl
@[simp] theorem sNx_e (g : Sl) (l : Sto) : sNx g l = .nx g l := rfl
@[simp] theorem sBk_e (g : Sl) (l : Sto) : sBk g l = .bk g l := rfl
@[simp] theorem sCt_e (g : Sl) (l : Sto) : sCt g l = .ct g l := rfl
def sAug_k1 (i : Nat) (h : D → D → Sto → Res D) (g : Sl) (x : D) : D → Sto → Out := fun y l1 => (h x y l1).out fun z l2 => .nx (g.set i (some z)) l2
@[simp] theorem sAug_k1_e (i : Nat) (h : D → D → Sto → Res D) (g : Sl) (x y : D) (l : Sto) : sAug_k1 i h g x y l = (h x y l).out fun z l2 => .nx (g.set i (some z)) l2 := rfl
@[simp] theorem sAug_e (i : Nat) (h : D → D → Sto → Res D) (f : DE) (g : Sl) (l : Sto) : sAug i h f g l = (match g[i]? with
  | some (some x) => (f g l).out (sAug_k1 i h g x)
  | _ => .bad) := rfl
/-! ### loops over what is written down -/
@[simp] theorem wipeD_nil (g : Sl) : wipeD g [] = g := rfl
@[simp] theorem wipeD_cons (g : Sl) (v : Nat) (vs : List Nat) : wipeD g (v :: vs) = (wipeD g vs).set v none := rfl
@[simp] theorem ok_none (ds : List D) (l : Sto) : (ItD.mk ds none).ok l = True := rfl
theorem lcL_map {α : Type} {it : ItD} {gt : D → Sto → Sl → Option Sl} {ct : DB} {fe : DE} {gw : Sl} {l : Sto} (hok : it.ok l) (e h : α → D) : ∀ (xs : List α) (acc : List D),
    (∀ x ∈ xs, ∃ g1, gt (e x) l gw = some g1 ∧ ct g1 l = .ok true l ∧ fe g1 l = .ok (h x) l) → acc.length + xs.length ≤ 16777216 → lcL it gt ct fe gw (xs.map e) l acc = .ok (acc ++ xs.map h) l
  | [], acc, _, _ => by simp [lcL, hok]
  | x :: xs, acc, hx, hl => by
    obtain ⟨g1, h1, h2, h3⟩ := hx x (by simp)
    simp only [List.length_cons] at hl
    simp only [List.map_cons, lcL, hok, if_true, h1, h2, h3, nox_ok, bind_ok]
    rw [if_pos (by simp; omega), lcL_map hok e h xs _ (fun y hy => hx y (by simp [hy])) (by simp; omega)]
    simp
@[simp] theorem set_concat {α : Type} : ∀ (pre : List α) (x y : α), (pre ++ [x]).set pre.length y = pre ++ [y]
  | [], _, _ => rfl
  | a :: pre, x, y => congrArg (a :: ·) (set_concat pre x y)
@[simp] theorem get_concat {α : Type} : ∀ (pre : List α) (x : α), (pre ++ [x])[pre.length]? = some x
  | [], _ => rfl
  | a :: pre, x => by rw [List.cons_append, List.length_cons, List.getElem?_cons_succ]; exact get_concat pre x
@[simp] theorem inV_nil (x : V) : inV x [] = false := rfl
@[simp] theorem inV_str (a b : Str) (xs : List V) : inV (.str a) (.str b :: xs) = (decide (b = a) || inV (.str a) xs) := by
  show (eqV (.str b) (.str a) || inV (.str a) xs) = _
  congr 1
@[simp] theorem rng00 : rng 0 0 = [] := rfl
@[simp] theorem rng01 : rng 0 1 = [.int 0] := rfl
@[simp] theorem rng02 : rng 0 2 = [.int 0, .int 1] := rfl
@[simp] theorem dDct_e (cs : List (Str × Int)) (g : Sl) (l : Sto) : dDct cs g l = .ok (.adr l.length) (l ++ [.dct (cs.map fun c => (.inr c.1, .int c.2))]) := rfl
@[simp] theorem cutG13 (a b c d : D) : cutG [a, b, c, d] (some 1) (some 3) = [b, c] := rfl
def _root_.Zb.Out.loop (r : Out) (k : Sl → Sto → Out) : Out := match r with
  | .nx g l => k g l
  | .ct g l => k g l
  | .bk g l => .nx g l
  | q => q
@[simp] theorem loop_nx (g : Sl) (l : Sto) (k : Sl → Sto → Out) : (Out.nx g l).loop k = k g l := rfl
@[simp] theorem loop_ct (g : Sl) (l : Sto) (k : Sl → Sto → Out) : (Out.ct g l).loop k = k g l := rfl
@[simp] theorem loop_bk (g : Sl) (l : Sto) (k : Sl → Sto → Out) : (Out.bk g l).loop k = .nx g l := rfl
@[simp] theorem loop_rt (d : D) (l : Sto) (k : Sl → Sto → Out) : (Out.rt d l).loop k = .rt d l := rfl
theorem for_nil {it : ItD} (gt : D → Sto → Sl → Option Sl) (b : DS) (g : Sl) (l : Sto) (h : it.ok l) : sForL it gt b [] g l = .nx g l := by simp only [sForL, h, if_true]
theorem for_cons {it : ItD} (gt : D → Sto → Sl → Option Sl) (b : DS) (d : D) (r : List D) (g : Sl) (l : Sto) (h : it.ok l) : sForL it gt b (d :: r) g l = (match gt d l g with
    | none => .bad
    | some g1 => (b g1 l).loop (sForL it gt b r)) := by
  simp only [sForL, h, if_true]
  cases gt d l g with
  | none => rfl
  | some g1 =>
    simp only
    cases b g1 l <;> rfl
@[simp] theorem for0_nil (ds : List D) (gt : D → Sto → Sl → Option Sl) (b : DS) (g : Sl) (l : Sto) : sForL ⟨ds, none⟩ gt b [] g l = .nx g l := for_nil gt b g l trivial
theorem for0_cons (ds : List D) (gt : D → Sto → Sl → Option Sl) (b : DS) (d : D) (r : List D) (g : Sl) (l : Sto) : sForL ⟨ds, none⟩ gt b (d :: r) g l = (match gt d l g with
    | none => .bad
    | some g1 => (b g1 l).loop (sForL ⟨ds, none⟩ gt b r)) := for_cons gt b d r g l trivial
theorem ok_some (ds : List D) (n : Nat) (l : Sto) (h : l[n]? = some (.lst ds)) : (ItD.mk ds (some n)).ok l := h
end Zb

set_option Elab.async false
set_option linter.all false
set_option maxRecDepth 100000
set_option maxHeartbeats 2000000
namespace Zx
open PySem PySem.W PySem.Calls PyProof.Rows PySem.HandSPX
def top (i : Nat) : Stmt := PySem.Challenge.pw_throwntrue_k88_whole_joined_code.main.body.getD i (.Pass ⟨0, 0, 0, 0⟩)
def inC (s : Stmt) (j : Nat) : Stmt := match s with
  | .ClassDef (body := b) .. => b.getD j (.Pass ⟨0, 0, 0, 0⟩)
  | _ => .Pass ⟨0, 0, 0, 0⟩
abbrev sI : Stmt := inC (top 3) 0
/-- what the written part says of a class at C with one field wd, over ValueError by another class, and of its __init__ at fI -/
structure SupTxt (P : Program) (K : Frag) (mg : Str → Option Value) (C fI : Addr) : Prop where
  cls : ∃ nm q N bs bm sn sub ab col dd k0 k1 k2 k3 k5, K.lookup C = some (excClassObj nm q C N bs bm true sn sub ab col dd k0 k1 k2 k3 k5 "ValueError.__new__") ∧ refsVE bm = true ∧ alongIn K "__init__" bm = some (some (.builtin "ValueError.__init__"))
  sa : findIn K (.ref C) "__setattr__" = some (some (.builtin "object.__setattr__"))
  ga : findIn K (.ref C) "__getattribute__" = some (some (.builtin "BaseException.__getattribute__"))
  gg : findIn K (.ref C) "__getattr__" = some none
  noN : findIn K (.ref C) "word" = some none
  iC : findIn K (.ref C) "__init__" = some (some (.ref fI))
  tC : typeIn K (.ref fI) = some (.type "function")
  kC : keepIn K (.ref C) = true
  exC : subIn K (.ref C) (.type "BaseException") = some true
  exV : subIn K (.ref C) (.type "ValueError") = some true
  mroC : mroIn K C (.ref C) = some true
  tyC : typeIn K (.ref C) = some (.type "type")
  hdC : hasDictIn K C = true
  te : exmOne K (.ref C) (.ref C) = some true
  op : nsIn K cStatics "thirdparty.any" = some none
  noS : mg "super" = none
  topS : (P.main.scope.names.lookup ("super" : Str)).isSome = false
  bootS : bootBuiltins "super" = some (.type "super")
  fn : ∃ (oc : Value) (od : Option Addr) (doc pm : Value) (an : Option Addr) (ct : Value) (osl : Array (Option Value)) (qual : Str) (cda cc : Addr),
    K.lookup fI = some ⟨oc, od, .func (ksFn "__init__" qual (L2.defArgs sI) (L2.defBody sI) (L2.defScope sI) .none .none doc pm an (.ref cda) ct cc), osl⟩ ∧ codeIn K (.ref cda) qual = true ∧
    (∃ (cl : Value) (cld : Option Addr) (csl : Array (Option Value)), K.lookup cc = some ⟨cl, cld, .cell (some (.ref C)), csl⟩) ∧
    ∃ (ccl : Value) (cdd : Option Addr) (vs : Array Value) (ccs : Array (Option Value)) (file : Str) (tf : Tok), K.lookup cda = some ⟨ccl, cdd, .fields vs, ccs⟩ ∧ vs[2]? = some (.str file tf) ∧ ((P.main.file : Str) == file) = true
/-- what __init__ leaves of a fresh exception at x -/
structure InitEnd (h h' : Heap) (x C dx t1 : Addr) (v : Value) : Prop where
  keep : ∀ b o, b ≠ x → h.get? b = some o → h'.get? b = some o
  obj : h'.get? x = some { cls := .ref C, dict := some dx, data := .fields #[.ref t1, .none, .none, .none, .bool false, .none] }
  dbig : h.objs.size ≤ dx
  dne : dx ≠ x
  ns : h'.Ns1 dx (fun y => if y = "word" then some v else none)
theorem call_w {prog : Program} {w : World} {A : Around} {E : Value → Shared → Prop} {h : Heap} {g : Array GenState} {d : Drawn} {t : Nat} {os : OsState}
    {nm q : Str} {C N : Addr} {bs bm : List Value} {hdct : Bool} {sn : List Str} {sub : List Value} {ab : Bool} {col : Option Bool} {dd : Option Addr} {k0 k1 k2 k3 k5 : Option Value} {u e t0 : Addr} {rest : List Value} {Q : Value → Shared → Prop}
    (hC : h.get? C = some (excClassObj nm q C N bs bm hdct sn sub ab col dd k0 k1 k2 k3 k5 "ValueError.__new__")) (he : h.get? e = some (HandSPX.excO C t0)) (hu : h.get? u = some (kxs_mw "ValueError.__init__" e)) (hrest : rest.length ≤ sizeLine)
    (hq : ∀ h' t1, (∀ b o, b ≠ e → h.get? b = some o → h'.get? b = some o) → h'.get? e = some (HandSPX.excO C t1) → Q .none ⟨h', g, d, t, os⟩) :
    wpAny (model prog w) A (call (.ref u) rest) Q E ⟨h, g, d, t, os⟩ := by
  refine wpAny_call (codeAny_of_tree ?_)
  show wpAny _ A.in1 (callAny (.ref u) ⟨rest, []⟩) _ _ _
  simp only [callAny]
  refine wpAny_bind (wpAny_load hu ?_)
  simp only [kxs_mw, show (Value.type "method-wrapper" == Value.type "method" || Value.type "method-wrapper" == Value.type "builtin_function_or_method" || Value.type "method-wrapper" == Value.type "method-wrapper") = true by decide, if_true]
  refine W.KFB.if_so (by decide) ?_
  refine wpAny_bind (ESX.check_bound F.excBase_ValueError hC he rfl ?_)
  refine wpAny_bind (wpAny_pure (wpAny_pure ?_))
  refine ⟨Code.quiet_builtin _ (by decide +kernel), codeAny_builtin F.excBase_ValueError.initEntry ?_⟩
  rw [Around.under_plainId F.excBase_ValueError.init.plain _]
  wp_walk
  refine hq _ h.objs.size (fun b o hb ho => ?_) ?_
  · rw [Heap.get?_update_other _ _ (Ne.symm hb)]
    exact Heap.get?_push_of_some _ ho
  · rw [Heap.get?_update_self _ (Heap.get?_push_of_some _ he) rfl]
    rfl
section
variable {prog : Program} {w : World} {A : Around} {E : Value → Shared → Prop} {R : Result → Shared → Prop} {s : Shared} {K : Frag} {mg : Str → Option Value} {C fI : Addr}
theorem sup_init (T : SupTxt prog K mg C fI) {x t0 : Addr} {v : Value} (X : K.In s.heap) (hlim : s.heap.NoLimit) (hglob : s.heap.Ns mainGlobals mg) (hblt : ∃ mb, s.heap.Ns builtinsNs mb ∧ ∀ x : Str, x ≠ "__name__" → mb x = bootBuiltins x)
    (hx : s.heap.get? x = some (excO C t0)) (hnx : K.lookup x = none) (hroom : A.depth < recursionLimit)
    (hq : ∀ h' tk dx t1, InitEnd s.heap h' x C dx t1 v → R (.ok (.ret .none)) { s with heap := h', toks := tk }) :
    codeAny (model prog w) A (.call (.ref fI) ⟨[.ref x, v], []⟩) R s := by
  obtain ⟨oc, od, doc, pm, an, ct, osl, qual, cda, cc, ho, hcd, ⟨cl, cld, csl, hcell⟩, ccl, cdd, vs, ccs, file, tf, hcode, hvs, hfile⟩ := T.fn
  obtain ⟨nm, q, N, bs, bm, sn, sub, ab, col, dd, k0, k1, k2, k3, k5, hC, hbm, hal⟩ := T.cls
  have hcl : clsIn K C = some { name := nm, bases := bs, mro := .ref C :: bm, ns := N, qualname := q, hasDict := true, slotNames := sn, subclasses := sub, abstract := ab, collection := col, hasDel := false } := by unfold clsIn; rw [hC] <;> rfl
  refine ks_codeAny_call_defAt (fd := ksFn "__init__" qual (L2.defArgs sI) (L2.defBody sI) (L2.defScope sI) .none .none doc pm an (.ref cda) ct cc) (body := L2.defBody sI) (binds := [("self", .ref x), ("word", v)]) hroom (X _ _ ho) rfl hlim (codeRec_of X hcd) rfl
    (BindsTo.of_eq (by first | rfl | with_unfolding_all rfl)) (show ∀ x ∈ (L2.defScope sI).names, x.2 ≠ .cell by decide +kernel) (by simp only [List.mem_cons, List.not_mem_nil, or_false, forall_eq_or_imp, forall_eq]; exact ⟨rfl, rfl⟩) (fun h₁ hns hk₁ => ?_) rfl rfl rfl
  obtain ⟨hp, g, d, t, os⟩ := s
  dsimp only at hk₁ hns X hlim hx hglob hblt hq ⊢
  have X₁ : K.In h₁ := X.keeps hk₁
  have hx₁ := hk₁ _ _ hx
  obtain ⟨mb, hb1, hb2⟩ := hblt
  have hI : InstAt h₁ x (excO C t0) C none := ⟨hx₁, rfl, rfl, trivial⟩
  have hisV : Looks (model prog w) h₁ (isInstance (.ref x) (.type "ValueError")) true := hI.type.andThen (looks_subIn X₁ T.exV)
  obtain ⟨oD, hD1, hD2⟩ : ∃ oD, h₁.get? C = some oD ∧ oD.data = .cls { name := nm, bases := bs, mro := .ref C :: bm, ns := N, qualname := q, hasDict := true, slotNames := sn, subclasses := sub, abstract := ab, collection := col, hasDel := false } := ⟨_, X₁ _ _ hC, rfl⟩
  -- super().__init__(a)
  refine ks_wpAt_execs_cons (ks_wpAt_Expr_any (ks_wpAt_MethodCall ?_))
  refine ks_wpAt_super_base (env := ksEnv qual (L2.defScope sI) hp.objs.size fI (.ref cda) cc) rfl rfl rfl rfl (X₁ _ _ ho) rfl rfl rfl (X₁ _ _ hcode) rfl hvs hfile T.topS ?_
  refine ks_loadName_global rfl rfl (loadGlobal_builtin (env := ksEnv qual (L2.defScope sI) hp.objs.size fI (.ref cda) cc) (hglob.keeps hk₁) T.noS (hb1.keeps hk₁) ((hb2 _ (by decide)).trans T.bootS) ⟨rfl, ?_⟩)
  refine wpAny_loadName_free rfl rfl rfl ⟨_, X₁ _ _ hcell, rfl⟩ ?_
  refine wpAny_loadName_local rfl rfl hns (by first | rfl | with_unfolding_all rfl) ?_
  refine ks_wpAny_isType_cls hD1 hD2 ⟨rfl, ?_⟩
  refine ks_wpAny_call_super hD1 hD2 hx₁ rfl (fun c e => by cases e) (looks_mroIn X₁ T.mroC) (fun h₂ e2 k2 => ?_)
  have X₂ : K.In h₂ := X₁.keeps k2
  have hx₂ := k2 _ _ hx₁
  have hxC : x ≠ C := fun z => by rw [z, hC] at hnx; cases hnx
  refine kxs_getMethod kxs_ValueError e2 (looks_opaque X₂ T.op) (l₀ := .ref C :: bm) ?_ (ESX.drop_own C bm) X₂ hal (hisV.keeps k2) hxC rfl ?_
  · exact fun A Q E s k q => wpAny_bind ((looks_clsIn X₂ hcl) A _ E s k (wpAny_pure q))
  have hu : (h₂.push (kxs_mw "ValueError.__init__" x)).get? h₂.objs.size = some (kxs_mw "ValueError.__init__" x) := Heap.get?_push_at rfl rfl
  have k3 : ∀ b o, h₂.get? b = some o → (h₂.push (kxs_mw "ValueError.__init__" x)).get? b = some o := fun b o e => Heap.get?_push_of_some _ e
  have hns₃ : (h₂.push (kxs_mw "ValueError.__init__" x)).Ns hp.objs.size (fun y => ([("self", .ref x), ("word", v)] : List (Str × Value)).reverse.lookup y) := (hns.keeps k2).keeps k3
  have X₃ : K.In (h₂.push (kxs_mw "ValueError.__init__" x)) := X₂.keeps k3
  have hx₃ := k3 _ _ hx₂
  refine kxs_callWith (i := "ValueError.__init__") (x := x) rfl (evalArgs_plain ?_)
  refine Calls.spliced_cons ?_
  refine ESX.ldL (env := callEnv (ksFn "__init__" qual (L2.defArgs sI) (L2.defBody sI) (L2.defScope sI) .none .none doc pm an (.ref cda) ct cc) hp.objs.size fI) (v := v) hns₃ (by first | rfl | with_unfolding_all rfl) ?_ rfl rfl
  refine Calls.spliced_nil ⟨hu, ?_⟩
  show wpAny _ _ (call (.ref h₂.objs.size) [v]) _ _ _
  refine call_w (X₃ _ _ hC) hx₃ hu (show [v].length ≤ sizeLine by rw [sizeLine_eq]; exact (by decide : 1 ≤ 16777216)) fun h₄ t1 k4 hx₄ => ?_
  -- self.a = a
  have xL : hp.objs.size ≠ x := Nat.ne_of_gt (Heap.lt_size hx)
  have X₄ : K.In h₄ := fun b o e => k4 b o (fun z => by rw [z, hnx] at e; cases e) (X₃ b o e)
  have hns₄ : h₄.Ns hp.objs.size (fun y => ([("self", .ref x), ("word", v)] : List (Str × Value)).reverse.lookup y) := by
    obtain ⟨oL, es, ep, hL, r⟩ := hns₃
    exact ⟨oL, es, ep, k4 _ _ xL hL, r⟩
  show PySem.wpAt _ _ _ (execs _ _) _ _ _
  refine ks_wpAt_execs_cons (ks_wpAt_Assign_Attr ?_)
  refine PySem.wpAt_of_wpAny ?_
  refine ESX.ldL (env := callEnv (ksFn "__init__" qual (L2.defArgs sI) (L2.defBody sI) (L2.defScope sI) .none .none doc pm an (.ref cda) ct cc) hp.objs.size fI) (v := v) hns₄ (by first | rfl | with_unfolding_all rfl) ?_ rfl rfl
  refine ESX.ldL (env := callEnv (ksFn "__init__" qual (L2.defArgs sI) (L2.defBody sI) (L2.defScope sI) .none .none doc pm an (.ref cda) ct cc) hp.objs.size fI) (v := .ref x) hns₄ (by first | rfl | with_unfolding_all rfl) ?_ rfl rfl
  refine set_plain X₄ (ox := excO C t1) (od := none) ⟨hx₄, rfl, rfl, trivial⟩ T.sa ?_
  refine exc_osa X₄ hx₄ hcl (show refsVE (.ref C :: bm) = true from hbm) rfl T.noN (fun h₅ tk₅ dx k₅ dn dne hx₅ hn₅ => ?_)
  show PySem.wpAt _ _ _ (execs [] _) _ _ _
  have z : hp.objs.size ≤ h₄.objs.size := by
    obtain ⟨oL, es, ep, hL, r⟩ := hns₄
    exact Nat.le_of_lt (Heap.lt_size hL)
  refine PySem.wpAt_of_wpAny (wpAny_execs_nil (hq h₅ _ dx t1 ⟨fun b o hb e => k₅ b o hb (k4 b o hb (k3 _ _ (k2 _ _ (hk₁ b o e)))), hx₅, Nat.le_trans z dn, dne, hn₅⟩))
/-- a made exception -/
structure OwnMade (h h' : Heap) (e C d : Addr) (v : Value) : Prop where
  keep : ∀ b o, h.get? b = some o → h'.get? b = some o
  new : h.objs.size ≤ e
  obj : ∃ oe vs, h'.get? e = some oe ∧ oe.cls = .ref C ∧ oe.dict = some d ∧ oe.data = .fields vs ∧ vs[1]? = some .none
  dbig : h.objs.size ≤ d
  dne : d ≠ e
  ns : h'.Ns1 d (fun y => if y = "word" then some v else none)
theorem sup_made (T : SupTxt prog K mg C fI) {v : Value} (X : K.In s.heap) (hlim : s.heap.NoLimit) (hglob : s.heap.Ns mainGlobals mg) (hblt : ∃ mb, s.heap.Ns builtinsNs mb ∧ ∀ x : Str, x ≠ "__name__" → mb x = bootBuiltins x) (hroom : A.depth + 1 < recursionLimit)
    (hq : ∀ h' tk e d, OwnMade s.heap h' e C d v → R (.ok (.ret (.ref e))) { s with heap := h', toks := tk }) :
    codeAny (model prog w) A (.call (.ref C) ⟨[v], []⟩) R s := by
  obtain ⟨nm, q, N, bs, bm, sn, sub, ab, col, dd, k0, k1, k2, k3, k5, hC, hbm, hal⟩ := T.cls
  obtain ⟨hp, g, dr, tk, os⟩ := s
  have k : ∀ b o, hp.get? b = some o → ((hp.push (kdv_tup [v])).push (excO C hp.objs.size)).get? b = some o := fun b o e => Heap.get?_push_of_some _ (Heap.get?_push_of_some _ e)
  have hget : ((hp.push (kdv_tup [v])).push (excO C hp.objs.size)).get? (hp.objs.size + 1) = some (excO C hp.objs.size) := by heap_get
  have hnx : K.lookup (hp.objs.size + 1) = none := by
    cases e : K.lookup (hp.objs.size + 1) with
    | none => rfl
    | some o =>
      have z : hp.get? (hp.objs.size + 1) = some o := X _ _ e
      exact absurd (Nat.lt_of_succ_lt (Heap.lt_size z)) (Nat.lt_irrefl _)
  obtain ⟨mb, hb1, hb2⟩ := hblt
  refine call_own F.excBase_ValueError (fun X => refsVE_contains X bm hbm) (X _ _ hC) (looks_findIn X T.iC) (fun self => bind_fn X self T.tC) (show [v].length ≤ sizeLine by rw [sizeLine_eq]; exact (by decide : 1 ≤ 16777216)) ?_
  refine sup_init (s := ⟨(hp.push (kdv_tup [v])).push (excO C hp.objs.size), g, dr, tk, os⟩) T (X.keeps k) (hlim.keeps k) (hglob.keeps k) ⟨mb, hb1.keeps k, hb2⟩ hget hnx ?_ fun h' tk' dx t1 ⟨k', hx, dn, dne, hns⟩ => ?_
  · show A.depth + 1 < recursionLimit
    exact hroom
  · have old : ∀ b o, hp.get? b = some o → h'.get? b = some o := fun b o e => k' b o (Nat.ne_of_lt (Nat.lt_succ_of_lt (Heap.lt_size e))) (k b o e)
    have z : hp.objs.size + 1 + 1 ≤ dx := by
      first
        | (simpa only [Heap.size_push] using dn)
        | exact dn
        | (have q := dn; rw [Heap.size_push, Heap.size_push] at q; exact q)
    exact ⟨rfl, hq h' tk' (hp.objs.size + 1) dx ⟨old, Nat.le_succ _, ⟨_, _, hx, rfl, rfl, rfl, rfl⟩, Nat.le_trans (Nat.le_trans (Nat.le_succ _) (Nat.le_succ _)) z, dne, hns⟩⟩
end
end Zx

set_option Elab.async false
set_option linter.all false
set_option maxRecDepth 100000
set_option maxHeartbeats 2000000
namespace Zx
open PySem L2 PySem.Spec PyProof.Rows Zb
theorem relO_f {v : V} {v' : Value} (r : RelV v v') (f : Str) : RelO (List.lookup f [(("word" : Str), v)]) (if f = "word" then some v' else none) := by
  by_cases hw : f = "word"
  · subst hw
    rw [if_pos rfl]
    have q : List.lookup ("word" : Str) [(("word" : Str), v)] = some v := by simp [List.lookup]
    rw [q]
    exact r
  · rw [if_neg hw]
    have qw : (f == ("word" : Str)) = false := by simpa using hw
    have q2 : List.lookup f [(("word" : Str), v)] = none := by simp [List.lookup, qw]
    rw [q2]
    trivial
section
variable {X : Cx} {C fI : Addr}
/-- the class at C called with one thing -/
def tMkC (C : Addr) (ta : TA) : L2.St → Hp → XK → Prop := fun σ H Q => ta σ H fun vs H1 => ∃ v, vs = [v] ∧ ∀ d, H1 d = none → Q (.ref C) (some d) (upd H1 d (.xd [(("word" : Str), v)]))
theorem pmk_c {a : Expr} {ta : TA} {p pos : Pos} {k : Nat} (T : SupTxt X.prog X.K X.mg C fI) (gC : X.mg "BadStep" = some (.ref C)) (hr : Room k X.A) (ha : PA X [a] ta) (hg : Gl X "BadStep" := by rfl)
    (he : starEach (a :: []) X.env = (false, eval a X.env) :: starEach [] X.env := by rfl) (hpl : (backTo pos (starEach [] X.env)).any (·.1) = false := by rfl) :
    PMk X (.Call (.Name "BadStep" p) [a] [] pos) (tMkC C ta) := by
  intro pins s σ H Q I h
  refine wpAny_Call_Name_kw (ld_glob I hg gC ?_)
  refine PySem.W.callWith_K (h₀ := X.base) I.ok.mod.kin T.kC (thn (ha.run pos pins s σ H _ I h) fun us s1 hh => ?_) he hpl
  obtain ⟨vs, H1, I1, r1, v, ev, q1⟩ := hh
  subst ev
  refine ⟨I1.kIn, ?_⟩
  cases r1 with
  | cons rv rn =>
    rename_i v' us'
    cases rn
    show wpAny _ _ (call (.ref C) [v']) _ _ _
    have hlim := I1.nolimit
    have hgl := I1.mod.glob.keeps I1.bk
    obtain ⟨mb, hb1, hb2⟩ := I1.mod.blt
    have hbl := hb1.keeps I1.bk
    obtain ⟨hp, g, dr, tk, os⟩ := s1
    refine wpAny_call (sup_made T I1.kIn hlim hgl ⟨mb, hbl, hb2⟩ (by have := hr.dp; omega) fun h' tk' e d M => ?_)
    show MkP X pins σ Q (.ref e) ⟨h', g, dr, tk', os⟩
    obtain ⟨oe, fv, hoe, hc, hd, hdat, h1⟩ := M.obj
    have hns := M.ns
    obtain ⟨G', g1, g2⟩ := restrict h' fun b => decide (b ≠ e)
    have gk : ∀ b, b ≠ e → G'.get? b = h'.get? b := fun b hb => g1 b (decide_eq_true hb)
    have ge : G'.get? e = none := g2 e (by simp)
    have old : ∀ b o, hp.get? b = some o → G'.get? b = some o := fun b o q => (gk b (Nat.ne_of_lt (Nat.lt_of_lt_of_le (Heap.lt_size q) M.new))).trans (M.keep b o q)
    have ob : ObjOk X.prog X.w (upd H1 d (.xd [(("word" : Str), v)])) G' d (.xd [(("word" : Str), v)]) :=
      ⟨_, hns.at (fun o q => (gk d M.dne).trans q), fun f => relO_f rv f⟩
    have J : Inv X pins σ (upd H1 d (.xd [(("word" : Str), v)])) ⟨G', g, dr, tk', os⟩ := I1.laid (t' := tk') old M.dbig ob
    refine ⟨e, oe, fv, ⟨G', g, dr, tk', os⟩, _, .ref C, some d, rfl, J, fun b o q => ?_, ge, hoe, ⟨hc, hd⟩, hdat, h1, ?_, rfl, I1.bare, raises_own T.exC T.tyC, q1 d (I1.hok.fresh M.dbig)⟩
    · by_cases hb : b = e
      · have q' : G'.get? b = some o := q
        rw [hb, ge] at q'; cases q'
      · exact (gk b hb).symm.trans q
    · rw [upd_ne (Ne.symm M.dne)]
      exact I1.hok.fresh M.new
/-! ### raise -/
theorem _root_.Zb.Own.newU {K : PySem.W.Frag} {ρ : List Addr} {l : Sto} {H : Hp} {p : Addr} {u : HO} (o : Own K ρ l H) (hp : H p = none) : Own K ρ l (upd H p u) ∧ Step ρ H ρ (upd H p u) := by
  have st : Step ρ H ρ (upd H p u) := step_upd hp
  exact ⟨⟨o.nd, o.len, fun n ob a e1 e2 => Ow.mono (st.mn o) (fun u e => by rw [upd_ne (ne_of_none e hp)]; exact e) (o.at_ n ob a e1 e2)⟩, st⟩
def sRaise (C : Addr) (fs : DEs) : DS := fun g l => (fs g l).out fun ds l1 => match ds with
  | [d] => .ex C [("word", d)] l1
  | _ => .bad
theorem as_raise {E : XK} {a : Expr} {fs : DEs} {p pos pos2 : Pos} {k : Nat} (hc : X.calm = true) (T : SupTxt X.prog X.K X.mg C fI) (gC : X.mg "BadStep" = some (.ref C)) (hr : Room k X.A) (tk : Takes X (fun c d _ H => E c d H)) (ha : AA X E [a] fs) (hg : Gl X "BadStep" := by rfl)
    (he : starEach (a :: []) X.env = (false, eval a X.env) :: starEach [] X.env := by rfl) (hpl : (backTo pos (starEach [] X.env)).any (·.1) = false := by rfl) :
    AS X E (.Raise (some (.Call (.Name "BadStep" p) [a] [] pos)) none pos2) (sRaise C fs) := ⟨PS.imp (ps_raise hc tk (pmk_c T gC hr ha.pa hg he hpl)) fun D σ H ⟨ρ, l, g, o, s, p⟩ =>
  ⟨ρ, l, g, o, s, OutP.of (rel := rDs X.K) p fun ds l1 ρ1 H1 vs e1 s1 o1 r1 p1 => by
    split at p1
    · obtain ⟨v, rfl, r2⟩ := r1.one_
      refine ⟨v, rfl, fun d hd => ?_⟩
      obtain ⟨o2, s2⟩ := o1.newU (u := .xd [(("word" : Str), v)]) hd
      exact p1 ρ1 _ d _ s2 o2 upd_same rfl (by simpa using Rws.one (s2.rw o1 r2))
    · exact p1.elim⟩⟩
end
end Zx

set_option Elab.async false
set_option linter.all false
set_option maxRecDepth 100000
set_option maxHeartbeats 2000000
namespace Zx
open PySem L2 PySem.Spec PyProof.Rows Zb
section
variable {X : Cx} {C fI : Addr}
/-- the held exception by its name: its slot was set last -/
theorem pe_held {n : Str} {i : Nat} {a : Addr} {pos : Pos} (hi : X.N[i]? = some n) (hv : Vis X.env.scope n) (hd : (n == ("__debug__" : Str)) = false := by decide) (hcd : (n == ("__classdict__" : Str)) = false := by decide) :
    PE X (.Name n pos) (fun σ H Q => (∃ σ0 : L2.St, σ = σ0.set i (some (.ref a))) ∧ Q (.ref a) H) := ⟨fun pins s σ H Q I h => by
  obtain ⟨⟨σ0, e⟩, q⟩ := h
  refine (pe_var (pos := pos) hi hv hd hcd).run pins s σ H Q I ⟨.ref a, ?_, q⟩
  have hl : i < σ.length := by rw [I.len]; exact (List.getElem?_eq_some_iff.mp hi).1
  rw [e] at hl ⊢
  rw [List.getElem?_set_self (by simpa using hl)]⟩
/-- low.word, low the exception that the suite holds (at a; its class cls, its dict d) -/
def tFld (C : Addr) (a : Addr) (cls : Value) (d : Option Addr) (te : TE) : TE := fun σ H Q => te σ H fun x H1 => x = .ref a ∧ cls = .ref C ∧ ∃ (dd : Addr) (v : V), d = some dd ∧ H1 dd = some (.xd [(("word" : Str), v)]) ∧ Q v H1
theorem pe_fld {a : Addr} {oe : Obj} {cls : Value} {d : Option Addr} {pn : List (Addr × Obj)} {e : Expr} {te : TE} {pos : Pos} (T : SupTxt X.prog X.K X.mg C fI) (hz : Zc cls d oe) (hf : ∃ vs, oe.data = .fields vs) (he : PE (X.suite a ((a, oe) :: pn)) e te)
    (hb : attributeBase e "word" X.env (eval e X.env) = eval e X.env := by rfl) :
    PE (X.suite a ((a, oe) :: pn)) (.Attribute e "word" pos) (tFld C a cls d te) := by
  refine ⟨fun pins s σ H Q I h => ?_⟩
  refine attr_of hb (thn (he.run pins s σ H _ I h) fun u s1 hh => ?_)
  obtain ⟨x, H1, I1, rx, ex, ec, dd, v, ed, ea, q⟩ := hh
  subst ex
  obtain rfl : u = Value.ref a := rx
  subst ec
  subst ed
  obtain ⟨ha, _⟩ := I1.pin (a, oe) (List.mem_append_left _ List.mem_cons_self)
  obtain ⟨vs, hd⟩ := hf
  have hx : ObjOk X.prog X.w H1 s1.heap dd (.xd [(("word" : Str), v)]) := I1.hok dd _ ea
  obtain ⟨mA, hns, hr⟩ := hx
  obtain ⟨od, ho, hl⟩ := lookIn_ns hns
  have l : List.lookup ("word" : Str) [(("word" : Str), v)] = some v := by simp [List.lookup]
  obtain ⟨u, hu, ru⟩ := RelO.some_of (v := v) (o := mA "word") (by rw [← l]; exact hr "word")
  have J : PySem.W.InstAt s1.heap a oe C (some od) := ⟨ha, hz.1, by unfold PySem.W.notCls; rw [hd] <;> rfl, by rw [hz.2]; exact ho⟩
  exact HandSPX.exc_get I1.kIn J T.ga T.gg T.exC (PySem.W.findObj_own T.hdC T.noN rfl (by rw [hl, hu])) (handed_of ru) ⟨v, H1, I1.tok _, ru, q⟩
/-! ### try: body / except C as n: return n.word -/
open Classical in
noncomputable def sTryF (C : Addr) (t : DS) : DS := fun g l => match t g l with
  | .ex C' fs l' => if C' = C then (match fs with
    | [(nm, d)] => if pu d && decide (nm = ("word" : Str)) then .rt d l' else .bad
    | _ => .bad) else .bad
  | r => r
theorem as_tryF {E : XK} {t : DS} {n : Str} {i : Nat} {body : List Stmt} {np p1 p2 p3 pos pos' : Pos} (hs : X.stack = X.env :: X.outer) (hf : X.env.frame = some X.env.locals) (hN : X.N.Nodup) (hi : X.N[i]? = some n) (hln : X.env.kindOf n = some .local) (T : SupTxt X.prog X.K X.mg C fI) (gC : X.mg "BadStep" = some (.ref C)) (hg : Gl X "BadStep")
    (hb : ∀ (E' : XK) (pn : List (Addr × Obj)) (xe : Value → Shared → Prop), Takes (X.tr pn xe) (fun c d _ H => E' c d H) → PassesOwn (model X.prog X.w) X.A X.env xe → ASs (X.tr pn xe) E' body t)
    (hbs : attributeBase (.Name n p1) "word" X.env (eval (.Name n p1) X.env) = eval (.Name n p1) X.env := by rfl)
    (hd : (n == ("__debug__" : Str)) = false := by decide) (hcd : (n == ("__classdict__" : Str)) = false := by decide) :
    AS X E (.Try body [.ExceptHandler (some (.Name "BadStep" np)) (some n) [.Return (some (.Attribute (.Name n p1) "word" p2)) p3] pos'] [] [] pos) (sTryF C t) := by
  have hln' : X.env.scope.names.lookup n = some .local := hln
  refine ⟨PS.imp (ps_try_as (i := i) (tb := fun W D σ H => ∃ E' : XK, (∀ c d σ H, E' c d H → W c d σ H) ∧ tsOf X.K E' t D σ H) (ts := fun a cls d => tRet (tFld C a cls d (fun σ H Q => (∃ σ0 : L2.St, σ = σ0.set i (some (.ref a))) ∧ Q (.ref a) H)))
    (Wout := fun _ _ _ _ => False) hs hf hN hi hln ⟨hg, by decide, .inl gC⟩ takes0 (fun W pn xe tk po => ?_) (fun a oe cls d pn hz hfd => ?_)) fun D σ H h => ?_⟩
  · refine ⟨fun pins s σ H D I ⟨E', h1, h2⟩ => ?_⟩
    exact (hb E' pn xe (tk.imp h1) po).pss.run pins s σ H D I h2
  · exact pss_one (ps_ret (pe_fld T hz hfd (pe_held (X := X.suite a ((a, oe) :: pn)) hi (.inl hln') hd hcd) hbs))
  · obtain ⟨ρ, l, g, o, s, p⟩ := h
    refine ⟨fun c d H => c = .ref C ∧ ∃ (dd : Addr) (v : V), d = some dd ∧ H dd = some (.xd [(("word" : Str), v)]) ∧ D.rt v H, ?_, ρ, l, g, o, s, ?_⟩
    · rintro c d σ1 H1 ⟨rfl, dd, v, rfl, e, q⟩
      exact ⟨true, T.te, fun _ a _ => ⟨⟨σ1, rfl⟩, rfl, rfl, dd, v, rfl, e, q⟩, fun z => Bool.noConfusion z⟩
    · unfold sTryF at p
      cases q : t g l with
      | bad => rw [q] at p; exact p
      | nx g' l' => rw [q] at p; exact p
      | rt d l' => rw [q] at p; exact p
      | bk g' l' => rw [q] at p; exact p
      | ct g' l' => rw [q] at p; exact p
      | ex C' fs l' =>
        rw [q] at p
        simp only at p
        split at p
        · rename_i hC
          subst hC
          split at p
          · rename_i nm d
            obtain ⟨hc, p7⟩ := OutP.ite p
            simp only [Bool.and_eq_true, decide_eq_true_eq] at hc
            obtain ⟨hp, rfl⟩ := hc
            intro ρ' H' dd vs st o' e1 e2 e3
            simp only [List.map_cons, List.map_nil] at e2 e3
            obtain ⟨v, e4, r⟩ := e3.one_
            match vs, e2, e4 with
            | [(nm, v')], e2, e4 =>
              simp only [List.map_cons, List.map_nil, List.cons.injEq, and_true] at e2 e4
              subst e2; subst e4
              exact ⟨rfl, dd, v', rfl, e1, p7 ρ' H' v' st o' r⟩
          · exact p.elim
        · exact p.elim
end
end Zx

set_option Elab.async false
set_option linter.all false
set_option maxRecDepth 100000
set_option maxHeartbeats 4000000
namespace Q88
open PySem L2 PySem.Spec PyProof.Rows Zb
def top (i : Nat) : Stmt := PySem.Challenge.pw_throwntrue_k88_whole_joined_code.main.body.getD i (.Pass ⟨0, 0, 0, 0⟩)
structure Bu (mg : Str → Option Value) : Prop where
  m_abs : mg "abs" = none
  m_bool : mg "bool" = none
  m_int : mg "int" = none
  m_isinstance : mg "isinstance" = none
  m_len : mg "len" = none
  m_list : mg "list" = none
  m_min : mg "min" = none
  m_range : mg "range" = none
  m_str : mg "str" = none
  m_sum : mg "sum" = none
  m_tuple : mg "tuple" = none
  g_REGISTERS : ∃ u, mg "REGISTERS" = some u ∧ RelV (.int 10) u
  g_MOST_COMMANDS : ∃ u, mg "MOST_COMMANDS" = some u ∧ RelV (.int 4000) u
/-! moved_command -/
abbrev s_moved_command : Stmt := top 6
abbrev sc_moved_commandN : List Str := ["command", "many"]
theorem sc_moved_command : FnScope sc_moved_commandN ["command", "many"] (defScope s_moved_command) := ⟨rfl, rfl, rfl, by decide +kernel, rfl, by decide +kernel, by decide +kernel⟩
noncomputable def den_moved_command : DS :=
  (sSeq (sIf (dBl (dOp hEq (dOp hIx (dV 0) (dC (.int 0))) (dC (.str "goto")))) (sRet (dTup (dCons (dC (.str "goto")) (dCons (dOp hAdd (dOp hIx (dV 0) (dC (.int 1))) (dV 1)) dNil)))) sNx)
    (sSeq (sIf (dBl (dOp hEq (dOp hIx (dV 0) (dC (.int 0))) (dC (.str "below")))) (sRet (dOp hAdd (dSl (dV 0) dONone (dOSome (dC (.int 3)))) (dTup (dCons (dOp hAdd (dOp hIx (dV 0) (dC (.int 3))) (dV 1)) dNil)))) sNx)
    (sRet (dV 0))))
noncomputable def m_moved_command : List D → Sto → Res D := callF [.P, .P] false (pfOf (runB 2 (den_moved_command)) [.P, .P] false)
theorem ok_moved_command {P : Program} {w : World} {K : PySem.W.Frag} {mg : Str → Option Value} {base : Heap} {f : Addr} {fd : FuncData} (F : Fun K "moved_command" "moved_command" s_moved_command f fd) (B : Bu mg) :
    FnOk P w K mg base CX0 1 f fd ["command", "many"] (spD K 2 (runB 2 (den_moved_command))) :=
  ok_body (k := 0) F sc_moved_command fun cdv A outer s H E hr =>
    (as_cons (as_if (at_eq hr.units (ae_ix (ae_var (pv 0)) ae_int) ae_str) (as_one (as_ret (ae_tup (aa_cons ae_str (aa_cons (ae_add (ae_ix (ae_var (pv 0)) ae_int) (ae_var (pv 1))) aa_nil))))) as_nil)
    (as_cons (as_if (at_eq hr.units (ae_ix (ae_var (pv 0)) ae_int) ae_str) (as_one (as_ret (ae_add (ae_sl (ae_var (pv 0)) ao_none (ao_some ae_int)) (ae_tup (aa_cons (ae_add (ae_ix (ae_var (pv 0)) ae_int) (ae_var (pv 1))) aa_nil))))) as_nil)
    (as_one (as_ret (ae_var (pv 0))))))
/-! moved_code -/
abbrev s_moved_code : Stmt := top 7
abbrev sc_moved_codeN : List Str := ["code", "many", "command"]
theorem sc_moved_code : FnScope sc_moved_codeN ["code", "many"] (defScope s_moved_code) := ⟨rfl, rfl, rfl, by decide +kernel, rfl, by decide +kernel, by decide +kernel⟩
noncomputable def e1_moved_code : DE :=
  (dCall 2 m_moved_command (dCons (dV 2) (dCons (dV 1) dNil)))
noncomputable def den_moved_code : DS :=
  (sRet (dCB hTupOf (dCons (dLc (dIt (dV 0)) (gN 2) dYes e1_moved_code [2]) dNil)))
noncomputable def m_moved_code : List D → Sto → Res D := callF [.P, .P] false (pfOf (runB 3 (den_moved_code)) [.P, .P] false)
theorem ok_moved_code {P : Program} {w : World} {K : PySem.W.Frag} {mg : Str → Option Value} {base : Heap} {f : Addr} {fd : FuncData} (F : Fun K "moved_code" "moved_code" s_moved_code f fd) (B : Bu mg)
    (h_moved_command : Has CX0 P w K mg base "moved_command" 1 ["command", "many"] (spD K 2 m_moved_command)) :
    FnOk P w K mg base CX0 2 f fd ["code", "many"] (spD K 2 (runB 3 (den_moved_code))) :=
  ok_body (k := 1) F sc_moved_code fun cdv A outer s H E hr =>
    (as_one (as_ret (ae_tupOf rfl B.m_tuple (aa_cons (ae_lcv [("command", 2)] rfl rfl sc_moved_code.nd (ai_of (ae_var (pv 0))) (blkOk_by (own := [("command", 2)]) (N := sc_moved_codeN) (sc := defScope s_moved_code) (by decide +kernel)) (fun _ _ _ _ _ => pg_name (i := 2) sc_moved_code.nd rfl (Or.inl rfl)) (fun _ _ _ _ _ => pts_none) (fun _ _ _ _ _ => (ae_callD h_moved_command (hr.mono (by decide)) rfl (aa_cons (ae_var (pv 2)) (aa_cons (ae_var (pv 1)) aa_nil)))) (agw_name (by decide))) aa_nil))))
/-! joined_code -/
abbrev s_joined_code : Stmt := top 8
abbrev sc_joined_codeN : List Str := ["code", "codes", "begins", "behind", "other", "begin", "clear", "told", "command", "register"]
theorem sc_joined_code : FnScope sc_joined_codeN ["code", "codes"] (defScope s_joined_code) := ⟨rfl, rfl, rfl, by decide +kernel, rfl, by decide +kernel, by decide +kernel⟩
noncomputable def e1_joined_code (C : Addr) : DE :=
  (dOp hAdd (dCB hLen (dCons (dV 4) dNil)) (dC (.int 10)))
noncomputable def e2_joined_code (C : Addr) : DE :=
  (dTup (dCons (dC (.str "set")) (dCons (dV 9) (dCons (dC (.int 0)) dNil))))
noncomputable def b3_joined_code (C : Addr) : DS :=
  (sSeq (sSet 5 (dOp hAdd (dCB hLen (dCons (dV 0) dNil)) (dCB hLen (dCons (dV 3) dNil))))
    (sSeq (sExpr (dMe hApp (dV 2) (dCons (dV 5) dNil)))
    (sSeq (sSet 6 (dCB hTupOf (dCons (dLc (dRng1 (dCons (dC (.int 10)) dNil)) (gN 9) dYes (e2_joined_code C) [9]) dNil)))
    (sSet 3 (dOp hAdd (dOp hAdd (dV 3) (dV 6)) (dCall 2 m_moved_code (dCons (dV 4) (dCons (dOp hAdd (dV 5) (dC (.int 10))) dNil))))))))
noncomputable def e4_joined_code (C : Addr) : DE :=
  (dIfE (dBl (dOp hEq (dOp hIx (dV 8) (dC (.int 0))) (dC (.str "end")))) (dTup (dCons (dC (.str "goto")) (dCons (dOp hIx (dV 2) (dOp hIx (dV 8) (dC (.int 1)))) dNil))) (dV 8))
noncomputable def den_joined_code (C : Addr) : DS :=
  (sSeq (sIf (dBl (dOp (hCmp fun i j => decide (j < i)) (dOp hAdd (dCB hLen (dCons (dV 0) dNil)) (dCB hSumL (dCons (dLc (dIt (dV 1)) (gN 4) dYes (e1_joined_code C) [4]) dNil))) (dC (.int 4000)))) (Zx.sRaise C (dCons (dC (.str "size")) dNil)) sNx)
    (sSeq (sSet 2 (dLst dNil))
    (sSeq (sSet 3 (dTup dNil))
    (sSeq (sFor (dIt (dV 1)) (gN 4) (b3_joined_code C))
    (sSeq (sSet 7 (dLc (dIt (dV 0)) (gN 8) dYes (e4_joined_code C) [8]))
    (sRet (dOp hAdd (dCB hTupOf (dCons (dV 7) dNil)) (dV 3))))))))
noncomputable def m_joined_code (C : Addr) : List D → Sto → Res D := callF [.P, .P] false (pfOf (runX 10 (den_joined_code C)) [.P, .P] false)
theorem ok_joined_code {P : Program} {w : World} {K : PySem.W.Frag} {mg : Str → Option Value} {base : Heap} {f : Addr} {fd : FuncData} (F : Fun K "joined_code" "joined_code" s_joined_code f fd) (B : Bu mg)
    {C fI : Addr} (T : Zx.SupTxt P K mg C fI) (gC : mg "BadStep" = some (.ref C))
    (h_moved_code : Has CX0 P w K mg base "moved_code" 2 ["code", "many"] (spD K 2 m_moved_code)) :
    FnOk P w K mg base (L2.CX P w) 3 f fd ["code", "codes"] (spD K 2 (runX 10 (den_joined_code C))) :=
  ok_bodyX (k := 2) F sc_joined_code fun cdv A outer s H E hr =>
    (as_cons (as_if (at_gt (ae_add (ae_len rfl B.m_len (aa_cons (ae_var (pv 0)) aa_nil)) (ae_sumL rfl rfl B.m_sum (aa_cons (ae_lcv [("other", 4)] rfl rfl sc_joined_code.nd (ai_of (ae_var (pv 1))) (blkOk_by (own := [("other", 4)]) (N := sc_joined_codeN) (sc := defScope s_joined_code) (by decide +kernel)) (fun _ _ _ _ _ => pg_name (i := 4) sc_joined_code.nd rfl (Or.inl rfl)) (fun _ _ _ _ _ => pts_none) (fun _ _ _ _ _ => (ae_add (ae_len rfl B.m_len (aa_cons (ae_var (pv 4)) aa_nil)) (ae_gl (v := .int 10) rfl rfl B.g_REGISTERS))) (agw_name (by decide))) aa_nil))) (ae_gl (v := .int 4000) rfl rfl B.g_MOST_COMMANDS)) (as_one (Zx.as_raise rfl T gC hr (takes_of rfl rfl rfl rfl) (aa_cons ae_str aa_nil))) as_nil)
    (as_cons (as_set (i := 2) sc_joined_code.nd rfl (Or.inr rfl) (ae_lst aa_nil))
    (as_cons (as_set (i := 3) sc_joined_code.nd rfl (Or.inl rfl) (ae_tup aa_nil))
    (as_cons (as_for (passes_of rfl) rfl (ai_of (ae_var (pv 1))) (ag_name (i := 4) sc_joined_code.nd rfl (Or.inl rfl)) (as_cons (as_set (i := 5) sc_joined_code.nd rfl (Or.inl rfl) (ae_add (ae_len rfl B.m_len (aa_cons (ae_var (pv 0)) aa_nil)) (ae_len rfl B.m_len (aa_cons (ae_var (pv 3)) aa_nil))))
    (as_cons (as_expr (ae_append (ae_var (pv 2)) (aa_cons (ae_var (pv 5)) aa_nil)))
    (as_cons (as_set (i := 6) sc_joined_code.nd rfl (Or.inl rfl) (ae_tupOf rfl B.m_tuple (aa_cons (ae_lcv [("register", 9)] rfl rfl sc_joined_code.nd (ai_range1 rfl B.m_range (aa_cons (ae_gl (v := .int 10) rfl rfl B.g_REGISTERS) aa_nil)) (blkOk_by (own := [("register", 9)]) (N := sc_joined_codeN) (sc := defScope s_joined_code) (by decide +kernel)) (fun _ _ _ _ _ => pg_name (i := 9) sc_joined_code.nd rfl (Or.inl rfl)) (fun _ _ _ _ _ => pts_none) (fun _ _ _ _ _ => (ae_tup (aa_cons ae_str (aa_cons (ae_var (pv 9)) (aa_cons ae_int aa_nil))))) (agw_name (by decide))) aa_nil)))
    (as_one (as_set (i := 3) sc_joined_code.nd rfl (Or.inl rfl) (ae_add (ae_add (ae_var (pv 3)) (ae_var (pv 6))) (ae_callD h_moved_code (hr.mono (by decide)) rfl (aa_cons (ae_var (pv 4)) (aa_cons (ae_add (ae_var (pv 5)) (ae_gl (v := .int 10) rfl rfl B.g_REGISTERS)) aa_nil))))))))))
    (as_cons (as_setLcv (i := 7) [("command", 8)] rfl rfl sc_joined_code.nd rfl rfl (sw_true rfl rfl rfl (by decide +kernel)) (ai_of (ae_var (pv 0))) (blkOk_by (own := [("command", 8)]) (N := sc_joined_codeN) (sc := defScope s_joined_code) (by decide +kernel)) (fun _ _ _ _ _ => pg_name (i := 8) sc_joined_code.nd rfl (Or.inl rfl)) (fun _ _ _ _ _ => pts_none) (fun _ _ _ _ _ => (ae_if (at_eq hr.units (ae_ix (ae_var (pv 8)) ae_int) ae_str) (ae_tup (aa_cons ae_str (aa_cons (ae_ix (ae_var (pv 2)) (ae_ix (ae_var (pv 8)) ae_int)) aa_nil))) (ae_var (pv 8)))) (agw_name (by decide)))
    (as_one (as_ret (ae_add (ae_tupOf rfl B.m_tuple (aa_cons (ae_var (pv 7)) aa_nil)) (ae_var (pv 3))))))))))
/-! shifted_code -/
abbrev s_shifted_code : Stmt := top 9
abbrev sc_shifted_codeN : List Str := ["code", "many"]
theorem sc_shifted_code : FnScope sc_shifted_codeN ["code", "many"] (defScope s_shifted_code) := ⟨rfl, rfl, rfl, by decide +kernel, rfl, by decide +kernel, by decide +kernel⟩
noncomputable def den_shifted_code (C : Addr) : DS :=
  (sSeq (sIf (dBl (dOp (hCmp fun i j => decide (j < i)) (dOp hAdd (dCB hLen (dCons (dV 0) dNil)) (dV 1)) (dC (.int 4000)))) (Zx.sRaise C (dCons (dC (.str "size")) dNil)) sNx)
    (sRet (dOp hAdd (dOp hMulT (dTup (dCons (dTup (dCons (dC (.str "set")) (dCons (dOp (hInt yes2 fun i j => i - j) (dC (.int 10)) (dC (.int 1))) (dCons (dC (.int 0)) dNil)))) dNil)) (dV 1)) (dCall 2 m_moved_code (dCons (dV 0) (dCons (dV 1) dNil))))))
noncomputable def m_shifted_code (C : Addr) : List D → Sto → Res D := callF [.P, .P] false (pfOf (runX 2 (den_shifted_code C)) [.P, .P] false)
theorem ok_shifted_code {P : Program} {w : World} {K : PySem.W.Frag} {mg : Str → Option Value} {base : Heap} {f : Addr} {fd : FuncData} (F : Fun K "shifted_code" "shifted_code" s_shifted_code f fd) (B : Bu mg)
    {C fI : Addr} (T : Zx.SupTxt P K mg C fI) (gC : mg "BadStep" = some (.ref C))
    (h_moved_code : Has CX0 P w K mg base "moved_code" 2 ["code", "many"] (spD K 2 m_moved_code)) :
    FnOk P w K mg base (L2.CX P w) 3 f fd ["code", "many"] (spD K 2 (runX 2 (den_shifted_code C))) :=
  ok_bodyX (k := 2) F sc_shifted_code fun cdv A outer s H E hr =>
    (as_cons (as_if (at_gt (ae_add (ae_len rfl B.m_len (aa_cons (ae_var (pv 0)) aa_nil)) (ae_var (pv 1))) (ae_gl (v := .int 4000) rfl rfl B.g_MOST_COMMANDS)) (as_one (Zx.as_raise rfl T gC hr (takes_of rfl rfl rfl rfl) (aa_cons ae_str aa_nil))) as_nil)
    (as_one (as_ret (ae_add (ae_mulT (ae_tup (aa_cons (ae_tup (aa_cons ae_str (aa_cons (ae_sub (ae_gl (v := .int 10) rfl rfl B.g_REGISTERS) ae_int) (aa_cons ae_int aa_nil)))) aa_nil)) (ae_var (pv 1))) (ae_callD h_moved_code (hr.mono (by decide)) rfl (aa_cons (ae_var (pv 0)) (aa_cons (ae_var (pv 1)) aa_nil)))))))
/-! renamed_ends -/
abbrev s_renamed_ends : Stmt := top 10
abbrev sc_renamed_endsN : List Str := ["code", "places", "command"]
theorem sc_renamed_ends : FnScope sc_renamed_endsN ["code", "places"] (defScope s_renamed_ends) := ⟨rfl, rfl, rfl, by decide +kernel, rfl, by decide +kernel, by decide +kernel⟩
noncomputable def e1_renamed_ends : DE :=
  (dIfE (dBl (dOp hEq (dOp hIx (dV 2) (dC (.int 0))) (dC (.str "end")))) (dTup (dCons (dC (.str "end")) (dCons (dOp hIx (dV 1) (dOp hIx (dV 2) (dC (.int 1)))) dNil))) (dV 2))
noncomputable def den_renamed_ends : DS :=
  (sRet (dCB hTupOf (dCons (dLc (dIt (dV 0)) (gN 2) dYes e1_renamed_ends [2]) dNil)))
noncomputable def m_renamed_ends : List D → Sto → Res D := callF [.P, .P] false (pfOf (runB 3 (den_renamed_ends)) [.P, .P] false)
theorem ok_renamed_ends {P : Program} {w : World} {K : PySem.W.Frag} {mg : Str → Option Value} {base : Heap} {f : Addr} {fd : FuncData} (F : Fun K "renamed_ends" "renamed_ends" s_renamed_ends f fd) (B : Bu mg) :
    FnOk P w K mg base CX0 1 f fd ["code", "places"] (spD K 2 (runB 3 (den_renamed_ends))) :=
  ok_body (k := 0) F sc_renamed_ends fun cdv A outer s H E hr =>
    (as_one (as_ret (ae_tupOf rfl B.m_tuple (aa_cons (ae_lcv [("command", 2)] rfl rfl sc_renamed_ends.nd (ai_of (ae_var (pv 0))) (blkOk_by (own := [("command", 2)]) (N := sc_renamed_endsN) (sc := defScope s_renamed_ends) (by decide +kernel)) (fun _ _ _ _ _ => pg_name (i := 2) sc_renamed_ends.nd rfl (Or.inl rfl)) (fun _ _ _ _ _ => pts_none) (fun _ _ _ _ _ => (ae_if (at_eq hr.units (ae_ix (ae_var (pv 2)) ae_int) ae_str) (ae_tup (aa_cons ae_str (aa_cons (ae_ix (ae_var (pv 1)) (ae_ix (ae_var (pv 2)) ae_int)) aa_nil))) (ae_var (pv 2)))) (agw_name (by decide))) aa_nil))))
/-! _law_well -/
abbrev s__law_well : Stmt := top 12
abbrev sc__law_wellN : List Str := ["script", "folded", "great", "cell", "size"]
theorem sc__law_well : FnScope sc__law_wellN ["script"] (defScope s__law_well) := ⟨rfl, rfl, rfl, by decide +kernel, rfl, by decide +kernel, by decide +kernel⟩
noncomputable def b1__law_well : DS :=
  (sSeq (sSet 4 (dOp (hInt (fun _ j => decide (j ≠ 0)) Int.fmod) (dCB hAbs (dCons (dCB hInt1 (dCons (dV 3) dNil)) dNil)) (dOp (hInt powOk fun i j => i * 2 ^ j.toNat) (dC (.int 1)) (dC (.int 1700)))))
    (sSeq (sSet 1 (dOp (hInt (fun _ j => decide (j ≠ 0)) Int.fmod) (dCB hInt1 (dCons (dOp hAdd (dOp hAdd (dOp hAdd (dOp hMulT (dV 1) (dC (.int 49253))) (dOp (hInt (fun _ j => decide (j ≠ 0)) Int.fmod) (dV 4) (dC (.int 998244353)))) (dOp hMulT (dC (.int 3)) (dCB hInt1 (dCons (dOp (hCmp fun i j => decide (i < j)) (dCB hInt1 (dCons (dV 3) dNil)) (dC (.int 0))) dNil)))) (dC (.int 43))) dNil)) (dC (.int 2147483587))))
    (sIf (dBl (dOp (hCmp fun i j => decide (j ≤ i)) (dV 4) (dOp (hInt powOk fun i j => i ^ j.toNat) (dC (.int 10)) (dC (.int 14))))) (sExpr (dMe hApp (dV 2) (dCons (dV 4) dNil))) sNx)))
noncomputable def den__law_well : DS :=
  (sSeq (sSet 1 (dC (.int 88007)))
    (sSeq (sSet 2 (dLst dNil))
    (sSeq (sFor (dIt (dSl (dV 0) dONone (dOSome (dC (.int 50))))) (gN 3) b1__law_well)
    (sRet (dLst (dCons (dV 1) (dCons (dUn hRev (dV 2)) dNil)))))))
theorem ok__law_well {P : Program} {w : World} {K : PySem.W.Frag} {mg : Str → Option Value} {base : Heap} {f : Addr} {fd : FuncData} (F : Fun K "_law_well" "_law_well" s__law_well f fd) (B : Bu mg) :
    FnOk P w K mg base CX0 1 f fd ["script"] (spD K 1 (runB 5 (den__law_well))) :=
  ok_body (k := 0) F sc__law_well fun cdv A outer s H E hr =>
    (as_cons (as_set (i := 1) sc__law_well.nd rfl (Or.inl rfl) ae_int)
    (as_cons (as_set (i := 2) sc__law_well.nd rfl (Or.inl rfl) (ae_lst aa_nil))
    (as_cons (as_for PassesOwn.never rfl (ai_of (ae_sl (ae_var (pv 0)) ao_none (ao_some ae_int))) (ag_name (i := 3) sc__law_well.nd rfl (Or.inl rfl)) (as_cons (as_set (i := 4) sc__law_well.nd rfl (Or.inl rfl) (ae_mod (ae_abs rfl B.m_abs (aa_cons (ae_int1 rfl B.m_int (aa_cons (ae_var (pv 3)) aa_nil)) aa_nil)) (ae_shl ae_int ae_int)))
    (as_cons (as_set (i := 1) sc__law_well.nd rfl (Or.inl rfl) (ae_mod (ae_int1 rfl B.m_int (aa_cons (ae_add (ae_add (ae_add (ae_mulT (ae_var (pv 1)) ae_int) (ae_mod (ae_var (pv 4)) ae_int)) (ae_mulT ae_int (ae_int1 rfl B.m_int (aa_cons (ae_lt (ae_int1 rfl B.m_int (aa_cons (ae_var (pv 3)) aa_nil)) ae_int) aa_nil)))) ae_int) aa_nil)) ae_int))
    (as_one (as_if (at_ge (ae_var (pv 4)) (ae_pow ae_int ae_int)) (as_one (as_expr (ae_append (ae_var (pv 2)) (aa_cons (ae_var (pv 4)) aa_nil)))) as_nil)))))
    (as_one (as_ret (ae_lst (aa_cons (ae_var (pv 1)) (aa_cons (ae_rev (ae_var (pv 2))) aa_nil))))))))
/-! _law_roll -/
abbrev s__law_roll : Stmt := top 13
abbrev sc__law_rollN : List Str := ["well", "many", "size"]
theorem sc__law_roll : FnScope sc__law_rollN ["well", "many"] (defScope s__law_roll) := ⟨rfl, rfl, rfl, by decide +kernel, rfl, by decide +kernel, by decide +kernel⟩
noncomputable def den__law_roll : DS :=
  (sSeq (sIf (dBl (dOp (hCmp fun i j => decide (j < i)) (dCB hLen (dCons (dOp hIx (dV 0) (dC (.int 1))) dNil)) (dC (.int 0)))) (sSeq (sSet 2 (dMe0 hPop (dOp hIx (dV 0) (dC (.int 1)))))
    (sSeq (sIf (dAnd (dBl (dOp (hCmp fun i j => decide (j ≤ i)) (dV 2) (dV 1))) (dBl (dOp (hCmp fun i j => decide (j < i)) (dV 1) (dC (.int 1))))) (sExpr (dMe hApp (dOp hIx (dV 0) (dC (.int 1))) (dCons (dOp (hInt (fun _ j => divOk j) fun i j => i / j) (dV 2) (dV 1)) dNil))) sNx)
    (sRet (dOp (hInt (fun _ j => decide (j ≠ 0)) Int.fmod) (dCB hInt1 (dCons (dV 2) dNil)) (dV 1))))) sNx)
    (sSeq (sSub (dV 0) (dC (.int 0)) (dOp (hInt (fun _ j => decide (j ≠ 0)) Int.fmod) (dCB hInt1 (dCons (dOp hAdd (dOp hMulT (dOp hIx (dV 0) (dC (.int 0))) (dC (.int 48271))) (dC (.int 11))) dNil)) (dC (.int 2147483587))))
    (sRet (dOp (hInt (fun _ j => decide (j ≠ 0)) Int.fmod) (dCB hInt1 (dCons (dOp (hInt (fun _ j => divOk j) fun i j => i / j) (dOp hIx (dV 0) (dC (.int 0))) (dC (.int 2048))) dNil)) (dV 1)))))
noncomputable def m__law_roll : List D → Sto → Res D := callJ [.P] false (pjOf (runB 3 (den__law_roll)) [.P] false)
theorem ok__law_roll {P : Program} {w : World} {K : PySem.W.Frag} {mg : Str → Option Value} {base : Heap} {f : Addr} {fd : FuncData} (F : Fun K "_law_roll" "_law_roll" s__law_roll f fd) (B : Bu mg) :
    FnOk P w K mg base CX0 1 f fd ["well", "many"] (spD K 2 (runB 3 (den__law_roll))) :=
  ok_body (k := 0) F sc__law_roll fun cdv A outer s H E hr =>
    (as_cons (as_if (at_gt (ae_len rfl B.m_len (aa_cons (ae_ix (ae_var (pv 0)) ae_int) aa_nil)) ae_int) (as_cons (as_set (i := 2) sc__law_roll.nd rfl (Or.inl rfl) (ae_pop (ae_ix (ae_var (pv 0)) ae_int)))
    (as_cons (as_if (at_w (aw_and (at_ge (ae_var (pv 2)) (ae_var (pv 1))) (aw_and1 (at_gt (ae_var (pv 1)) ae_int)))) (as_one (as_expr (ae_append (ae_ix (ae_var (pv 0)) ae_int) (aa_cons (ae_div (ae_var (pv 2)) (ae_var (pv 1))) aa_nil)))) as_nil)
    (as_one (as_ret (ae_mod (ae_int1 rfl B.m_int (aa_cons (ae_var (pv 2)) aa_nil)) (ae_var (pv 1))))))) as_nil)
    (as_cons (as_sub (ae_mod (ae_int1 rfl B.m_int (aa_cons (ae_add (ae_mulT (ae_ix (ae_var (pv 0)) ae_int) ae_int) ae_int) aa_nil)) ae_int) (ae_var (pv 0)) ae_int)
    (as_one (as_ret (ae_mod (ae_int1 rfl B.m_int (aa_cons (ae_div (ae_ix (ae_var (pv 0)) ae_int) ae_int) aa_nil)) (ae_var (pv 1)))))))
/-! _law_of -/
abbrev s__law_of : Stmt := top 14
abbrev sc__law_ofN : List Str := ["well", "things"]
theorem sc__law_of : FnScope sc__law_ofN ["well", "things"] (defScope s__law_of) := ⟨rfl, rfl, rfl, by decide +kernel, rfl, by decide +kernel, by decide +kernel⟩
noncomputable def den__law_of : DS :=
  (sRet (dOp hIx (dV 1) (dCall 2 m__law_roll (dCons (dV 0) (dCons (dCB hLen (dCons (dV 1) dNil)) dNil)))))
noncomputable def m__law_of : List D → Sto → Res D := callJ [.L] false (pjOf (runB 2 (den__law_of)) [.L] false)
theorem ok__law_of {P : Program} {w : World} {K : PySem.W.Frag} {mg : Str → Option Value} {base : Heap} {f : Addr} {fd : FuncData} (F : Fun K "_law_of" "_law_of" s__law_of f fd) (B : Bu mg)
    (h__law_roll : Has CX0 P w K mg base "_law_roll" 1 ["well", "many"] (spD K 2 m__law_roll)) :
    FnOk P w K mg base CX0 2 f fd ["well", "things"] (spD K 2 (runB 2 (den__law_of))) :=
  ok_body (k := 1) F sc__law_of fun cdv A outer s H E hr =>
    (as_one (as_ret (ae_ix (ae_var (pv 1)) (ae_callD h__law_roll (hr.mono (by decide)) rfl (aa_cons (ae_var (pv 0)) (aa_cons (ae_len rfl B.m_len (aa_cons (ae_var (pv 1)) aa_nil)) aa_nil))))))
/-! _law_alike -/
abbrev s__law_alike : Stmt := top 15
abbrev sc__law_alikeN : List Str := ["told", "due", "rest", "one", "other", "k"]
theorem sc__law_alike : FnScope sc__law_alikeN ["told", "due"] (defScope s__law_alike) := ⟨rfl, rfl, rfl, by decide +kernel, rfl, by decide +kernel, by decide +kernel⟩
noncomputable def e1__law_alike : DE :=
  (dTup (dCons (dOp hIx (dV 3) (dV 5)) (dCons (dOp hIx (dV 4) (dV 5)) dNil)))
noncomputable def c2__law_alike : DB :=
  (dBl (dOp (hCmp fun i j => decide (j < i)) (dCB hLen (dCons (dV 2) dNil)) (dC (.int 0))))
noncomputable def b3__law_alike : DS :=
  (sSeq (sAsg (gT [3, 4]) (dMe0 hPop (dV 2)))
    (sIf (dOr (dBl (dOp hIsN (dV 3) (dC .non))) (dBl (dOp hIsN (dV 4) (dC .non)))) (sIf (dOr (dBl (dOp hNotN (dV 3) (dC .non))) (dBl (dOp hNotN (dV 4) (dC .non)))) (sRet (dC (.bl false))) sNx) (sIf (dOr (dTru (dCB hIsi1 (dCons (dV 3) (dCons (dC (.ty "bool")) dNil)))) (dTru (dCB hIsi1 (dCons (dV 4) (dCons (dC (.ty "bool")) dNil))))) (sIf (dOr (dNot (dTru (dCB hIsi1 (dCons (dV 3) (dCons (dC (.ty "bool")) dNil))))) (dOr (dNot (dTru (dCB hIsi1 (dCons (dV 4) (dCons (dC (.ty "bool")) dNil))))) (dBl (dOp hNe (dV 3) (dV 4))))) (sRet (dC (.bl false))) sNx) (sIf (dTru (dUn (hIsi2 "int" "str") (dV 4))) (sIf (dOr (dBl (dOp hNe (dCB hIsi1 (dCons (dV 4) (dCons (dC (.ty "int")) dNil))) (dCB hIsi1 (dCons (dV 3) (dCons (dC (.ty "int")) dNil))))) (dOr (dBl (dOp hNe (dCB hIsi1 (dCons (dV 4) (dCons (dC (.ty "str")) dNil))) (dCB hIsi1 (dCons (dV 3) (dCons (dC (.ty "str")) dNil))))) (dBl (dOp hNe (dV 3) (dV 4))))) (sRet (dC (.bl false))) sNx) (sSeq (sIf (dOr (dBl (dOp hNe (dCB hIsi1 (dCons (dV 4) (dCons (dC (.ty "tuple")) dNil))) (dCB hIsi1 (dCons (dV 3) (dCons (dC (.ty "tuple")) dNil))))) (dBl (dOp hNe (dCB hIsi1 (dCons (dV 4) (dCons (dC (.ty "list")) dNil))) (dCB hIsi1 (dCons (dV 3) (dCons (dC (.ty "list")) dNil)))))) (sRet (dC (.bl false))) sNx)
    (sSeq (sIf (dBl (dOp hNe (dCB hLen (dCons (dV 3) dNil)) (dCB hLen (dCons (dV 4) dNil)))) (sRet (dC (.bl false))) sNx)
    (sExpr (dMe hExt (dV 2) (dCons (dLc (dRng1 (dCons (dCB hLen (dCons (dV 4) dNil)) dNil)) (gN 5) dYes e1__law_alike [5]) dNil)))))))))
noncomputable def den__law_alike : DS :=
  (sSeq (sSet 2 (dLst (dCons (dTup (dCons (dV 0) (dCons (dV 1) dNil))) dNil)))
    (sSeq (sWhile fuel c2__law_alike b3__law_alike)
    (sRet (dC (.bl true)))))
noncomputable def m__law_alike : List D → Sto → Res D := callF [.P, .P] false (pfOf (runB 6 (den__law_alike)) [.P, .P] false)
theorem ok__law_alike {P : Program} {w : World} {K : PySem.W.Frag} {mg : Str → Option Value} {base : Heap} {f : Addr} {fd : FuncData} (F : Fun K "_law_alike" "_law_alike" s__law_alike f fd) (B : Bu mg) :
    FnOk P w K mg base CX0 1 f fd ["told", "due"] (spD K 2 (runB 6 (den__law_alike))) :=
  ok_body (k := 0) F sc__law_alike fun cdv A outer s H E hr =>
    (as_cons (as_set (i := 2) sc__law_alike.nd rfl (Or.inl rfl) (ae_lst (aa_cons (ae_tup (aa_cons (ae_var (pv 0)) (aa_cons (ae_var (pv 1)) aa_nil))) aa_nil)))
    (as_cons (as_while PassesOwn.never (at_gt (ae_len rfl B.m_len (aa_cons (ae_var (pv 2)) aa_nil)) ae_int) (as_cons (as_asg (ae_pop (ae_var (pv 2))) (ag_tup rfl (ags_cons (i := 3) sc__law_alike.nd rfl (Or.inr rfl) (ags_cons (i := 4) sc__law_alike.nd rfl (Or.inr rfl) ags_nil))))
    (as_one (as_if (at_w (aw_or (at_isN (ae_var (pv 3)) ae_non) (aw_or1 (at_isN (ae_var (pv 4)) ae_non)))) (as_one (as_if (at_w (aw_or (at_notN (ae_var (pv 3)) ae_non) (aw_or1 (at_notN (ae_var (pv 4)) ae_non)))) (as_one (as_ret ae_bl)) as_nil)) (as_one (as_if (at_w (aw_or (at_val (ae_isi rfl B.m_isinstance (aa_cons (ae_var (pv 3)) (aa_cons (ae_c (v := .ty "bool") rfl (pe_bltn rfl B.m_bool (by decide +kernel) rfl)) aa_nil)))) (aw_or1 (at_val (ae_isi rfl B.m_isinstance (aa_cons (ae_var (pv 4)) (aa_cons (ae_c (v := .ty "bool") rfl (pe_bltn rfl B.m_bool (by decide +kernel) rfl)) aa_nil))))))) (as_one (as_if (at_w (aw_or (at_not (at_val (ae_isi rfl B.m_isinstance (aa_cons (ae_var (pv 3)) (aa_cons (ae_c (v := .ty "bool") rfl (pe_bltn rfl B.m_bool (by decide +kernel) rfl)) aa_nil))))) (aw_or (at_not (at_val (ae_isi rfl B.m_isinstance (aa_cons (ae_var (pv 4)) (aa_cons (ae_c (v := .ty "bool") rfl (pe_bltn rfl B.m_bool (by decide +kernel) rfl)) aa_nil))))) (aw_or1 (at_ne hr.units (ae_var (pv 3)) (ae_var (pv 4))))))) (as_one (as_ret ae_bl)) as_nil)) (as_one (as_if (at_val (ae_isi2 rfl B.m_isinstance (ae_var (pv 4)) (pe_bltn rfl B.m_int (by decide +kernel) rfl) (pe_bltn rfl B.m_str (by decide +kernel) rfl))) (as_one (as_if (at_w (aw_or (at_ne hr.units (ae_isi rfl B.m_isinstance (aa_cons (ae_var (pv 4)) (aa_cons (ae_c (v := .ty "int") rfl (pe_bltn rfl B.m_int (by decide +kernel) rfl)) aa_nil))) (ae_isi rfl B.m_isinstance (aa_cons (ae_var (pv 3)) (aa_cons (ae_c (v := .ty "int") rfl (pe_bltn rfl B.m_int (by decide +kernel) rfl)) aa_nil)))) (aw_or (at_ne hr.units (ae_isi rfl B.m_isinstance (aa_cons (ae_var (pv 4)) (aa_cons (ae_c (v := .ty "str") rfl (pe_bltn rfl B.m_str (by decide +kernel) rfl)) aa_nil))) (ae_isi rfl B.m_isinstance (aa_cons (ae_var (pv 3)) (aa_cons (ae_c (v := .ty "str") rfl (pe_bltn rfl B.m_str (by decide +kernel) rfl)) aa_nil)))) (aw_or1 (at_ne hr.units (ae_var (pv 3)) (ae_var (pv 4))))))) (as_one (as_ret ae_bl)) as_nil)) (as_cons (as_if (at_w (aw_or (at_ne hr.units (ae_isi rfl B.m_isinstance (aa_cons (ae_var (pv 4)) (aa_cons (ae_c (v := .ty "tuple") rfl (pe_bltn rfl B.m_tuple (by decide +kernel) rfl)) aa_nil))) (ae_isi rfl B.m_isinstance (aa_cons (ae_var (pv 3)) (aa_cons (ae_c (v := .ty "tuple") rfl (pe_bltn rfl B.m_tuple (by decide +kernel) rfl)) aa_nil)))) (aw_or1 (at_ne hr.units (ae_isi rfl B.m_isinstance (aa_cons (ae_var (pv 4)) (aa_cons (ae_c (v := .ty "list") rfl (pe_bltn rfl B.m_list (by decide +kernel) rfl)) aa_nil))) (ae_isi rfl B.m_isinstance (aa_cons (ae_var (pv 3)) (aa_cons (ae_c (v := .ty "list") rfl (pe_bltn rfl B.m_list (by decide +kernel) rfl)) aa_nil))))))) (as_one (as_ret ae_bl)) as_nil)
    (as_cons (as_if (at_ne hr.units (ae_len rfl B.m_len (aa_cons (ae_var (pv 3)) aa_nil)) (ae_len rfl B.m_len (aa_cons (ae_var (pv 4)) aa_nil))) (as_one (as_ret ae_bl)) as_nil)
    (as_one (as_expr (ae_extend (ae_var (pv 2)) (aa_cons (ae_lcv [("k", 5)] rfl rfl sc__law_alike.nd (ai_range1 rfl B.m_range (aa_cons (ae_len rfl B.m_len (aa_cons (ae_var (pv 4)) aa_nil)) aa_nil)) (blkOk_by (own := [("k", 5)]) (N := sc__law_alikeN) (sc := defScope s__law_alike) (by decide +kernel)) (fun _ _ _ _ _ => pg_name (i := 5) sc__law_alike.nd rfl (Or.inl rfl)) (fun _ _ _ _ _ => pts_none) (fun _ _ _ _ _ => (ae_tup (aa_cons (ae_ix (ae_var (pv 3)) (ae_var (pv 5))) (aa_cons (ae_ix (ae_var (pv 4)) (ae_var (pv 5))) aa_nil)))) (agw_name (by decide))) aa_nil))))))))))))))
    (as_one (as_ret ae_bl))))
/-! _law_number -/
abbrev s__law_number : Stmt := top 16
abbrev sc__law_numberN : List Str := ["well"]
theorem sc__law_number : FnScope sc__law_numberN ["well"] (defScope s__law_number) := ⟨rfl, rfl, rfl, by decide +kernel, rfl, by decide +kernel, by decide +kernel⟩
noncomputable def den__law_number : DS :=
  (sRet (dOp hIx (dTup (dCons (dC (.int 0)) (dCons (dC (.int 1)) (dCons (dC (.int 2)) (dCons (dC (.int 3)) (dCons (dCall 2 m__law_roll (dCons (dV 0) (dCons (dC (.int 9)) dNil))) dNil)))))) (dCall 2 m__law_roll (dCons (dV 0) (dCons (dC (.int 5)) dNil)))))
noncomputable def m__law_number : List D → Sto → Res D := callJ [] false (pjOf (runB 1 (den__law_number)) [] false)
theorem ok__law_number {P : Program} {w : World} {K : PySem.W.Frag} {mg : Str → Option Value} {base : Heap} {f : Addr} {fd : FuncData} (F : Fun K "_law_number" "_law_number" s__law_number f fd) (B : Bu mg)
    (h__law_roll : Has CX0 P w K mg base "_law_roll" 1 ["well", "many"] (spD K 2 m__law_roll)) :
    FnOk P w K mg base CX0 2 f fd ["well"] (spD K 1 (runB 1 (den__law_number))) :=
  ok_body (k := 1) F sc__law_number fun cdv A outer s H E hr =>
    (as_one (as_ret (ae_ix (ae_tup (aa_cons ae_int (aa_cons ae_int (aa_cons ae_int (aa_cons ae_int (aa_cons (ae_callD h__law_roll (hr.mono (by decide)) rfl (aa_cons (ae_var (pv 0)) (aa_cons ae_int aa_nil))) aa_nil)))))) (ae_callD h__law_roll (hr.mono (by decide)) rfl (aa_cons (ae_var (pv 0)) (aa_cons ae_int aa_nil))))))
/-! _law_line -/
abbrev s__law_line : Stmt := top 17
abbrev sc__law_lineN : List Str := ["well", "at", "size", "throws", "kind", "x", "y", "to", "k"]
theorem sc__law_line : FnScope sc__law_lineN ["well", "at", "size", "throws"] (defScope s__law_line) := ⟨rfl, rfl, rfl, by decide +kernel, rfl, by decide +kernel, by decide +kernel⟩
noncomputable def e1__law_line : DE :=
  (dCall 1 m__law_number (dCons (dV 0) dNil))
noncomputable def den__law_line : DS :=
  (sSeq (sSet 4 (dCall 2 m__law_roll (dCons (dV 0) (dCons (dC (.int 9)) dNil))))
    (sSeq (sPar 5 6 (dCons (dCall 2 m__law_roll (dCons (dV 0) (dCons (dC (.int 3)) dNil))) (dCons (dCall 2 m__law_roll (dCons (dV 0) (dCons (dC (.int 3)) dNil))) dNil)))
    (sSeq (sIf (dBl (dOp (hCmp fun i j => decide (i < j)) (dV 4) (dC (.int 2)))) (sRet (dTup (dCons (dC (.str "throw")) (dCons (dV 5) dNil)))) sNx)
    (sSeq (sIf (dBl (dOp hEq (dV 4) (dC (.int 2)))) (sRet (dTup (dCons (dC (.str "set")) (dCons (dV 5) (dCons (dCall 1 m__law_number (dCons (dV 0) dNil)) dNil))))) sNx)
    (sSeq (sIf (dBl (dOp hEq (dV 4) (dC (.int 3)))) (sRet (dTup (dCons (dIfE (dAnd (dBl (dOp hEq (dCB hLen (dCons (dV 3) dNil)) (dC (.int 0)))) (dBl (dOp hEq (dCall 2 m__law_roll (dCons (dV 0) (dCons (dC (.int 2)) dNil))) (dC (.int 0))))) (dC (.str "times")) (dC (.str "add"))) (dCons (dV 5) (dCons (dV 6) dNil))))) sNx)
    (sSeq (sIf (dBl (dOp hEq (dV 4) (dC (.int 4)))) (sRet (dTup (dCons (dC (.str "take")) (dCons (dV 5) (dCons (dV 6) (dCons (dCB hTupOf (dCons (dLc (dRng1 (dCons (dOp hAdd (dC (.int 1)) (dCall 2 m__law_roll (dCons (dV 0) (dCons (dC (.int 3)) dNil)))) dNil)) (gN 8) dYes e1__law_line [8]) dNil)) dNil)))))) sNx)
    (sSeq (sSet 7 (dIfE (dAnd (dBl (dOp (hCmp fun i j => decide (j < i)) (dCB hLen (dCons (dV 3) dNil)) (dC (.int 0)))) (dBl (dOp hEq (dCall 2 m__law_roll (dCons (dV 0) (dCons (dC (.int 3)) dNil))) (dC (.int 0))))) (dOp hIx (dV 3) (dCall 2 m__law_roll (dCons (dV 0) (dCons (dCB hLen (dCons (dV 3) dNil)) dNil)))) (dOp hAdd (dOp hAdd (dV 1) (dC (.int 1))) (dCall 2 m__law_roll (dCons (dV 0) (dCons (dOp (hInt yes2 fun i j => i - j) (dOp (hInt yes2 fun i j => i - j) (dV 2) (dC (.int 1))) (dV 1)) dNil))))))
    (sSeq (sIf (dBl (dOp (hCmp fun i j => decide (i < j)) (dV 4) (dC (.int 8)))) (sRet (dTup (dCons (dC (.str "below")) (dCons (dV 5) (dCons (dCall 1 m__law_number (dCons (dV 0) dNil)) (dCons (dV 7) dNil)))))) sNx)
    (sRet (dTup (dCons (dC (.str "goto")) (dCons (dV 7) dNil))))))))))))
noncomputable def m__law_line : List D → Sto → Res D := callJ [.P, .P, .L] false (pjOf (runB 9 (den__law_line)) [.P, .P, .L] false)
theorem ok__law_line {P : Program} {w : World} {K : PySem.W.Frag} {mg : Str → Option Value} {base : Heap} {f : Addr} {fd : FuncData} (F : Fun K "_law_line" "_law_line" s__law_line f fd) (B : Bu mg)
    (h__law_roll : Has CX0 P w K mg base "_law_roll" 1 ["well", "many"] (spD K 2 m__law_roll))
    (h__law_number : Has CX0 P w K mg base "_law_number" 2 ["well"] (spD K 1 m__law_number)) :
    FnOk P w K mg base CX0 3 f fd ["well", "at", "size", "throws"] (spD K 4 (runB 9 (den__law_line))) :=
  ok_body (k := 2) F sc__law_line fun cdv A outer s H E hr =>
    (as_cons (as_set (i := 4) sc__law_line.nd rfl (Or.inl rfl) (ae_callD h__law_roll (hr.mono (by decide)) rfl (aa_cons (ae_var (pv 0)) (aa_cons ae_int aa_nil))))
    (as_cons (as_par (i := 5) (j := 6) rfl sc__law_line.nd rfl rfl (by decide) rfl rfl (aa_cons (ae_callD h__law_roll (hr.mono (by decide)) rfl (aa_cons (ae_var (pv 0)) (aa_cons ae_int aa_nil))) (aa_cons (ae_callD h__law_roll (hr.mono (by decide)) rfl (aa_cons (ae_var (pv 0)) (aa_cons ae_int aa_nil))) aa_nil)) rfl)
    (as_cons (as_if (at_lt (ae_var (pv 4)) ae_int) (as_one (as_ret (ae_tup (aa_cons ae_str (aa_cons (ae_var (pv 5)) aa_nil))))) as_nil)
    (as_cons (as_if (at_eq hr.units (ae_var (pv 4)) ae_int) (as_one (as_ret (ae_tup (aa_cons ae_str (aa_cons (ae_var (pv 5)) (aa_cons (ae_callD h__law_number (hr.mono (by decide)) rfl (aa_cons (ae_var (pv 0)) aa_nil)) aa_nil)))))) as_nil)
    (as_cons (as_if (at_eq hr.units (ae_var (pv 4)) ae_int) (as_one (as_ret (ae_tup (aa_cons (ae_if (at_w (aw_and (at_eq hr.units (ae_len rfl B.m_len (aa_cons (ae_var (pv 3)) aa_nil)) ae_int) (aw_and1 (at_eq hr.units (ae_callD h__law_roll (hr.mono (by decide)) rfl (aa_cons (ae_var (pv 0)) (aa_cons ae_int aa_nil))) ae_int)))) ae_str ae_str) (aa_cons (ae_var (pv 5)) (aa_cons (ae_var (pv 6)) aa_nil)))))) as_nil)
    (as_cons (as_if (at_eq hr.units (ae_var (pv 4)) ae_int) (as_one (as_ret (ae_tup (aa_cons ae_str (aa_cons (ae_var (pv 5)) (aa_cons (ae_var (pv 6)) (aa_cons (ae_tupOf rfl B.m_tuple (aa_cons (ae_lcv [("k", 8)] rfl rfl sc__law_line.nd (ai_range1 rfl B.m_range (aa_cons (ae_add ae_int (ae_callD h__law_roll (hr.mono (by decide)) rfl (aa_cons (ae_var (pv 0)) (aa_cons ae_int aa_nil)))) aa_nil)) (blkOk_by (own := [("k", 8)]) (N := sc__law_lineN) (sc := defScope s__law_line) (by decide +kernel)) (fun _ _ _ _ _ => pg_name (i := 8) sc__law_line.nd rfl (Or.inl rfl)) (fun _ _ _ _ _ => pts_none) (fun _ _ _ _ _ => (ae_callD h__law_number (hr.mono (by decide)) rfl (aa_cons (ae_var (pv 0)) aa_nil))) (agw_name (by decide))) aa_nil)) aa_nil))))))) as_nil)
    (as_cons (as_set (i := 7) sc__law_line.nd rfl (Or.inl rfl) (ae_if (at_w (aw_and (at_gt (ae_len rfl B.m_len (aa_cons (ae_var (pv 3)) aa_nil)) ae_int) (aw_and1 (at_eq hr.units (ae_callD h__law_roll (hr.mono (by decide)) rfl (aa_cons (ae_var (pv 0)) (aa_cons ae_int aa_nil))) ae_int)))) (ae_ix (ae_var (pv 3)) (ae_callD h__law_roll (hr.mono (by decide)) rfl (aa_cons (ae_var (pv 0)) (aa_cons (ae_len rfl B.m_len (aa_cons (ae_var (pv 3)) aa_nil)) aa_nil)))) (ae_add (ae_add (ae_var (pv 1)) ae_int) (ae_callD h__law_roll (hr.mono (by decide)) rfl (aa_cons (ae_var (pv 0)) (aa_cons (ae_sub (ae_sub (ae_var (pv 2)) ae_int) (ae_var (pv 1))) aa_nil))))))
    (as_cons (as_if (at_lt (ae_var (pv 4)) ae_int) (as_one (as_ret (ae_tup (aa_cons ae_str (aa_cons (ae_var (pv 5)) (aa_cons (ae_callD h__law_number (hr.mono (by decide)) rfl (aa_cons (ae_var (pv 0)) aa_nil)) (aa_cons (ae_var (pv 7)) aa_nil))))))) as_nil)
    (as_one (as_ret (ae_tup (aa_cons ae_str (aa_cons (ae_var (pv 7)) aa_nil)))))))))))))
/-! _law_drawn -/
abbrev s__law_drawn : Stmt := top 18
abbrev sc__law_drawnN : List Str := ["well", "outcomes", "size", "code", "throws", "at", "line"]
theorem sc__law_drawn : FnScope sc__law_drawnN ["well", "outcomes"] (defScope s__law_drawn) := ⟨rfl, rfl, rfl, by decide +kernel, rfl, by decide +kernel, by decide +kernel⟩
noncomputable def b1__law_drawn : DS :=
  (sSeq (sSet 6 (dIfE (dBl (dOp (hCmp fun i j => decide (j < i)) (dCall 2 m__law_roll (dCons (dV 0) (dCons (dC (.int 6)) dNil))) (dC (.int 0)))) (dCall 4 m__law_line (dCons (dV 0) (dCons (dV 5) (dCons (dV 2) (dCons (dV 4) dNil))))) (dTup (dCons (dC (.str "end")) (dCons (dCall 2 m__law_roll (dCons (dV 0) (dCons (dV 1) dNil))) dNil)))))
    (sSeq (sExpr (dMe hExt (dV 4) (dCons (dOp hMulT (dLst (dCons (dV 5) dNil)) (dCB hInt1 (dCons (dOp hEq (dOp hIx (dV 6) (dC (.int 0))) (dC (.str "throw"))) dNil))) dNil)))
    (sExpr (dMe hApp (dV 3) (dCons (dV 6) dNil)))))
noncomputable def den__law_drawn : DS :=
  (sSeq (sSet 2 (dOp hAdd (dC (.int 2)) (dCall 2 m__law_roll (dCons (dV 0) (dCons (dC (.int 8)) dNil)))))
    (sSeq (sPar 3 4 (dCons (dLst dNil) (dCons (dLst dNil) dNil)))
    (sSeq (sFor (dRng1 (dCons (dOp (hInt yes2 fun i j => i - j) (dV 2) (dC (.int 1))) dNil)) (gN 5) b1__law_drawn)
    (sSeq (sIf (dAnd (dBl (dOp (hCmp fun i j => decide (j < i)) (dCB hLen (dCons (dV 4) dNil)) (dC (.int 0)))) (dBl (dOp hEq (dCall 2 m__law_roll (dCons (dV 0) (dCons (dC (.int 4)) dNil))) (dC (.int 0))))) (sRet (dCB hTupOf (dCons (dOp hAdd (dV 3) (dLst (dCons (dTup (dCons (dC (.str "goto")) (dCons (dCall 2 m__law_of (dCons (dV 0) (dCons (dV 4) dNil))) dNil))) dNil))) dNil))) sNx)
    (sRet (dCB hTupOf (dCons (dOp hAdd (dV 3) (dLst (dCons (dTup (dCons (dC (.str "end")) (dCons (dCall 2 m__law_roll (dCons (dV 0) (dCons (dV 1) dNil))) dNil))) dNil))) dNil)))))))
noncomputable def m__law_drawn : List D → Sto → Res D := callJ [.P] false (pjOf (runB 7 (den__law_drawn)) [.P] false)
theorem ok__law_drawn {P : Program} {w : World} {K : PySem.W.Frag} {mg : Str → Option Value} {base : Heap} {f : Addr} {fd : FuncData} (F : Fun K "_law_drawn" "_law_drawn" s__law_drawn f fd) (B : Bu mg)
    (h__law_roll : Has CX0 P w K mg base "_law_roll" 1 ["well", "many"] (spD K 2 m__law_roll))
    (h__law_line : Has CX0 P w K mg base "_law_line" 3 ["well", "at", "size", "throws"] (spD K 4 m__law_line))
    (h__law_of : Has CX0 P w K mg base "_law_of" 2 ["well", "things"] (spD K 2 m__law_of)) :
    FnOk P w K mg base CX0 4 f fd ["well", "outcomes"] (spD K 2 (runB 7 (den__law_drawn))) :=
  ok_body (k := 3) F sc__law_drawn fun cdv A outer s H E hr =>
    (as_cons (as_set (i := 2) sc__law_drawn.nd rfl (Or.inl rfl) (ae_add ae_int (ae_callD h__law_roll (hr.mono (by decide)) rfl (aa_cons (ae_var (pv 0)) (aa_cons ae_int aa_nil)))))
    (as_cons (as_par (i := 3) (j := 4) rfl sc__law_drawn.nd rfl rfl (by decide) rfl rfl (aa_cons (ae_lst aa_nil) (aa_cons (ae_lst aa_nil) aa_nil)) rfl)
    (as_cons (as_for PassesOwn.never rfl (ai_range1 rfl B.m_range (aa_cons (ae_sub (ae_var (pv 2)) ae_int) aa_nil)) (ag_name (i := 5) sc__law_drawn.nd rfl (Or.inl rfl)) (as_cons (as_set (i := 6) sc__law_drawn.nd rfl (Or.inl rfl) (ae_if (at_gt (ae_callD h__law_roll (hr.mono (by decide)) rfl (aa_cons (ae_var (pv 0)) (aa_cons ae_int aa_nil))) ae_int) (ae_callD h__law_line (hr.mono (by decide)) rfl (aa_cons (ae_var (pv 0)) (aa_cons (ae_var (pv 5)) (aa_cons (ae_var (pv 2)) (aa_cons (ae_var (pv 4)) aa_nil))))) (ae_tup (aa_cons ae_str (aa_cons (ae_callD h__law_roll (hr.mono (by decide)) rfl (aa_cons (ae_var (pv 0)) (aa_cons (ae_var (pv 1)) aa_nil))) aa_nil)))))
    (as_cons (as_expr (ae_extend (ae_var (pv 4)) (aa_cons (ae_mulT (ae_lst (aa_cons (ae_var (pv 5)) aa_nil)) (ae_int1 rfl B.m_int (aa_cons (ae_eq hr.units (ae_ix (ae_var (pv 6)) ae_int) ae_str) aa_nil))) aa_nil)))
    (as_one (as_expr (ae_append (ae_var (pv 3)) (aa_cons (ae_var (pv 6)) aa_nil)))))))
    (as_cons (as_if (at_w (aw_and (at_gt (ae_len rfl B.m_len (aa_cons (ae_var (pv 4)) aa_nil)) ae_int) (aw_and1 (at_eq hr.units (ae_callD h__law_roll (hr.mono (by decide)) rfl (aa_cons (ae_var (pv 0)) (aa_cons ae_int aa_nil))) ae_int)))) (as_one (as_ret (ae_tupOf rfl B.m_tuple (aa_cons (ae_add (ae_var (pv 3)) (ae_lst (aa_cons (ae_tup (aa_cons ae_str (aa_cons (ae_callD h__law_of (hr.mono (by decide)) rfl (aa_cons (ae_var (pv 0)) (aa_cons (ae_var (pv 4)) aa_nil))) aa_nil))) aa_nil))) aa_nil)))) as_nil)
    (as_one (as_ret (ae_tupOf rfl B.m_tuple (aa_cons (ae_add (ae_var (pv 3)) (ae_lst (aa_cons (ae_tup (aa_cons ae_str (aa_cons (ae_callD h__law_roll (hr.mono (by decide)) rfl (aa_cons (ae_var (pv 0)) (aa_cons (ae_var (pv 1)) aa_nil))) aa_nil))) aa_nil))) aa_nil))))))))
/-! _law_done -/
abbrev s__law_done : Stmt := top 19
abbrev sc__law_doneN : List Str := ["code", "at", "registers", "lap", "line"]
theorem sc__law_done : FnScope sc__law_doneN ["code", "at", "registers"] (defScope s__law_done) := ⟨rfl, rfl, rfl, by decide +kernel, rfl, by decide +kernel, by decide +kernel⟩
noncomputable def b1__law_done : DS :=
  (sSeq (sSet 4 (dOp hIx (dV 0) (dV 1)))
    (sSeq (sIf (dBl (dOp (hIn false) (dOp hIx (dV 4) (dC (.int 0))) (dTup (dCons (dC (.str "throw")) (dCons (dC (.str "end")) dNil))))) (sRet (dTup (dCons (dOp hIx (dV 4) (dC (.int 0))) (dCons (dIfE (dBl (dOp hEq (dOp hIx (dV 4) (dC (.int 0))) (dC (.str "throw")))) (dV 1) (dOp hIx (dV 4) (dC (.int 1)))) (dCons (dCB hTupOf (dCons (dV 2) dNil)) dNil))))) sNx)
    (sSeq (sAug 1 (hInt yes2 fun i j => i + j) (dC (.int 1)))
    (sIf (dBl (dOp hEq (dOp hIx (dV 4) (dC (.int 0))) (dC (.str "set")))) (sSub (dV 2) (dOp hIx (dV 4) (dC (.int 1))) (dOp hIx (dV 4) (dC (.int 2)))) (sIf (dBl (dOp hEq (dOp hIx (dV 4) (dC (.int 0))) (dC (.str "add")))) (sAugS (hInt yes2 fun i j => i + j) (dV 2) (dOp hIx (dV 4) (dC (.int 1))) (dOp hIx (dV 2) (dOp hIx (dV 4) (dC (.int 2))))) (sIf (dBl (dOp hEq (dOp hIx (dV 4) (dC (.int 0))) (dC (.str "times")))) (sSub (dV 2) (dOp hIx (dV 4) (dC (.int 1))) (dOp hMulT (dOp hIx (dV 2) (dOp hIx (dV 4) (dC (.int 1)))) (dOp hIx (dV 2) (dOp hIx (dV 4) (dC (.int 2)))))) (sIf (dBl (dOp hEq (dOp hIx (dV 4) (dC (.int 0))) (dC (.str "take")))) (sSub (dV 2) (dOp hIx (dV 4) (dC (.int 1))) (dOp hIx (dOp hIx (dV 4) (dC (.int 3))) (dCB hMin2 (dCons (dOp hIx (dV 2) (dOp hIx (dV 4) (dC (.int 2)))) (dCons (dOp (hInt yes2 fun i j => i - j) (dCB hLen (dCons (dOp hIx (dV 4) (dC (.int 3))) dNil)) (dC (.int 1))) dNil))))) (sIf (dBl (dOp hEq (dOp hIx (dV 4) (dC (.int 0))) (dC (.str "goto")))) (sSet 1 (dOp hIx (dV 4) (dC (.int 1)))) (sIf (dBl (dOp (hCmp fun i j => decide (i < j)) (dOp hIx (dV 2) (dOp hIx (dV 4) (dC (.int 1)))) (dOp hIx (dV 4) (dC (.int 2))))) (sSet 1 (dOp hIx (dV 4) (dC (.int 3)))) sNx)))))))))
noncomputable def den__law_done : DS :=
  (sSeq (sSet 2 (dCB hLstOf (dCons (dV 2) dNil)))
    (sSeq (sFor (dRng1 (dCons (dC (.int 5000)) dNil)) (gN 3) b1__law_done)
    (sRet (dC .non))))
noncomputable def m__law_done : List D → Sto → Res D := callF [.P, .P, .P] false (pfOf (runB 5 (den__law_done)) [.P, .P, .P] false)
noncomputable def m__law_doneL : List D → Sto → Res D := callF [.P, .P, .L] false (pfOf (runB 5 (den__law_done)) [.P, .P, .L] false)
theorem ok__law_done {P : Program} {w : World} {K : PySem.W.Frag} {mg : Str → Option Value} {base : Heap} {f : Addr} {fd : FuncData} (F : Fun K "_law_done" "_law_done" s__law_done f fd) (B : Bu mg) :
    FnOk P w K mg base CX0 1 f fd ["code", "at", "registers"] (spD K 3 (runB 5 (den__law_done))) :=
  ok_body (k := 0) F sc__law_done fun cdv A outer s H E hr =>
    (as_cons (as_set (i := 2) sc__law_done.nd rfl (Or.inl rfl) (ae_lstOf rfl B.m_list (aa_cons (ae_var (pv 2)) aa_nil)))
    (as_cons (as_for PassesOwn.never rfl (ai_range1 rfl B.m_range (aa_cons ae_int aa_nil)) (ag_name (i := 3) sc__law_done.nd rfl (Or.inl rfl)) (as_cons (as_set (i := 4) sc__law_done.nd rfl (Or.inl rfl) (ae_ix (ae_var (pv 0)) (ae_var (pv 1))))
    (as_cons (as_if (at_in (ae_ix (ae_var (pv 4)) ae_int) (ae_tup (aa_cons ae_str (aa_cons ae_str aa_nil)))) (as_one (as_ret (ae_tup (aa_cons (ae_ix (ae_var (pv 4)) ae_int) (aa_cons (ae_if (at_eq hr.units (ae_ix (ae_var (pv 4)) ae_int) ae_str) (ae_var (pv 1)) (ae_ix (ae_var (pv 4)) ae_int)) (aa_cons (ae_tupOf rfl B.m_tuple (aa_cons (ae_var (pv 2)) aa_nil)) aa_nil)))))) as_nil)
    (as_cons (as_aug (i := 1) sc__law_done.nd rfl (Or.inl rfl) (pip_of iop_add) hs_int0 ae_int)
    (as_one (as_if (at_eq hr.units (ae_ix (ae_var (pv 4)) ae_int) ae_str) (as_one (as_sub (ae_ix (ae_var (pv 4)) ae_int) (ae_var (pv 2)) (ae_ix (ae_var (pv 4)) ae_int))) (as_one (as_if (at_eq hr.units (ae_ix (ae_var (pv 4)) ae_int) ae_str) (as_one (as_augS (ae_var (pv 2)) (ae_ix (ae_var (pv 4)) ae_int) (ae_ix (ae_var (pv 2)) (ae_ix (ae_var (pv 4)) ae_int)) (pip_of iop_add) hs_int0)) (as_one (as_if (at_eq hr.units (ae_ix (ae_var (pv 4)) ae_int) ae_str) (as_one (as_sub (ae_mulT (ae_ix (ae_var (pv 2)) (ae_ix (ae_var (pv 4)) ae_int)) (ae_ix (ae_var (pv 2)) (ae_ix (ae_var (pv 4)) ae_int))) (ae_var (pv 2)) (ae_ix (ae_var (pv 4)) ae_int))) (as_one (as_if (at_eq hr.units (ae_ix (ae_var (pv 4)) ae_int) ae_str) (as_one (as_sub (ae_ix (ae_ix (ae_var (pv 4)) ae_int) (ae_min2 rfl rfl B.m_min (aa_cons (ae_ix (ae_var (pv 2)) (ae_ix (ae_var (pv 4)) ae_int)) (aa_cons (ae_sub (ae_len rfl B.m_len (aa_cons (ae_ix (ae_var (pv 4)) ae_int) aa_nil)) ae_int) aa_nil)))) (ae_var (pv 2)) (ae_ix (ae_var (pv 4)) ae_int))) (as_one (as_if (at_eq hr.units (ae_ix (ae_var (pv 4)) ae_int) ae_str) (as_one (as_set (i := 1) sc__law_done.nd rfl (Or.inl rfl) (ae_ix (ae_var (pv 4)) ae_int))) (as_one (as_if (at_lt (ae_ix (ae_var (pv 2)) (ae_ix (ae_var (pv 4)) ae_int)) (ae_ix (ae_var (pv 4)) ae_int)) (as_one (as_set (i := 1) sc__law_done.nd rfl (Or.inl rfl) (ae_ix (ae_var (pv 4)) ae_int))) as_nil))))))))))))))))
    (as_one (as_ret ae_non))))
/-! _law_thrown -/
abbrev s__law_thrown : Stmt := top 20
abbrev sc__law_thrownN : List Str := ["code", "state", "face", "registers"]
theorem sc__law_thrown : FnScope sc__law_thrownN ["code", "state", "face"] (defScope s__law_thrown) := ⟨rfl, rfl, rfl, by decide +kernel, rfl, by decide +kernel, by decide +kernel⟩
noncomputable def den__law_thrown : DS :=
  (sSeq (sSet 3 (dCB hLstOf (dCons (dOp hIx (dV 1) (dC (.int 2))) dNil)))
    (sSeq (sSub (dV 3) (dOp hIx (dOp hIx (dV 0) (dOp hIx (dV 1) (dC (.int 1)))) (dC (.int 1))) (dV 2))
    (sRet (dCall 3 m__law_doneL (dCons (dV 0) (dCons (dOp hAdd (dOp hIx (dV 1) (dC (.int 1))) (dC (.int 1))) (dCons (dV 3) dNil)))))))
noncomputable def m__law_thrown : List D → Sto → Res D := callF [.P, .P, .P] false (pfOf (runB 4 (den__law_thrown)) [.P, .P, .P] false)
theorem ok__law_thrown {P : Program} {w : World} {K : PySem.W.Frag} {mg : Str → Option Value} {base : Heap} {f : Addr} {fd : FuncData} (F : Fun K "_law_thrown" "_law_thrown" s__law_thrown f fd) (B : Bu mg)
    (h__law_doneL : Has CX0 P w K mg base "_law_done" 1 ["code", "at", "registers"] (spD K 3 m__law_doneL)) :
    FnOk P w K mg base CX0 2 f fd ["code", "state", "face"] (spD K 3 (runB 4 (den__law_thrown))) :=
  ok_body (k := 1) F sc__law_thrown fun cdv A outer s H E hr =>
    (as_cons (as_set (i := 3) sc__law_thrown.nd rfl (Or.inl rfl) (ae_lstOf rfl B.m_list (aa_cons (ae_ix (ae_var (pv 1)) ae_int) aa_nil)))
    (as_cons (as_sub (ae_var (pv 2)) (ae_var (pv 3)) (ae_ix (ae_ix (ae_var (pv 0)) (ae_ix (ae_var (pv 1)) ae_int)) ae_int))
    (as_one (as_ret (ae_callD h__law_doneL (hr.mono (by decide)) rfl (aa_cons (ae_var (pv 0)) (aa_cons (ae_add (ae_ix (ae_var (pv 1)) ae_int) ae_int) (aa_cons (ae_var (pv 3)) aa_nil))))))))
/-! _law_run -/
abbrev s__law_run : Stmt := top 21
abbrev sc__law_runN : List Str := ["code", "faces", "state", "used"]
theorem sc__law_run : FnScope sc__law_runN ["code", "faces"] (defScope s__law_run) := ⟨rfl, rfl, rfl, by decide +kernel, rfl, by decide +kernel, by decide +kernel⟩
noncomputable def c1__law_run : DB :=
  (dAnd (dBl (dOp hNotN (dV 2) (dC .non))) (dBl (dOp hEq (dOp hIx (dV 2) (dC (.int 0))) (dC (.str "throw")))))
noncomputable def b2__law_run : DS :=
  (sSeq (sIf (dBl (dOp hEq (dV 3) (dCB hLen (dCons (dV 1) dNil)))) (sRet (dC .non)) sNx)
    (sSeq (sSet 2 (dCall 3 m__law_thrown (dCons (dV 0) (dCons (dV 2) (dCons (dOp hIx (dV 1) (dV 3)) dNil)))))
    (sAug 3 (hInt yes2 fun i j => i + j) (dC (.int 1)))))
noncomputable def den__law_run : DS :=
  (sSeq (sSet 2 (dCall 3 m__law_done (dCons (dV 0) (dCons (dC (.int 0)) (dCons (dOp hMulT (dTup (dCons (dC (.int 0)) dNil)) (dC (.int 10))) dNil)))))
    (sSeq (sSet 3 (dC (.int 0)))
    (sSeq (sWhile fuel c1__law_run b2__law_run)
    (sRet (dIfE (dBl (dOp hIsN (dV 2) (dC .non))) (dC .non) (dTup (dCons (dOp hIx (dV 2) (dC (.int 1))) (dCons (dV 3) dNil))))))))
noncomputable def m__law_run : List D → Sto → Res D := callF [.P, .P] false (pfOf (runB 4 (den__law_run)) [.P, .P] false)
theorem ok__law_run {P : Program} {w : World} {K : PySem.W.Frag} {mg : Str → Option Value} {base : Heap} {f : Addr} {fd : FuncData} (F : Fun K "_law_run" "_law_run" s__law_run f fd) (B : Bu mg)
    (h__law_done : Has CX0 P w K mg base "_law_done" 1 ["code", "at", "registers"] (spD K 3 m__law_done))
    (h__law_thrown : Has CX0 P w K mg base "_law_thrown" 2 ["code", "state", "face"] (spD K 3 m__law_thrown)) :
    FnOk P w K mg base CX0 3 f fd ["code", "faces"] (spD K 2 (runB 4 (den__law_run))) :=
  ok_body (k := 2) F sc__law_run fun cdv A outer s H E hr =>
    (as_cons (as_set (i := 2) sc__law_run.nd rfl (Or.inl rfl) (ae_callD h__law_done (hr.mono (by decide)) rfl (aa_cons (ae_var (pv 0)) (aa_cons ae_int (aa_cons (ae_mulT (ae_tup (aa_cons ae_int aa_nil)) ae_int) aa_nil)))))
    (as_cons (as_set (i := 3) sc__law_run.nd rfl (Or.inl rfl) ae_int)
    (as_cons (as_while PassesOwn.never (at_w (aw_and (at_notN (ae_var (pv 2)) ae_non) (aw_and1 (at_eq hr.units (ae_ix (ae_var (pv 2)) ae_int) ae_str)))) (as_cons (as_if (at_eq hr.units (ae_var (pv 3)) (ae_len rfl B.m_len (aa_cons (ae_var (pv 1)) aa_nil))) (as_one (as_ret ae_non)) as_nil)
    (as_cons (as_set (i := 2) sc__law_run.nd rfl (Or.inl rfl) (ae_callD h__law_thrown (hr.mono (by decide)) rfl (aa_cons (ae_var (pv 0)) (aa_cons (ae_var (pv 2)) (aa_cons (ae_ix (ae_var (pv 1)) (ae_var (pv 3))) aa_nil)))))
    (as_one (as_aug (i := 3) sc__law_run.nd rfl (Or.inl rfl) (pip_of iop_add) hs_int0 ae_int)))))
    (as_one (as_ret (ae_if (at_isN (ae_var (pv 2)) ae_non) ae_non (ae_tup (aa_cons (ae_ix (ae_var (pv 2)) ae_int) (aa_cons (ae_var (pv 3)) aa_nil)))))))))
/-! _law_forms -/
abbrev s__law_forms : Stmt := top 22
abbrev sc__law_formsN : List Str := ["line", "size", "many", "numbers", "number", "places", "k"]
theorem sc__law_forms : FnScope sc__law_formsN ["line", "size"] (defScope s__law_forms) := ⟨rfl, rfl, rfl, by decide +kernel, rfl, by decide +kernel, by decide +kernel⟩
noncomputable def b1__law_forms : DS :=
  (sIf (dOr (dNot (dTru (dCB hIsi1 (dCons (dV 4) (dCons (dC (.ty "int")) dNil))))) (dOr (dTru (dCB hIsi1 (dCons (dV 4) (dCons (dC (.ty "bool")) dNil)))) (dBl (dOp (hCmp fun i j => decide (i < j)) (dV 4) (dC (.int 0)))))) (sRet (dC (.bl false))) sNx)
noncomputable def b2__law_forms : DS :=
  (sIf (dBl (dOp (hCmp fun i j => decide (j < i)) (dOp hIx (dV 0) (dOp hAdd (dC (.int 1)) (dV 6))) (dC (.int 9)))) (sRet (dC (.bl false))) sNx)
noncomputable def den__law_forms : DS :=
  (sSeq (sIf (dOr (dNot (dTru (dCB hIsi1 (dCons (dV 0) (dCons (dC (.ty "tuple")) dNil))))) (dOr (dBl (dOp hEq (dCB hLen (dCons (dV 0) dNil)) (dC (.int 0)))) (dNot (dTru (dCB hIsi1 (dCons (dOp hIx (dV 0) (dC (.int 0))) (dCons (dC (.ty "str")) dNil))))))) (sRet (dC (.bl false))) sNx)
    (sSeq (sSet 2 (dDct [("throw", 2), ("set", 3), ("add", 3), ("times", 3), ("take", 4), ("below", 4), ("goto", 2), ("end", 2)]))
    (sSeq (sIf (dOr (dBl (dOp (hDIn true) (dOp hIx (dV 0) (dC (.int 0))) (dV 2))) (dBl (dOp hNe (dCB hLen (dCons (dV 0) dNil)) (dOp hDGet (dV 2) (dOp hIx (dV 0) (dC (.int 0))))))) (sRet (dC (.bl false))) sNx)
    (sSeq (sSet 3 (dIfE (dBl (dOp hEq (dOp hIx (dV 0) (dC (.int 0))) (dC (.str "take")))) (dCB hLstOf (dCons (dSl (dV 0) (dOSome (dC (.int 1))) (dOSome (dC (.int 3)))) dNil)) (dCB hLstOf (dCons (dSl (dV 0) (dOSome (dC (.int 1))) dONone) dNil))))
    (sSeq (sIf (dBl (dOp hEq (dOp hIx (dV 0) (dC (.int 0))) (dC (.str "take")))) (sSeq (sIf (dOr (dNot (dTru (dCB hIsi1 (dCons (dOp hIx (dV 0) (dC (.int 3))) (dCons (dC (.ty "tuple")) dNil))))) (dNot (dBl (dChain (hCmp fun i j => decide (i < j)) (hCmp fun i j => decide (i ≤ j)) (dC (.int 0)) (dCB hLen (dCons (dOp hIx (dV 0) (dC (.int 3))) dNil)) (dC (.int 400)))))) (sRet (dC (.bl false))) sNx)
    (sExpr (dMe hExt (dV 3) (dCons (dOp hIx (dV 0) (dC (.int 3))) dNil)))) sNx)
    (sSeq (sFor (dIt (dV 3)) (gN 4) b1__law_forms)
    (sSeq (sSet 5 (dDct [("throw", 1), ("set", 1), ("add", 2), ("times", 2), ("take", 2), ("below", 1)]))
    (sSeq (sFor (dRng1 (dCons (dIfE (dBl (dOp (hDIn false) (dOp hIx (dV 0) (dC (.int 0))) (dV 5))) (dOp hDGet (dV 5) (dOp hIx (dV 0) (dC (.int 0)))) (dC (.int 0))) dNil)) (gN 6) b2__law_forms)
    (sRet (dOrV (dOp (hIn true) (dOp hIx (dV 0) (dC (.int 0))) (dTup (dCons (dC (.str "goto")) (dCons (dC (.str "below")) dNil)))) (dOp (hCmp fun i j => decide (i < j)) (dOp hIx (dV 0) (dUn hNeg (dC (.int 1)))) (dV 1))))))))))))
noncomputable def m__law_forms : List D → Sto → Res D := callF [.P, .P] false (pfOf (runB 7 (den__law_forms)) [.P, .P] false)
theorem ok__law_forms {P : Program} {w : World} {K : PySem.W.Frag} {mg : Str → Option Value} {base : Heap} {f : Addr} {fd : FuncData} (F : Fun K "_law_forms" "_law_forms" s__law_forms f fd) (B : Bu mg) :
    FnOk P w K mg base CX0 1 f fd ["line", "size"] (spD K 2 (runB 7 (den__law_forms))) :=
  ok_body (k := 0) F sc__law_forms fun cdv A outer s H E hr =>
    (as_cons (as_if (at_w (aw_or (at_not (at_val (ae_isi rfl B.m_isinstance (aa_cons (ae_var (pv 0)) (aa_cons (ae_c (v := .ty "tuple") rfl (pe_bltn rfl B.m_tuple (by decide +kernel) rfl)) aa_nil))))) (aw_or (at_eq hr.units (ae_len rfl B.m_len (aa_cons (ae_var (pv 0)) aa_nil)) ae_int) (aw_or1 (at_not (at_val (ae_isi rfl B.m_isinstance (aa_cons (ae_ix (ae_var (pv 0)) ae_int) (aa_cons (ae_c (v := .ty "str") rfl (pe_bltn rfl B.m_str (by decide +kernel) rfl)) aa_nil))))))))) (as_one (as_ret ae_bl)) as_nil)
    (as_cons (as_set (i := 2) sc__law_forms.nd rfl (Or.inl rfl) (ae_dct (cs := [("throw", 2), ("set", 3), ("add", 3), ("times", 3), ("take", 4), ("below", 4), ("goto", 2), ("end", 2)]) (pe_disp (pps_cons pe_str pe_int (pps_cons pe_str pe_int (pps_cons pe_str pe_int (pps_cons pe_str pe_int (pps_cons pe_str pe_int (pps_cons pe_str pe_int (pps_cons pe_str pe_int (pps_cons pe_str pe_int pps_nil)))))))) rfl rfl (by simp) (by decide)) (by decide +kernel) (by decide)))
    (as_cons (as_if (at_w (aw_or (at_dnotin hr.units1 (ae_ix (ae_var (pv 0)) ae_int) (ae_var (pv 2))) (aw_or1 (at_ne hr.units (ae_len rfl B.m_len (aa_cons (ae_var (pv 0)) aa_nil)) (ae_dget hr.units1 (ae_var (pv 2)) (ae_ix (ae_var (pv 0)) ae_int)))))) (as_one (as_ret ae_bl)) as_nil)
    (as_cons (as_set (i := 3) sc__law_forms.nd rfl (Or.inl rfl) (ae_if (at_eq hr.units (ae_ix (ae_var (pv 0)) ae_int) ae_str) (ae_lstOf rfl B.m_list (aa_cons (ae_sl (ae_var (pv 0)) (ao_some ae_int) (ao_some ae_int)) aa_nil)) (ae_lstOf rfl B.m_list (aa_cons (ae_sl (ae_var (pv 0)) (ao_some ae_int) ao_none) aa_nil))))
    (as_cons (as_if (at_eq hr.units (ae_ix (ae_var (pv 0)) ae_int) ae_str) (as_cons (as_if (at_w (aw_or (at_not (at_val (ae_isi rfl B.m_isinstance (aa_cons (ae_ix (ae_var (pv 0)) ae_int) (aa_cons (ae_c (v := .ty "tuple") rfl (pe_bltn rfl B.m_tuple (by decide +kernel) rfl)) aa_nil))))) (aw_or1 (at_not (at_chain op_lt op_le hs_cmp hs_cmp ae_int (ae_len rfl B.m_len (aa_cons (ae_ix (ae_var (pv 0)) ae_int) aa_nil)) ae_int))))) (as_one (as_ret ae_bl)) as_nil)
    (as_one (as_expr (ae_extend (ae_var (pv 3)) (aa_cons (ae_ix (ae_var (pv 0)) ae_int) aa_nil))))) as_nil)
    (as_cons (as_for PassesOwn.never rfl (ai_of (ae_var (pv 3))) (ag_name (i := 4) sc__law_forms.nd rfl (Or.inl rfl)) (as_one (as_if (at_w (aw_or (at_not (at_val (ae_isi rfl B.m_isinstance (aa_cons (ae_var (pv 4)) (aa_cons (ae_c (v := .ty "int") rfl (pe_bltn rfl B.m_int (by decide +kernel) rfl)) aa_nil))))) (aw_or (at_val (ae_isi rfl B.m_isinstance (aa_cons (ae_var (pv 4)) (aa_cons (ae_c (v := .ty "bool") rfl (pe_bltn rfl B.m_bool (by decide +kernel) rfl)) aa_nil)))) (aw_or1 (at_lt (ae_var (pv 4)) ae_int))))) (as_one (as_ret ae_bl)) as_nil)))
    (as_cons (as_set (i := 5) sc__law_forms.nd rfl (Or.inl rfl) (ae_dct (cs := [("throw", 1), ("set", 1), ("add", 2), ("times", 2), ("take", 2), ("below", 1)]) (pe_disp (pps_cons pe_str pe_int (pps_cons pe_str pe_int (pps_cons pe_str pe_int (pps_cons pe_str pe_int (pps_cons pe_str pe_int (pps_cons pe_str pe_int pps_nil)))))) rfl rfl (by simp) (by decide)) (by decide +kernel) (by decide)))
    (as_cons (as_for PassesOwn.never rfl (ai_range1 rfl B.m_range (aa_cons (ae_if (at_din hr.units1 (ae_ix (ae_var (pv 0)) ae_int) (ae_var (pv 5))) (ae_dget hr.units1 (ae_var (pv 5)) (ae_ix (ae_var (pv 0)) ae_int)) ae_int) aa_nil)) (ag_name (i := 6) sc__law_forms.nd rfl (Or.inl rfl)) (as_one (as_if (at_gt (ae_ix (ae_var (pv 0)) (ae_add ae_int (ae_var (pv 6)))) ae_int) (as_one (as_ret ae_bl)) as_nil)))
    (as_one (as_ret (ae_or (ae_notIn (ae_ix (ae_var (pv 0)) ae_int) (ae_tup (aa_cons ae_str (aa_cons ae_str aa_nil)))) (ae_one (ae_lt (ae_ix (ae_var (pv 0)) (ae_neg ae_int)) (ae_var (pv 1)))))))))))))))
/-! _law_on -/
abbrev s__law_on : Stmt := top 24
abbrev sc__law_onN : List Str := ["code", "at", "word"]
theorem sc__law_on : FnScope sc__law_onN ["code", "at"] (defScope s__law_on) := ⟨rfl, rfl, rfl, by decide +kernel, rfl, by decide +kernel, by decide +kernel⟩
noncomputable def den__law_on : DS :=
  (sSeq (sSet 2 (dOp hIx (dOp hIx (dV 0) (dV 1)) (dC (.int 0))))
    (sSeq (sIf (dBl (dOp (hIn false) (dV 2) (dTup (dCons (dC (.str "throw")) (dCons (dC (.str "end")) dNil))))) (sRet (dLst dNil)) sNx)
    (sSeq (sIf (dBl (dOp hEq (dV 2) (dC (.str "goto")))) (sRet (dLst (dCons (dOp hIx (dOp hIx (dV 0) (dV 1)) (dC (.int 1))) dNil))) sNx)
    (sRet (dIfE (dBl (dOp hEq (dV 2) (dC (.str "below")))) (dLst (dCons (dOp hAdd (dV 1) (dC (.int 1))) (dCons (dOp hIx (dOp hIx (dV 0) (dV 1)) (dC (.int 3))) dNil))) (dLst (dCons (dOp hAdd (dV 1) (dC (.int 1))) dNil)))))))
noncomputable def m__law_on : List D → Sto → Res D := callF [.P, .P] true (pfOf (runB 3 (den__law_on)) [.P, .P] true)
theorem ok__law_on {P : Program} {w : World} {K : PySem.W.Frag} {mg : Str → Option Value} {base : Heap} {f : Addr} {fd : FuncData} (F : Fun K "_law_on" "_law_on" s__law_on f fd) (B : Bu mg) :
    FnOk P w K mg base CX0 1 f fd ["code", "at"] (spD K 2 (runB 3 (den__law_on))) :=
  ok_body (k := 0) F sc__law_on fun cdv A outer s H E hr =>
    (as_cons (as_set (i := 2) sc__law_on.nd rfl (Or.inl rfl) (ae_ix (ae_ix (ae_var (pv 0)) (ae_var (pv 1))) ae_int))
    (as_cons (as_if (at_in (ae_var (pv 2)) (ae_tup (aa_cons ae_str (aa_cons ae_str aa_nil)))) (as_one (as_ret (ae_lst aa_nil))) as_nil)
    (as_cons (as_if (at_eq hr.units (ae_var (pv 2)) ae_str) (as_one (as_ret (ae_lst (aa_cons (ae_ix (ae_ix (ae_var (pv 0)) (ae_var (pv 1))) ae_int) aa_nil)))) as_nil)
    (as_one (as_ret (ae_if (at_eq hr.units (ae_var (pv 2)) ae_str) (ae_lst (aa_cons (ae_add (ae_var (pv 1)) ae_int) (aa_cons (ae_ix (ae_ix (ae_var (pv 0)) (ae_var (pv 1))) ae_int) aa_nil))) (ae_lst (aa_cons (ae_add (ae_var (pv 1)) ae_int) aa_nil))))))))
/-! _law_sound -/
abbrev s__law_sound : Stmt := top 23
abbrev sc__law_soundN : List Str := ["code", "line", "marks", "begin", "queue", "at", "leaving", "to"]
theorem sc__law_sound : FnScope sc__law_soundN ["code"] (defScope s__law_sound) := ⟨rfl, rfl, rfl, by decide +kernel, rfl, by decide +kernel, by decide +kernel⟩
noncomputable def b1__law_sound : DS :=
  (sIf (dNot (dTru (dCall 2 m__law_forms (dCons (dV 1) (dCons (dCB hLen (dCons (dV 0) dNil)) dNil))))) (sRet (dC (.bl false))) sNx)
noncomputable def b2__law_sound : DS :=
  (sSeq (sIf (dBl (dOp hEq (dOp hIx (dV 2) (dV 7)) (dC (.int 1)))) (sRet (dC (.bl false))) sNx)
    (sExpr (dMe hApp (dV 4) (dCons (dTup (dCons (dV 7) (dCons (dC (.bl false)) dNil))) dNil))))
noncomputable def c3__law_sound : DB :=
  (dBl (dOp (hCmp fun i j => decide (j < i)) (dCB hLen (dCons (dV 4) dNil)) (dC (.int 0))))
noncomputable def b4__law_sound : DS :=
  (sSeq (sAsg (gT [5, 6]) (dMe0 hPop (dV 4)))
    (sIf (dTru (dV 6)) (sSub (dV 2) (dV 5) (dC (.int 2))) (sIf (dBl (dOp hEq (dOp hIx (dV 2) (dV 5)) (dC (.int 0)))) (sSeq (sSub (dV 2) (dV 5) (dC (.int 1)))
    (sSeq (sExpr (dMe hApp (dV 4) (dCons (dTup (dCons (dV 5) (dCons (dC (.bl true)) dNil))) dNil)))
    (sFor (dIt (dCall 2 m__law_on (dCons (dV 0) (dCons (dV 5) dNil)))) (gN 7) b2__law_sound))) sNx)))
noncomputable def b5__law_sound : DS :=
  (sSeq (sSet 4 (dLst (dCons (dTup (dCons (dV 3) (dCons (dC (.bl false)) dNil))) dNil)))
    (sWhile fuel c3__law_sound b4__law_sound))
noncomputable def den__law_sound : DS :=
  (sSeq (sIf (dOr (dNot (dTru (dCB hIsi1 (dCons (dV 0) (dCons (dC (.ty "tuple")) dNil))))) (dNot (dBl (dChain (hCmp fun i j => decide (i < j)) (hCmp fun i j => decide (i ≤ j)) (dC (.int 0)) (dCB hLen (dCons (dV 0) dNil)) (dC (.int 4000)))))) (sRet (dC (.bl false))) sNx)
    (sSeq (sFor (dIt (dV 0)) (gN 1) b1__law_sound)
    (sSeq (sIf (dBl (dOp (hIn true) (dOp hIx (dOp hIx (dV 0) (dUn hNeg (dC (.int 1)))) (dC (.int 0))) (dTup (dCons (dC (.str "goto")) (dCons (dC (.str "end")) dNil))))) (sRet (dC (.bl false))) sNx)
    (sSeq (sSet 2 (dOp hMulT (dLst (dCons (dC (.int 0)) dNil)) (dCB hLen (dCons (dV 0) dNil))))
    (sSeq (sFor (dRng1 (dCons (dCB hLen (dCons (dV 0) dNil)) dNil)) (gN 3) b5__law_sound)
    (sRet (dC (.bl true))))))))
noncomputable def m__law_sound : List D → Sto → Res D := callF [.P] false (pfOf (runB 8 (den__law_sound)) [.P] false)
theorem ok__law_sound {P : Program} {w : World} {K : PySem.W.Frag} {mg : Str → Option Value} {base : Heap} {f : Addr} {fd : FuncData} (F : Fun K "_law_sound" "_law_sound" s__law_sound f fd) (B : Bu mg)
    (h__law_forms : Has CX0 P w K mg base "_law_forms" 1 ["line", "size"] (spD K 2 m__law_forms))
    (h__law_on : Has CX0 P w K mg base "_law_on" 1 ["code", "at"] (spD K 2 m__law_on)) :
    FnOk P w K mg base CX0 2 f fd ["code"] (spD K 1 (runB 8 (den__law_sound))) :=
  ok_body (k := 1) F sc__law_sound fun cdv A outer s H E hr =>
    (as_cons (as_if (at_w (aw_or (at_not (at_val (ae_isi rfl B.m_isinstance (aa_cons (ae_var (pv 0)) (aa_cons (ae_c (v := .ty "tuple") rfl (pe_bltn rfl B.m_tuple (by decide +kernel) rfl)) aa_nil))))) (aw_or1 (at_not (at_chain op_lt op_le hs_cmp hs_cmp ae_int (ae_len rfl B.m_len (aa_cons (ae_var (pv 0)) aa_nil)) ae_int))))) (as_one (as_ret ae_bl)) as_nil)
    (as_cons (as_for PassesOwn.never rfl (ai_of (ae_var (pv 0))) (ag_name (i := 1) sc__law_sound.nd rfl (Or.inl rfl)) (as_one (as_if (at_not (at_val (ae_callD h__law_forms (hr.mono (by decide)) rfl (aa_cons (ae_var (pv 1)) (aa_cons (ae_len rfl B.m_len (aa_cons (ae_var (pv 0)) aa_nil)) aa_nil))))) (as_one (as_ret ae_bl)) as_nil)))
    (as_cons (as_if (at_notIn (ae_ix (ae_ix (ae_var (pv 0)) (ae_neg ae_int)) ae_int) (ae_tup (aa_cons ae_str (aa_cons ae_str aa_nil)))) (as_one (as_ret ae_bl)) as_nil)
    (as_cons (as_set (i := 2) sc__law_sound.nd rfl (Or.inl rfl) (ae_mulT (ae_lst (aa_cons ae_int aa_nil)) (ae_len rfl B.m_len (aa_cons (ae_var (pv 0)) aa_nil))))
    (as_cons (as_for PassesOwn.never rfl (ai_range1 rfl B.m_range (aa_cons (ae_len rfl B.m_len (aa_cons (ae_var (pv 0)) aa_nil)) aa_nil)) (ag_name (i := 3) sc__law_sound.nd rfl (Or.inl rfl)) (as_cons (as_set (i := 4) sc__law_sound.nd rfl (Or.inl rfl) (ae_lst (aa_cons (ae_tup (aa_cons (ae_var (pv 3)) (aa_cons ae_bl aa_nil))) aa_nil)))
    (as_one (as_while PassesOwn.never (at_gt (ae_len rfl B.m_len (aa_cons (ae_var (pv 4)) aa_nil)) ae_int) (as_cons (as_asg (ae_pop (ae_var (pv 4))) (ag_tup rfl (ags_cons (i := 5) sc__law_sound.nd rfl (Or.inl rfl) (ags_cons (i := 6) sc__law_sound.nd rfl (Or.inl rfl) ags_nil))))
    (as_one (as_if (at_val (ae_var (pv 6))) (as_one (as_sub ae_int (ae_var (pv 2)) (ae_var (pv 5)))) (as_one (as_if (at_eq hr.units (ae_ix (ae_var (pv 2)) (ae_var (pv 5))) ae_int) (as_cons (as_sub ae_int (ae_var (pv 2)) (ae_var (pv 5)))
    (as_cons (as_expr (ae_append (ae_var (pv 4)) (aa_cons (ae_tup (aa_cons (ae_var (pv 5)) (aa_cons ae_bl aa_nil))) aa_nil)))
    (as_one (as_for PassesOwn.never rfl (ai_of (ae_callD h__law_on (hr.mono (by decide)) rfl (aa_cons (ae_var (pv 0)) (aa_cons (ae_var (pv 5)) aa_nil)))) (ag_name (i := 7) sc__law_sound.nd rfl (Or.inl rfl)) (as_cons (as_if (at_eq hr.units (ae_ix (ae_var (pv 2)) (ae_var (pv 7))) ae_int) (as_one (as_ret ae_bl)) as_nil)
    (as_one (as_expr (ae_append (ae_var (pv 4)) (aa_cons (ae_tup (aa_cons (ae_var (pv 7)) (aa_cons ae_bl aa_nil))) aa_nil))))))))) as_nil)))))))))
    (as_one (as_ret ae_bl)))))))
/-! _law_both -/
abbrev s__law_both : Stmt := top 25
abbrev sc__law_bothN : List Str := ["code", "codes", "faces", "one", "other"]
theorem sc__law_both : FnScope sc__law_bothN ["code", "codes", "faces"] (defScope s__law_both) := ⟨rfl, rfl, rfl, by decide +kernel, rfl, by decide +kernel, by decide +kernel⟩
noncomputable def den__law_both : DS :=
  (sSeq (sSet 3 (dCall 2 m__law_run (dCons (dV 0) (dCons (dV 2) dNil))))
    (sSeq (sIf (dBl (dOp hIsN (dV 3) (dC .non))) (sRet (dC .non)) sNx)
    (sSeq (sSet 4 (dCall 2 m__law_run (dCons (dOp hIx (dV 1) (dOp hIx (dV 3) (dC (.int 0)))) (dCons (dSl (dV 2) (dOSome (dOp hIx (dV 3) (dC (.int 1)))) dONone) dNil))))
    (sRet (dIfE (dBl (dOp hIsN (dV 4) (dC .non))) (dC .non) (dTup (dCons (dOp hIx (dV 4) (dC (.int 0))) (dCons (dOp hAdd (dOp hIx (dV 3) (dC (.int 1))) (dOp hIx (dV 4) (dC (.int 1)))) dNil))))))))
noncomputable def m__law_both : List D → Sto → Res D := callF [.P, .P, .P] false (pfOf (runB 5 (den__law_both)) [.P, .P, .P] false)
theorem ok__law_both {P : Program} {w : World} {K : PySem.W.Frag} {mg : Str → Option Value} {base : Heap} {f : Addr} {fd : FuncData} (F : Fun K "_law_both" "_law_both" s__law_both f fd) (B : Bu mg)
    (h__law_run : Has CX0 P w K mg base "_law_run" 3 ["code", "faces"] (spD K 2 m__law_run)) :
    FnOk P w K mg base CX0 4 f fd ["code", "codes", "faces"] (spD K 3 (runB 5 (den__law_both))) :=
  ok_body (k := 3) F sc__law_both fun cdv A outer s H E hr =>
    (as_cons (as_set (i := 3) sc__law_both.nd rfl (Or.inl rfl) (ae_callD h__law_run (hr.mono (by decide)) rfl (aa_cons (ae_var (pv 0)) (aa_cons (ae_var (pv 2)) aa_nil))))
    (as_cons (as_if (at_isN (ae_var (pv 3)) ae_non) (as_one (as_ret ae_non)) as_nil)
    (as_cons (as_set (i := 4) sc__law_both.nd rfl (Or.inl rfl) (ae_callD h__law_run (hr.mono (by decide)) rfl (aa_cons (ae_ix (ae_var (pv 1)) (ae_ix (ae_var (pv 3)) ae_int)) (aa_cons (ae_sl (ae_var (pv 2)) (ao_some (ae_ix (ae_var (pv 3)) ae_int)) ao_none) aa_nil))))
    (as_one (as_ret (ae_if (at_isN (ae_var (pv 4)) ae_non) ae_non (ae_tup (aa_cons (ae_ix (ae_var (pv 4)) ae_int) (aa_cons (ae_add (ae_ix (ae_var (pv 3)) ae_int) (ae_ix (ae_var (pv 4)) ae_int)) aa_nil)))))))))
/-! _law_rows -/
abbrev s__law_rows : Stmt := top 26
abbrev sc__law_rowsN : List Str := ["faces", "throws", "told", "last", "lap", "ahead", "row", "face"]
theorem sc__law_rows : FnScope sc__law_rowsN ["faces", "throws"] (defScope s__law_rows) := ⟨rfl, rfl, rfl, by decide +kernel, rfl, by decide +kernel, by decide +kernel⟩
noncomputable def e1__law_rows : DE :=
  (dOp hAdd (dV 6) (dTup (dCons (dV 7) dNil)))
noncomputable def b2__law_rows : DS :=
  (sExpr (dMe hExt (dV 3) (dCons (dLc (dRng1 (dCons (dV 0) dNil)) (gN 7) dYes e1__law_rows [7]) dNil)))
noncomputable def b3__law_rows : DS :=
  (sSeq (sPar 5 3 (dCons (dV 3) (dCons (dLst dNil) dNil)))
    (sSeq (sFor (dIt (dV 5)) (gN 6) b2__law_rows)
    (sExpr (dMe hExt (dV 2) (dCons (dV 3) dNil)))))
noncomputable def den__law_rows : DS :=
  (sSeq (sSet 2 (dLst (dCons (dTup dNil) dNil)))
    (sSeq (sSet 3 (dLst (dCons (dTup dNil) dNil)))
    (sSeq (sFor (dRng1 (dCons (dV 1) dNil)) (gN 4) b3__law_rows)
    (sRet (dV 2)))))
noncomputable def m__law_rows : List D → Sto → Res D := callF [.P, .P] true (pfOf (runB 8 (den__law_rows)) [.P, .P] true)
theorem ok__law_rows {P : Program} {w : World} {K : PySem.W.Frag} {mg : Str → Option Value} {base : Heap} {f : Addr} {fd : FuncData} (F : Fun K "_law_rows" "_law_rows" s__law_rows f fd) (B : Bu mg) :
    FnOk P w K mg base CX0 1 f fd ["faces", "throws"] (spD K 2 (runB 8 (den__law_rows))) :=
  ok_body (k := 0) F sc__law_rows fun cdv A outer s H E hr =>
    (as_cons (as_set (i := 2) sc__law_rows.nd rfl (Or.inl rfl) (ae_lst (aa_cons (ae_tup aa_nil) aa_nil)))
    (as_cons (as_set (i := 3) sc__law_rows.nd rfl (Or.inl rfl) (ae_lst (aa_cons (ae_tup aa_nil) aa_nil)))
    (as_cons (as_for PassesOwn.never rfl (ai_range1 rfl B.m_range (aa_cons (ae_var (pv 1)) aa_nil)) (ag_name (i := 4) sc__law_rows.nd rfl (Or.inl rfl)) (as_cons (as_par (i := 5) (j := 3) rfl sc__law_rows.nd rfl rfl (by decide) rfl rfl (aa_cons (ae_var (pv 3)) (aa_cons (ae_lst aa_nil) aa_nil)) rfl)
    (as_cons (as_for PassesOwn.never rfl (ai_of (ae_var (pv 5))) (ag_name (i := 6) sc__law_rows.nd rfl (Or.inr rfl)) (as_one (as_expr (ae_extend (ae_var (pv 3)) (aa_cons (ae_lcv [("face", 7)] rfl rfl sc__law_rows.nd (ai_range1 rfl B.m_range (aa_cons (ae_var (pv 0)) aa_nil)) (blkOk_by (own := [("face", 7)]) (N := sc__law_rowsN) (sc := defScope s__law_rows) (by decide +kernel)) (fun _ _ _ _ _ => pg_name (i := 7) sc__law_rows.nd rfl (Or.inl rfl)) (fun _ _ _ _ _ => pts_none) (fun _ _ _ _ _ => (ae_add (ae_var (pv 6)) (ae_tup (aa_cons (ae_var (pv 7)) aa_nil)))) (agw_name (by decide))) aa_nil)))))
    (as_one (as_expr (ae_extend (ae_var (pv 2)) (aa_cons (ae_var (pv 3)) aa_nil)))))))
    (as_one (as_ret (ae_var (pv 2)))))))
/-! _law_joined -/
abbrev s__law_joined : Stmt := top 27
abbrev sc__law_joinedN : List Str := ["well", "code", "codes", "faces", "joined", "rows", "row", "k", "lap"]
theorem sc__law_joined : FnScope sc__law_joinedN ["well", "code", "codes", "faces"] (defScope s__law_joined) := ⟨rfl, rfl, rfl, by decide +kernel, rfl, by decide +kernel, by decide +kernel⟩
noncomputable def e1__law_joined (C : Addr) : DE :=
  (dCall 2 m__law_roll (dCons (dV 0) (dCons (dV 3) dNil)))
noncomputable def e2__law_joined (C : Addr) : DE :=
  (dCB hTupOf (dCons (dLc (dRng1 (dCons (dOp hAdd (dC (.int 6)) (dCall 2 m__law_roll (dCons (dV 0) (dCons (dC (.int 20)) dNil)))) dNil)) (gN 7) dYes (e1__law_joined C) [7]) dNil))
noncomputable def b3__law_joined (C : Addr) : DS :=
  (sIf (dBl (dOp hNe (dCall 2 m__law_run (dCons (dV 4) (dCons (dV 6) dNil))) (dCall 3 m__law_both (dCons (dV 1) (dCons (dV 2) (dCons (dV 6) dNil)))))) (sRet (dC (.bl false))) sNx)
noncomputable def den__law_joined (C : Addr) : DS :=
  (sSeq (sSet 4 (dCall 2 (m_joined_code C) (dCons (dV 1) (dCons (dV 2) dNil))))
    (sSeq (sIf (dNot (dTru (dCall 1 m__law_sound (dCons (dV 4) dNil)))) (sRet (dC (.bl false))) sNx)
    (sSeq (sSet 5 (dCall 2 m__law_rows (dCons (dV 3) (dCons (dIfE (dBl (dOp hEq (dV 3) (dC (.int 2)))) (dC (.int 5)) (dC (.int 3))) dNil))))
    (sSeq (sExpr (dMe hExt (dV 5) (dCons (dLc (dRng1 (dCons (dC (.int 4)) dNil)) (gN 8) dYes (e2__law_joined C) [8]) dNil)))
    (sSeq (sFor (dIt (dV 5)) (gN 6) (b3__law_joined C))
    (sRet (dC (.bl true))))))))
noncomputable def m__law_joined (C : Addr) : List D → Sto → Res D := callJ [.P, .P, .P] false (pjOf (runB 9 (den__law_joined C)) [.P, .P, .P] false)
theorem ok__law_joined {P : Program} {w : World} {K : PySem.W.Frag} {mg : Str → Option Value} {base : Heap} {f : Addr} {fd : FuncData} (F : Fun K "_law_joined" "_law_joined" s__law_joined f fd) (B : Bu mg)
    {C fI : Addr} (T : Zx.SupTxt P K mg C fI) (gC : mg "BadStep" = some (.ref C))
    (h_joined_code : Has (L2.CX P w) P w K mg base "joined_code" 3 ["code", "codes"] (spD K 2 (m_joined_code C)))
    (h__law_sound : Has CX0 P w K mg base "_law_sound" 2 ["code"] (spD K 1 m__law_sound))
    (h__law_rows : Has CX0 P w K mg base "_law_rows" 1 ["faces", "throws"] (spD K 2 m__law_rows))
    (h__law_roll : Has CX0 P w K mg base "_law_roll" 1 ["well", "many"] (spD K 2 m__law_roll))
    (h__law_run : Has CX0 P w K mg base "_law_run" 3 ["code", "faces"] (spD K 2 m__law_run))
    (h__law_both : Has CX0 P w K mg base "_law_both" 4 ["code", "codes", "faces"] (spD K 3 m__law_both)) :
    FnOk P w K mg base CX0 5 f fd ["well", "code", "codes", "faces"] (spD K 4 (runB 9 (den__law_joined C))) :=
  ok_body (k := 4) F sc__law_joined fun cdv A outer s H E hr =>
    (as_cons (as_set (i := 4) sc__law_joined.nd rfl (Or.inl rfl) (ae_callD h_joined_code (hr.mono (by decide)) rfl (aa_cons (ae_var (pv 1)) (aa_cons (ae_var (pv 2)) aa_nil))))
    (as_cons (as_if (at_not (at_val (ae_callD h__law_sound (hr.mono (by decide)) rfl (aa_cons (ae_var (pv 4)) aa_nil)))) (as_one (as_ret ae_bl)) as_nil)
    (as_cons (as_set (i := 5) sc__law_joined.nd rfl (Or.inl rfl) (ae_callD h__law_rows (hr.mono (by decide)) rfl (aa_cons (ae_var (pv 3)) (aa_cons (ae_if (at_eq hr.units (ae_var (pv 3)) ae_int) ae_int ae_int) aa_nil))))
    (as_cons (as_expr (ae_extend (ae_var (pv 5)) (aa_cons (ae_lcv [("lap", 8)] rfl rfl sc__law_joined.nd (ai_range1 rfl B.m_range (aa_cons ae_int aa_nil)) (blkOk_by (own := [("lap", 8)]) (N := sc__law_joinedN) (sc := defScope s__law_joined) (by decide +kernel)) (fun _ _ _ _ _ => pg_name (i := 8) sc__law_joined.nd rfl (Or.inl rfl)) (fun _ _ _ _ _ => pts_none) (fun _ _ _ _ _ => (ae_tupOf rfl B.m_tuple (aa_cons (ae_lcv [("k", 7)] rfl rfl sc__law_joined.nd (ai_range1 rfl B.m_range (aa_cons (ae_add ae_int (ae_callD h__law_roll (hr.mono (by decide)) rfl (aa_cons (ae_var (pv 0)) (aa_cons ae_int aa_nil)))) aa_nil)) (blkOk_by (own := [("k", 7)]) (N := sc__law_joinedN) (by rfl)) (fun _ _ _ _ _ => pg_name (i := 7) sc__law_joined.nd rfl (Or.inl rfl)) (fun _ _ _ _ _ => pts_none) (fun _ _ _ _ _ => (ae_callD h__law_roll (hr.mono (by decide)) rfl (aa_cons (ae_var (pv 0)) (aa_cons (ae_var (pv 3)) aa_nil)))) (agw_name (by decide))) aa_nil))) (agw_name (by decide))) aa_nil)))
    (as_cons (as_for PassesOwn.never rfl (ai_of (ae_var (pv 5))) (ag_name (i := 6) sc__law_joined.nd rfl (Or.inl rfl)) (as_one (as_if (at_ne hr.units (ae_callD h__law_run (hr.mono (by decide)) rfl (aa_cons (ae_var (pv 4)) (aa_cons (ae_var (pv 6)) aa_nil))) (ae_callD h__law_both (hr.mono (by decide)) rfl (aa_cons (ae_var (pv 1)) (aa_cons (ae_var (pv 2)) (aa_cons (ae_var (pv 6)) aa_nil))))) (as_one (as_ret ae_bl)) as_nil)))
    (as_one (as_ret ae_bl)))))))
/-! _law_shifted -/
abbrev s__law_shifted : Stmt := top 28
abbrev sc__law_shiftedN : List Str := ["code", "many", "told", "line"]
theorem sc__law_shifted : FnScope sc__law_shiftedN ["code", "many"] (defScope s__law_shifted) := ⟨rfl, rfl, rfl, by decide +kernel, rfl, by decide +kernel, by decide +kernel⟩
noncomputable def b1__law_shifted : DS :=
  (sSeq (sIf (dBl (dOp hEq (dOp hIx (dV 3) (dC (.int 0))) (dC (.str "goto")))) (sSet 3 (dTup (dCons (dC (.str "goto")) (dCons (dOp hAdd (dOp hIx (dV 3) (dC (.int 1))) (dV 1)) dNil)))) (sIf (dBl (dOp hEq (dOp hIx (dV 3) (dC (.int 0))) (dC (.str "below")))) (sSet 3 (dOp hAdd (dSl (dV 3) dONone (dOSome (dC (.int 3)))) (dTup (dCons (dOp hAdd (dOp hIx (dV 3) (dC (.int 3))) (dV 1)) dNil)))) sNx))
    (sExpr (dMe hApp (dV 2) (dCons (dV 3) dNil))))
noncomputable def den__law_shifted : DS :=
  (sSeq (sSet 2 (dOp hMulT (dLst (dCons (dTup (dCons (dC (.str "set")) (dCons (dC (.int 9)) (dCons (dC (.int 0)) dNil)))) dNil)) (dV 1)))
    (sSeq (sFor (dIt (dV 0)) (gN 3) b1__law_shifted)
    (sRet (dCB hTupOf (dCons (dV 2) dNil)))))
noncomputable def m__law_shifted : List D → Sto → Res D := callF [.P, .P] false (pfOf (runB 4 (den__law_shifted)) [.P, .P] false)
theorem ok__law_shifted {P : Program} {w : World} {K : PySem.W.Frag} {mg : Str → Option Value} {base : Heap} {f : Addr} {fd : FuncData} (F : Fun K "_law_shifted" "_law_shifted" s__law_shifted f fd) (B : Bu mg) :
    FnOk P w K mg base CX0 1 f fd ["code", "many"] (spD K 2 (runB 4 (den__law_shifted))) :=
  ok_body (k := 0) F sc__law_shifted fun cdv A outer s H E hr =>
    (as_cons (as_set (i := 2) sc__law_shifted.nd rfl (Or.inl rfl) (ae_mulT (ae_lst (aa_cons (ae_tup (aa_cons ae_str (aa_cons ae_int (aa_cons ae_int aa_nil)))) aa_nil)) (ae_var (pv 1))))
    (as_cons (as_for PassesOwn.never rfl (ai_of (ae_var (pv 0))) (ag_name (i := 3) sc__law_shifted.nd rfl (Or.inl rfl)) (as_cons (as_if (at_eq hr.units (ae_ix (ae_var (pv 3)) ae_int) ae_str) (as_one (as_set (i := 3) sc__law_shifted.nd rfl (Or.inl rfl) (ae_tup (aa_cons ae_str (aa_cons (ae_add (ae_ix (ae_var (pv 3)) ae_int) (ae_var (pv 1))) aa_nil))))) (as_one (as_if (at_eq hr.units (ae_ix (ae_var (pv 3)) ae_int) ae_str) (as_one (as_set (i := 3) sc__law_shifted.nd rfl (Or.inl rfl) (ae_add (ae_sl (ae_var (pv 3)) ao_none (ao_some ae_int)) (ae_tup (aa_cons (ae_add (ae_ix (ae_var (pv 3)) ae_int) (ae_var (pv 1))) aa_nil))))) as_nil)))
    (as_one (as_expr (ae_append (ae_var (pv 2)) (aa_cons (ae_var (pv 3)) aa_nil))))))
    (as_one (as_ret (ae_tupOf rfl B.m_tuple (aa_cons (ae_var (pv 2)) aa_nil))))))
/-! _law_named -/
abbrev s__law_named : Stmt := top 29
abbrev sc__law_namedN : List Str := ["code", "places", "line"]
theorem sc__law_named : FnScope sc__law_namedN ["code", "places"] (defScope s__law_named) := ⟨rfl, rfl, rfl, by decide +kernel, rfl, by decide +kernel, by decide +kernel⟩
noncomputable def e1__law_named : DE :=
  (dIfE (dBl (dOp hEq (dOp hIx (dV 2) (dC (.int 0))) (dC (.str "end")))) (dTup (dCons (dC (.str "end")) (dCons (dOp hIx (dV 1) (dOp hIx (dV 2) (dC (.int 1)))) dNil))) (dV 2))
noncomputable def den__law_named : DS :=
  (sRet (dCB hTupOf (dCons (dLc (dIt (dV 0)) (gN 2) dYes e1__law_named [2]) dNil)))
noncomputable def m__law_named : List D → Sto → Res D := callF [.P, .P] false (pfOf (runB 3 (den__law_named)) [.P, .P] false)
theorem ok__law_named {P : Program} {w : World} {K : PySem.W.Frag} {mg : Str → Option Value} {base : Heap} {f : Addr} {fd : FuncData} (F : Fun K "_law_named" "_law_named" s__law_named f fd) (B : Bu mg) :
    FnOk P w K mg base CX0 1 f fd ["code", "places"] (spD K 2 (runB 3 (den__law_named))) :=
  ok_body (k := 0) F sc__law_named fun cdv A outer s H E hr =>
    (as_one (as_ret (ae_tupOf rfl B.m_tuple (aa_cons (ae_lcv [("line", 2)] rfl rfl sc__law_named.nd (ai_of (ae_var (pv 0))) (blkOk_by (own := [("line", 2)]) (N := sc__law_namedN) (sc := defScope s__law_named) (by decide +kernel)) (fun _ _ _ _ _ => pg_name (i := 2) sc__law_named.nd rfl (Or.inl rfl)) (fun _ _ _ _ _ => pts_none) (fun _ _ _ _ _ => (ae_if (at_eq hr.units (ae_ix (ae_var (pv 2)) ae_int) ae_str) (ae_tup (aa_cons ae_str (aa_cons (ae_ix (ae_var (pv 1)) (ae_ix (ae_var (pv 2)) ae_int)) aa_nil))) (ae_var (pv 2)))) (agw_name (by decide))) aa_nil))))
/-! _law_refused -/
abbrev s__law_refused : Stmt := top 30
abbrev sc__law_refusedN : List Str := ["word", "told", "fault"]
theorem sc__law_refused : FnScope sc__law_refusedN ["word", "told"] (defScope s__law_refused) := ⟨rfl, rfl, rfl, by decide +kernel, rfl, by decide +kernel, by decide +kernel⟩
def perm_joined_code (ds : List D) : List D := match ds with | [a, b] => [b, a] | _ => []
noncomputable def den__law_refused (C : Addr) : DS :=
  (sSeq (Zx.sTryF C (sIf (dBl (dOp hEq (dV 0) (dC (.str "joined")))) (sExpr (dCallKX 2 (perm_joined_code) (runX 10 (den_joined_code C)) (dCons (dOp hIx (dV 1) (dC (.int 1))) (dCons (dOp hIx (dV 1) (dC (.int 0))) dNil)))) (sExpr (dCallX 2 (runX 2 (den_shifted_code C)) (dCons (dOp hIx (dV 1) (dC (.int 0))) (dCons (dOp hIx (dV 1) (dC (.int 1))) dNil))))))
    (sRet (dC .non)))
noncomputable def m__law_refused (C : Addr) : List D → Sto → Res D := callF [.P, .P] false (pfOf (runB 3 (den__law_refused C)) [.P, .P] false)
theorem ok__law_refused {P : Program} {w : World} {K : PySem.W.Frag} {mg : Str → Option Value} {base : Heap} {f : Addr} {fd : FuncData} (F : Fun K "_law_refused" "_law_refused" s__law_refused f fd) (B : Bu mg)
    {C fI : Addr} (T : Zx.SupTxt P K mg C fI) (gC : mg "BadStep" = some (.ref C))
    (hk_joined_code : HasK (L2.CX P w) P w K mg base "joined_code" 3 ["code", "codes"] ["codes", "code"] perm_joined_code (spD K 2 (runX 10 (den_joined_code C))))
    (hx_shifted_code : Has (L2.CX P w) P w K mg base "shifted_code" 3 ["code", "many"] (spD K 2 (runX 2 (den_shifted_code C)))) :
    FnOk P w K mg base CX0 4 f fd ["word", "told"] (spD K 2 (runB 3 (den__law_refused C))) :=
  ok_body (k := 3) F sc__law_refused fun cdv A outer s H E hr =>
    (as_cons (Zx.as_tryF (C := C) (i := 2) rfl rfl sc__law_refused.nd rfl rfl T gC rfl (fun E1 pn xe tk po => (as_one (as_if (at_eq hr.units (ae_var (pv 0)) ae_str) (as_one (as_expr (ae_callKX hk_joined_code (passX tk) (hr.mono (by decide)) rfl (ak_cons (ae_ix (ae_var (pv 1)) ae_int) (ak_cons (ae_ix (ae_var (pv 1)) ae_int) ak_nil))))) (as_one (as_expr (ae_callX hx_shifted_code (passX tk) (hr.mono (by decide)) rfl (aa_cons (ae_ix (ae_var (pv 1)) ae_int) (aa_cons (ae_ix (ae_var (pv 1)) ae_int) aa_nil)))))))))
    (as_one (as_ret ae_non)))
/-! _law_long -/
abbrev s__law_long : Stmt := top 31
abbrev sc__law_longN : List Str := ["well", "lines", "code", "other", "whole"]
theorem sc__law_long : FnScope sc__law_longN ["well"] (defScope s__law_long) := ⟨rfl, rfl, rfl, by decide +kernel, rfl, by decide +kernel, by decide +kernel⟩
noncomputable def den__law_long (C : Addr) : DS :=
  (sSeq (sSet 1 (dOp hAdd (dC (.int 1000)) (dCall 2 m__law_roll (dCons (dV 0) (dCons (dC (.int 2000)) dNil)))))
    (sSeq (sSet 2 (dOp hAdd (dOp hMulT (dTup (dCons (dTup (dCons (dC (.str "set")) (dCons (dC (.int 1)) (dCons (dC (.int 3)) dNil)))) dNil)) (dOp (hInt yes2 fun i j => i - j) (dV 1) (dC (.int 1)))) (dTup (dCons (dTup (dCons (dC (.str "end")) (dCons (dC (.int 0)) dNil))) dNil))))
    (sSeq (sSet 3 (dOp hAdd (dOp hMulT (dTup (dCons (dTup (dCons (dC (.str "set")) (dCons (dC (.int 2)) (dCons (dC (.int 2)) dNil)))) dNil)) (dOp (hInt yes2 fun i j => i - j) (dC (.int 3989)) (dV 1))) (dTup (dCons (dTup (dCons (dC (.str "end")) (dCons (dC (.int 4)) dNil))) dNil))))
    (sSeq (sIf (dOr (dBl (dOp hNotN (dCall 2 (m__law_refused C) (dCons (dC (.str "joined")) (dCons (dTup (dCons (dV 2) (dCons (dTup (dCons (dV 3) dNil)) dNil))) dNil))) (dC .non))) (dBl (dOp hNe (dCall 2 (m__law_refused C) (dCons (dC (.str "joined")) (dCons (dTup (dCons (dV 2) (dCons (dTup (dCons (dOp hAdd (dSl (dV 3) dONone (dOSome (dC (.int 1)))) (dV 3)) dNil)) dNil))) dNil))) (dC (.str "size"))))) (sRet (dC (.bl false))) sNx)
    (sSeq (sSet 4 (dOp hAdd (dOp hMulT (dTup (dCons (dTup (dCons (dC (.str "set")) (dCons (dC (.int 1)) (dCons (dC (.int 3)) dNil)))) dNil)) (dC (.int 3950))) (dTup (dCons (dTup (dCons (dC (.str "end")) (dCons (dC (.int 7)) dNil))) dNil))))
    (sRet (dAndV (dOp hEq (dCall 2 (m__law_refused C) (dCons (dC (.str "shifted")) (dCons (dTup (dCons (dV 4) (dCons (dC (.int 50)) dNil))) dNil))) (dC (.str "size"))) (dCall 2 m__law_alike (dCons (dCall 2 (m_shifted_code C) (dCons (dV 4) (dCons (dC (.int 49)) dNil))) (dCons (dCall 2 m__law_shifted (dCons (dV 4) (dCons (dC (.int 49)) dNil))) dNil))))))))))
noncomputable def m__law_long (C : Addr) : List D → Sto → Res D := callJ [] false (pjOf (runB 5 (den__law_long C)) [] false)
theorem ok__law_long {P : Program} {w : World} {K : PySem.W.Frag} {mg : Str → Option Value} {base : Heap} {f : Addr} {fd : FuncData} (F : Fun K "_law_long" "_law_long" s__law_long f fd) (B : Bu mg)
    {C fI : Addr} (T : Zx.SupTxt P K mg C fI) (gC : mg "BadStep" = some (.ref C))
    (h__law_roll : Has CX0 P w K mg base "_law_roll" 1 ["well", "many"] (spD K 2 m__law_roll))
    (h__law_refused : Has CX0 P w K mg base "_law_refused" 4 ["word", "told"] (spD K 2 (m__law_refused C)))
    (h__law_shifted : Has CX0 P w K mg base "_law_shifted" 1 ["code", "many"] (spD K 2 m__law_shifted))
    (h_shifted_code : Has (L2.CX P w) P w K mg base "shifted_code" 3 ["code", "many"] (spD K 2 (m_shifted_code C)))
    (h__law_alike : Has CX0 P w K mg base "_law_alike" 1 ["told", "due"] (spD K 2 m__law_alike)) :
    FnOk P w K mg base CX0 5 f fd ["well"] (spD K 1 (runB 5 (den__law_long C))) :=
  ok_body (k := 4) F sc__law_long fun cdv A outer s H E hr =>
    (as_cons (as_set (i := 1) sc__law_long.nd rfl (Or.inl rfl) (ae_add ae_int (ae_callD h__law_roll (hr.mono (by decide)) rfl (aa_cons (ae_var (pv 0)) (aa_cons ae_int aa_nil)))))
    (as_cons (as_set (i := 2) sc__law_long.nd rfl (Or.inl rfl) (ae_add (ae_mulT (ae_tup (aa_cons (ae_tup (aa_cons ae_str (aa_cons ae_int (aa_cons ae_int aa_nil)))) aa_nil)) (ae_sub (ae_var (pv 1)) ae_int)) (ae_tup (aa_cons (ae_tup (aa_cons ae_str (aa_cons ae_int aa_nil))) aa_nil))))
    (as_cons (as_set (i := 3) sc__law_long.nd rfl (Or.inl rfl) (ae_add (ae_mulT (ae_tup (aa_cons (ae_tup (aa_cons ae_str (aa_cons ae_int (aa_cons ae_int aa_nil)))) aa_nil)) (ae_sub ae_int (ae_var (pv 1)))) (ae_tup (aa_cons (ae_tup (aa_cons ae_str (aa_cons ae_int aa_nil))) aa_nil))))
    (as_cons (as_if (at_w (aw_or (at_notN (ae_callD h__law_refused (hr.mono (by decide)) rfl (aa_cons ae_str (aa_cons (ae_tup (aa_cons (ae_var (pv 2)) (aa_cons (ae_tup (aa_cons (ae_var (pv 3)) aa_nil)) aa_nil))) aa_nil))) ae_non) (aw_or1 (at_ne hr.units (ae_callD h__law_refused (hr.mono (by decide)) rfl (aa_cons ae_str (aa_cons (ae_tup (aa_cons (ae_var (pv 2)) (aa_cons (ae_tup (aa_cons (ae_add (ae_sl (ae_var (pv 3)) ao_none (ao_some ae_int)) (ae_var (pv 3))) aa_nil)) aa_nil))) aa_nil))) ae_str)))) (as_one (as_ret ae_bl)) as_nil)
    (as_cons (as_set (i := 4) sc__law_long.nd rfl (Or.inl rfl) (ae_add (ae_mulT (ae_tup (aa_cons (ae_tup (aa_cons ae_str (aa_cons ae_int (aa_cons ae_int aa_nil)))) aa_nil)) ae_int) (ae_tup (aa_cons (ae_tup (aa_cons ae_str (aa_cons ae_int aa_nil))) aa_nil))))
    (as_one (as_ret (ae_and (ae_eq hr.units (ae_callD h__law_refused (hr.mono (by decide)) rfl (aa_cons ae_str (aa_cons (ae_tup (aa_cons (ae_var (pv 4)) (aa_cons ae_int aa_nil))) aa_nil))) ae_str) (ae_one (ae_callD h__law_alike (hr.mono (by decide)) rfl (aa_cons (ae_callD h_shifted_code (hr.mono (by decide)) rfl (aa_cons (ae_var (pv 4)) (aa_cons ae_int aa_nil))) (aa_cons (ae_callD h__law_shifted (hr.mono (by decide)) rfl (aa_cons (ae_var (pv 4)) (aa_cons ae_int aa_nil))) aa_nil))))))))))))
/-! law -/
abbrev s_law : Stmt := top 32
abbrev sc_lawN : List Str := ["script", "well", "faces", "flip", "full", "first", "code", "codes", "inner", "many", "places", "k"]
theorem sc_law : FnScope sc_lawN ["script"] (defScope s_law) := ⟨rfl, rfl, rfl, by decide +kernel, rfl, by decide +kernel, by decide +kernel⟩
noncomputable def e1_law (C : Addr) : DE :=
  (dCall 2 m__law_roll (dCons (dV 1) (dCons (dC (.int 50)) dNil)))
noncomputable def den_law (C : Addr) : DS :=
  (sSeq (sSet 1 (dCall 1 (runB 5 den__law_well) (dCons (dV 0) dNil)))
    (sSeq (sSet 2 (dOp hAdd (dC (.int 2)) (dCall 2 m__law_roll (dCons (dV 1) (dCons (dC (.int 2)) dNil)))))
    (sSeq (sSet 3 (dTup (dCons (dTup (dCons (dC (.str "throw")) (dCons (dC (.int 0)) dNil))) (dCons (dTup (dCons (dC (.str "below")) (dCons (dC (.int 0)) (dCons (dC (.int 1)) (dCons (dC (.int 3)) dNil))))) (dCons (dTup (dCons (dC (.str "end")) (dCons (dC (.int 1)) dNil))) (dCons (dTup (dCons (dC (.str "end")) (dCons (dC (.int 0)) dNil))) dNil))))))
    (sSeq (sSet 4 (dTup (dCons (dTup (dCons (dC (.str "set")) (dCons (dC (.int 0)) (dCons (dC (.int 5)) dNil)))) (dCons (dTup (dCons (dC (.str "throw")) (dCons (dC (.int 1)) dNil))) (dCons (dTup (dCons (dC (.str "add")) (dCons (dC (.int 0)) (dCons (dC (.int 1)) dNil)))) (dCons (dTup (dCons (dC (.str "below")) (dCons (dC (.int 0)) (dCons (dC (.int 6)) (dCons (dC (.int 5)) dNil))))) (dCons (dTup (dCons (dC (.str "end")) (dCons (dC (.int 1)) dNil))) (dCons (dTup (dCons (dC (.str "end")) (dCons (dC (.int 0)) dNil))) dNil))))))))
    (sSeq (sSet 5 (dCall 2 m__law_of (dCons (dV 1) (dCons (dLst (dCons (dV 3) (dCons (dV 4) (dCons (dTup (dCons (dTup (dCons (dC (.str "end")) (dCons (dC (.int 1)) dNil))) dNil)) (dCons (dTup (dCons (dTup (dCons (dC (.str "throw")) (dCons (dC (.int 0)) dNil))) (dCons (dTup (dCons (dC (.str "goto")) (dCons (dC (.int 0)) dNil))) dNil))) dNil))))) dNil))))
    (sSeq (sSet 6 (dOp hIx (dTup (dCons (dV 5) (dCons (dCall 2 m__law_drawn (dCons (dV 1) (dCons (dC (.int 3)) dNil))) dNil))) (dCall 2 m__law_roll (dCons (dV 1) (dCons (dC (.int 2)) dNil)))))
    (sSeq (sSet 7 (dTup (dCons (dCall 2 m__law_drawn (dCons (dV 1) (dCons (dC (.int 5)) dNil))) (dCons (dV 4) (dCons (dCall 2 m__law_drawn (dCons (dV 1) (dCons (dC (.int 9)) dNil))) dNil)))))
    (sSeq (sIf (dOr (dNot (dTru (dCall 4 (m__law_joined C) (dCons (dV 1) (dCons (dV 6) (dCons (dV 7) (dCons (dV 2) dNil))))))) (dNot (dTru (dCall 4 (m__law_joined C) (dCons (dV 1) (dCons (dV 3) (dCons (dTup (dCons (dV 4) (dCons (dV 3) dNil))) (dCons (dV 2) dNil)))))))) (sRet (dC (.bl false))) sNx)
    (sSeq (sSet 8 (dCall 2 (m_joined_code C) (dCons (dV 3) (dCons (dTup (dCons (dV 4) (dCons (dTup (dCons (dTup (dCons (dC (.str "end")) (dCons (dC (.int 2)) dNil))) dNil)) dNil))) dNil))))
    (sSeq (sIf (dOr (dNot (dTru (dCall 1 m__law_sound (dCons (dV 8) dNil)))) (dNot (dTru (dCall 4 (m__law_joined C) (dCons (dV 1) (dCons (dV 8) (dCons (dV 7) (dCons (dV 2) dNil)))))))) (sRet (dC (.bl false))) sNx)
    (sSeq (sSet 9 (dCall 2 m__law_roll (dCons (dV 1) (dCons (dC (.int 101)) dNil))))
    (sSeq (sIf (dNot (dTru (dCall 2 m__law_alike (dCons (dCall 2 (m_shifted_code C) (dCons (dV 6) (dCons (dV 9) dNil))) (dCons (dCall 2 m__law_shifted (dCons (dV 6) (dCons (dV 9) dNil))) dNil))))) (sRet (dC (.bl false))) sNx)
    (sSeq (sSet 10 (dCB hTupOf (dCons (dLc (dRng1 (dCons (dC (.int 9)) dNil)) (gN 11) dYes (e1_law C) [11]) dNil)))
    (sSeq (sIf (dNot (dTru (dCall 2 m__law_alike (dCons (dCall 2 m_renamed_ends (dCons (dOp hIx (dV 7) (dC (.int 2))) (dCons (dV 10) dNil))) (dCons (dCall 2 m__law_named (dCons (dOp hIx (dV 7) (dC (.int 2))) (dCons (dV 10) dNil))) dNil))))) (sRet (dC (.bl false))) sNx)
    (sRet (dIfE (dBl (dOp hEq (dCall 2 m__law_roll (dCons (dV 1) (dCons (dC (.int 7)) dNil))) (dC (.int 4)))) (dCall 1 (m__law_long C) (dCons (dV 1) dNil)) (dC (.bl true))))))))))))))))))
theorem ok_law {P : Program} {w : World} {K : PySem.W.Frag} {mg : Str → Option Value} {base : Heap} {f : Addr} {fd : FuncData} (F : Fun K "law" "law" s_law f fd) (B : Bu mg)
    {C fI : Addr} (T : Zx.SupTxt P K mg C fI) (gC : mg "BadStep" = some (.ref C))
    (h__law_well : Has CX0 P w K mg base "_law_well" 1 ["script"] (spD K 1 (runB 5 den__law_well)))
    (h__law_roll : Has CX0 P w K mg base "_law_roll" 1 ["well", "many"] (spD K 2 m__law_roll))
    (h__law_of : Has CX0 P w K mg base "_law_of" 2 ["well", "things"] (spD K 2 m__law_of))
    (h__law_drawn : Has CX0 P w K mg base "_law_drawn" 4 ["well", "outcomes"] (spD K 2 m__law_drawn))
    (h__law_joined : Has CX0 P w K mg base "_law_joined" 5 ["well", "code", "codes", "faces"] (spD K 4 (m__law_joined C)))
    (h_joined_code : Has (L2.CX P w) P w K mg base "joined_code" 3 ["code", "codes"] (spD K 2 (m_joined_code C)))
    (h__law_sound : Has CX0 P w K mg base "_law_sound" 2 ["code"] (spD K 1 m__law_sound))
    (h__law_shifted : Has CX0 P w K mg base "_law_shifted" 1 ["code", "many"] (spD K 2 m__law_shifted))
    (h_shifted_code : Has (L2.CX P w) P w K mg base "shifted_code" 3 ["code", "many"] (spD K 2 (m_shifted_code C)))
    (h__law_alike : Has CX0 P w K mg base "_law_alike" 1 ["told", "due"] (spD K 2 m__law_alike))
    (h__law_named : Has CX0 P w K mg base "_law_named" 1 ["code", "places"] (spD K 2 m__law_named))
    (h_renamed_ends : Has CX0 P w K mg base "renamed_ends" 1 ["code", "places"] (spD K 2 m_renamed_ends))
    (h__law_long : Has CX0 P w K mg base "_law_long" 5 ["well"] (spD K 1 (m__law_long C))) :
    FnOk P w K mg base CX0 6 f fd ["script"] (spD K 1 (runB 12 (den_law C))) :=
  ok_body (k := 5) F sc_law fun cdv A outer s H E hr =>
    (as_cons (as_set (i := 1) sc_law.nd rfl (Or.inr rfl) (ae_callD h__law_well (hr.mono (by decide)) rfl (aa_cons (ae_var (pv 0)) aa_nil)))
    (as_cons (as_set (i := 2) sc_law.nd rfl (Or.inl rfl) (ae_add ae_int (ae_callD h__law_roll (hr.mono (by decide)) rfl (aa_cons (ae_var (pv 1)) (aa_cons ae_int aa_nil)))))
    (as_cons (as_set (i := 3) sc_law.nd rfl (Or.inl rfl) (ae_tup (aa_cons (ae_tup (aa_cons ae_str (aa_cons ae_int aa_nil))) (aa_cons (ae_tup (aa_cons ae_str (aa_cons ae_int (aa_cons ae_int (aa_cons ae_int aa_nil))))) (aa_cons (ae_tup (aa_cons ae_str (aa_cons ae_int aa_nil))) (aa_cons (ae_tup (aa_cons ae_str (aa_cons ae_int aa_nil))) aa_nil))))))
    (as_cons (as_set (i := 4) sc_law.nd rfl (Or.inl rfl) (ae_tup (aa_cons (ae_tup (aa_cons ae_str (aa_cons ae_int (aa_cons ae_int aa_nil)))) (aa_cons (ae_tup (aa_cons ae_str (aa_cons ae_int aa_nil))) (aa_cons (ae_tup (aa_cons ae_str (aa_cons ae_int (aa_cons ae_int aa_nil)))) (aa_cons (ae_tup (aa_cons ae_str (aa_cons ae_int (aa_cons ae_int (aa_cons ae_int aa_nil))))) (aa_cons (ae_tup (aa_cons ae_str (aa_cons ae_int aa_nil))) (aa_cons (ae_tup (aa_cons ae_str (aa_cons ae_int aa_nil))) aa_nil))))))))
    (as_cons (as_set (i := 5) sc_law.nd rfl (Or.inl rfl) (ae_callD h__law_of (hr.mono (by decide)) rfl (aa_cons (ae_var (pv 1)) (aa_cons (ae_lst (aa_cons (ae_var (pv 3)) (aa_cons (ae_var (pv 4)) (aa_cons (ae_tup (aa_cons (ae_tup (aa_cons ae_str (aa_cons ae_int aa_nil))) aa_nil)) (aa_cons (ae_tup (aa_cons (ae_tup (aa_cons ae_str (aa_cons ae_int aa_nil))) (aa_cons (ae_tup (aa_cons ae_str (aa_cons ae_int aa_nil))) aa_nil))) aa_nil))))) aa_nil))))
    (as_cons (as_set (i := 6) sc_law.nd rfl (Or.inl rfl) (ae_ix (ae_tup (aa_cons (ae_var (pv 5)) (aa_cons (ae_callD h__law_drawn (hr.mono (by decide)) rfl (aa_cons (ae_var (pv 1)) (aa_cons ae_int aa_nil))) aa_nil))) (ae_callD h__law_roll (hr.mono (by decide)) rfl (aa_cons (ae_var (pv 1)) (aa_cons ae_int aa_nil)))))
    (as_cons (as_set (i := 7) sc_law.nd rfl (Or.inl rfl) (ae_tup (aa_cons (ae_callD h__law_drawn (hr.mono (by decide)) rfl (aa_cons (ae_var (pv 1)) (aa_cons ae_int aa_nil))) (aa_cons (ae_var (pv 4)) (aa_cons (ae_callD h__law_drawn (hr.mono (by decide)) rfl (aa_cons (ae_var (pv 1)) (aa_cons ae_int aa_nil))) aa_nil)))))
    (as_cons (as_if (at_w (aw_or (at_not (at_val (ae_callD h__law_joined (hr.mono (by decide)) rfl (aa_cons (ae_var (pv 1)) (aa_cons (ae_var (pv 6)) (aa_cons (ae_var (pv 7)) (aa_cons (ae_var (pv 2)) aa_nil))))))) (aw_or1 (at_not (at_val (ae_callD h__law_joined (hr.mono (by decide)) rfl (aa_cons (ae_var (pv 1)) (aa_cons (ae_var (pv 3)) (aa_cons (ae_tup (aa_cons (ae_var (pv 4)) (aa_cons (ae_var (pv 3)) aa_nil))) (aa_cons (ae_var (pv 2)) aa_nil)))))))))) (as_one (as_ret ae_bl)) as_nil)
    (as_cons (as_set (i := 8) sc_law.nd rfl (Or.inl rfl) (ae_callD h_joined_code (hr.mono (by decide)) rfl (aa_cons (ae_var (pv 3)) (aa_cons (ae_tup (aa_cons (ae_var (pv 4)) (aa_cons (ae_tup (aa_cons (ae_tup (aa_cons ae_str (aa_cons ae_int aa_nil))) aa_nil)) aa_nil))) aa_nil))))
    (as_cons (as_if (at_w (aw_or (at_not (at_val (ae_callD h__law_sound (hr.mono (by decide)) rfl (aa_cons (ae_var (pv 8)) aa_nil)))) (aw_or1 (at_not (at_val (ae_callD h__law_joined (hr.mono (by decide)) rfl (aa_cons (ae_var (pv 1)) (aa_cons (ae_var (pv 8)) (aa_cons (ae_var (pv 7)) (aa_cons (ae_var (pv 2)) aa_nil)))))))))) (as_one (as_ret ae_bl)) as_nil)
    (as_cons (as_set (i := 9) sc_law.nd rfl (Or.inl rfl) (ae_callD h__law_roll (hr.mono (by decide)) rfl (aa_cons (ae_var (pv 1)) (aa_cons ae_int aa_nil))))
    (as_cons (as_if (at_not (at_val (ae_callD h__law_alike (hr.mono (by decide)) rfl (aa_cons (ae_callD h_shifted_code (hr.mono (by decide)) rfl (aa_cons (ae_var (pv 6)) (aa_cons (ae_var (pv 9)) aa_nil))) (aa_cons (ae_callD h__law_shifted (hr.mono (by decide)) rfl (aa_cons (ae_var (pv 6)) (aa_cons (ae_var (pv 9)) aa_nil))) aa_nil))))) (as_one (as_ret ae_bl)) as_nil)
    (as_cons (as_set (i := 10) sc_law.nd rfl (Or.inl rfl) (ae_tupOf rfl B.m_tuple (aa_cons (ae_lcv [("k", 11)] rfl rfl sc_law.nd (ai_range1 rfl B.m_range (aa_cons ae_int aa_nil)) (blkOk_by (own := [("k", 11)]) (N := sc_lawN) (sc := defScope s_law) (by decide +kernel)) (fun _ _ _ _ _ => pg_name (i := 11) sc_law.nd rfl (Or.inl rfl)) (fun _ _ _ _ _ => pts_none) (fun _ _ _ _ _ => (ae_callD h__law_roll (hr.mono (by decide)) rfl (aa_cons (ae_var (pv 1)) (aa_cons ae_int aa_nil)))) (agw_name (by decide))) aa_nil)))
    (as_cons (as_if (at_not (at_val (ae_callD h__law_alike (hr.mono (by decide)) rfl (aa_cons (ae_callD h_renamed_ends (hr.mono (by decide)) rfl (aa_cons (ae_ix (ae_var (pv 7)) ae_int) (aa_cons (ae_var (pv 10)) aa_nil))) (aa_cons (ae_callD h__law_named (hr.mono (by decide)) rfl (aa_cons (ae_ix (ae_var (pv 7)) ae_int) (aa_cons (ae_var (pv 10)) aa_nil))) aa_nil))))) (as_one (as_ret ae_bl)) as_nil)
    (as_one (as_ret (ae_if (at_eq hr.units (ae_callD h__law_roll (hr.mono (by decide)) rfl (aa_cons (ae_var (pv 1)) (aa_cons ae_int aa_nil))) ae_int) (ae_callD h__law_long (hr.mono (by decide)) rfl (aa_cons (ae_var (pv 1)) aa_nil)) ae_bl)))))))))))))))))
end Q88

set_option Elab.async false
set_option linter.all false
set_option maxRecDepth 100000
set_option maxHeartbeats 1000000
namespace Q88
open PySem L2 PySem.Spec PyProof.Rows Zb
inductive Ln where
  | throw (r : Nat) | set (r n : Nat) | add (r q : Nat) | times (r q : Nat) | take (r q : Nat) (ns : List Nat) | below (r n to : Nat) | goto (to : Nat) | fin (o : Nat)
  deriving DecidableEq
abbrev nD (n : Nat) : D := .int (n : Int)
def Ln.toD : Ln → D
  | .throw r => .tup [.str "throw", nD r]
  | .set r n => .tup [.str "set", nD r, nD n]
  | .add r q => .tup [.str "add", nD r, nD q]
  | .times r q => .tup [.str "times", nD r, nD q]
  | .take r q ns => .tup [.str "take", nD r, nD q, .tup (ns.map nD)]
  | .below r n to => .tup [.str "below", nD r, nD n, nD to]
  | .goto to => .tup [.str "goto", nD to]
  | .fin o => .tup [.str "end", nD o]
def codeD (c : List Ln) : D := .tup (c.map Ln.toD)
def mv (m : Nat) : Ln → Ln
  | .goto t => .goto (t + m)
  | .below r n t => .below r n (t + m)
  | c => c
@[simp] theorem pus_nD : ∀ ns : List Nat, pus (ns.map nD) = true
  | [] => rfl
  | n :: ns => by simp [pus_nD ns]
@[simp] theorem pu_ln (c : Ln) : pu c.toD = true := by cases c <;> simp [Ln.toD]
@[simp] theorem pus_ln : ∀ c : List Ln, pus (c.map Ln.toD) = true
  | [] => rfl
  | l :: c => by simp [pus_ln c]
@[simp] theorem pu_code (c : List Ln) : pu (codeD c) = true := by simp [codeD]
/-! ### moved_command, moved_code -/
theorem run_moved_command (c : Ln) (m : Nat) : runB 2 den_moved_command [c.toD, nD m] [] = .ok (mv m c).toD [] := by
  cases c <;> simp [den_moved_command, Ln.toD, mv]
theorem call_moved_command (c : Ln) (m : Nat) (l : Sto) : m_moved_command [c.toD, nD m] l = .ok (mv m c).toD l :=
  callF_p (junk := []) (es := [c.toD, nD m]) (by simp [ins, insOne]) (by simp [idx]) (by simpa [smA, smL] using run_moved_command c m) (by simp)
theorem run_moved_code (c : List Ln) (m : Nat) (hl : c.length ≤ 16777216) : runB 3 den_moved_code [codeD c, nD m] [] = .ok (codeD (c.map (mv m))) [.lst ((c.map (mv m)).map Ln.toD)] := by
  simp only [codeD]
  simp [den_moved_code]
  rw [lcL_map (by simp) Ln.toD (fun x => (mv m x).toD) c [] (fun x _ => ⟨_, rfl, by simp, by simp [e1_moved_code, call_moved_command]⟩) (by simpa using hl)]
  simp
theorem call_moved_code (c : List Ln) (m : Nat) (l : Sto) (hl : c.length ≤ 16777216) : m_moved_code [codeD c, nD m] l = .ok (codeD (c.map (mv m))) l :=
  callF_p (es := [codeD c, nD m]) (by simp [ins, insOne]) (by simp [idx]) (by simpa [smA, smL] using run_moved_code c m hl) (by simp)
/-! ### _law_roll -/
def JOk (J : Jug) : Prop := 0 ≤ J.f ∧ J.f < 2147483587 ∧ J.gs.length ≤ 1000
def rollF (J : Jug) (m : Nat) : Nat × Jug := match J.gs.getLast? with
  | some s => ((s.fmod m).toNat, ⟨J.f, if (m : Int) ≤ s ∧ 1 < m then J.gs.dropLast ++ [s / m] else J.gs.dropLast⟩)
  | none => ((((J.f * 48271 + 11).fmod 2147483587 / 2048).fmod m).toNat, ⟨(J.f * 48271 + 11).fmod 2147483587, []⟩)
theorem log2_lt {j : Int} (h : j.natAbs < 2 ^ 8999) : j.natAbs.log2 < 9000 := by
  by_cases h0 : j.natAbs = 0
  · rw [h0]; decide
  · exact (Nat.log2_lt h0).mpr (Nat.lt_trans h (Nat.pow_lt_pow_right (by decide) (by decide)))
theorem divOk_n {m : Nat} (h1 : 1 ≤ m) (h2 : m ≤ 1000000) : divOk (m : Int) = true := by
  unfold divOk
  rw [Bool.and_eq_true, decide_eq_true_eq, decide_eq_true_eq]
  refine ⟨by omega, ?_⟩
  rw [Int.natAbs_natCast]
  by_cases h0 : m = 0
  · omega
  · exact (Nat.log2_lt h0).mpr (Nat.lt_of_le_of_lt h2 (by
      have : (2 : Nat) ^ 20 ≤ 2 ^ 9000 := Nat.pow_le_pow_right (by decide) (by decide)
      exact Nat.lt_of_lt_of_le (by decide) this))
theorem mulOk_small {i j : Int} (hi : i.natAbs < 2 ^ 64) (hj : j.natAbs < 2 ^ 64) : mulOk i j = true := by
  have key : ∀ n : Nat, n < 2 ^ 64 → n.log2 < 64 := fun n h => by
    by_cases h0 : n = 0
    · subst h0; decide
    · exact (Nat.log2_lt h0).mpr h
  unfold mulOk
  rw [decide_eq_true_eq]
  have := key _ hi
  have := key _ hj
  omega
theorem nD_toNat {i : Int} (h : 0 ≤ i) : D.int i = nD i.toNat := by rw [nD, Int.toNat_of_nonneg h]
theorem fmod_nn (a : Int) {m : Nat} (h : 1 ≤ m) : 0 ≤ a.fmod m := Int.fmod_nonneg_of_pos a (by omega)
theorem run_roll (J : Jug) (m : Nat) (hJ : JOk J) (h1 : 1 ≤ m) (h2 : m ≤ 1000000) : runB 3 den__law_roll [.adr 0, nD m] [J.ob 1, J.gob] = .ok (nD (rollF J m).1) [(rollF J m).2.ob 1, (rollF J m).2.gob] := by
  obtain ⟨f, gs⟩ := J
  have hm : ((m : Nat) : Int) ≠ 0 := by omega
  have hm' : m ≠ 0 := by omega
  have hd := divOk_n h1 h2
  obtain ⟨hJ1, hJ2, hJ3⟩ := hJ
  simp only at hJ1 hJ2 hJ3
  rcases List.eq_nil_or_concat gs with rfl | ⟨gs', s, rfl⟩
  · have hmul : mulOk f 48271 = true := mulOk_small (by omega) (by decide)
    have hd2 : divOk 2048 = true := by decide
    simp [den__law_roll, Jug.ob, Jug.gob, rollF, hm', hmul, hd2]
    have := fmod_nn ((f * 48271 + 11).fmod 2147483587 / 2048) h1
    omega
  · have hl : gs'.length ≤ 16777215 := by simp at hJ3; omega
    have hn := fmod_nn s h1
    by_cases c1 : (m : Int) ≤ s
    · by_cases c2 : 1 < m
      · have c3 : (1 : Int) < m := by omega
        simp [den__law_roll, Jug.ob, Jug.gob, rollF, hm', hd, c1, c2, c3, hl]
        omega
      · have c3 : ¬ (1 : Int) < m := by omega
        simp [den__law_roll, Jug.ob, Jug.gob, rollF, hm', hd, c1, c2, c3]
        omega
    · simp [den__law_roll, Jug.ob, Jug.gob, rollF, hm', hd, c1]
      omega
theorem rollF_lt (J : Jug) {m : Nat} (h1 : 1 ≤ m) : (rollF J m).1 < m := by
  unfold rollF
  split
  · rename_i s _
    have := Int.fmod_lt_of_pos s (b := m) (by omega)
    have := fmod_nn s h1
    simp only
    omega
  · have := Int.fmod_lt_of_pos ((J.f * 48271 + 11).fmod 2147483587 / 2048) (b := m) (by omega)
    have := fmod_nn ((J.f * 48271 + 11).fmod 2147483587 / 2048) h1
    simp only
    omega
theorem rollF_ok {J : Jug} (h : JOk J) (m : Nat) : JOk (rollF J m).2 := by
  obtain ⟨a, b, c⟩ := h
  unfold rollF
  split
  · rename_i s e
    have hne : J.gs ≠ [] := by rintro q; rw [q] at e; cases e
    have hl : J.gs.length ≠ 0 := by simpa using hne
    refine ⟨a, b, ?_⟩
    simp only
    split
    · simp; omega
    · simp; omega
  · refine ⟨Int.fmod_nonneg_of_pos _ (by decide), Int.fmod_lt_of_pos _ (by decide), by simp⟩
theorem call_roll {l : Sto} {w q : Nat} {J : Jug} (m : Nat) (h0 : getJ l w = some (q, J)) (hw : w ≠ q) (hJ : JOk J) (h1 : 1 ≤ m) (h2 : m ≤ 1000000) : m__law_roll [.adr w, nD m] l = .ok (nD (rollF J m).1) (putJ l w q (rollF J m).2) :=
  callJ_p (junk := []) (es := [nD m]) h0 (by simp [ins, insOne]) (by simp [idx, hw]) (by simpa [smA, smL] using run_roll J m hJ h1 h2) (by simp)
end Q88

set_option Elab.async false
set_option linter.all false
set_option maxRecDepth 100000
set_option maxHeartbeats 2000000
namespace Q88
open PySem L2 PySem.Spec PyProof.Rows Zb
abbrev Regs := List Nat
inductive End | thr (at_ : Nat) (rs : Regs) | fin (o : Nat) (rs : Regs)
def End.toD : End → D
  | .thr at_ rs => .tup [.str "throw", nD at_, .tup (rs.map nD)]
  | .fin o rs => .tup [.str "end", nD o, .tup (rs.map nD)]
def mulFit (a b : Nat) : Bool := decide (a.log2 + b.log2 < 1000000)
def stepL (c : List Ln) (p : Nat) (rs : Regs) : Option (Sum End (Nat × Regs)) := match c[p]? with
  | none => none
  | some (.throw _) => some (.inl (.thr p rs))
  | some (.fin o) => some (.inl (.fin o rs))
  | some (.set r n) => if r < rs.length then some (.inr (p + 1, rs.set r n)) else none
  | some (.add r q) => match rs[r]?, rs[q]? with
    | some a, some b => some (.inr (p + 1, rs.set r (a + b)))
    | _, _ => none
  | some (.times r q) => match rs[r]?, rs[q]? with
    | some a, some b => if mulFit a b then some (.inr (p + 1, rs.set r (a * b))) else none
    | _, _ => none
  | some (.take r q ns) => match rs[r]?, rs[q]? with
    | some _, some b => match ns[min b (ns.length - 1)]? with
      | some v => some (.inr (p + 1, rs.set r v))
      | none => none
    | _, _ => none
  | some (.goto t) => some (.inr (t, rs))
  | some (.below r n t) => match rs[r]? with
    | some a => some (.inr (if a < n then t else p + 1, rs))
    | none => none
def doneL (c : List Ln) : Nat → Nat → Regs → Option (Option End)
  | 0, _, _ => some none
  | k + 1, p, rs => match stepL c p rs with
    | none => none
    | some (.inl r) => some (some r)
    | some (.inr (p', rs')) => doneL c k p' rs'
theorem code_at {c : List Ln} {p : Nat} {ln : Ln} (h : c[p]? = some ln) : (c.map Ln.toD)[p]? = some ln.toD := by rw [List.getElem?_map, h]; rfl
/-- the slots of _law_done while it runs -/
def gD (c : List Ln) (p k : Nat) (x3 x4 : Option D) : Sl := [some (codeD c), some (nD p), some (.adr k), x3, x4]
theorem b1_done {c : List Ln} {p : Nat} {rs : Regs} {pre : Sto} {x3 x4 : Option D} {s : Sum End (Nat × Regs)} (h : stepL c p rs = some s) (hlen : rs.length ≤ 1000) :
    match s with
    | .inl e => b1__law_done (gD c p pre.length x3 x4) (pre ++ [.lst (rs.map nD)]) = .rt e.toD (pre ++ [.lst (rs.map nD)])
    | .inr (p', rs') => ∃ x4', b1__law_done (gD c p pre.length x3 x4) (pre ++ [.lst (rs.map nD)]) = .nx (gD c p' pre.length x3 x4') (pre ++ [.lst (rs'.map nD)]) := by
  unfold stepL at h
  cases e : c[p]? with
  | none => rw [e] at h; cases h
  | some ln =>
    rw [e] at h
    have h' := code_at e
    cases ln with
    | throw r => cases h; simp [gD, b1__law_done, codeD, h', Ln.toD, End.toD]
    | fin r => cases h; simp [gD, b1__law_done, codeD, h', Ln.toD, End.toD]
    | set r n =>
      simp only at h
      split at h
      · rename_i hr
        cases h
        simp [gD, b1__law_done, codeD, h', Ln.toD, hr]
      · cases h
    | goto t => cases h; simp [gD, b1__law_done, codeD, h', Ln.toD]
    | add r q =>
      simp only at h
      split at h
      · rename_i a b ha hb
        cases h
        obtain ⟨hr, rfl⟩ := List.getElem?_eq_some_iff.mp ha
        have hr2 : r ≤ 1000000000000 := by omega
        simp [gD, b1__law_done, codeD, h', Ln.toD, hr, hb, hr2, nD]
      · cases h
    | times r q =>
      simp only at h
      split at h
      · rename_i a b ha hb
        split at h
        · rename_i hm
          cases h
          have hm' : mulOk (a : Int) (b : Int) = true := by simpa [mulOk, mulFit] using hm
          obtain ⟨hr, rfl⟩ := List.getElem?_eq_some_iff.mp ha
          simp [gD, b1__law_done, codeD, h', Ln.toD, hr, hb, hm', nD]
        · cases h
      · cases h
    | take r q ns =>
      simp only at h
      split at h
      · rename_i a b ha hb
        split at h
        · rename_i v hv
          cases h
          have hr : r < rs.length := (List.getElem?_eq_some_iff.mp ha).1
          have hne : 0 < ns.length := by
            have := (List.getElem?_eq_some_iff.mp hv).1
            omega
          have hmin : (if (ns.length : Int) - 1 < (b : Int) then (ns.length : Int) - 1 else (b : Int)) = ((min b (ns.length - 1) : Nat) : Int) := by
            split <;> omega
          simp [gD, b1__law_done, codeD, h', Ln.toD, hr, ha, hb, hmin, hv]
        · cases h
      · cases h
    | below r n t =>
      simp only at h
      split at h
      · rename_i a ha
        cases h
        obtain ⟨hr, rfl⟩ := List.getElem?_eq_some_iff.mp ha
        by_cases hc : rs[r] < n
        · simp [gD, b1__law_done, codeD, h', Ln.toD, hr, hc, nD]
        · simp [gD, b1__law_done, codeD, h', Ln.toD, hr, hc, nD]
      · cases h
theorem stepL_len {c : List Ln} {p p' : Nat} {rs rs' : Regs} (h : stepL c p rs = some (.inr (p', rs'))) : rs'.length = rs.length := by
  unfold stepL at h
  repeat' split at h
  all_goals first | (cases h; simp) | cases h | (simp only [Option.some.injEq, Sum.inr.injEq, Prod.mk.injEq] at h; obtain ⟨_, rfl⟩ := h; simp)
theorem loop_done {c : List Ln} {pre : Sto} {it : ItD} (hok : ∀ l, it.ok l) : ∀ (ds : List D) (p : Nat) (rs : Regs) (x3 x4 : Option D) (r : Option End), doneL c ds.length p rs = some r → rs.length ≤ 1000 →
    match r with
    | some e => ∃ L', sForL it (gN 3) b1__law_done ds (gD c p pre.length x3 x4) (pre ++ [.lst (rs.map nD)]) = .rt e.toD (pre ++ [L'])
    | none => ∃ g' L', sForL it (gN 3) b1__law_done ds (gD c p pre.length x3 x4) (pre ++ [.lst (rs.map nD)]) = .nx g' (pre ++ [L'])
  | [], p, rs, x3, x4, r, h, hl => by
    simp only [List.length_nil, doneL, Option.some.injEq] at h
    subst h
    exact ⟨gD c p pre.length x3 x4, .lst (rs.map nD), by simp only [sForL, hok, if_true]⟩
  | d :: ds, p, rs, x3, x4, r, h, hl => by
    simp only [List.length_cons, doneL] at h
    have e0 : gN 3 d (pre ++ [.lst (rs.map nD)]) (gD c p pre.length x3 x4) = some (gD c p pre.length (some d) x4) := rfl
    cases e : stepL c p rs with
    | none => rw [e] at h; cases h
    | some s =>
      rw [e] at h
      have b := b1_done (pre := pre) (x3 := some d) (x4 := x4) e hl
      cases s with
      | inl en =>
        cases h
        simp only at b
        exact ⟨.lst (rs.map nD), by simp only [sForL, hok, if_true, e0, b]⟩
      | inr q =>
        obtain ⟨p', rs'⟩ := q
        simp only at h b
        obtain ⟨x4', b⟩ := b
        have ih := loop_done (pre := pre) hok ds p' rs' (some d) x4' r h (by rw [stepL_len e]; exact hl)
        cases r with
        | some en =>
          obtain ⟨L', ih⟩ := ih
          exact ⟨L', by simp only [sForL, hok, if_true, e0, b, ih]⟩
        | none =>
          obtain ⟨g', L', ih⟩ := ih
          exact ⟨g', L', by simp only [sForL, hok, if_true, e0, b, ih]⟩
def resD : Option End → D
  | some e => e.toD
  | none => .non
@[simp] theorem pu_end (e : End) : pu e.toD = true := by cases e <;> simp [End.toD]
@[simp] theorem pu_res (r : Option End) : pu (resD r) = true := by cases r <;> simp [resD]
theorem rng_len (lo : Int) (n : Nat) : (rng lo n).length = n := by simp [rng]
theorem run_done (c : List Ln) (p : Nat) (rs : Regs) (r : Option End) (h : doneL c 5000 p rs = some r) (hl : rs.length ≤ 1000) : ∃ junk, runB 5 den__law_done [codeD c, nD p, .tup (rs.map nD)] [] = .ok (resD r) ([] ++ junk) := by
  have L := loop_done (c := c) (pre := []) (it := ⟨rng 0 5000, none⟩) (fun _ => trivial) (rng 0 5000) p rs none none r (by rw [rng_len]; exact h) hl
  cases r with
  | some e =>
    obtain ⟨L', hL⟩ := L
    simp only [gD, List.nil_append, List.length_nil] at hL
    exact ⟨[L'], by simp [den__law_done, in62, hL, resD]⟩
  | none =>
    obtain ⟨g', L', hL⟩ := L
    simp only [gD, List.nil_append, List.length_nil] at hL
    exact ⟨[L'], by simp [den__law_done, in62, hL, resD]⟩
theorem run_doneL (c : List Ln) (p : Nat) (rs : Regs) (r : Option End) (h : doneL c 5000 p rs = some r) (hl : rs.length ≤ 1000) : ∃ junk, runB 5 den__law_done [codeD c, nD p, .adr 0] [.lst (rs.map nD)] = .ok (resD r) ([.lst (rs.map nD)] ++ junk) := by
  have L := loop_done (c := c) (pre := [.lst (rs.map nD)]) (it := ⟨rng 0 5000, none⟩) (fun _ => trivial) (rng 0 5000) p rs none none r (by rw [rng_len]; exact h) hl
  cases r with
  | some e =>
    obtain ⟨L', hL⟩ := L
    simp only [gD, List.cons_append, List.nil_append, List.length_cons, List.length_nil] at hL
    exact ⟨[L'], by simp [den__law_done, in62, hL, resD]⟩
  | none =>
    obtain ⟨g', L', hL⟩ := L
    simp only [gD, List.cons_append, List.nil_append, List.length_cons, List.length_nil] at hL
    exact ⟨[L'], by simp [den__law_done, in62, hL, resD]⟩
theorem call_done (c : List Ln) (p : Nat) (rs : Regs) (r : Option End) (h : doneL c 5000 p rs = some r) (hl : rs.length ≤ 1000) (l : Sto) : m__law_done [codeD c, nD p, .tup (rs.map nD)] l = .ok (resD r) l := by
  obtain ⟨junk, e⟩ := run_done c p rs r h hl
  exact callF_p (junk := junk) (es := [codeD c, nD p, .tup (rs.map nD)]) (by simp [ins, insOne]) (by simp [idx]) (by simpa [smA, smL] using e) (by simp)
theorem call_doneL (c : List Ln) (p : Nat) (rs : Regs) (r : Option End) (h : doneL c 5000 p rs = some r) (hl : rs.length ≤ 1000) (l : Sto) (k : Nat) (hk : l[k]? = some (.lst (rs.map nD))) : m__law_doneL [codeD c, nD p, .adr k] l = .ok (resD r) l := by
  obtain ⟨junk, e⟩ := run_doneL c p rs r h hl
  exact callF_p (junk := junk) (es := [codeD c, nD p, .tup (rs.map nD)]) (by simp [ins, insOne, hk]) (by simp [idx]) (by simpa [smA, smL] using e) (by simp)
end Q88

set_option Elab.async false
set_option linter.all false
set_option maxRecDepth 100000
set_option maxHeartbeats 2000000
namespace Q88
open PySem L2 PySem.Spec PyProof.Rows Zb
/-! ### _law_thrown, _law_run, _law_both -/
def thrownL (c : List Ln) (p : Nat) (rs : Regs) (face : Nat) : Option (Option End) := match c[p]? with
  | some (.throw r) => if r < rs.length then doneL c 5000 (p + 1) (rs.set r face) else none
  | _ => none
abbrev facesD (fs : List Nat) : D := .tup (fs.map nD)
theorem run_thrown (c : List Ln) (p : Nat) (rs : Regs) (f : Nat) (r : Option End) (h : thrownL c p rs f = some r) (hl : rs.length ≤ 1000) : ∃ junk, runB 4 den__law_thrown [codeD c, (End.thr p rs).toD, nD f] [] = .ok (resD r) ([] ++ junk) := by
  unfold thrownL at h
  split at h
  · rename_i q e
    split at h
    · rename_i hq
      have h' := code_at e
      refine ⟨[.lst ((rs.set q f).map nD)], ?_⟩
      have hc := call_doneL c (p + 1) (rs.set q f) r h (by simpa using hl) [.lst ((rs.set q f).map nD)] 0 rfl
      have ep : nD (p + 1) = D.int ((p : Int) + 1) := by simp [nD]
      rw [ep] at hc
      simp only [List.map_set] at hc
      simp [den__law_thrown, codeD, End.toD, h', Ln.toD, hq, Nat.lt_of_lt_of_le hq (Nat.le_refl _)]
      simp only [codeD] at hc
      simp [hc]
    · cases h
  · cases h
theorem call_thrown (c : List Ln) (p : Nat) (rs : Regs) (f : Nat) (r : Option End) (h : thrownL c p rs f = some r) (hl : rs.length ≤ 1000) (l : Sto) : m__law_thrown [codeD c, (End.thr p rs).toD, nD f] l = .ok (resD r) l := by
  obtain ⟨junk, e⟩ := run_thrown c p rs f r h hl
  exact callF_p (junk := junk) (es := [codeD c, (End.thr p rs).toD, nD f]) (by simp [ins, insOne]) (by simp [idx]) (by simpa [smA, smL] using e) (by simp)
def goL (c : List Ln) : List Nat → Nat → Option End → Option (Option (Nat × Nat))
  | _, _, none => some none
  | _, used, some (.fin o _) => some (some (o, used))
  | [], _, some (.thr _ _) => some none
  | f :: fs, used, some (.thr p rs) => match thrownL c p rs f with
    | none => none
    | some st => goL c fs (used + 1) st
def runL (c : List Ln) (fs : List Nat) : Option (Option (Nat × Nat)) := match doneL c 5000 0 (List.replicate 10 0) with
  | none => none
  | some st => goL c fs 0 st
def outD : Option (Nat × Nat) → D
  | none => .non
  | some (o, u) => .tup [nD o, nD u]
@[simp] theorem pu_outD (r : Option (Nat × Nat)) : pu (outD r) = true := by
  cases r with
  | none => rfl
  | some r => obtain ⟨o, u⟩ := r; simp [outD]
theorem doneL_len {c : List Ln} : ∀ {k p : Nat} {rs : Regs} {e : End}, doneL c k p rs = some (some e) → (match e with | .thr _ rs' => rs'.length | .fin _ rs' => rs'.length) = rs.length
  | 0, p, rs, e, h => by cases h
  | k + 1, p, rs, e, h => by
    simp only [doneL] at h
    cases q : stepL c p rs with
    | none => rw [q] at h; cases h
    | some s =>
      rw [q] at h
      cases s with
      | inl en =>
        cases h
        unfold stepL at q
        repeat' split at q
        all_goals first | (cases q; rfl) | cases q | simp at q
      | inr t =>
        obtain ⟨p', rs'⟩ := t
        rw [← stepL_len q]
        exact doneL_len (k := k) h
def endK : DS := sRet (dIfE (dBl (dOp hIsN (dV 2) (dC .non))) (dC .non) (dTup (dCons (dOp hIx (dV 2) (dC (.int 1))) (dCons (dV 3) dNil))))
theorem hNotN_end (e : End) (l : Sto) : hNotN e.toD .non l = .ok (.bl true) l := by cases e <;> rfl
theorem hIsN_end (e : End) (l : Sto) : hIsN e.toD .non l = .ok (.bl false) l := by cases e <;> rfl
theorem loop_run {c : List Ln} {all : List Nat} {l : Sto} : ∀ (n : Nat) (fs : List Nat) (used : Nat) (st : Option End) (r : Option (Nat × Nat)), fs.length < n → all.drop used = fs → used ≤ all.length → (∀ p rs, st = some (.thr p rs) → rs.length ≤ 1000) → goL c fs used st = some r →
    ((sWhile n c1__law_run b2__law_run [some (codeD c), some (facesD all), some (resD st), some (nD used)] l).seq endK).toB = .ok (outD r) l
  | 0, fs, used, st, r, h, _, _, _, _ => by omega
  | n + 1, fs, used, none, r, h, h1, h2, h3, e => by
    simp only [goL, Option.some.injEq] at e
    subst e
    simp [sWhile, c1__law_run, resD, endK, outD]
  | n + 1, fs, used, some (.fin o rs), r, h, h1, h2, h3, e => by
    simp only [goL, Option.some.injEq] at e
    subst e
    simp [sWhile, c1__law_run, resD, endK, outD, End.toD]
  | n + 1, [], used, some (.thr p rs), r, h, h1, h2, h3, e => by
    simp only [goL, Option.some.injEq] at e
    subst e
    have hu : used = all.length := by
      have := congrArg List.length h1
      simp at this
      omega
    simp [sWhile, c1__law_run, b2__law_run, resD, endK, outD, End.toD, hu]
  | n + 1, f :: fs, used, some (.thr p rs), r, h, h1, h2, h3, e => by
    simp only [goL] at e
    cases q : thrownL c p rs f with
    | none => rw [q] at e; cases e
    | some st =>
      rw [q] at e
      have hl := h3 p rs rfl
      have hc := call_thrown c p rs f st q hl l
      have hu : used < all.length := by
        have := congrArg List.length h1
        simp at this
        omega
      have hg : all[used]? = some f := by
        have := congrArg (·[0]?) h1
        simpa using this
      have hd : all.drop (used + 1) = fs := by
        have := congrArg List.tail h1
        simpa using this
      have ih := loop_run (c := c) (all := all) (l := l) n fs (used + 1) st r (by simpa using h) hd hu (fun p' rs' e' => by
        subst e'
        unfold thrownL at q
        split at q
        · split at q
          · have := doneL_len q
            simp only [List.length_set] at this
            omega
          · cases q
        · cases q) e
      have en : nD (used + 1) = D.int ((used : Int) + 1) := by simp [nD]
      rw [en] at ih
      have hne : ¬ (used : Int) = (all.length : Int) := by omega
      have hc1 : c1__law_run [some (codeD c), some (facesD all), some (resD (some (.thr p rs))), some (nD used)] l = .ok true l := by simp [c1__law_run, resD, End.toD]
      simp only [End.toD] at hc
      have hb2 : b2__law_run [some (codeD c), some (facesD all), some (resD (some (.thr p rs))), some (nD used)] l = .nx [some (codeD c), some (facesD all), some (resD st), some (D.int ((used : Int) + 1))] l := by
        simp [b2__law_run, resD, End.toD, hne, hg, hc]
      simp only [sWhile, hc1, hb2, out_ok, if_true]
      exact ih
theorem run_run (c : List Ln) (fs : List Nat) (r : Option (Nat × Nat)) (h : runL c fs = some r) (hl : fs.length < 1000) : runB 4 den__law_run [codeD c, facesD fs] [] = .ok (outD r) [] := by
  unfold runL at h
  cases q : doneL c 5000 0 (List.replicate 10 0) with
  | none => rw [q] at h; cases h
  | some st =>
    rw [q] at h
    have hc := call_done c 0 (List.replicate 10 0) st q (by simp) []
    have L := loop_run (c := c) (all := fs) (l := []) fuel fs 0 st r (by unfold fuel; omega) rfl (Nat.zero_le _) (fun p rs e => by
      subst e
      have := doneL_len q
      simp at this
      omega) h
    have e0 : (List.replicate 10 0).map nD = [D.int 0, D.int 0, D.int 0, D.int 0, D.int 0, D.int 0, D.int 0, D.int 0, D.int 0, D.int 0] := rfl
    have e1 : nD 0 = D.int 0 := rfl
    rw [e1] at L
    rw [e1, e0] at hc
    simp only [den__law_run]
    simp [hc]
    exact L
theorem call_run (c : List Ln) (fs : List Nat) (r : Option (Nat × Nat)) (h : runL c fs = some r) (hl : fs.length < 1000) (l : Sto) : m__law_run [codeD c, facesD fs] l = .ok (outD r) l :=
  callF_p (junk := []) (es := [codeD c, facesD fs]) (by simp [ins, insOne]) (by simp [idx]) (by simpa [smA, smL] using run_run c fs r h hl) (by simp)
end Q88

set_option Elab.async false
set_option linter.all false
set_option maxRecDepth 100000
set_option maxHeartbeats 4000000
namespace Q88
open PySem L2 PySem.Spec PyProof.Rows Zb
def codesD (cs : List (List Ln)) : D := .tup (cs.map codeD)
@[simp] theorem pus_codes : ∀ cs : List (List Ln), pus (cs.map codeD) = true
  | [] => rfl
  | l :: c => by simp [pus_codes c]
@[simp] theorem pu_codes (c : List (List Ln)) : pu (codesD c) = true := by simp [codesD]
/-! ### _law_both -/
def bothL (c : List Ln) (cs : List (List Ln)) (fs : List Nat) : Option (Option (Nat × Nat)) := match runL c fs with
  | none => none
  | some none => some none
  | some (some (o, u)) => match cs[o]? with
    | none => none
    | some c2 => match runL c2 (fs.drop u) with
      | none => none
      | some none => some none
      | some (some (o2, u2)) => some (some (o2, u + u2))
theorem run_both (c : List Ln) (cs : List (List Ln)) (fs : List Nat) (r : Option (Nat × Nat)) (h : bothL c cs fs = some r) (hl : fs.length < 1000) (l : Sto) : runB 5 den__law_both [codeD c, codesD cs, facesD fs] l = .ok (outD r) l := by
  unfold bothL at h
  cases q : runL c fs with
  | none => rw [q] at h; cases h
  | some st =>
    rw [q] at h
    have c1 := call_run c fs st q hl l
    cases st with
    | none =>
      cases h
      simp [den__law_both, c1, outD]
    | some ou =>
      obtain ⟨o, u⟩ := ou
      simp only at h
      cases e : cs[o]? with
      | none => rw [e] at h; cases h
      | some c2 =>
        rw [e] at h
        simp only at h
        have hcs : (cs.map codeD)[o]? = some (codeD c2) := by rw [List.getElem?_map, e]; rfl
        cases q2 : runL c2 (fs.drop u) with
        | none => rw [q2] at h; cases h
        | some st2 =>
          rw [q2] at h
          have c2' := call_run c2 (fs.drop u) st2 q2 (by simp; omega) l
          simp only [facesD, List.map_drop] at c2' c1
          simp only [outD] at c1
          cases st2 with
          | none =>
            cases h
            simp only [outD] at c2' ⊢
            simp [den__law_both, c1, codesD, hcs, c2']
          | some ou2 =>
            obtain ⟨o2, u2⟩ := ou2
            cases h
            simp only [outD] at c2' ⊢
            simp [den__law_both, c1, codesD, hcs, c2', nD]
theorem call_both (c : List Ln) (cs : List (List Ln)) (fs : List Nat) (r : Option (Nat × Nat)) (h : bothL c cs fs = some r) (hl : fs.length < 1000) (l : Sto) : m__law_both [codeD c, codesD cs, facesD fs] l = .ok (outD r) l :=
  callF_p (junk := []) (es := [codeD c, codesD cs, facesD fs]) (by simp [ins, insOne]) (by simp [idx]) (by simpa [smA, smL] using run_both c cs fs r h hl []) (by simp)
/-! ### _law_on -/
def onL (p : Nat) : Ln → List Nat
  | .throw _ => []
  | .fin _ => []
  | .goto t => [t]
  | .below _ _ t => [p + 1, t]
  | _ => [p + 1]
theorem run_on (c : List Ln) (p : Nat) (ln : Ln) (h : c[p]? = some ln) : runB 3 den__law_on [codeD c, nD p] [] = .ok (.adr 0) [.lst ((onL p ln).map nD)] := by
  have h' := code_at h
  cases ln <;> simp [den__law_on, codeD, h', Ln.toD, onL, nD]
theorem call_on (c : List Ln) (p : Nat) (ln : Ln) (h : c[p]? = some ln) (l : Sto) : m__law_on [codeD c, nD p] l = .ok (.adr l.length) (l ++ [.lst ((onL p ln).map nD)]) :=
  callF_l (junk := [.lst ((onL p ln).map nD)]) (j := 0) (es := [codeD c, nD p]) (by simp [ins, insOne]) (by simp [idx]) (by simpa [smA, smL] using run_on c p ln h) (by simp [smL]) (by simp [smL]) (by simp)
/-! ### _law_named, renamed_ends -/
def ren (ps : List Nat) : Ln → Ln
  | .fin o => .fin ((ps[o]?).getD 0)
  | c => c
theorem e1_ren {c : Ln} {ps : List Nat} (h : ∀ o, c = .fin o → o < ps.length) (x0 : Option D) (l : Sto) : e1_renamed_ends [x0, some (.tup (ps.map nD)), some c.toD] l = .ok (ren ps c).toD l := by
  cases c with
  | fin o => have := h o rfl; simp [e1_renamed_ends, Ln.toD, ren, this]
  | _ => simp [e1_renamed_ends, Ln.toD, ren]
theorem run_renamed (c : List Ln) (ps : List Nat) (h : ∀ ln ∈ c, ∀ o, ln = .fin o → o < ps.length) (hl : c.length ≤ 16777216) : runB 3 den_renamed_ends [codeD c, .tup (ps.map nD)] [] = .ok (codeD (c.map (ren ps))) [.lst ((c.map (ren ps)).map Ln.toD)] := by
  simp only [codeD]
  simp [den_renamed_ends]
  rw [lcL_map (by simp) Ln.toD (fun x => (ren ps x).toD) c [] (fun x hx => ⟨_, rfl, by simp, by simpa using e1_ren (h x hx) _ []⟩) (by simpa using hl)]
  simp
theorem run_named (c : List Ln) (ps : List Nat) (h : ∀ ln ∈ c, ∀ o, ln = .fin o → o < ps.length) (hl : c.length ≤ 16777216) : runB 3 den__law_named [codeD c, .tup (ps.map nD)] [] = .ok (codeD (c.map (ren ps))) [.lst ((c.map (ren ps)).map Ln.toD)] := run_renamed c ps h hl
theorem call_renamed (c : List Ln) (ps : List Nat) (h : ∀ ln ∈ c, ∀ o, ln = .fin o → o < ps.length) (hl : c.length ≤ 16777216) (l : Sto) : m_renamed_ends [codeD c, .tup (ps.map nD)] l = .ok (codeD (c.map (ren ps))) l :=
  callF_p (es := [codeD c, .tup (ps.map nD)]) (by simp [ins, insOne]) (by simp [idx]) (by simpa [smA, smL] using run_renamed c ps h hl) (by simp)
theorem call_named (c : List Ln) (ps : List Nat) (h : ∀ ln ∈ c, ∀ o, ln = .fin o → o < ps.length) (hl : c.length ≤ 16777216) (l : Sto) : m__law_named [codeD c, .tup (ps.map nD)] l = .ok (codeD (c.map (ren ps))) l :=
  callF_p (es := [codeD c, .tup (ps.map nD)]) (by simp [ins, insOne]) (by simp [idx]) (by simpa [smA, smL] using run_named c ps h hl) (by simp)
end Q88

set_option Elab.async false
set_option linter.all false
set_option maxRecDepth 100000
set_option maxHeartbeats 4000000
namespace Q88
open PySem L2 PySem.Spec PyProof.Rows Zb
/-! ### _law_forms -/
theorem loop_forms {it : ItD} {x0 x1 x2 x3 x5 x6 : Option D} {l : Sto} (hok : it.ok l) : ∀ (ns : List Nat) (x4 : Option D), ∃ x4', sForL it (gN 4) b1__law_forms (ns.map nD) [x0, x1, x2, x3, x4, x5, x6] l = .nx [x0, x1, x2, x3, x4', x5, x6] l
  | [], x4 => ⟨x4, by simp only [List.map_nil, sForL, hok, if_true]⟩
  | n :: ns, x4 => by
    obtain ⟨x4', ih⟩ := loop_forms (x0 := x0) (x1 := x1) (x2 := x2) (x3 := x3) (x5 := x5) (x6 := x6) hok ns (some (nD n))
    have hn : ¬ ((n : Int) < 0) := by omega
    have k1 : kitB "int" "int" = some true := by decide
    have k2 : kitB "int" "bool" = some false := by decide
    have hb : b1__law_forms [x0, x1, x2, x3, some (nD n), x5, x6] l = .nx [x0, x1, x2, x3, some (nD n), x5, x6] l := by
      simp [b1__law_forms, hn, k1, k2]
    have hg : gN 4 (nD n) l [x0, x1, x2, x3, x4, x5, x6] = some [x0, x1, x2, x3, some (nD n), x5, x6] := rfl
    exact ⟨x4', by simp only [List.map_cons, sForL, hok, if_true, hg, hb, ih]⟩
def okLn (N : Nat) : Ln → Bool
  | .throw r => decide (r ≤ 9)
  | .set r _ => decide (r ≤ 9)
  | .add r q => decide (r ≤ 9) && decide (q ≤ 9)
  | .times r q => decide (r ≤ 9) && decide (q ≤ 9)
  | .take r q ns => decide (r ≤ 9) && decide (q ≤ 9) && decide (0 < ns.length) && decide (ns.length ≤ 400)
  | .below r _ t => decide (r ≤ 9) && decide (t < N)
  | .goto t => decide (t < N)
  | .fin _ => true
theorem forms_set (N r n : Nat) (h : r ≤ 9) : ∃ junk, runB 7 den__law_forms [(Ln.set r n).toD, nD N] [] = .ok (.bl true) junk := by
  have k1 : kitB "tuple" "tuple" = some true := by decide
  have k2 : kitB "str" "str" = some true := by decide
  have hr : ¬ (9 : Int) < (r : Int) := by omega
  obtain ⟨x4, e⟩ := loop_forms (it := ⟨[nD r, nD n], some 1⟩) (x0 := some (Ln.set r n).toD) (x1 := some (nD N)) (x2 := some (.adr 0)) (x3 := some (.adr 1)) (x5 := none) (x6 := none) (l := [.dct [(.inr "throw", .int 2), (.inr "set", .int 3), (.inr "add", .int 3), (.inr "times", .int 3), (.inr "take", .int 4), (.inr "below", .int 4), (.inr "goto", .int 2), (.inr "end", .int 2)], .lst [nD r, nD n]]) rfl [r, n] none
  simp only [Ln.toD, List.map_cons, List.map_nil] at e
  simp [den__law_forms, Ln.toD, k1, k2, valD, e, b2__law_forms, for0_cons, in62, hr]
theorem forms_throw (N r : Nat) (h : r ≤ 9) : ∃ junk, runB 7 den__law_forms [(Ln.throw r).toD, nD N] [] = .ok (.bl true) junk := by
  have k1 : kitB "tuple" "tuple" = some true := by decide
  have k2 : kitB "str" "str" = some true := by decide
  have hr : ¬ (9 : Int) < (r : Int) := by omega
  obtain ⟨x4, e⟩ := loop_forms (it := ⟨[nD r], some 1⟩) (x0 := some (Ln.throw r).toD) (x1 := some (nD N)) (x2 := some (.adr 0)) (x3 := some (.adr 1)) (x5 := none) (x6 := none) (l := [.dct [(.inr "throw", .int 2), (.inr "set", .int 3), (.inr "add", .int 3), (.inr "times", .int 3), (.inr "take", .int 4), (.inr "below", .int 4), (.inr "goto", .int 2), (.inr "end", .int 2)], .lst [nD r]]) rfl [r] none
  simp only [Ln.toD, List.map_cons, List.map_nil] at e
  simp [den__law_forms, Ln.toD, k1, k2, valD, e, b2__law_forms, for0_cons, in62, hr]
theorem forms_add (N r q : Nat) (h : r ≤ 9 ∧ q ≤ 9) : ∃ junk, runB 7 den__law_forms [(Ln.add r q).toD, nD N] [] = .ok (.bl true) junk := by
  have k1 : kitB "tuple" "tuple" = some true := by decide
  have k2 : kitB "str" "str" = some true := by decide
  have hr : ¬ (9 : Int) < (r : Int) := by omega
  have hq : ¬ (9 : Int) < (q : Int) := by omega
  obtain ⟨x4, e⟩ := loop_forms (it := ⟨[nD r, nD q], some 1⟩) (x0 := some (Ln.add r q).toD) (x1 := some (nD N)) (x2 := some (.adr 0)) (x3 := some (.adr 1)) (x5 := none) (x6 := none) (l := [.dct [(.inr "throw", .int 2), (.inr "set", .int 3), (.inr "add", .int 3), (.inr "times", .int 3), (.inr "take", .int 4), (.inr "below", .int 4), (.inr "goto", .int 2), (.inr "end", .int 2)], .lst [nD r, nD q]]) rfl [r, q] none
  simp only [Ln.toD, List.map_cons, List.map_nil] at e
  simp [den__law_forms, Ln.toD, k1, k2, valD, e, b2__law_forms, for0_cons, in62, hr, hq]
theorem forms_times (N r q : Nat) (h : r ≤ 9 ∧ q ≤ 9) : ∃ junk, runB 7 den__law_forms [(Ln.times r q).toD, nD N] [] = .ok (.bl true) junk := by
  have k1 : kitB "tuple" "tuple" = some true := by decide
  have k2 : kitB "str" "str" = some true := by decide
  have hr : ¬ (9 : Int) < (r : Int) := by omega
  have hq : ¬ (9 : Int) < (q : Int) := by omega
  obtain ⟨x4, e⟩ := loop_forms (it := ⟨[nD r, nD q], some 1⟩) (x0 := some (Ln.times r q).toD) (x1 := some (nD N)) (x2 := some (.adr 0)) (x3 := some (.adr 1)) (x5 := none) (x6 := none) (l := [.dct [(.inr "throw", .int 2), (.inr "set", .int 3), (.inr "add", .int 3), (.inr "times", .int 3), (.inr "take", .int 4), (.inr "below", .int 4), (.inr "goto", .int 2), (.inr "end", .int 2)], .lst [nD r, nD q]]) rfl [r, q] none
  simp only [Ln.toD, List.map_cons, List.map_nil] at e
  simp [den__law_forms, Ln.toD, k1, k2, valD, e, b2__law_forms, for0_cons, in62, hr, hq]
theorem forms_below (N r n t : Nat) (h : r ≤ 9 ∧ t < N) : ∃ junk, runB 7 den__law_forms [(Ln.below r n t).toD, nD N] [] = .ok (.bl true) junk := by
  have k1 : kitB "tuple" "tuple" = some true := by decide
  have k2 : kitB "str" "str" = some true := by decide
  have hr : ¬ (9 : Int) < (r : Int) := by omega
  have ht : t < N := by omega
  obtain ⟨x4, e⟩ := loop_forms (it := ⟨[nD r, nD n, nD t], some 1⟩) (x0 := some (Ln.below r n t).toD) (x1 := some (nD N)) (x2 := some (.adr 0)) (x3 := some (.adr 1)) (x5 := none) (x6 := none) (l := [.dct [(.inr "throw", .int 2), (.inr "set", .int 3), (.inr "add", .int 3), (.inr "times", .int 3), (.inr "take", .int 4), (.inr "below", .int 4), (.inr "goto", .int 2), (.inr "end", .int 2)], .lst [nD r, nD n, nD t]]) rfl [r, n, t] none
  simp only [Ln.toD, List.map_cons, List.map_nil] at e
  simp [den__law_forms, Ln.toD, k1, k2, valD, e, b2__law_forms, for0_cons, in62, hr, ht]
theorem forms_goto (N t : Nat) (h : t < N) : ∃ junk, runB 7 den__law_forms [(Ln.goto t).toD, nD N] [] = .ok (.bl true) junk := by
  have k1 : kitB "tuple" "tuple" = some true := by decide
  have k2 : kitB "str" "str" = some true := by decide
  have ht : t < N := by omega
  obtain ⟨x4, e⟩ := loop_forms (it := ⟨[nD t], some 1⟩) (x0 := some (Ln.goto t).toD) (x1 := some (nD N)) (x2 := some (.adr 0)) (x3 := some (.adr 1)) (x5 := none) (x6 := none) (l := [.dct [(.inr "throw", .int 2), (.inr "set", .int 3), (.inr "add", .int 3), (.inr "times", .int 3), (.inr "take", .int 4), (.inr "below", .int 4), (.inr "goto", .int 2), (.inr "end", .int 2)], .lst [nD t]]) rfl [t] none
  simp only [Ln.toD, List.map_cons, List.map_nil] at e
  simp [den__law_forms, Ln.toD, k1, k2, valD, e, b2__law_forms, for0_cons, in62, ht]
theorem forms_fin (N o : Nat) (h : True) : ∃ junk, runB 7 den__law_forms [(Ln.fin o).toD, nD N] [] = .ok (.bl true) junk := by
  have k1 : kitB "tuple" "tuple" = some true := by decide
  have k2 : kitB "str" "str" = some true := by decide
  obtain ⟨x4, e⟩ := loop_forms (it := ⟨[nD o], some 1⟩) (x0 := some (Ln.fin o).toD) (x1 := some (nD N)) (x2 := some (.adr 0)) (x3 := some (.adr 1)) (x5 := none) (x6 := none) (l := [.dct [(.inr "throw", .int 2), (.inr "set", .int 3), (.inr "add", .int 3), (.inr "times", .int 3), (.inr "take", .int 4), (.inr "below", .int 4), (.inr "goto", .int 2), (.inr "end", .int 2)], .lst [nD o]]) rfl [o] none
  simp only [Ln.toD, List.map_cons, List.map_nil] at e
  simp [den__law_forms, Ln.toD, k1, k2, valD, e, b2__law_forms, for0_cons, in62]
theorem forms_take (N r q : Nat) (ns : List Nat) (h : r ≤ 9 ∧ q ≤ 9 ∧ 0 < ns.length ∧ ns.length ≤ 400) : ∃ junk, runB 7 den__law_forms [(Ln.take r q ns).toD, nD N] [] = .ok (.bl true) junk := by
  have k1 : kitB "tuple" "tuple" = some true := by decide
  have k2 : kitB "str" "str" = some true := by decide
  have hr : ¬ (9 : Int) < (r : Int) := by omega
  have hq : ¬ (9 : Int) < (q : Int) := by omega
  have h1 : (0 : Int) < (ns.length : Int) := by omega
  have h2 : (ns.length : Int) ≤ 400 := by omega
  have h3 : 2 + ns.length ≤ 16777216 := by omega
  obtain ⟨x4, e⟩ := loop_forms (it := ⟨nD r :: nD q :: ns.map nD, some 1⟩) (x0 := some (Ln.take r q ns).toD) (x1 := some (nD N)) (x2 := some (.adr 0)) (x3 := some (.adr 1)) (x5 := none) (x6 := none) (l := [.dct [(.inr "throw", .int 2), (.inr "set", .int 3), (.inr "add", .int 3), (.inr "times", .int 3), (.inr "take", .int 4), (.inr "below", .int 4), (.inr "goto", .int 2), (.inr "end", .int 2)], .lst (nD r :: nD q :: ns.map nD)]) rfl (r :: q :: ns) none
  simp only [Ln.toD, List.map_cons] at e
  simp [den__law_forms, Ln.toD, k1, k2, valD, e, b2__law_forms, for0_cons, in62, hr, hq, h1, h2, h3, h.2.2.1, h.2.2.2]
theorem run_forms (N : Nat) (ln : Ln) (h : okLn N ln = true) : ∃ junk, runB 7 den__law_forms [ln.toD, nD N] [] = .ok (.bl true) junk := by
  cases ln <;> simp only [okLn, Bool.and_eq_true, decide_eq_true_eq] at h
  · exact forms_throw _ _ h
  · exact forms_set _ _ _ h
  · exact forms_add _ _ _ h
  · exact forms_times _ _ _ h
  · exact forms_take _ _ _ _ ⟨h.1.1.1, h.1.1.2, h.1.2, h.2⟩
  · exact forms_below _ _ _ _ h
  · exact forms_goto _ _ h
  · exact forms_fin _ _ trivial
theorem call_forms (N : Nat) (ln : Ln) (h : okLn N ln = true) (l : Sto) : m__law_forms [ln.toD, nD N] l = .ok (.bl true) l := by
  obtain ⟨junk, e⟩ := run_forms N ln h
  exact callF_p (junk := junk) (es := [ln.toD, nD N]) (by simp [ins, insOne]) (by simp [idx]) (by simpa [smA, smL] using e) (by simp)
/-! ### _law_shifted, shifted_code -/
def zeroL (r : Nat) : Ln := .set r 0
def shiftL (m : Nat) (c : List Ln) : List Ln := List.replicate m (zeroL 9) ++ c.map (mv m)
theorem b1_shift {c : Ln} {m : Nat} {x0 : Option D} {k : Nat} {l : Sto} {ds : List D} (h : l[k]? = some (.lst ds)) (hl : ds.length < 16777216) : ∃ x3, b1__law_shifted [x0, some (nD m), some (.adr k), some c.toD] l = .nx [x0, some (nD m), some (.adr k), x3] (l.set k (.lst (ds ++ [(mv m c).toD]))) := by
  have hl' : ds.length ≤ 16777215 := by omega
  cases c <;> simp [b1__law_shifted, Ln.toD, mv, h, hl', nD]
theorem loop_shift {it : ItD} (hok : ∀ l, it.ok l) {m : Nat} {x0 : Option D} {a : OB} : ∀ (c : List Ln) (x3 : Option D) (ds : List D), ds.length + c.length ≤ 16777216 →
    ∃ x3', sForL it (gN 3) b1__law_shifted (c.map Ln.toD) [x0, some (nD m), some (.adr 1), x3] [a, .lst ds] = .nx [x0, some (nD m), some (.adr 1), x3'] [a, .lst (ds ++ (c.map (mv m)).map Ln.toD)]
  | [], x3, ds, _ => ⟨x3, by rw [List.map_nil, for_nil _ _ _ _ (hok _)]; simp⟩
  | c :: cs, x3, ds, hl => by
    simp only [List.length_cons] at hl
    obtain ⟨x3', e⟩ := b1_shift (c := c) (m := m) (x0 := x0) (k := 1) (l := [a, .lst ds]) rfl (by omega)
    obtain ⟨x3'', ih⟩ := loop_shift (x0 := x0) (a := a) (m := m) hok cs x3' (ds ++ [(mv m c).toD]) (by simp; omega)
    have hg : gN 3 c.toD [a, .lst ds] [x0, some (nD m), some (.adr 1), x3] = some [x0, some (nD m), some (.adr 1), some c.toD] := rfl
    refine ⟨x3'', ?_⟩
    rw [List.map_cons, for_cons _ _ _ _ _ _ (hok _), hg]
    simp only [e, loop_nx]
    have e2 : ([a, OB.lst ds] : Sto).set 1 (.lst (ds ++ [(mv m c).toD])) = [a, .lst (ds ++ [(mv m c).toD])] := rfl
    rw [e2, ih]
    simp
theorem flat_one {α : Type} (x : α) (m : Nat) : (List.replicate m [x]).flatten = List.replicate m x := by
  induction m with
  | zero => rfl
  | succ m ih => rw [List.replicate_succ, List.replicate_succ, List.flatten_cons, ih]; rfl
theorem run_shifted (c : List Ln) (m : Nat) (hl : m + c.length ≤ 16000000) : ∃ junk, runB 4 den__law_shifted [codeD c, nD m] [] = .ok (codeD (shiftL m c)) junk := by
  have hm : m ≤ 16777216 := by omega
  have h2 : m ≤ 1000000000000 := by omega
  have h3 : True := trivial
  obtain ⟨x3, e⟩ := loop_shift (it := ⟨c.map Ln.toD, none⟩) (fun _ => trivial) (m := m) (x0 := some (codeD c)) (a := .lst [(zeroL 9).toD]) c none (List.replicate m (zeroL 9).toD) (by simp; omega)
  simp only [zeroL, Ln.toD, codeD] at e
  have e9 : nD 9 = D.int 9 := rfl
  have e0 : nD 0 = D.int 0 := rfl
  rw [e9, e0] at e
  simp [den__law_shifted, codeD, flat_one, hm, h2, h3, e]
  simp [shiftL, zeroL, Ln.toD, e9, e0]
theorem call_shifted (c : List Ln) (m : Nat) (hl : m + c.length ≤ 16000000) (l : Sto) : m__law_shifted [codeD c, nD m] l = .ok (codeD (shiftL m c)) l := by
  obtain ⟨junk, e⟩ := run_shifted c m hl
  exact callF_p (junk := junk) (es := [codeD c, nD m]) (by simp [ins, insOne]) (by simp [idx]) (by simpa [smA, smL] using e) (by simp)
theorem run_shiftX (C : Addr) (c : List Ln) (m : Nat) (hl : c.length + m ≤ 4000) : runX 2 (den_shifted_code C) [codeD c, nD m] [] = .ok (codeD (shiftL m c)) [] := by
  have hm : m ≤ 16777216 := by omega
  have h2 : m ≤ 1000000000000 := by omega
  have h3 : True := trivial
  have h4 : ¬ (4000 : Int) < (c.length : Int) + (m : Int) := by omega
  have h5 : m + c.length ≤ 16777216 := by omega
  have hc := call_moved_code c m [] (by omega)
  simp only [codeD] at hc
  have e9 : nD 9 = D.int 9 := rfl
  have e0 : nD 0 = D.int 0 := rfl
  simp [den_shifted_code, codeD, flat_one, hm, h2, h3, h4, h5, hc]
  simp [shiftL, zeroL, Ln.toD, e9, e0]
theorem call_shiftX (C : Addr) (c : List Ln) (m : Nat) (hl : c.length + m ≤ 4000) (l : Sto) : m_shifted_code C [codeD c, nD m] l = .ok (codeD (shiftL m c)) l :=
  callF_p (junk := []) (es := [codeD c, nD m]) (by simp [ins, insOne]) (by simp [idx]) (by simpa [smA, smL] using run_shiftX C c m hl) (by simp)
theorem run_shiftX_no (C : Addr) (c : List Ln) (m : Nat) (hl : 4000 < c.length + m) (l : Sto) : runX 2 (den_shifted_code C) [codeD c, nD m] l = .exc C [("word", .str "size")] l := by
  have h4 : (4000 : Int) < (c.length : Int) + (m : Int) := by omega
  simp [den_shifted_code, codeD, h4, Zx.sRaise]
end Q88

set_option Elab.async false
set_option linter.all false
set_option maxRecDepth 100000
set_option maxHeartbeats 4000000
namespace Q88
open PySem L2 PySem.Spec PyProof.Rows Zb
/-! ### joined_code -/
def clearL : List Ln := (List.range 10).map fun r => .set r 0
def parts : Nat → List (List Ln) → List Ln
  | _, [] => []
  | n, c :: cs => (clearL ++ c.map (mv (n + 10))) ++ parts (n + (10 + c.length)) cs
def begs : Nat → List (List Ln) → List Nat
  | _, [] => []
  | n, c :: cs => n :: begs (n + (10 + c.length)) cs
def jmp (bs : List Nat) : Ln → Ln
  | .fin o => .goto ((bs[o]?).getD 0)
  | c => c
def joinL (c : List Ln) (cs : List (List Ln)) : List Ln := c.map (jmp (begs c.length cs)) ++ parts c.length cs
def total (cs : List (List Ln)) : Nat := (cs.map fun c => c.length + 10).sum
theorem clearL_len : clearL.length = 10 := rfl
theorem parts_len : ∀ (n : Nat) (cs : List (List Ln)), (parts n cs).length = total cs
  | _, [] => rfl
  | n, c :: cs => by
    simp only [parts, List.length_append, parts_len, clearL_len, List.length_map, total, List.map_cons, List.sum_cons]
    omega
theorem begs_len : ∀ (n : Nat) (cs : List (List Ln)), (begs n cs).length = cs.length
  | _, [] => rfl
  | n, c :: cs => by simp [begs, begs_len]
theorem clr (C : Addr) (x0 x1 x2 x3 x4 x5 x6 x7 x8 : Option D) (l : Sto) : lcL ⟨rng 0 10, none⟩ (gN 9) dYes (e2_joined_code C) [x0, x1, x2, x3, x4, x5, x6, x7, x8, none] (rng 0 10) l [] = .ok (clearL.map Ln.toD) l := by
  have h := lcL_map (it := ⟨rng 0 10, none⟩) (gt := gN 9) (ct := dYes) (fe := e2_joined_code C) (gw := [x0, x1, x2, x3, x4, x5, x6, x7, x8, none]) (l := l) trivial (fun i : Nat => D.int (0 + (i : Int))) (fun i => (Ln.set i 0).toD) (List.range 10) []
    (fun i _ => ⟨_, rfl, rfl, by simp [e2_joined_code, Ln.toD, nD]⟩) (by simp)
  exact h.trans (by simp [clearL])
theorem b3_join (C : Addr) {c other : List Ln} {x1 x5 x6 x7 : Option D} {bh : List Ln} {bs : List Nat} {A : OB} {junk : Sto} (h : bh.length + 10 + other.length ≤ 16000000) (hb : bs.length < 16000000) :
    ∃ x5' x6' junk', b3_joined_code C [some (codeD c), x1, some (.adr 1), some (codeD bh), some (codeD other), x5, x6, x7, none, none] (A :: .lst (bs.map nD) :: junk) =
      .nx [some (codeD c), x1, some (.adr 1), some (codeD (bh ++ (clearL ++ other.map (mv (c.length + bh.length + 10))))), some (codeD other), x5', x6', x7, none, none] (A :: .lst ((bs ++ [c.length + bh.length]).map nD) :: junk') := by
  have hb' : bs.length ≤ 16777215 := by omega
  have h1 : bh.length + 10 ≤ 16777216 := by omega
  have h2 : bh.length + 10 + other.length ≤ 16777216 := by omega
  have hc := fun l => call_moved_code other (c.length + bh.length + 10) l (by omega)
  have en : nD (c.length + bh.length + 10) = D.int ((c.length : Int) + (bh.length : Int) + 10) := by simp [nD]
  rw [en] at hc
  simp only [codeD] at hc
  simp [b3_joined_code, codeD, hb', clr, hc, clearL_len, h1, h2, nD, in62]
theorem loop_join (C : Addr) {it : ItD} (hok : ∀ l, it.ok l) {c : List Ln} {x1 x7 : Option D} {A : OB} : ∀ (cs : List (List Ln)) (bh : List Ln) (bs : List Nat) (x4 x5 x6 : Option D) (junk : Sto), bh.length + total cs ≤ 16000000 → bs.length + cs.length ≤ 16000000 →
    ∃ x4' x5' x6' junk', sForL it (gN 4) (b3_joined_code C) (cs.map codeD) [some (codeD c), x1, some (.adr 1), some (codeD bh), x4, x5, x6, x7, none, none] (A :: .lst (bs.map nD) :: junk) =
      .nx [some (codeD c), x1, some (.adr 1), some (codeD (bh ++ parts (c.length + bh.length) cs)), x4', x5', x6', x7, none, none] (A :: .lst ((bs ++ begs (c.length + bh.length) cs).map nD) :: junk')
  | [], bh, bs, x4, x5, x6, junk, _, _ => ⟨x4, x5, x6, junk, by rw [List.map_nil, for_nil _ _ _ _ (hok _)]; simp [parts, begs]⟩
  | o :: cs, bh, bs, x4, x5, x6, junk, h, hb => by
    simp only [total, List.map_cons, List.sum_cons, List.length_cons] at h hb
    obtain ⟨x5', x6', junk', e⟩ := b3_join C (c := c) (other := o) (x1 := x1) (x5 := x5) (x6 := x6) (x7 := x7) (bh := bh) (bs := bs) (A := A) (junk := junk) (by omega) (by omega)
    have hl2 : (bh ++ (clearL ++ o.map (mv (c.length + bh.length + 10)))).length = bh.length + (10 + o.length) := by simp [clearL_len]
    obtain ⟨y4, y5, y6, junk2, ih⟩ := loop_join C (c := c) (x1 := x1) (x7 := x7) (A := A) hok cs (bh ++ (clearL ++ o.map (mv (c.length + bh.length + 10)))) (bs ++ [c.length + bh.length]) (some (codeD o)) x5' x6' junk' (by rw [hl2]; simp only [total]; omega) (by simp; omega)
    have hg : gN 4 (codeD o) (A :: .lst (bs.map nD) :: junk) [some (codeD c), x1, some (.adr 1), some (codeD bh), x4, x5, x6, x7, none, none] = some [some (codeD c), x1, some (.adr 1), some (codeD bh), some (codeD o), x5, x6, x7, none, none] := rfl
    refine ⟨y4, y5, y6, junk2, ?_⟩
    rw [List.map_cons, for_cons _ _ _ _ _ _ (hok _), hg]
    simp only [e, loop_nx, ih]
    rw [hl2]
    have e3 : c.length + (bh.length + (10 + o.length)) = c.length + bh.length + (10 + o.length) := by omega
    rw [e3]
    simp [parts, begs]
def szs (cs : List (List Ln)) : List Int := cs.map fun c => ((c.length + 10 : Nat) : Int)
theorem sizes (C : Addr) (x0 x1 x2 x3 x5 x6 x7 x8 x9 : Option D) (cs : List (List Ln)) (l : Sto) (hl : cs.length ≤ 16777216) : lcL ⟨cs.map codeD, none⟩ (gN 4) dYes (e1_joined_code C) [x0, x1, x2, x3, none, x5, x6, x7, x8, x9] (cs.map codeD) l [] = .ok ((szs cs).map D.int) l := by
  have h := lcL_map (it := ⟨cs.map codeD, none⟩) (gt := gN 4) (ct := dYes) (fe := e1_joined_code C) (gw := [x0, x1, x2, x3, none, x5, x6, x7, x8, x9]) (l := l) trivial codeD (fun c => D.int ((c.length + 10 : Nat) : Int)) cs []
    (fun c _ => ⟨_, rfl, rfl, by simp [e1_joined_code, codeD]⟩) (by simpa using hl)
  exact h.trans (by simp [szs])
theorem sum_sizes : ∀ cs : List (List Ln), (szs cs).sum = ((total cs : Nat) : Int)
  | [] => rfl
  | c :: cs => by
    have := sum_sizes cs
    simp only [szs, List.map_cons, List.sum_cons, total] at this ⊢
    rw [this]
    omega
theorem e4_jmp (C : Addr) {ln : Ln} {bs : List Nat} (h : ∀ o, ln = .fin o → o < bs.length) (x0 x1 x3 x4 x5 x6 x7 x9 : Option D) (A : OB) (junk : Sto) : e4_joined_code C [x0, x1, some (.adr 1), x3, x4, x5, x6, x7, some ln.toD, x9] (A :: .lst (bs.map nD) :: junk) = .ok (jmp bs ln).toD (A :: .lst (bs.map nD) :: junk) := by
  cases ln with
  | fin o => have := h o rfl; simp [e4_joined_code, Ln.toD, jmp, this]
  | _ => simp [e4_joined_code, Ln.toD, jmp]
theorem tolds (C : Addr) (x0 x1 x3 x4 x5 x6 x7 x9 : Option D) (c : List Ln) (bs : List Nat) (A : OB) (junk : Sto) (h : ∀ ln ∈ c, ∀ o, ln = .fin o → o < bs.length) (hl : c.length ≤ 16777216) :
    lcL ⟨c.map Ln.toD, none⟩ (gN 8) dYes (e4_joined_code C) [x0, x1, some (.adr 1), x3, x4, x5, x6, x7, none, x9] (c.map Ln.toD) (A :: .lst (bs.map nD) :: junk) [] = .ok ((c.map (jmp bs)).map Ln.toD) (A :: .lst (bs.map nD) :: junk) := by
  have h := lcL_map (it := ⟨c.map Ln.toD, none⟩) (gt := gN 8) (ct := dYes) (fe := e4_joined_code C) (gw := [x0, x1, some (.adr 1), x3, x4, x5, x6, x7, none, x9]) (l := A :: .lst (bs.map nD) :: junk) trivial Ln.toD (fun x => (jmp bs x).toD) c []
    (fun x hx => ⟨_, rfl, rfl, by simpa using e4_jmp C (h x hx) x0 x1 x3 x4 x5 x6 x7 x9 A junk⟩) (by simpa using hl)
  exact h.trans (by simp)
theorem run_joinX (C : Addr) (c : List Ln) (cs : List (List Ln)) (h : ∀ ln ∈ c, ∀ o, ln = .fin o → o < cs.length) (hl : c.length + total cs ≤ 4000) (hc : cs.length ≤ 1000) : ∃ junk, runX 10 (den_joined_code C) [codeD c, codesD cs] [] = .ok (codeD (joinL c cs)) junk := by
  have h1 : ¬ (4000 : Int) < (c.length : Int) + ((total cs : Nat) : Int) := by omega
  obtain ⟨x4, x5, x6, junk, e⟩ := loop_join C (it := ⟨cs.map codeD, none⟩) (fun _ => trivial) (c := c) (x1 := some (codesD cs)) (x7 := none) (A := .lst ((szs cs).map D.int)) cs [] [] none none none [] (by simp; omega) (by simp; omega)
  have ht := fun x3 x4 x5 x6 x7 x9 => tolds C (some (codeD c)) (some (codesD cs)) x3 x4 x5 x6 x7 x9 c (begs c.length cs) (.lst ((szs cs).map D.int)) junk (by rw [begs_len]; exact h) (by omega)
  simp only [codeD, codesD, List.map_nil, List.nil_append, List.length_nil, Nat.add_zero] at e ht
  have hz := fun x0 x1 x2 x3 x5 x6 x7 x8 x9 l => sizes C x0 x1 x2 x3 x5 x6 x7 x8 x9 cs l (by omega)
  have h5 : c.length + (parts c.length cs).length ≤ 16777216 := by rw [parts_len]; omega
  simp [den_joined_code, codeD, codesD, hz, sum_sizes, h1, e, ht, h5, joinL]
theorem run_joinX_no (C : Addr) (c : List Ln) (cs : List (List Ln)) (hl : 4000 < c.length + total cs) (hc : cs.length ≤ 1000) : ∃ junk, runX 10 (den_joined_code C) [codeD c, codesD cs] [] = .exc C [("word", .str "size")] junk := by
  have h1 : (4000 : Int) < (c.length : Int) + ((total cs : Nat) : Int) := by omega
  have hz := fun x0 x1 x2 x3 x5 x6 x7 x8 x9 l => sizes C x0 x1 x2 x3 x5 x6 x7 x8 x9 cs l (by omega)
  simp [den_joined_code, codeD, codesD, hz, sum_sizes, h1, Zx.sRaise]
theorem call_joinX (C : Addr) (c : List Ln) (cs : List (List Ln)) (h : ∀ ln ∈ c, ∀ o, ln = .fin o → o < cs.length) (hl : c.length + total cs ≤ 4000) (hc : cs.length ≤ 1000) (l : Sto) : m_joined_code C [codeD c, codesD cs] l = .ok (codeD (joinL c cs)) l := by
  obtain ⟨junk, e⟩ := run_joinX C c cs h hl hc
  exact callF_p (junk := junk) (es := [codeD c, codesD cs]) (by simp [ins, insOne]) (by simp [idx]) (by simpa [smA, smL] using e) (by simp)
/-! ### _law_refused -/
theorem run_refJ (C : Addr) (c : List Ln) (cs : List (List Ln)) (h : ∀ ln ∈ c, ∀ o, ln = .fin o → o < cs.length) (hc : cs.length ≤ 1000) : ∃ junk, runB 3 (den__law_refused C) [.str "joined", .tup [codeD c, codesD cs]] [] = .ok (if c.length + total cs ≤ 4000 then .non else .str "size") junk := by
  by_cases hl : c.length + total cs ≤ 4000
  · obtain ⟨junk, e⟩ := run_joinX C c cs h hl hc
    simp at e
    simp [den__law_refused, Zx.sTryF, perm_joined_code, e, hl]
  · obtain ⟨junk, e⟩ := run_joinX_no C c cs (by omega) hc
    simp at e
    simp [den__law_refused, Zx.sTryF, perm_joined_code, e, hl]
theorem run_refS (C : Addr) (c : List Ln) (m : Nat) : ∃ junk, runB 3 (den__law_refused C) [.str "shifted", .tup [codeD c, nD m]] [] = .ok (if c.length + m ≤ 4000 then .non else .str "size") junk := by
  by_cases hl : c.length + m ≤ 4000
  · have e := run_shiftX C c m hl
    simp at e
    simp [den__law_refused, Zx.sTryF, e, hl]
  · have e := run_shiftX_no C c m (by omega) []
    simp at e
    simp [den__law_refused, Zx.sTryF, e, hl]
theorem call_refJ (C : Addr) (c : List Ln) (cs : List (List Ln)) (h : ∀ ln ∈ c, ∀ o, ln = .fin o → o < cs.length) (hc : cs.length ≤ 1000) (l : Sto) : m__law_refused C [.str "joined", .tup [codeD c, codesD cs]] l = .ok (if c.length + total cs ≤ 4000 then .non else .str "size") l := by
  obtain ⟨junk, e⟩ := run_refJ C c cs h hc
  exact callF_p (junk := junk) (es := [.str "joined", .tup [codeD c, codesD cs]]) (by simp [ins, insOne]) (by simp [idx]) (by simpa [smA, smL] using e) (by split <;> rfl)
theorem call_refS (C : Addr) (c : List Ln) (m : Nat) (l : Sto) : m__law_refused C [.str "shifted", .tup [codeD c, nD m]] l = .ok (if c.length + m ≤ 4000 then .non else .str "size") l := by
  obtain ⟨junk, e⟩ := run_refS C c m
  exact callF_p (junk := junk) (es := [.str "shifted", .tup [codeD c, nD m]]) (by simp [ins, insOne]) (by simp [idx]) (by simpa [smA, smL] using e) (by split <;> rfl)
end Q88

set_option Elab.async false
set_option linter.all false
set_option maxRecDepth 100000
set_option maxHeartbeats 4000000
namespace Q88
open PySem L2 PySem.Spec PyProof.Rows Zb
/-! ### _law_alike on one and the same thing -/
mutual
def plD : D → Bool
  | .int _ => true
  | .str _ => true
  | .tup ds => plDs ds
  | _ => false
def plDs : List D → Bool
  | [] => true
  | d :: ds => plD d && plDs ds
end
mutual
def wD : D → Nat
  | .tup ds => 1 + wDs ds
  | _ => 1
def wDs : List D → Nat
  | [] => 0
  | d :: ds => wD d + wDs ds
end
theorem wDs_app : ∀ xs ys : List D, wDs (xs ++ ys) = wDs xs + wDs ys
  | [], ys => by simp [wDs]
  | x :: xs, ys => by simp [wDs, wDs_app xs ys]; omega
theorem plDs_app : ∀ xs ys : List D, plDs (xs ++ ys) = (plDs xs && plDs ys)
  | [], ys => by simp [plDs]
  | x :: xs, ys => by simp [plDs, plDs_app xs ys, Bool.and_assoc]
theorem wD_pos (d : D) : 1 ≤ wD d := by cases d <;> simp [wD]
theorem wDs_len : ∀ xs : List D, xs.length ≤ wDs xs
  | [] => by simp [wDs]
  | x :: xs => by
    have := wDs_len xs
    have := wD_pos x
    simp only [List.length_cons, wDs]
    omega
def pr (d : D) : D := .tup [d, d]
theorem pairsL (x0 x1 x2 : Option D) (ds : List D) (l : Sto) (hl : ds.length ≤ 16777216) : lcL ⟨rng 0 ds.length, none⟩ (gN 5) dYes e1__law_alike [x0, x1, x2, some (.tup ds), some (.tup ds), none] (rng 0 ds.length) l [] = .ok (ds.map pr) l := by
  have h := lcL_map (it := ⟨rng 0 ds.length, none⟩) (gt := gN 5) (ct := dYes) (fe := e1__law_alike) (gw := [x0, x1, x2, some (.tup ds), some (.tup ds), none]) (l := l) trivial (fun i : Nat => D.int (0 + (i : Int))) (fun i => pr (ds.getD i .non)) (List.range ds.length) []
    (fun i hi => ⟨_, rfl, rfl, by
      have hi' : i < ds.length := by simpa using hi
      simp [e1__law_alike, pr, hi']⟩) (by simpa using hl)
  refine h.trans ?_
  rw [List.nil_append]
  congr 1
  apply List.ext_getElem
  · simp
  · intro i h1 h2
    simp at h1 h2 ⊢
    simp [h2]
def gA (t u : D) (x3 x4 x5 : Option D) : Sl := [some t, some u, some (.adr 0), x3, x4, x5]
theorem b3_int (t u : D) (x3 x4 x5 : Option D) (xs : List D) (i : Int) (junk : Sto) : ∃ y3 y4, b3__law_alike (gA t u x3 x4 x5) (.lst ((xs ++ [D.int i]).map pr) :: junk) = .nx (gA t u y3 y4 x5) (.lst (xs.map pr) :: junk) := by
  have k1 : kitB "int" "bool" = some false := by decide
  have k2 : kitB "int" "int" = some true := by decide
  have k3 : kitB "int" "str" = some false := by decide
  simp [b3__law_alike, gA, pr, k1, k2, k3]
theorem b3_str (t u : D) (x3 x4 x5 : Option D) (xs : List D) (i : Str) (junk : Sto) : ∃ y3 y4, b3__law_alike (gA t u x3 x4 x5) (.lst ((xs ++ [D.str i]).map pr) :: junk) = .nx (gA t u y3 y4 x5) (.lst (xs.map pr) :: junk) := by
  have k1 : kitB "str" "bool" = some false := by decide
  have k2 : kitB "str" "int" = some false := by decide
  have k3 : kitB "str" "str" = some true := by decide
  simp [b3__law_alike, gA, pr, k1, k2, k3]
theorem ext2 (ds : List D) (x0 x1 x5 : Option D) (l : Sto) (h : ds.length ≤ 16777216) :
    dLc (dRng1 (dCons (dCB hLen (dCons (dV 4) dNil)) dNil)) (gN 5) dYes e1__law_alike [5] [x0, x1, some (.adr 0), some (.tup ds), some (.tup ds), x5] l = .ok (.adr l.length) (l ++ [.lst (ds.map pr)]) := by
  have hp := fun x0 x1 x2 l => pairsL x0 x1 x2 ds l h
  have h3 : ds.length ≤ 1000000000000 := by omega
  simp [hp, h3]
theorem b3_tup (t u : D) (x3 x4 x5 : Option D) (xs ds : List D) (junk : Sto) (hl : xs.length + ds.length ≤ 16000000) : ∃ y3 y4 junk', b3__law_alike (gA t u x3 x4 x5) (.lst ((xs ++ [D.tup ds]).map pr) :: junk) = .nx (gA t u y3 y4 x5) (.lst ((xs ++ ds).map pr) :: junk') := by
  have k1 : kitB "tuple" "bool" = some false := by decide
  have k2 : kitB "tuple" "int" = some false := by decide
  have k3 : kitB "tuple" "str" = some false := by decide
  have k4 : kitB "tuple" "tuple" = some true := by decide
  have k5 : kitB "tuple" "list" = some false := by decide
  have h2 : xs.length + ds.length ≤ 16777216 := by omega
  have hp := fun x0 x1 x5 l => ext2 ds x0 x1 x5 l (by omega)
  simp [b3__law_alike, gA, pr, k1, k2, k3, k4, k5, hp, h2, -dLc_e]
theorem loop_alike (t u : D) (x5 : Option D) : ∀ (n : Nat) (xs : List D) (x3 x4 : Option D) (junk : Sto), wDs xs < n → plDs xs = true → wDs xs ≤ 16000000 →
    ∃ junk', ((sWhile n c2__law_alike b3__law_alike (gA t u x3 x4 x5) (.lst (xs.map pr) :: junk)).seq (sRet (dC (.bl true)))).toB = .ok (.bl true) junk'
  | 0, xs, x3, x4, junk, h, _, _ => by omega
  | n + 1, xs, x3, x4, junk, h, hp, hw => by
    rcases List.eq_nil_or_concat xs with rfl | ⟨ys, d, rfl⟩
    · have hc : c2__law_alike (gA t u x3 x4 x5) (.lst [] :: junk) = .ok false (.lst [] :: junk) := by simp [c2__law_alike, gA]
      simp [sWhile, hc]
    · have hc : c2__law_alike (gA t u x3 x4 x5) (.lst ((ys ++ [d]).map pr) :: junk) = .ok true (.lst ((ys ++ [d]).map pr) :: junk) := by
        simp [c2__law_alike, gA]
      rw [List.concat_eq_append] at h hp hw ⊢
      rw [wDs_app] at h hw
      rw [plDs_app, Bool.and_eq_true] at hp
      obtain ⟨hp1, hp2⟩ := hp
      simp only [wDs, plDs, Bool.and_true, Nat.add_zero] at h hw hp2
      have hd := wD_pos d
      cases d with
      | int i =>
        obtain ⟨y3, y4, e⟩ := b3_int t u x3 x4 x5 ys i junk
        obtain ⟨j, ih⟩ := loop_alike t u x5 n ys y3 y4 junk (by omega) hp1 (by omega)
        exact ⟨j, by simp only [sWhile, hc, out_ok, if_true, e, ih]⟩
      | str i =>
        obtain ⟨y3, y4, e⟩ := b3_str t u x3 x4 x5 ys i junk
        obtain ⟨j, ih⟩ := loop_alike t u x5 n ys y3 y4 junk (by omega) hp1 (by omega)
        exact ⟨j, by simp only [sWhile, hc, out_ok, if_true, e, ih]⟩
      | tup ds =>
        simp only [wD] at h hw
        simp only [plD] at hp2
        have l1 := wDs_len ys
        have l2 := wDs_len ds
        obtain ⟨y3, y4, j2, e⟩ := b3_tup t u x3 x4 x5 ys ds junk (by omega)
        obtain ⟨j, ih⟩ := loop_alike t u x5 n (ys ++ ds) y3 y4 j2 (by rw [wDs_app]; omega) (by rw [plDs_app, hp1, hp2]; rfl) (by rw [wDs_app]; omega)
        exact ⟨j, by simp only [sWhile, hc, out_ok, if_true, e, ih]⟩
      | _ => simp [plD] at hp2
theorem run_alike (d : D) (hp : plD d = true) (hw : wD d ≤ 16000000) : ∃ junk, runB 6 den__law_alike [d, d] [] = .ok (.bl true) junk := by
  obtain ⟨j, e⟩ := loop_alike d d none fuel [d] none none [] (by simp only [wDs, fuel]; omega) (by simp [plDs, hp]) (by simp only [wDs]; omega)
  simp only [gA, List.map_cons, List.map_nil, pr] at e
  exact ⟨j, by simpa [den__law_alike] using e⟩
theorem call_alike (d : D) (hp : plD d = true) (hw : wD d ≤ 16000000) (hpu : pu d = true) (l : Sto) : m__law_alike [d, d] l = .ok (.bl true) l := by
  obtain ⟨junk, e⟩ := run_alike d hp hw
  exact callF_p (junk := junk) (es := [d, d]) (by simp [ins, insOne, hpu]) (by simp [idx]) (by simpa [smA, smL] using e) (by simp)
/-! codes are plain and small -/
theorem plDs_nD : ∀ ns : List Nat, plDs (ns.map nD) = true ∧ wDs (ns.map nD) = ns.length
  | [] => by simp [plDs, wDs]
  | n :: ns => by
    have := plDs_nD ns
    simp only [List.map_cons, plDs, wDs, this, plD, wD, List.length_cons]
    exact ⟨rfl, by omega⟩
def lnW : Ln → Nat
  | .take _ _ ns => 5 + ns.length
  | _ => 5
theorem pl_ln (c : Ln) : plD c.toD = true ∧ wD c.toD ≤ lnW c := by
  cases c with
  | take r q ns =>
    have := plDs_nD ns
    simp only [Ln.toD, plD, plDs, wD, wDs, this, lnW]
    refine ⟨rfl, ?_⟩
    omega
  | _ => simp [Ln.toD, plD, plDs, wD, wDs, lnW]
theorem pl_code : ∀ c : List Ln, plDs (c.map Ln.toD) = true ∧ wDs (c.map Ln.toD) ≤ (c.map lnW).sum
  | [] => by simp [plDs, wDs]
  | l :: c => by
    have h1 := pl_ln l
    have h2 := pl_code c
    simp only [List.map_cons, plDs, wDs, h1, h2, List.sum_cons]
    refine ⟨rfl, ?_⟩
    omega
theorem call_alikeC (c : List Ln) (h : (c.map lnW).sum ≤ 15000000) (l : Sto) : m__law_alike [codeD c, codeD c] l = .ok (.bl true) l := by
  have := pl_code c
  exact call_alike (codeD c) (by simp [codeD, plD, this]) (by simp only [codeD, wD]; omega) (by simp) l
end Q88

set_option Elab.async false
set_option linter.all false
set_option maxRecDepth 100000
set_option maxHeartbeats 4000000
namespace Q88
open PySem L2 PySem.Spec PyProof.Rows Zb
/-! ### _law_rows -/
def growL (F : Nat) (rows : List (List Nat)) : List (List Nat) := (rows.map fun r => (List.range F).map fun f => r ++ [f]).flatten
theorem e1_rows (F : Nat) (row : List Nat) (x0 x1 x2 x3 x4 x5 : Option D) (l : Sto) (hF : F ≤ 100) (hr : row.length ≤ 100) : lcL ⟨rng 0 F, none⟩ (gN 7) dYes e1__law_rows [x0, x1, x2, x3, x4, x5, some (facesD row), none] (rng 0 F) l [] = .ok ((((List.range F).map fun f => row ++ [f])).map facesD) l := by
  have h2 : row.length + 1 ≤ 16777216 := by omega
  have h2' : row.length ≤ 16777215 := by omega
  have h := lcL_map (it := ⟨rng 0 F, none⟩) (gt := gN 7) (ct := dYes) (fe := e1__law_rows) (gw := [x0, x1, x2, x3, x4, x5, some (facesD row), none]) (l := l) trivial (fun i : Nat => D.int (0 + (i : Int))) (fun i => facesD (row ++ [i])) (List.range F) []
    (fun i _ => ⟨_, rfl, rfl, by simp [e1__law_rows, h2']⟩) (by simp; omega)
  exact h.trans (by simp [facesD])
theorem b2_rows (F : Nat) (row : List Nat) (acc : List D) (x1 x2 x4 x5 x7 : Option D) (L : Sto) (k : Nat) (hk : L[k]? = some (.lst acc)) (hF : F ≤ 100) (hr : row.length ≤ 100) (ha : acc.length ≤ 10000000) :
    ∃ x, b2__law_rows [some (nD F), x1, x2, some (.adr k), x4, x5, some (facesD row), x7] L = .nx [some (nD F), x1, x2, some (.adr k), x4, x5, some (facesD row), x7] ((L ++ [x]).set k (.lst (acc ++ (((List.range F).map fun f => row ++ [f])).map facesD))) := by
  have hkl : k < L.length := (List.getElem?_eq_some_iff.mp hk).1
  have he := fun x0 x1 x2 x3 x4 x5 l => e1_rows F row x0 x1 x2 x3 x4 x5 l hF hr
  simp only [facesD] at he
  have h3 : F ≤ 1000000000000 := by omega
  have h4 : acc.length + F ≤ 16777216 := by omega
  have h5 : ∀ x : OB, (L ++ [x])[k]? = some (.lst acc) := fun x => by rw [List.getElem?_append_left hkl]; exact hk
  refine ⟨.lst (((List.range F).map fun f => row ++ [f]).map facesD), ?_⟩
  simp only [facesD]
  simp [b2__law_rows, h3, he, hk, h5, h4]
theorem growL_len (F : Nat) : ∀ rows : List (List Nat), (growL F rows).length = rows.length * F
  | [] => by simp [growL]
  | r :: rows => by
    have := growL_len F rows
    simp only [growL, List.map_cons, List.flatten_cons, List.length_append, List.length_map, List.length_range, List.length_cons] at this ⊢
    rw [this, Nat.add_mul]
    omega
theorem loop2_rows (F : Nat) (hF : F ≤ 100) (all : List (List Nat)) (x1 x2 x4 x5 : Option D) (k5 k : Nat) (hne : k ≠ k5) (h0 : k ≠ 0) (told : OB) : ∀ (rest acc : List (List Nat)) (x6 x7 : Option D) (L : Sto), (∀ r ∈ rest, r.length ≤ 100) → L[k5]? = some (.lst (all.map facesD)) → L[0]? = some told → L[k]? = some (.lst (acc.map facesD)) → acc.length + rest.length * F ≤ 1000000 →
    ∃ x6' L', sForL ⟨all.map facesD, some k5⟩ (gN 6) b2__law_rows (rest.map facesD) [some (nD F), x1, x2, some (.adr k), x4, x5, x6, x7] L = .nx [some (nD F), x1, x2, some (.adr k), x4, x5, x6', x7] L' ∧ L'[0]? = some told ∧ L'[k]? = some (.lst ((acc ++ growL F rest).map facesD)) ∧ L.length ≤ L'.length
  | [], acc, x6, x7, L, _, h5, ht, hk, _ => ⟨x6, L, by rw [List.map_nil, for_nil _ _ _ _ (ok_some _ _ _ h5)], ht, by simpa [growL] using hk, Nat.le_refl _⟩
  | r :: rest, acc, x6, x7, L, hr, h5, ht, hk, hl => by
    have hr1 := hr r (by simp)
    simp only [List.length_cons, Nat.add_mul, Nat.one_mul] at hl
    obtain ⟨x, e⟩ := b2_rows F r (acc.map facesD) x1 x2 x4 x5 x7 L k hk hF hr1 (by rw [List.length_map]; omega)
    have hkl : k < L.length := (List.getElem?_eq_some_iff.mp hk).1
    have h5l : k5 < L.length := (List.getElem?_eq_some_iff.mp h5).1
    have h0l : 0 < L.length := (List.getElem?_eq_some_iff.mp ht).1
    have ea : acc.map facesD ++ ((List.range F).map fun f => r ++ [f]).map facesD = (acc ++ ((List.range F).map fun f => r ++ [f])).map facesD := by rw [List.map_append]
    rw [ea] at e
    have s5 : ((L ++ [x]).set k (.lst ((acc ++ ((List.range F).map fun f => r ++ [f])).map facesD)))[k5]? = some (.lst (all.map facesD)) := by
      rw [List.getElem?_set_ne hne, List.getElem?_append_left h5l]; exact h5
    have s0 : ((L ++ [x]).set k (.lst ((acc ++ ((List.range F).map fun f => r ++ [f])).map facesD)))[0]? = some told := by
      rw [List.getElem?_set_ne h0, List.getElem?_append_left h0l]; exact ht
    have sk : ((L ++ [x]).set k (.lst ((acc ++ ((List.range F).map fun f => r ++ [f])).map facesD)))[k]? = some (.lst ((acc ++ ((List.range F).map fun f => r ++ [f])).map facesD)) := by
      rw [List.getElem?_set_self (by simp; omega)]
    obtain ⟨x6', L', ih, i0, ik, il⟩ := loop2_rows F hF all x1 x2 x4 x5 k5 k hne h0 told rest (acc ++ ((List.range F).map fun f => r ++ [f])) (some (facesD r)) x7 _ (fun r' h' => hr r' (by simp [h'])) s5 s0 sk (by simp; omega)
    have hg : gN 6 (facesD r) L [some (nD F), x1, x2, some (.adr k), x4, x5, x6, x7] = some [some (nD F), x1, x2, some (.adr k), x4, x5, some (facesD r), x7] := rfl
    refine ⟨x6', L', ?_, i0, ?_, ?_⟩
    · rw [List.map_cons, for_cons _ _ _ _ _ _ (ok_some _ _ _ h5), hg]
      simp only [e, loop_nx, ih]
    · rw [ik]; simp [growL]
    · simp at il; omega
theorem b3_rows (F n : Nat) (hF : F ≤ 100) (T R : List (List Nat)) (x4 x5 x6 x7 : Option D) (L : Sto) (k : Nat) (hk0 : k ≠ 0) (hT : L[0]? = some (.lst (T.map facesD))) (hk : L[k]? = some (.lst (R.map facesD))) (hr : ∀ r ∈ R, r.length ≤ 100) (hl : R.length * F ≤ 1000000) (hT2 : T.length ≤ 1000000) :
    ∃ k' x5' x6' L', b3__law_rows [some (nD F), some (nD n), some (.adr 0), some (.adr k), x4, x5, x6, x7] L = .nx [some (nD F), some (nD n), some (.adr 0), some (.adr k'), x4, x5', x6', x7] L' ∧ k' ≠ 0 ∧ L'[0]? = some (.lst ((T ++ growL F R).map facesD)) ∧ L'[k']? = some (.lst ((growL F R).map facesD)) := by
  have hkl : k < L.length := (List.getElem?_eq_some_iff.mp hk).1
  have h0l : 0 < L.length := (List.getElem?_eq_some_iff.mp hT).1
  have a1 : (L ++ [OB.lst []])[k]? = some (.lst (R.map facesD)) := by rw [List.getElem?_append_left hkl]; exact hk
  have a2 : (L ++ [OB.lst []])[0]? = some (.lst (T.map facesD)) := by rw [List.getElem?_append_left h0l]; exact hT
  have a3 : (L ++ [OB.lst []])[L.length]? = some (.lst (([] : List (List Nat)).map facesD)) := get_concat L _
  obtain ⟨x6', L', e, e0, ek, el⟩ := loop2_rows F hF R (some (nD n)) (some (.adr 0)) x4 (some (.adr k)) k L.length (by omega) (by omega) (.lst (T.map facesD)) R [] x6 x7 (L ++ [OB.lst []]) hr a1 a2 a3 (by simpa using hl)
  rw [List.nil_append] at ek
  have hlen := growL_len F R
  have h0l' : 0 < L'.length := (List.getElem?_eq_some_iff.mp e0).1
  have hsz : T.length + (growL F R).length ≤ 16777216 := by omega
  refine ⟨L.length, some (.adr k), x6', L'.set 0 (.lst ((T ++ growL F R).map facesD)), ?_, by omega, ?_, ?_⟩
  · simp [b3__law_rows, a1, e, e0, ek, hsz]
  · rw [List.getElem?_set_self h0l']
  · rw [List.getElem?_set_ne (by omega)]; exact ek
theorem growL_mem {F : Nat} {rows : List (List Nat)} {m : Nat} (h : ∀ r ∈ rows, r.length ≤ m) : ∀ r ∈ growL F rows, r.length ≤ m + 1 := by
  intro r hr
  unfold growL at hr
  obtain ⟨l, hl, hr⟩ := List.mem_flatten.mp hr
  obtain ⟨q, hq, rfl⟩ := List.mem_map.mp hl
  obtain ⟨f, _, rfl⟩ := List.mem_map.mp hr
  have := h q hq
  simp
  exact this
theorem loop3_rows (F n : Nat) (hF : F ≤ 100) (B : Nat) (hB : B ≤ 100000) {it : ItD} (hok : ∀ l, it.ok l) : ∀ (ds : List D) (m : Nat) (T R : List (List Nat)) (x4 x5 x6 x7 : Option D) (L : Sto) (k : Nat), k ≠ 0 → L[0]? = some (.lst (T.map facesD)) → L[k]? = some (.lst (R.map facesD)) → (∀ r ∈ R, r.length ≤ m) → (∀ r ∈ T, r.length ≤ m) → m + ds.length ≤ 100 → R.length * F ^ ds.length ≤ B → T.length + ds.length * B ≤ 1000000 → 1 ≤ F →
    ∃ (k' : Nat) (y4 y5 y6 : Option D) (L' : Sto) (T' : List (List Nat)), sForL it (gN 4) b3__law_rows ds [some (nD F), some (nD n), some (.adr 0), some (.adr k), x4, x5, x6, x7] L = .nx [some (nD F), some (nD n), some (.adr 0), some (.adr k'), y4, y5, y6, x7] L' ∧ L'[0]? = some (.lst (T'.map facesD)) ∧ (∀ r ∈ T', r.length ≤ 100) ∧ T'.length ≤ 1000000
  | [], m, T, R, x4, x5, x6, x7, L, k, hk0, hT, hk, hR, hT1, hm, hb, hs, hF1 => ⟨k, x4, x5, x6, L, T, by rw [for_nil _ _ _ _ (hok _)], hT, fun r h => by have := hT1 r h; simp at hm; omega, by simpa using hs⟩
  | d :: ds, m, T, R, x4, x5, x6, x7, L, k, hk0, hT, hk, hR, hT1, hm, hb, hs, hF1 => by
    simp only [List.length_cons] at hm hb hs
    have hpow : 1 ≤ F ^ ds.length := Nat.one_le_pow _ _ hF1
    have hb2 : R.length * F * F ^ ds.length ≤ B := by rw [Nat.pow_succ, Nat.mul_comm (F ^ ds.length) F, ← Nat.mul_assoc] at hb; exact hb
    have hb3 : R.length * F ≤ B := Nat.le_trans (Nat.le_mul_of_pos_right _ hpow) hb2
    rw [Nat.add_mul, Nat.one_mul] at hs
    obtain ⟨k', y5, y6, L', e, h1, h2, h3⟩ := b3_rows F n hF T R (some d) x5 x6 x7 L k hk0 hT hk (fun r h => by have := hR r h; omega) (by omega) (by omega)
    have hlen := growL_len F R
    obtain ⟨k2, z4, z5, z6, L2, T2, ih, i1, i2⟩ := loop3_rows F n hF B hB hok ds (m + 1) (T ++ growL F R) (growL F R) (some d) y5 y6 x7 L' k' h1 h2 h3 (growL_mem hR) (fun r h => by
      rcases List.mem_append.mp h with h | h
      · have := hT1 r h; omega
      · exact growL_mem hR r h) (by omega) (by rw [hlen]; exact hb2) (by rw [List.length_append, hlen]; omega) hF1
    have hg : gN 4 d L [some (nD F), some (nD n), some (.adr 0), some (.adr k), x4, x5, x6, x7] = some [some (nD F), some (nD n), some (.adr 0), some (.adr k), some d, x5, x6, x7] := rfl
    refine ⟨k2, z4, z5, z6, L2, T2, ?_, i1, i2⟩
    rw [for_cons _ _ _ _ _ _ (hok _), hg]
    simp only [e, loop_nx, ih]
theorem run_rows (F n : Nat) (hF : F ≤ 100) (hF1 : 1 ≤ F) (hn : n ≤ 9) (hb : F ^ n ≤ 100000) : ∃ (L' : Sto) (T' : List (List Nat)), runB 8 den__law_rows [nD F, nD n] [] = .ok (.adr 0) L' ∧ L'[0]? = some (.lst (T'.map facesD)) ∧ (∀ r ∈ T', r.length ≤ 100) ∧ T'.length ≤ 1000000 := by
  obtain ⟨k, y4, y5, y6, L', T', e, h1, h2⟩ := loop3_rows F n hF (F ^ n) hb (it := ⟨rng 0 n, none⟩) (fun _ => trivial) (rng 0 n) 0 [[]] [[]] none none none none [.lst [facesD []], .lst [facesD []]] 1 (by decide) rfl rfl (by simp) (by simp) (by rw [rng_len]; omega) (by rw [rng_len]; simp) (by
    rw [rng_len]
    have : n * F ^ n ≤ 9 * F ^ n := Nat.mul_le_mul_right _ hn
    simp only [List.length_singleton]
    omega) hF1
  have h3 : n ≤ 1000000000000 := by omega
  simp only [facesD, List.map_nil] at e
  refine ⟨L', T', ?_, h1, h2⟩
  simp [den__law_rows, h3, e]
theorem call_rows (F n : Nat) (hF : F ≤ 100) (hF1 : 1 ≤ F) (hn : n ≤ 9) (hb : F ^ n ≤ 100000) : ∃ T' : List (List Nat), (∀ r ∈ T', r.length ≤ 100) ∧ T'.length ≤ 1000000 ∧ ∀ l, m__law_rows [nD F, nD n] l = .ok (.adr l.length) (l ++ [.lst (T'.map facesD)]) := by
  obtain ⟨L', T', e, h1, h2, h3⟩ := run_rows F n hF hF1 hn hb
  refine ⟨T', h2, h3, fun l => ?_⟩
  have hp : pus (T'.map facesD) = true := by
    clear e h1 h2 h3
    induction T' with
    | nil => rfl
    | cons t T' ih => simp only [List.map_cons, pus_cons, ih, Bool.and_true]; simp
  exact callF_l (junk := L') (j := 0) (es := [nD F, nD n]) (by simp [ins, insOne]) (by simp [idx]) (by simpa [smA, smL] using e) (by simp [smL]) (by simpa [smL] using h1) hp
end Q88

set_option Elab.async false
set_option linter.all false
set_option maxRecDepth 100000
set_option maxHeartbeats 4000000
namespace Q88
open PySem L2 PySem.Spec PyProof.Rows Zb
/-! ### _law_sound: the search in plain Lean -/
def isThrow (c : List Ln) (t : Nat) : Prop := ∃ r, c[t]? = some (.throw r)
/-- ways on lead forward or to a throw -/
def Fw (c : List Ln) : Prop := ∀ p ln, c[p]? = some ln → ∀ t ∈ onL p ln, t < c.length ∧ (p < t ∨ isThrow c t)
def rank (c : List Ln) (p : Nat) : Nat := match c[p]? with
  | some (.throw _) => 0
  | some (.fin _) => 0
  | _ => c.length + 1 - p
theorem rank_lt {c : List Ln} (h : Fw c) {p : Nat} {ln : Ln} (e : c[p]? = some ln) {t : Nat} (ht : t ∈ onL p ln) : rank c t < rank c p := by
  obtain ⟨h1, h2⟩ := h p ln e t ht
  have hp : p < c.length := (List.getElem?_eq_some_iff.mp e).1
  have e1 : rank c p = c.length + 1 - p := by
    unfold rank
    rw [e]
    cases ln <;> first | rfl | simp [onL] at ht
  rw [e1]
  rcases h2 with h2 | ⟨r, h2⟩
  · have : rank c t ≤ c.length + 1 - t := by
      unfold rank
      split <;> omega
    omega
  · have : rank c t = 0 := by unfold rank; rw [h2]
    omega
def zeros (M : List Nat) : Nat := (M.filter (· == 0)).length
theorem zeros_set : ∀ (M : List Nat) (a v : Nat), M[a]? = some 0 → v ≠ 0 → zeros (M.set a v) + 1 = zeros M
  | [], a, v, h, _ => by simp at h
  | m :: M, 0, v, h, hv => by
    simp at h; subst h
    simp [zeros, hv]
  | m :: M, a + 1, v, h, hv => by
    have ih := zeros_set M a v (by simpa using h) hv
    simp only [zeros] at ih
    simp only [zeros, List.set_cons_succ, List.filter_cons]
    split
    · simp only [List.length_cons]; omega
    · exact ih
theorem zeros_le : ∀ (M : List Nat) (a v : Nat), v ≠ 0 → zeros (M.set a v) ≤ zeros M
  | [], a, v, _ => by simp [zeros]
  | m :: M, 0, v, hv => by
    simp only [zeros, List.set_cons_zero, List.filter_cons]
    split
    · rename_i h; simp [hv] at h
    · split <;> simp
  | m :: M, a + 1, v, hv => by
    have ih := zeros_le M a v hv
    simp only [zeros] at ih
    simp only [zeros, List.set_cons_succ, List.filter_cons]
    split
    · simp only [List.length_cons]; omega
    · exact ih
abbrev QE := Nat × Bool
structure DInv (c : List Ln) (M : List Nat) (Q : List QE) : Prop where
  lt : ∀ e ∈ Q, e.1 < c.length
  len : M.length = c.length
  pw : Q.Pairwise fun x y => x.2 = true → rank c y.1 < rank c x.1
  on : ∀ t, M[t]? = some 1 → (t, true) ∈ Q
def dfs (c : List Ln) (M : List Nat) (Q : List QE) (a : Nat) (b : Bool) : List Nat × List QE :=
  if b = true then (M.set a 2, Q) else if M[a]? = some 0 then (M.set a 1, Q ++ (a, true) :: ((c[a]?.map (onL a)).getD []).map (·, false)) else (M, Q)
theorem dfs_inv {c : List Ln} (hF : Fw c) {M : List Nat} {Q : List QE} {a : Nat} {b : Bool} (h : DInv c M (Q ++ [(a, b)])) : DInv c (dfs c M Q a b).1 (dfs c M Q a b).2 ∧
    (dfs c M Q a b).2.length + 3 * zeros (dfs c M Q a b).1 < (Q ++ [(a, b)]).length + 3 * zeros M ∧ (b = false → M[a]? = some 0 → ∀ ln, c[a]? = some ln → ∀ t ∈ onL a ln, t < c.length ∧ (M.set a 1)[t]? ≠ some 1) := by
  obtain ⟨h1, h2, h3, h4⟩ := h
  have ha : a < c.length := h1 (a, b) (by simp)
  have ham : a < M.length := by omega
  rw [List.pairwise_append] at h3
  obtain ⟨p1, _, p3⟩ := h3
  have below : ∀ x ∈ Q, x.2 = true → rank c a < rank c x.1 := fun x hx hb => p3 x hx (a, b) (by simp) hb
  have notin : ∀ ln, c[a]? = some ln → ∀ t ∈ onL a ln, t < c.length ∧ (M.set a 1)[t]? ≠ some 1 := by
    intro ln e t ht
    refine ⟨(hF a ln e t ht).1, fun q => ?_⟩
    have r1 := rank_lt hF e ht
    have hta : t ≠ a := fun z => by rw [z] at r1; omega
    rw [List.getElem?_set_ne (Ne.symm hta)] at q
    have m := h4 t q
    rcases List.mem_append.mp m with m | m
    · have := below (t, true) m rfl
      simp only at this
      omega
    · simp only [List.mem_singleton, Prod.mk.injEq] at m
      exact hta m.1
  unfold dfs
  cases b with
  | true =>
    rw [if_pos rfl]
    refine ⟨⟨fun e he => h1 e (by simp [he]), by simpa using h2, p1, fun t ht => ?_⟩, ?_, by intro z; cases z⟩
    · by_cases q : a = t
      · subst q
        rw [List.getElem?_set_self ham] at ht
        cases ht
      · rw [List.getElem?_set_ne q] at ht
        have := h4 t ht
        simp only [List.mem_append, List.mem_singleton, Prod.mk.injEq] at this
        rcases this with m | m
        · exact m
        · exact absurd m.1.symm q
    · have := zeros_le M a 2 (by decide)
      simp only [List.length_append, List.length_singleton]
      omega
  | false =>
    rw [if_neg (by decide)]
    by_cases hz : M[a]? = some 0
    · rw [if_pos hz]
      obtain ⟨ln, e⟩ : ∃ ln, c[a]? = some ln := ⟨_, List.getElem?_eq_getElem ha⟩
      simp only [e, Option.map_some, Option.getD_some]
      have succs : (onL a ln).length ≤ 2 := by cases ln <;> simp [onL]
      refine ⟨⟨fun e' he => ?_, by simpa using h2, ?_, fun t ht => ?_⟩, ?_, fun _ _ ln' e' => notin ln' (e.trans e')⟩
      · simp only [List.mem_append, List.mem_cons, List.mem_map] at he
        rcases he with he | rfl | ⟨t, ht, rfl⟩
        · exact h1 e' (by simp [he])
        · exact ha
        · exact (notin ln e t ht).1
      · rw [List.pairwise_append, List.pairwise_cons]
        refine ⟨p1, ⟨fun y hy _ => ?_, ?_⟩, fun x hx y hy hb => ?_⟩
        · obtain ⟨t, ht, rfl⟩ := List.mem_map.mp hy
          exact rank_lt hF e ht
        · rw [List.pairwise_map]
          exact List.Pairwise.imp (fun _ z => by cases z) (List.pairwise_of_forall (fun _ _ => trivial) : List.Pairwise (fun _ _ => True) (onL a ln))
        · rcases List.mem_cons.mp hy with rfl | hy
          · exact below x hx hb
          · obtain ⟨t, ht, rfl⟩ := List.mem_map.mp hy
            have := rank_lt hF e ht
            have := below x hx hb
            simp only
            omega
      · by_cases q : a = t
        · subst q; simp
        · rw [List.getElem?_set_ne q] at ht
          have := h4 t ht
          simp only [List.mem_append, List.mem_singleton, Prod.mk.injEq] at this
          rcases this with m | m
          · simp [m]
          · exact absurd m.1.symm q
      · have := zeros_set M a 1 hz (by decide)
        simp only [List.length_append, List.length_cons, List.length_map, List.length_singleton]
        omega
    · rw [if_neg hz]
      refine ⟨⟨fun e he => h1 e (by simp [he]), h2, p1, fun t ht => ?_⟩, ?_, fun _ z => absurd z hz⟩
      · have := h4 t ht
        simp only [List.mem_append, List.mem_singleton, Prod.mk.injEq] at this
        rcases this with m | m
        · exact m
        · exact absurd m.2 (by decide)
      · simp only [List.length_append, List.length_singleton]
        omega
/-! .. and the def's own -/
def qe (e : QE) : D := .tup [nD e.1, .bl e.2]
structure St (q : Nat) (M : List Nat) (Q : List QE) (L : Sto) : Prop where
  q2 : q ≠ 1
  m : L[1]? = some (.lst (M.map nD))
  q : L[q]? = some (.lst (Q.map qe))
theorem St.setM {q : Nat} {M M' : List Nat} {Q : List QE} {L : Sto} (h : St q M Q L) : St q M' Q (L.set 1 (.lst (M'.map nD))) :=
  ⟨h.q2, by rw [List.getElem?_set_self (List.getElem?_eq_some_iff.mp h.m).1], by rw [List.getElem?_set_ne (Ne.symm h.q2)]; exact h.q⟩
theorem St.setQ {q : Nat} {M : List Nat} {Q Q' : List QE} {L : Sto} (h : St q M Q L) : St q M Q' (L.set q (.lst (Q'.map qe))) :=
  ⟨h.q2, by rw [List.getElem?_set_ne h.q2]; exact h.m, by rw [List.getElem?_set_self (List.getElem?_eq_some_iff.mp h.q).1]⟩
theorem St.app {q : Nat} {M : List Nat} {Q : List QE} {L : Sto} (h : St q M Q L) (x : OB) : St q M Q (L ++ [x]) :=
  ⟨h.q2, by rw [List.getElem?_append_left (List.getElem?_eq_some_iff.mp h.m).1]; exact h.m, by rw [List.getElem?_append_left (List.getElem?_eq_some_iff.mp h.q).1]; exact h.q⟩
theorem b2_sound {q : Nat} {M : List Nat} {Q : List QE} {L : Sto} (h : St q M Q L) {x0 x1 x3 x5 x6 : Option D} {t v : Nat} (hv : M[t]? = some v) (h1 : v ≠ 1) (hl : Q.length ≤ 1000000) :
    b2__law_sound [x0, x1, some (.adr 1), x3, some (.adr q), x5, x6, some (nD t)] L = .nx [x0, x1, some (.adr 1), x3, some (.adr q), x5, x6, some (nD t)] (L.set q (.lst ((Q ++ [(t, false)]).map qe))) := by
  have hm := h.m
  have hq := h.q
  have hv1 : ¬ (v : Int) = 1 := by omega
  have hl' : Q.length ≤ 16777215 := by omega
  simp [b2__law_sound, hm, hv, h1, hv1, hq, hl', qe]
theorem loop2_sound {q j : Nat} {M : List Nat} {x0 x1 x3 x5 x6 : Option D} (all : List Nat) (hqj : q ≠ j) : ∀ (ts : List Nat) (Q : List QE) (L : Sto) (x7 : Option D), St q M Q L → L[j]? = some (.lst (all.map nD)) → (∀ t ∈ ts, t < M.length ∧ M[t]? ≠ some 1) → Q.length + ts.length ≤ 1000000 →
    ∃ x7' L', sForL ⟨all.map nD, some j⟩ (gN 7) b2__law_sound (ts.map nD) [x0, x1, some (.adr 1), x3, some (.adr q), x5, x6, x7] L = .nx [x0, x1, some (.adr 1), x3, some (.adr q), x5, x6, x7'] L' ∧ St q M (Q ++ ts.map (·, false)) L' ∧ L.length ≤ L'.length
  | [], Q, L, x7, h, hj, _, _ => ⟨x7, L, by rw [List.map_nil, for_nil _ _ _ _ (ok_some _ _ _ hj)], by simpa using h, Nat.le_refl _⟩
  | t :: ts, Q, L, x7, h, hj, ht, hl => by
    simp only [List.length_cons] at hl
    obtain ⟨h1, h2⟩ := ht t (by simp)
    have hv : M[t]? = some M[t] := List.getElem?_eq_getElem h1
    have hne : M[t] ≠ 1 := fun z => h2 (by rw [hv, z])
    have e := b2_sound h (x0 := x0) (x1 := x1) (x3 := x3) (x5 := x5) (x6 := x6) hv hne (by omega)
    have hj' : (L.set q (.lst ((Q ++ [(t, false)]).map qe)))[j]? = some (.lst (all.map nD)) := by rw [List.getElem?_set_ne hqj]; exact hj
    obtain ⟨y, L', ih, i2, i3⟩ := loop2_sound (x0 := x0) (x1 := x1) (x3 := x3) (x5 := x5) (x6 := x6) all hqj ts (Q ++ [(t, false)]) _ (some (nD t)) h.setQ hj' (fun t' h' => ht t' (by simp [h'])) (by simp; omega)
    have hg : gN 7 (nD t) L [x0, x1, some (.adr 1), x3, some (.adr q), x5, x6, x7] = some [x0, x1, some (.adr 1), x3, some (.adr q), x5, x6, some (nD t)] := rfl
    refine ⟨y, L', ?_, by simpa using i2, by simpa using i3⟩
    rw [List.map_cons, for_cons _ _ _ _ _ _ (ok_some _ _ _ hj), hg]
    simp only [e, loop_nx, ih]
theorem app_ev {q a : Nat} {b : Bool} {Q : List QE} {L : Sto} (hq : L[q]? = some (.lst (Q.map qe))) (hl : Q.length ≤ 900000) (x0 x1 x2 x3 x7 : Option D) :
    sExpr (dMe hApp (dV 4) (dCons (dTup (dCons (dV 5) (dCons (dC (.bl true)) dNil))) dNil)) [x0, x1, x2, x3, some (.adr q), some (nD a), some (.bl b), x7] L = .nx [x0, x1, x2, x3, some (.adr q), some (nD a), some (.bl b), x7] (L.set q (.lst ((Q ++ [(a, true)]).map qe))) := by
  have hl' : Q.length ≤ 16777215 := by omega
  simp [hq, hl', qe]
theorem b4_sound {c : List Ln} {q : Nat} {M : List Nat} {Q : List QE} {a : Nat} {b : Bool} {L : Sto} (h : St q M (Q ++ [(a, b)]) L) (ha : a < c.length) (hM : M.length = c.length) (hl : Q.length ≤ 900000)
    (hn : b = false → M[a]? = some 0 → ∀ ln, c[a]? = some ln → ∀ t ∈ onL a ln, t < c.length ∧ (M.set a 1)[t]? ≠ some 1) {x1 x3 x5 x6 x7 : Option D} :
    ∃ y5 y6 y7 L', b4__law_sound [some (codeD c), x1, some (.adr 1), x3, some (.adr q), x5, x6, x7] L = .nx [some (codeD c), x1, some (.adr 1), x3, some (.adr q), y5, y6, y7] L' ∧ St q (dfs c M Q a b).1 (dfs c M Q a b).2 L' ∧ L.length ≤ L'.length := by
  have hq := h.q
  have hm := h.m
  have hq1 := h.q2
  have ham : a < M.length := by omega
  have hpop : (List.map qe (Q ++ [(a, b)]))[(List.map qe (Q ++ [(a, b)])).length - 1]? = some (qe (a, b)) := by simp
  have hdl : (List.map qe (Q ++ [(a, b)])).dropLast = Q.map qe := by simp
  have h1 : St q M Q (L.set q (.lst (Q.map qe))) := h.setQ
  have hm1 := h1.m
  have ev : ∀ K : DS, (sSeq (sAsg (gT [5, 6]) (dMe0 hPop (dV 4))) K) [some (codeD c), x1, some (.adr 1), x3, some (.adr q), x5, x6, x7] L = K [some (codeD c), x1, some (.adr 1), x3, some (.adr q), some (nD a), some (.bl b), x7] (L.set q (.lst (Q.map qe))) := by
    intro K
    simp [hq, qe]
  unfold b4__law_sound
  rw [ev]
  cases b with
  | true =>
    refine ⟨some (nD a), some (.bl true), x7, (L.set q (.lst (Q.map qe))).set 1 (.lst ((M.set a 2).map nD)), ?_, ?_, by simp⟩
    · have e2 : nD 2 = D.int 2 := rfl
      simp [hm1, ham, e2]
    · simpa [dfs] using h1.setM (M' := M.set a 2)
  | false =>
    by_cases hz : M[a]? = some 0
    · obtain ⟨ln, e⟩ : ∃ ln, c[a]? = some ln := ⟨_, List.getElem?_eq_getElem ha⟩
      have h2 := h1.setM (M' := M.set a 1)
      have h3 := h2.setQ (Q' := Q ++ [(a, true)])
      have hq2 := h2.q
      have hl' : Q.length ≤ 16777215 := by omega
      have e1 : nD 1 = D.int 1 := rfl
      have evA : sSub (dV 2) (dV 5) (dC (.int 1)) [some (codeD c), x1, some (.adr 1), x3, some (.adr q), some (nD a), some (.bl false), x7] (L.set q (.lst (Q.map qe))) = .nx [some (codeD c), x1, some (.adr 1), x3, some (.adr q), some (nD a), some (.bl false), x7] ((L.set q (.lst (Q.map qe))).set 1 (.lst ((M.set a 1).map nD))) := by
        simp [hm1, ham, e1]
      have evB : sExpr (dMe hApp (dV 4) (dCons (dTup (dCons (dV 5) (dCons (dC (.bl true)) dNil))) dNil)) [some (codeD c), x1, some (.adr 1), x3, some (.adr q), some (nD a), some (.bl false), x7] ((L.set q (.lst (Q.map qe))).set 1 (.lst ((M.set a 1).map nD))) = .nx [some (codeD c), x1, some (.adr 1), x3, some (.adr q), some (nD a), some (.bl false), x7] (((L.set q (.lst (Q.map qe))).set 1 (.lst ((M.set a 1).map nD))).set q (.lst ((Q ++ [(a, true)]).map qe))) := by
        exact app_ev hq2 hl _ _ _ _ _
      have succs : (onL a ln).length ≤ 2 := by cases ln <;> simp [onL]
      have hon := call_on c a ln e (((L.set q (.lst (Q.map qe))).set 1 (.lst ((M.set a 1).map nD))).set q (.lst ((Q ++ [(a, true)]).map qe)))
      obtain ⟨y7, L', ef, f2, f3⟩ := loop2_sound (x0 := some (codeD c)) (x1 := x1) (x3 := x3) (x5 := some (nD a)) (x6 := some (.bl false)) (onL a ln) (q := q) (j := (((L.set q (.lst (Q.map qe))).set 1 (.lst ((M.set a 1).map nD))).set q (.lst ((Q ++ [(a, true)]).map qe))).length)
        (by have := (List.getElem?_eq_some_iff.mp h3.q).1; omega) (onL a ln) (Q ++ [(a, true)]) _ x7 (h3.app (.lst ((onL a ln).map nD))) (get_concat _ _) (fun t ht => by
          have := hn rfl hz ln e t ht
          exact ⟨by rw [List.length_set, hM]; exact this.1, this.2⟩) (by simp; omega)
      refine ⟨some (nD a), some (.bl false), y7, L', ?_, ?_, ?_⟩
      · have hz' : M[a] = 0 := by rw [List.getElem?_eq_getElem ham] at hz; simpa using hz
        have evT : ∀ K1 K2 : DS, sIf (dTru (dV 6)) K1 (sIf (dBl (dOp hEq (dOp hIx (dV 2) (dV 5)) (dC (.int 0)))) K2 sNx) [some (codeD c), x1, some (.adr 1), x3, some (.adr q), some (nD a), some (.bl false), x7] (L.set q (.lst (Q.map qe))) = K2 [some (codeD c), x1, some (.adr 1), x3, some (.adr q), some (nD a), some (.bl false), x7] (L.set q (.lst (Q.map qe))) := by
          intro K1 K2
          simp [hm1, ham, hz']
        rw [evT, sSeq_e, evA, seq_nx, sSeq_e, evB, seq_nx]
        simp only [sFor_e, dIt_e, dCall_e, dCons_e, dV_e, dNil_e, bind_ok, List.getElem?_cons_succ, List.getElem?_cons_zero, dCons_k1_e, dCons_k2_e, dCall_k1_e, List.length_cons, List.length_nil, beq_self_eq_true, if_true, hon, nox_ok, dIt_k1_e, get_concat, out_ok, sFor_k1_e]
        exact ef
      · simpa [dfs, hz, e] using f2
      · simp at f3; omega
    · have hv : M[a]? = some M[a] := List.getElem?_eq_getElem ham
      have hne : M[a] ≠ 0 := fun z => hz (by rw [hv, z])
      refine ⟨some (nD a), some (.bl false), x7, L.set q (.lst (Q.map qe)), ?_, ?_, ?_⟩
      · simp [hm1, hv, hne, ham]
      · simpa [dfs, hz] using h1
      · simp
theorem loop4_sound {c : List Ln} (hF : Fw c) (hc : c.length ≤ 4000) {q : Nat} {x1 x3 : Option D} : ∀ (n : Nat) (M : List Nat) (Q : List QE) (L : Sto) (x5 x6 x7 : Option D), St q M Q L → DInv c M Q → Q.length + 3 * zeros M < n → Q.length + 3 * zeros M ≤ 20000 →
    ∃ M' y5 y6 y7 L', sWhile n c3__law_sound b4__law_sound [some (codeD c), x1, some (.adr 1), x3, some (.adr q), x5, x6, x7] L = .nx [some (codeD c), x1, some (.adr 1), x3, some (.adr q), y5, y6, y7] L' ∧ St q M' [] L' ∧ DInv c M' [] ∧ L.length ≤ L'.length
  | 0, M, Q, L, x5, x6, x7, h, hi, hn, hb => by omega
  | n + 1, M, Q, L, x5, x6, x7, h, hi, hn, hb => by
    rcases List.eq_nil_or_concat Q with rfl | ⟨Q', e, rfl⟩
    · have hq := h.q
      have hc3 : c3__law_sound [some (codeD c), x1, some (.adr 1), x3, some (.adr q), x5, x6, x7] L = .ok false L := by simp [c3__law_sound, hq]
      exact ⟨M, x5, x6, x7, L, by simp [sWhile, hc3], h, hi, Nat.le_refl _⟩
    · rw [List.concat_eq_append] at h hi hn hb
      obtain ⟨a, b⟩ := e
      have hq := h.q
      have hc3 : c3__law_sound [some (codeD c), x1, some (.adr 1), x3, some (.adr q), x5, x6, x7] L = .ok true L := by simp [c3__law_sound, hq]
      obtain ⟨i1, i2, i3⟩ := dfs_inv hF hi
      have ha : a < c.length := hi.lt (a, b) (by simp)
      have hQl : Q'.length ≤ 900000 := by simp at hb; omega
      obtain ⟨y5, y6, y7, L', e1, e2, e3⟩ := b4_sound h ha hi.len hQl i3 (x1 := x1) (x3 := x3) (x5 := x5) (x6 := x6) (x7 := x7)
      obtain ⟨M', z5, z6, z7, L2, f1, f2, f3, f4⟩ := loop4_sound (x1 := x1) (x3 := x3) hF hc n _ _ L' y5 y6 y7 e2 i1 (by omega) (by omega)
      exact ⟨M', z5, z6, z7, L2, by simp only [sWhile, hc3, out_ok, if_true, e1, f1], f2, f3, by omega⟩
theorem zeros_len (M : List Nat) : zeros M ≤ M.length := by unfold zeros; exact List.length_filter_le _ _
theorem loop5_sound {c : List Ln} (hF : Fw c) (hc : c.length ≤ 4000) {it : ItD} (hok : ∀ l, it.ok l) {x1 : Option D} : ∀ (bs : List Nat) (M : List Nat) (L : Sto) (x3 x4 x5 x6 x7 : Option D), L[1]? = some (.lst (M.map nD)) → DInv c M [] → (∀ b ∈ bs, b < c.length) →
    ∃ g' L', sForL it (gN 3) b5__law_sound (bs.map nD) [some (codeD c), x1, some (.adr 1), x3, x4, x5, x6, x7] L = .nx g' L'
  | [], M, L, x3, x4, x5, x6, x7, _, _, _ => ⟨_, L, by rw [List.map_nil, for_nil _ _ _ _ (hok _)]⟩
  | b :: bs, M, L, x3, x4, x5, x6, x7, hL, hi, hb => by
    have hL1 : 1 < L.length := (List.getElem?_eq_some_iff.mp hL).1
    have hst : St L.length M [(b, false)] (L ++ [.lst ([(b, false)].map qe)]) := ⟨by omega, by rw [List.getElem?_append_left hL1]; exact hL, get_concat _ _⟩
    have hin : DInv c M [(b, false)] := ⟨fun e he => by simp at he; subst he; exact hb b (by simp), hi.len, by simp, fun t ht => absurd (hi.on t ht) (by simp)⟩
    have hz := zeros_len M
    have hM := hi.len
    obtain ⟨M', y5, y6, y7, L', e1, e2, e3, e4⟩ := loop4_sound hF hc (x1 := x1) (x3 := some (nD b)) fuel M [(b, false)] _ x5 x6 x7 hst hin (by simp only [List.length_singleton, fuel]; omega) (by simp only [List.length_singleton]; omega)
    obtain ⟨g', L2, ih⟩ := loop5_sound hF hc hok (x1 := x1) bs M' L' (some (nD b)) (some (.adr L.length)) y5 y6 y7 e2.m e3 (fun b' h' => hb b' (by simp [h']))
    have hg : gN 3 (nD b) L [some (codeD c), x1, some (.adr 1), x3, x4, x5, x6, x7] = some [some (codeD c), x1, some (.adr 1), some (nD b), x4, x5, x6, x7] := rfl
    have eb : b5__law_sound [some (codeD c), x1, some (.adr 1), some (nD b), x4, x5, x6, x7] L = .nx [some (codeD c), x1, some (.adr 1), some (nD b), some (.adr L.length), y5, y6, y7] L' := by
      have ev : ∀ K : DS, (sSeq (sSet 4 (dLst (dCons (dTup (dCons (dV 3) (dCons (dC (.bl false)) dNil))) dNil))) K) [some (codeD c), x1, some (.adr 1), some (nD b), x4, x5, x6, x7] L = K [some (codeD c), x1, some (.adr 1), some (nD b), some (.adr L.length), x5, x6, x7] (L ++ [.lst ([(b, false)].map qe)]) := by
        intro K
        simp [qe]
      unfold b5__law_sound
      rw [ev]
      exact e1
    exact ⟨g', L2, by rw [List.map_cons, for_cons _ _ _ _ _ _ (hok _), hg]; simp only [eb, loop_nx, ih]⟩
theorem loop1_sound {c : List Ln} (N : Nat) {it : ItD} (hok : ∀ l, it.ok l) (hN : c.length = N) {x2 x3 x4 x5 x6 x7 : Option D} {L : Sto} : ∀ (ls : List Ln) (x1 : Option D), (∀ ln ∈ ls, okLn N ln = true) →
    ∃ x1', sForL it (gN 1) b1__law_sound (ls.map Ln.toD) [some (codeD c), x1, x2, x3, x4, x5, x6, x7] L = .nx [some (codeD c), x1', x2, x3, x4, x5, x6, x7] L
  | [], x1, _ => ⟨x1, by rw [List.map_nil, for_nil _ _ _ _ (hok _)]⟩
  | ln :: ls, x1, h => by
    obtain ⟨x1', ih⟩ := loop1_sound (c := c) N hok hN (x2 := x2) (x3 := x3) (x4 := x4) (x5 := x5) (x6 := x6) (x7 := x7) (L := L) ls (some ln.toD) (fun l hl => h l (by simp [hl]))
    have hf := call_forms N ln (h ln (by simp)) L
    have hg : gN 1 ln.toD L [some (codeD c), x1, x2, x3, x4, x5, x6, x7] = some [some (codeD c), some ln.toD, x2, x3, x4, x5, x6, x7] := rfl
    have eb : b1__law_sound [some (codeD c), some ln.toD, x2, x3, x4, x5, x6, x7] L = .nx [some (codeD c), some ln.toD, x2, x3, x4, x5, x6, x7] L := by
      have e0 : D.int ((c.length : Nat) : Int) = nD N := by rw [hN]
      simp [b1__law_sound, codeD]
      rw [hN]
      simp [hf]
    exact ⟨x1', by rw [List.map_cons, for_cons _ _ _ _ _ _ (hok _), hg]; simp only [eb, loop_nx, ih]⟩
/-- what _law_sound asks -/
structure Sound (c : List Ln) : Prop where
  pos : 0 < c.length
  le : c.length ≤ 4000
  ok : ∀ ln ∈ c, okLn c.length ln = true
  last : ∃ ln, c[c.length - 1]? = some ln ∧ ((∃ t, ln = .goto t) ∨ ∃ o, ln = .fin o)
  fw : Fw c
theorem run_sound (c : List Ln) (h : Sound c) : ∃ junk, runB 8 den__law_sound [codeD c] [] = .ok (.bl true) junk := by
  have k4 : kitB "tuple" "tuple" = some true := by decide
  obtain ⟨hp, hle, hok, ⟨ln, hl, hk⟩, hF⟩ := h
  obtain ⟨x1, e1⟩ := loop1_sound (c := c) c.length (it := ⟨c.map Ln.toD, none⟩) (fun _ => trivial) rfl (x2 := none) (x3 := none) (x4 := none) (x5 := none) (x6 := none) (x7 := none) (L := []) c none hok
  have hinv : DInv c (List.replicate c.length 0) [] := ⟨by simp, by simp, by simp, fun t ht => by
    have := (List.getElem?_eq_some_iff.mp ht)
    obtain ⟨a, b⟩ := this
    simp at b⟩
  have hz : (List.replicate c.length 0).map nD = List.replicate c.length (D.int 0) := by simp [nD]
  obtain ⟨g', L', e5⟩ := loop5_sound hF hle (it := ⟨rng 0 c.length, none⟩) (fun _ => trivial) (x1 := x1) (List.range c.length) (List.replicate c.length 0) [.lst [.int 0], .lst ((List.replicate c.length 0).map nD)] none none none none none rfl hinv (fun b hb => by simpa using hb)
  have er : rng 0 c.length = (List.range c.length).map nD := by
    unfold rng nD
    apply List.map_congr_left
    intro i _
    simp
  rw [← er, hz] at e5
  have hl' := code_at hl
  have h1 : (c.length : Int) ≤ 4000 := by omega
  have h2 : c.length ≤ 1000000000000 := by omega
  have h3 : c.length ≤ 16777216 := by omega
  have hp' : (0 : Int) < (c.length : Int) := by omega
  simp only [codeD] at e1 e5
  have e5' : ∃ junk, (sForL ⟨rng 0 c.length, none⟩ (gN 3) b5__law_sound (rng 0 c.length) [some (.tup (c.map Ln.toD)), x1, some (.adr 1), none, none, none, none, none] [.lst [.int 0], .lst (List.replicate c.length (D.int 0))]) = .nx g' junk := ⟨L', e5⟩
  rcases hk with ⟨t, rfl⟩ | ⟨o, rfl⟩
  · simp [den__law_sound, codeD, k4, hp, hp', hle, h1, e1, hl', Ln.toD, h2, h3, e5, flat_one]
  · simp [den__law_sound, codeD, k4, hp, hp', hle, h1, e1, hl', Ln.toD, h2, h3, e5, flat_one]
theorem call_sound (c : List Ln) (h : Sound c) (l : Sto) : m__law_sound [codeD c] l = .ok (.bl true) l := by
  obtain ⟨junk, e⟩ := run_sound c h
  exact callF_p (junk := junk) (es := [codeD c]) (by simp [ins, insOne]) (by simp [idx]) (by simpa [smA, smL] using e) (by simp)
end Q88

set_option Elab.async false
set_option linter.all false
set_option maxRecDepth 100000
set_option maxHeartbeats 4000000
namespace Q88
open PySem L2 PySem.Spec PyProof.Rows Zb
/-! ### what is drawn -/
theorem getJ_std (J : Jug) (r : Sto) : getJ (J.ob 1 :: J.gob :: r) 0 = some (1, J) := by simp [getJ, Jug.ob, Jug.gob]
theorem putJ_std (J J' : Jug) (r : Sto) : putJ (J.ob 1 :: J.gob :: r) 0 1 J' = J'.ob 1 :: J'.gob :: r := rfl
theorem rollE {J : Jug} (hJ : JOk J) (m : Nat) (i : Int) (hi : (m : Int) = i) (h1 : 1 ≤ m) (h2 : m ≤ 1000000) : ∃ k J1, k < m ∧ JOk J1 ∧ ∀ r, m__law_roll [.adr 0, .int i] (J.ob 1 :: J.gob :: r) = .ok (nD k) (J1.ob 1 :: J1.gob :: r) := by
  subst hi
  exact ⟨(rollF J m).1, (rollF J m).2, rollF_lt J h1, rollF_ok hJ m, fun r => by
    have := call_roll (l := J.ob 1 :: J.gob :: r) m (getJ_std J r) (by decide) hJ h1 h2
    rw [putJ_std] at this
    exact this⟩
theorem run_number {J : Jug} (hJ : JOk J) : ∃ n J', n < 9 ∧ JOk J' ∧ ∀ r, runB 1 den__law_number [.adr 0] (J.ob 1 :: J.gob :: r) = .ok (nD n) (J'.ob 1 :: J'.gob :: r) := by
  obtain ⟨a, J1, ha, hJ1, e1⟩ := rollE hJ 9 9 rfl (by decide) (by decide)
  obtain ⟨b, J2, hb, hJ2, e2⟩ := rollE hJ1 5 5 rfl (by decide) (by decide)
  have hb' : b = 0 ∨ b = 1 ∨ b = 2 ∨ b = 3 ∨ b = 4 := by omega
  rcases hb' with rfl | rfl | rfl | rfl | rfl
  · exact ⟨0, J2, by decide, hJ2, fun r => by simp [den__law_number, e1, e2]⟩
  · exact ⟨1, J2, by decide, hJ2, fun r => by simp [den__law_number, e1, e2]⟩
  · exact ⟨2, J2, by decide, hJ2, fun r => by simp [den__law_number, e1, e2]⟩
  · exact ⟨3, J2, by decide, hJ2, fun r => by simp [den__law_number, e1, e2]⟩
  · exact ⟨a, J2, ha, hJ2, fun r => by simp [den__law_number, e1, e2]⟩
theorem call_number {J : Jug} (hJ : JOk J) : ∃ n J', n < 9 ∧ JOk J' ∧ ∀ r, m__law_number [.adr 0] (J.ob 1 :: J.gob :: r) = .ok (nD n) (J'.ob 1 :: J'.gob :: r) := by
  obtain ⟨n, J', h1, h2, e⟩ := run_number hJ
  refine ⟨n, J', h1, h2, fun r => ?_⟩
  have := callJ_p (run := runB 1 den__law_number) (ks := []) (w := 0) (q := 1) (ds := []) (es := []) (l := J.ob 1 :: J.gob :: r) (junk := []) (d := nD n) (J := J) (J' := J') (getJ_std J r) rfl (by simp [idx]) (e []) rfl
  rw [putJ_std] at this
  exact this
/-- the numbers of a take -/
theorem numbers : ∀ (ds : List D) (it : ItD) (hok : ∀ l, it.ok l) (J : Jug) (hJ : JOk J) (x1 x2 x3 x4 x5 x6 x7 : Option D) (r : Sto) (acc : List Nat), acc.length + ds.length ≤ 1000 →
    ∃ ns J', ns.length = ds.length ∧ (∀ n ∈ ns, n < 9) ∧ JOk J' ∧ lcL it (gN 8) dYes e1__law_line [some (.adr 0), x1, x2, x3, x4, x5, x6, x7, none] ds (J.ob 1 :: J.gob :: r) (acc.map nD) = .ok ((acc ++ ns).map nD) (J'.ob 1 :: J'.gob :: r)
  | [], it, hok, J, hJ, x1, x2, x3, x4, x5, x6, x7, r, acc, _ => ⟨[], J, rfl, by simp, hJ, by simp [lcL, hok]⟩
  | d :: ds, it, hok, J, hJ, x1, x2, x3, x4, x5, x6, x7, r, acc, hl => by
    simp only [List.length_cons] at hl
    obtain ⟨n, J1, hn, hJ1, e⟩ := call_number hJ
    obtain ⟨ns, J2, h1, h2, hJ2, ih⟩ := numbers ds it hok J1 hJ1 x1 x2 x3 x4 x5 x6 x7 r (acc ++ [n]) (by simp; omega)
    refine ⟨n :: ns, J2, by simp [h1], ?_, hJ2, ?_⟩
    · intro m hm
      rcases List.mem_cons.mp hm with rfl | hm
      · exact hn
      · exact h2 m hm
    · have hg : gN 8 d (J.ob 1 :: J.gob :: r) [some (.adr 0), x1, x2, x3, x4, x5, x6, x7, none] = some [some (.adr 0), x1, x2, x3, x4, x5, x6, x7, some d] := rfl
      have hf : e1__law_line [some (.adr 0), x1, x2, x3, x4, x5, x6, x7, some d] (J.ob 1 :: J.gob :: r) = .ok (nD n) (J1.ob 1 :: J1.gob :: r) := by simp [e1__law_line, e]
      simp only [lcL, hok, if_true, hg, dYes_e, nox_ok, bind_ok, hf]
      rw [if_pos (by simp; omega)]
      have : acc.map nD ++ [nD n] = (acc ++ [n]).map nD := by simp
      rw [this, ih]
      simp
def GoodLn (p size : Nat) (throws : List Nat) : Ln → Prop
  | .throw r => r < 3
  | .set r n => r < 3 ∧ n < 9
  | .add r q => r < 3 ∧ q < 3
  | .times r q => r < 3 ∧ q < 3 ∧ throws = []
  | .take r q ns => r < 3 ∧ q < 3 ∧ 1 ≤ ns.length ∧ ns.length ≤ 3 ∧ ∀ n ∈ ns, n < 9
  | .below r n t => r < 3 ∧ n < 9 ∧ (t ∈ throws ∨ (p < t ∧ t < size))
  | .goto t => t ∈ throws ∨ (p < t ∧ t < size)
  | .fin _ => False
/-- the place that a way on leads to -/
theorem run_to {J : Jug} (hJ : JOk J) (p size : Nat) (throws : List Nat) (h : p + 1 < size) (hs : size ≤ 1000) (ht : throws.length ≤ 1000) (x4 x5 x6 x7 x8 : Option D) : ∃ t J', (t ∈ throws ∨ (p < t ∧ t < size)) ∧ JOk J' ∧
    (dIfE (dAnd (dBl (dOp (hCmp fun i j => decide (j < i)) (dCB hLen (dCons (dV 3) dNil)) (dC (.int 0)))) (dBl (dOp hEq (dCall 2 m__law_roll (dCons (dV 0) (dCons (dC (.int 3)) dNil))) (dC (.int 0))))) (dOp hIx (dV 3) (dCall 2 m__law_roll (dCons (dV 0) (dCons (dCB hLen (dCons (dV 3) dNil)) dNil)))) (dOp hAdd (dOp hAdd (dV 1) (dC (.int 1))) (dCall 2 m__law_roll (dCons (dV 0) (dCons (dOp (hInt yes2 fun i j => i - j) (dOp (hInt yes2 fun i j => i - j) (dV 2) (dC (.int 1))) (dV 1)) dNil)))))
      [some (.adr 0), some (nD p), some (nD size), some (.adr 2), x4, x5, x6, x7, x8] [J.ob 1, J.gob, .lst (throws.map nD)] = .ok (nD t) [J'.ob 1, J'.gob, .lst (throws.map nD)] := by
  have fwd : ∀ {J : Jug}, JOk J → ∃ t J', (t ∈ throws ∨ (p < t ∧ t < size)) ∧ JOk J' ∧ (dOp hAdd (dOp hAdd (dV 1) (dC (.int 1))) (dCall 2 m__law_roll (dCons (dV 0) (dCons (dOp (hInt yes2 fun i j => i - j) (dOp (hInt yes2 fun i j => i - j) (dV 2) (dC (.int 1))) (dV 1)) dNil)))) [some (.adr 0), some (nD p), some (nD size), some (.adr 2), x4, x5, x6, x7, x8] [J.ob 1, J.gob, .lst (throws.map nD)] = .ok (nD t) [J'.ob 1, J'.gob, .lst (throws.map nD)] := by
    intro J hJ
    obtain ⟨k, J1, hk, hJ1, e⟩ := rollE hJ (size - 1 - p) ((size : Int) - 1 - (p : Int)) (by omega) (by omega) (by omega)
    exact ⟨p + 1 + k, J1, .inr ⟨by omega, by omega⟩, hJ1, by simp [e, nD]⟩
  by_cases h0 : throws = []
  · subst h0
    obtain ⟨t, J1, a, b, e⟩ := fwd hJ
    refine ⟨t, J1, a, b, ?_⟩
    rw [dIfE_e]
    simp only [List.map_nil] at e ⊢
    simp only [dAnd_e, dBl_e, dOp_e, dCB_e, dCons_e, dV_e, List.getElem?_cons_succ, List.getElem?_cons_zero, bind_ok, dCons_k1_e, dNil_e, dCons_k2_e, dCB_k1_e, hLen_adr, dOp_k1_e, dC_e, dOp_k2_e, hCmp_int, dBl_k1_e, List.length_nil, dAnd_k1_e]
    simpa using e
  · have hpos : 0 < throws.length := List.length_pos_iff.mpr h0
    obtain ⟨k, J1, hk, hJ1, e1⟩ := rollE hJ 3 3 rfl (by decide) (by decide)
    by_cases hk0 : k = 0
    · subst hk0
      obtain ⟨i, J2, hi, hJ2, e2⟩ := rollE hJ1 throws.length (throws.length : Int) rfl (by omega) (by omega)
      refine ⟨throws[i], J2, .inl (List.getElem_mem _), hJ2, ?_⟩
      simp [e1, e2, hpos, hi]
    · obtain ⟨t, J2, a, b, e⟩ := fwd hJ1
      refine ⟨t, J2, a, b, ?_⟩
      have hk1 : ¬ (k : Int) = 0 := by omega
      rw [← e]
      simp [e1, hpos, hk0, hk1]
theorem run_line {J : Jug} (hJ : JOk J) (p size : Nat) (throws : List Nat) (h : p + 1 < size) (hs : size ≤ 1000) (ht : throws.length ≤ 1000) : ∃ ln J' junk, GoodLn p size throws ln ∧ JOk J' ∧
    runB 9 den__law_line [.adr 0, nD p, nD size, .adr 2] [J.ob 1, J.gob, .lst (throws.map nD)] = .ok ln.toD (J'.ob 1 :: J'.gob :: .lst (throws.map nD) :: junk) := by
  obtain ⟨k, J1, hk, hJ1, e1⟩ := rollE hJ 9 9 rfl (by decide) (by decide)
  obtain ⟨x, J2, hx, hJ2, e2⟩ := rollE hJ1 3 3 rfl (by decide) (by decide)
  obtain ⟨y, J3, hy, hJ3, e3⟩ := rollE hJ2 3 3 rfl (by decide) (by decide)
  by_cases k01 : k < 2
  · refine ⟨.throw x, J3, [], hx, hJ3, ?_⟩
    have : (k : Int) < 2 := by omega
    simp [den__law_line, e1, e2, e3, this, Ln.toD]
  have k01' : ¬ (k : Int) < 2 := by omega
  by_cases k2 : k = 2
  · subst k2
    obtain ⟨n, J4, hn, hJ4, e4⟩ := call_number hJ3
    refine ⟨.set x n, J4, [], ⟨hx, hn⟩, hJ4, ?_⟩
    simp [den__law_line, e1, e2, e3, e4, Ln.toD]
  have k2' : ¬ (k : Int) = 2 := by omega
  by_cases k3 : k = 3
  · subst k3
    by_cases h0 : throws = []
    · subst h0
      obtain ⟨b, J4, hb, hJ4, e4⟩ := rollE hJ3 2 2 rfl (by decide) (by decide)
      by_cases b0 : b = 0
      · subst b0
        refine ⟨.times x y, J4, [], ⟨hx, hy, rfl⟩, hJ4, ?_⟩
        simp [den__law_line, e1, e2, e3, e4, Ln.toD]
      · have b1 : ¬ (b : Int) = 0 := by omega
        refine ⟨.add x y, J4, [], ⟨hx, hy⟩, hJ4, ?_⟩
        simp [den__law_line, e1, e2, e3, e4, Ln.toD, b0, b1]
    · refine ⟨.add x y, J3, [], ⟨hx, hy⟩, hJ3, ?_⟩
      simp [den__law_line, e1, e2, e3, Ln.toD, h0]
  have k3' : ¬ (k : Int) = 3 := by omega
  by_cases k4 : k = 4
  · subst k4
    obtain ⟨b, J4, hb, hJ4, e4⟩ := rollE hJ3 3 3 rfl (by decide) (by decide)
    have hb' : b ≤ 1000 := by omega
    have hlen : (rng 0 (1 + b)).length = 1 + b := rng_len _ _
    obtain ⟨ns, J5, h1, h2, hJ5, e5⟩ := numbers (rng 0 (1 + b)) ⟨rng 0 (1 + b), none⟩ (fun _ => trivial) J4 hJ4 (some (nD p)) (some (nD size)) (some (.adr 2)) (some (nD 4)) (some (nD x)) (some (nD y)) none [.lst (throws.map nD)] [] (by rw [hlen]; simp; omega)
    refine ⟨.take x y ns, J5, [.lst (ns.map nD)], ⟨hx, hy, by omega, by omega, h2⟩, hJ5, ?_⟩
    have hm : mid (1 + (b : Int)) = true := by
      have : (1 + (b : Int)) = ((1 + b : Nat) : Int) := by omega
      rw [this, mid_nat]; simp; omega
    have ht : (1 + (b : Int)).toNat = 1 + b := by omega
    simp only [List.map_nil, List.nil_append] at e5
    simp [den__law_line, e1, e2, e3, e4, Ln.toD, hm, ht, e5]
  have k4' : ¬ (k : Int) = 4 := by omega
  obtain ⟨t, J4, htt, hJ4, e4⟩ := run_to hJ3 p size throws h hs ht (some (nD k)) (some (nD x)) (some (nD y)) none none
  have pre : ∀ K : DS, (sSeq (sSet 4 (dCall 2 m__law_roll (dCons (dV 0) (dCons (dC (.int 9)) dNil))))    (sSeq (sPar 5 6 (dCons (dCall 2 m__law_roll (dCons (dV 0) (dCons (dC (.int 3)) dNil))) (dCons (dCall 2 m__law_roll (dCons (dV 0) (dCons (dC (.int 3)) dNil))) dNil)))    (sSeq (sIf (dBl (dOp (hCmp fun i j => decide (i < j)) (dV 4) (dC (.int 2)))) (sRet (dTup (dCons (dC (.str "throw")) (dCons (dV 5) dNil)))) sNx)    (sSeq (sIf (dBl (dOp hEq (dV 4) (dC (.int 2)))) (sRet (dTup (dCons (dC (.str "set")) (dCons (dV 5) (dCons (dCall 1 m__law_number (dCons (dV 0) dNil)) dNil))))) sNx)    (sSeq (sIf (dBl (dOp hEq (dV 4) (dC (.int 3)))) (sRet (dTup (dCons (dIfE (dAnd (dBl (dOp hEq (dCB hLen (dCons (dV 3) dNil)) (dC (.int 0)))) (dBl (dOp hEq (dCall 2 m__law_roll (dCons (dV 0) (dCons (dC (.int 2)) dNil))) (dC (.int 0))))) (dC (.str "times")) (dC (.str "add"))) (dCons (dV 5) (dCons (dV 6) dNil))))) sNx)    (sSeq (sIf (dBl (dOp hEq (dV 4) (dC (.int 4)))) (sRet (dTup (dCons (dC (.str "take")) (dCons (dV 5) (dCons (dV 6) (dCons (dCB hTupOf (dCons (dLc (dRng1 (dCons (dOp hAdd (dC (.int 1)) (dCall 2 m__law_roll (dCons (dV 0) (dCons (dC (.int 3)) dNil)))) dNil)) (gN 8) dYes e1__law_line [8]) dNil)) dNil)))))) sNx)    K)))))) [some (.adr 0), some (nD p), some (nD size), some (.adr 2), none, none, none, none, none] [J.ob 1, J.gob, .lst (throws.map nD)] = K [some (.adr 0), some (nD p), some (nD size), some (.adr 2), some (nD k), some (nD x), some (nD y), none, none] [J3.ob 1, J3.gob, .lst (throws.map nD)] := by
    intro K
    simp [e1, e2, e3, k01', k2, k2', k3, k3', k4, k4']
  have e5 : runB 9 den__law_line [.adr 0, nD p, nD size, .adr 2] [J.ob 1, J.gob, .lst (throws.map nD)] = (den__law_line [some (.adr 0), some (nD p), some (nD size), some (.adr 2), none, none, none, none, none] [J.ob 1, J.gob, .lst (throws.map nD)]).toB := rfl
  rw [e5]
  unfold den__law_line
  rw [pre, sSeq_e, sSet_e, e4, out_ok, sSet_k1_e, seq_nx]
  by_cases k8 : k < 8
  · have k8' : (k : Int) < 8 := by omega
    obtain ⟨n, J5, hn, hJ5, e6⟩ := call_number hJ4
    refine ⟨.below x n t, J5, [], ⟨hx, hn, htt⟩, hJ5, ?_⟩
    simp [e6, k8, k8', Ln.toD]
  · have k8' : ¬ (k : Int) < 8 := by omega
    refine ⟨.goto t, J4, [], htt, hJ4, ?_⟩
    simp [k8, k8', Ln.toD]
end Q88

set_option Elab.async false
set_option linter.all false
set_option maxRecDepth 100000
set_option maxHeartbeats 4000000
namespace Q88
open PySem L2 PySem.Spec PyProof.Rows Zb
/-! ### _law_drawn -/
theorem call_line {J : Jug} (hJ : JOk J) (p size : Nat) (throws : List Nat) (h : p + 1 < size) (hs : size ≤ 1000) (ht : throws.length ≤ 1000) : ∃ ln J', GoodLn p size throws ln ∧ JOk J' ∧
    ∀ (a : OB) (r : Sto), m__law_line [.adr 0, nD p, nD size, .adr 3] (J.ob 1 :: J.gob :: a :: .lst (throws.map nD) :: r) = .ok ln.toD (J'.ob 1 :: J'.gob :: a :: .lst (throws.map nD) :: r) := by
  obtain ⟨ln, J', junk, h1, h2, e⟩ := run_line hJ p size throws h hs ht
  refine ⟨ln, J', h1, h2, fun a r => ?_⟩
  have := callJ_p (run := runB 9 den__law_line) (ks := [.P, .P, .L]) (w := 0) (q := 1) (ds := [nD p, nD size, .adr 3]) (es := [nD p, nD size, .tup (throws.map nD)]) (l := J.ob 1 :: J.gob :: a :: .lst (throws.map nD) :: r) (junk := junk) (d := ln.toD) (J := J) (J' := J') (getJ_std J _) (by simp [ins, insOne]) (by simp [idx]) (by simpa [smA, smL] using e) (by simp)
  rw [putJ_std] at this
  exact this
def LnOk (outs size : Nat) (c : List Ln) (i : Nat) : Ln → Prop
  | .throw r => r ≤ 9
  | .set r n => r ≤ 9 ∧ n ≤ 8
  | .add r q => r ≤ 9 ∧ q ≤ 9
  | .times r q => r ≤ 9 ∧ q ≤ 9 ∧ i < 16 ∧ ∀ j, j < i → ¬ isThrow c j
  | .take r q ns => r ≤ 9 ∧ q ≤ 9 ∧ 0 < ns.length ∧ ns.length ≤ 400 ∧ ∀ n ∈ ns, n ≤ 8
  | .below r _ t => r ≤ 9 ∧ t < size ∧ (i < t ∨ isThrow c t)
  | .goto t => t < size ∧ (i < t ∨ isThrow c t)
  | .fin o => o < outs
structure PInv (outs size : Nat) (c : List Ln) (ts : List Nat) : Prop where
  th : ∀ t ∈ ts, isThrow c t
  no : ts = [] → ∀ j, ¬ isThrow c j
  ln : ∀ i ln, c[i]? = some ln → LnOk outs size c i ln
  le : c.length ≤ size
  len : ts.length ≤ c.length
theorem isThrow_app {c : List Ln} {x : Ln} {t : Nat} (h : isThrow c t) : isThrow (c ++ [x]) t := by
  obtain ⟨r, e⟩ := h
  exact ⟨r, by rw [List.getElem?_append_left (List.getElem?_eq_some_iff.mp e).1]; exact e⟩
theorem isThrow_lt {c : List Ln} {t : Nat} (h : isThrow c t) : t < c.length := by
  obtain ⟨r, e⟩ := h
  exact (List.getElem?_eq_some_iff.mp e).1
theorem isThrow_bk {c : List Ln} {x : Ln} {t : Nat} (ht : t < c.length) (h : isThrow (c ++ [x]) t) : isThrow c t := by
  obtain ⟨r, e⟩ := h
  exact ⟨r, by rw [List.getElem?_append_left ht] at e; exact e⟩
theorem LnOk.app {outs size : Nat} {c : List Ln} {x : Ln} {i : Nat} {ln : Ln} (hi : i < c.length) (h : LnOk outs size c i ln) : LnOk outs size (c ++ [x]) i ln := by
  cases ln with
  | times r q => exact ⟨h.1, h.2.1, h.2.2.1, fun j hj z => h.2.2.2 j hj (isThrow_bk (by omega) z)⟩
  | below r n t => exact ⟨h.1, h.2.1, h.2.2.imp id isThrow_app⟩
  | goto t => exact ⟨h.1, h.2.imp id isThrow_app⟩
  | _ => exact h
theorem LnOk.good {outs size : Nat} {c : List Ln} {ts : List Nat} {ln : Ln} (h : PInv outs size c ts) (hs : c.length < 16) (g : GoodLn c.length size ts ln) : LnOk outs size (c ++ [ln]) c.length ln := by
  have to : ∀ t, (t ∈ ts ∨ (c.length < t ∧ t < size)) → t < size ∧ (c.length < t ∨ isThrow (c ++ [ln]) t) := by
    rintro t (h1 | h1)
    · have := h.th t h1
      exact ⟨Nat.lt_of_lt_of_le (isThrow_lt this) h.le, .inr (isThrow_app this)⟩
    · exact ⟨h1.2, .inl h1.1⟩
  cases ln with
  | throw r => simp only [GoodLn] at g; simp only [LnOk]; omega
  | set r n => simp only [GoodLn] at g; simp only [LnOk]; omega
  | add r q => simp only [GoodLn] at g; simp only [LnOk]; omega
  | times r q =>
    simp only [GoodLn] at g
    exact ⟨by omega, by omega, hs, fun j hj z => h.no g.2.2 j (isThrow_bk hj z)⟩
  | take r q ns =>
    simp only [GoodLn] at g
    exact ⟨by omega, by omega, by omega, by omega, fun n hn => by have := g.2.2.2.2 n hn; omega⟩
  | below r n t =>
    simp only [GoodLn] at g
    exact ⟨by omega, to t g.2.2⟩
  | goto t => exact to t g
  | fin o => exact g.elim
def isTh : Ln → Bool
  | .throw _ => true
  | _ => false
theorem PInv.snoc {outs size : Nat} {c : List Ln} {ts : List Nat} {ln : Ln} (h : PInv outs size c ts) (hl : LnOk outs size (c ++ [ln]) c.length ln) (hs : c.length < size) : PInv outs size (c ++ [ln]) (ts ++ List.replicate (if isTh ln then 1 else 0) c.length) := by
  refine ⟨fun t ht => ?_, fun e j hj => ?_, fun i l e => ?_, by simp; omega, ?_⟩
  · rcases List.mem_append.mp ht with ht | ht
    · exact isThrow_app (h.th t ht)
    · cases ln <;> simp [isTh] at ht
      subst ht
      exact ⟨_, by simp; rfl⟩
  · have e1 : ts = [] := (List.append_eq_nil_iff.mp e).1
    have e2 := (List.append_eq_nil_iff.mp e).2
    by_cases q : j < c.length
    · exact h.no e1 j (isThrow_bk q hj)
    · have := isThrow_lt hj
      simp at this
      have hj' : j = c.length := by omega
      subst hj'
      obtain ⟨r, e3⟩ := hj
      simp at e3
      subst e3
      simp [isTh] at e2
  · by_cases q : i < c.length
    · rw [List.getElem?_append_left q] at e
      exact (h.ln i l e).app q
    · have := (List.getElem?_eq_some_iff.mp e).1
      simp at this
      have hi : i = c.length := by omega
      subst hi
      simp at e
      subst e
      exact hl
  · have := h.len
    simp
    split <;> omega
theorem flat_rep (p : Nat) (b : Bool) : (List.replicate (if b then (1 : Int) else 0).toNat [nD p]).flatten = (List.replicate (if b then 1 else 0) p).map nD := by
  cases b <;> rfl
theorem b1_drawn {J : Jug} (hJ : JOk J) (outs size : Nat) (c : List Ln) (ts : List Nat) (h : PInv outs size c ts) (hp : c.length + 1 < size) (hs : size ≤ 9) (ho1 : 1 ≤ outs) (ho2 : outs ≤ 1000) (x6 : Option D) (r : Sto) :
    ∃ ln J' x6' r', PInv outs size (c ++ [ln]) (ts ++ List.replicate (if isTh ln then 1 else 0) c.length) ∧ JOk J' ∧
      b1__law_drawn [some (.adr 0), some (nD outs), some (nD size), some (.adr 2), some (.adr 3), some (nD c.length), x6] (J.ob 1 :: J.gob :: .lst (c.map Ln.toD) :: .lst (ts.map nD) :: r) =
        .nx [some (.adr 0), some (nD outs), some (nD size), some (.adr 2), some (.adr 3), some (nD c.length), x6'] (J'.ob 1 :: J'.gob :: .lst ((c ++ [ln]).map Ln.toD) :: .lst ((ts ++ List.replicate (if isTh ln then 1 else 0) c.length).map nD) :: r') := by
  have hlen := h.len
  have rest : ∀ (ln : Ln) (J' : Jug), ∃ r', (sSeq (sExpr (dMe hExt (dV 4) (dCons (dOp hMulT (dLst (dCons (dV 5) dNil)) (dCB hInt1 (dCons (dOp hEq (dOp hIx (dV 6) (dC (.int 0))) (dC (.str "throw"))) dNil))) dNil)))
      (sExpr (dMe hApp (dV 3) (dCons (dV 6) dNil)))) [some (.adr 0), some (nD outs), some (nD size), some (.adr 2), some (.adr 3), some (nD c.length), some ln.toD] (J'.ob 1 :: J'.gob :: .lst (c.map Ln.toD) :: .lst (ts.map nD) :: r) =
      .nx [some (.adr 0), some (nD outs), some (nD size), some (.adr 2), some (.adr 3), some (nD c.length), some ln.toD] (J'.ob 1 :: J'.gob :: .lst ((c ++ [ln]).map Ln.toD) :: .lst ((ts ++ List.replicate (if isTh ln then 1 else 0) c.length).map nD) :: r') := by
    intro ln J'
    have h1 : c.length ≤ 16777215 := by omega
    have h2 : ts.length ≤ 16777215 := by omega
    have h3 : ts.length ≤ 16777216 := by omega
    have h4 : ts.length + 1 ≤ 16777216 := by omega
    cases ln <;> simp [Ln.toD, isTh, h1, h2, h3, h4]
  obtain ⟨k, J1, hk, hJ1, e1⟩ := rollE hJ 6 6 rfl (by decide) (by decide)
  unfold b1__law_drawn
  by_cases k0 : 0 < k
  · have k0' : (0 : Int) < (k : Int) := by omega
    obtain ⟨ln, J2, g, hJ2, e2⟩ := call_line hJ1 c.length size ts hp (by omega) (by omega)
    obtain ⟨r', er⟩ := rest ln J2
    refine ⟨ln, J2, some ln.toD, r', h.snoc (LnOk.good h (by omega) g) (by omega), hJ2, ?_⟩
    rw [← er, sSeq_e]
    simp [e1, k0, k0', e2]
  · have k0' : ¬ (0 : Int) < (k : Int) := by omega
    obtain ⟨o, J2, ho, hJ2, e2⟩ := rollE hJ1 outs (outs : Int) rfl ho1 (by omega)
    obtain ⟨r', er⟩ := rest (.fin o) J2
    refine ⟨.fin o, J2, some (Ln.fin o).toD, r', h.snoc ho (by omega), hJ2, ?_⟩
    rw [← er, sSeq_e]
    simp only [Ln.toD]
    simp [e1, k0, k0', e2]
theorem rng_nD (n : Nat) : rng 0 n = (List.range' 0 n).map nD := by
  rw [← List.range_eq_range']
  unfold rng nD
  apply List.map_congr_left
  intro i _
  simp
theorem loop_drawn {it : ItD} (hok : ∀ l, it.ok l) (outs size : Nat) (hs : size ≤ 9) (ho1 : 1 ≤ outs) (ho2 : outs ≤ 1000) : ∀ (m : Nat) (J : Jug) (c : List Ln) (ts : List Nat) (x5 x6 : Option D) (r : Sto), JOk J → PInv outs size c ts → c.length + m + 1 ≤ size →
    ∃ J' c' ts' y5 y6 r', JOk J' ∧ PInv outs size c' ts' ∧ c'.length = c.length + m ∧
      sForL it (gN 5) b1__law_drawn ((List.range' c.length m).map nD) [some (.adr 0), some (nD outs), some (nD size), some (.adr 2), some (.adr 3), x5, x6] (J.ob 1 :: J.gob :: .lst (c.map Ln.toD) :: .lst (ts.map nD) :: r) =
        .nx [some (.adr 0), some (nD outs), some (nD size), some (.adr 2), some (.adr 3), y5, y6] (J'.ob 1 :: J'.gob :: .lst (c'.map Ln.toD) :: .lst (ts'.map nD) :: r')
  | 0, J, c, ts, x5, x6, r, hJ, h, hl => ⟨J, c, ts, x5, x6, r, hJ, h, rfl, by rw [List.range'_zero, List.map_nil, for_nil _ _ _ _ (hok _)]⟩
  | m + 1, J, c, ts, x5, x6, r, hJ, h, hl => by
    obtain ⟨ln, J1, x6', r1, h1, hJ1, e⟩ := b1_drawn hJ outs size c ts h (by omega) hs ho1 ho2 x6 r
    obtain ⟨J', c', ts', y5, y6, r', a1, a2, a3, ih⟩ := loop_drawn hok outs size hs ho1 ho2 m J1 (c ++ [ln]) _ (some (nD c.length)) x6' r1 hJ1 h1 (by simp; omega)
    have hg : gN 5 (nD c.length) (J.ob 1 :: J.gob :: .lst (c.map Ln.toD) :: .lst (ts.map nD) :: r) [some (.adr 0), some (nD outs), some (nD size), some (.adr 2), some (.adr 3), x5, x6] = some [some (.adr 0), some (nD outs), some (nD size), some (.adr 2), some (.adr 3), some (nD c.length), x6] := rfl
    refine ⟨J', c', ts', y5, y6, r', a1, a2, by rw [a3]; simp; omega, ?_⟩
    rw [List.range'_succ, List.map_cons, for_cons _ _ _ _ _ _ (hok _), hg]
    simp only [e, loop_nx]
    have : c.length + 1 = (c ++ [ln]).length := by simp
    rw [this]
    exact ih
theorem run_of {J : Jug} (hJ : JOk J) (xs : List D) (h0 : xs ≠ []) (h1 : xs.length ≤ 1000) : ∃ (i : Nat) (hi : i < xs.length) (J' : Jug), JOk J' ∧ runB 2 den__law_of [.adr 0, .adr 2] [J.ob 1, J.gob, .lst xs] = .ok xs[i] [J'.ob 1, J'.gob, .lst xs] := by
  have hpos : 0 < xs.length := List.length_pos_iff.mpr h0
  obtain ⟨i, J1, hi, hJ1, e⟩ := rollE hJ xs.length (xs.length : Int) rfl (by omega) (by omega)
  exact ⟨i, hi, J1, hJ1, by simp [den__law_of, e, hi]⟩
theorem call_ofT {J : Jug} (hJ : JOk J) (ts : List Nat) (h0 : ts ≠ []) (h1 : ts.length ≤ 1000) : ∃ t J', t ∈ ts ∧ JOk J' ∧ ∀ (a : OB) (r : Sto), m__law_of [.adr 0, .adr 3] (J.ob 1 :: J.gob :: a :: .lst (ts.map nD) :: r) = .ok (nD t) (J'.ob 1 :: J'.gob :: a :: .lst (ts.map nD) :: r) := by
  obtain ⟨i, hi, J', hJ', e⟩ := run_of hJ (ts.map nD) (by simpa using h0) (by simpa using h1)
  have hi' : i < ts.length := by simpa using hi
  refine ⟨ts[i], J', List.getElem_mem _, hJ', fun a r => ?_⟩
  have hx : (ts.map nD)[i] = nD ts[i] := by simp
  rw [hx] at e
  have := callJ_p (run := runB 2 den__law_of) (ks := [.L]) (w := 0) (q := 1) (ds := [.adr 3]) (es := [.tup (ts.map nD)]) (l := J.ob 1 :: J.gob :: a :: .lst (ts.map nD) :: r) (junk := []) (d := nD ts[i]) (J := J) (J' := J') (getJ_std J _) (by simp [ins, insOne]) (by simp [idx]) (by simpa [smA, smL] using e) (by simp)
  rw [putJ_std] at this
  exact this
/-- a drawn code -/
structure Good (outs : Nat) (c : List Ln) : Prop where
  lo : 2 ≤ c.length
  hi : c.length ≤ 9
  last : ∃ ln, c[c.length - 1]? = some ln ∧ ((∃ t, ln = .goto t) ∨ ∃ o, ln = .fin o)
  ln : ∀ i ln, c[i]? = some ln → LnOk outs c.length c i ln
theorem good_of {outs size : Nat} {c : List Ln} {ts : List Nat} {ln : Ln} (h : PInv outs size c ts) (hc : c.length + 1 = size) (h2 : 2 ≤ size) (h9 : size ≤ 9) (hl : LnOk outs size (c ++ [ln]) c.length ln) (hk : (∃ t, ln = .goto t) ∨ ∃ o, ln = .fin o) : Good outs (c ++ [ln]) := by
  have p := h.snoc hl (by omega)
  have hlen : (c ++ [ln]).length = size := by simp; omega
  exact ⟨by omega, by omega, ⟨ln, by rw [hlen]; have : size - 1 = c.length := by omega
                                     rw [this]; simp, hk⟩, by rw [hlen]; exact p.ln⟩
theorem run_drawn {J : Jug} (hJ : JOk J) (outs : Nat) (ho1 : 1 ≤ outs) (ho2 : outs ≤ 1000) : ∃ c J' junk, Good outs c ∧ JOk J' ∧ runB 7 den__law_drawn [.adr 0, nD outs] [J.ob 1, J.gob] = .ok (codeD c) (J'.ob 1 :: J'.gob :: junk) := by
  obtain ⟨k, J1, hk, hJ1, e1⟩ := rollE hJ 8 8 rfl (by decide) (by decide)
  have hnil : PInv outs (2 + k) [] [] := ⟨by simp, fun _ j hj => by have := isThrow_lt hj; simp at this, fun i ln e => by simp at e, by simp, by simp⟩
  obtain ⟨J2, c, ts, y5, y6, r, hJ2, hP, hlen, e2⟩ := loop_drawn (it := ⟨rng 0 (1 + k), none⟩) (fun _ => trivial) outs (2 + k) (by omega) ho1 ho2 (1 + k) J1 [] [] none none [] hJ1 hnil (by simp; omega)
  simp only [List.length_nil, ← rng_nD, List.map_nil, Nat.zero_add] at e2 hlen
  have e0 : nD (2 + k) = D.int (2 + (k : Int)) := by simp [nD]
  rw [e0] at e2
  have hm : mid (2 + (k : Int) - 1) = true := by
    have : (2 + (k : Int) - 1) = ((1 + k : Nat) : Int) := by omega
    rw [this, mid_nat]; simp; omega
  have ht : (2 + (k : Int) - 1).toNat = 1 + k := by omega
  have hcl : c.length + 1 ≤ 16777216 := by omega
  have tl := hP.len
  have last : ∀ {J3 : Jug}, JOk J3 → ∃ c' J' junk, Good outs c' ∧ JOk J' ∧ (sRet (dCB hTupOf (dCons (dOp hAdd (dV 3) (dLst (dCons (dTup (dCons (dC (.str "end")) (dCons (dCall 2 m__law_roll (dCons (dV 0) (dCons (dV 1) dNil))) dNil))) dNil))) dNil))) [some (.adr 0), some (nD outs), some (D.int (2 + (k : Int))), some (.adr 2), some (.adr 3), y5, y6] (J3.ob 1 :: J3.gob :: .lst (c.map Ln.toD) :: .lst (ts.map nD) :: r) = .rt (codeD c') (J'.ob 1 :: J'.gob :: junk) := by
    intro J3 hJ3
    obtain ⟨o, J4, ho, hJ4, e⟩ := rollE hJ3 outs (outs : Int) rfl ho1 (by omega)
    refine ⟨c ++ [Ln.fin o], J4, .lst (c.map Ln.toD) :: .lst (ts.map nD) :: (r ++ [.lst [(Ln.fin o).toD], .lst ((c ++ [Ln.fin o]).map Ln.toD)]), good_of hP (by omega) (by omega) (by omega) (show LnOk outs (2 + k) (c ++ [Ln.fin o]) c.length (Ln.fin o) from ho) (.inr ⟨o, rfl⟩), hJ4, ?_⟩
    simp [e, hcl, Ln.toD, codeD]
  by_cases h0 : ts = []
  · subst h0
    obtain ⟨c', J', junk, g, hJ', e⟩ := last hJ2
    simp only [List.map_nil] at e e2
    have e' : sRet (dCB hTupOf (dCons (dOp hAdd (dV 3) (dLst (dCons (dTup (dCons (dC (.str "end")) (dCons (dCall 2 m__law_roll (dCons (dV 0) (dCons (dV 1) dNil))) dNil))) dNil))) dNil)) [some (.adr 0), some (nD outs), some (D.int (2 + (k : Int))), some (.adr 2), some (.adr 3), y5, y6] (J2.ob 1 :: J2.gob :: .lst (c.map Ln.toD) :: .lst [] :: r) = .rt (codeD c') (J'.ob 1 :: J'.gob :: junk) := e
    refine ⟨c', J', junk, g, hJ', ?_⟩
    have pre : ∀ K : DS, (sSeq (sSet 2 (dOp hAdd (dC (.int 2)) (dCall 2 m__law_roll (dCons (dV 0) (dCons (dC (.int 8)) dNil))))) (sSeq (sPar 3 4 (dCons (dLst dNil) (dCons (dLst dNil) dNil))) (sSeq (sFor (dRng1 (dCons (dOp (hInt yes2 fun i j => i - j) (dV 2) (dC (.int 1))) dNil)) (gN 5) b1__law_drawn) (sSeq (sIf (dAnd (dBl (dOp (hCmp fun i j => decide (j < i)) (dCB hLen (dCons (dV 4) dNil)) (dC (.int 0)))) (dBl (dOp hEq (dCall 2 m__law_roll (dCons (dV 0) (dCons (dC (.int 4)) dNil))) (dC (.int 0))))) (sRet (dCB hTupOf (dCons (dOp hAdd (dV 3) (dLst (dCons (dTup (dCons (dC (.str "goto")) (dCons (dCall 2 m__law_of (dCons (dV 0) (dCons (dV 4) dNil))) dNil))) dNil))) dNil))) sNx) K)))) [some (.adr 0), some (nD outs), none, none, none, none, none] [J.ob 1, J.gob] = K [some (.adr 0), some (nD outs), some (D.int (2 + (k : Int))), some (.adr 2), some (.adr 3), y5, y6] (J2.ob 1 :: J2.gob :: .lst (c.map Ln.toD) :: .lst [] :: r) := by
      intro K
      simp [e1, hm, ht, e2]
    rw [show runB 7 den__law_drawn [.adr 0, nD outs] [J.ob 1, J.gob] = (den__law_drawn [some (.adr 0), some (nD outs), none, none, none, none, none] [J.ob 1, J.gob]).toB from rfl]
    unfold den__law_drawn
    rw [pre, e']
    rfl
  · have hpos : 0 < ts.length := List.length_pos_iff.mpr h0
    obtain ⟨b, J3, hb, hJ3, e3⟩ := rollE hJ2 4 4 rfl (by decide) (by decide)
    by_cases b0 : b = 0
    · subst b0
      obtain ⟨t, J4, ht4, hJ4, e4⟩ := call_ofT hJ3 ts h0 (by omega)
      have htt := hP.th t ht4
      have hgo : LnOk outs (2 + k) (c ++ [Ln.goto t]) c.length (Ln.goto t) := ⟨Nat.lt_of_lt_of_le (isThrow_lt htt) hP.le, .inr (isThrow_app htt)⟩
      refine ⟨c ++ [Ln.goto t], J4, .lst (c.map Ln.toD) :: .lst (ts.map nD) :: (r ++ [.lst [(Ln.goto t).toD], .lst ((c ++ [Ln.goto t]).map Ln.toD)]), good_of hP (by omega) (by omega) (by omega) hgo (.inl ⟨t, rfl⟩), hJ4, ?_⟩
      simp [den__law_drawn, e1, hm, ht, e2, e3, e4, hpos, hcl, Ln.toD, codeD]
    · have b1 : ¬ (b : Int) = 0 := by omega
      obtain ⟨c', J', junk, g, hJ', e⟩ := last hJ3
      refine ⟨c', J', junk, g, hJ', ?_⟩
      have pre : ∀ K : DS, (sSeq (sSet 2 (dOp hAdd (dC (.int 2)) (dCall 2 m__law_roll (dCons (dV 0) (dCons (dC (.int 8)) dNil))))) (sSeq (sPar 3 4 (dCons (dLst dNil) (dCons (dLst dNil) dNil))) (sSeq (sFor (dRng1 (dCons (dOp (hInt yes2 fun i j => i - j) (dV 2) (dC (.int 1))) dNil)) (gN 5) b1__law_drawn) (sSeq (sIf (dAnd (dBl (dOp (hCmp fun i j => decide (j < i)) (dCB hLen (dCons (dV 4) dNil)) (dC (.int 0)))) (dBl (dOp hEq (dCall 2 m__law_roll (dCons (dV 0) (dCons (dC (.int 4)) dNil))) (dC (.int 0))))) (sRet (dCB hTupOf (dCons (dOp hAdd (dV 3) (dLst (dCons (dTup (dCons (dC (.str "goto")) (dCons (dCall 2 m__law_of (dCons (dV 0) (dCons (dV 4) dNil))) dNil))) dNil))) dNil))) sNx) K)))) [some (.adr 0), some (nD outs), none, none, none, none, none] [J.ob 1, J.gob] = K [some (.adr 0), some (nD outs), some (D.int (2 + (k : Int))), some (.adr 2), some (.adr 3), y5, y6] (J3.ob 1 :: J3.gob :: .lst (c.map Ln.toD) :: .lst (ts.map nD) :: r) := by
        intro K
        simp [e1, hm, ht, e2, e3, b0, b1, hpos]
      rw [show runB 7 den__law_drawn [.adr 0, nD outs] [J.ob 1, J.gob] = (den__law_drawn [some (.adr 0), some (nD outs), none, none, none, none, none] [J.ob 1, J.gob]).toB from rfl]
      unfold den__law_drawn
      rw [pre, e]
      rfl
end Q88

set_option Elab.async false
set_option linter.all false
set_option maxRecDepth 100000
set_option maxHeartbeats 4000000
namespace Q88
open PySem L2 PySem.Spec PyProof.Rows Zb
/-! ### the plain law: runs of sound codes end -/
structure CodeOk (outs : Nat) (c : List Ln) : Prop where
  pos : 0 < c.length
  le : c.length ≤ 4000
  last : ∃ ln, c[c.length - 1]? = some ln ∧ ((∃ t, ln = .goto t) ∨ ∃ o, ln = .fin o)
  ln : ∀ i ln, c[i]? = some ln → LnOk outs c.length c i ln
theorem Good.ok {outs : Nat} {c : List Ln} (h : Good outs c) : CodeOk outs c := ⟨by have := h.lo; omega, by have := h.hi; omega, h.last, h.ln⟩
section
variable {outs : Nat} {c : List Ln}
theorem CodeOk.next (h : CodeOk outs c) {i : Nat} {ln : Ln} (e : c[i]? = some ln) (h1 : ∀ t, ln ≠ .goto t) (h2 : ∀ o, ln ≠ .fin o) : i + 1 < c.length := by
  have hi := (List.getElem?_eq_some_iff.mp e).1
  obtain ⟨l, hl, hk⟩ := h.last
  by_cases q : i = c.length - 1
  · subst q
    rw [hl] at e
    cases e
    rcases hk with ⟨t, rfl⟩ | ⟨o, rfl⟩
    · exact absurd rfl (h1 t)
    · exact absurd rfl (h2 o)
  · omega
theorem CodeOk.fw (h : CodeOk outs c) : Fw c := by
  intro p ln e t ht
  have hl := h.ln p ln e
  have nx := h.next (i := p) e
  cases ln with
  | throw r => simp [onL] at ht
  | fin o => simp [onL] at ht
  | goto t' => simp [onL] at ht; subst ht; exact hl
  | below r n t' =>
    simp [onL] at ht
    rcases ht with rfl | rfl
    · exact ⟨nx (by intro t z; cases z) (by intro t z; cases z), .inl (by omega)⟩
    · exact hl.2
  | set r n => simp [onL] at ht; subst ht; exact ⟨nx (by intro t z; cases z) (by intro t z; cases z), .inl (by omega)⟩
  | add r n => simp [onL] at ht; subst ht; exact ⟨nx (by intro t z; cases z) (by intro t z; cases z), .inl (by omega)⟩
  | times r n => simp [onL] at ht; subst ht; exact ⟨nx (by intro t z; cases z) (by intro t z; cases z), .inl (by omega)⟩
  | take r n ns => simp [onL] at ht; subst ht; exact ⟨nx (by intro t z; cases z) (by intro t z; cases z), .inl (by omega)⟩
def Mx (p : Nat) : Nat := 2 ^ (4 * 2 ^ p)
theorem Mx_sq (p : Nat) : Mx p * Mx p = Mx (p + 1) := by
  unfold Mx
  rw [← Nat.pow_add, Nat.pow_succ]
  congr 1
  omega
theorem Mx_mono {p q : Nat} (h : p ≤ q) : Mx p ≤ Mx q := Nat.pow_le_pow_right (by decide) (Nat.mul_le_mul_left 4 (Nat.pow_le_pow_right (by decide) h))
theorem Mx_8 (p : Nat) : 8 ≤ Mx p := Nat.le_trans (by decide : 8 ≤ Mx 0) (Mx_mono (Nat.zero_le p))
theorem Mx_fit {p a b : Nat} (h : p < 16) (ha : a ≤ Mx p) (hb : b ≤ Mx p) : mulFit a b = true := by
  have key : ∀ n, n ≤ Mx p → n.log2 < 200000 := fun n hn => by
    by_cases h0 : n = 0
    · subst h0; decide
    · rw [Nat.log2_lt h0]
      have h1 : Mx p ≤ Mx 15 := Mx_mono (by omega)
      have h2 : Mx 15 < 2 ^ 200000 := by
        unfold Mx
        exact Nat.pow_lt_pow_right (by decide) (by decide)
      omega
  unfold mulFit
  have := key a ha
  have := key b hb
  rw [decide_eq_true_eq]
  omega
structure RI (c : List Ln) (p : Nat) (rs : Regs) : Prop where
  len : rs.length = 10
  lt : p < c.length
  bd : (∀ j, j ≤ p → ¬ isThrow c j) → p < 16 → ∀ v ∈ rs, v ≤ Mx p
theorem mem_set {rs : Regs} {r v x : Nat} (h : x ∈ rs.set r v) : x = v ∨ x ∈ rs := by
  rcases List.mem_or_eq_of_mem_set h with h | h
  · exact .inr h
  · exact .inl h
theorem RI.on (h : RI c p rs) {p' : Nat} {rs' : Regs} (hp : p < p') (hp' : p' < c.length) (hl : rs'.length = 10) (hv : (∀ v ∈ rs, v ≤ Mx p) → ∀ v ∈ rs', v ≤ Mx (p + 1)) : RI c p' rs' :=
  ⟨hl, hp', fun hj h16 v hv' => Nat.le_trans (hv (h.bd (fun j hj' => hj j (by omega)) (by omega)) v hv') (Mx_mono hp)⟩
theorem RI.jump (h : RI c p rs) {p' : Nat} (hp' : p' < c.length) (hk : p < p' ∨ isThrow c p') : RI c p' rs := by
  rcases hk with hk | hk
  · exact h.on hk hp' h.len fun hv v hv' => Nat.le_trans (hv v hv') (Mx_mono (Nat.le_succ p))
  · exact ⟨h.len, hp', fun hj => absurd hk (hj p' (Nat.le_refl _))⟩
def endOk (outs : Nat) (c : List Ln) : End → Prop
  | .thr p rs => (∃ r, c[p]? = some (.throw r) ∧ r ≤ 9) ∧ rs.length = 10
  | .fin o rs => o < outs ∧ rs.length = 10
theorem stepL_ok (h : CodeOk outs c) {p : Nat} {rs : Regs} (I : RI c p rs) : (∃ e, stepL c p rs = some (.inl e) ∧ endOk outs c e ∧ rank c p = 0) ∨ ∃ p' rs', stepL c p rs = some (.inr (p', rs')) ∧ RI c p' rs' ∧ rank c p' < rank c p := by
  obtain ⟨ln, e⟩ : ∃ ln, c[p]? = some ln := ⟨_, List.getElem?_eq_getElem I.lt⟩
  have hl := h.ln p ln e
  have nx := h.next (i := p) e
  have rk := fun t (ht : t ∈ onL p ln) => rank_lt h.fw e ht
  have get : ∀ r, r ≤ 9 → ∃ v, rs[r]? = some v ∧ v ∈ rs := fun r hr => by
    have hr' : r < rs.length := by rw [I.len]; omega
    exact ⟨rs[r], List.getElem?_eq_getElem hr', List.getElem_mem _⟩
  cases ln with
  | throw r => exact .inl ⟨.thr p rs, by unfold stepL; rw [e], ⟨⟨r, e, hl⟩, I.len⟩, by unfold rank; rw [e]⟩
  | fin o => exact .inl ⟨.fin o rs, by unfold stepL; rw [e], ⟨hl, I.len⟩, by unfold rank; rw [e]⟩
  | goto t => exact .inr ⟨t, rs, by unfold stepL; rw [e], I.jump hl.1 hl.2, rk t (by simp [onL])⟩
  | set r n =>
    have hr : r < rs.length := by rw [I.len]; have := hl.1; omega
    have nx' := nx (by intro t z; cases z) (by intro t z; cases z)
    refine .inr ⟨p + 1, rs.set r n, by unfold stepL; rw [e]; simp only [hr, if_true], I.on (by omega) nx' (by simp [I.len]) (fun hv v hm => ?_), rk (p + 1) (by simp [onL])⟩
    rcases mem_set hm with rfl | hm
    · exact Nat.le_trans hl.2 (Mx_8 _)
    · exact Nat.le_trans (hv v hm) (Mx_mono (Nat.le_succ p))
  | add r q =>
    obtain ⟨a, ha, ma⟩ := get r hl.1
    obtain ⟨b, hb, mb⟩ := get q hl.2
    have nx' := nx (by intro t z; cases z) (by intro t z; cases z)
    refine .inr ⟨p + 1, rs.set r (a + b), by unfold stepL; rw [e]; simp only [ha, hb], I.on (by omega) nx' (by simp [I.len]) (fun hv v hm => ?_), rk (p + 1) (by simp [onL])⟩
    rcases mem_set hm with rfl | hm
    · have h1 := hv a ma
      have h2 := hv b mb
      have h3 := Mx_8 p
      rw [← Mx_sq]
      have : 2 * Mx p ≤ Mx p * Mx p := Nat.mul_le_mul_right _ (by omega)
      omega
    · exact Nat.le_trans (hv v hm) (Mx_mono (Nat.le_succ p))
  | times r q =>
    obtain ⟨a, ha, ma⟩ := get r hl.1
    obtain ⟨b, hb, mb⟩ := get q hl.2.1
    have nx' := nx (by intro t z; cases z) (by intro t z; cases z)
    have hv0 := I.bd (fun j hj z => by
      by_cases q : j = p
      · subst q; obtain ⟨r', e'⟩ := z; rw [e] at e'; cases e'
      · exact hl.2.2.2 j (by omega) z) hl.2.2.1
    have hf := Mx_fit hl.2.2.1 (hv0 a ma) (hv0 b mb)
    refine .inr ⟨p + 1, rs.set r (a * b), by unfold stepL; rw [e]; simp only [ha, hb, hf, if_true], I.on (by omega) nx' (by simp [I.len]) (fun hv v hm => ?_), rk (p + 1) (by simp [onL])⟩
    rcases mem_set hm with rfl | hm
    · rw [← Mx_sq]
      exact Nat.mul_le_mul (hv a ma) (hv b mb)
    · exact Nat.le_trans (hv v hm) (Mx_mono (Nat.le_succ p))
  | take r q ns =>
    obtain ⟨a, ha, ma⟩ := get r hl.1
    obtain ⟨b, hb, mb⟩ := get q hl.2.1
    have nx' := nx (by intro t z; cases z) (by intro t z; cases z)
    have hi : min b (ns.length - 1) < ns.length := by have := hl.2.2.1; omega
    refine .inr ⟨p + 1, rs.set r ns[min b (ns.length - 1)], by unfold stepL; rw [e]; simp only [ha, hb, List.getElem?_eq_getElem hi], I.on (by omega) nx' (by simp [I.len]) (fun hv v hm => ?_), rk (p + 1) (by simp [onL])⟩
    rcases mem_set hm with rfl | hm
    · exact Nat.le_trans (hl.2.2.2.2 _ (List.getElem_mem _)) (Mx_8 _)
    · exact Nat.le_trans (hv v hm) (Mx_mono (Nat.le_succ p))
  | below r n t =>
    obtain ⟨a, ha, ma⟩ := get r hl.1
    have nx' := nx (by intro t z; cases z) (by intro t z; cases z)
    by_cases q : a < n
    · exact .inr ⟨t, rs, by unfold stepL; rw [e]; simp only [ha, q, if_true], I.jump hl.2.1 hl.2.2, rk t (by simp [onL])⟩
    · exact .inr ⟨p + 1, rs, by unfold stepL; rw [e]; simp only [ha, q, if_false], I.jump nx' (.inl (by omega)), rk (p + 1) (by simp [onL])⟩
theorem doneL_ok (h : CodeOk outs c) : ∀ (k p : Nat) (rs : Regs), RI c p rs → rank c p < k → ∃ e, doneL c k p rs = some (some e) ∧ endOk outs c e
  | 0, p, rs, _, hk => by omega
  | k + 1, p, rs, I, hk => by
    rcases stepL_ok h I with ⟨e, h1, h2, _⟩ | ⟨p', rs', h1, h2, h3⟩
    · exact ⟨e, by simp only [doneL, h1], h2⟩
    · obtain ⟨e, e1, e2⟩ := doneL_ok h k p' rs' h2 (by omega)
      exact ⟨e, by simp only [doneL, h1, e1], e2⟩
theorem doneL_mono {c : List Ln} : ∀ {k k' p : Nat} {rs : Regs} {e : End}, doneL c k p rs = some (some e) → k ≤ k' → doneL c k' p rs = some (some e)
  | 0, k', p, rs, e, h, _ => by simp [doneL] at h
  | k + 1, 0, p, rs, e, h, hk => by omega
  | k + 1, k' + 1, p, rs, e, h, hk => by
    simp only [doneL] at h ⊢
    cases q : stepL c p rs with
    | none => rw [q] at h; cases h
    | some s =>
      rw [q] at h
      cases s with
      | inl en => exact h
      | inr t => exact doneL_mono (k := k) h (by omega)
theorem rank_le (c : List Ln) (p : Nat) : rank c p ≤ c.length + 1 := by unfold rank; split <;> omega
theorem done_ok (h : CodeOk outs c) {p : Nat} {rs : Regs} (I : RI c p rs) : ∃ e, doneL c (c.length + 2) p rs = some (some e) ∧ doneL c 5000 p rs = some (some e) ∧ endOk outs c e := by
  obtain ⟨e, h1, h2⟩ := doneL_ok h (c.length + 2) p rs I (by have := rank_le c p; omega)
  exact ⟨e, h1, doneL_mono h1 (by have := h.le; omega), h2⟩
theorem start_RI (h : 0 < c.length) : RI c 0 (List.replicate 10 0) := ⟨by simp, h, fun _ _ v hv => by simp at hv; omega⟩
theorem throw_RI (h : CodeOk outs c) {p r f : Nat} {rs : Regs} (e : c[p]? = some (.throw r)) (hl : rs.length = 10) : RI c (p + 1) (rs.set r f) :=
  ⟨by simp [hl], h.next e (by intro t z; cases z) (by intro t z; cases z), fun hj => absurd ⟨r, e⟩ (hj p (by omega))⟩
theorem goL_ok (h : CodeOk outs c) : ∀ (fs : List Nat) (used : Nat) (e : End), endOk outs c e → ∃ r, goL c fs used (some e) = some r ∧ ∀ o u, r = some (o, u) → o < outs ∧ used ≤ u ∧ u ≤ used + fs.length
  | fs, used, .fin o rs, he => ⟨some (o, used), by cases fs <;> rfl, fun o' u z => by cases z; exact ⟨he.1, by omega, by omega⟩⟩
  | [], used, .thr p rs, he => ⟨none, rfl, fun o u z => by cases z⟩
  | f :: fs, used, .thr p rs, he => by
    obtain ⟨⟨r, e, hr⟩, hl⟩ := he
    obtain ⟨en, _, h2, h3⟩ := done_ok h (throw_RI (f := f) h e hl)
    have ht : thrownL c p rs f = some (some en) := by
      unfold thrownL
      rw [e]
      simp only
      rw [if_pos (by omega), h2]
    obtain ⟨rr, g1, g2⟩ := goL_ok h fs (used + 1) en h3
    exact ⟨rr, by simp only [goL, ht, g1], fun o u z => by have := g2 o u z; simp only [List.length_cons]; omega⟩
theorem runL_ok (h : CodeOk outs c) (fs : List Nat) : ∃ r, runL c fs = some r ∧ ∀ o u, r = some (o, u) → o < outs ∧ u ≤ fs.length := by
  obtain ⟨e, _, h2, h3⟩ := done_ok h (start_RI h.pos)
  obtain ⟨r, g1, g2⟩ := goL_ok h fs 0 e h3
  exact ⟨r, by unfold runL; rw [h2]; exact g1, fun o u z => by have := g2 o u z; omega⟩
end
end Q88

set_option Elab.async false
set_option linter.all false
set_option maxRecDepth 100000
set_option maxHeartbeats 4000000
namespace Q88
open PySem L2 PySem.Spec PyProof.Rows Zb
/-! ### the plain law: a joined code runs as both do -/
def shE (B : Nat) : End → End
  | .thr p rs => .thr (B + p) rs
  | .fin o rs => .fin o rs
/-- o stands in J from B on -/
def Part (J o : List Ln) (B : Nat) : Prop := ∀ p ln, o[p]? = some ln → J[B + p]? = some (mv B ln)
theorem stepL_part {J o : List Ln} {B p : Nat} {rs : Regs} {s : Sum End (Nat × Regs)} (h : Part J o B) (e : stepL o p rs = some s) : stepL J (B + p) rs = some (match s with | .inl en => .inl (shE B en) | .inr (p', rs') => .inr (B + p', rs')) := by
  unfold stepL at e
  cases q : o[p]? with
  | none => rw [q] at e; cases e
  | some ln =>
    rw [q] at e
    have hJ := h p ln q
    unfold stepL
    rw [hJ]
    cases ln with
    | throw r => cases e; rfl
    | fin r => cases e; rfl
    | set r n =>
      simp only [mv] at e ⊢
      split at e
      · rename_i hr; cases e; simp only [hr, if_true]; rfl
      · cases e
    | add r n =>
      simp only [mv] at e ⊢
      split at e
      · rename_i a b ha hb; cases e; simp only [ha, hb]; rfl
      · cases e
    | times r n =>
      simp only [mv] at e ⊢
      split at e
      · rename_i a b ha hb
        split at e
        · rename_i hm; cases e; simp only [ha, hb, hm, if_true]; rfl
        · cases e
      · cases e
    | take r n ns =>
      simp only [mv] at e ⊢
      split at e
      · rename_i a b ha hb
        split at e
        · rename_i v hv; cases e; simp only [ha, hb, hv]; rfl
        · cases e
      · cases e
    | goto t => cases e; simp only [mv]; rw [Nat.add_comm t B]
    | below r n t =>
      simp only [mv] at e ⊢
      split at e
      · rename_i a ha
        cases e
        simp only [ha]
        by_cases q : a < n
        · simp only [q, if_true]; rw [Nat.add_comm t B]
        · simp only [q, if_false]; rfl
      · cases e
theorem doneL_part {J o : List Ln} {B : Nat} (h : Part J o B) : ∀ (k p : Nat) (rs : Regs) (e : End), doneL o k p rs = some (some e) → doneL J k (B + p) rs = some (some (shE B e))
  | 0, p, rs, e, he => by simp [doneL] at he
  | k + 1, p, rs, e, he => by
    simp only [doneL] at he ⊢
    cases q : stepL o p rs with
    | none => rw [q] at he; cases he
    | some s =>
      rw [q] at he
      rw [stepL_part h q]
      cases s with
      | inl en => cases he; rfl
      | inr t => exact doneL_part h k t.1 t.2 e he
theorem thrownL_part {J o : List Ln} {B p f : Nat} {rs : Regs} {e : End} (h : Part J o B) (he : thrownL o p rs f = some (some e)) : thrownL J (B + p) rs f = some (some (shE B e)) := by
  unfold thrownL at he ⊢
  split at he
  · rename_i r q
    have hJ := h p _ q
    rw [hJ]
    simp only [mv]
    split at he
    · rename_i hr
      rw [if_pos hr]
      have := doneL_part h 5000 (p + 1) (rs.set r f) e he
      rw [← Nat.add_assoc] at this
      exact this
    · cases he
  · cases he
theorem goL_part {J o : List Ln} {B outs : Nat} (h : Part J o B) (ho : CodeOk outs o) : ∀ (fs : List Nat) (used : Nat) (e : End), endOk outs o e → goL J fs used (some (shE B e)) = goL o fs used (some e)
  | fs, used, .fin q rs, _ => by cases fs <;> rfl
  | [], used, .thr p rs, _ => rfl
  | f :: fs, used, .thr p rs, he => by
    obtain ⟨⟨r, e, hr⟩, hl⟩ := he
    obtain ⟨en, _, h2, h3⟩ := done_ok ho (throw_RI (f := f) ho e hl)
    have ht : thrownL o p rs f = some (some en) := by
      unfold thrownL
      rw [e]
      simp only
      rw [if_pos (by omega), h2]
    have hJ := thrownL_part h ht
    simp only [shE, goL, ht, hJ]
    exact goL_part h ho fs (used + 1) en h3
theorem goL_more (c : List Ln) : ∀ (fs : List Nat) (used d : Nat) (st : Option End), goL c fs (used + d) st = (goL c fs used st).map (·.map fun r => (r.1, r.2 + d))
  | fs, used, d, none => by cases fs <;> rfl
  | fs, used, d, some (.fin o rs) => by cases fs <;> rfl
  | [], used, d, some (.thr p rs) => rfl
  | f :: fs, used, d, some (.thr p rs) => by
    simp only [goL]
    cases thrownL c p rs f with
    | none => rfl
    | some st =>
      simp only
      have : used + d + 1 = used + 1 + d := by omega
      rw [this]
      exact goL_more c fs (used + 1) d st
theorem clear_at {r : Nat} (h : r < 10) : clearL[r]? = some (.set r 0) := by
  unfold clearL
  rw [List.getElem?_map, List.getElem?_range h]
  rfl
theorem parts_at : ∀ (cs : List (List Ln)) (pre : List Ln) (k : Nat) (o : List Ln), cs[k]? = some o → ∃ b, (begs pre.length cs)[k]? = some b ∧ Part (pre ++ parts pre.length cs) o (b + 10) ∧ (∀ r, r < 10 → (pre ++ parts pre.length cs)[b + r]? = some (.set r 0)) ∧ pre.length ≤ b ∧ b + 10 + o.length ≤ pre.length + total cs
  | [], pre, k, o, e => by simp at e
  | x :: cs, pre, 0, o, e => by
    simp at e; subst e
    refine ⟨pre.length, rfl, fun p ln hp => ?_, fun r hr => ?_, Nat.le_refl _, by simp only [total, List.map_cons, List.sum_cons]; omega⟩
    · have hpl := (List.getElem?_eq_some_iff.mp hp).1
      simp only [parts]
      rw [List.getElem?_append_right (by omega)]
      have e1 : pre.length + 10 + p - pre.length = 10 + p := by omega
      rw [e1, List.getElem?_append_left (by simp [clearL_len]; omega), List.getElem?_append_right (by rw [clearL_len]; omega)]
      have e2 : 10 + p - clearL.length = p := by rw [clearL_len]; omega
      rw [e2, List.getElem?_map, hp]
      rfl
    · simp only [parts]
      rw [List.getElem?_append_right (by omega)]
      have e1 : pre.length + r - pre.length = r := by omega
      rw [e1, List.getElem?_append_left (by simp [clearL_len]; omega), List.getElem?_append_left (by rw [clearL_len]; omega)]
      exact clear_at hr
  | x :: cs, pre, k + 1, o, e => by
    have hl : (pre ++ (clearL ++ x.map (mv (pre.length + 10)))).length = pre.length + (10 + x.length) := by simp [clearL_len]
    obtain ⟨b, h1, h2, h3, h4, h5⟩ := parts_at cs (pre ++ (clearL ++ x.map (mv (pre.length + 10)))) k o (by simpa using e)
    rw [hl] at h1 h2 h3 h4 h5
    have ea : pre ++ parts pre.length (x :: cs) = (pre ++ (clearL ++ x.map (mv (pre.length + 10)))) ++ parts (pre.length + (10 + x.length)) cs := by simp [parts]
    refine ⟨b, by simpa [begs] using h1, by rw [ea]; exact h2, fun r hr => by rw [ea]; exact h3 r hr, by omega, ?_⟩
    simp only [total, List.map_cons, List.sum_cons] at h5 ⊢
    omega
theorem clear_run {J : List Ln} {b : Nat} (h : ∀ r, r < 10 → J[b + r]? = some (.set r 0)) (k : Nat) {rs : Regs} (hl : rs.length = 10) : doneL J (k + 10) b rs = doneL J k (b + 10) (List.replicate 10 0) := by
  match rs, hl with
  | [a0, a1, a2, a3, a4, a5, a6, a7, a8, a9], _ =>
    have st : ∀ (r : Nat) (m : Nat) (xs : Regs), r < 10 → xs.length = 10 → doneL J (m + 1) (b + r) xs = doneL J m (b + (r + 1)) (xs.set r 0) := by
      intro r m xs hr hx
      simp only [doneL, stepL, h r hr, hx, hr, if_true]
      rfl
    have s0 := st 0 (k + 9) [a0, a1, a2, a3, a4, a5, a6, a7, a8, a9] (by decide) rfl
    have s1 := st 1 (k + 8) [0, a1, a2, a3, a4, a5, a6, a7, a8, a9] (by decide) rfl
    have s2 := st 2 (k + 7) [0, 0, a2, a3, a4, a5, a6, a7, a8, a9] (by decide) rfl
    have s3 := st 3 (k + 6) [0, 0, 0, a3, a4, a5, a6, a7, a8, a9] (by decide) rfl
    have s4 := st 4 (k + 5) [0, 0, 0, 0, a4, a5, a6, a7, a8, a9] (by decide) rfl
    have s5 := st 5 (k + 4) [0, 0, 0, 0, 0, a5, a6, a7, a8, a9] (by decide) rfl
    have s6 := st 6 (k + 3) [0, 0, 0, 0, 0, 0, a6, a7, a8, a9] (by decide) rfl
    have s7 := st 7 (k + 2) [0, 0, 0, 0, 0, 0, 0, a7, a8, a9] (by decide) rfl
    have s8 := st 8 (k + 1) [0, 0, 0, 0, 0, 0, 0, 0, a8, a9] (by decide) rfl
    have s9 := st 9 k [0, 0, 0, 0, 0, 0, 0, 0, 0, a9] (by decide) rfl
    exact s0.trans (s1.trans (s2.trans (s3.trans (s4.trans (s5.trans (s6.trans (s7.trans (s8.trans s9))))))))
/-! the first part -/
theorem join_at {c : List Ln} {cs : List (List Ln)} {p : Nat} {ln : Ln} (e : c[p]? = some ln) : (joinL c cs)[p]? = some (jmp (begs c.length cs) ln) := by
  unfold joinL
  rw [List.getElem?_append_left (by simpa using (List.getElem?_eq_some_iff.mp e).1), List.getElem?_map, e]
  rfl
theorem stepL_first {c : List Ln} {cs : List (List Ln)} {p : Nat} {rs : Regs} {s : Sum End (Nat × Regs)} (e : stepL c p rs = some s) (hn : ∀ o r, s ≠ .inl (.fin o r)) : stepL (joinL c cs) p rs = some s := by
  unfold stepL at e ⊢
  cases q : c[p]? with
  | none => rw [q] at e; cases e
  | some ln =>
    rw [q] at e
    rw [join_at q]
    cases ln with
    | fin o => cases e; exact absurd rfl (hn o rs)
    | _ => exact e
theorem stepL_fin {c : List Ln} {cs : List (List Ln)} {p o b : Nat} {rs rs' : Regs} (e : stepL c p rs = some (.inl (.fin o rs'))) (hb : (begs c.length cs)[o]? = some b) : rs' = rs ∧ stepL (joinL c cs) p rs = some (.inr (b, rs)) := by
  unfold stepL at e ⊢
  cases q : c[p]? with
  | none => rw [q] at e; cases e
  | some ln =>
    rw [q] at e
    rw [join_at q]
    cases ln with
    | fin o' => cases e; exact ⟨rfl, by simp only [jmp, hb, Option.getD_some]⟩
    | throw r => cases e
    | goto t => cases e
    | _ =>
      simp only at e
      repeat' split at e
      all_goals cases e
theorem doneL_thr {c : List Ln} {cs : List (List Ln)} : ∀ (k p : Nat) (rs : Regs) (p' : Nat) (rs' : Regs), doneL c k p rs = some (some (.thr p' rs')) → doneL (joinL c cs) k p rs = some (some (.thr p' rs'))
  | 0, p, rs, p', rs', h => by simp [doneL] at h
  | k + 1, p, rs, p', rs', h => by
    simp only [doneL] at h ⊢
    cases q : stepL c p rs with
    | none => rw [q] at h; cases h
    | some s =>
      rw [q] at h
      cases s with
      | inl en => cases h; rw [stepL_first q (by intro o r z; cases z)]
      | inr t => rw [stepL_first q (by intro o r z; cases z)]; exact doneL_thr k t.1 t.2 p' rs' h
theorem doneL_fin {c : List Ln} {cs : List (List Ln)} {o b m : Nat} {e2 : End} (hb : (begs c.length cs)[o]? = some b) : ∀ (k p : Nat) (rs rs' : Regs), doneL c k p rs = some (some (.fin o rs')) → (∀ xs : Regs, xs = rs' → doneL (joinL c cs) m b xs = some (some e2)) → doneL (joinL c cs) (k + m) p rs = some (some e2)
  | 0, p, rs, rs', h, _ => by simp [doneL] at h
  | k + 1, p, rs, rs', h, hm => by
    have ek : k + 1 + m = (k + m) + 1 := by omega
    rw [ek]
    simp only [doneL] at h ⊢
    cases q : stepL c p rs with
    | none => rw [q] at h; cases h
    | some s =>
      rw [q] at h
      cases s with
      | inl en =>
        cases h
        obtain ⟨h1, h2⟩ := stepL_fin q hb
        rw [h2]
        exact doneL_mono (hm rs h1.symm) (by omega)
      | inr t =>
        rw [stepL_first q (by intro o r z; cases z)]
        exact doneL_fin hb k t.1 t.2 rs' h hm
/-- what joined codes ask -/
structure JoinOk (outs outs2 : Nat) (c : List Ln) (cs : List (List Ln)) : Prop where
  one : CodeOk outs c
  all : ∀ (k : Nat) (o : List Ln), cs[k]? = some o → CodeOk outs2 o
  n : outs ≤ cs.length
  le : c.length + total cs ≤ 4000
def LiftE (c : List Ln) (cs : List (List Ln)) : End → End → Prop
  | .thr p rs, eJ => eJ = .thr p rs
  | .fin o _, eJ => ∃ oc b e0, cs[o]? = some oc ∧ Part (joinL c cs) oc (b + 10) ∧ doneL oc 5000 0 (List.replicate 10 0) = some (some e0) ∧ eJ = shE (b + 10) e0
def bothR (cs : List (List Ln)) (r : Option (Nat × Nat)) (used : Nat) (fs : List Nat) : Option (Option (Nat × Nat)) := match r with
  | none => some none
  | some (o, u) => match cs[o]? with
    | none => none
    | some c2 => match runL c2 (fs.drop (u - used)) with
      | none => none
      | some none => some none
      | some (some (o2, u2)) => some (some (o2, u + u2))
section
variable {outs outs2 : Nat} {c : List Ln} {cs : List (List Ln)}
theorem join_eq (c : List Ln) (cs : List (List Ln)) : joinL c cs = (c.map (jmp (begs c.length cs))) ++ parts (c.map (jmp (begs c.length cs))).length cs := by rw [List.length_map]; rfl
theorem done_join (h : JoinOk outs outs2 c cs) {p : Nat} {rs : Regs} (I : RI c p rs) : ∃ e eJ, doneL c 5000 p rs = some (some e) ∧ endOk outs c e ∧ LiftE c cs e eJ ∧ doneL (joinL c cs) 5000 p rs = some (some eJ) := by
  obtain ⟨e, h1, h2, h3⟩ := done_ok h.one I
  cases e with
  | thr p' rs' => exact ⟨_, _, h2, h3, rfl, doneL_thr 5000 p rs p' rs' h2⟩
  | fin o rs' =>
    have ho : o < cs.length := Nat.lt_of_lt_of_le h3.1 h.n
    have hoc : cs[o]? = some cs[o] := List.getElem?_eq_getElem ho
    obtain ⟨b, b1, b2, b3, b4, b5⟩ := parts_at cs (c.map (jmp (begs c.length cs))) o cs[o] hoc
    rw [← join_eq] at b2 b3
    simp only [List.length_map] at b1 b4 b5
    have hO := h.all o _ hoc
    obtain ⟨e0, d1, d2, d3⟩ := done_ok hO (start_RI hO.pos)
    refine ⟨_, shE (b + 10) e0, h2, h3, ⟨cs[o], b, e0, hoc, b2, d2, rfl⟩, ?_⟩
    have hm : ∀ xs : Regs, xs = rs' → doneL (joinL c cs) (cs[o].length + 2 + 10) b xs = some (some (shE (b + 10) e0)) := by
      intro xs hx
      rw [clear_run b3 (cs[o].length + 2) (by rw [hx]; exact h3.2)]
      exact doneL_part b2 _ 0 _ e0 d1
    have := doneL_fin b1 (c.length + 2) p rs rs' h1 hm
    exact doneL_mono this (by have := h.le; omega)
theorem goL_join (h : JoinOk outs outs2 c cs) : ∀ (fs : List Nat) (used : Nat) (e eJ : End) (r : Option (Nat × Nat)), endOk outs c e → LiftE c cs e eJ → goL c fs used (some e) = some r → goL (joinL c cs) fs used (some eJ) = bothR cs r used fs
  | fs, used, .fin o rs, eJ, r, he, hl, hg => by
    obtain ⟨oc, b, e0, h1, h2, h3, rfl⟩ := hl
    have hr : r = some (o, used) := by cases fs <;> simpa [goL] using hg.symm
    subst hr
    have hO := h.all o oc h1
    obtain ⟨e0', _, d2, d3⟩ := done_ok hO (start_RI hO.pos)
    rw [h3] at d2
    cases d2
    rw [goL_part h2 hO fs used e0 d3]
    have hm := goL_more oc fs 0 used (some e0)
    rw [Nat.zero_add] at hm
    rw [hm]
    simp only [bothR, h1, Nat.sub_self, List.drop_zero, runL, h3]
    cases goL oc fs 0 (some e0) with
    | none => rfl
    | some x =>
      cases x with
      | none => rfl
      | some y =>
        obtain ⟨o2, u2⟩ := y
        simp [Nat.add_comm]
  | [], used, .thr p rs, eJ, r, he, hl, hg => by
    cases hl
    simp only [goL, Option.some.injEq] at hg ⊢
    subst hg
    rfl
  | f :: fs, used, .thr p rs, eJ, r, he, hl, hg => by
    cases hl
    obtain ⟨⟨q, e, hq⟩, hlen⟩ := he
    obtain ⟨en, enJ, d1, d2, d3, d4⟩ := done_join h (throw_RI (f := f) h.one e hlen)
    have ht : thrownL c p rs f = some (some en) := by
      unfold thrownL
      rw [e]
      simp only
      rw [if_pos (by omega), d1]
    have htJ : thrownL (joinL c cs) p rs f = some (some enJ) := by
      unfold thrownL
      rw [join_at e]
      simp only [jmp]
      rw [if_pos (by omega), d4]
    simp only [goL, ht, htJ] at hg ⊢
    rw [goL_join h fs (used + 1) en enJ r d2 d3 hg]
    cases r with
    | none => rfl
    | some ou =>
      obtain ⟨o, u⟩ := ou
      obtain ⟨r', g1, g2⟩ := goL_ok h.one fs (used + 1) en d2
      rw [hg] at g1
      cases g1
      have hu := (g2 o u rfl).2.1
      simp only [bothR]
      have e1 : u - used = (u - (used + 1)) + 1 := by omega
      rw [e1, List.drop_succ_cons]
theorem runL_join (h : JoinOk outs outs2 c cs) (fs : List Nat) : ∃ r, runL (joinL c cs) fs = some r ∧ bothL c cs fs = some r := by
  obtain ⟨e, eJ, d1, d2, d3, d4⟩ := done_join h (start_RI h.one.pos)
  obtain ⟨r, g1, g2⟩ := goL_ok h.one fs 0 e d2
  have hj := goL_join h fs 0 e eJ r d2 d3 g1
  have hr : runL (joinL c cs) fs = bothR cs r 0 fs := by unfold runL; rw [d4]; exact hj
  have hc : runL c fs = some r := by unfold runL; rw [d1]; exact g1
  have hb : bothL c cs fs = bothR cs r 0 fs := by
    unfold bothL bothR
    rw [hc]
    cases r with
    | none => rfl
    | some ou => rfl
  rw [hr, hb]
  cases r with
  | none => exact ⟨none, rfl, rfl⟩
  | some ou =>
    obtain ⟨o, u⟩ := ou
    have ho : o < cs.length := Nat.lt_of_lt_of_le (g2 o u rfl).1 h.n
    have hoc : cs[o]? = some cs[o] := List.getElem?_eq_getElem ho
    obtain ⟨r2, k1, _⟩ := runL_ok (h.all o _ hoc) (fs.drop (u - 0))
    have e : bothR cs (some (o, u)) 0 fs = some (r2.map fun y => (y.1, u + y.2)) := by
      simp only [bothR]
      rw [hoc]
      simp only
      rw [k1]
      cases r2 <;> rfl
    exact ⟨_, e, e⟩
end
end Q88

set_option Elab.async false
set_option linter.all false
set_option maxRecDepth 100000
set_option maxHeartbeats 4000000
namespace Q88
open PySem L2 PySem.Spec PyProof.Rows Zb
/-! ### the plain law: a joined code is sound -/
theorem cover : ∀ (cs : List (List Ln)) (n p : Nat), n ≤ p → p < n + total cs → ∃ (k : Nat) (o : List Ln) (b : Nat), cs[k]? = some o ∧ (begs n cs)[k]? = some b ∧ ((∃ r, r < 10 ∧ p = b + r) ∨ ∃ q, q < o.length ∧ p = b + 10 + q)
  | [], n, p, h1, h2 => by simp [total] at h2; omega
  | x :: cs, n, p, h1, h2 => by
    simp only [total, List.map_cons, List.sum_cons] at h2
    by_cases c1 : p < n + 10
    · exact ⟨0, x, n, rfl, rfl, .inl ⟨p - n, by omega, by omega⟩⟩
    · by_cases c2 : p < n + 10 + x.length
      · exact ⟨0, x, n, rfl, rfl, .inr ⟨p - n - 10, by omega, by omega⟩⟩
      · obtain ⟨k, o, b, a1, a2, a3⟩ := cover cs (n + (10 + x.length)) p (by omega) (by simp only [total]; omega)
        exact ⟨k + 1, o, b, by simpa using a1, by simpa [begs] using a2, a3⟩
section
variable {outs outs2 : Nat} {c : List Ln} {cs : List (List Ln)}
theorem join_len (c : List Ln) (cs : List (List Ln)) : (joinL c cs).length = c.length + total cs := by simp [joinL, parts_len]
/-- where a code of cs stands -/
theorem place (h : JoinOk outs outs2 c cs) {k : Nat} {o : List Ln} {b : Nat} (e : cs[k]? = some o) (eb : (begs c.length cs)[k]? = some b) : Part (joinL c cs) o (b + 10) ∧ (∀ r, r < 10 → (joinL c cs)[b + r]? = some (.set r 0)) ∧ c.length ≤ b ∧ b + 10 + o.length ≤ (joinL c cs).length := by
  obtain ⟨b', b1, b2, b3, b4, b5⟩ := parts_at cs (c.map (jmp (begs c.length cs))) k o e
  rw [← join_eq] at b2 b3
  simp only [List.length_map] at b1 b4 b5
  rw [eb] at b1
  cases b1
  exact ⟨b2, b3, b4, by rw [join_len]; exact b5⟩
/-- what the lines of the whole keep -/
def JL (J : List Ln) (p : Nat) (ln : Ln) : Prop := okLn J.length ln = true ∧ ∀ t ∈ onL p ln, t < J.length ∧ (p < t ∨ isThrow J t)
theorem okLn_of {outs2 N M : Nat} {o : List Ln} {i : Nat} {ln : Ln} (h : LnOk outs2 N o i ln) (B : Nat) (hB : B + N ≤ M) : okLn M (mv B ln) = true := by
  cases ln <;> simp only [LnOk, okLn, mv, Bool.and_eq_true, decide_eq_true_eq] at h ⊢ <;> omega
theorem onL_mv (B p : Nat) (ln : Ln) : onL (B + p) (mv B ln) = (onL p ln).map (B + ·) := by
  cases ln <;> simp [onL, mv] <;> omega
theorem part_line (h : JoinOk outs outs2 c cs) {k : Nat} {o : List Ln} {b q : Nat} {ln : Ln} (e : cs[k]? = some o) (eb : (begs c.length cs)[k]? = some b) (eq : o[q]? = some ln) : JL (joinL c cs) (b + 10 + q) (mv (b + 10) ln) := by
  obtain ⟨p1, p2, p3, p4⟩ := place h e eb
  have ho := h.all k o e
  refine ⟨okLn_of (ho.ln q ln eq) (b + 10) p4, fun t ht => ?_⟩
  rw [onL_mv] at ht
  obtain ⟨t', ht', rfl⟩ := List.mem_map.mp ht
  obtain ⟨a1, a2⟩ := ho.fw q ln eq t' ht'
  refine ⟨by omega, a2.imp (fun z => by omega) fun ⟨r, er⟩ => ⟨r, p1 t' _ er⟩⟩
theorem clear_line (h : JoinOk outs outs2 c cs) {k : Nat} {o : List Ln} {b r : Nat} (e : cs[k]? = some o) (eb : (begs c.length cs)[k]? = some b) (hr : r < 10) : JL (joinL c cs) (b + r) (.set r 0) := by
  obtain ⟨p1, p2, p3, p4⟩ := place h e eb
  have := (h.all k o e).pos
  refine ⟨by simp [okLn]; omega, fun t ht => ?_⟩
  simp [onL] at ht
  subst ht
  exact ⟨by omega, .inl (by omega)⟩
theorem first_line (h : JoinOk outs outs2 c cs) {p : Nat} {ln : Ln} (e : c[p]? = some ln) : JL (joinL c cs) p (jmp (begs c.length cs) ln) := by
  have hl := h.one.ln p ln e
  have hfw := h.one.fw p ln e
  have hlen := join_len c cs
  have thr : ∀ t, isThrow c t → isThrow (joinL c cs) t := fun t ⟨r, er⟩ => ⟨r, by rw [join_at er]; rfl⟩
  have same : jmp (begs c.length cs) ln = ln → JL (joinL c cs) p (jmp (begs c.length cs) ln) := fun z => by
    rw [z]
    have z0 := okLn_of (M := (joinL c cs).length) hl 0 (by omega)
    have z1 : mv 0 ln = ln := by cases ln <;> rfl
    rw [z1] at z0
    exact ⟨z0, fun t ht => by
      obtain ⟨a1, a2⟩ := hfw t ht
      exact ⟨by omega, a2.imp id (thr t)⟩⟩
  cases ln with
  | fin o =>
    have ho : o < cs.length := Nat.lt_of_lt_of_le hl h.n
    have hoc : cs[o]? = some cs[o] := List.getElem?_eq_getElem ho
    have hb : o < (begs c.length cs).length := by rw [begs_len]; exact ho
    have eb : (begs c.length cs)[o]? = some (begs c.length cs)[o] := List.getElem?_eq_getElem hb
    obtain ⟨p1, p2, p3, p4⟩ := place h hoc eb
    have hp := (List.getElem?_eq_some_iff.mp e).1
    simp only [jmp, eb, Option.getD_some]
    refine ⟨by simp [okLn]; omega, fun t ht => ?_⟩
    simp [onL] at ht
    subst ht
    exact ⟨by omega, .inl (by omega)⟩
  | _ => exact same rfl
theorem line_join (h : JoinOk outs outs2 c cs) {p : Nat} {ln : Ln} (e : (joinL c cs)[p]? = some ln) : JL (joinL c cs) p ln := by
  have hp := (List.getElem?_eq_some_iff.mp e).1
  rw [join_len] at hp
  by_cases q : p < c.length
  · have := join_at (cs := cs) (List.getElem?_eq_getElem q)
    rw [e] at this
    cases this
    exact first_line h (List.getElem?_eq_getElem q)
  · obtain ⟨k, o, b, a1, a2, a3⟩ := cover cs c.length p (by omega) hp
    obtain ⟨p1, p2, p3, p4⟩ := place h a1 a2
    rcases a3 with ⟨r, hr, rfl⟩ | ⟨q', hq, rfl⟩
    · rw [p2 r hr] at e
      cases e
      exact clear_line h a1 a2 hr
    · rw [p1 q' _ (List.getElem?_eq_getElem hq)] at e
      cases e
      exact part_line h a1 a2 (List.getElem?_eq_getElem hq)
theorem sound_join (h : JoinOk outs outs2 c cs) (hcs : cs ≠ []) : Sound (joinL c cs) := by
  have hlen := join_len c cs
  have hpos := h.one.pos
  have hle := h.le
  refine ⟨by omega, by omega, fun ln hm => ?_, ?_, fun p ln e => (line_join h e).2⟩
  · obtain ⟨p, e⟩ := List.getElem?_of_mem hm
    exact (line_join h e).1
  · have hk : 0 < cs.length := List.length_pos_iff.mpr hcs
    have ht : 0 < total cs := by
      cases cs with
      | nil => exact absurd rfl hcs
      | cons x xs => simp only [total, List.map_cons, List.sum_cons]; omega
    obtain ⟨k, o, b, a1, a2, a3⟩ := cover cs c.length (c.length + total cs - 1) (by omega) (by omega)
    obtain ⟨p1, p2, p3, p4⟩ := place h a1 a2
    have ho := h.all k o a1
    have hop := ho.pos
    rcases a3 with ⟨r, hr, e⟩ | ⟨q, hq, e⟩
    · rw [hlen] at p4; omega
    · have hq' : q = o.length - 1 := by rw [hlen] at p4; omega
      obtain ⟨ln, l1, l2⟩ := ho.last
      rw [← hq'] at l1
      refine ⟨mv (b + 10) ln, by rw [hlen, e]; exact p1 q ln l1, ?_⟩
      rcases l2 with ⟨t, rfl⟩ | ⟨o', rfl⟩
      · exact .inl ⟨_, rfl⟩
      · exact .inr ⟨_, rfl⟩
end
end Q88

set_option Elab.async false
set_option linter.all false
set_option maxRecDepth 100000
set_option maxHeartbeats 4000000
namespace Q88
open PySem L2 PySem.Spec PyProof.Rows Zb
theorem hNe_out (r : Option (Nat × Nat)) (l : Sto) : hNe (outD r) (outD r) l = .ok (.bl false) l := by
  cases r with
  | none => rfl
  | some r =>
    obtain ⟨o, u⟩ := r
    simp [outD, sh, py, pys, SeqAt.shaped, PyData.canLay0, PyData.depth, PyData.eqv, PyData.canLayAll0, PyData.depthAll, PyData.eqvAll]
/-! ### _law_joined -/
theorem cellsL (C : Addr) (F : Nat) (hF1 : 1 ≤ F) (hF : F ≤ 100) {it : ItD} (hok : ∀ l, it.ok l) : ∀ (ds : List D) (J : Jug) (hJ : JOk J) (x1 x2 x4 x5 x6 x8 : Option D) (r : Sto) (acc : List Nat), acc.length + ds.length ≤ 1000 →
    ∃ ns J', ns.length = ds.length ∧ JOk J' ∧ lcL it (gN 7) dYes (e1__law_joined C) [some (.adr 0), x1, x2, some (nD F), x4, x5, x6, none, x8] ds (J.ob 1 :: J.gob :: r) (acc.map nD) = .ok ((acc ++ ns).map nD) (J'.ob 1 :: J'.gob :: r)
  | [], J, hJ, x1, x2, x4, x5, x6, x8, r, acc, _ => ⟨[], J, rfl, hJ, by simp [lcL, hok]⟩
  | d :: ds, J, hJ, x1, x2, x4, x5, x6, x8, r, acc, hl => by
    simp only [List.length_cons] at hl
    obtain ⟨n, J1, hn, hJ1, e⟩ := rollE hJ F (F : Int) rfl hF1 (by omega)
    obtain ⟨ns, J2, h1, hJ2, ih⟩ := cellsL C F hF1 hF hok ds J1 hJ1 x1 x2 x4 x5 x6 x8 r (acc ++ [n]) (by simp; omega)
    refine ⟨n :: ns, J2, by simp [h1], hJ2, ?_⟩
    have hg : gN 7 d (J.ob 1 :: J.gob :: r) [some (.adr 0), x1, x2, some (nD F), x4, x5, x6, none, x8] = some [some (.adr 0), x1, x2, some (nD F), x4, x5, x6, some d, x8] := rfl
    have hf : e1__law_joined C [some (.adr 0), x1, x2, some (nD F), x4, x5, x6, some d, x8] (J.ob 1 :: J.gob :: r) = .ok (nD n) (J1.ob 1 :: J1.gob :: r) := by simp [e1__law_joined, e]
    simp only [lcL, hok, if_true, hg, dYes_e, nox_ok, bind_ok, hf]
    rw [if_pos (by simp; omega)]
    have : acc.map nD ++ [nD n] = (acc ++ [n]).map nD := by simp
    rw [this, ih]
    simp
theorem e2_joined (C : Addr) (F : Nat) (hF1 : 1 ≤ F) (hF : F ≤ 100) {J : Jug} (hJ : JOk J) (x1 x2 x4 x5 x6 x7 x8 : Option D) (r : Sto) : ∃ (ns : List Nat) (J' : Jug), ns.length ≤ 100 ∧ JOk J' ∧
    e2__law_joined C [some (.adr 0), x1, x2, some (nD F), x4, x5, x6, x7, x8] (J.ob 1 :: J.gob :: r) = .ok (facesD ns) (J'.ob 1 :: J'.gob :: (r ++ [.lst (ns.map nD)])) := by
  obtain ⟨b, J1, hb, hJ1, e1⟩ := rollE hJ 20 20 rfl (by decide) (by decide)
  have hlen : (rng 0 (6 + b)).length = 6 + b := rng_len _ _
  obtain ⟨ns, J2, h1, hJ2, e2⟩ := cellsL C F hF1 hF (it := ⟨rng 0 (6 + b), none⟩) (fun _ => trivial) (rng 0 (6 + b)) J1 hJ1 x1 x2 x4 x5 x6 x8 r [] (by rw [hlen]; simp; omega)
  refine ⟨ns, J2, by omega, hJ2, ?_⟩
  have hm : mid (6 + (b : Int)) = true := by
    have : (6 + (b : Int)) = ((6 + b : Nat) : Int) := by omega
    rw [this, mid_nat]; simp; omega
  have ht : (6 + (b : Int)).toNat = 6 + b := by omega
  simp only [List.map_nil, List.nil_append] at e2
  simp [e2__law_joined, e1, hm, ht, e2]
/-- the drawn rows -/
theorem rowsL (C : Addr) (F : Nat) (hF1 : 1 ≤ F) (hF : F ≤ 100) {it : ItD} (hok : ∀ l, it.ok l) : ∀ (ds : List D) (J : Jug) (hJ : JOk J) (x1 x2 x4 x5 x6 x7 : Option D) (r : Sto) (acc : List (List Nat)), acc.length + ds.length ≤ 1000 →
    ∃ (ns : List (List Nat)) (J' : Jug) (r' : Sto), (∀ n ∈ ns, n.length ≤ 100) ∧ ns.length = ds.length ∧ JOk J' ∧ lcL it (gN 8) dYes (e2__law_joined C) [some (.adr 0), x1, x2, some (nD F), x4, x5, x6, x7, none] ds (J.ob 1 :: J.gob :: r) (acc.map facesD) = .ok ((acc ++ ns).map facesD) (J'.ob 1 :: J'.gob :: (r ++ r'))
  | [], J, hJ, x1, x2, x4, x5, x6, x7, r, acc, _ => ⟨[], J, [], by simp, rfl, hJ, by simp [lcL, hok]⟩
  | d :: ds, J, hJ, x1, x2, x4, x5, x6, x7, r, acc, hl => by
    simp only [List.length_cons] at hl
    obtain ⟨n, J1, hn, hJ1, e⟩ := e2_joined C F hF1 hF hJ x1 x2 x4 x5 x6 x7 (some d) r
    obtain ⟨ns, J2, r2, h1, h2, hJ2, ih⟩ := rowsL C F hF1 hF hok ds J1 hJ1 x1 x2 x4 x5 x6 x7 (r ++ [.lst (n.map nD)]) (acc ++ [n]) (by simp; omega)
    refine ⟨n :: ns, J2, .lst (n.map nD) :: r2, ?_, by simp [h2], hJ2, ?_⟩
    · intro m hm
      rcases List.mem_cons.mp hm with rfl | hm
      · exact hn
      · exact h1 m hm
    · have hg : gN 8 d (J.ob 1 :: J.gob :: r) [some (.adr 0), x1, x2, some (nD F), x4, x5, x6, x7, none] = some [some (.adr 0), x1, x2, some (nD F), x4, x5, x6, x7, some d] := rfl
      simp only [lcL, hok, if_true, hg, dYes_e, nox_ok, bind_ok, e]
      rw [if_pos (by simp; omega)]
      have : acc.map facesD ++ [facesD n] = (acc ++ [n]).map facesD := by simp
      rw [this, ih]
      simp
theorem loop3_joined {outs outs2 : Nat} {c : List Ln} {cs : List (List Ln)} (h : JoinOk outs outs2 c cs) (C : Addr) {it : ItD} {L : Sto} (hok : it.ok L) {x0 x3 x5 x7 x8 : Option D} : ∀ (rows : List (List Nat)) (x6 : Option D), (∀ r ∈ rows, r.length ≤ 100) →
    ∃ x6', sForL it (gN 6) (b3__law_joined C) (rows.map facesD) [x0, some (codeD c), some (codesD cs), x3, some (codeD (joinL c cs)), x5, x6, x7, x8] L = .nx [x0, some (codeD c), some (codesD cs), x3, some (codeD (joinL c cs)), x5, x6', x7, x8] L
  | [], x6, _ => ⟨x6, by rw [List.map_nil, for_nil _ _ _ _ hok]⟩
  | r :: rows, x6, hr => by
    obtain ⟨x6', ih⟩ := loop3_joined h C hok (x0 := x0) (x3 := x3) (x5 := x5) (x7 := x7) (x8 := x8) rows (some (facesD r)) (fun q hq => hr q (by simp [hq]))
    have hl := hr r (by simp)
    obtain ⟨res, e1, e2⟩ := runL_join h r
    have c1 := call_run (joinL c cs) r res e1 (by omega) L
    have c2 := call_both c cs r res e2 (by omega) L
    have hg : gN 6 (facesD r) L [x0, some (codeD c), some (codesD cs), x3, some (codeD (joinL c cs)), x5, x6, x7, x8] = some [x0, some (codeD c), some (codesD cs), x3, some (codeD (joinL c cs)), x5, some (facesD r), x7, x8] := rfl
    have eb : b3__law_joined C [x0, some (codeD c), some (codesD cs), x3, some (codeD (joinL c cs)), x5, some (facesD r), x7, x8] L = .nx [x0, some (codeD c), some (codesD cs), x3, some (codeD (joinL c cs)), x5, some (facesD r), x7, x8] L := by
      simp [b3__law_joined, c1, c2, hNe_out]
    exact ⟨x6', by rw [List.map_cons, for_cons _ _ _ _ _ _ hok, hg]; simp only [eb, loop_nx, ih]⟩
theorem run_joined {outs outs2 : Nat} {c : List Ln} {cs : List (List Ln)} (h : JoinOk outs outs2 c cs) (hcs : cs ≠ []) (hfin : ∀ ln ∈ c, ∀ o, ln = .fin o → o < cs.length) (hc : cs.length ≤ 1000) (C : Addr) (F : Nat) (hF : F = 2 ∨ F = 3) {J : Jug} (hJ : JOk J) : ∃ J' junk, JOk J' ∧ runB 9 (den__law_joined C) [.adr 0, codeD c, codesD cs, nD F] [J.ob 1, J.gob] = .ok (.bl true) (J'.ob 1 :: J'.gob :: junk) := by
  have h1 := fun l => call_joinX C c cs hfin h.le hc l
  have h2 := fun l => call_sound (joinL c cs) (sound_join h hcs) l
  have rows : ∃ T' : List (List Nat), (∀ r ∈ T', r.length ≤ 100) ∧ T'.length ≤ 1000000 ∧ ∀ l, m__law_rows [nD F, (if F = 2 then D.int 5 else D.int 3)] l = .ok (.adr l.length) (l ++ [.lst (T'.map facesD)]) := by
    rcases hF with rfl | rfl
    · exact call_rows 2 5 (by decide) (by decide) (by decide) (by decide)
    · exact call_rows 3 3 (by decide) (by decide) (by decide) (by decide)
  obtain ⟨T, t1, t2, t3⟩ := rows
  obtain ⟨ns, J1, r1, n1, n2, hJ1, e4⟩ := rowsL C F (by omega) (by omega) (it := ⟨rng 0 4, none⟩) (fun _ => trivial) (rng 0 4) J hJ (some (codeD c)) (some (codesD cs)) (some (codeD (joinL c cs))) (some (.adr 2)) none none [.lst (T.map facesD)] [] (by simp [rng_len])
  have hn4 : ns.length = 4 := by rw [n2, rng_len]
  simp only [List.map_nil, List.nil_append, List.singleton_append] at e4
  obtain ⟨x6, e5⟩ := loop3_joined h C (it := ⟨(T ++ ns).map facesD, some 2⟩) (L := J1.ob 1 :: J1.gob :: .lst ((T ++ ns).map facesD) :: (r1 ++ [.lst (ns.map facesD)])) rfl (x0 := some (.adr 0)) (x3 := some (nD F)) (x5 := some (.adr 2)) (x7 := none) (x8 := none) (T ++ ns) none (fun r hr => by
    rcases List.mem_append.mp hr with hr | hr
    · exact t1 r hr
    · exact n1 r hr)
  have hsz : T.length + ns.length ≤ 16777216 := by omega
  rw [List.map_append] at e5
  have hF5 : ∀ (l : Sto) (x5 x6 x7 x8 : Option D), dIfE (dBl (dOp hEq (dV 3) (dC (.int 2)))) (dC (.int 5)) (dC (.int 3)) [some (.adr 0), some (codeD c), some (codesD cs), some (nD F), some (codeD (joinL c cs)), x5, x6, x7, x8] l = .ok (if F = 2 then D.int 5 else D.int 3) l := by
    intro l x5 x6 x7 x8
    rcases hF with rfl | rfl <;> simp
  refine ⟨J1, .lst (T.map facesD ++ ns.map facesD) :: (r1 ++ [.lst (ns.map facesD)]), hJ1, ?_⟩
  have hr4 : rng 0 4 = [D.int 0, D.int 1, D.int 2, D.int 3] := rfl
  rcases hF with rfl | rfl
  · have t4 : ∀ l, m__law_rows [nD 2, D.int 5] l = .ok (.adr l.length) (l ++ [.lst (T.map facesD)]) := t3
    simp [den__law_joined, h1, h2, t4, e4, e5, hsz]
  · have t4 : ∀ l, m__law_rows [nD 3, D.int 3] l = .ok (.adr l.length) (l ++ [.lst (T.map facesD)]) := t3
    simp [den__law_joined, h1, h2, t4, e4, e5, hsz]
end Q88

set_option Elab.async false
set_option linter.all false
set_option maxRecDepth 100000
set_option maxHeartbeats 4000000
namespace Q88
open PySem L2 PySem.Spec PyProof.Rows Zb
/-! ### _law_long -/
def longL (m a b o : Nat) : List Ln := List.replicate m (.set a b) ++ [.fin o]
theorem longL_len (m a b o : Nat) : (longL m a b o).length = m + 1 := by simp [longL]
theorem longL_fin {m a b o : Nat} {n : Nat} (h : o < n) : ∀ ln ∈ longL m a b o, ∀ o', ln = .fin o' → o' < n := by
  intro ln hl o' e
  subst e
  simp only [longL, List.mem_append, List.mem_replicate, List.mem_singleton] at hl
  rcases hl with ⟨_, z⟩ | z
  · cases z
  · cases z; exact h
theorem longL_w (m a b o : Nat) : ((longL m a b o).map lnW).sum = 5 * (m + 1) := by
  simp only [longL, List.map_append, List.map_replicate, lnW, List.sum_append, List.map_cons, List.map_nil]
  have : (List.replicate m 5).sum = 5 * m := by
    induction m with
    | zero => rfl
    | succ m ih => rw [List.replicate_succ, List.sum_cons, ih]; omega
  simp only [this, List.sum_cons, List.sum_nil]
  omega
theorem longD (m a b o : Nat) : codeD (longL m a b o) = .tup ((List.replicate m (D.tup [D.str "set", nD a, nD b])) ++ [D.tup [D.str "end", nD o]]) := by simp [codeD, longL, Ln.toD]
theorem sum_lnW (w : Nat) : ∀ c : List Ln, (∀ l ∈ c, lnW l ≤ w) → (c.map lnW).sum ≤ w * c.length
  | [], _ => by simp
  | l :: c, h => by
    have h1 := sum_lnW w c (fun x hx => h x (by simp [hx]))
    have h2 := h l (by simp)
    simp only [List.map_cons, List.sum_cons, List.length_cons, Nat.mul_succ]
    omega
theorem lnW_mv (m : Nat) (l : Ln) : lnW (mv m l) = lnW l := by cases l <;> rfl
theorem shift_w {m w : Nat} {c : List Ln} (h : ∀ l ∈ c, lnW l ≤ w) (hw : 5 ≤ w) : ∀ l ∈ shiftL m c, lnW l ≤ w := by
  intro l hl
  simp only [shiftL, List.mem_append, List.mem_replicate, List.mem_map] at hl
  rcases hl with ⟨_, rfl⟩ | ⟨x, hx, rfl⟩
  · exact hw
  · rw [lnW_mv]; exact h x hx
theorem long_w (m a b o : Nat) : ∀ l ∈ longL m a b o, lnW l ≤ 5 := by
  intro l hl
  simp only [longL, List.mem_append, List.mem_replicate, List.mem_singleton] at hl
  rcases hl with ⟨_, rfl⟩ | rfl <;> exact Nat.le_refl _
theorem mid_of {i : Int} (h0 : 0 ≤ i) (h : i ≤ 1000000) : mid i = true := by unfold mid; exact decide_eq_true (by omega)
theorem run_long (C : Addr) {J : Jug} (hJ : JOk J) : ∃ J', JOk J' ∧ ∃ junk, runB 5 (den__law_long C) [.adr 0] [J.ob 1, J.gob] = .ok (.bl true) (J'.ob 1 :: J'.gob :: junk) := by
  obtain ⟨b, J1, hb, hJ1, e1⟩ := rollE hJ 2000 2000 rfl (by decide) (by decide)
  refine ⟨J1, hJ1, [], ?_⟩
  have t1 : ((1000 : Int) + (b : Int) - 1).toNat = 999 + b := by omega
  have t2 : ((3989 : Int) - (1000 + (b : Int))).toNat = 2989 - b := by omega
  have m1 : mid ((1000 : Int) + (b : Int) - 1) = true := mid_of (by omega) (by omega)
  have m2 : mid ((3989 : Int) - (1000 + (b : Int))) = true := mid_of (by omega) (by omega)
  have r1 := fun l => call_refJ C (longL (999 + b) 1 3 0) [longL (2989 - b) 2 2 4] (longL_fin (by simp)) (by simp) l
  have r2 := fun l => call_refJ C (longL (999 + b) 1 3 0) [.set 2 2 :: longL (2989 - b) 2 2 4] (longL_fin (by simp)) (by simp) l
  have r3 := fun l => call_refS C (longL 3950 1 3 7) 50 l
  have s1 := fun l => call_shiftX C (longL 3950 1 3 7) 49 (by rw [longL_len]; decide) l
  have s2 := fun l => call_shifted (longL 3950 1 3 7) 49 (by rw [longL_len]; decide) l
  have q1 : (longL (999 + b) 1 3 0).length + total [longL (2989 - b) 2 2 4] ≤ 4000 := by simp [total, longL_len]; omega
  have q2 : ¬ (longL (999 + b) 1 3 0).length + total [.set 2 2 :: longL (2989 - b) 2 2 4] ≤ 4000 := by simp [total, longL_len]; omega
  have q3 : ¬ (longL 3950 1 3 7).length + 50 ≤ 4000 := by rw [longL_len]; decide
  have al := fun l => call_alikeC (shiftL 49 (longL 3950 1 3 7)) (Nat.le_trans (sum_lnW 5 _ (shift_w (long_w _ _ _ _) (Nat.le_refl _))) (by simp [shiftL, longL_len])) l
  simp only [if_pos q1] at r1
  simp only [if_neg q2] at r2
  simp only [if_neg q3] at r3
  have c1 : codeD (.set 2 2 :: longL (2989 - b) 2 2 4) = .tup (D.tup [D.str "set", nD 2, nD 2] :: ((List.replicate (2989 - b) (D.tup [D.str "set", nD 2, nD 2])) ++ [D.tup [D.str "end", nD 4]])) := by simp [codeD, longL, Ln.toD]
  have z0 : nD 0 = D.int 0 := rfl
  have z1 : nD 1 = D.int 1 := rfl
  have z2 : nD 2 = D.int 2 := rfl
  have z3 : nD 3 = D.int 3 := rfl
  have z4 : nD 4 = D.int 4 := rfl
  have z7 : nD 7 = D.int 7 := rfl
  have z49 : nD 49 = D.int 49 := rfl
  have z50 : nD 50 = D.int 50 := rfl
  simp only [codesD, List.map_cons, List.map_nil, c1, longD, z0, z1, z2, z3, z4, z7, z49, z50] at r1 r2 r3 s1 s2
  have l1 : 999 + b ≤ 16777216 := by omega
  have l2 : 2989 - b ≤ 16777216 := by omega
  have l3 : 999 + b + 1 ≤ 16777216 := by omega
  have l4 : 2989 - b + 1 ≤ 16777216 := by omega
  have tk : ((List.replicate (2989 - b) (D.tup [D.str "set", D.int 2, D.int 2])) ++ [D.tup [D.str "end", D.int 4]]).take 1 = [D.tup [D.str "set", D.int 2, D.int 2]] := by
    obtain ⟨m, hm⟩ : ∃ m, 2989 - b = m + 1 := ⟨2988 - b, by omega⟩
    rw [hm, List.replicate_succ]
    rfl
  have l5 : 1 + (2989 - b + 1) ≤ 16777216 := by omega
  simp [den__law_long, e1, t1, t2, m1, m2, flat_one, l1, l2, l3, l4, l5, r1, r2, r3, s1, s2, tk, al, -List.reduceReplicate]
  done
end Q88

set_option Elab.async false
set_option linter.all false
set_option maxRecDepth 100000
set_option maxHeartbeats 4000000
namespace Q88
open PySem L2 PySem.Spec PyProof.Rows Zb
/-! ### _law_well -/
theorem b1_well {x0 x4 : Option D} {f : Int} (hf : 0 ≤ f ∧ f < 2147483587) (gs : List Int) (hg : gs.length ≤ 900) (i : Int) (B : OB) : ∃ (f' : Int) (gs' : List Int) (x4' : Option D), (0 ≤ f' ∧ f' < 2147483587) ∧ gs'.length ≤ gs.length + 1 ∧
    b1__law_well [x0, some (.int f), some (.adr 0), some (.int i), x4] [.lst (gs.map D.int), B] = .nx [x0, some (.int f'), some (.adr 0), some (.int i), x4'] [.lst (gs'.map D.int), B] := by
  have hp : powOk 1 1700 = true := by decide
  have hp2 : powOk 10 14 = true := by decide
  have hm : mulOk f 49253 = true := mulOk_small (by omega) (by decide)
  have hm3 : mulOk 3 (if i < 0 then 1 else 0) = true := by split <;> decide
  have hz : ¬ ((2 : Int) ^ 1700 = 0) := by
    have : (0 : Int) < 2 ^ 1700 := Int.pow_pos (by decide)
    omega
  have hl : gs.length + 1 ≤ 16777216 := by omega
  generalize hs : (if i < 0 then -i else i).fmod ((2 : Int) ^ 1700) = s
  let c : Int := if i < 0 then 1 else 0
  by_cases h : (100000000000000 : Int) ≤ s
  · refine ⟨(f * 49253 + s.fmod 998244353 + 3 * c + 43).fmod 2147483587, gs ++ [s], some (.int s), ⟨Int.fmod_nonneg_of_pos _ (by decide), Int.fmod_lt_of_pos _ (by decide)⟩, by simp, ?_⟩
    simp [b1__law_well, hp, hp2, hm, hm3, hz, hs, h, hl, c]
  · refine ⟨(f * 49253 + s.fmod 998244353 + 3 * c + 43).fmod 2147483587, gs, some (.int s), ⟨Int.fmod_nonneg_of_pos _ (by decide), Int.fmod_lt_of_pos _ (by decide)⟩, by simp, ?_⟩
    simp [b1__law_well, hp, hp2, hm, hm3, hz, hs, h, hl, c]
theorem loop_well {it : ItD} {B : OB} (hok : ∀ x, it.ok [x, B]) {x0 : Option D} : ∀ (is : List Int) (f : Int) (gs : List Int) (x3 x4 : Option D), (0 ≤ f ∧ f < 2147483587) → gs.length + is.length ≤ 900 →
    ∃ (f' : Int) (gs' : List Int) (y3 y4 : Option D), (0 ≤ f' ∧ f' < 2147483587) ∧ gs'.length ≤ 900 ∧ sForL it (gN 3) b1__law_well (is.map D.int) [x0, some (.int f), some (.adr 0), x3, x4] [.lst (gs.map D.int), B] = .nx [x0, some (.int f'), some (.adr 0), y3, y4] [.lst (gs'.map D.int), B]
  | [], f, gs, x3, x4, hf, hl => ⟨f, gs, x3, x4, hf, by simpa using hl, by rw [List.map_nil, for_nil _ _ _ _ (hok _)]⟩
  | i :: is, f, gs, x3, x4, hf, hl => by
    simp only [List.length_cons] at hl
    obtain ⟨f1, gs1, y4, h1, h2, e⟩ := b1_well (x0 := x0) (x4 := x4) hf gs (by omega) i B
    obtain ⟨f', gs', z3, z4, h3, h4, ih⟩ := loop_well hok (x0 := x0) is f1 gs1 (some (.int i)) y4 h1 (by omega)
    refine ⟨f', gs', z3, z4, h3, h4, ?_⟩
    have hg : gN 3 (D.int i) [.lst (gs.map D.int), B] [x0, some (.int f), some (.adr 0), x3, x4] = some [x0, some (.int f), some (.adr 0), some (.int i), x4] := rfl
    rw [List.map_cons, for_cons _ _ _ _ _ _ (hok _), hg]
    simp only [e, loop_nx, ih]
theorem run_well (ns : List Int) (hl : ns.length ≤ 63) : ∃ A B J, JOk J ∧ runB 5 den__law_well [.ro ns] [] = .ok (.adr 3) [A, B, J.gob, J.ob 2] := by
  obtain ⟨f, gs, y3, y4, h1, h2, e⟩ := loop_well (it := ⟨(ns.take 50).map D.int, some 1⟩) (B := .lst ((ns.take 50).map D.int)) (fun x => rfl) (x0 := some (.ro ns)) (ns.take 50) 88007 [] none none (by decide) (by simp; omega)
  refine ⟨.lst (gs.map D.int), .lst ((ns.take 50).map D.int), ⟨f, gs.reverse⟩, ⟨h1.1, h1.2, by simp; omega⟩, ?_⟩
  simp only [List.map_nil, List.map_take] at e
  simp [den__law_well, e, Jug.gob, Jug.ob]
/-! ### calls out of law: its well is adr 3, the great ones adr 2 -/
section
variable {J : Jug}
theorem getJ_law (J : Jug) (A B : OB) (r : Sto) : getJ (A :: B :: J.gob :: J.ob 2 :: r) 3 = some (2, J) := by simp [getJ, Jug.ob, Jug.gob]
theorem putJ_law (J J' : Jug) (A B : OB) (r : Sto) : putJ (A :: B :: J.gob :: J.ob 2 :: r) 3 2 J' = A :: B :: J'.gob :: J'.ob 2 :: r := rfl
theorem rollW (hJ : JOk J) (m : Nat) (i : Int) (hi : i = m) (h1 : 1 ≤ m) (h2 : m ≤ 1000000) : ∃ (n : Nat) (J' : Jug), n < m ∧ JOk J' ∧ ∀ (A B : OB) (r : Sto), m__law_roll [.adr 3, .int i] (A :: B :: J.gob :: J.ob 2 :: r) = .ok (.int n) (A :: B :: J'.gob :: J'.ob 2 :: r) := by
  refine ⟨_, _, rollF_lt J h1, rollF_ok hJ m, fun A B r => ?_⟩
  subst hi
  have := call_roll m (getJ_law J A B r) (by decide) hJ h1 h2
  rw [putJ_law] at this
  exact this
theorem drawnW (hJ : JOk J) (outs : Nat) (i : Int) (hi : i = outs) (h1 : 1 ≤ outs) (h2 : outs ≤ 1000) : ∃ c J', Good outs c ∧ JOk J' ∧ ∀ (A B : OB) (r : Sto), m__law_drawn [.adr 3, .int i] (A :: B :: J.gob :: J.ob 2 :: r) = .ok (codeD c) (A :: B :: J'.gob :: J'.ob 2 :: r) := by
  obtain ⟨c, J', junk, h3, h4, e⟩ := run_drawn hJ outs h1 h2
  refine ⟨c, J', h3, h4, fun A B r => ?_⟩
  subst hi
  have := callJ_p (run := runB 7 den__law_drawn) (ks := [.P]) (w := 3) (q := 2) (ds := [nD outs]) (es := [nD outs]) (l := A :: B :: J.gob :: J.ob 2 :: r) (junk := junk) (d := codeD c) (J := J) (J' := J') (getJ_law J A B r) (by simp [ins, insOne]) (by simp [idx]) (by simpa [smA, smL] using e) (by simp)
  rw [putJ_law] at this
  exact this
theorem ofW (hJ : JOk J) (xs : List D) (h0 : xs ≠ []) (h1 : xs.length ≤ 1000) (hp : pus xs = true) (hp2 : ∀ x ∈ xs, pu x = true) : ∃ (i : Nat) (hi : i < xs.length) (J' : Jug), JOk J' ∧ ∀ (A B : OB) (r : Sto), m__law_of [.adr 3, .adr 4] (A :: B :: J.gob :: J.ob 2 :: .lst xs :: r) = .ok xs[i] (A :: B :: J'.gob :: J'.ob 2 :: .lst xs :: r) := by
  obtain ⟨i, hi, J', hJ', e⟩ := run_of hJ xs h0 h1
  refine ⟨i, hi, J', hJ', fun A B r => ?_⟩
  have := callJ_p (run := runB 2 den__law_of) (ks := [.L]) (w := 3) (q := 2) (ds := [.adr 4]) (es := [.tup xs]) (l := A :: B :: J.gob :: J.ob 2 :: .lst xs :: r) (junk := []) (d := xs[i]) (J := J) (J' := J') (getJ_law J A B _) (by simp [ins, insOne, hp]) (by simp [idx]) (by simpa [smA, smL] using e) (hp2 _ (List.getElem_mem _))
  rw [putJ_law] at this
  exact this
theorem joinedW {outs outs2 : Nat} {c : List Ln} {cs : List (List Ln)} (h : JoinOk outs outs2 c cs) (hcs : cs ≠ []) (hfin : ∀ ln ∈ c, ∀ o, ln = .fin o → o < cs.length) (hc : cs.length ≤ 1000) (C : Addr) (F : Nat) (hF : F = 2 ∨ F = 3) (i : Int) (hi : i = F) (hJ : JOk J) : ∃ J', JOk J' ∧ ∀ (A B : OB) (r : Sto), m__law_joined C [.adr 3, codeD c, codesD cs, .int i] (A :: B :: J.gob :: J.ob 2 :: r) = .ok (.bl true) (A :: B :: J'.gob :: J'.ob 2 :: r) := by
  obtain ⟨J', junk, h4, e⟩ := run_joined h hcs hfin hc C F hF hJ
  refine ⟨J', h4, fun A B r => ?_⟩
  subst hi
  have := callJ_p (run := runB 9 (den__law_joined C)) (ks := [.P, .P, .P]) (w := 3) (q := 2) (ds := [codeD c, codesD cs, nD F]) (es := [codeD c, codesD cs, nD F]) (l := A :: B :: J.gob :: J.ob 2 :: r) (junk := junk) (d := .bl true) (J := J) (J' := J') (getJ_law J A B r) (by simp [ins, insOne]) (by simp [idx]) (by simpa [smA, smL] using e) (by simp)
  rw [putJ_law] at this
  exact this
theorem longW (C : Addr) (hJ : JOk J) : ∃ J', JOk J' ∧ ∀ (A B : OB) (r : Sto), m__law_long C [.adr 3] (A :: B :: J.gob :: J.ob 2 :: r) = .ok (.bl true) (A :: B :: J'.gob :: J'.ob 2 :: r) := by
  obtain ⟨J', h4, junk, e⟩ := run_long C hJ
  refine ⟨J', h4, fun A B r => ?_⟩
  have := callJ_p (run := runB 5 (den__law_long C)) (ks := []) (w := 3) (q := 2) (ds := []) (es := []) (l := A :: B :: J.gob :: J.ob 2 :: r) (junk := junk) (d := .bl true) (J := J) (J' := J') (getJ_law J A B r) (by simp [ins]) (by simp [idx]) (by simpa [smA, smL] using e) (by simp)
  rw [putJ_law] at this
  exact this
end
end Q88

set_option Elab.async false
set_option linter.all false
set_option maxRecDepth 100000
set_option maxHeartbeats 4000000
namespace Q88
open PySem L2 PySem.Spec PyProof.Rows Zb
/-! ### codes by hand -/
def isThB (c : List Ln) (t : Nat) : Bool := match c[t]? with
  | some (.throw _) => true
  | _ => false
theorem isThB_ok {c : List Ln} {t : Nat} (h : isThB c t = true) : isThrow c t := by
  unfold isThB at h
  split at h
  · exact ⟨_, by assumption⟩
  · cases h
def okB (outs : Nat) (c : List Ln) (i : Nat) : Ln → Bool
  | .throw r => decide (r ≤ 9)
  | .set r n => decide (r ≤ 9) && decide (n ≤ 8)
  | .add r q => decide (r ≤ 9) && decide (q ≤ 9)
  | .below r _ t => decide (r ≤ 9) && decide (t < c.length) && (decide (i < t) || isThB c t)
  | .goto t => decide (t < c.length) && (decide (i < t) || isThB c t)
  | .fin o => decide (o < outs)
  | _ => false
theorem okB_ok {outs : Nat} {c : List Ln} {i : Nat} {ln : Ln} (h : okB outs c i ln = true) : LnOk outs c.length c i ln := by
  cases ln with
  | times r q => simp [okB] at h
  | take r q ns => simp [okB] at h
  | throw r => simpa [okB, LnOk] using h
  | set r n => simpa [okB, LnOk] using h
  | add r q => simpa [okB, LnOk] using h
  | fin o => simpa [okB, LnOk] using h
  | goto t =>
    simp only [okB, Bool.and_eq_true, Bool.or_eq_true, decide_eq_true_eq] at h
    exact ⟨h.1, h.2.imp id isThB_ok⟩
  | below r n t =>
    simp only [okB, Bool.and_eq_true, Bool.or_eq_true, decide_eq_true_eq] at h
    exact ⟨h.1.1, h.1.2, h.2.imp id isThB_ok⟩
def lastB (c : List Ln) : Bool := match c[c.length - 1]? with
  | some (.goto _) => true
  | some (.fin _) => true
  | _ => false
def hereB (outs : Nat) (c : List Ln) : Bool := decide (0 < c.length) && decide (c.length ≤ 4000) && lastB c && (List.range c.length).all fun i => match c[i]? with
  | some ln => okB outs c i ln
  | none => true
theorem hereB_ok {outs : Nat} {c : List Ln} (h : hereB outs c = true) : CodeOk outs c := by
  simp only [hereB, Bool.and_eq_true, decide_eq_true_eq, List.all_eq_true, List.mem_range] at h
  obtain ⟨⟨⟨h1, h2⟩, h3⟩, h4⟩ := h
  refine ⟨h1, h2, ?_, fun i ln e => ?_⟩
  · unfold lastB at h3
    split at h3
    · exact ⟨_, by assumption, .inl ⟨_, rfl⟩⟩
    · exact ⟨_, by assumption, .inr ⟨_, rfl⟩⟩
    · cases h3
  · have := h4 i (List.getElem?_eq_some_iff.mp e).1
    rw [e] at this
    exact okB_ok this
theorem LnOk.mono {outs outs' size i : Nat} {c : List Ln} {ln : Ln} (h : outs ≤ outs') (q : LnOk outs size c i ln) : LnOk outs' size c i ln := by
  cases ln with
  | fin o => exact Nat.lt_of_lt_of_le q h
  | _ => exact q
theorem CodeOk.mono {outs outs' : Nat} {c : List Ln} (h : outs ≤ outs') (q : CodeOk outs c) : CodeOk outs' c := ⟨q.pos, q.le, q.last, fun i ln e => (q.ln i ln e).mono h⟩
theorem CodeOk.fin {outs : Nat} {c : List Ln} (q : CodeOk outs c) : ∀ ln ∈ c, ∀ o, ln = .fin o → o < outs := by
  rintro ln hl o rfl
  obtain ⟨i, hi⟩ := List.getElem?_of_mem hl
  exact q.ln i _ hi
theorem CodeOk.w {outs : Nat} {c : List Ln} (q : CodeOk outs c) : ∀ ln ∈ c, lnW ln ≤ 405 := by
  intro ln hl
  obtain ⟨i, hi⟩ := List.getElem?_of_mem hl
  have := q.ln i _ hi
  cases ln with
  | take r q ns => simp only [LnOk] at this; simp only [lnW]; omega
  | _ => simp [lnW]
def flipL : List Ln := [.throw 0, .below 0 1 3, .fin 1, .fin 0]
def fullL : List Ln := [.set 0 5, .throw 1, .add 0 1, .below 0 6 5, .fin 1, .fin 0]
def oneL : List Ln := [.fin 1]
def evL : List Ln := [.throw 0, .goto 0]
def twoL : List Ln := [.fin 2]
def innerL : List Ln := joinL flipL [fullL, twoL]
theorem flip_ok : CodeOk 2 flipL := hereB_ok (by decide)
theorem full_ok : CodeOk 2 fullL := hereB_ok (by decide)
theorem one_ok : CodeOk 2 oneL := hereB_ok (by decide)
theorem ev_ok : CodeOk 2 evL := hereB_ok (by decide)
theorem two_ok : CodeOk 3 twoL := hereB_ok (by decide)
theorem inner_ok : CodeOk 3 innerL := hereB_ok (by decide +kernel)
theorem inner_len : innerL.length = 31 := by decide +kernel
theorem all2 {P : Nat → List Ln → Prop} {a b : List Ln} (ha : P 0 a) (hb : P 1 b) : ∀ (k : Nat) (o : List Ln), [a, b][k]? = some o → P k o
  | 0, o, e => by simp at e; subst e; exact ha
  | 1, o, e => by simp at e; subst e; exact hb
  | k + 2, o, e => by simp at e
theorem all3 {P : Nat → List Ln → Prop} {a b c : List Ln} (ha : P 0 a) (hb : P 1 b) (hc : P 2 c) : ∀ (k : Nat) (o : List Ln), [a, b, c][k]? = some o → P k o
  | 0, o, e => by simp at e; subst e; exact ha
  | 1, o, e => by simp at e; subst e; exact hb
  | 2, o, e => by simp at e; subst e; exact hc
  | k + 3, o, e => by simp at e
theorem j_flip : JoinOk 2 2 flipL [fullL, flipL] := ⟨flip_ok, all2 (P := fun _ o => CodeOk 2 o) full_ok flip_ok, by decide, by decide⟩
theorem j_inner0 : JoinOk 2 3 flipL [fullL, twoL] := ⟨flip_ok, all2 (P := fun _ o => CodeOk 3 o) (full_ok.mono (by decide)) two_ok, by decide, by decide⟩
theorem j_three {c a b : List Ln} (hc : CodeOk 3 c) (hl : c.length ≤ 31) (ha : Good 5 a) (hb : Good 9 b) : JoinOk 3 9 c [a, fullL, b] :=
  ⟨hc, all3 (P := fun _ o => CodeOk 9 o) (ha.ok.mono (by decide)) (full_ok.mono (by decide)) hb.ok, by simp, by
    have := ha.hi
    have := hb.hi
    have h6 : fullL.length = 6 := rfl
    simp [total, h6]
    omega⟩
end Q88

set_option Elab.async false
set_option linter.all false
set_option maxRecDepth 100000
set_option maxHeartbeats 8000000
namespace Q88
open PySem L2 PySem.Spec PyProof.Rows Zb
/-! ### law -/
theorem hflip : (D.tup [D.tup [D.str "throw", D.int 0], D.tup [D.str "below", D.int 0, D.int 1, D.int 3], D.tup [D.str "end", D.int 1], D.tup [D.str "end", D.int 0]]) = codeD flipL := rfl
theorem hfull : (D.tup [D.tup [D.str "set", D.int 0, D.int 5], D.tup [D.str "throw", D.int 1], D.tup [D.str "add", D.int 0, D.int 1], D.tup [D.str "below", D.int 0, D.int 6, D.int 5], D.tup [D.str "end", D.int 1], D.tup [D.str "end", D.int 0]]) = codeD fullL := rfl
theorem hone : (D.tup [D.tup [D.str "end", D.int 1]]) = codeD oneL := rfl
theorem htwo : (D.tup [D.tup [D.str "end", D.int 2]]) = codeD twoL := rfl
theorem hev : (D.tup [D.tup [D.str "throw", D.int 0], D.tup [D.str "goto", D.int 0]]) = codeD evL := rfl
theorem four {i : Nat} (hi : i < [codeD flipL, codeD fullL, codeD oneL, codeD evL].length) : ∃ c, CodeOk 3 c ∧ c.length ≤ 31 ∧ [codeD flipL, codeD fullL, codeD oneL, codeD evL][i] = codeD c := by
  match i, hi with
  | 0, _ => exact ⟨flipL, flip_ok.mono (by decide), by decide, rfl⟩
  | 1, _ => exact ⟨fullL, full_ok.mono (by decide), by decide, rfl⟩
  | 2, _ => exact ⟨oneL, one_ok.mono (by decide), by decide, rfl⟩
  | 3, _ => exact ⟨evL, ev_ok.mono (by decide), by decide, rfl⟩
theorem two {a b : List Ln} (ha : CodeOk 3 a) (hb : CodeOk 3 b) (la : a.length ≤ 31) (lb : b.length ≤ 31) {n : Nat} (h : n < 2) : ∃ c, CodeOk 3 c ∧ c.length ≤ 31 ∧ [codeD a, codeD b][n]? = some (codeD c) := by
  match n, h with
  | 0, _ => exact ⟨a, ha, la, rfl⟩
  | 1, _ => exact ⟨b, hb, lb, rfl⟩
theorem cellsW (C : Addr) {it : ItD} (hok : ∀ l, it.ok l) : ∀ (ds : List D) (J : Jug) (hJ : JOk J) (x0 x2 x3 x4 x5 x6 x7 x8 x9 x10 : Option D) (acc : List Nat), acc.length + ds.length ≤ 1000 →
    ∃ ns J', ns.length = ds.length ∧ JOk J' ∧ ∀ (A B : OB) (r : Sto), lcL it (gN 11) dYes (e1_law C) [x0, some (.adr 3), x2, x3, x4, x5, x6, x7, x8, x9, x10, none] ds (A :: B :: J.gob :: J.ob 2 :: r) (acc.map nD) = .ok ((acc ++ ns).map nD) (A :: B :: J'.gob :: J'.ob 2 :: r)
  | [], J, hJ, x0, x2, x3, x4, x5, x6, x7, x8, x9, x10, acc, _ => ⟨[], J, rfl, hJ, fun A B r => by simp [lcL, hok]⟩
  | d :: ds, J, hJ, x0, x2, x3, x4, x5, x6, x7, x8, x9, x10, acc, hl => by
    simp only [List.length_cons] at hl
    obtain ⟨n, J1, hn, hJ1, e⟩ := rollW hJ 50 50 rfl (by decide) (by decide)
    obtain ⟨ns, J2, h1, hJ2, ih⟩ := cellsW C hok ds J1 hJ1 x0 x2 x3 x4 x5 x6 x7 x8 x9 x10 (acc ++ [n]) (by simp; omega)
    refine ⟨n :: ns, J2, by simp [h1], hJ2, fun A B r => ?_⟩
    have hg : gN 11 d (A :: B :: J.gob :: J.ob 2 :: r) [x0, some (.adr 3), x2, x3, x4, x5, x6, x7, x8, x9, x10, none] = some [x0, some (.adr 3), x2, x3, x4, x5, x6, x7, x8, x9, x10, some d] := rfl
    have hf : e1_law C [x0, some (.adr 3), x2, x3, x4, x5, x6, x7, x8, x9, x10, some d] (A :: B :: J.gob :: J.ob 2 :: r) = .ok (nD n) (A :: B :: J1.gob :: J1.ob 2 :: r) := by simp [e1_law, e]
    simp only [lcL, hok, if_true, hg, dYes_e, nox_ok, bind_ok, hf]
    rw [if_pos (by simp; omega)]
    have : acc.map nD ++ [nD n] = (acc ++ [n]).map nD := by simp
    rw [this, ih]
    simp
theorem w_ren {ps : List Nat} {c : List Ln} {w : Nat} (h : ∀ l ∈ c, lnW l ≤ w) : ∀ l ∈ c.map (ren ps), lnW l ≤ w := by
  intro l hl
  obtain ⟨x, hx, rfl⟩ := List.mem_map.mp hl
  have := h x hx
  cases x <;> simpa [ren, lnW] using this
theorem run_law (C : Addr) (ns : List Int) (hl : ns.length ≤ 63) : ∃ L, runB 12 (den_law C) [.ro ns] [] = .ok (.bl true) L := by
  obtain ⟨A, B, J0, hJ0, e0⟩ := run_well ns hl
  obtain ⟨n1, J1, h1, hJ1, e1⟩ := rollW hJ0 2 2 rfl (by decide) (by decide)
  obtain ⟨i, hi, J2, hJ2, e2⟩ := ofW hJ1 [codeD flipL, codeD fullL, codeD oneL, codeD evL] (by simp) (by simp) (by simp) (by simp)
  obtain ⟨fc, hfc, lfc, efc⟩ := four hi
  rw [efc] at e2
  obtain ⟨c3, J3, g3, hJ3, e3⟩ := drawnW hJ2 3 3 rfl (by decide) (by decide)
  obtain ⟨n4, J4, h4, hJ4, e4⟩ := rollW hJ3 2 2 rfl (by decide) (by decide)
  obtain ⟨cc, hcc, lcc, ecc⟩ := two hfc g3.ok lfc (by have := g3.hi; omega) h4
  obtain ⟨c5, J5, g5, hJ5, e5⟩ := drawnW hJ4 5 5 rfl (by decide) (by decide)
  obtain ⟨c6, J6, g6, hJ6, e6⟩ := drawnW hJ5 9 9 rfl (by decide) (by decide)
  have e0 : (den__law_well [some (D.ro ns), none, none, none, none] []).toB = .ok (.adr 3) [A, B, J0.gob, J0.ob 2] := e0
  have hF : 2 + n1 = 2 ∨ 2 + n1 = 3 := by omega
  have iF : (2 : Int) + (n1 : Int) = ((2 + n1 : Nat) : Int) := by omega
  obtain ⟨J7, hJ7, e7⟩ := joinedW (j_three hcc lcc g5 g6) (by simp) hcc.fin (by simp) C (2 + n1) hF (2 + (n1 : Int)) iF hJ6
  obtain ⟨J8, hJ8, e8⟩ := joinedW j_flip (by simp) flip_ok.fin (by simp) C (2 + n1) hF (2 + (n1 : Int)) iF hJ7
  have e9 := fun l => call_joinX C flipL [fullL, twoL] flip_ok.fin (by decide) (by decide) l
  have e10 := fun l => call_sound innerL (sound_join j_inner0 (by simp)) l
  obtain ⟨J9, hJ9, e11⟩ := joinedW (j_three inner_ok (by rw [inner_len]; decide) g5 g6) (by simp) inner_ok.fin (by simp) C (2 + n1) hF (2 + (n1 : Int)) iF hJ8
  obtain ⟨m, J10, hm, hJ10, e12⟩ := rollW hJ9 101 101 rfl (by decide) (by decide)
  have e13 := fun l => call_shiftX C cc m (by omega) l
  have e14 := fun l => call_shifted cc m (by omega) l
  have e15 := fun l => call_alikeC (shiftL m cc) (Nat.le_trans (sum_lnW 405 _ (shift_w hcc.w (by decide))) (by simp [shiftL]; omega)) l
  obtain ⟨ps, J11, hps, hJ11, e16⟩ := cellsW C (it := ⟨rng 0 9, none⟩) (fun _ => trivial) (rng 0 9) J10 hJ10 (some (.ro ns)) (some (.int (2 + (n1 : Int)))) (some (codeD flipL)) (some (codeD fullL)) (some (codeD fc)) (some (codeD cc)) (some (codesD [c5, fullL, c6])) (some (codeD innerL)) (some (nD m)) none [] (by simp [rng_len])
  have hps9 : ps.length = 9 := by rw [hps, rng_len]
  have c6l := g6.hi
  have e17 := fun l => call_renamed c6 ps (by rw [hps9]; exact g6.ok.fin) (by omega) l
  have e18 := fun l => call_named c6 ps (by rw [hps9]; exact g6.ok.fin) (by omega) l
  have e19 := fun l => call_alikeC (c6.map (ren ps)) (Nat.le_trans (sum_lnW 405 _ (w_ren g6.ok.w)) (by simp; omega)) l
  obtain ⟨n12, J12, h12, hJ12, e20⟩ := rollW hJ11 7 7 rfl (by decide) (by decide)
  obtain ⟨J13, hJ13, e21⟩ := longW C hJ12
  have ei : codeD (joinL flipL [fullL, twoL]) = codeD innerL := rfl
  simp only [codesD, List.map_cons, List.map_nil, ei, List.nil_append] at e7 e8 e9 e11 e16 e17 e18
  have er9 : rng 0 9 = [D.int 0, D.int 1, D.int 2, D.int 3, D.int 4, D.int 5, D.int 6, D.int 7, D.int 8] := rfl
  by_cases q4 : (n12 : Int) = 4
  all_goals simp [q4, den_law, e0, e1, hflip, hfull, hone, htwo, hev, e2, e3, e4, ecc, e5, e6, e7, e8, e9, e10, e11, e12, e13, e14, e15, e16, e17, e18, e19, e20, e21, hps9]
  done
end Q88

set_option Elab.async false
set_option linter.all false
set_option maxRecDepth 100000
set_option maxHeartbeats 8000000
namespace Q88
open PySem PySem.W PySem.Calls PyProof.Rows PySem.HandSPX L2 PySem.Spec Zb
def spLaw (K : PySem.W.Frag) : Sp := fun vs H Q _ => ∃ (a : Addr) (ns : List Int), vs = [.ref a] ∧ SqS K [] H a (ns.map V.int) ∧ ns.length ≤ 63 ∧ ∀ H', Q (.bl true) H'
def pv_joined_code {α : Type} : List α → List α → List α
  | [], [a, b] => [b, a]
  | _, _ => []
theorem pr_joined_code {K : PySem.W.Frag} : ∀ (ρ : List Addr) (H : Hp) (ds : List D) (vs : List V), Rws K ρ H ds vs → Rws K ρ H (perm_joined_code ds) (pv_joined_code [] vs)
  | ρ, H, [], vs, h => by
    match vs, Rws.length h with
    | [], _ => exact Rws.nil
  | ρ, H, [d0], vs, h => by
    match vs, Rws.length h with
    | [v0], _ => exact Rws.nil
  | ρ, H, [d0, d1], vs, h => by
    match vs, Rws.length h, h with
    | [v0, v1], _, h =>
      have r0 := h.get (i := 0) rfl
      obtain ⟨u0, e0, r0⟩ := r0
      cases e0
      have r1 := h.get (i := 1) rfl
      obtain ⟨u1, e1, r1⟩ := r1
      cases e1
      exact (Rws.cons r1 (Rws.cons r0 Rws.nil))
  | ρ, H, d0 :: d1 :: d2 :: ds, vs, h => by
    match vs, Rws.length h with
    | v0 :: v1 :: v2 :: us, _ => exact Rws.nil
theorem pl_joined_code {vs : List V} {us : List Value} {zs : List V} {ws : List Value} (h : Vals vs us) (q : Vals zs ws) : Vals (pv_joined_code vs zs) (pv_joined_code us ws) := by
  cases h with
  | cons r h => exact .nil
  | nil =>
    cases q with
    | nil => exact .nil
    | cons q0 q =>
      cases q with
      | nil => exact .nil
      | cons q1 q =>
        cases q with
        | cons _ _ => exact .nil
        | nil => exact (.cons q1 (.cons q0 .nil))
theorem exm_of {K : PySem.W.Frag} {S : Addr} (h1 : PySem.W.subIn K (.ref S) (.type "BaseException") = some true) (h2 : PySem.W.isClsIn K S = true) (h3 : PySem.W.typeIn K (.ref S) = some (.type "type")) (h4 : PySem.W.subIn K (.ref S) (.ref S) = some true) :
    PySem.W.exmOne K (.ref S) (.ref S) = some true := by
  unfold PySem.W.isClsIn at h2
  unfold PySem.W.exmOne PySem.W.kitCls
  simp [h1, h2, h3, h4]
theorem all_mk {P : Program} {w : World} {K : PySem.W.Frag} {h : Heap} {mg : Str → Option Value} {fa : Addr}
    {C B fI cda cc : Addr} {nm qn qual : Str} {N : Addr} {bs bm : List Value} {sn : List Str} {sub : List Value} {ab : Bool} {col : Option Bool} {dd : Option Addr} {e0 e1 e2 e3 e5 : Option Value}
    {nm2 qn2 : Str} {N2 : Addr} {bs2 : List Value} {sn2 : List Str} {sub2 : List Value} {ab2 : Bool} {col2 : Option Bool} {dd2 : Option Addr} {e02 e12 e22 e32 e52 : Option Value}
    {oc dc pm ct cl ccl : Value} {od an cld cdd : Option Addr} {osl csl ccs : Array (Option Value)} {avs : Array Value} {file : Str} {tf : Tok}
    {f0 : Addr} {od0 an0 : Option Addr} {sl0 : Array (Option Value)} {oc0 kV0 dc0 pm0 cd0 ct0 : Value}
    {f1 : Addr} {od1 an1 : Option Addr} {sl1 : Array (Option Value)} {oc1 kV1 dc1 pm1 cd1 ct1 : Value}
    {f2 : Addr} {od2 an2 : Option Addr} {sl2 : Array (Option Value)} {oc2 kV2 dc2 pm2 cd2 ct2 : Value}
    {f3 : Addr} {od3 an3 : Option Addr} {sl3 : Array (Option Value)} {oc3 kV3 dc3 pm3 cd3 ct3 : Value}
    {f4 : Addr} {od4 an4 : Option Addr} {sl4 : Array (Option Value)} {oc4 kV4 dc4 pm4 cd4 ct4 : Value}
    {f5 : Addr} {od5 an5 : Option Addr} {sl5 : Array (Option Value)} {oc5 kV5 dc5 pm5 cd5 ct5 : Value}
    {f6 : Addr} {od6 an6 : Option Addr} {sl6 : Array (Option Value)} {oc6 kV6 dc6 pm6 cd6 ct6 : Value}
    {f7 : Addr} {od7 an7 : Option Addr} {sl7 : Array (Option Value)} {oc7 kV7 dc7 pm7 cd7 ct7 : Value}
    {f8 : Addr} {od8 an8 : Option Addr} {sl8 : Array (Option Value)} {oc8 kV8 dc8 pm8 cd8 ct8 : Value}
    {f9 : Addr} {od9 an9 : Option Addr} {sl9 : Array (Option Value)} {oc9 kV9 dc9 pm9 cd9 ct9 : Value}
    {f10 : Addr} {od10 an10 : Option Addr} {sl10 : Array (Option Value)} {oc10 kV10 dc10 pm10 cd10 ct10 : Value}
    {f11 : Addr} {od11 an11 : Option Addr} {sl11 : Array (Option Value)} {oc11 kV11 dc11 pm11 cd11 ct11 : Value}
    {f12 : Addr} {od12 an12 : Option Addr} {sl12 : Array (Option Value)} {oc12 kV12 dc12 pm12 cd12 ct12 : Value}
    {f13 : Addr} {od13 an13 : Option Addr} {sl13 : Array (Option Value)} {oc13 kV13 dc13 pm13 cd13 ct13 : Value}
    {f14 : Addr} {od14 an14 : Option Addr} {sl14 : Array (Option Value)} {oc14 kV14 dc14 pm14 cd14 ct14 : Value}
    {f15 : Addr} {od15 an15 : Option Addr} {sl15 : Array (Option Value)} {oc15 kV15 dc15 pm15 cd15 ct15 : Value}
    {f16 : Addr} {od16 an16 : Option Addr} {sl16 : Array (Option Value)} {oc16 kV16 dc16 pm16 cd16 ct16 : Value}
    {f17 : Addr} {od17 an17 : Option Addr} {sl17 : Array (Option Value)} {oc17 kV17 dc17 pm17 cd17 ct17 : Value}
    {f18 : Addr} {od18 an18 : Option Addr} {sl18 : Array (Option Value)} {oc18 kV18 dc18 pm18 cd18 ct18 : Value}
    {f19 : Addr} {od19 an19 : Option Addr} {sl19 : Array (Option Value)} {oc19 kV19 dc19 pm19 cd19 ct19 : Value}
    {f20 : Addr} {od20 an20 : Option Addr} {sl20 : Array (Option Value)} {oc20 kV20 dc20 pm20 cd20 ct20 : Value}
    {f21 : Addr} {od21 an21 : Option Addr} {sl21 : Array (Option Value)} {oc21 kV21 dc21 pm21 cd21 ct21 : Value}
    {f22 : Addr} {od22 an22 : Option Addr} {sl22 : Array (Option Value)} {oc22 kV22 dc22 pm22 cd22 ct22 : Value}
    {f23 : Addr} {od23 an23 : Option Addr} {sl23 : Array (Option Value)} {oc23 kV23 dc23 pm23 cd23 ct23 : Value}
    {f24 : Addr} {od24 an24 : Option Addr} {sl24 : Array (Option Value)} {oc24 kV24 dc24 pm24 cd24 ct24 : Value}
    {f25 : Addr} {od25 an25 : Option Addr} {sl25 : Array (Option Value)} {oc25 kV25 dc25 pm25 cd25 ct25 : Value}
    {u_REGISTERS : Value}
    {u_MOST_COMMANDS : Value}
    (X : K.In h) (G : h.Ns mainGlobals mg) (hfa : mg "law" = some (.ref fa))
    (aC : PySem.W.nsIn K mainGlobals "BadStep" = some (some (.ref C)))
    (xC : K.lookup C = some (excClassObj nm qn C N bs (.ref B :: bm) true sn sub ab col dd e0 e1 e2 e3 e5 "ValueError.__new__"))
    (xB : K.lookup B = some (excClassObj nm2 qn2 B N2 bs2 bm true sn2 sub2 ab2 col2 dd2 e02 e12 e22 e32 e52 "ValueError.__new__"))
    (iB : PySem.W.findIn K (.ref B) "__init__" = some (some (.builtin "ValueError.__init__")))
    (rB : refsVE (.ref B :: bm) = true)
    (sa : PySem.W.findIn K (.ref C) "__setattr__" = some (some (.builtin "object.__setattr__")))
    (ga : PySem.W.findIn K (.ref C) "__getattribute__" = some (some (.builtin "BaseException.__getattribute__")))
    (gg : PySem.W.findIn K (.ref C) "__getattr__" = some none)
    (nb : PySem.W.findIn K (.ref C) "word" = some none)
    (iC : PySem.W.findIn K (.ref C) "__init__" = some (some (.ref fI)))
    (tI : PySem.W.typeIn K (.ref fI) = some (.type "function"))
    (kC : PySem.W.keepIn K (.ref C) = true)
    (eC : PySem.W.subIn K (.ref C) (.type "BaseException") = some true)
    (vC : PySem.W.subIn K (.ref C) (.type "ValueError") = some true)
    (mC : PySem.W.mroIn K C (.ref C) = some true)
    (tC : PySem.W.typeIn K (.ref C) = some (.type "type"))
    (hC : PySem.W.hasDictIn K C = true)
    (clC : PySem.W.isClsIn K C = true)
    (sC : PySem.W.subIn K (.ref C) (.ref C) = some true)
    (op : PySem.W.nsIn K cStatics "thirdparty.any" = some none)
    (nS : PySem.W.nsIn K mainGlobals "super" = some none)
    (tS : (P.main.scope.names.lookup ("super" : Str)).isSome = false)
    (lI : K.lookup fI = some ⟨oc, od, .func (ksFn "__init__" qual (L2.defArgs Zx.sI) (L2.defBody Zx.sI) (L2.defScope Zx.sI) .none .none dc pm an (.ref cda) ct cc), osl⟩)
    (cI : PySem.W.codeIn K (.ref cda) qual = true)
    (lcc : K.lookup cc = some ⟨cl, cld, .cell (some (.ref C)), csl⟩)
    (lcd : K.lookup cda = some ⟨ccl, cdd, .fields avs, ccs⟩)
    (fv : avs[2]? = some (.str file tf))
    (fe : ((P.main.file : Str) == file) = true)
    (a0 : PySem.W.nsIn K mainGlobals "moved_command" = some (some (.ref f0)))
    (l0 : K.lookup f0 = some ⟨oc0, od0, .func (PySem.W.fnOf "moved_command" "moved_command" (defArgs s_moved_command) (defBody s_moved_command) (defScope s_moved_command) .none kV0 dc0 pm0 an0 cd0 ct0), sl0⟩)
    (c0 : PySem.W.codeIn K cd0 "moved_command" = true)
    (k0 : PySem.W.keepIn K (.ref f0) = true)
    (a1 : PySem.W.nsIn K mainGlobals "moved_code" = some (some (.ref f1)))
    (l1 : K.lookup f1 = some ⟨oc1, od1, .func (PySem.W.fnOf "moved_code" "moved_code" (defArgs s_moved_code) (defBody s_moved_code) (defScope s_moved_code) .none kV1 dc1 pm1 an1 cd1 ct1), sl1⟩)
    (c1 : PySem.W.codeIn K cd1 "moved_code" = true)
    (k1 : PySem.W.keepIn K (.ref f1) = true)
    (a2 : PySem.W.nsIn K mainGlobals "joined_code" = some (some (.ref f2)))
    (l2 : K.lookup f2 = some ⟨oc2, od2, .func (PySem.W.fnOf "joined_code" "joined_code" (defArgs s_joined_code) (defBody s_joined_code) (defScope s_joined_code) .none kV2 dc2 pm2 an2 cd2 ct2), sl2⟩)
    (c2 : PySem.W.codeIn K cd2 "joined_code" = true)
    (k2 : PySem.W.keepIn K (.ref f2) = true)
    (a3 : PySem.W.nsIn K mainGlobals "shifted_code" = some (some (.ref f3)))
    (l3 : K.lookup f3 = some ⟨oc3, od3, .func (PySem.W.fnOf "shifted_code" "shifted_code" (defArgs s_shifted_code) (defBody s_shifted_code) (defScope s_shifted_code) .none kV3 dc3 pm3 an3 cd3 ct3), sl3⟩)
    (c3 : PySem.W.codeIn K cd3 "shifted_code" = true)
    (k3 : PySem.W.keepIn K (.ref f3) = true)
    (a4 : PySem.W.nsIn K mainGlobals "renamed_ends" = some (some (.ref f4)))
    (l4 : K.lookup f4 = some ⟨oc4, od4, .func (PySem.W.fnOf "renamed_ends" "renamed_ends" (defArgs s_renamed_ends) (defBody s_renamed_ends) (defScope s_renamed_ends) .none kV4 dc4 pm4 an4 cd4 ct4), sl4⟩)
    (c4 : PySem.W.codeIn K cd4 "renamed_ends" = true)
    (k4 : PySem.W.keepIn K (.ref f4) = true)
    (a5 : PySem.W.nsIn K mainGlobals "_law_well" = some (some (.ref f5)))
    (l5 : K.lookup f5 = some ⟨oc5, od5, .func (PySem.W.fnOf "_law_well" "_law_well" (defArgs s__law_well) (defBody s__law_well) (defScope s__law_well) .none kV5 dc5 pm5 an5 cd5 ct5), sl5⟩)
    (c5 : PySem.W.codeIn K cd5 "_law_well" = true)
    (k5 : PySem.W.keepIn K (.ref f5) = true)
    (a6 : PySem.W.nsIn K mainGlobals "_law_roll" = some (some (.ref f6)))
    (l6 : K.lookup f6 = some ⟨oc6, od6, .func (PySem.W.fnOf "_law_roll" "_law_roll" (defArgs s__law_roll) (defBody s__law_roll) (defScope s__law_roll) .none kV6 dc6 pm6 an6 cd6 ct6), sl6⟩)
    (c6 : PySem.W.codeIn K cd6 "_law_roll" = true)
    (k6 : PySem.W.keepIn K (.ref f6) = true)
    (a7 : PySem.W.nsIn K mainGlobals "_law_of" = some (some (.ref f7)))
    (l7 : K.lookup f7 = some ⟨oc7, od7, .func (PySem.W.fnOf "_law_of" "_law_of" (defArgs s__law_of) (defBody s__law_of) (defScope s__law_of) .none kV7 dc7 pm7 an7 cd7 ct7), sl7⟩)
    (c7 : PySem.W.codeIn K cd7 "_law_of" = true)
    (k7 : PySem.W.keepIn K (.ref f7) = true)
    (a8 : PySem.W.nsIn K mainGlobals "_law_alike" = some (some (.ref f8)))
    (l8 : K.lookup f8 = some ⟨oc8, od8, .func (PySem.W.fnOf "_law_alike" "_law_alike" (defArgs s__law_alike) (defBody s__law_alike) (defScope s__law_alike) .none kV8 dc8 pm8 an8 cd8 ct8), sl8⟩)
    (c8 : PySem.W.codeIn K cd8 "_law_alike" = true)
    (k8 : PySem.W.keepIn K (.ref f8) = true)
    (a9 : PySem.W.nsIn K mainGlobals "_law_number" = some (some (.ref f9)))
    (l9 : K.lookup f9 = some ⟨oc9, od9, .func (PySem.W.fnOf "_law_number" "_law_number" (defArgs s__law_number) (defBody s__law_number) (defScope s__law_number) .none kV9 dc9 pm9 an9 cd9 ct9), sl9⟩)
    (c9 : PySem.W.codeIn K cd9 "_law_number" = true)
    (k9 : PySem.W.keepIn K (.ref f9) = true)
    (a10 : PySem.W.nsIn K mainGlobals "_law_line" = some (some (.ref f10)))
    (l10 : K.lookup f10 = some ⟨oc10, od10, .func (PySem.W.fnOf "_law_line" "_law_line" (defArgs s__law_line) (defBody s__law_line) (defScope s__law_line) .none kV10 dc10 pm10 an10 cd10 ct10), sl10⟩)
    (c10 : PySem.W.codeIn K cd10 "_law_line" = true)
    (k10 : PySem.W.keepIn K (.ref f10) = true)
    (a11 : PySem.W.nsIn K mainGlobals "_law_drawn" = some (some (.ref f11)))
    (l11 : K.lookup f11 = some ⟨oc11, od11, .func (PySem.W.fnOf "_law_drawn" "_law_drawn" (defArgs s__law_drawn) (defBody s__law_drawn) (defScope s__law_drawn) .none kV11 dc11 pm11 an11 cd11 ct11), sl11⟩)
    (c11 : PySem.W.codeIn K cd11 "_law_drawn" = true)
    (k11 : PySem.W.keepIn K (.ref f11) = true)
    (a12 : PySem.W.nsIn K mainGlobals "_law_done" = some (some (.ref f12)))
    (l12 : K.lookup f12 = some ⟨oc12, od12, .func (PySem.W.fnOf "_law_done" "_law_done" (defArgs s__law_done) (defBody s__law_done) (defScope s__law_done) .none kV12 dc12 pm12 an12 cd12 ct12), sl12⟩)
    (c12 : PySem.W.codeIn K cd12 "_law_done" = true)
    (k12 : PySem.W.keepIn K (.ref f12) = true)
    (a13 : PySem.W.nsIn K mainGlobals "_law_thrown" = some (some (.ref f13)))
    (l13 : K.lookup f13 = some ⟨oc13, od13, .func (PySem.W.fnOf "_law_thrown" "_law_thrown" (defArgs s__law_thrown) (defBody s__law_thrown) (defScope s__law_thrown) .none kV13 dc13 pm13 an13 cd13 ct13), sl13⟩)
    (c13 : PySem.W.codeIn K cd13 "_law_thrown" = true)
    (k13 : PySem.W.keepIn K (.ref f13) = true)
    (a14 : PySem.W.nsIn K mainGlobals "_law_run" = some (some (.ref f14)))
    (l14 : K.lookup f14 = some ⟨oc14, od14, .func (PySem.W.fnOf "_law_run" "_law_run" (defArgs s__law_run) (defBody s__law_run) (defScope s__law_run) .none kV14 dc14 pm14 an14 cd14 ct14), sl14⟩)
    (c14 : PySem.W.codeIn K cd14 "_law_run" = true)
    (k14 : PySem.W.keepIn K (.ref f14) = true)
    (a15 : PySem.W.nsIn K mainGlobals "_law_forms" = some (some (.ref f15)))
    (l15 : K.lookup f15 = some ⟨oc15, od15, .func (PySem.W.fnOf "_law_forms" "_law_forms" (defArgs s__law_forms) (defBody s__law_forms) (defScope s__law_forms) .none kV15 dc15 pm15 an15 cd15 ct15), sl15⟩)
    (c15 : PySem.W.codeIn K cd15 "_law_forms" = true)
    (k15 : PySem.W.keepIn K (.ref f15) = true)
    (a16 : PySem.W.nsIn K mainGlobals "_law_on" = some (some (.ref f16)))
    (l16 : K.lookup f16 = some ⟨oc16, od16, .func (PySem.W.fnOf "_law_on" "_law_on" (defArgs s__law_on) (defBody s__law_on) (defScope s__law_on) .none kV16 dc16 pm16 an16 cd16 ct16), sl16⟩)
    (c16 : PySem.W.codeIn K cd16 "_law_on" = true)
    (k16 : PySem.W.keepIn K (.ref f16) = true)
    (a17 : PySem.W.nsIn K mainGlobals "_law_sound" = some (some (.ref f17)))
    (l17 : K.lookup f17 = some ⟨oc17, od17, .func (PySem.W.fnOf "_law_sound" "_law_sound" (defArgs s__law_sound) (defBody s__law_sound) (defScope s__law_sound) .none kV17 dc17 pm17 an17 cd17 ct17), sl17⟩)
    (c17 : PySem.W.codeIn K cd17 "_law_sound" = true)
    (k17 : PySem.W.keepIn K (.ref f17) = true)
    (a18 : PySem.W.nsIn K mainGlobals "_law_both" = some (some (.ref f18)))
    (l18 : K.lookup f18 = some ⟨oc18, od18, .func (PySem.W.fnOf "_law_both" "_law_both" (defArgs s__law_both) (defBody s__law_both) (defScope s__law_both) .none kV18 dc18 pm18 an18 cd18 ct18), sl18⟩)
    (c18 : PySem.W.codeIn K cd18 "_law_both" = true)
    (k18 : PySem.W.keepIn K (.ref f18) = true)
    (a19 : PySem.W.nsIn K mainGlobals "_law_rows" = some (some (.ref f19)))
    (l19 : K.lookup f19 = some ⟨oc19, od19, .func (PySem.W.fnOf "_law_rows" "_law_rows" (defArgs s__law_rows) (defBody s__law_rows) (defScope s__law_rows) .none kV19 dc19 pm19 an19 cd19 ct19), sl19⟩)
    (c19 : PySem.W.codeIn K cd19 "_law_rows" = true)
    (k19 : PySem.W.keepIn K (.ref f19) = true)
    (a20 : PySem.W.nsIn K mainGlobals "_law_joined" = some (some (.ref f20)))
    (l20 : K.lookup f20 = some ⟨oc20, od20, .func (PySem.W.fnOf "_law_joined" "_law_joined" (defArgs s__law_joined) (defBody s__law_joined) (defScope s__law_joined) .none kV20 dc20 pm20 an20 cd20 ct20), sl20⟩)
    (c20 : PySem.W.codeIn K cd20 "_law_joined" = true)
    (k20 : PySem.W.keepIn K (.ref f20) = true)
    (a21 : PySem.W.nsIn K mainGlobals "_law_shifted" = some (some (.ref f21)))
    (l21 : K.lookup f21 = some ⟨oc21, od21, .func (PySem.W.fnOf "_law_shifted" "_law_shifted" (defArgs s__law_shifted) (defBody s__law_shifted) (defScope s__law_shifted) .none kV21 dc21 pm21 an21 cd21 ct21), sl21⟩)
    (c21 : PySem.W.codeIn K cd21 "_law_shifted" = true)
    (k21 : PySem.W.keepIn K (.ref f21) = true)
    (a22 : PySem.W.nsIn K mainGlobals "_law_named" = some (some (.ref f22)))
    (l22 : K.lookup f22 = some ⟨oc22, od22, .func (PySem.W.fnOf "_law_named" "_law_named" (defArgs s__law_named) (defBody s__law_named) (defScope s__law_named) .none kV22 dc22 pm22 an22 cd22 ct22), sl22⟩)
    (c22 : PySem.W.codeIn K cd22 "_law_named" = true)
    (k22 : PySem.W.keepIn K (.ref f22) = true)
    (a23 : PySem.W.nsIn K mainGlobals "_law_refused" = some (some (.ref f23)))
    (l23 : K.lookup f23 = some ⟨oc23, od23, .func (PySem.W.fnOf "_law_refused" "_law_refused" (defArgs s__law_refused) (defBody s__law_refused) (defScope s__law_refused) .none kV23 dc23 pm23 an23 cd23 ct23), sl23⟩)
    (c23 : PySem.W.codeIn K cd23 "_law_refused" = true)
    (k23 : PySem.W.keepIn K (.ref f23) = true)
    (a24 : PySem.W.nsIn K mainGlobals "_law_long" = some (some (.ref f24)))
    (l24 : K.lookup f24 = some ⟨oc24, od24, .func (PySem.W.fnOf "_law_long" "_law_long" (defArgs s__law_long) (defBody s__law_long) (defScope s__law_long) .none kV24 dc24 pm24 an24 cd24 ct24), sl24⟩)
    (c24 : PySem.W.codeIn K cd24 "_law_long" = true)
    (k24 : PySem.W.keepIn K (.ref f24) = true)
    (a25 : PySem.W.nsIn K mainGlobals "law" = some (some (.ref f25)))
    (l25 : K.lookup f25 = some ⟨oc25, od25, .func (PySem.W.fnOf "law" "law" (defArgs s_law) (defBody s_law) (defScope s_law) .none kV25 dc25 pm25 an25 cd25 ct25), sl25⟩)
    (c25 : PySem.W.codeIn K cd25 "law" = true)
    (k25 : PySem.W.keepIn K (.ref f25) = true)
    (z_abs : PySem.W.nsIn K mainGlobals "abs" = some none)
    (z_bool : PySem.W.nsIn K mainGlobals "bool" = some none)
    (z_int : PySem.W.nsIn K mainGlobals "int" = some none)
    (z_isinstance : PySem.W.nsIn K mainGlobals "isinstance" = some none)
    (z_len : PySem.W.nsIn K mainGlobals "len" = some none)
    (z_list : PySem.W.nsIn K mainGlobals "list" = some none)
    (z_min : PySem.W.nsIn K mainGlobals "min" = some none)
    (z_range : PySem.W.nsIn K mainGlobals "range" = some none)
    (z_str : PySem.W.nsIn K mainGlobals "str" = some none)
    (z_sum : PySem.W.nsIn K mainGlobals "sum" = some none)
    (z_tuple : PySem.W.nsIn K mainGlobals "tuple" = some none)
    (z_REGISTERS : PySem.W.nsIn K mainGlobals "REGISTERS" = some (some u_REGISTERS))
    (y_REGISTERS : RelV (.int 10) u_REGISTERS)
    (z_MOST_COMMANDS : PySem.W.nsIn K mainGlobals "MOST_COMMANDS" = some (some u_MOST_COMMANDS))
    (y_MOST_COMMANDS : RelV (.int 4000) u_MOST_COMMANDS) :
    ∃ fd : FuncData, (∀ (s : Shared) (v : Value), BindsTo s fd ⟨[v], []⟩ [("script", v)]) ∧ ∀ base : Heap, K.In base → base.Ns mainGlobals mg → FnOk P w K mg base CX0 6 fa fd ["script"] (spLaw K) := by
  have e := hfa.symm.trans (PySem.W.mg_of X G a25)
  cases e
  have along : PySem.W.alongIn K "__init__" (.ref B :: bm) = some (some (.builtin "ValueError.__init__")) := by
    have q := iB
    unfold PySem.W.findIn at q
    simp only [xB, excClassObj] at q
    exact q
  have T : Zx.SupTxt P K mg C fI := ⟨⟨nm, qn, N, bs, .ref B :: bm, sn, sub, ab, col, dd, e0, e1, e2, e3, e5, xC, rB, along⟩, sa, ga, gg, nb, iC, tI, kC, eC, vC, mC, tC, hC, exm_of eC clC tC sC, op, PySem.W.mg_none_of X G nS, tS, rfl,
    ⟨oc, od, dc, pm, an, ct, osl, qual, cda, cc, lI, cI, ⟨cl, cld, csl, lcc⟩, ccl, cdd, avs, ccs, file, tf, lcd, fv, fe⟩⟩
  have gC := PySem.W.mg_of X G aC
  have B : Bu mg := ⟨PySem.W.mg_none_of X G z_abs, PySem.W.mg_none_of X G z_bool, PySem.W.mg_none_of X G z_int, PySem.W.mg_none_of X G z_isinstance, PySem.W.mg_none_of X G z_len, PySem.W.mg_none_of X G z_list, PySem.W.mg_none_of X G z_min, PySem.W.mg_none_of X G z_range, PySem.W.mg_none_of X G z_str, PySem.W.mg_none_of X G z_sum, PySem.W.mg_none_of X G z_tuple, ⟨_, PySem.W.mg_of X G z_REGISTERS, y_REGISTERS⟩, ⟨_, PySem.W.mg_of X G z_MOST_COMMANDS, y_MOST_COMMANDS⟩⟩
  have F0 := fun_mk (st := s_moved_command) l0 c0 k0
  have b0 := F0.binds (ps := ["command", "many"]) fun _ _ _ _ _ _ us hl => match us, hl with | [_, _], _ => rfl
  have F1 := fun_mk (st := s_moved_code) l1 c1 k1
  have b1 := F1.binds (ps := ["code", "many"]) fun _ _ _ _ _ _ us hl => match us, hl with | [_, _], _ => rfl
  have F2 := fun_mk (st := s_joined_code) l2 c2 k2
  have b2 := F2.binds (ps := ["code", "codes"]) fun _ _ _ _ _ _ us hl => match us, hl with | [_, _], _ => rfl
  have F3 := fun_mk (st := s_shifted_code) l3 c3 k3
  have b3 := F3.binds (ps := ["code", "many"]) fun _ _ _ _ _ _ us hl => match us, hl with | [_, _], _ => rfl
  have F4 := fun_mk (st := s_renamed_ends) l4 c4 k4
  have b4 := F4.binds (ps := ["code", "places"]) fun _ _ _ _ _ _ us hl => match us, hl with | [_, _], _ => rfl
  have F5 := fun_mk (st := s__law_well) l5 c5 k5
  have b5 := F5.binds (ps := ["script"]) fun _ _ _ _ _ _ us hl => match us, hl with | [_], _ => rfl
  have F6 := fun_mk (st := s__law_roll) l6 c6 k6
  have b6 := F6.binds (ps := ["well", "many"]) fun _ _ _ _ _ _ us hl => match us, hl with | [_, _], _ => rfl
  have F7 := fun_mk (st := s__law_of) l7 c7 k7
  have b7 := F7.binds (ps := ["well", "things"]) fun _ _ _ _ _ _ us hl => match us, hl with | [_, _], _ => rfl
  have F8 := fun_mk (st := s__law_alike) l8 c8 k8
  have b8 := F8.binds (ps := ["told", "due"]) fun _ _ _ _ _ _ us hl => match us, hl with | [_, _], _ => rfl
  have F9 := fun_mk (st := s__law_number) l9 c9 k9
  have b9 := F9.binds (ps := ["well"]) fun _ _ _ _ _ _ us hl => match us, hl with | [_], _ => rfl
  have F10 := fun_mk (st := s__law_line) l10 c10 k10
  have b10 := F10.binds (ps := ["well", "at", "size", "throws"]) fun _ _ _ _ _ _ us hl => match us, hl with | [_, _, _, _], _ => rfl
  have F11 := fun_mk (st := s__law_drawn) l11 c11 k11
  have b11 := F11.binds (ps := ["well", "outcomes"]) fun _ _ _ _ _ _ us hl => match us, hl with | [_, _], _ => rfl
  have F12 := fun_mk (st := s__law_done) l12 c12 k12
  have b12 := F12.binds (ps := ["code", "at", "registers"]) fun _ _ _ _ _ _ us hl => match us, hl with | [_, _, _], _ => rfl
  have F13 := fun_mk (st := s__law_thrown) l13 c13 k13
  have b13 := F13.binds (ps := ["code", "state", "face"]) fun _ _ _ _ _ _ us hl => match us, hl with | [_, _, _], _ => rfl
  have F14 := fun_mk (st := s__law_run) l14 c14 k14
  have b14 := F14.binds (ps := ["code", "faces"]) fun _ _ _ _ _ _ us hl => match us, hl with | [_, _], _ => rfl
  have F15 := fun_mk (st := s__law_forms) l15 c15 k15
  have b15 := F15.binds (ps := ["line", "size"]) fun _ _ _ _ _ _ us hl => match us, hl with | [_, _], _ => rfl
  have F16 := fun_mk (st := s__law_on) l16 c16 k16
  have b16 := F16.binds (ps := ["code", "at"]) fun _ _ _ _ _ _ us hl => match us, hl with | [_, _], _ => rfl
  have F17 := fun_mk (st := s__law_sound) l17 c17 k17
  have b17 := F17.binds (ps := ["code"]) fun _ _ _ _ _ _ us hl => match us, hl with | [_], _ => rfl
  have F18 := fun_mk (st := s__law_both) l18 c18 k18
  have b18 := F18.binds (ps := ["code", "codes", "faces"]) fun _ _ _ _ _ _ us hl => match us, hl with | [_, _, _], _ => rfl
  have F19 := fun_mk (st := s__law_rows) l19 c19 k19
  have b19 := F19.binds (ps := ["faces", "throws"]) fun _ _ _ _ _ _ us hl => match us, hl with | [_, _], _ => rfl
  have F20 := fun_mk (st := s__law_joined) l20 c20 k20
  have b20 := F20.binds (ps := ["well", "code", "codes", "faces"]) fun _ _ _ _ _ _ us hl => match us, hl with | [_, _, _, _], _ => rfl
  have F21 := fun_mk (st := s__law_shifted) l21 c21 k21
  have b21 := F21.binds (ps := ["code", "many"]) fun _ _ _ _ _ _ us hl => match us, hl with | [_, _], _ => rfl
  have F22 := fun_mk (st := s__law_named) l22 c22 k22
  have b22 := F22.binds (ps := ["code", "places"]) fun _ _ _ _ _ _ us hl => match us, hl with | [_, _], _ => rfl
  have F23 := fun_mk (st := s__law_refused) l23 c23 k23
  have b23 := F23.binds (ps := ["word", "told"]) fun _ _ _ _ _ _ us hl => match us, hl with | [_, _], _ => rfl
  have F24 := fun_mk (st := s__law_long) l24 c24 k24
  have b24 := F24.binds (ps := ["well"]) fun _ _ _ _ _ _ us hl => match us, hl with | [_], _ => rfl
  have F25 := fun_mk (st := s_law) l25 c25 k25
  have b25 := F25.binds (ps := ["script"]) fun _ _ _ _ _ _ us hl => match us, hl with | [_], _ => rfl
  refine ⟨PySem.W.fnOf "law" "law" (defArgs s_law) (defBody s_law) (defScope s_law) .none kV25 dc25 pm25 an25 cd25 ct25, fun s v => .of_eq rfl, fun base _ _ => ?_⟩
  have o0 := ok_moved_command (P := P) (w := w) (base := base) F0 B 
  have hx_moved_command : Has CX0 P w K mg base "moved_command" 1 ["command", "many"] (spD K 2 (runB 2 (den_moved_command))) := ⟨⟨f0, _, PySem.W.mg_of X G a0, k0, b0, o0⟩⟩
  have h_moved_command : Has CX0 P w K mg base "moved_command" 1 ["command", "many"] (spD K 2 m_moved_command) := Has.toFo (ks := [.P, .P]) (rl := false) hx_moved_command
  have o1 := ok_moved_code (P := P) (w := w) (base := base) F1 B h_moved_command
  have hx_moved_code : Has CX0 P w K mg base "moved_code" 2 ["code", "many"] (spD K 2 (runB 3 (den_moved_code))) := ⟨⟨f1, _, PySem.W.mg_of X G a1, k1, b1, o1⟩⟩
  have h_moved_code : Has CX0 P w K mg base "moved_code" 2 ["code", "many"] (spD K 2 m_moved_code) := Has.toFo (ks := [.P, .P]) (rl := false) hx_moved_code
  have o2 := ok_joined_code (P := P) (w := w) (base := base) F2 B T gC h_moved_code
  have hx_joined_code : Has (L2.CX P w) P w K mg base "joined_code" 3 ["code", "codes"] (spD K 2 (runX 10 (den_joined_code C))) := ⟨⟨f2, _, PySem.W.mg_of X G a2, k2, b2, o2⟩⟩
  have hk_joined_code : HasK (L2.CX P w) P w K mg base "joined_code" 3 ["code", "codes"] ["codes", "code"] perm_joined_code (spD K 2 (runX 10 (den_joined_code C))) := ⟨⟨f2, _, pv_joined_code, pv_joined_code, PySem.W.mg_of X G a2, k2, ⟨fun s us ws _ hl => match us, ws, hl with | [], [_, _], _ => .of_eq rfl, fun r z => pl_joined_code r z⟩, pr_joined_code, o2⟩⟩
  have h_joined_code : Has (L2.CX P w) P w K mg base "joined_code" 3 ["code", "codes"] (spD K 2 (m_joined_code C)) := Has.toFo (ks := [.P, .P]) (rl := false) hx_joined_code
  have o3 := ok_shifted_code (P := P) (w := w) (base := base) F3 B T gC h_moved_code
  have hx_shifted_code : Has (L2.CX P w) P w K mg base "shifted_code" 3 ["code", "many"] (spD K 2 (runX 2 (den_shifted_code C))) := ⟨⟨f3, _, PySem.W.mg_of X G a3, k3, b3, o3⟩⟩
  have h_shifted_code : Has (L2.CX P w) P w K mg base "shifted_code" 3 ["code", "many"] (spD K 2 (m_shifted_code C)) := Has.toFo (ks := [.P, .P]) (rl := false) hx_shifted_code
  have o4 := ok_renamed_ends (P := P) (w := w) (base := base) F4 B 
  have hx_renamed_ends : Has CX0 P w K mg base "renamed_ends" 1 ["code", "places"] (spD K 2 (runB 3 (den_renamed_ends))) := ⟨⟨f4, _, PySem.W.mg_of X G a4, k4, b4, o4⟩⟩
  have h_renamed_ends : Has CX0 P w K mg base "renamed_ends" 1 ["code", "places"] (spD K 2 m_renamed_ends) := Has.toFo (ks := [.P, .P]) (rl := false) hx_renamed_ends
  have o5 := ok__law_well (P := P) (w := w) (base := base) F5 B 
  have hx__law_well : Has CX0 P w K mg base "_law_well" 1 ["script"] (spD K 1 (runB 5 (den__law_well))) := ⟨⟨f5, _, PySem.W.mg_of X G a5, k5, b5, o5⟩⟩
  have h__law_well := hx__law_well
  have o6 := ok__law_roll (P := P) (w := w) (base := base) F6 B 
  have hx__law_roll : Has CX0 P w K mg base "_law_roll" 1 ["well", "many"] (spD K 2 (runB 3 (den__law_roll))) := ⟨⟨f6, _, PySem.W.mg_of X G a6, k6, b6, o6⟩⟩
  have h__law_roll : Has CX0 P w K mg base "_law_roll" 1 ["well", "many"] (spD K 2 m__law_roll) := Has.toJo (ks := [.P]) (rl := false) hx__law_roll
  have o7 := ok__law_of (P := P) (w := w) (base := base) F7 B h__law_roll
  have hx__law_of : Has CX0 P w K mg base "_law_of" 2 ["well", "things"] (spD K 2 (runB 2 (den__law_of))) := ⟨⟨f7, _, PySem.W.mg_of X G a7, k7, b7, o7⟩⟩
  have h__law_of : Has CX0 P w K mg base "_law_of" 2 ["well", "things"] (spD K 2 m__law_of) := Has.toJo (ks := [.L]) (rl := false) hx__law_of
  have o8 := ok__law_alike (P := P) (w := w) (base := base) F8 B 
  have hx__law_alike : Has CX0 P w K mg base "_law_alike" 1 ["told", "due"] (spD K 2 (runB 6 (den__law_alike))) := ⟨⟨f8, _, PySem.W.mg_of X G a8, k8, b8, o8⟩⟩
  have h__law_alike : Has CX0 P w K mg base "_law_alike" 1 ["told", "due"] (spD K 2 m__law_alike) := Has.toFo (ks := [.P, .P]) (rl := false) hx__law_alike
  have o9 := ok__law_number (P := P) (w := w) (base := base) F9 B h__law_roll
  have hx__law_number : Has CX0 P w K mg base "_law_number" 2 ["well"] (spD K 1 (runB 1 (den__law_number))) := ⟨⟨f9, _, PySem.W.mg_of X G a9, k9, b9, o9⟩⟩
  have h__law_number : Has CX0 P w K mg base "_law_number" 2 ["well"] (spD K 1 m__law_number) := Has.toJo (ks := []) (rl := false) hx__law_number
  have o10 := ok__law_line (P := P) (w := w) (base := base) F10 B h__law_roll h__law_number
  have hx__law_line : Has CX0 P w K mg base "_law_line" 3 ["well", "at", "size", "throws"] (spD K 4 (runB 9 (den__law_line))) := ⟨⟨f10, _, PySem.W.mg_of X G a10, k10, b10, o10⟩⟩
  have h__law_line : Has CX0 P w K mg base "_law_line" 3 ["well", "at", "size", "throws"] (spD K 4 m__law_line) := Has.toJo (ks := [.P, .P, .L]) (rl := false) hx__law_line
  have o11 := ok__law_drawn (P := P) (w := w) (base := base) F11 B h__law_roll h__law_line h__law_of
  have hx__law_drawn : Has CX0 P w K mg base "_law_drawn" 4 ["well", "outcomes"] (spD K 2 (runB 7 (den__law_drawn))) := ⟨⟨f11, _, PySem.W.mg_of X G a11, k11, b11, o11⟩⟩
  have h__law_drawn : Has CX0 P w K mg base "_law_drawn" 4 ["well", "outcomes"] (spD K 2 m__law_drawn) := Has.toJo (ks := [.P]) (rl := false) hx__law_drawn
  have o12 := ok__law_done (P := P) (w := w) (base := base) F12 B 
  have hx__law_done : Has CX0 P w K mg base "_law_done" 1 ["code", "at", "registers"] (spD K 3 (runB 5 (den__law_done))) := ⟨⟨f12, _, PySem.W.mg_of X G a12, k12, b12, o12⟩⟩
  have h__law_done : Has CX0 P w K mg base "_law_done" 1 ["code", "at", "registers"] (spD K 3 m__law_done) := Has.toFo (ks := [.P, .P, .P]) (rl := false) hx__law_done
  have h__law_doneL : Has CX0 P w K mg base "_law_done" 1 ["code", "at", "registers"] (spD K 3 m__law_doneL) := Has.toFo (ks := [.P, .P, .L]) (rl := false) hx__law_done
  have o13 := ok__law_thrown (P := P) (w := w) (base := base) F13 B h__law_doneL
  have hx__law_thrown : Has CX0 P w K mg base "_law_thrown" 2 ["code", "state", "face"] (spD K 3 (runB 4 (den__law_thrown))) := ⟨⟨f13, _, PySem.W.mg_of X G a13, k13, b13, o13⟩⟩
  have h__law_thrown : Has CX0 P w K mg base "_law_thrown" 2 ["code", "state", "face"] (spD K 3 m__law_thrown) := Has.toFo (ks := [.P, .P, .P]) (rl := false) hx__law_thrown
  have o14 := ok__law_run (P := P) (w := w) (base := base) F14 B h__law_done h__law_thrown
  have hx__law_run : Has CX0 P w K mg base "_law_run" 3 ["code", "faces"] (spD K 2 (runB 4 (den__law_run))) := ⟨⟨f14, _, PySem.W.mg_of X G a14, k14, b14, o14⟩⟩
  have h__law_run : Has CX0 P w K mg base "_law_run" 3 ["code", "faces"] (spD K 2 m__law_run) := Has.toFo (ks := [.P, .P]) (rl := false) hx__law_run
  have o15 := ok__law_forms (P := P) (w := w) (base := base) F15 B 
  have hx__law_forms : Has CX0 P w K mg base "_law_forms" 1 ["line", "size"] (spD K 2 (runB 7 (den__law_forms))) := ⟨⟨f15, _, PySem.W.mg_of X G a15, k15, b15, o15⟩⟩
  have h__law_forms : Has CX0 P w K mg base "_law_forms" 1 ["line", "size"] (spD K 2 m__law_forms) := Has.toFo (ks := [.P, .P]) (rl := false) hx__law_forms
  have o16 := ok__law_on (P := P) (w := w) (base := base) F16 B 
  have hx__law_on : Has CX0 P w K mg base "_law_on" 1 ["code", "at"] (spD K 2 (runB 3 (den__law_on))) := ⟨⟨f16, _, PySem.W.mg_of X G a16, k16, b16, o16⟩⟩
  have h__law_on : Has CX0 P w K mg base "_law_on" 1 ["code", "at"] (spD K 2 m__law_on) := Has.toFo (ks := [.P, .P]) (rl := true) hx__law_on
  have o17 := ok__law_sound (P := P) (w := w) (base := base) F17 B h__law_forms h__law_on
  have hx__law_sound : Has CX0 P w K mg base "_law_sound" 2 ["code"] (spD K 1 (runB 8 (den__law_sound))) := ⟨⟨f17, _, PySem.W.mg_of X G a17, k17, b17, o17⟩⟩
  have h__law_sound : Has CX0 P w K mg base "_law_sound" 2 ["code"] (spD K 1 m__law_sound) := Has.toFo (ks := [.P]) (rl := false) hx__law_sound
  have o18 := ok__law_both (P := P) (w := w) (base := base) F18 B h__law_run
  have hx__law_both : Has CX0 P w K mg base "_law_both" 4 ["code", "codes", "faces"] (spD K 3 (runB 5 (den__law_both))) := ⟨⟨f18, _, PySem.W.mg_of X G a18, k18, b18, o18⟩⟩
  have h__law_both : Has CX0 P w K mg base "_law_both" 4 ["code", "codes", "faces"] (spD K 3 m__law_both) := Has.toFo (ks := [.P, .P, .P]) (rl := false) hx__law_both
  have o19 := ok__law_rows (P := P) (w := w) (base := base) F19 B 
  have hx__law_rows : Has CX0 P w K mg base "_law_rows" 1 ["faces", "throws"] (spD K 2 (runB 8 (den__law_rows))) := ⟨⟨f19, _, PySem.W.mg_of X G a19, k19, b19, o19⟩⟩
  have h__law_rows : Has CX0 P w K mg base "_law_rows" 1 ["faces", "throws"] (spD K 2 m__law_rows) := Has.toFo (ks := [.P, .P]) (rl := true) hx__law_rows
  have o20 := ok__law_joined (P := P) (w := w) (base := base) F20 B T gC h_joined_code h__law_sound h__law_rows h__law_roll h__law_run h__law_both
  have hx__law_joined : Has CX0 P w K mg base "_law_joined" 5 ["well", "code", "codes", "faces"] (spD K 4 (runB 9 (den__law_joined C))) := ⟨⟨f20, _, PySem.W.mg_of X G a20, k20, b20, o20⟩⟩
  have h__law_joined : Has CX0 P w K mg base "_law_joined" 5 ["well", "code", "codes", "faces"] (spD K 4 (m__law_joined C)) := Has.toJo (ks := [.P, .P, .P]) (rl := false) hx__law_joined
  have o21 := ok__law_shifted (P := P) (w := w) (base := base) F21 B 
  have hx__law_shifted : Has CX0 P w K mg base "_law_shifted" 1 ["code", "many"] (spD K 2 (runB 4 (den__law_shifted))) := ⟨⟨f21, _, PySem.W.mg_of X G a21, k21, b21, o21⟩⟩
  have h__law_shifted : Has CX0 P w K mg base "_law_shifted" 1 ["code", "many"] (spD K 2 m__law_shifted) := Has.toFo (ks := [.P, .P]) (rl := false) hx__law_shifted
  have o22 := ok__law_named (P := P) (w := w) (base := base) F22 B 
  have hx__law_named : Has CX0 P w K mg base "_law_named" 1 ["code", "places"] (spD K 2 (runB 3 (den__law_named))) := ⟨⟨f22, _, PySem.W.mg_of X G a22, k22, b22, o22⟩⟩
  have h__law_named : Has CX0 P w K mg base "_law_named" 1 ["code", "places"] (spD K 2 m__law_named) := Has.toFo (ks := [.P, .P]) (rl := false) hx__law_named
  have o23 := ok__law_refused (P := P) (w := w) (base := base) F23 B T gC hk_joined_code hx_shifted_code
  have hx__law_refused : Has CX0 P w K mg base "_law_refused" 4 ["word", "told"] (spD K 2 (runB 3 (den__law_refused C))) := ⟨⟨f23, _, PySem.W.mg_of X G a23, k23, b23, o23⟩⟩
  have h__law_refused : Has CX0 P w K mg base "_law_refused" 4 ["word", "told"] (spD K 2 (m__law_refused C)) := Has.toFo (ks := [.P, .P]) (rl := false) hx__law_refused
  have o24 := ok__law_long (P := P) (w := w) (base := base) F24 B T gC h__law_roll h__law_refused h__law_shifted h_shifted_code h__law_alike
  have hx__law_long : Has CX0 P w K mg base "_law_long" 5 ["well"] (spD K 1 (runB 5 (den__law_long C))) := ⟨⟨f24, _, PySem.W.mg_of X G a24, k24, b24, o24⟩⟩
  have h__law_long : Has CX0 P w K mg base "_law_long" 5 ["well"] (spD K 1 (m__law_long C)) := Has.toJo (ks := []) (rl := false) hx__law_long
  have o25 := ok_law (P := P) (w := w) (base := base) F25 B T gC h__law_well h__law_roll h__law_of h__law_drawn h__law_joined h_joined_code h__law_sound h__law_shifted h_shifted_code h__law_alike h__law_named h_renamed_ends h__law_long
  refine o25.imp fun vs H Q E ⟨a, ns, e1, hS, hl, q⟩ => ?_
  subst e1
  obtain ⟨L, eL⟩ := run_law C ns hl
  refine ⟨[], [], [.ro ns], Own.nil, Rws.one (by simp only [Rw]; exact ⟨a, rfl, hS⟩), rfl, ?_⟩
  rw [eL]
  intro ρ' H' v st ow r
  obtain rfl : v = .bl true := by simpa [Rw] using r
  exact q H'
theorem sqs_of {K : PySem.W.Frag} {H : Hp} {a : Addr} {xs : List V} (hO : Only H) (h : SqL K H a xs) : SqS K [] H a xs := by
  rcases h with h | h
  · rcases h with h | ⟨ob, h⟩
    · rcases hO a with z | ⟨o, ys, z⟩
      · rw [h] at z; cases z
      · rw [h] at z; cases z
    · exact .inl ⟨ob, h⟩
  · exact .inr h
theorem walk {l : PySem.W.OpenLaw} {q : Program} {loose : List Str} {XP : (Str → Option Value) → Heap → Prop} {YP : World → Heap → Prop} {d : DefRec} {K : Params → PySem.W.Frag} (hn : l.most = some 63) (hdf : d.params.defaults = [])
    (hY : ∀ (w : World) (h : Heap), YP w h → (K w.params).In h)
    (F : ∀ (w : World) (mg : Str → Option Value) (fa : Addr) (h : Heap), (K w.params).In h → h.Ns mainGlobals mg → mg d.name = some (.ref fa) →
      ∃ fd : FuncData, (∀ (s : Shared) (u : Value), BindsTo s fd ⟨[u], []⟩ [("script", u)]) ∧ ∀ base : Heap, (K w.params).In base → base.Ns mainGlobals mg → FnOk l.prog w (K w.params) mg base CX0 6 fa fd ["script"] (spLaw (K w.params))) :
    PySem.W.WalkO q loose XP YP l.row.toRowW d [] (fun f vs => PySem.call f vs) :=
  L2.walk_of (n := 63) (k := 6) (x := "script") (CX := fun _ => CX0) (sp := fun w => spLaw (K w.params)) hn (by decide) hdf ⟨rfl, by decide, by decide⟩ hY F (fun _ _ a ns hl hO hS => ⟨a, ns, rfl, sqs_of hO hS, hl, fun _ => rfl⟩) fun _ _ _ _ _ z => z
end Q88

set_option Elab.async false
set_option linter.all false
open PySem PySem.W PyProof.Rows
set_option maxRecDepth 100000 in
set_option maxHeartbeats 0 in
theorem PySem.Challenge.cw_throwntrue_k88_whole_joined_code_holds : PySem.Challenge.rw_throwntrue_k88_whole_joined_code.Holds := by
  w_on; o_law; k_head; (case hw => w_witness2)
  k_fill
  refine Q88.walk (l := PySem.Challenge.rw_throwntrue_k88_whole_joined_code) rfl rfl (fun w h Y => PySem.W.kIn_of Y) ?F
  case F =>
    intro w mg fa h KX G hmg
    refine' Q88.all_mk KX G hmg ?aC ?xC ?xB ?iB ?rB ?sa ?ga ?gg ?nb ?iC ?tI ?kC ?eC ?vC ?mC ?tC ?hC ?clC ?sC ?op ?nS ?tS ?lI ?cI ?lcc ?lcd ?fv ?fe ?a0 ?l0 ?c0 ?k0 ?a1 ?l1 ?c1 ?k1 ?a2 ?l2 ?c2 ?k2 ?a3 ?l3 ?c3 ?k3 ?a4 ?l4 ?c4 ?k4 ?a5 ?l5 ?c5 ?k5 ?a6 ?l6 ?c6 ?k6 ?a7 ?l7 ?c7 ?k7 ?a8 ?l8 ?c8 ?k8 ?a9 ?l9 ?c9 ?k9 ?a10 ?l10 ?c10 ?k10 ?a11 ?l11 ?c11 ?k11 ?a12 ?l12 ?c12 ?k12 ?a13 ?l13 ?c13 ?k13 ?a14 ?l14 ?c14 ?k14 ?a15 ?l15 ?c15 ?k15 ?a16 ?l16 ?c16 ?k16 ?a17 ?l17 ?c17 ?k17 ?a18 ?l18 ?c18 ?k18 ?a19 ?l19 ?c19 ?k19 ?a20 ?l20 ?c20 ?k20 ?a21 ?l21 ?c21 ?k21 ?a22 ?l22 ?c22 ?k22 ?a23 ?l23 ?c23 ?k23 ?a24 ?l24 ?c24 ?k24 ?a25 ?l25 ?c25 ?k25 ?z_abs ?z_bool ?z_int ?z_isinstance ?z_len ?z_list ?z_min ?z_range ?z_str ?z_sum ?z_tuple ?z_REGISTERS ?y_REGISTERS ?z_MOST_COMMANDS ?y_MOST_COMMANDS
    (case aC => k_is)
    (case xC => k_is)
    (case xB => k_is)
    (case iB => k_is)
    (case rB => decide +kernel)
    (case sa => k_is)
    (case ga => k_is)
    (case gg => k_is)
    (case nb => k_is)
    (case iC => k_is)
    (case tI => k_is)
    (case kC => k_is)
    (case eC => k_is)
    (case vC => k_is)
    (case mC => k_is)
    (case tC => k_is)
    (case hC => k_is)
    (case clC => k_is)
    (case sC => first | rfl | k_is)
    (case op => k_is)
    (case nS => k_is)
    (case tS => first | rfl | decide +kernel)
    (case lI => k_is)
    (case cI => k_is)
    (case lcc => k_is)
    (case lcd => k_is)
    (case fv => first | rfl | with_unfolding_all rfl)
    (case fe => first | rfl | decide +kernel)
    (case a0 => k_is)
    (case l0 => k_is)
    (case c0 => k_is)
    (case k0 => k_is)
    (case a1 => k_is)
    (case l1 => k_is)
    (case c1 => k_is)
    (case k1 => k_is)
    (case a2 => k_is)
    (case l2 => k_is)
    (case c2 => k_is)
    (case k2 => k_is)
    (case a3 => k_is)
    (case l3 => k_is)
    (case c3 => k_is)
    (case k3 => k_is)
    (case a4 => k_is)
    (case l4 => k_is)
    (case c4 => k_is)
    (case k4 => k_is)
    (case a5 => k_is)
    (case l5 => k_is)
    (case c5 => k_is)
    (case k5 => k_is)
    (case a6 => k_is)
    (case l6 => k_is)
    (case c6 => k_is)
    (case k6 => k_is)
    (case a7 => k_is)
    (case l7 => k_is)
    (case c7 => k_is)
    (case k7 => k_is)
    (case a8 => k_is)
    (case l8 => k_is)
    (case c8 => k_is)
    (case k8 => k_is)
    (case a9 => k_is)
    (case l9 => k_is)
    (case c9 => k_is)
    (case k9 => k_is)
    (case a10 => k_is)
    (case l10 => k_is)
    (case c10 => k_is)
    (case k10 => k_is)
    (case a11 => k_is)
    (case l11 => k_is)
    (case c11 => k_is)
    (case k11 => k_is)
    (case a12 => k_is)
    (case l12 => k_is)
    (case c12 => k_is)
    (case k12 => k_is)
    (case a13 => k_is)
    (case l13 => k_is)
    (case c13 => k_is)
    (case k13 => k_is)
    (case a14 => k_is)
    (case l14 => k_is)
    (case c14 => k_is)
    (case k14 => k_is)
    (case a15 => k_is)
    (case l15 => k_is)
    (case c15 => k_is)
    (case k15 => k_is)
    (case a16 => k_is)
    (case l16 => k_is)
    (case c16 => k_is)
    (case k16 => k_is)
    (case a17 => k_is)
    (case l17 => k_is)
    (case c17 => k_is)
    (case k17 => k_is)
    (case a18 => k_is)
    (case l18 => k_is)
    (case c18 => k_is)
    (case k18 => k_is)
    (case a19 => k_is)
    (case l19 => k_is)
    (case c19 => k_is)
    (case k19 => k_is)
    (case a20 => k_is)
    (case l20 => k_is)
    (case c20 => k_is)
    (case k20 => k_is)
    (case a21 => k_is)
    (case l21 => k_is)
    (case c21 => k_is)
    (case k21 => k_is)
    (case a22 => k_is)
    (case l22 => k_is)
    (case c22 => k_is)
    (case k22 => k_is)
    (case a23 => k_is)
    (case l23 => k_is)
    (case c23 => k_is)
    (case k23 => k_is)
    (case a24 => k_is)
    (case l24 => k_is)
    (case c24 => k_is)
    (case k24 => k_is)
    (case a25 => k_is)
    (case l25 => k_is)
    (case c25 => k_is)
    (case k25 => k_is)
    (case z_abs => k_is)
    (case z_bool => k_is)
    (case z_int => k_is)
    (case z_isinstance => k_is)
    (case z_len => k_is)
    (case z_list => k_is)
    (case z_min => k_is)
    (case z_range => k_is)
    (case z_str => k_is)
    (case z_sum => k_is)
    (case z_tuple => k_is)
    (case z_REGISTERS => k_is)
    (case y_REGISTERS => first | rfl | exact ⟨_, rfl⟩ | decide)
    (case z_MOST_COMMANDS => k_is)
    (case y_MOST_COMMANDS => first | rfl | exact ⟨_, rfl⟩ | decide)

