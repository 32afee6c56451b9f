import PyProof.Rows.All
import Wide.All
import OpenK.AllK
import Wide.FinOn
import HandS.ForMost
import HandS.TupAny
import HandS.WideBits
import HandS.Wide
import HandS.IsInst
import HandS.Flow
import HandS.Style
import HandS.WordsExc
import HandS.TupMul
import HandS.ForSpec
import HandS.Exc
import HandS.ExcOwn
import OpenK.KMore
import KE.GoesMore
import KE.GoesEnum
import HandS.Iter
import HandS.Zip
import KE.KTupSum
import HandS.Conv
import HandS.SetKeys
import HandS.Gcd
import HandS.DictSubView
import PySem.Challenge.RW_throwntrue_k81_whole_bits
set_option Elab.async false
set_option linter.all false
set_option maxRecDepth 100000
namespace Zb
open PySem L2

inductive D where
  | non | bl (b : Bool) | int (i : Int) | str (s : Str) | ty (n : String) | adr (n : Nat) | tup (ds : List D) | ro (ns : List Int)
  deriving Inhabited
inductive OB where
  | lst (ds : List D) | dct (kvs : List (Key × D)) | dtt (kvs : List (List Key × D))
  | fct (kvs : List (Key × D)) | ftt (kvs : List (List Key × D))
  deriving Inhabited
abbrev Sto := List OB
abbrev Sl := List (Option D)
inductive Res (α : Type) where
  | bad | ok (a : α) (l : Sto) | exc (C : Addr) (fs : List (Str × D)) (l : Sto)
def Res.bind {α β : Type} (r : Res α) (k : α → Sto → Res β) : Res β := match r with
  | .bad => .bad
  | .ok a l => k a l
  | .exc C fs l => .exc C fs l

/-- a list of ints that is read only and is none of the store's -/
def SqS (K : PySem.W.Frag) (ρ : List Addr) (H : Hp) (a : Addr) (xs : List V) : Prop :=
  (∃ ob, H a = some (.frz ob (.lst xs))) ∨
    ∃ (o : Obj) (its : Array Value) (n : Nat), K.lookup a = some o ∧ o.cls = .type "list" ∧ o.dict = none ∧ o.data = .seq its n ∧ its.size ≤ sizeLine ∧ Vals xs its.toList
theorem SqS.sq {K : PySem.W.Frag} {ρ : List Addr} {H : Hp} {a : Addr} {xs : List V} (h : SqS K ρ H a xs) : SqL K H a xs := by
  rcases h with ⟨ob, h⟩ | h
  · exact .inl (.inr ⟨ob, h⟩)
  · exact .inr h
mutual
def Rw (K : PySem.W.Frag) (ρ : List Addr) (H : Hp) : D → V → Prop
  | .non, v => v = .non
  | .bl b, v => v = .bl b
  | .int i, v => v = .int i
  | .str s, v => v = .str s
  | .ty n, v => v = .ty n
  | .adr n, v => ∃ a, ρ[n]? = some a ∧ v = .ref a
  | .tup ds, v => ∃ a vs, v = .ref a ∧ H a = some (.tup vs) ∧ Rws K ρ H ds vs
  | .ro ns, v => ∃ a, v = .ref a ∧ SqS K ρ H a (ns.map V.int)
def Rws (K : PySem.W.Frag) (ρ : List Addr) (H : Hp) : List D → List V → Prop
  | [], vs => vs = []
  | d :: ds, vs => ∃ v r, vs = v :: r ∧ Rw K ρ H d v ∧ Rws K ρ H ds r
end

section
variable {K : PySem.W.Frag} {ρ ρ' : List Addr} {H H' : Hp}
def Tk (K : PySem.W.Frag) (H H' : Hp) : Prop := ∀ a xs, H a = some (.tup xs) → H' a = some (.tup xs)
theorem Tk.refl : Tk K H H := fun _ _ h => h
structure Mn (K : PySem.W.Frag) (ρ : List Addr) (H : Hp) (ρ' : List Addr) (H' : Hp) : Prop where
  px : ∀ (n : Nat) (a : Addr), ρ[n]? = some a → ρ'[n]? = some a
  tk : Tk K H H'
  ss : ∀ a xs, SqS K ρ H a xs → SqS K ρ' H' a xs
mutual
theorem Rw.mono (m : Mn K ρ H ρ' H') : ∀ (d : D) (v : V), Rw K ρ H d v → Rw K ρ' H' d v
  | .non, _, h => by simpa [Rw] using h
  | .bl _, _, h => by simpa [Rw] using h
  | .int _, _, h => by simpa [Rw] using h
  | .str _, _, h => by simpa [Rw] using h
  | .ty _, _, h => by simpa [Rw] using h
  | .adr n, v, h => by
    simp only [Rw] at h ⊢
    obtain ⟨a, e, h⟩ := h
    exact ⟨a, m.px n a e, h⟩
  | .tup ds, v, h => by
    simp only [Rw] at h ⊢
    obtain ⟨a, vs, e, h, r⟩ := h
    exact ⟨a, vs, e, m.tk a vs h, Rws.mono m ds vs r⟩
  | .ro ns, v, h => by
    simp only [Rw] at h ⊢
    obtain ⟨a, e, h⟩ := h
    exact ⟨a, e, m.ss a _ h⟩
theorem Rws.mono (m : Mn K ρ H ρ' H') : ∀ (ds : List D) (vs : List V), Rws K ρ H ds vs → Rws K ρ' H' ds vs
  | [], _, h => by simpa [Rws] using h
  | d :: ds, vs, h => by
    simp only [Rws] at h ⊢
    obtain ⟨v, r, e, h1, h2⟩ := h
    exact ⟨v, r, e, Rw.mono m d v h1, Rws.mono m ds r h2⟩
end
theorem Rws.length : ∀ {ds : List D} {vs : List V}, Rws K ρ H ds vs → vs.length = ds.length
  | [], _, h => by simp only [Rws] at h; subst h; rfl
  | d :: ds, _, h => by
    simp only [Rws] at h
    obtain ⟨v, r, e, _, h2⟩ := h
    subst e
    simp [Rws.length h2]
theorem Rws.get : ∀ {ds : List D} {vs : List V} {i : Nat} {d : D}, Rws K ρ H ds vs → ds[i]? = some d → ∃ v, vs[i]? = some v ∧ Rw K ρ H d v
  | [], _, _, _, h, e => by simp at e
  | d :: ds, _, 0, _, h, e => by
    simp only [Rws] at h
    obtain ⟨v, r, rfl, h1, h2⟩ := h
    simp at e; subst e
    exact ⟨v, rfl, h1⟩
  | d :: ds, _, i + 1, _, h, e => by
    simp only [Rws] at h
    obtain ⟨v, r, rfl, h1, h2⟩ := h
    obtain ⟨u, a, b⟩ := Rws.get (i := i) h2 (by simpa using e)
    exact ⟨u, by simpa using a, b⟩
theorem Rws.getV : ∀ {ds : List D} {vs : List V} {i : Nat} {v : V}, Rws K ρ H ds vs → vs[i]? = some v → ∃ d, ds[i]? = some d ∧ Rw K ρ H d v := fun {ds vs i v} h e => by
  have hl := Rws.length h
  have hi : i < ds.length := by rw [← hl]; exact (List.getElem?_eq_some_iff.mp e).1
  obtain ⟨u, a, b⟩ := Rws.get h (List.getElem?_eq_getElem hi)
  rw [e] at a; cases a
  exact ⟨_, List.getElem?_eq_getElem hi, b⟩
theorem Rws.nil : Rws K ρ H [] [] := by simp [Rws]
theorem Rws.cons {d : D} {v : V} {ds : List D} {vs : List V} (a : Rw K ρ H d v) (b : Rws K ρ H ds vs) : Rws K ρ H (d :: ds) (v :: vs) := by
  simp only [Rws]; exact ⟨v, vs, rfl, a, b⟩
theorem Rws.app : ∀ {ds es : List D} {vs us : List V}, Rws K ρ H ds vs → Rws K ρ H es us → Rws K ρ H (ds ++ es) (vs ++ us)
  | [], _, _, _, h, q => by simp only [Rws] at h; subst h; exact q
  | d :: ds, _, _, _, h, q => by
    simp only [Rws] at h
    obtain ⟨v, r, rfl, h1, h2⟩ := h
    exact Rws.cons h1 (Rws.app h2 q)
theorem Rws.one {d : D} {v : V} (a : Rw K ρ H d v) : Rws K ρ H [d] [v] := Rws.cons a Rws.nil
theorem Rws.take : ∀ {ds : List D} {vs : List V} (n : Nat), Rws K ρ H ds vs → Rws K ρ H (ds.take n) (vs.take n)
  | _, _, 0, _ => by simp [Rws]
  | [], _, n + 1, h => by simp only [Rws] at h; subst h; simp [Rws]
  | d :: ds, _, n + 1, h => by
    simp only [Rws] at h
    obtain ⟨v, r, rfl, h1, h2⟩ := h
    exact Rws.cons h1 (Rws.take n h2)
theorem Rws.drop : ∀ {ds : List D} {vs : List V} (n : Nat), Rws K ρ H ds vs → Rws K ρ H (ds.drop n) (vs.drop n)
  | _, _, 0, h => h
  | [], _, n + 1, h => by simp only [Rws] at h; subst h; simp [Rws]
  | d :: ds, _, n + 1, h => by
    simp only [Rws] at h
    obtain ⟨v, r, rfl, h1, h2⟩ := h
    exact Rws.drop n h2
theorem Rws.set {d : D} {v : V} (a : Rw K ρ H d v) : ∀ {ds : List D} {vs : List V} (n : Nat), Rws K ρ H ds vs → Rws K ρ H (ds.set n d) (vs.set n v)
  | [], _, n, h => by simp only [Rws] at h; subst h; simp [Rws]
  | e :: ds, _, 0, h => by
    simp only [Rws] at h
    obtain ⟨u, r, rfl, h1, h2⟩ := h
    exact Rws.cons a h2
  | e :: ds, _, n + 1, h => by
    simp only [Rws] at h
    obtain ⟨u, r, rfl, h1, h2⟩ := h
    exact Rws.cons h1 (Rws.set a n h2)
theorem Rws.rev {ds : List D} {vs : List V} (h : Rws K ρ H ds vs) : Rws K ρ H ds.reverse vs.reverse := by
  induction ds generalizing vs with
  | nil => simp only [Rws] at h; subst h; simp [Rws]
  | cons d ds ih =>
    simp only [Rws] at h
    obtain ⟨u, r, rfl, h1, h2⟩ := h
    rw [List.reverse_cons, List.reverse_cons]
    exact Rws.app (ih h2) (Rws.one h1)
theorem Rws.rep {ds : List D} {vs : List V} (h : Rws K ρ H ds vs) : ∀ k : Nat, Rws K ρ H (List.replicate k ds).flatten (List.replicate k vs).flatten
  | 0 => by simp [Rws]
  | k + 1 => by
    rw [List.replicate_succ, List.replicate_succ, List.flatten_cons, List.flatten_cons]
    exact Rws.app h (Rws.rep h k)
theorem Rws.nil_iff {ds : List D} {vs : List V} (h : Rws K ρ H ds vs) : vs = [] ↔ ds = [] := by
  have := Rws.length h
  constructor <;> intro e <;> subst e
  · exact List.eq_nil_of_length_eq_zero (by simpa using this.symm)
  · exact List.eq_nil_of_length_eq_zero (by simpa using this)

/-! ### the store -/
def Ow (K : PySem.W.Frag) (ρ : List Addr) (H : Hp) : OB → Addr → Prop
  | .lst ds, a => ∃ vs, H a = some (.lst vs) ∧ Rws K ρ H ds vs
  | .dct kvs, a => ∃ kv, H a = some (.dK kv) ∧ kv.map (·.1) = kvs.map (·.1) ∧ Rws K ρ H (kvs.map (·.2)) (kv.map (·.2))
  | .dtt kvs, a => ∃ kv, H a = some (.dT kv) ∧ kv.map (·.1) = kvs.map (·.1) ∧ Rws K ρ H (kvs.map (·.2)) (kv.map (·.2))
  | .fct kvs, a => ∃ od kv, H a = some (.frz od (.dK kv)) ∧ kv.map (·.1) = kvs.map (·.1) ∧ Rws K ρ H (kvs.map (·.2)) (kv.map (·.2))
  | .ftt kvs, a => ∃ od kv, H a = some (.frz od (.dT kv)) ∧ kv.map (·.1) = kvs.map (·.1) ∧ Rws K ρ H (kvs.map (·.2)) (kv.map (·.2))
structure Own (K : PySem.W.Frag) (ρ : List Addr) (l : Sto) (H : Hp) : Prop where
  nd : ρ.Nodup
  len : ρ.length = l.length
  at_ : ∀ (n : Nat) (o : OB) (a : Addr), l[n]? = some o → ρ[n]? = some a → Ow K ρ H o a
structure Step (ρ : List Addr) (H : Hp) (ρ' : List Addr) (H' : Hp) : Prop where
  pre : ∃ t, ρ' = ρ ++ t
  keep : ∀ a o, H a = some o → a ∉ ρ → H' a = some o
  new : ∀ a, a ∈ ρ' → a ∉ ρ → H a = none
  fz : ∀ a o u, H a = some (.frz o u) → H' a = some (.frz o u)
theorem Step.refl : Step ρ H ρ H := ⟨⟨[], by simp⟩, fun _ _ h _ => h, fun a h n => absurd h n, fun _ _ _ h => h⟩
theorem Step.trans {ρ1 ρ2 ρ3 : List Addr} {H1 H2 H3 : Hp} (a : Step ρ1 H1 ρ2 H2) (b : Step ρ2 H2 ρ3 H3) : Step ρ1 H1 ρ3 H3 := by
  obtain ⟨t, rfl⟩ := a.pre
  obtain ⟨u, rfl⟩ := b.pre
  refine ⟨⟨t ++ u, by simp⟩, fun x o h n => ?_, fun x h n => ?_, fun x o u h => b.fz x o u (a.fz x o u h)⟩
  · refine b.keep x o (a.keep x o h n) fun q => ?_
    rcases List.mem_append.mp q with q | q
    · exact n q
    · have := a.new x (List.mem_append_right _ q) n
      rw [h] at this; cases this
  · by_cases q : x ∈ ρ1 ++ t
    · exact a.new x q n
    · have := b.new x h q
      cases e : H1 x with
      | none => rfl
      | some o =>
        have := a.keep x o e n
        simp_all
theorem Step.px (s : Step ρ H ρ' H') : ∀ (n : Nat) (a : Addr), ρ[n]? = some a → ρ'[n]? = some a := fun n a e => by
  obtain ⟨t, rfl⟩ := s.pre
  rw [List.getElem?_append_left (List.getElem?_eq_some_iff.mp e).1]; exact e
theorem Own.mem {l : Sto} (o : Own K ρ l H) {a : Addr} (h : a ∈ ρ) : ∃ ob, Ow K ρ H ob a := by
  obtain ⟨n, hn⟩ := List.getElem?_of_mem h
  have hl : n < l.length := by rw [← o.len]; exact (List.getElem?_eq_some_iff.mp hn).1
  exact ⟨_, o.at_ n _ a (List.getElem?_eq_getElem hl) hn⟩
def stO : HO → Prop
  | .lst _ => True | .dK _ => True | .dT _ => True | .frz _ (.dK _) => True | .frz _ (.dT _) => True | _ => False
theorem Own.some_ {l : Sto} (o : Own K ρ l H) {a : Addr} (h : a ∈ ρ) : ∃ u, H a = some u ∧ stO u := by
  obtain ⟨ob, q⟩ := o.mem h
  cases ob with
  | lst ds => obtain ⟨vs, e, _⟩ := q; exact ⟨_, e, trivial⟩
  | dct ds => obtain ⟨vs, e, _⟩ := q; exact ⟨_, e, trivial⟩
  | dtt ds => obtain ⟨vs, e, _⟩ := q; exact ⟨_, e, trivial⟩
  | fct ds => obtain ⟨od, vs, e, _⟩ := q; exact ⟨_, e, trivial⟩
  | ftt ds => obtain ⟨od, vs, e, _⟩ := q; exact ⟨_, e, trivial⟩
theorem Step.tk {l : Sto} (s : Step ρ H ρ' H') (o : Own K ρ l H) : Tk K H H' := fun a xs h => by
  have na : ∀ u, H a = some u → ¬ stO u → a ∉ ρ := fun u hu hn q => by
    obtain ⟨u', e, st⟩ := o.some_ q
    rw [hu] at e; cases e
    exact hn st
  exact s.keep _ _ h (na _ h (fun q => q))
theorem Step.sqt {l : Sto} (s : Step ρ H ρ' H') (o : Own K ρ l H) : ∀ a xs, SqT K H a xs → SqT K H' a xs := fun a xs h => by
  have na : ∀ u, H a = some u → ¬ stO u → a ∉ ρ := fun u hu hn q => by
    obtain ⟨u', e, st⟩ := o.some_ q
    rw [hu] at e; cases e
    exact hn st
  rcases h with (h | ⟨ob, h⟩) | h
  · exact .inl (.inl (s.keep _ _ h (na _ h (fun q => q))))
  · exact .inl (.inr ⟨ob, s.keep _ _ h (na _ h (fun q => q))⟩)
  · exact .inr h
theorem Step.mn {l : Sto} (s : Step ρ H ρ' H') (o : Own K ρ l H) : Mn K ρ H ρ' H' := ⟨s.px, s.tk o, fun a xs h => by
  rcases h with ⟨ob, h⟩ | h
  · refine .inl ⟨ob, s.keep _ _ h fun q => ?_⟩
    obtain ⟨u', e, st⟩ := o.some_ q
    rw [h] at e; cases e
    exact st
  · exact .inr h⟩
theorem Step.rw {l : Sto} (s : Step ρ H ρ' H') (o : Own K ρ l H) {d : D} {v : V} (h : Rw K ρ H d v) : Rw K ρ' H' d v := Rw.mono (s.mn o) d v h
theorem Step.rws {l : Sto} (s : Step ρ H ρ' H') (o : Own K ρ l H) {d : List D} {v : List V} (h : Rws K ρ H d v) : Rws K ρ' H' d v := Rws.mono (s.mn o) d v h

/-! ### slots -/
structure Slt (K : PySem.W.Frag) (ρ : List Addr) (H : Hp) (σ : L2.St) (g : Sl) : Prop where
  len : σ.length = g.length
  at_ : ∀ (i : Nat) (d : D), g[i]? = some (some d) → ∃ v, σ[i]? = some (some v) ∧ Rw K ρ H d v
theorem Slt.step {l : Sto} {σ : L2.St} {g : Sl} (h : Slt K ρ H σ g) (s : Step ρ H ρ' H') (o : Own K ρ l H) : Slt K ρ' H' σ g :=
  ⟨h.len, fun i d e => let ⟨v, a, b⟩ := h.at_ i d e; ⟨v, a, s.rw o b⟩⟩
theorem Slt.set {σ : L2.St} {g : Sl} {d : D} {v : V} (h : Slt K ρ H σ g) (i : Nat) (r : Rw K ρ H d v) : Slt K ρ H (σ.set i (some v)) (g.set i (some d)) := by
  refine ⟨by simp [h.len], fun j e hj => ?_⟩
  by_cases q : i = j
  · subst q
    have hi : i < g.length := by
      have := (List.getElem?_eq_some_iff.mp hj).1
      simpa using this
    rw [List.getElem?_set_self hi] at hj
    cases hj
    exact ⟨v, by rw [List.getElem?_set_self (by rw [h.len]; exact hi)], r⟩
  · rw [List.getElem?_set_ne q] at hj
    obtain ⟨u, a, b⟩ := h.at_ j e hj
    exact ⟨u, by rw [List.getElem?_set_ne q]; exact a, b⟩

/-! ### what is reached -/
def Post {α β : Type} (K : PySem.W.Frag) (E : XK) (ρ : List Addr) (H : Hp) (rel : List Addr → Hp → α → β → Prop) (r : Res α) (Q : β → Hp → Prop) : Prop := match r with
  | .bad => False
  | .ok a l' => ∀ ρ' H' b, Step ρ H ρ' H' → Own K ρ' l' H' → rel ρ' H' a b → Q b H'
  | .exc C fs l' => ∀ ρ' H' dd vs, Step ρ H ρ' H' → Own K ρ' l' H' → H' dd = some (.xd vs) → vs.map (·.1) = fs.map (·.1) → Rws K ρ' H' (fs.map (·.2)) (vs.map (·.2)) → E (.ref C) (some dd) H'
theorem Post.bind {α β γ δ : Type} {E : XK} {rel : List Addr → Hp → α → γ → Prop} {rel2 : List Addr → Hp → β → δ → Prop} {r : Res α} {k : α → Sto → Res β} {Q : δ → Hp → Prop} {Q1 : γ → Hp → Prop}
    (h : Post K E ρ H rel2 (r.bind k) Q)
    (hk : ∀ a l1 ρ1 H1 b, r = .ok a l1 → Step ρ H ρ1 H1 → Own K ρ1 l1 H1 → rel ρ1 H1 a b → Post K E ρ1 H1 rel2 (k a l1) Q → Q1 b H1) : Post K E ρ H rel r Q1 := by
  cases r with
  | bad => exact h
  | exc C fs l' => exact h
  | ok a l1 =>
    intro ρ1 H1 b s o rl
    refine hk a l1 ρ1 H1 b rfl s o rl ?_
    have h' : Post K E ρ H rel2 (k a l1) Q := h
    cases e : k a l1 with
    | bad => rw [e] at h'; exact h'
    | ok a2 l2 => rw [e] at h'; exact fun ρ' H' b' s' o' r' => h' ρ' H' b' (s.trans s') o' r'
    | exc C fs l2 => rw [e] at h'; exact fun ρ' H' dd vs s' o' e1 e2 e3 => h' ρ' H' dd vs (s.trans s') o' e1 e2 e3
abbrev rD (K : PySem.W.Frag) : List Addr → Hp → D → V → Prop := fun ρ H d v => Rw K ρ H d v
abbrev rDs (K : PySem.W.Frag) : List Addr → Hp → List D → List V → Prop := fun ρ H d v => Rws K ρ H d v
abbrev rB {α : Type} : List Addr → Hp → α → α → Prop := fun _ _ d v => d = v
end

/-! ### judgements -/
abbrev DE := Sl → Sto → Res D
abbrev DEs := Sl → Sto → Res (List D)
abbrev DB := Sl → Sto → Res Bool
abbrev DO := Sl → Sto → Res (Option Int)
section
variable (K : PySem.W.Frag) (E : XK)
def teOf (f : DE) : TE := fun σ H Q => ∃ ρ l g, Own K ρ l H ∧ Slt K ρ H σ g ∧ Post K E ρ H (rD K) (f g l) Q
def taOf (f : DEs) : TA := fun σ H Q => ∃ ρ l g, Own K ρ l H ∧ Slt K ρ H σ g ∧ Post K E ρ H (rDs K) (f g l) Q
def ttOf (f : DB) : TT := fun σ H Q => ∃ ρ l g, Own K ρ l H ∧ Slt K ρ H σ g ∧ Post K E ρ H rB (f g l) Q
def toOf (f : DO) : TO := fun σ H Q => ∃ ρ l g, Own K ρ l H ∧ Slt K ρ H σ g ∧ Post K E ρ H rB (f g l) Q
end
structure AE (X : Cx) (E : XK) (e : Expr) (f : DE) : Prop where
  pe : PE X e (teOf X.K E f)
structure AA (X : Cx) (E : XK) (es : List Expr) (f : DEs) : Prop where
  pa : PA X es (taOf X.K E f)
structure AT (X : Cx) (E : XK) (e : Expr) (f : DB) : Prop where
  pt : PT X e (ttOf X.K E f)
theorem PE.imp {X : Cx} {e : Expr} {t u : TE} (h : PE X e t) (q : ∀ σ H Q, u σ H Q → t σ H Q) : PE X e u := ⟨fun pins s σ H Q I k => h.run pins s σ H Q I (q σ H Q k)⟩
theorem PA.imp {X : Cx} {e : List Expr} {t u : TA} (h : PA X e t) (q : ∀ σ H Q, u σ H Q → t σ H Q) : PA X e u := ⟨fun pos pins s σ H Q I k => h.run pos pins s σ H Q I (q σ H Q k)⟩
theorem PT.imp {X : Cx} {e : Expr} {t u : TT} (h : PT X e t) (q : ∀ σ H Q, u σ H Q → t σ H Q) : PT X e u := ⟨fun pins s σ H Q I k => h.run pins s σ H Q I (q σ H Q k)⟩

section
variable {X : Cx} {E : XK} {a b c e : Expr} {es : List Expr} {fa fb fc f : DE} {fs : DEs} {pos : Pos}
theorem Post.here {α β : Type} {K : PySem.W.Frag} {ρ : List Addr} {l : Sto} {H : Hp} {rel : List Addr → Hp → α → β → Prop} {x : α} {y : β} {Q : β → Hp → Prop} (h : Post K E ρ H rel (.ok x l) Q) (o : Own K ρ l H) (r : rel ρ H x y) : Q y H := h ρ H y Step.refl o r

/-- a name -/
def dV (i : Nat) : DE := fun g l => match g[i]? with
  | some (some d) => .ok d l
  | _ => .bad
theorem ae_var {i : Nat} (h : PE X e (tVar i)) : AE X E e (dV i) := ⟨PE.imp h fun σ H Q ⟨ρ, l, g, o, s, p⟩ => by
  unfold dV at p
  cases hg : g[i]? with
  | none => rw [hg] at p; exact p.elim
  | some q =>
    cases q with
    | none => rw [hg] at p; exact p.elim
    | some d =>
      rw [hg] at p
      obtain ⟨v, hv, r⟩ := s.at_ i d hg
      exact ⟨v, hv, p.here o r⟩⟩
/-- constants -/
def dC (d : D) : DE := fun _ l => .ok d l
def isC : D → V → Prop
  | .non, v => v = .non
  | .bl b, v => v = .bl b
  | .int b, v => v = .int b
  | .str b, v => v = .str b
  | .ty b, v => v = .ty b
  | _, _ => False
theorem ae_c {d : D} {v : V} (hd : isC d v) (h : PE X e (tC v)) : AE X E e (dC d) := ⟨PE.imp h fun σ H Q ⟨ρ, l, g, o, s, p⟩ => by
  refine Post.here p o ?_
  cases d <;> simp_all [isC, Rw]⟩
theorem ae_int {i : Int} {j p} : AE X E (.Constant (.int i) j p) (dC (.int i)) := ae_c (v := .int i) rfl pe_int
theorem ae_bl {i : Bool} {j p} : AE X E (.Constant (.bool i) j p) (dC (.bl i)) := ae_c (v := .bl i) rfl pe_bl
theorem ae_str {i : Str} {j p} : AE X E (.Constant (.str i) j p) (dC (.str i)) := ae_c (v := .str i) rfl pe_str
theorem ae_non {j p} : AE X E (.Constant .none j p) (dC .non) := ae_c (v := .non) rfl pe_non

/-- argument lists -/
def dNil : DEs := fun _ l => .ok [] l
def dCons (f : DE) (fs : DEs) : DEs := fun g l => (f g l).bind fun d l1 => (fs g l1).bind fun ds l2 => .ok (d :: ds) l2
theorem aa_nil : AA X E [] dNil := ⟨PA.imp pa_nil fun σ H Q ⟨ρ, l, g, o, s, p⟩ => Post.here p o Rws.nil⟩
theorem aa_cons (ha : AE X E e f) (hr : AA X E es fs) (hs : starEach (e :: es) X.env = (false, eval e X.env) :: starEach es X.env := by rfl) : AA X E (e :: es) (dCons f fs) :=
  ⟨PA.imp (pa_cons ha.pe hr.pa hs) fun σ H Q ⟨ρ, l, g, o, s, p⟩ => by
    refine ⟨ρ, l, g, o, s, Post.bind p fun x l1 ρ1 H1 v e1 s1 o1 r1 p1 => ?_⟩
    refine ⟨ρ1, l1, g, o1, s.step s1 o, Post.bind p1 fun ds l2 ρ2 H2 vs e2 s2 o2 r2 p2 => ?_⟩
    exact Post.here p2 o2 (Rws.cons (s2.rw o1 r1) r2)⟩

/-- two operands -/
def dOp (h : D → D → Sto → Res D) (fa fb : DE) : DE := fun g l => (fa g l).bind fun x l1 => (fb g l1).bind fun y l2 => h x y l2
def OpS (K : PySem.W.Frag) (E : XK) (r : R2) (h : D → D → Sto → Res D) : Prop := ∀ ρ l H dx dy x y Q, Own K ρ l H → Rw K ρ H dx x → Rw K ρ H dy y → Post K E ρ H (rD K) (h dx dy l) Q → r x y H Q
theorem ae_op2 {r : R2} {h : D → D → Sto → Res D} (hp : PE X e (tOp r (teOf X.K E fa) (teOf X.K E fb))) (hs : OpS X.K E r h) : AE X E e (dOp h fa fb) :=
  ⟨PE.imp hp fun σ H Q ⟨ρ, l, g, o, s, p⟩ => by
    refine ⟨ρ, l, g, o, s, Post.bind p fun x l1 ρ1 H1 v e1 s1 o1 r1 p1 => ?_⟩
    refine ⟨ρ1, l1, g, o1, s.step s1 o, Post.bind p1 fun y l2 ρ2 H2 u e2 s2 o2 r2 p2 => ?_⟩
    exact hs ρ2 l2 H2 x y v u Q o2 (s2.rw o1 r1) r2 p2⟩
end
end Zb

set_option Elab.async false
set_option linter.all false
set_option maxRecDepth 100000
namespace Zb
open PySem L2
section
variable {K : PySem.W.Frag} {E : XK} {ρ : List Addr} {l : Sto} {H : Hp} {p : Addr}
/-! ### new objects -/
theorem px_app {t : List Addr} : ∀ (n : Nat) (a : Addr), ρ[n]? = some a → (ρ ++ t)[n]? = some a := fun n a e => by
  rw [List.getElem?_append_left (List.getElem?_eq_some_iff.mp e).1]; exact e
theorem Own.nop (o : Own K ρ l H) (hp : H p = none) : p ∉ ρ := fun q => by
  obtain ⟨xs, e, _⟩ := o.some_ q
  rw [hp] at e; cases e
theorem Ow.mono {ρ' : List Addr} {H' : Hp} {o : OB} {a : Addr} (m : Mn K ρ H ρ' H') (k : ∀ u, H a = some u → H' a = some u) (h : Ow K ρ H o a) : Ow K ρ' H' o a := by
  cases o with
  | lst ds => obtain ⟨vs, e, r⟩ := h; exact ⟨vs, k _ e, Rws.mono m _ _ r⟩
  | dct ds => obtain ⟨vs, e, q, r⟩ := h; exact ⟨vs, k _ e, q, Rws.mono m _ _ r⟩
  | dtt ds => obtain ⟨vs, e, q, r⟩ := h; exact ⟨vs, k _ e, q, Rws.mono m _ _ r⟩
  | fct ds => obtain ⟨od, vs, e, q, r⟩ := h; exact ⟨od, vs, k _ e, q, Rws.mono m _ _ r⟩
  | ftt ds => obtain ⟨od, vs, e, q, r⟩ := h; exact ⟨od, vs, k _ e, q, Rws.mono m _ _ r⟩
theorem step_upd {u : HO} (hp : H p = none) : Step ρ H ρ (upd H p u) := ⟨⟨[], by simp⟩, fun a v e _ => by rw [upd_ne (ne_of_none e hp)]; exact e, fun a h n => absurd h n, fun a o v e => by rw [upd_ne (ne_of_none e hp)]; exact e⟩
theorem Own.newT {xs : List V} (o : Own K ρ l H) (hp : H p = none) : Own K ρ l (upd H p (.tup xs)) ∧ Step ρ H ρ (upd H p (.tup xs)) := by
  have st : Step ρ H ρ (upd H p (.tup xs)) := step_upd hp
  exact ⟨⟨o.nd, o.len, fun n ob a e1 e2 => Ow.mono (st.mn o) (fun u e => by rw [upd_ne (ne_of_none e hp)]; exact e) (o.at_ n ob a e1 e2)⟩, st⟩
theorem step_app {u : HO} (hp : H p = none) : Step ρ H (ρ ++ [p]) (upd H p u) := ⟨⟨[p], rfl⟩, fun a v e _ => by rw [upd_ne (ne_of_none e hp)]; exact e, fun a h n => by
  rcases List.mem_append.mp h with h | h
  · exact absurd h n
  · simp at h; subst h; exact hp, fun a o v e => by rw [upd_ne (ne_of_none e hp)]; exact e⟩
theorem Own.newO {u : HO} {ob : OB} (o : Own K ρ l H) (hp : H p = none) (w : Mn K ρ H (ρ ++ [p]) (upd H p u) → Ow K (ρ ++ [p]) (upd H p u) ob p) : Own K (ρ ++ [p]) (l ++ [ob]) (upd H p u) ∧ Step ρ H (ρ ++ [p]) (upd H p u) := by
  have st : Step ρ H (ρ ++ [p]) (upd H p u) := step_app hp
  refine ⟨⟨?_, by simp [o.len], fun n ob' a e1 e2 => ?_⟩, st⟩
  · rw [List.nodup_append]
    refine ⟨o.nd, by simp, fun a ha b hb => ?_⟩
    simp at hb; subst hb
    exact fun q => o.nop hp (q ▸ ha)
  · by_cases hn : n < l.length
    · rw [List.getElem?_append_left hn] at e1
      rw [List.getElem?_append_left (by rw [o.len]; exact hn)] at e2
      exact Ow.mono (st.mn o) (fun v e => by rw [upd_ne (ne_of_none e hp)]; exact e) (o.at_ n ob' a e1 e2)
    · have h1 := (List.getElem?_eq_some_iff.mp e1).1
      have hn' : n = l.length := by simp at h1; omega
      subst hn'
      have e3 : (ρ ++ [p])[l.length]? = some p := by rw [← o.len]; simp
      rw [e3] at e2; cases e2
      have e4 : (l ++ [ob])[l.length]? = some ob := by simp
      rw [e4] at e1; cases e1
      exact w (st.mn o)
theorem Own.newL {xs : List V} {ds : List D} (o : Own K ρ l H) (hp : H p = none) (r : Rws K ρ H ds xs) : Own K (ρ ++ [p]) (l ++ [.lst ds]) (upd H p (.lst xs)) ∧ Step ρ H (ρ ++ [p]) (upd H p (.lst xs)) :=
  o.newO hp fun m => ⟨xs, upd_same, Rws.mono m _ _ r⟩
/-- not a frozen one -/
def unF : OB → Bool
  | .fct _ => false
  | .ftt _ => false
  | _ => true
theorem Ow.unF {o : OB} {a : Addr} (h : Ow K ρ H o a) (hf : unF o = true) : ∀ b u, H a ≠ some (.frz b u) := fun b u e => by
  cases o with
  | lst ds => obtain ⟨vs, q, _⟩ := h; rw [q] at e; cases e
  | dct ds => obtain ⟨vs, q, _⟩ := h; rw [q] at e; cases e
  | dtt ds => obtain ⟨vs, q, _⟩ := h; rw [q] at e; cases e
  | fct ds => cases hf
  | ftt ds => cases hf
/-- an object of the store is written -/
theorem Own.setO {n : Nat} {a : Addr} {u : HO} {ob : OB} {old : OB} (o : Own K ρ l H) (hn : ρ[n]? = some a) (ho : l[n]? = some old) (w : Mn K ρ H ρ (upd H a u) → Ow K ρ (upd H a u) ob a) (hf : unF old = true := by rfl) :
    Own K ρ (l.set n ob) (upd H a u) ∧ Step ρ H ρ (upd H a u) := by
  have ha : a ∈ ρ := List.mem_of_getElem? hn
  have st : Step ρ H ρ (upd H a u) := ⟨⟨[], by simp⟩, fun b v e nb => by rw [upd_ne (fun q => nb (by rw [q]; exact ha))]; exact e, fun b h nb => absurd h nb, fun b od v e => by rw [upd_ne (fun q => (o.at_ n old a ho hn).unF hf od v (by rw [← q]; exact e))]; exact e⟩
  refine ⟨⟨o.nd, by simp [o.len], fun m ob' b e1 e2 => ?_⟩, st⟩
  by_cases q : n = m
  · subst q
    rw [hn] at e2; cases e2
    rw [List.getElem?_set_self (List.getElem?_eq_some_iff.mp ho).1] at e1
    cases e1
    exact w (st.mn o)
  · rw [List.getElem?_set_ne q] at e1
    have nb : b ≠ a := fun z => by
      subst z
      obtain ⟨h1, g1⟩ := List.getElem?_eq_some_iff.mp hn
      obtain ⟨h2, g2⟩ := List.getElem?_eq_some_iff.mp e2
      exact q ((List.getElem_inj o.nd).mp (g1.trans g2.symm))
    exact Ow.mono (st.mn o) (fun v e => by rw [upd_ne nb]; exact e) (o.at_ m ob' b e1 e2)
theorem Own.set {n : Nat} {a : Addr} {xs : List V} {ds : List D} {old : OB} (o : Own K ρ l H) (hn : ρ[n]? = some a) (ho : l[n]? = some old) (r : Rws K ρ H ds xs) (hf : unF old = true := by rfl) :
    Own K ρ (l.set n (.lst ds)) (upd H a (.lst xs)) ∧ Step ρ H ρ (upd H a (.lst xs)) := o.setO hn ho (fun m => ⟨xs, upd_same, Rws.mono m _ _ r⟩) hf
theorem Own.lst {n : Nat} {ds : List D} {v : V} (o : Own K ρ l H) (r : Rw K ρ H (.adr n) v) (h : l[n]? = some (.lst ds)) : ∃ a vs, v = .ref a ∧ ρ[n]? = some a ∧ H a = some (.lst vs) ∧ Rws K ρ H ds vs := by
  simp only [Rw] at r
  obtain ⟨a, e, rfl⟩ := r
  obtain ⟨vs, h1, h2⟩ := o.at_ n _ a h e
  exact ⟨a, vs, rfl, e, h1, h2⟩
theorem Rw.tupH {ds : List D} {v : V} (r : Rw K ρ H (.tup ds) v) : ∃ a vs, v = .ref a ∧ H a = some (.tup vs) ∧ Rws K ρ H ds vs := by simpa [Rw] using r
theorem Rw.tup_ {ds : List D} {v : V} (r : Rw K ρ H (.tup ds) v) : ∃ a vs, v = .ref a ∧ SqT K H a vs ∧ Rws K ρ H ds vs :=
  let ⟨a, vs, e, h, q⟩ := r.tupH; ⟨a, vs, e, .inl (.inl h), q⟩
theorem Rw.int_ {i : Int} {v : V} (r : Rw K ρ H (.int i) v) : v = .int i := by simpa [Rw] using r
theorem Rw.bl_ {i : Bool} {v : V} (r : Rw K ρ H (.bl i) v) : v = .bl i := by simpa [Rw] using r
theorem Rw.str_ {i : Str} {v : V} (r : Rw K ρ H (.str i) v) : v = .str i := by simpa [Rw] using r
theorem Rw.non_ {v : V} (r : Rw K ρ H .non v) : v = .non := by simpa [Rw] using r
theorem Rw.ty_ {n : String} {v : V} (r : Rw K ρ H (.ty n) v) : v = .ty n := by simpa [Rw] using r
theorem rw_int {i : Int} : Rw K ρ H (.int i) (.int i) := by simp [Rw]
theorem rw_bl {i : Bool} : Rw K ρ H (.bl i) (.bl i) := by simp [Rw]
theorem rw_str {i : Str} : Rw K ρ H (.str i) (.str i) := by simp [Rw]
theorem rw_non : Rw K ρ H .non .non := by simp [Rw]
theorem rw_tup {a : Addr} {vs : List V} {ds : List D} (h : H a = some (.tup vs)) (r : Rws K ρ H ds vs) : Rw K ρ H (.tup ds) (.ref a) := by simp only [Rw]; exact ⟨a, vs, rfl, h, r⟩
theorem rw_adr {a : Addr} {n : Nat} (h : ρ[n]? = some a) : Rw K ρ H (.adr n) (.ref a) := by simp only [Rw]; exact ⟨a, h, rfl⟩

/-! ### a tuple, a list made: what is reached -/
theorem Post.mkT {Q : VK} {ds : List D} {vs : List V} (o : Own K ρ l H) (r : Rws K ρ H ds vs) (h : Post K E ρ H (rD K) (.ok (.tup ds) l) Q) (hp : H p = none) : Q (.ref p) (upd H p (.tup vs)) := by
  obtain ⟨o1, s1⟩ := o.newT (xs := vs) hp
  exact h ρ _ _ s1 o1 (rw_tup upd_same (s1.rws o r))
theorem Post.mkL {Q : VK} {ds : List D} {vs : List V} (o : Own K ρ l H) (r : Rws K ρ H ds vs) (h : Post K E ρ H (rD K) (.ok (.adr l.length) (l ++ [.lst ds])) Q) (hp : H p = none) : Q (.ref p) (upd H p (.lst vs)) := by
  obtain ⟨o1, s1⟩ := o.newL hp r
  exact h _ _ _ s1 o1 (rw_adr (by rw [← o.len]; simp))
end

def small (n : Nat) : Bool := decide (n ≤ 16777216)
theorem small_le {n : Nat} (h : small n = true) : n ≤ sizeLine := by
  have := of_decide_eq_true h
  rw [sizeLine_eq]; exact this
theorem small_lt {n : Nat} (h : small (n + 1) = true) : n < sizeLine := by
  have := of_decide_eq_true h
  rw [sizeLine_eq]; omega

/-! ### displays -/
def dTup (fs : DEs) : DE := fun g l => (fs g l).bind fun ds l1 => if small ds.length then .ok (.tup ds) l1 else .bad
def dLst (fs : DEs) : DE := fun g l => (fs g l).bind fun ds l1 => if small ds.length then .ok (.adr l1.length) (l1 ++ [.lst ds]) else .bad
section
variable {X : Cx} {E : XK} {a b c e : Expr} {es : List Expr} {fa fb fc f : DE} {fs : DEs} {pos : Pos}
theorem Post.ite {α β : Type} {K : PySem.W.Frag} {ρ : List Addr} {H : Hp} {rel : List Addr → Hp → α → β → Prop} {c : Bool} {r : Res α} {Q : β → Hp → Prop} (h : Post K E ρ H rel (if c then r else .bad) Q) : c = true ∧ Post K E ρ H rel r Q := by
  cases c with
  | true => exact ⟨rfl, by simpa using h⟩
  | false => exact absurd (show Post K E ρ H rel .bad Q by simpa using h) (fun z => z)
theorem ae_tup {x1} (h : AA X E es fs) : AE X E (.Tuple es x1 pos) (dTup fs) := ⟨PE.imp (pe_tup h.pa) fun σ H Q ⟨ρ, l, g, o, s, p⟩ => by
  refine ⟨ρ, l, g, o, s, Post.bind p fun ds l1 ρ1 H1 vs e1 s1 o1 r1 p1 => ?_⟩
  obtain ⟨hc, p1⟩ := p1.ite
  refine ⟨by rw [r1.length]; exact small_le hc, fun q hq => Post.mkT o1 r1 p1 hq⟩⟩
theorem ae_lst (h : AA X E es fs) : AE X E (.List es pos) (dLst fs) := ⟨PE.imp (pe_lst h.pa) fun σ H Q ⟨ρ, l, g, o, s, p⟩ => by
  refine ⟨ρ, l, g, o, s, Post.bind p fun ds l1 ρ1 H1 vs e1 s1 o1 r1 p1 => ?_⟩
  obtain ⟨hc, p1⟩ := p1.ite
  refine ⟨by rw [r1.length]; exact small_le hc, fun q hq => Post.mkL o1 r1 p1 hq⟩⟩

/-! ### arithmetic -/
def mulOk (i j : Int) : Bool := decide (i.natAbs.log2 + j.natAbs.log2 < 1000000)
def divOk (j : Int) : Bool := decide (0 < j) && decide (j.natAbs.log2 < 9000)
def hAdd : D → D → Sto → Res D
  | .int i, .int j, l => .ok (.int (i + j)) l
  | .tup xs, .tup ys, l => if small (xs.length + ys.length) then .ok (.tup (xs ++ ys)) l else .bad
  | .str i, .str j, l => if small (i.length + j.length) then .ok (.str (i ++ j)) l else .bad
  | .adr n, .adr m, l => match l[n]?, l[m]? with
    | some (.lst xs), some (.lst ys) => if small (xs.length + ys.length) then .ok (.adr l.length) (l ++ [.lst (xs ++ ys)]) else .bad
    | _, _ => .bad
  | _, _, _ => .bad
def rAddA (K : PySem.W.Frag) : R2 := fun x y H Q => (rI0 (fun i j => .int (i + j)) x y H Q ∨ rCatA K x y H Q) ∨ ((∃ i j, x = .str i ∧ y = .str j ∧ i.length + j.length ≤ sizeLine ∧ Q (.str (i ++ j)) H) ∨ rCat x y H Q)
theorem op_addA : OpR X (binaryOp .Add) (rAddA X.K) := OpR.or (OpR.or op_add op_catA) (OpR.or op_add_str op_cat)
theorem hs_add : OpS X.K E (rAddA X.K) hAdd := fun ρ l H dx dy x y Q o rx ry p => by
  cases dx with
  | int i =>
    cases dy with
    | int j => rw [rx.int_, ry.int_]; exact .inl (.inl ⟨i, j, rfl, rfl, p.here o rw_int⟩)
    | _ => exact p.elim
  | tup xs =>
    cases dy with
    | tup ys =>
      obtain ⟨hc, p⟩ := Post.ite p
      obtain ⟨a, vs, rfl, t1, r1⟩ := rx.tup_
      obtain ⟨b, us, rfl, t2, r2⟩ := ry.tup_
      refine .inl (.inr ⟨a, b, vs, us, rfl, rfl, t1, t2, by rw [r1.length, r2.length]; exact small_le hc, fun e => ?_, fun e1 e2 => ?_, fun e1 e2 q hq => ?_⟩)
      · have := r1.nil_iff.mp e
        subst this
        exact p.here o ry
      · have := r2.nil_iff.mp e2
        subst this
        rw [List.append_nil] at p
        exact p.here o rx
      · exact Post.mkT o (r1.app r2) p hq
    | _ => exact p.elim
  | str i =>
    cases dy with
    | str j =>
      obtain ⟨hc, p⟩ := Post.ite p
      rw [rx.str_, ry.str_]
      exact .inr (.inl ⟨i, j, rfl, rfl, small_le hc, p.here o rw_str⟩)
    | _ => exact p.elim
  | adr n =>
    cases dy with
    | adr m =>
      simp only [hAdd] at p
      split at p
      · rename_i xs ys e1 e2
        obtain ⟨hc, p⟩ := Post.ite p
        obtain ⟨a, vs, rfl, _, h1, r1⟩ := o.lst rx e1
        obtain ⟨b, us, rfl, _, h2, r2⟩ := o.lst ry e2
        exact .inr (.inr ⟨a, b, vs, us, rfl, rfl, h1, h2, by rw [r1.length, r2.length]; exact small_le hc, fun q hq => Post.mkL o (r1.app r2) p hq⟩)
      · exact p.elim
    | _ => exact p.elim
  | _ => exact p.elim
theorem ae_add (ha : AE X E a fa) (hb : AE X E b fb) : AE X E (.BinOp a .Add b pos) (dOp hAdd fa fb) := ae_op2 (pe_op op_addA ha.pe hb.pe) hs_add
def hInt (c : Int → Int → Bool) (f : Int → Int → Int) : D → D → Sto → Res D
  | .int i, .int j, l => if c i j then .ok (.int (f i j)) l else .bad
  | _, _, _ => .bad
theorem hs_int {C : Int → Int → Prop} {c : Int → Int → Bool} {f : Int → Int → Int} (hc : ∀ i j, c i j = true → C i j) : OpS X.K E (rI C fun i j => .int (f i j)) (hInt c f) := fun ρ l H dx dy x y Q o rx ry p => by
  cases dx with
  | int i =>
    cases dy with
    | int j =>
      obtain ⟨h, p⟩ := Post.ite p
      rw [rx.int_, ry.int_]
      exact ⟨i, j, rfl, rfl, hc i j h, p.here o rw_int⟩
    | _ => exact p.elim
  | _ => exact p.elim
def yes2 (_ _ : Int) : Bool := true
theorem rI_of {g : Int → Int → V} {f : Value → Value → Sem Value} (h : OpR X f (rI0 g)) : OpR X f (rI (fun _ _ => True) g) := fun pins s σ H x y v u Q I rx ry ⟨i, j, e1, e2, _, q⟩ => h pins s σ H x y v u Q I rx ry ⟨i, j, e1, e2, q⟩
theorem ae_sub (ha : AE X E a fa) (hb : AE X E b fb) : AE X E (.BinOp a .Sub b pos) (dOp (hInt yes2 fun i j => i - j) fa fb) := ae_op2 (pe_op (rI_of op_sub) ha.pe hb.pe) (hs_int fun _ _ _ => trivial)
theorem ae_mod (ha : AE X E a fa) (hb : AE X E b fb) : AE X E (.BinOp a .Mod b pos) (dOp (hInt (fun _ j => decide (j ≠ 0)) Int.fmod) fa fb) := ae_op2 (pe_op op_modN ha.pe hb.pe) (hs_int fun _ _ h => of_decide_eq_true h)
theorem ae_div (ha : AE X E a fa) (hb : AE X E b fb) : AE X E (.BinOp a .FloorDiv b pos) (dOp (hInt (fun _ j => divOk j) fun i j => i / j) fa fb) := ae_op2 (pe_op op_fdivW ha.pe hb.pe) (hs_int fun _ j h => by
  unfold divOk at h
  rw [Bool.and_eq_true] at h
  exact ⟨of_decide_eq_true h.1, of_decide_eq_true h.2⟩)
def powOk (i j : Int) : Bool := decide (0 ≤ j) && decide (j ≤ 1000000) && decide (i.natAbs < 2 ^ 64)
theorem ae_pow (ha : AE X E a fa) (hb : AE X E b fb) : AE X E (.BinOp a .Pow b pos) (dOp (hInt powOk fun i j => i ^ j.toNat) fa fb) := ae_op2 (pe_op op_pow ha.pe hb.pe) (hs_int fun i j h => by
  unfold powOk at h
  rw [Bool.and_eq_true, Bool.and_eq_true] at h
  exact ⟨of_decide_eq_true h.1.1, of_decide_eq_true h.1.2, of_decide_eq_true h.2⟩)
theorem ae_shl (ha : AE X E a fa) (hb : AE X E b fb) : AE X E (.BinOp a .LShift b pos) (dOp (hInt powOk fun i j => i * 2 ^ j.toNat) fa fb) := ae_op2 (pe_op op_shl ha.pe hb.pe) (hs_int fun i j h => by
  unfold powOk at h
  rw [Bool.and_eq_true, Bool.and_eq_true] at h
  exact ⟨of_decide_eq_true h.1.1, of_decide_eq_true h.1.2, of_decide_eq_true h.2⟩)
theorem ae_shr (ha : AE X E a fa) (hb : AE X E b fb) : AE X E (.BinOp a .RShift b pos) (dOp (hInt (fun _ j => decide (0 ≤ j)) fun i j => i / 2 ^ j.toNat) fa fb) := ae_op2 (pe_op op_shr ha.pe hb.pe) (hs_int fun i j h => of_decide_eq_true h)
theorem ae_band (ha : AE X E a fa) (hb : AE X E b fb) : AE X E (.BinOp a .BitAnd b pos) (dOp (hInt yes2 Builtin.bitAnd) fa fb) := ae_op2 (pe_op (rI_of op_and) ha.pe hb.pe) (hs_int fun _ _ _ => trivial)

/-- an int that is no great one -/
def mid (i : Int) : Bool := decide (i.natAbs ≤ 1000000000000)
theorem mid_ {i : Int} (h : mid i = true) : -(2 ^ 62) < i ∧ i < 2 ^ 62 := by
  have h := of_decide_eq_true h
  omega
/-- a * b: ints, a list times an int -/
def hMul : D → D → Sto → Res D
  | .int i, .int j, l => if mulOk i j then .ok (.int (i * j)) l else .bad
  | .adr n, .int k, l => match l[n]? with
    | some (.lst xs) => if small (xs.length * k.toNat) && mid k then .ok (.adr l.length) (l ++ [.lst (List.replicate k.toNat xs).flatten]) else .bad
    | _ => .bad
  | _, _, _ => .bad
def rMulA : R2 := fun x y H Q => rI CMulW (fun i j => .int (i * j)) x y H Q ∨ rRep x y H Q
theorem op_mulA : OpR X (binaryOp .Mult) rMulA := OpR.or op_mulW op_rep
theorem hs_mul : OpS X.K E rMulA hMul := fun ρ l H dx dy x y Q o rx ry p => by
  cases dx with
  | int i =>
    cases dy with
    | int j =>
      obtain ⟨h, p⟩ := Post.ite p
      rw [rx.int_, ry.int_]
      exact .inl ⟨i, j, rfl, rfl, (by unfold CMulW; exact of_decide_eq_true h), p.here o rw_int⟩
    | _ => exact p.elim
  | adr n =>
    cases dy with
    | int k =>
      simp only [hMul] at p
      split at p
      · rename_i xs e1
        obtain ⟨hc, p⟩ := Post.ite p
        rw [Bool.and_eq_true] at hc
        obtain ⟨a, vs, rfl, _, h1, r1⟩ := o.lst rx e1
        rw [ry.int_]
        have b1 := (mid_ hc.2).2
        have b2 := (mid_ hc.2).1
        exact .inr ⟨a, k, vs, rfl, rfl, h1, by omega, by omega, by rw [r1.length]; exact small_le hc.1, fun q hq => Post.mkL o (r1.rep _) p hq⟩
      · exact p.elim
    | _ => exact p.elim
  | _ => exact p.elim
theorem ae_mul (ha : AE X E a fa) (hb : AE X E b fb) : AE X E (.BinOp a .Mult b pos) (dOp hMul fa fb) := ae_op2 (pe_op op_mulA ha.pe hb.pe) hs_mul

/-! ### one operand -/
def dUn (h : D → Sto → Res D) (fa : DE) : DE := fun g l => (fa g l).bind fun x l1 => h x l1
def hNeg : D → Sto → Res D
  | .int i, l => .ok (.int (-i)) l
  | _, _ => .bad
theorem ae_neg (ha : AE X E a fa) : AE X E (.UnaryOp .USub a pos) (dUn hNeg fa) := ⟨PE.imp (pe_un un_neg ha.pe) fun σ H Q ⟨ρ, l, g, o, s, p⟩ => by
  refine ⟨ρ, l, g, o, s, Post.bind p fun x l1 ρ1 H1 v e1 s1 o1 r1 p1 => ?_⟩
  cases x with
  | int i => rw [r1.int_]; exact ⟨i, rfl, p1.here o1 rw_int⟩
  | _ => exact p1.elim⟩
end
end Zb

set_option Elab.async false
set_option linter.all false
set_option maxRecDepth 100000
namespace Zb
open PySem L2
/-! ### data as data -/
mutual
def py : D → PyData
  | .non => .none | .bl b => .bool b | .int i => .int i | .str s => .str s | .ty _ => .none | .adr _ => .none | .ro _ => .none
  | .tup ds => .tuple (pys ds)
def pys : List D → List PyData
  | [] => []
  | d :: ds => py d :: pys ds
end
mutual
def pu : D → Bool
  | .ty _ => false | .adr _ => false | .ro _ => false | .tup ds => pus ds | _ => true
def pus : List D → Bool
  | [] => true
  | d :: ds => pu d && pus ds
end
def sh (d : D) : Bool := pu d && SeqAt.shaped (py d)
mutual
theorem dp_of {K : PySem.W.Frag} {ρ : List Addr} {H : Hp} : ∀ (d : D) (v : V), pu d = true → Rw K ρ H d v → Dp K H v (py d)
  | .non, v, _, r => by rw [r.non_]; exact .non
  | .bl b, v, _, r => by rw [r.bl_]; exact .bl b
  | .int b, v, _, r => by rw [r.int_]; exact .int b
  | .str b, v, _, r => by rw [r.str_]; exact .str b
  | .ty _, _, h, _ => by simp [pu] at h
  | .adr _, _, h, _ => by simp [pu] at h
  | .ro _, _, h, _ => by simp [pu] at h
  | .tup ds, v, h, r => by
    obtain ⟨a, vs, rfl, t, q⟩ := r.tup_
    exact .tup t (dps_of ds vs (by simpa [pu] using h) q)
theorem dps_of {K : PySem.W.Frag} {ρ : List Addr} {H : Hp} : ∀ (ds : List D) (vs : List V), pus ds = true → Rws K ρ H ds vs → DpAll K H vs (pys ds)
  | [], vs, _, r => by simp only [Rws] at r; subst r; exact .nil
  | d :: ds, vs, h, r => by
    simp only [Rws] at r
    obtain ⟨v, u, rfl, r1, r2⟩ := r
    simp only [pus, Bool.and_eq_true] at h
    exact .cons (dp_of d v h.1 r1) (dps_of ds u h.2 r2)
end
def fv : D → V
  | .non => .non | .bl b => .bl b | .int i => .int i | .str s => .str s | .ty n => .ty n | _ => .ref 0
def flatD : D → Bool
  | .non => true | .bl _ => true | .int _ => true | .str _ => true | _ => false
section
variable {K : PySem.W.Frag} {ρ : List Addr} {H : Hp}
theorem fv_of {d : D} {v : V} (h : flatD d = true) (r : Rw K ρ H d v) : v = fv d ∧ flatV v = true := by
  cases d with
  | non => rw [r.non_]; exact ⟨rfl, rfl⟩
  | bl b => rw [r.bl_]; exact ⟨rfl, rfl⟩
  | int b => rw [r.int_]; exact ⟨rfl, rfl⟩
  | str b => rw [r.str_]; exact ⟨rfl, rfl⟩
  | _ => cases h
theorem fvs_of : ∀ {ds : List D} {vs : List V}, ds.all flatD = true → Rws K ρ H ds vs → vs = ds.map fv ∧ vs.all flatV = true
  | [], vs, _, r => by simp only [Rws] at r; subst r; exact ⟨rfl, rfl⟩
  | d :: ds, vs, h, r => by
    simp only [Rws] at r
    obtain ⟨v, u, rfl, r1, r2⟩ := r
    rw [List.all_cons, Bool.and_eq_true] at h
    obtain ⟨e1, e2⟩ := fv_of h.1 r1
    obtain ⟨e3, e4⟩ := fvs_of h.2 r2
    exact ⟨by rw [e1, e3]; rfl, by rw [List.all_cons, e2, e4]; rfl⟩
end
def hEq : D → D → Sto → Res D
  | .int i, .int j, l => .ok (.bl (decide (i = j))) l
  | .str i, .str j, l => .ok (.bl (decide (i = j))) l
  | .bl i, .bl j, l => .ok (.bl (decide (i = j))) l
  | dx, dy, l => if sh dx && sh dy then .ok (.bl (PyData.eqv (py dx) (py dy))) l else .bad
def hNe : D → D → Sto → Res D
  | .int i, .int j, l => .ok (.bl (!decide (i = j))) l
  | .str i, .str j, l => .ok (.bl (!decide (i = j))) l
  | .bl i, .bl j, l => .ok (.bl (!decide (i = j))) l
  | dx, dy, l => if sh dx && sh dy then .ok (.bl (!PyData.eqv (py dx) (py dy))) l else .bad
section
variable {X : Cx} {E : XK} {a b c e : Expr} {es : List Expr} {fa fb fc f : DE} {fs : DEs} {ba bb : DB} {pos : Pos} {rest : List Expr}
def rEqA (K : PySem.W.Frag) : R2 := fun x y H Q => rEq x y H Q ∨ rEqD K x y H Q
def rNeA (K : PySem.W.Frag) : R2 := fun x y H Q => rNe x y H Q ∨ rNeD K x y H Q
theorem deep_of {K : PySem.W.Frag} {ρ : List Addr} {H : Hp} {dx dy : D} {x y : V} (hc : (sh dx && sh dy) = true) (rx : Rw K ρ H dx x) (ry : Rw K ρ H dy y) :
    Dp K H x (py dx) ∧ Dp K H y (py dy) ∧ SeqAt.shaped (py dx) = true ∧ SeqAt.shaped (py dy) = true := by
  simp only [sh, Bool.and_eq_true] at hc
  exact ⟨dp_of dx x hc.1.1 rx, dp_of dy y hc.2.1 ry, hc.1.2, hc.2.2⟩
theorem dc_int {i j : Int} : decide (V.int i = V.int j) = decide (i = j) := by simp
theorem dc_str {i j : Str} : decide (V.str i = V.str j) = decide (i = j) := by simp
theorem dc_bl {i j : Bool} : decide (V.bl i = V.bl j) = decide (i = j) := by simp
theorem hs_eq : OpS X.K E (rEqA X.K) hEq := fun ρ l H dx dy x y Q o rx ry p => by
  unfold hEq at p
  split at p
  · rw [rx.int_, ry.int_]
    refine .inl ⟨rfl, ?_⟩
    rw [dc_int]
    exact p.here o rw_bl
  · rw [rx.str_, ry.str_]
    refine .inl ⟨rfl, ?_⟩
    rw [dc_str]
    exact p.here o rw_bl
  · rw [rx.bl_, ry.bl_]
    refine .inl ⟨rfl, ?_⟩
    rw [dc_bl]
    exact p.here o rw_bl
  · obtain ⟨hc, p⟩ := Post.ite p
    obtain ⟨h1, h2, h3, h4⟩ := deep_of hc rx ry
    exact .inr ⟨_, _, h1, h2, h3, h4, p.here o rw_bl⟩
theorem hs_ne : OpS X.K E (rNeA X.K) hNe := fun ρ l H dx dy x y Q o rx ry p => by
  unfold hNe at p
  split at p
  · rw [rx.int_, ry.int_]
    refine .inl ⟨rfl, ?_⟩
    rw [dc_int]
    exact p.here o rw_bl
  · rw [rx.str_, ry.str_]
    refine .inl ⟨rfl, ?_⟩
    rw [dc_str]
    exact p.here o rw_bl
  · rw [rx.bl_, ry.bl_]
    refine .inl ⟨rfl, ?_⟩
    rw [dc_bl]
    exact p.here o rw_bl
  · obtain ⟨hc, p⟩ := Post.ite p
    obtain ⟨h1, h2, h3, h4⟩ := deep_of hc rx ry
    exact .inr ⟨_, _, h1, h2, h3, h4, p.here o rw_bl⟩
theorem ae_eq (hu : X.A.units + 64 < cLine) (ha : AE X E a fa) (hb : AE X E b fb) : AE X E (.Compare a [.Eq] [b] pos) (dOp hEq fa fb) := ae_op2 (pe_cmpR (OpR.or op_eq (op_eqD hu)) ha.pe hb.pe (nomark _)) hs_eq
theorem ae_ne (hu : X.A.units + 64 < cLine) (ha : AE X E a fa) (hb : AE X E b fb) : AE X E (.Compare a [.NotEq] [b] pos) (dOp hNe fa fb) := ae_op2 (pe_cmpR (OpR.or op_ne (op_neD hu)) ha.pe hb.pe (nomark _)) hs_ne
def hCmp (f : Int → Int → Bool) : D → D → Sto → Res D
  | .int i, .int j, l => .ok (.bl (f i j)) l
  | _, _, _ => .bad
theorem hs_cmp {f : Int → Int → Bool} : OpS X.K E (rI0 fun i j => .bl (f i j)) (hCmp f) := fun ρ l H dx dy x y Q o rx ry p => by
  unfold hCmp at p
  split at p
  · rw [rx.int_, ry.int_]
    exact ⟨_, _, rfl, rfl, p.here o rw_bl⟩
  · exact p.elim
theorem ae_lt (ha : AE X E a fa) (hb : AE X E b fb) : AE X E (.Compare a [.Lt] [b] pos) (dOp (hCmp fun i j => decide (i < j)) fa fb) := ae_op2 (pe_cmpR op_lt ha.pe hb.pe (nomark _)) hs_cmp
theorem ae_le (ha : AE X E a fa) (hb : AE X E b fb) : AE X E (.Compare a [.LtE] [b] pos) (dOp (hCmp fun i j => decide (i ≤ j)) fa fb) := ae_op2 (pe_cmpR op_le ha.pe hb.pe (nomark _)) hs_cmp
theorem ae_gt (ha : AE X E a fa) (hb : AE X E b fb) : AE X E (.Compare a [.Gt] [b] pos) (dOp (hCmp fun i j => decide (j < i)) fa fb) := ae_op2 (pe_cmpR op_gt ha.pe hb.pe (nomark _)) hs_cmp
theorem ae_ge (ha : AE X E a fa) (hb : AE X E b fb) : AE X E (.Compare a [.GtE] [b] pos) (dOp (hCmp fun i j => decide (j ≤ i)) fa fb) := ae_op2 (pe_cmpR op_ge ha.pe hb.pe (nomark _)) hs_cmp
/-- is None -/
def isN : D → Bool
  | .non => true | _ => false
def hIsN : D → D → Sto → Res D
  | x, .non, l => .ok (.bl (isN x)) l
  | _, _, _ => .bad
def hNotN : D → D → Sto → Res D
  | x, .non, l => .ok (.bl (!isN x)) l
  | _, _, _ => .bad
theorem isN_of {K : PySem.W.Frag} {ρ : List Addr} {H : Hp} {d : D} {v : V} (r : Rw K ρ H d v) : decide (v = .non) = isN d := by
  cases d with
  | non => rw [r.non_]; rfl
  | bl b => rw [r.bl_]; rfl
  | int b => rw [r.int_]; rfl
  | str b => rw [r.str_]; rfl
  | ty b => rw [r.ty_]; rfl
  | adr n => simp only [Rw] at r; obtain ⟨a, _, rfl⟩ := r; rfl
  | ro n => simp only [Rw] at r; obtain ⟨a, rfl, _⟩ := r; rfl
  | tup ds => obtain ⟨a, _, rfl, _⟩ := r.tup_; rfl
theorem ae_isN (ha : AE X E a fa) (hb : AE X E b fb) : AE X E (.Compare a [.Is] [b] pos) (dOp hIsN fa fb) := ae_op2 (pe_cmpR op_isN ha.pe hb.pe (nomark _)) fun ρ l H dx dy x y Q o rx ry p => by
  unfold hIsN at p
  split at p
  · rw [ry.non_]
    exact ⟨rfl, by rw [isN_of rx]; exact p.here o rw_bl⟩
  · exact p.elim
theorem ae_notN (ha : AE X E a fa) (hb : AE X E b fb) : AE X E (.Compare a [.IsNot] [b] pos) (dOp hNotN fa fb) := ae_op2 (pe_cmpR op_notN ha.pe hb.pe (nomark _)) fun ρ l H dx dy x y Q o rx ry p => by
  unfold hNotN at p
  split at p
  · rw [ry.non_]
    exact ⟨rfl, by rw [isN_of rx]; exact p.here o rw_bl⟩
  · exact p.elim
/-- in, not in: of flat things in a list, a tuple -/
def itemsOf (y : D) (l : Sto) : Option (List D) := match y with
  | .tup ds => some ds
  | .adr n => match l[n]? with
    | some (.lst ds) => some ds
    | _ => none
  | _ => none
def hIn (neg : Bool) (x y : D) (l : Sto) : Res D := match itemsOf y l with
  | some ds => if flatD x && ds.all flatD then .ok (.bl (if neg then !inV (fv x) (ds.map fv) else inV (fv x) (ds.map fv))) l else .bad
  | none => .bad
theorem items_of {K : PySem.W.Frag} {ρ : List Addr} {H : Hp} {l : Sto} {d : D} {v : V} {ds : List D} (o : Own K ρ l H) (r : Rw K ρ H d v) (h : itemsOf d l = some ds) :
    ∃ p vs, v = .ref p ∧ (SqL K H p vs ∨ SqT K H p vs) ∧ Rws K ρ H ds vs := by
  cases d with
  | tup es =>
    have e : es = ds := Option.some.inj h
    subst e
    obtain ⟨a, vs, rfl, t, q⟩ := r.tup_
    exact ⟨a, vs, rfl, .inr t, q⟩
  | adr n =>
    unfold itemsOf at h
    simp only at h
    split at h
    · rename_i es e1
      cases h
      obtain ⟨a, vs, rfl, _, h1, r1⟩ := o.lst r e1
      exact ⟨a, vs, rfl, .inl (SqL.of h1), r1⟩
    · cases h
  | _ => cases h
theorem hs_in {neg : Bool} : OpS X.K E (rIn X.K neg) (hIn neg) := fun ρ l H dx dy x y Q o rx ry p => by
  unfold hIn at p
  split at p
  · rename_i ds e
    obtain ⟨hc, p⟩ := Post.ite p
    rw [Bool.and_eq_true] at hc
    obtain ⟨a, vs, rfl, sq, r⟩ := items_of o ry e
    obtain ⟨e1, e2⟩ := fv_of hc.1 rx
    obtain ⟨e3, e4⟩ := fvs_of hc.2 r
    refine ⟨a, vs, rfl, sq, e2, e4, ?_⟩
    rw [e1, e3]
    exact p.here o rw_bl
  · exact p.elim
theorem ae_in (ha : AE X E a fa) (hb : AE X E b fb) (hm : behindInMarks .In b = false := by rfl) : AE X E (.Compare a [.In] [b] pos) (dOp (hIn false) fa fb) := ae_op2 (pe_cmpR op_in_seq ha.pe hb.pe hm) hs_in
theorem ae_notIn (ha : AE X E a fa) (hb : AE X E b fb) (hm : behindInMarks .NotIn b = false := by rfl) : AE X E (.Compare a [.NotIn] [b] pos) (dOp (hIn true) fa fb) := ae_op2 (pe_cmpR op_notIn_seq ha.pe hb.pe hm) hs_in

/-! ### truth -/
def tru : D → Sto → Option Bool
  | .non, _ => some false
  | .bl b, _ => some b
  | .int i, _ => some (i != 0)
  | .str y, _ => if small y.length then some ((y.length : Int) != 0) else none
  | .tup ds, _ => some (!ds.isEmpty)
  | .adr n, l => match l[n]? with
    | some (.lst ds) => some (!ds.isEmpty)
    | _ => none
  | _, _ => none
theorem emp_of {K : PySem.W.Frag} {ρ : List Addr} {H : Hp} {ds : List D} {vs : List V} (r : Rws K ρ H ds vs) : vs.isEmpty = ds.isEmpty := by
  have := r.length
  cases vs <;> cases ds <;> simp_all
theorem tru_of {K : PySem.W.Frag} {ρ : List Addr} {H : Hp} {l : Sto} {d : D} {v : V} {k : Bool} (o : Own K ρ l H) (r : Rw K ρ H d v) (h : tru d l = some k) : TruV K v H k := by
  cases d with
  | non => rw [r.non_]; exact (Option.some.inj h).symm
  | bl b => rw [r.bl_]; exact (Option.some.inj h).symm
  | int b => rw [r.int_]; exact (Option.some.inj h).symm
  | str b =>
    rw [r.str_]
    simp only [tru] at h
    split at h
    · rename_i hs; exact ⟨small_le hs, (Option.some.inj h).symm⟩
    · cases h
  | ty b => cases h
  | ro b => cases h
  | adr n =>
    simp only [tru] at h
    split at h
    · rename_i es e1
      obtain ⟨a, vs, rfl, _, h1, r1⟩ := o.lst r e1
      exact .inl ⟨vs, SqL.of h1, by rw [emp_of r1]; exact (Option.some.inj h).symm⟩
    · cases h
  | tup ds =>
    obtain ⟨a, vs, rfl, t, q⟩ := r.tup_
    exact .inr (.inl ⟨vs, t, by rw [emp_of q]; exact (Option.some.inj h).symm⟩)
def dTru (f : DE) : DB := fun g l => (f g l).bind fun d l1 => match tru d l1 with
  | some k => .ok k l1
  | none => .bad
theorem at_val (h : AE X E e f) (he : ∀ whole, isTrue e X.env whole = (do let v ← whole; standAt e.pos; holding [v] (truthy v)) := by intro _; rfl) : AT X E e (dTru f) := ⟨PT.imp (pt_truth h.pe he) fun σ H Q ⟨ρ, l, g, o, s, p⟩ => by
  refine ⟨ρ, l, g, o, s, Post.bind p fun x l1 ρ1 H1 v e1 s1 o1 r1 p1 => ?_⟩
  split at p1
  · rename_i k hk
    exact ⟨k, tru_of o1 r1 hk, p1.here o1 rfl⟩
  · exact p1.elim⟩
/-- and, or, not as tests -/
structure AW (X : Cx) (E : XK) (e : Expr) (f : DB) : Prop where
  pw : PW X e (ttOf X.K E f)
theorem PW.imp {X : Cx} {e : Expr} {t u : TT} (h : PW X e t) (q : ∀ σ H Q, u σ H Q → t σ H Q) : PW X e u := ⟨fun wh pins s σ H Q I k => h.run wh pins s σ H Q I (q σ H Q k)⟩
def dAnd (f h : DB) : DB := fun g l => (f g l).bind fun b l1 => if b = true then h g l1 else .ok false l1
def dOr (f h : DB) : DB := fun g l => (f g l).bind fun b l1 => if b = true then .ok true l1 else h g l1
def dNot (f : DB) : DB := fun g l => (f g l).bind fun b l1 => .ok (!b) l1
theorem aw_and1 (h : AT X E a ba) : AW X E (.BoolOp .And [a] pos) ba := ⟨pw_and1 h.pt⟩
theorem aw_or1 (h : AT X E a ba) : AW X E (.BoolOp .Or [a] pos) ba := ⟨pw_or1 h.pt⟩
theorem aw_and (h : AT X E a ba) (k : AW X E (.BoolOp .And (b :: rest) pos) bb) : AW X E (.BoolOp .And (a :: b :: rest) pos) (dAnd ba bb) := ⟨PW.imp (pw_and h.pt k.pw) fun σ H Q ⟨ρ, l, g, o, s, p⟩ => by
  refine ⟨ρ, l, g, o, s, Post.bind p fun x l1 ρ1 H1 v e1 s1 o1 r1 p1 => ?_⟩
  cases r1
  cases x with
  | true => exact ⟨ρ1, l1, g, o1, s.step s1 o, p1⟩
  | false => exact p1.here o1 rfl⟩
theorem aw_or (h : AT X E a ba) (k : AW X E (.BoolOp .Or (b :: rest) pos) bb) : AW X E (.BoolOp .Or (a :: b :: rest) pos) (dOr ba bb) := ⟨PW.imp (pw_or h.pt k.pw) fun σ H Q ⟨ρ, l, g, o, s, p⟩ => by
  refine ⟨ρ, l, g, o, s, Post.bind p fun x l1 ρ1 H1 v e1 s1 o1 r1 p1 => ?_⟩
  cases r1
  cases x with
  | false => exact ⟨ρ1, l1, g, o1, s.step s1 o, p1⟩
  | true => exact p1.here o1 rfl⟩
theorem at_w (h : AW X E e ba) : AT X E e ba := ⟨h.pw.pt⟩
theorem at_not (h : AT X E a ba) : AT X E (.UnaryOp .Not a pos) (dNot ba) := ⟨PT.imp (pt_not h.pt) fun σ H Q ⟨ρ, l, g, o, s, p⟩ => by
  refine ⟨ρ, l, g, o, s, Post.bind p fun x l1 ρ1 H1 v e1 s1 o1 r1 p1 => ?_⟩
  cases r1
  exact p1.here o1 rfl⟩
/-- .. as values -/
def dIfE (c : DB) (f h : DE) : DE := fun g l => (c g l).bind fun b l1 => if b = true then f g l1 else h g l1
theorem ae_if (h : AT X E c ba) (h1 : AE X E a fa) (h2 : AE X E b fb) : AE X E (.IfExp c a b pos) (dIfE ba fa fb) := ⟨PE.imp (pe_ifExp h.pt h1.pe h2.pe) fun σ H Q ⟨ρ, l, g, o, s, p⟩ => by
  refine ⟨ρ, l, g, o, s, Post.bind p fun x l1 ρ1 H1 v e1 s1 o1 r1 p1 => ?_⟩
  cases r1
  cases x with
  | false => exact ⟨ρ1, l1, g, o1, s.step s1 o, p1⟩
  | true => exact ⟨ρ1, l1, g, o1, s.step s1 o, p1⟩⟩
def dAndV (f h : DE) : DE := fun g l => (f g l).bind fun b l1 => match b with
  | .bl true => h g l1
  | .bl false => .ok (.bl false) l1
  | _ => .bad
def dOrV (f h : DE) : DE := fun g l => (f g l).bind fun b l1 => match b with
  | .bl false => h g l1
  | .bl true => .ok (.bl true) l1
  | _ => .bad
theorem ae_one {op} (h : AE X E a fa) : AE X E (.BoolOp op [a] pos) fa := ⟨pe_one h.pe⟩
theorem ae_and (h : AE X E a fa) (k : AE X E (.BoolOp .And (b :: rest) pos) fb) : AE X E (.BoolOp .And (a :: b :: rest) pos) (dAndV fa fb) := ⟨PE.imp (pe_and h.pe k.pe) fun σ H Q ⟨ρ, l, g, o, s, p⟩ => by
  refine ⟨ρ, l, g, o, s, Post.bind p fun x l1 ρ1 H1 v e1 s1 o1 r1 p1 => ?_⟩
  split at p1
  · rw [r1.bl_]; exact ⟨true, rfl, ⟨ρ1, l1, g, o1, s.step s1 o, p1⟩⟩
  · rw [r1.bl_]; exact ⟨false, rfl, p1.here o1 rw_bl⟩
  · exact p1.elim⟩
theorem ae_or (h : AE X E a fa) (k : AE X E (.BoolOp .Or (b :: rest) pos) fb) : AE X E (.BoolOp .Or (a :: b :: rest) pos) (dOrV fa fb) := ⟨PE.imp (pe_or h.pe k.pe) fun σ H Q ⟨ρ, l, g, o, s, p⟩ => by
  refine ⟨ρ, l, g, o, s, Post.bind p fun x l1 ρ1 H1 v e1 s1 o1 r1 p1 => ?_⟩
  split at p1
  · rw [r1.bl_]; exact ⟨false, rfl, ⟨ρ1, l1, g, o1, s.step s1 o, p1⟩⟩
  · rw [r1.bl_]; exact ⟨true, rfl, p1.here o1 rw_bl⟩
  · exact p1.elim⟩
def dNotV (f : DE) : DE := fun g l => (f g l).bind fun b l1 => match b with
  | .bl k => .ok (.bl (!k)) l1
  | _ => .bad
theorem ae_not (h : AE X E a fa) : AE X E (.UnaryOp .Not a pos) (dNotV fa) := ⟨PE.imp (pe_not h.pe) fun σ H Q ⟨ρ, l, g, o, s, p⟩ => by
  refine ⟨ρ, l, g, o, s, Post.bind p fun x l1 ρ1 H1 v e1 s1 o1 r1 p1 => ?_⟩
  split at p1
  · rw [r1.bl_]; exact ⟨_, rfl, p1.here o1 rw_bl⟩
  · exact p1.elim⟩
/-- a < b < c -/
def dChain (h1 h2 : D → D → Sto → Res D) (fa fb fc : DE) : DE := fun g l => (fa g l).bind fun x l1 => (fb g l1).bind fun y l2 => (h1 x y l2).bind fun z l3 => match z with
  | .bl true => (fc g l3).bind fun w l4 => h2 y w l4
  | .bl false => .ok (.bl false) l3
  | _ => .bad
theorem chain_of {K : PySem.W.Frag} {r r' : R2} {h1 h2 : D → D → Sto → Res D} (s1 : OpS K E r h1) (s2 : OpS K E r' h2) {σ H Q} (h : teOf K E (dChain h1 h2 fa fb fc) σ H Q) : tChain r r' (teOf K E fa) (teOf K E fb) (teOf K E fc) σ H Q := by
  obtain ⟨ρ, l, g, o, s, p⟩ := h
  refine ⟨ρ, l, g, o, s, Post.bind p fun x l1 ρ1 H1 v e1 st1 o1 r1 p1 => ?_⟩
  refine ⟨ρ1, l1, g, o1, s.step st1 o, Post.bind p1 fun y l2 ρ2 H2 u e2 st2 o2 r2 p2 => ?_⟩
  refine s1 ρ2 l2 H2 x y v u _ o2 (st2.rw o1 r1) r2 (Post.bind p2 fun z l3 ρ3 H3 zv e3 st3 o3 r3 p3 => ?_)
  have s2' := (s.step st1 o).step st2 o1
  split at p3
  · rw [r3.bl_]
    refine ⟨true, rfl, ?_⟩
    refine ⟨ρ3, l3, g, o3, s2'.step st3 o2, Post.bind p3 fun w l4 ρ4 H4 wv e4 st4 o4 r4 p4 => ?_⟩
    exact s2 ρ4 l4 H4 y w u wv Q o4 (st4.rw o3 (st3.rw o2 r2)) r4 p4
  · rw [r3.bl_]
    exact ⟨false, rfl, p3.here o3 rw_bl⟩
  · exact p3.elim
theorem ae_chain {op op' : CmpOp} {r r' : R2} {h1 h2 : D → D → Sto → Res D} (ho : OpR X (compareOp op) r) (ho' : OpR X (compareOp op') r') (s1 : OpS X.K E r h1) (s2 : OpS X.K E r' h2) (ha : AE X E a fa) (hb : AE X E b fb) (hc : AE X E c fc) (hm : lastMarks [op, op'] [b, c] = false := by rfl) :
    AE X E (.Compare a [op, op'] [b, c] pos) (dChain h1 h2 fa fb fc) := ⟨PE.imp (pe_chain ho ho' ha.pe hb.pe hc.pe hm) fun σ H Q h => chain_of s1 s2 h⟩
end
end Zb

set_option Elab.async false
set_option linter.all false
set_option maxRecDepth 100000
namespace Zb
open PySem L2
section
variable {X : Cx} {E : XK} {a b c e : Expr} {es : List Expr} {fa fb fc f : DE} {fs : DEs} {ba bb : DB} {pos p2 : Pos} {rest : List Expr}
/-! ### subscripts -/
def okO (o : Option D) (l : Sto) : Res D := match o with
  | some d => .ok d l
  | none => .bad
def hIx : D → D → Sto → Res D
  | .tup ds, .int i, l => okO (atI ds i) l
  | .adr n, .int i, l => match l[n]? with
    | some (.lst ds) => okO (atI ds i) l
    | _ => .bad
  | .str z, .int i, l => if small z.length then okO ((atI z.cps.toList i).map fun c => .str ⟨#[c]⟩) l else .bad
  | _, _, _ => .bad
theorem at_rws {K : PySem.W.Frag} {ρ : List Addr} {H : Hp} {ds : List D} {vs : List V} {i : Int} {d : D} (r : Rws K ρ H ds vs) (h : atI ds i = some d) : ∃ v, atI vs i = some v ∧ Rw K ρ H d v := by
  unfold atI at h ⊢
  rw [r.length]
  cases q : ixN ds.length i with
  | none => rw [q] at h; cases h
  | some j =>
    rw [q] at h
    exact r.get h
theorem Post.okO_ {K : PySem.W.Frag} {ρ : List Addr} {l : Sto} {H : Hp} {o : Option D} {Q : VK} (h : Post K E ρ H (rD K) (okO o l) Q) : ∃ d, o = some d ∧ Post K E ρ H (rD K) (.ok d l) Q := by
  cases o with
  | none => exact h.elim
  | some d => exact ⟨d, rfl, h⟩
theorem hs_ix : OpS X.K E (rIx X.K) hIx := fun ρ l H dx dy x y Q o rx ry p => by
  unfold hIx at p
  split at p
  · obtain ⟨d, e, p⟩ := p.okO_
    obtain ⟨q, vs, rfl, t, r⟩ := rx.tup_
    obtain ⟨v, e2, r2⟩ := at_rws r e
    rw [ry.int_]
    exact .inr (.inl ⟨q, vs, _, v, rfl, rfl, t, e2, p.here o r2⟩)
  · split at p
    · rename_i es e1
      obtain ⟨d, e, p⟩ := p.okO_
      obtain ⟨q, vs, rfl, _, h1, r⟩ := o.lst rx e1
      obtain ⟨v, e2, r2⟩ := at_rws r e
      rw [ry.int_]
      exact .inl ⟨q, vs, _, v, rfl, rfl, SqL.of h1, e2, p.here o r2⟩
    · exact p.elim
  · rename_i z i
    obtain ⟨hc, p⟩ := Post.ite p
    obtain ⟨d, e, p⟩ := p.okO_
    cases q : atI z.cps.toList i with
    | none => rw [q] at e; cases e
    | some c =>
      rw [q] at e
      cases e
      rw [rx.str_, ry.int_]
      exact .inr (.inr ⟨z, i, c, rfl, rfl, small_le hc, q, p.here o rw_str⟩)
  · exact p.elim
theorem ae_ix (ha : AE X E a fa) (hb : AE X E b fb) (hs : PlainIx b := by intro _ _; rfl) : AE X E (.Subscript a b pos) (dOp hIx fa fb) := ae_op2 (pe_ix ix_seq ha.pe hb.pe hs) hs_ix

/-! ### slices -/
def cutG {α : Type} (xs : List α) (lo hi : Option Int) : List α := (xs.drop (HT.sIx xs.length 0 lo)).take (HT.sIx xs.length xs.length hi - HT.sIx xs.length 0 lo)
theorem cut_rws {K : PySem.W.Frag} {ρ : List Addr} {H : Hp} {ds : List D} {vs : List V} (r : Rws K ρ H ds vs) (lo hi : Option Int) : Rws K ρ H (cutG ds lo hi) (cutV vs lo hi) := by
  unfold cutG cutV
  rw [r.length]
  exact (r.drop _).take _
theorem cut_map {α : Type} (g : Int → α) (ns : List Int) (lo hi : Option Int) : (cutG ns lo hi).map g = cutG (ns.map g) lo hi := by
  unfold cutG
  rw [List.length_map, List.map_take, List.map_drop]
theorem rws_ints {K : PySem.W.Frag} {ρ : List Addr} {H : Hp} : ∀ ns : List Int, Rws K ρ H (ns.map D.int) (ns.map V.int)
  | [] => Rws.nil
  | n :: ns => Rws.cons rw_int (rws_ints ns)
def hSl : D → Option Int → Option Int → Sto → Res D
  | .tup ds, lo, hi, l => .ok (.tup (cutG ds lo hi)) l
  | .adr n, lo, hi, l => match l[n]? with
    | some (.lst ds) => .ok (.adr l.length) (l ++ [.lst (cutG ds lo hi)])
    | _ => .bad
  | .ro ns, lo, hi, l => .ok (.adr l.length) (l ++ [.lst ((cutG ns lo hi).map D.int)])
  | _, _, _, _ => .bad
def rSlZ (K : PySem.W.Frag) : V → Option Int → Option Int → Hp → VK → Prop := fun x lo hi H Q => rSlL K x lo hi H Q ∨ rSlA K x lo hi H Q
theorem sl_any : SlR X (rSlZ X.K) := SlR.or sl_list sl_tupA
theorem whole_cut {α : Type} {xs : List α} {lo hi : Option Int} (h : HT.sIx xs.length 0 lo = 0 ∧ HT.sIx xs.length xs.length hi = xs.length) : cutG xs lo hi = xs := by
  unfold cutG
  rw [h.1, h.2]; simp
theorem sl_ok {K : PySem.W.Frag} {ρ : List Addr} {l : Sto} {H : Hp} {d : D} {x : V} {lo hi : Option Int} {Q : VK} (o : Own K ρ l H) (r : Rw K ρ H d x) (p : Post K E ρ H (rD K) (hSl d lo hi l) Q) : rSlZ K x lo hi H Q := by
  unfold hSl at p
  split at p
  · obtain ⟨a, vs, rfl, t, q⟩ := r.tup_
    refine .inr ⟨a, vs, rfl, t, fun e => ?_, fun _ z hz => Post.mkT o (cut_rws q _ _) p hz⟩
    rw [q.length] at e
    rw [whole_cut e] at p
    exact p.here o r
  · split at p
    · rename_i es e1
      obtain ⟨a, vs, rfl, _, h1, q⟩ := o.lst r e1
      exact .inl ⟨a, vs, rfl, SqL.of h1, fun z hz => Post.mkL o (cut_rws q _ _) p hz⟩
    · exact p.elim
  · simp only [Rw] at r
    obtain ⟨a, rfl, sq⟩ := r
    refine .inl ⟨a, _, rfl, sq.sq, fun z hz => ?_⟩
    rw [cut_map] at p
    exact Post.mkL o (cut_rws (rws_ints _) _ _) p hz
  · exact p.elim
structure AO (X : Cx) (E : XK) (e : Option Expr) (f : DO) : Prop where
  po : PO X e (toOf X.K E f)
def dONone : DO := fun _ l => .ok none l
def dOSome (f : DE) : DO := fun g l => (f g l).bind fun d l1 => match d with
  | .int i => .ok (some i) l1
  | _ => .bad
theorem PO.imp {X : Cx} {e : Option Expr} {t u : TO} (h : PO X e t) (q : ∀ σ H Q, u σ H Q → t σ H Q) : PO X e u := ⟨fun pins s σ H Q I k => h.run pins s σ H Q I (q σ H Q k)⟩
theorem ao_none : AO X E none dONone := ⟨PO.imp po_none fun σ H Q ⟨ρ, l, g, o, s, p⟩ => p.here o rfl⟩
theorem ao_some (h : AE X E e f) : AO X E (some e) (dOSome f) := ⟨PO.imp (po_some h.pe) fun σ H Q ⟨ρ, l, g, o, s, p⟩ => by
  refine ⟨ρ, l, g, o, s, Post.bind p fun x l1 ρ1 H1 v e1 s1 o1 r1 p1 => ?_⟩
  split at p1
  · rw [r1.int_]; exact ⟨_, rfl, p1.here o1 rfl⟩
  · exact p1.elim⟩
def dSl (f : DE) (lo hi : DO) : DE := fun g l => (f g l).bind fun d l1 => (lo g l1).bind fun i l2 => (hi g l2).bind fun j l3 => hSl d i j l3
theorem ae_sl {lo hi : Option Expr} {fl fh : DO} (he : AE X E e f) (hl : AO X E lo fl) (hh : AO X E hi fh) : AE X E (.Subscript e (.Slice lo hi none p2) pos) (dSl f fl fh) := ⟨PE.imp (pe_slice sl_any he.pe hl.po hh.po) fun σ H Q ⟨ρ, l, g, o, s, p⟩ => by
  refine ⟨ρ, l, g, o, s, Post.bind p fun x l1 ρ1 H1 v e1 s1 o1 r1 p1 => ?_⟩
  refine ⟨ρ1, l1, g, o1, s.step s1 o, Post.bind p1 fun y l2 ρ2 H2 u e2 s2 o2 r2 p2 => ?_⟩
  cases r2
  refine ⟨ρ2, l2, g, o2, (s.step s1 o).step s2 o1, Post.bind p2 fun z l3 ρ3 H3 w e3 s3 o3 r3 p3 => ?_⟩
  cases r3
  exact sl_ok o3 (s3.rw o2 (s2.rw o1 r1)) p3⟩
/-- xs[::-1] of a list -/
def hRev : D → Sto → Res D
  | .adr n, l => match l[n]? with
    | some (.lst ds) => .ok (.adr l.length) (l ++ [.lst ds.reverse])
    | _ => .bad
  | _, _ => .bad
theorem ae_rev {k : Nat} {p1 p2 p3 : Pos} (he : AE X E e f) : AE X E (.Subscript e (.Slice none none (some (.UnaryOp .USub (.Constant (.int 1) k p1) p2)) p3) pos) (dUn hRev f) := ⟨PE.imp (pe_revL he.pe) fun σ H Q ⟨ρ, l, g, o, s, p⟩ => by
  refine ⟨ρ, l, g, o, s, Post.bind p fun x l1 ρ1 H1 v e1 s1 o1 r1 p1 => ?_⟩
  unfold hRev at p1
  split at p1
  · split at p1
    · rename_i es e1
      obtain ⟨a, vs, rfl, _, h1, q⟩ := o1.lst r1 e1
      exact ⟨a, vs, rfl, SqL.of h1, fun z hz => Post.mkL o1 q.rev p1 hz⟩
    · exact p1.elim
  · exact p1.elim⟩

/-! ### built-in functions -/
def dCB (h : List D → Sto → Res D) (fs : DEs) : DE := fun g l => (fs g l).bind fun ds l1 => h ds l1
def CbS (K : PySem.W.Frag) (E : XK) (r : List V → Hp → VK → Prop) (h : List D → Sto → Res D) : Prop := ∀ ρ l H ds vs Q, Own K ρ l H → Rws K ρ H ds vs → Post K E ρ H (rD K) (h ds l) Q → r vs H Q
theorem ae_cb {r : List V → Hp → VK → Prop} {h : List D → Sto → Res D} (hp : PE X e (tCB r (taOf X.K E fs))) (hs : CbS X.K E r h) : AE X E e (dCB h fs) := ⟨PE.imp hp fun σ H Q ⟨ρ, l, g, o, s, p⟩ => by
  refine ⟨ρ, l, g, o, s, Post.bind p fun x l1 ρ1 H1 v e1 s1 o1 r1 p1 => ?_⟩
  exact hs ρ1 l1 H1 x v Q o1 r1 p1⟩
theorem Rws.one_ {K : PySem.W.Frag} {ρ : List Addr} {H : Hp} {d : D} {vs : List V} (r : Rws K ρ H [d] vs) : ∃ v, vs = [v] ∧ Rw K ρ H d v := by
  simp only [Rws] at r
  obtain ⟨v, u, rfl, r1, rfl⟩ := r
  exact ⟨v, rfl, r1⟩
theorem Rws.two_ {K : PySem.W.Frag} {ρ : List Addr} {H : Hp} {d d' : D} {vs : List V} (r : Rws K ρ H [d, d'] vs) : ∃ v v', vs = [v, v'] ∧ Rw K ρ H d v ∧ Rw K ρ H d' v' := by
  simp only [Rws] at r
  obtain ⟨v, u, rfl, r1, v', u', rfl, r2, rfl⟩ := r
  exact ⟨v, v', rfl, r1, r2⟩
def hLen : List D → Sto → Res D
  | [.tup ds], l => .ok (.int ds.length) l
  | [.adr n], l => match l[n]? with
    | some (.lst ds) => .ok (.int ds.length) l
    | _ => .bad
  | [.ro ns], l => .ok (.int ns.length) l
  | [.str z], l => if small z.length then .ok (.int z.length) l else .bad
  | _, _ => .bad
theorem cs_len : CbS X.K E (fun xs H Q => ∃ x n, xs = [x] ∧ LenV X.K x H n ∧ Q (.int n) H) hLen := fun ρ l H ds vs Q o r p => by
  unfold hLen at p
  split at p
  · obtain ⟨v, rfl, w1⟩ := r.one_
    obtain ⟨a, us, rfl, t, q⟩ := w1.tup_
    exact ⟨_, _, rfl, .inr ⟨us, t, q.length.symm⟩, p.here o rw_int⟩
  · obtain ⟨v, rfl, w1⟩ := r.one_
    split at p
    · rename_i es e1
      obtain ⟨a, us, rfl, _, h1, q⟩ := o.lst w1 e1
      exact ⟨_, _, rfl, .inl ⟨us, SqL.of h1, q.length.symm⟩, p.here o rw_int⟩
    · exact p.elim
  · obtain ⟨v, rfl, w1⟩ := r.one_
    simp only [Rw] at w1
    obtain ⟨a, rfl, sq⟩ := w1
    exact ⟨_, _, rfl, .inl ⟨_, sq.sq, by simp⟩, p.here o rw_int⟩
  · obtain ⟨v, rfl, w1⟩ := r.one_
    obtain ⟨hc, p⟩ := Post.ite p
    rw [w1.str_]
    exact ⟨_, _, rfl, ⟨small_le hc, rfl⟩, p.here o rw_int⟩
  · exact p.elim
theorem ae_len {p : Pos} (hg : Gl X "len") (hm : X.mg "len" = none) (ha : AA X E (e :: es) fs) (he : starEach (e :: es) X.env = (false, eval e X.env) :: starEach es X.env := by rfl) (hpl : (backTo pos (starEach es X.env)).any (·.1) = false := by rfl) : AE X E (.Call (.Name "len" p) (e :: es) [] pos) (dCB hLen fs) := ae_cb (pe_callB call_len hg hm PySem.boot_len ha.pa (he := he) (hpl := hpl)) cs_len
def hAbs : List D → Sto → Res D
  | [.int i], l => .ok (.int (if i < 0 then -i else i)) l
  | _, _ => .bad
theorem ae_abs {p : Pos} (hg : Gl X "abs") (hm : X.mg "abs" = none) (ha : AA X E (e :: es) fs) (he : starEach (e :: es) X.env = (false, eval e X.env) :: starEach es X.env := by rfl) (hpl : (backTo pos (starEach es X.env)).any (·.1) = false := by rfl) : AE X E (.Call (.Name "abs" p) (e :: es) [] pos) (dCB hAbs fs) := ae_cb (pe_callB call_abs hg hm (by decide +kernel) ha.pa (he := he) (hpl := hpl)) fun ρ l H ds vs Q o r p => by
  unfold hAbs at p
  split at p
  · obtain ⟨v, rfl, w1⟩ := r.one_
    rw [w1.int_]
    exact ⟨_, rfl, p.here o rw_int⟩
  · exact p.elim
def hInt1 : List D → Sto → Res D
  | [.int i], l => .ok (.int i) l
  | [.bl b], l => .ok (.int (if b then 1 else 0)) l
  | _, _ => .bad
theorem ae_int1 {p : Pos} (hg : Gl X "int") (hm : X.mg "int" = none) (ha : AA X E (e :: es) fs) (he : starEach (e :: es) X.env = (false, eval e X.env) :: starEach es X.env := by rfl) (hpl : (backTo pos (starEach es X.env)).any (·.1) = false := by rfl) : AE X E (.Call (.Name "int" p) (e :: es) [] pos) (dCB hInt1 fs) := ae_cb (pe_callTy call_int1 hg hm (by decide +kernel) ha.pa (he := he) (hpl := hpl)) fun ρ l H ds vs Q o r p => by
  unfold hInt1 at p
  split at p
  · obtain ⟨v, rfl, w1⟩ := r.one_
    rw [w1.int_]
    exact .inl ⟨_, rfl, p.here o rw_int⟩
  · obtain ⟨v, rfl, w1⟩ := r.one_
    rw [w1.bl_]
    exact .inr ⟨_, rfl, p.here o rw_int⟩
  · exact p.elim
def hMax2 : List D → Sto → Res D
  | [.int i, .int j], l => .ok (.int (if j > i then j else i)) l
  | _, _ => .bad
def hMin2 : List D → Sto → Res D
  | [.int i, .int j], l => .ok (.int (if j < i then j else i)) l
  | _, _ => .bad
theorem ae_max2 {p : Pos} (hc : X.calm = true) (hg : Gl X "max") (hm : X.mg "max" = none) (ha : AA X E (e :: es) fs) (he : starEach (e :: es) X.env = (false, eval e X.env) :: starEach es X.env := by rfl) (hpl : (backTo pos (starEach es X.env)).any (·.1) = false := by rfl) : AE X E (.Call (.Name "max" p) (e :: es) [] pos) (dCB hMax2 fs) := ae_cb (pe_callB (call_max2 hc) hg hm (by decide +kernel) ha.pa (he := he) (hpl := hpl)) fun ρ l H ds vs Q o r p => by
  unfold hMax2 at p
  split at p
  · obtain ⟨v, v', rfl, w1, w2⟩ := r.two_
    rw [w1.int_, w2.int_]
    exact ⟨_, _, rfl, p.here o rw_int⟩
  · exact p.elim
theorem ae_min2 {p : Pos} (hc : X.calm = true) (hg : Gl X "min") (hm : X.mg "min" = none) (ha : AA X E (e :: es) fs) (he : starEach (e :: es) X.env = (false, eval e X.env) :: starEach es X.env := by rfl) (hpl : (backTo pos (starEach es X.env)).any (·.1) = false := by rfl) : AE X E (.Call (.Name "min" p) (e :: es) [] pos) (dCB hMin2 fs) := ae_cb (pe_callB (call_min2 hc) hg hm (by decide +kernel) ha.pa (he := he) (hpl := hpl)) fun ρ l H ds vs Q o r p => by
  unfold hMin2 at p
  split at p
  · obtain ⟨v, v', rfl, w1, w2⟩ := r.two_
    rw [w1.int_, w2.int_]
    exact ⟨_, _, rfl, p.here o rw_int⟩
  · exact p.elim
/-- sum of a list of ints -/
def intsOf : List D → Option (List Int)
  | [] => some []
  | .int i :: r => (intsOf r).map (i :: ·)
  | _ => none
theorem ints_rws {K : PySem.W.Frag} {ρ : List Addr} {H : Hp} : ∀ {ds : List D} {vs : List V} {ns : List Int}, intsOf ds = some ns → Rws K ρ H ds vs → vs = ns.map V.int
  | [], vs, ns, h, r => by simp only [Rws] at r; cases h; subst r; rfl
  | .int i :: ds, vs, ns, h, r => by
    simp only [Rws] at r
    obtain ⟨v, u, rfl, r1, r2⟩ := r
    simp only [intsOf] at h
    cases q : intsOf ds with
    | none => rw [q] at h; cases h
    | some ms =>
      rw [q] at h; cases h
      rw [r1.int_, ints_rws q r2]; rfl
  | .non :: _, _, _, h, _ => by cases h
  | .bl _ :: _, _, _, h, _ => by cases h
  | .str _ :: _, _, _, h, _ => by cases h
  | .ty _ :: _, _, _, h, _ => by cases h
  | .adr _ :: _, _, _, h, _ => by cases h
  | .tup _ :: _, _, _, h, _ => by cases h
  | .ro _ :: _, _, _, h, _ => by cases h
def hSumL : List D → Sto → Res D
  | [.adr n], l => match l[n]? with
    | some (.lst ds) => match intsOf ds with
      | some ns => .ok (.int ns.sum) l
      | none => .bad
    | _ => .bad
  | _, _ => .bad
theorem ae_sumL {p : Pos} (hc : X.calm = true) (hg : Gl X "sum") (hm : X.mg "sum" = none) (ha : AA X E (e :: es) fs) (he : starEach (e :: es) X.env = (false, eval e X.env) :: starEach es X.env := by rfl) (hpl : (backTo pos (starEach es X.env)).any (·.1) = false := by rfl) : AE X E (.Call (.Name "sum" p) (e :: es) [] pos) (dCB hSumL fs) := ae_cb (pe_callB (cr_sum hc) hg hm (by decide +kernel) ha.pa (he := he) (hpl := hpl)) fun ρ l H ds vs Q o r p => by
  unfold hSumL at p
  split at p
  · obtain ⟨v, rfl, w1⟩ := r.one_
    split at p
    · rename_i es e1
      obtain ⟨a, us, rfl, _, h1, q⟩ := o.lst w1 e1
      split at p
      · rename_i ns e2
        have e3 := ints_rws e2 q
        subst e3
        exact ⟨a, ns, rfl, SqL.of h1, p.here o rw_int⟩
      · exact p.elim
    · exact p.elim
  · exact p.elim
/-- tuple(..), list(..) -/
def hTupOf : List D → Sto → Res D
  | [.tup ds], l => .ok (.tup ds) l
  | [.adr n], l => match l[n]? with
    | some (.lst ds) => .ok (.tup ds) l
    | _ => .bad
  | _, _ => .bad
def hLstOf : List D → Sto → Res D
  | [.tup ds], l => .ok (.adr l.length) (l ++ [.lst ds])
  | [.adr n], l => match l[n]? with
    | some (.lst ds) => .ok (.adr l.length) (l ++ [.lst ds])
    | _ => .bad
  | _, _ => .bad
theorem ae_tupOf {p : Pos} (hg : Gl X "tuple") (hm : X.mg "tuple" = none) (ha : AA X E (e :: es) fs) (he : starEach (e :: es) X.env = (false, eval e X.env) :: starEach es X.env := by rfl) (hpl : (backTo pos (starEach es X.env)).any (·.1) = false := by rfl) : AE X E (.Call (.Name "tuple" p) (e :: es) [] pos) (dCB hTupOf fs) := ae_cb (pe_callTy call_tuple_of hg hm (by decide +kernel) ha.pa (he := he) (hpl := hpl)) fun ρ l H ds vs Q o r p => by
  unfold hTupOf at p
  split at p
  · obtain ⟨v, rfl, w1⟩ := r.one_
    obtain ⟨a, us, rfl, t, q⟩ := w1.tup_
    exact ⟨a, us, rfl, .inr ⟨t, p.here o w1⟩⟩
  · obtain ⟨v, rfl, w1⟩ := r.one_
    split at p
    · rename_i es e1
      obtain ⟨a, us, rfl, _, h1, q⟩ := o.lst w1 e1
      exact ⟨a, us, rfl, .inl ⟨SqL.of h1, fun z hz => Post.mkT o q p hz⟩⟩
    · exact p.elim
  · exact p.elim
theorem ae_lstOf {p : Pos} (hg : Gl X "list") (hm : X.mg "list" = none) (ha : AA X E (e :: es) fs) (he : starEach (e :: es) X.env = (false, eval e X.env) :: starEach es X.env := by rfl) (hpl : (backTo pos (starEach es X.env)).any (·.1) = false := by rfl) : AE X E (.Call (.Name "list" p) (e :: es) [] pos) (dCB hLstOf fs) := ae_cb (pe_callTy call_list_of hg hm (by decide +kernel) ha.pa (he := he) (hpl := hpl)) fun ρ l H ds vs Q o r p => by
  unfold hLstOf at p
  split at p
  · obtain ⟨v, rfl, w1⟩ := r.one_
    obtain ⟨a, us, rfl, t, q⟩ := w1.tup_
    exact ⟨a, us, rfl, .inr t, fun z hz => Post.mkL o q p hz⟩
  · obtain ⟨v, rfl, w1⟩ := r.one_
    split at p
    · rename_i es e1
      obtain ⟨a, us, rfl, _, h1, q⟩ := o.lst w1 e1
      exact ⟨a, us, rfl, .inl (SqL.of h1), fun z hz => Post.mkL o q p hz⟩
    · exact p.elim
  · exact p.elim
/-! ### isinstance -/
def tyD : D → Sto → Option String
  | .non, _ => some "NoneType" | .bl _, _ => some "bool" | .int _, _ => some "int" | .str _, _ => some "str"
  | .tup _, _ => some "tuple"
  | .adr n, l => match l[n]? with
    | some (.lst _) => some "list"
    | some (.dct _) => some "dict"
    | some (.dtt _) => some "dict"
    | some _ => none
    | none => none
  | .ro _, _ => some "list"
  | .ty _, _ => none
theorem ty_of {K : PySem.W.Frag} {ρ : List Addr} {l : Sto} {H : Hp} {d : D} {v : V} {t : String} (o : Own K ρ l H) (r : Rw K ρ H d v) (h : tyD d l = some t) : TyX K H v (.type t) := by
  cases d with
  | non => cases h; rw [r.non_]; exact .base .non
  | bl b => cases h; rw [r.bl_]; exact .base (.bl b)
  | int b => cases h; rw [r.int_]; exact .base (.int b)
  | str b => cases h; rw [r.str_]; exact .base (.str b)
  | ty b => cases h
  | ro ns =>
    cases h
    simp only [Rw] at r
    obtain ⟨a, rfl, ⟨ob, e⟩ | ⟨ob, its, n, e, c, _⟩⟩ := r
    · exact .base (.frz e)
    · exact .kList e c
  | tup ds =>
    cases h
    obtain ⟨a, us, rfl, t, q⟩ := r.tup_
    rcases t with (t | ⟨ob, t⟩) | ⟨ob, its, n, e, c, _⟩
    · exact .base (.tup t)
    · exact .fTuple t
    · exact .kTuple e c
  | adr n =>
    simp only [Rw] at r
    obtain ⟨a, ha, rfl⟩ := r
    simp only [tyD] at h
    split at h
    · rename_i ds e1
      cases h
      obtain ⟨vs, h1, _⟩ := o.at_ n _ a e1 ha
      exact .base (.lst h1)
    · rename_i ds e1
      cases h
      obtain ⟨vs, h1, _⟩ := o.at_ n _ a e1 ha
      exact .base (.dK h1)
    · rename_i ds e1
      cases h
      obtain ⟨vs, h1, _⟩ := o.at_ n _ a e1 ha
      exact .base (.dT h1)
    · cases h
    · cases h
def hIsi1 : List D → Sto → Res D
  | [x, .ty t], l => match tyD x l with
    | some s => match kitB s t with
      | some b => .ok (.bl b) l
      | none => .bad
    | none => .bad
  | _, _ => .bad
theorem cls_of {t : String} : ClsV (.ty t) (.type t) := .ty t
theorem ae_isi {p : Pos} (hg : Gl X "isinstance") (hm : X.mg "isinstance" = none) (ha : AA X E (e :: es) fs) (he : starEach (e :: es) X.env = (false, eval e X.env) :: starEach es X.env := by rfl) (hpl : (backTo pos (starEach es X.env)).any (·.1) = false := by rfl) : AE X E (.Call (.Name "isinstance" p) (e :: es) [] pos) (dCB hIsi1 fs) := ae_cb (pe_callB call_isi hg hm (by decide +kernel) ha.pa (he := he) (hpl := hpl)) fun ρ l H ds vs Q o r p => by
  unfold hIsi1 at p
  split at p
  · obtain ⟨v, v', rfl, w1, w2⟩ := r.two_
    split at p
    · rename_i s e1
      split at p
      · rename_i b e2
        rw [w2.ty_]
        exact ⟨v, _, _, _, b, rfl, cls_of, ty_of o w1 e1, kit_ty e2, p.here o rw_bl⟩
      · exact p.elim
    · exact p.elim
  · exact p.elim
def hIsi2 (t u : String) : D → Sto → Res D := fun x l => match tyD x l with
  | some s => match kitB s t, kitB s u with
    | some b, some c => .ok (.bl (b || c)) l
    | _, _ => .bad
  | none => .bad
theorem ae_isi2 {p px : Pos} {k : Nat} {t u : String} {x1 x2 : Expr} (hg : Gl X "isinstance") (hm : X.mg "isinstance" = none) (ha : AE X E e f) (h1 : PE X x1 (tC (.ty t))) (h2 : PE X x2 (tC (.ty u)))
    (q1 : starEach [e, .Tuple [x1, x2] k px] X.env = (false, eval e X.env) :: starEach [.Tuple [x1, x2] k px] X.env := by rfl)
    (q2 : starEach [x1, x2] X.env = (false, eval x1 X.env) :: starEach [x2] X.env := by rfl) (q3 : starEach [x2] X.env = (false, eval x2 X.env) :: starEach [] X.env := by rfl)
    (q4 : starEach [.Tuple [x1, x2] k px] X.env = (false, eval (.Tuple [x1, x2] k px) X.env) :: starEach [] X.env := by rfl) (q5 : (backTo pos (starEach [.Tuple [x1, x2] k px] X.env)).any (·.1) = false := by rfl) :
    AE X E (.Call (.Name "isinstance" p) [e, .Tuple [x1, x2] k px] [] pos) (dUn (hIsi2 t u) f) :=
  ⟨PE.imp (pe_callB call_isiT hg hm (by decide +kernel) (pa_cons ha.pe (pa_cons (pe_tup (pa_cons h1 (pa_cons h2 pa_nil q3) q2)) pa_nil q4) q1) (he := q1) (hpl := q5)) fun σ H Q ⟨ρ, l, g, o, s, p⟩ => by
    refine ⟨ρ, l, g, o, s, Post.bind p fun x l1 ρ1 H1 v e1 s1 o1 r1 p1 => ?_⟩
    refine ⟨by show 2 ≤ sizeLine; rw [sizeLine_eq]; decide, fun z hz => ?_⟩
    unfold hIsi2 at p1
    split at p1
    · rename_i ts e2
      split at p1
      · rename_i b c e3 e4
        have st : Step ρ1 H1 ρ1 (upd H1 z (.tup [.ty t, .ty u])) := step_upd hz
        have o2 := (o1.newT (xs := [.ty t, .ty u]) hz).1
        refine ⟨v, z, [.ty t, .ty u], .type ts, [.type t, .type u], b || c, rfl, upd_same, .cons cls_of (.cons cls_of .nil), ty_of o2 (st.rw o1 r1) e2, ?_, ?_⟩
        · refine kitAny_cons (kit_ty e3) (fun hb => ?_) (fun hb => by rw [hb]; rfl)
          refine kitAny_cons (kit_ty e4) (fun hc => ?_) (fun hc => by rw [hc, Bool.or_true])
          rw [hb, hc]; exact kitAny_nil
        · exact p1 ρ1 _ _ st o2 rw_bl
      · exact p1.elim
    · exact p1.elim⟩
end
end Zb

set_option Elab.async false
set_option linter.all false
set_option maxRecDepth 100000
namespace Zb
open PySem L2
/-! ### methods of lists -/
def isL (d : D) (l : Sto) : Bool := match d with
  | .adr n => match l[n]? with
    | some (.lst _) => true
    | _ => false
  | _ => false
def dMe (h : D → List D → Sto → Res D) (fo : DE) (fs : DEs) : DE := fun g l => (fo g l).bind fun x l1 => if isL x l1 then (fs g l1).bind fun ds l2 => h x ds l2 else .bad
def dMe0 (h : D → List D → Sto → Res D) (fo : DE) : DE := fun g l => (fo g l).bind fun x l1 => if isL x l1 then h x [] l1 else .bad
def MtS (K : PySem.W.Frag) (E : XK) (r : V → List V → Hp → VK → Prop) (h : D → List D → Sto → Res D) : Prop := ∀ ρ l H dx ds x vs Q, Own K ρ l H → Rw K ρ H dx x → Rws K ρ H ds vs → Post K E ρ H (rD K) (h dx ds l) Q → r x vs H Q
section
variable {X : Cx} {E : XK} {a b c e o : Expr} {es : List Expr} {fa fb fc f fo : DE} {fs : DEs} {ba bb : DB} {pos p2 apos : Pos} {rest : List Expr}
theorem isL_ty {K : PySem.W.Frag} {ρ : List Addr} {l : Sto} {H : Hp} {d : D} {v : V} (ow : Own K ρ l H) (r : Rw K ρ H d v) (h : isL d l = true) : tyV K "list" v H := by
  unfold isL at h
  split at h
  · split at h
    · rename_i ds e1
      obtain ⟨a, vs, rfl, _, h1, _⟩ := ow.lst r e1
      exact .inl ⟨rfl, vs, SqL.of h1⟩
    · cases h
  · cases h
theorem ae_me {r : V → List V → Hp → VK → Prop} {h : D → List D → Sto → Res D} (hp : PE X e (tBM X.K "list" r (teOf X.K E fo) (taOf X.K E fs))) (hs : MtS X.K E r h) : AE X E e (dMe h fo fs) := ⟨PE.imp hp fun σ H Q ⟨ρ, l, g, ow, s, p⟩ => by
  refine ⟨ρ, l, g, ow, s, Post.bind p fun x l1 ρ1 H1 v e1 s1 o1 r1 p1 => ?_⟩
  obtain ⟨hc, p1⟩ := Post.ite p1
  refine ⟨isL_ty o1 r1 hc, ⟨ρ1, l1, g, o1, s.step s1 ow, Post.bind p1 fun y l2 ρ2 H2 u e2 s2 o2 r2 p2 => ?_⟩⟩
  exact hs ρ2 l2 H2 x y v u Q o2 (s2.rw o1 r1) r2 p2⟩
theorem ae_me0 {r : V → List V → Hp → VK → Prop} {h : D → List D → Sto → Res D} (hp : PE X e (tBM0 X.K "list" r (teOf X.K E fo))) (hs : MtS X.K E r h) : AE X E e (dMe0 h fo) := ⟨PE.imp hp fun σ H Q ⟨ρ, l, g, ow, s, p⟩ => by
  refine ⟨ρ, l, g, ow, s, Post.bind p fun x l1 ρ1 H1 v e1 s1 o1 r1 p1 => ?_⟩
  obtain ⟨hc, p1⟩ := Post.ite p1
  exact ⟨isL_ty o1 r1 hc, hs ρ1 l1 H1 x [] v [] Q o1 r1 Rws.nil p1⟩⟩
def hApp : D → List D → Sto → Res D
  | .adr n, [d], l => match l[n]? with
    | some (.lst ds) => if small (ds.length + 1) then .ok .non (l.set n (.lst (ds ++ [d]))) else .bad
    | _ => .bad
  | _, _, _ => .bad
theorem Post.wr {K : PySem.W.Frag} {ρ : List Addr} {l : Sto} {H : Hp} {n : Nat} {q : Addr} {old : OB} {ds : List D} {vs : List V} {d : D} {v : V} {Q : VK} (ow : Own K ρ l H) (hn : ρ[n]? = some q) (ho : l[n]? = some old) (r : Rws K ρ H ds vs) (rv : Rw K ρ H d v) (p : Post K E ρ H (rD K) (.ok d (l.set n (.lst ds))) Q) (hf : unF old = true := by rfl) : Q v (upd H q (.lst vs)) := by
  obtain ⟨o1, s1⟩ := ow.set hn ho r hf
  exact p ρ _ _ s1 o1 (s1.rw ow rv)
theorem ms_app : MtS X.K E rAppend hApp := fun ρ l H dx ds x vs Q ow rx r p => by
  unfold hApp at p
  split at p
  · split at p
    · rename_i es e1
      obtain ⟨hc, p⟩ := Post.ite p
      obtain ⟨q, us, rfl, hn, h1, r1⟩ := ow.lst rx e1
      obtain ⟨v, rfl, w1⟩ := r.one_
      exact ⟨q, us, v, rfl, rfl, h1, by rw [r1.length]; exact small_lt hc, Post.wr ow hn e1 (r1.app (Rws.one w1)) rw_non p⟩
    · exact p.elim
  · exact p.elim
def hPop : D → List D → Sto → Res D
  | .adr n, [], l => match l[n]? with
    | some (.lst ds) => match ds[ds.length - 1]? with
      | some d => .ok d (l.set n (.lst ds.dropLast))
      | none => .bad
    | _ => .bad
  | _, _, _ => .bad
theorem Rws.dropLast {K : PySem.W.Frag} {ρ : List Addr} {H : Hp} {ds : List D} {vs : List V} (r : Rws K ρ H ds vs) : Rws K ρ H ds.dropLast vs.dropLast := by
  rw [List.dropLast_eq_take, List.dropLast_eq_take, r.length]
  exact r.take _
theorem ms_pop : MtS X.K E rPop hPop := fun ρ l H dx ds x vs Q ow rx r p => by
  unfold hPop at p
  split at p
  · split at p
    · rename_i es e1
      split at p
      · rename_i d e2
        obtain ⟨q, us, rfl, hn, h1, r1⟩ := ow.lst rx e1
        obtain ⟨v, e3, r2⟩ := r1.get e2
        simp only [Rws] at r
        exact ⟨q, us, v, rfl, r, h1, by rw [r1.length]; exact e3, Post.wr ow hn e1 r1.dropLast r2 p⟩
      · exact p.elim
    · exact p.elim
  · exact p.elim
/-- extend by a list or a tuple -/
def hExt : D → List D → Sto → Res D
  | .adr n, [y], l => match l[n]?, itemsOf y l with
    | some (.lst ds), some es => if small (ds.length + es.length) then .ok .non (l.set n (.lst (ds ++ es))) else .bad
    | _, _ => .bad
  | _, _, _ => .bad
end
section
open PySem PySem.Spec PyProof.Rows
theorem ext_tup (a b : Addr) (xs ys : Array Value) (m k : Nat) (dd : Option Addr) (sl : Array (Option Value))
    (c0 : ¬ (!xs.isEmpty && Builtin.List.listTooLong (xs.size + ys.size)) = true) (c1 : xs.size ≤ sizeLine) (c2 : xs.size + ys.size ≤ sizeLine + 1) :
    Meets (Builtin.«list.extend» ⟨[.ref a, .ref b], []⟩) (fun _ R s => (s.heap.get? a = some { cls := .type "list", dict := none, data := .seq xs m, slots := #[] } ∧
      s.heap.get? b = some { cls := .type "tuple", dict := dd, data := .seq ys k, slots := sl }) ∧ R (.ok (.ret Value.none)) { s with heap := s.heap.update a (Obj.mapSeq fun z => z ++ ys), toks := s.toks }) := .of_wp fun prog w A R s hh => by
  obtain ⟨hp, g, d, tk, os⟩ := s
  obtain ⟨⟨ha, hb⟩, hh⟩ := hh
  have q1 := AutoSeq1.idx_int
  have q2 := AutoSeq1.sub_tuple_tuple
  have q3 := AutoSeq1.sub_list_list
  have q4 := AutoSeq1.sub_tuple_list
  have q5 := AutoSeq1.sub_list_tuple
  have q6 : (xs ++ ys).size ≤ sizeLine + 1 := by
    rw [Array.size_append]
    exact c2
  wp_walk using (wpAny_updateSeq ha rfl (hz := c1) (_hz' := q6)), wpAny_loadPart' ha, wpAny_loadPart' hb
  exact ⟨_, rfl, hh⟩
variable {X : Cx} {E : XK}
def rExtT (K : PySem.W.Frag) : V → List V → Hp → VK → Prop := fun x vs H Q => ∃ l b xs zs, x = .ref l ∧ vs = [.ref b] ∧ H l = some (.lst xs) ∧ SqT K H b zs ∧ xs.length + zs.length ≤ sizeLine ∧ Q .non (upd H l (.lst (xs ++ zs)))
theorem mt_extT : MtM X "list.extend" (rExtT X.K) := by
  intro pins s σ H x vs v us Q I rx rv hh
  obtain ⟨a, b, xs, zs, rfl, rfl, hA, hB, hz, q⟩ := hh
  cases rx
  obtain ⟨u, rfl, ru⟩ := rv.one
  cases ru
  obtain ⟨z1, i1, m, r1, l1, e1⟩ := I.lstM hA
  obtain ⟨i2, r2, ⟨⟨cc, dd, dt, sl⟩, e2, ec, k, ed⟩, z2⟩ := I.tuple hB
  simp only at ec ed
  subst ec ed
  have l2 := r2.length
  have n1 : i1.toArray.size + i2.toArray.size ≤ sizeLine := by
    simp only [List.size_toArray]
    omega
  have n2 : ¬ (!i1.toArray.isEmpty && Builtin.List.listTooLong (i1.toArray.size + i2.toArray.size)) = true := by
    rw [notLongL n1]
    simp
  refine call_meets F.slot_list_extend ⟨_, e1, rfl⟩ F.entry_list_extend (F.args_list_extend_2 _ _) (ext_tup a b i1.toArray i2.toArray m k dd sl n2 (by simp only [List.size_toArray]; omega) (by omega)) ⟨⟨e1, e2⟩, ?_⟩
  exact ⟨.non, _, I.lset (its' := i1 ++ i2) hA e1 (by simp) (r1.append r2) (by rw [List.length_append]; omega), rfl, q⟩
def rExtA (K : PySem.W.Frag) : V → List V → Hp → VK → Prop := fun x vs H Q => rExtend x vs H Q ∨ rExtT K x vs H Q
theorem mt_extA : MtM X "list.extend" (rExtA X.K) := fun pins s σ H x vs v us Q I rx rv hh => hh.elim (fun z => mt_extend pins s σ H x vs v us Q I rx rv z) fun z => mt_extT pins s σ H x vs v us Q I rx rv z
theorem ms_ext : MtS X.K E (rExtA X.K) hExt := fun ρ l H dx ds x vs Q ow rx r p => by
  unfold hExt at p
  split at p
  · rename_i n y
    split at p
    · rename_i es fs e1 e2
      obtain ⟨hc, p⟩ := Post.ite p
      obtain ⟨q, us, rfl, hn, h1, r1⟩ := ow.lst rx e1
      obtain ⟨v, rfl, w1⟩ := r.one_
      cases y with
      | tup ys =>
        obtain ⟨b, zs, rfl, t, r2⟩ := w1.tup_
        have ee : ys = fs := Option.some.inj e2
        subst ee
        exact .inr ⟨q, b, us, zs, rfl, rfl, h1, t, by rw [r1.length, r2.length]; exact small_le hc, Post.wr ow hn e1 (r1.app r2) rw_non p⟩
      | adr m =>
        simp only [itemsOf] at e2
        split at e2
        · rename_i ys e3
          cases e2
          obtain ⟨b, zs, rfl, _, h2, r2⟩ := ow.lst w1 e3
          exact .inl ⟨q, b, us, zs, rfl, rfl, h1, h2, by rw [r1.length, r2.length]; exact small_le hc, Post.wr ow hn e1 (r1.app r2) rw_non p⟩
        · cases e2
      | _ => cases e2
    · exact p.elim
  · exact p.elim
end

/-! ### promises -/
section
variable {K : PySem.W.Frag} {E : XK} {ρ : List Addr} {l : Sto} {H H' : Hp}
mutual
theorem Rw.pure_ {ρ' : List Addr} (t : Tk K H H') : ∀ (d : D) (v : V), pu d = true → Rw K ρ H d v → Rw K ρ' H' d v
  | .non, _, _, h => by simpa [Rw] using h
  | .bl _, _, _, h => by simpa [Rw] using h
  | .int _, _, _, h => by simpa [Rw] using h
  | .str _, _, _, h => by simpa [Rw] using h
  | .ty _, _, p, _ => by simp [pu] at p
  | .adr _, _, p, _ => by simp [pu] at p
  | .ro _, _, p, _ => by simp [pu] at p
  | .tup ds, v, p, h => by
    obtain ⟨a, vs, rfl, q, r⟩ := h.tupH
    exact rw_tup (t a vs q) (Rws.pure_ t ds vs (by simpa [pu] using p) r)
theorem Rws.pure_ {ρ' : List Addr} (t : Tk K H H') : ∀ (ds : List D) (vs : List V), pus ds = true → Rws K ρ H ds vs → Rws K ρ' H' ds vs
  | [], vs, _, h => by simpa [Rws] using h
  | d :: ds, vs, p, h => by
    simp only [Rws] at h
    obtain ⟨v, u, rfl, r1, r2⟩ := h
    simp only [pus, Bool.and_eq_true] at p
    exact Rws.cons (Rw.pure_ t d v p.1 r1) (Rws.pure_ t ds u p.2 r2)
end
theorem same_step (s : Same H H') : Step ρ H ρ H' := ⟨⟨[], by simp⟩, fun a o e _ => s a o e, fun a h n => absurd h n, fun a o u e => s a _ e⟩
theorem Own.same (o : Own K ρ l H) (s : Same H H') : Own K ρ l H' := ⟨o.nd, o.len, fun n ob a e1 e2 => Ow.mono ((same_step s).mn o) (fun u e => s a u e) (o.at_ n ob a e1 e2)⟩
theorem Own.newS {p : Addr} {ob : OB} (o : Own K ρ l H) (hp : H p = none) (s : Same H H') (w : Ow K (ρ ++ [p]) H' ob p) : Own K (ρ ++ [p]) (l ++ [ob]) H' := by
  have st : Step ρ H (ρ ++ [p]) H' := ⟨⟨[p], rfl⟩, fun a o e _ => s a o e, fun a h n => by
    rcases List.mem_append.mp h with h | h
    · exact absurd h n
    · simp at h; subst h; exact hp, fun a o u e => s a _ e⟩
  refine ⟨?_, by simp [o.len], fun n ob' a e1 e2 => ?_⟩
  · rw [List.nodup_append]
    refine ⟨o.nd, by simp, fun a ha b hb => ?_⟩
    simp at hb; subst hb
    exact fun q => o.nop hp (q ▸ ha)
  · by_cases hn : n < l.length
    · rw [List.getElem?_append_left hn] at e1
      rw [List.getElem?_append_left (by rw [o.len]; exact hn)] at e2
      exact Ow.mono (st.mn o) (fun v e => s a v e) (o.at_ n ob' a e1 e2)
    · have h1 := (List.getElem?_eq_some_iff.mp e1).1
      have hn' : n = l.length := by simp at h1; omega
      subst hn'
      have e3 : (ρ ++ [p])[l.length]? = some p := by rw [← o.len]; simp
      rw [e3] at e2; cases e2
      have e4 : (l ++ [ob])[l.length]? = some ob := by simp
      rw [e4] at e1; cases e1
      exact w
theorem Own.nil : Own K [] [] H := ⟨List.nodup_nil, rfl, fun n o a h _ => by simp at h⟩
theorem Step.same (s : Step [] H ρ H') : Same H H' := fun a o e => s.keep a o e (by simp)
end
def spD (K : PySem.W.Frag) (n : Nat) (m : List D → Sto → Res D) : Sp := fun vs H Q E => ∃ ρ l ds, Own K ρ l H ∧ Rws K ρ H ds vs ∧ ds.length = n ∧ Post K E ρ H (rD K) (m ds l) Q
/-- pure data in, pure data out -/
def spP (K : PySem.W.Frag) (n : Nat) (pf : List D → Option D) : Sp := fun vs H Q _ => ∃ ds d, Rws K [] H ds vs ∧ ds.length = n ∧ pf ds = some d ∧ ∀ v H', Same H H' → Rw K [] H' d v → Q v H'
/-- pure data in, a new list of pure data out -/
def spL (K : PySem.W.Frag) (n : Nat) (lf : List D → Option (List D)) : Sp := fun vs H Q _ => ∃ ds xs, Rws K [] H ds vs ∧ ds.length = n ∧ lf ds = some xs ∧ ∀ p us H', H p = none → Same H H' → H' p = some (.lst us) → Rws K [] H' xs us → Q (.ref p) H'
def Res.nox {α : Type} : Res α → Res α
  | .exc _ _ _ => .bad
  | r => r
def dCall (n : Nat) (m : List D → Sto → Res D) (fs : DEs) : DE := fun g l => (fs g l).bind fun ds l1 => if ds.length == n then (m ds l1).nox else .bad
def dCallP (n : Nat) (pf : List D → Option D) (fs : DEs) : DE := fun g l => (fs g l).bind fun ds l1 => if pus ds && ds.length == n then okO ((pf ds).bind fun d => if pu d then some d else none) l1 else .bad
def dCallL (n : Nat) (lf : List D → Option (List D)) (fs : DEs) : DE := fun g l => (fs g l).bind fun ds l1 => if pus ds && ds.length == n then (match lf ds with
  | some xs => if pus xs then .ok (.adr l1.length) (l1 ++ [.lst xs]) else .bad
  | none => .bad) else .bad
section
variable {X : Cx} {E : XK} {e : Expr} {es : List Expr} {fs : DEs} {pos p : Pos} {k n : Nat} {f : Addr} {fd : FuncData} {ps : List Str} {x : Str}
theorem call_of {m : List D → Sto → Res D} {σ H Q} (h : teOf X.K E (dCall n m fs) σ H Q) : tCall (spD X.K n m) [] E0 (taOf X.K E fs) σ H Q := by
  obtain ⟨ρ, l, g, ow, s, p⟩ := h
  refine ⟨ρ, l, g, ow, s, Post.bind p fun ds l1 ρ1 H1 vs e1 s1 o1 r1 p1 => ?_⟩
  obtain ⟨hc, p1⟩ := Post.ite p1
  rw [List.append_nil]
  refine ⟨ρ1, l1, ds, o1, r1, by simpa using hc, ?_⟩
  cases q : m ds l1 with
  | bad => rw [q] at p1; exact p1
  | ok a l2 => rw [q] at p1; exact p1
  | exc C gs l2 => rw [q] at p1; exact p1.elim
theorem callP_of {pf : List D → Option D} {σ H Q} (h : teOf X.K E (dCallP n pf fs) σ H Q) : tCall (spP X.K n pf) [] E0 (taOf X.K E fs) σ H Q := by
  obtain ⟨ρ, l, g, ow, s, p⟩ := h
  refine ⟨ρ, l, g, ow, s, Post.bind p fun ds l1 ρ1 H1 vs e1 s1 o1 r1 p1 => ?_⟩
  obtain ⟨hc, p1⟩ := Post.ite p1
  rw [Bool.and_eq_true] at hc
  obtain ⟨d, e2, p1⟩ := p1.okO_
  obtain ⟨d', e3, e4⟩ := Option.bind_eq_some_iff.mp e2
  split at e4
  · rename_i hp
    cases e4
    rw [List.append_nil]
    exact ⟨ds, d, Rws.pure_ Tk.refl ds vs hc.1 r1, by simpa using hc.2, e3, fun v H' sm r => p1 ρ1 H' v (same_step sm) (o1.same sm) (Rw.pure_ Tk.refl d v hp r)⟩
  · cases e4
theorem callL_of {lf : List D → Option (List D)} {σ H Q} (h : teOf X.K E (dCallL n lf fs) σ H Q) : tCall (spL X.K n lf) [] E0 (taOf X.K E fs) σ H Q := by
  obtain ⟨ρ, l, g, ow, s, p⟩ := h
  refine ⟨ρ, l, g, ow, s, Post.bind p fun ds l1 ρ1 H1 vs e1 s1 o1 r1 p1 => ?_⟩
  obtain ⟨hc, p1⟩ := Post.ite p1
  rw [Bool.and_eq_true] at hc
  split at p1
  · rename_i xs e2
    obtain ⟨hp, p1⟩ := Post.ite p1
    rw [List.append_nil]
    refine ⟨ds, xs, Rws.pure_ Tk.refl ds vs hc.1 r1, by simpa using hc.2, e2, fun z us H' hz sm hu r => ?_⟩
    have st : Step ρ1 H1 (ρ1 ++ [z]) H' := ⟨⟨[z], rfl⟩, fun a ob q _ => sm a ob q, fun a ha hn => by
      rcases List.mem_append.mp ha with ha | ha
      · exact absurd ha hn
      · simp at ha; subst ha; exact hz, fun a o u e => sm a _ e⟩
    have px : ∀ (i : Nat) (a : Addr), ρ1[i]? = some a → (ρ1 ++ [z])[i]? = some a := px_app
    exact p1 _ _ _ st (o1.newS hz sm ⟨us, hu, Rws.pure_ Tk.refl xs us hp r⟩) (rw_adr (by rw [← o1.len]; simp))
  · exact p1.elim
end
end Zb

set_option Elab.async false
set_option linter.all false
set_option maxRecDepth 100000
namespace Zb
open PySem L2
/-! ### statements -/
inductive Out where
  | bad | nx (g : Sl) (l : Sto) | rt (d : D) (l : Sto) | bk (g : Sl) (l : Sto) | ct (g : Sl) (l : Sto) | ex (C : Addr) (fs : List (Str × D)) (l : Sto)
abbrev DS := Sl → Sto → Out
def Res.out {α : Type} (r : Res α) (k : α → Sto → Out) : Out := match r with
  | .bad => .bad
  | .ok a l => k a l
  | .exc C fs l => .ex C fs l
section
variable (K : PySem.W.Frag) (E : XK)
def OutP (ρ : List Addr) (H : Hp) (D : Ends) (r : Out) : Prop := match r with
  | .bad => False
  | .nx g l => ∀ ρ' H' σ', Step ρ H ρ' H' → Own K ρ' l H' → Slt K ρ' H' σ' g → D.nx σ' H'
  | .bk g l => ∀ ρ' H' σ', Step ρ H ρ' H' → Own K ρ' l H' → Slt K ρ' H' σ' g → D.bk σ' H'
  | .ct g l => ∀ ρ' H' σ', Step ρ H ρ' H' → Own K ρ' l H' → Slt K ρ' H' σ' g → D.ct σ' H'
  | .rt d l => ∀ ρ' H' v, Step ρ H ρ' H' → Own K ρ' l H' → Rw K ρ' H' d v → D.rt v H'
  | .ex C fs l => ∀ ρ' H' dd vs, Step ρ H ρ' H' → Own K ρ' l H' → H' dd = some (.xd vs) → vs.map (·.1) = fs.map (·.1) → Rws K ρ' H' (fs.map (·.2)) (vs.map (·.2)) → E (.ref C) (some dd) H'
def tsOf (f : DS) : TS := fun D σ H => ∃ ρ l g, Own K ρ l H ∧ Slt K ρ H σ g ∧ OutP K E ρ H D (f g l)
end
structure AS (X : Cx) (E : XK) (st : Stmt) (f : DS) : Prop where
  ps : PS X st (tsOf X.K E f)
structure ASs (X : Cx) (E : XK) (st : List Stmt) (f : DS) : Prop where
  pss : PSs X st (tsOf X.K E f)
theorem PS.imp {X : Cx} {e : Stmt} {t u : TS} (h : PS X e t) (q : ∀ D σ H, u D σ H → t D σ H) : PS X e u := ⟨fun pins s σ H D I k => h.run pins s σ H D I (q D σ H k)⟩
theorem PSs.imp {X : Cx} {e : List Stmt} {t u : TS} (h : PSs X e t) (q : ∀ D σ H, u D σ H → t D σ H) : PSs X e u := ⟨fun pins s σ H D I k => h.run pins s σ H D I (q D σ H k)⟩
section
variable {K : PySem.W.Frag} {E : XK} {ρ ρ1 : List Addr} {H H1 : Hp} {D : Ends}
theorem OutP.step {r : Out} (h : OutP K E ρ H D r) (s : Step ρ H ρ1 H1) : OutP K E ρ1 H1 D r := by
  cases r with
  | bad => exact h
  | nx g l => exact fun ρ' H' σ' s' o q => h ρ' H' σ' (s.trans s') o q
  | bk g l => exact fun ρ' H' σ' s' o q => h ρ' H' σ' (s.trans s') o q
  | ct g l => exact fun ρ' H' σ' s' o q => h ρ' H' σ' (s.trans s') o q
  | rt d l => exact fun ρ' H' v s' o q => h ρ' H' v (s.trans s') o q
  | ex C fs l => exact fun ρ' H' dd vs s' o a b c => h ρ' H' dd vs (s.trans s') o a b c
theorem OutP.of {α β : Type} {rel : List Addr → Hp → α → β → Prop} {r : Res α} {k : α → Sto → Out} {Q : β → Hp → Prop} (h : OutP K E ρ H D (r.out k))
    (hk : ∀ a l1 ρ1 H1 b, r = .ok a l1 → Step ρ H ρ1 H1 → Own K ρ1 l1 H1 → rel ρ1 H1 a b → OutP K E ρ1 H1 D (k a l1) → Q b H1) : Post K E ρ H rel r Q := by
  cases r with
  | bad => exact h
  | ok a l1 => exact fun ρ1 H1 b s o q => hk a l1 ρ1 H1 b rfl s o q (OutP.step (show OutP K E ρ H D (k a l1) from h) s)
  | exc C fs l1 => exact h
theorem OutP.ite {c : Bool} {r : Out} (h : OutP K E ρ H D (if c then r else .bad)) : c = true ∧ OutP K E ρ H D r := by
  cases c with
  | true => exact ⟨rfl, by simpa using h⟩
  | false => exact absurd (show OutP K E ρ H D .bad by simpa using h) (fun z => z)
end
/-! the small ones -/
def sNx : DS := fun g l => .nx g l
def sSeq (f h : DS) : DS := fun g l => match f g l with
  | .nx g1 l1 => h g1 l1
  | r => r
def sExpr (f : DE) : DS := fun g l => (f g l).out fun _ l1 => .nx g l1
def sRet (f : DE) : DS := fun g l => (f g l).out fun d l1 => .rt d l1
def sRetN : DS := fun _ l => .rt .non l
def sIf (c : DB) (f h : DS) : DS := fun g l => (c g l).out fun b l1 => if b = true then f g l1 else h g l1
def sBk : DS := fun g l => .bk g l
def sCt : DS := fun g l => .ct g l
def sSet (i : Nat) (f : DE) : DS := fun g l => (f g l).out fun d l1 => .nx (g.set i (some d)) l1
section
variable {X : Cx} {E : XK} {st : Stmt} {rest : List Stmt} {t u : DS} {e a b c : Expr} {f fa fb fc : DE} {pos pos' : Pos} {ba : DB} {body orelse : List Stmt}
theorem as_nil : ASs X E [] sNx := ⟨PSs.imp pss_nil fun D σ H ⟨ρ, l, g, o, s, p⟩ => p ρ H σ Step.refl o s⟩
theorem as_pass : AS X E (.Pass pos) sNx := ⟨PS.imp ps_pass fun D σ H ⟨ρ, l, g, o, s, p⟩ => p ρ H σ Step.refl o s⟩
theorem as_break : AS X E (.Break pos) sBk := ⟨PS.imp ps_break fun D σ H ⟨ρ, l, g, o, s, p⟩ => p ρ H σ Step.refl o s⟩
theorem as_cont : AS X E (.Continue pos) sCt := ⟨PS.imp ps_continue fun D σ H ⟨ρ, l, g, o, s, p⟩ => p ρ H σ Step.refl o s⟩
theorem as_one (h : AS X E st t) : ASs X E [st] t := ⟨pss_one h.ps⟩
theorem as_cons (h : AS X E st t) (k : ASs X E rest u) : ASs X E (st :: rest) (sSeq t u) := ⟨PSs.imp (pss_cons h.ps k.pss) fun D σ H ⟨ρ, l, g, o, s, p⟩ => by
  refine ⟨ρ, l, g, o, s, ?_⟩
  unfold sSeq at p
  cases q : t g l with
  | bad => rw [q] at p; exact p.elim
  | nx g1 l1 =>
    rw [q] at p
    exact fun ρ' H' σ' s' o' z => ⟨ρ', l1, g1, o', z, p.step s'⟩
  | rt d l1 => rw [q] at p; exact p
  | bk g1 l1 => rw [q] at p; exact p
  | ct g1 l1 => rw [q] at p; exact p
  | ex C fs l1 => rw [q] at p; exact p⟩
theorem as_expr (h : AE X E e f) (hs : swapsWith e none pos.line X.env = pure false := by rfl) : AS X E (.Expr e pos) (sExpr f) := ⟨PS.imp (ps_expr h.pe hs) fun D σ H ⟨ρ, l, g, o, s, p⟩ =>
  ⟨ρ, l, g, o, s, OutP.of (rel := rD X.K) p fun d l1 ρ1 H1 v e1 s1 o1 r1 p1 => p1 ρ1 H1 σ Step.refl o1 (s.step s1 o)⟩⟩
theorem as_ret (h : AE X E e f) : AS X E (.Return (some e) pos) (sRet f) := ⟨PS.imp (ps_ret h.pe) fun D σ H ⟨ρ, l, g, o, s, p⟩ =>
  ⟨ρ, l, g, o, s, OutP.of (rel := rD X.K) p fun d l1 ρ1 H1 v e1 s1 o1 r1 p1 => p1 ρ1 H1 v Step.refl o1 r1⟩⟩
theorem as_retN : AS X E (.Return none pos) sRetN := ⟨PS.imp ps_retN fun D σ H ⟨ρ, l, g, o, s, p⟩ => p ρ H .non Step.refl o rw_non⟩
theorem as_if (h : AT X E c ba) (h1 : ASs X E body t) (h2 : ASs X E orelse u) : AS X E (.If c body orelse pos) (sIf ba t u) := ⟨PS.imp (ps_if h.pt h1.pss h2.pss) fun D σ H ⟨ρ, l, g, o, s, p⟩ =>
  ⟨ρ, l, g, o, s, OutP.of (rel := rB) p fun d l1 ρ1 H1 v e1 s1 o1 r1 p1 => by
    cases r1
    cases d with
    | true => exact ⟨ρ1, l1, g, o1, s.step s1 o, p1⟩
    | false => exact ⟨ρ1, l1, g, o1, s.step s1 o, p1⟩⟩⟩
theorem as_set {i : Nat} {x : Str} (hN : X.N.Nodup) (hi : X.N[i]? = some x) (hx : Loc X.env.scope x) (h : AE X E e f) (hs : swapsWith e (some (.Name x pos')) pos.line X.env = pure false := by rfl)
    (hf : X.fn x = true ∨ X.env.scope.names.lookup x = some .local := by first | exact .inl rfl | exact .inr rfl | assumption) : AS X E (.Assign [.Name x pos'] e pos) (sSet i f) := ⟨PS.imp (ps_set hN hi hx h.pe hs hf) fun D σ H ⟨ρ, l, g, o, s, p⟩ =>
  ⟨ρ, l, g, o, s, OutP.of (rel := rD X.K) p fun d l1 ρ1 H1 v e1 s1 o1 r1 p1 => p1 ρ1 H1 _ Step.refl o1 ((s.step s1 o).set i r1)⟩⟩
/-! targets -/
def tgOf (K : PySem.W.Frag) (f : D → Sto → Sl → Option Sl) : TG := fun v σ H Q => ∃ ρ l g d, Own K ρ l H ∧ Slt K ρ H σ g ∧ Rw K ρ H d v ∧ match f d l g with
  | some g' => ∀ σ', Slt K ρ H σ' g' → Q σ' H
  | none => False
def setsD : List Nat → List D → Sl → Option Sl
  | [], [], g => some g
  | i :: is, d :: ds, g => setsD is ds (g.set i (some d))
  | _, _, _ => none
def tgsOf (K : PySem.W.Frag) (is : List Nat) : TGs := fun vs σ H Q => ∃ ρ l g ds, Own K ρ l H ∧ Slt K ρ H σ g ∧ Rws K ρ H ds vs ∧ match setsD is ds g with
  | some g' => ∀ σ', Slt K ρ H σ' g' → Q σ' H
  | none => False
structure AG (X : Cx) (tg : Expr) (f : D → Sto → Sl → Option Sl) : Prop where
  pg : PG X tg (tgOf X.K f)
structure AGs (X : Cx) (tgs : List Expr) (is : List Nat) : Prop where
  pgs : PGs X tgs (tgsOf X.K is)
theorem PG.imp {X : Cx} {e : Expr} {t u : TG} (h : PG X e t) (q : ∀ v σ H Q, u v σ H Q → t v σ H Q) : PG X e u := ⟨fun pins s σ H v w Q I r k => h.run pins s σ H v w Q I r (q v σ H Q k)⟩
theorem PGs.imp {X : Cx} {e : List Expr} {t u : TGs} (h : PGs X e t) (q : ∀ v σ H Q, u v σ H Q → t v σ H Q) : PGs X e u := ⟨fun pins s σ H v w Q I r k => h.run pins s σ H v w Q I r (q v σ H Q k)⟩
def gN (i : Nat) : D → Sto → Sl → Option Sl := fun d _ g => some (g.set i (some d))
def gT (is : List Nat) : D → Sto → Sl → Option Sl := fun d _ g => match d with
  | .tup ds => setsD is ds g
  | _ => none
theorem ag_name {i : Nat} {x : Str} (hN : X.N.Nodup) (hi : X.N[i]? = some x) (hx : Loc X.env.scope x) (hf : X.fn x = true ∨ X.env.scope.names.lookup x = some .local := by first | exact .inl rfl | exact .inr rfl | assumption) : AG X (.Name x pos) (gN i) :=
  ⟨PG.imp (pg_name hN hi hx hf) fun v σ H Q ⟨ρ, l, g, d, o, s, r, p⟩ => p _ (s.set i r)⟩
theorem ags_nil : AGs X [] [] := ⟨PGs.imp pgs_nil fun vs σ H Q ⟨ρ, l, g, ds, o, s, r, p⟩ => by
  cases ds with
  | nil => simp only [Rws] at r; exact ⟨r, p _ s⟩
  | cons d ds => exact p.elim⟩
theorem ags_cons {x : Str} {i : Nat} {es : List Expr} {is : List Nat} (hN : X.N.Nodup) (hi : X.N[i]? = some x) (hx : Loc X.env.scope x) (k : AGs X es is)
    (hf : X.fn x = true ∨ X.env.scope.names.lookup x = some .local := by first | exact .inl rfl | exact .inr rfl | assumption)
    (hs : (assignEach (.Name x pos :: es) X.env).map (·.2) = assign (.Name x pos) X.env :: (assignEach es X.env).map (·.2) := by rfl) : AGs X (.Name x pos :: es) (i :: is) :=
  ⟨PGs.imp (pgs_cons (pg_name hN hi hx hf) k.pgs hs) fun vs σ H Q ⟨ρ, l, g, ds, o, s, r, p⟩ => by
    cases ds with
    | nil => exact p.elim
    | cons d ds =>
      simp only [Rws] at r
      obtain ⟨v, u, rfl, r1, r2⟩ := r
      exact ⟨v, u, rfl, ρ, l, g.set i (some d), ds, o, s.set i r1, r2, p⟩⟩
theorem setsD_len : ∀ {is : List Nat} {ds : List D} {g g' : Sl}, setsD is ds g = some g' → ds.length = is.length
  | [], [], _, _, _ => rfl
  | i :: is, d :: ds, g, g', h => by
    have := setsD_len (is := is) (ds := ds) h
    simp [this]
  | [], _ :: _, _, _, h => by cases h
  | _ :: _, [], _, _, h => by cases h
theorem ag_tup {es : List Expr} {k : Nat} {is : List Nat} (hc : X.calm = true) (h : AGs X es is)
    (hn : (assignEach es X.env).length = is.length := by rfl) (hst : (assignEach es X.env).findIdx? (·.1) = none := by rfl) : AG X (.Tuple es k pos) (gT is) := ⟨PG.imp (pg_tup hc h.pgs hn hst) fun v σ H Q ⟨ρ, l, g, d, o, s, r, p⟩ => by
  cases d with
  | tup ds =>
    obtain ⟨a, vs, rfl, t, q⟩ := r.tup_
    have hl : ds.length = is.length := by
      cases z : setsD is ds g with
      | none => simp only [gT, z] at p
      | some g' => exact setsD_len z
    exact ⟨a, vs, rfl, t, by rw [q.length, hl], ρ, l, g, ds, o, s, q, p⟩
  | _ => exact p.elim⟩
def sAsg (gt : D → Sto → Sl → Option Sl) (f : DE) : DS := fun g l => (f g l).out fun d l1 => match gt d l1 g with
  | some g' => .nx g' l1
  | none => .bad
theorem as_asg {tg : Expr} {gt : D → Sto → Sl → Option Sl} (he : AE X E e f) (hg : AG X tg gt) (hs : swapsWithSole [tg] e pos.line X.env = pure false := by rfl) (hw : swappedStores [tg] e X.env = pure none := by rfl)
    (h1 : (assignEach [tg] X.env).map (·.2) = [assign tg X.env] := by rfl) : AS X E (.Assign [tg] e pos) (sAsg gt f) := ⟨PS.imp (ps_asg he.pe hg.pg hs hw h1) fun D σ H ⟨ρ, l, g, o, s, p⟩ =>
  ⟨ρ, l, g, o, s, OutP.of (rel := rD X.K) p fun d l1 ρ1 H1 v e1 s1 o1 r1 p1 => ⟨ρ1, l1, g, d, o1, s.step s1 o, r1, by
    cases q : gt d l1 g with
    | none => rw [q] at p1; exact p1
    | some g' => rw [q] at p1; exact fun σ' z => p1 ρ1 H1 σ' Step.refl o1 z⟩⟩⟩
/-- a, b = x, y -/
def sPar (i j : Nat) (fs : DEs) : DS := fun g l => (fs g l).out fun ds l1 => match ds with
  | [d, d'] => .nx ((g.set i (some d)).set j (some d')) l1
  | _ => .bad
def sPar3 (i j k : Nat) (fs : DEs) : DS := fun g l => (fs g l).out fun ds l1 => match ds with
  | [d, d', d''] => .nx (((g.set i (some d)).set j (some d')).set k (some d'')) l1
  | _ => .bad
theorem par_of {i j : Nat} {fs : DEs} {D σ H} (h : tsOf X.K E (sPar i j fs) D σ H) : tPar i j (taOf X.K E fs) D σ H := by
  obtain ⟨ρ, l, g, o, s, p⟩ := h
  refine ⟨ρ, l, g, o, s, OutP.of (rel := rDs X.K) p fun ds l1 ρ1 H1 vs e1 s1 o1 r1 p1 => ?_⟩
  split at p1
  · obtain ⟨v, v', rfl, w1, w2⟩ := r1.two_
    exact ⟨v, v', rfl, p1 ρ1 H1 _ Step.refl o1 (((s.step s1 o).set i w1).set j w2)⟩
  · exact p1.elim
theorem as_par {i j : Nat} {x y : Str} {px py pt : Pos} {kt k2 pt2} {fs : DEs} (hc : X.calm = true) (hN : X.N.Nodup) (hi : X.N[i]? = some x) (hj : X.N[j]? = some y) (hij : i ≠ j)
    (hx : X.env.scope.names.lookup x = some .local) (hy : X.env.scope.names.lookup y = some .local) (ha : AA X E [a, b] fs)
    (hw : swappedStores [.Tuple [.Name x px, .Name y py] kt pt] (.Tuple [a, b] k2 pt2) X.env = pure (some [x, y]))
    (hs : swapsWithSole [.Tuple [.Name x px, .Name y py] kt pt] (.Tuple [a, b] k2 pt2) pos.line X.env = pure false := by rfl) :
    AS X E (.Assign [.Tuple [.Name x px, .Name y py] kt pt] (.Tuple [a, b] k2 pt2) pos) (sPar i j fs) := ⟨PS.imp (ps_par hc hN hi hj hij hx hy ha.pa hw hs) fun D σ H h => par_of h⟩
theorem Rws.three_ {K : PySem.W.Frag} {ρ : List Addr} {H : Hp} {d d' d'' : D} {vs : List V} (r : Rws K ρ H [d, d', d''] vs) : ∃ v v' v'', vs = [v, v', v''] ∧ Rw K ρ H d v ∧ Rw K ρ H d' v' ∧ Rw K ρ H d'' v'' := by
  simp only [Rws] at r
  obtain ⟨v, u, rfl, r1, v', u', rfl, r2, v'', u'', rfl, r3, rfl⟩ := r
  exact ⟨v, v', v'', rfl, r1, r2, r3⟩
theorem par3_of {i j k : Nat} {fs : DEs} {D σ H} (h : tsOf X.K E (sPar3 i j k fs) D σ H) : tPar3 i j k (taOf X.K E fs) D σ H := by
  obtain ⟨ρ, l, g, o, s, p⟩ := h
  refine ⟨ρ, l, g, o, s, OutP.of (rel := rDs X.K) p fun ds l1 ρ1 H1 vs e1 s1 o1 r1 p1 => ?_⟩
  split at p1
  · obtain ⟨v, v', v'', rfl, w1, w2, w3⟩ := r1.three_
    exact ⟨v, v', v'', rfl, p1 ρ1 H1 _ Step.refl o1 ((((s.step s1 o).set i w1).set j w2).set k w3)⟩
  · exact p1.elim
/-- xs[i] = e -/
def hSetL : D → D → D → Sto → Option Sto
  | .adr n, .int i, d, l => match l[n]? with
    | some (.lst ds) => match ixN ds.length i with
      | some j => some (l.set n (.lst (ds.set j d)))
      | none => none
    | _ => none
  | _, _, _, _ => none
def sSub (fo fi f : DE) : DS := fun g l => (f g l).out fun d l1 => (fo g l1).out fun x l2 => (fi g l2).out fun y l3 => match hSetL x y d l3 with
  | some l4 => .nx g l4
  | none => .bad
theorem setL_of {K : PySem.W.Frag} {ρ : List Addr} {l l' : Sto} {H : Hp} {dx dy d : D} {x y v : V} {Q : Hp → Prop} (o : Own K ρ l H) (rx : Rw K ρ H dx x) (ry : Rw K ρ H dy y) (rv : Rw K ρ H d v) (h : hSetL dx dy d l = some l')
    (q : ∀ H', Step ρ H ρ H' → Own K ρ l' H' → Q H') : rSetL x y v H Q := by
  unfold hSetL at h
  split at h
  · split at h
    · rename_i es e1
      split at h
      · rename_i j e2
        cases h
        obtain ⟨a, us, rfl, hn, h1, r1⟩ := o.lst rx e1
        obtain ⟨o1, s1⟩ := o.set hn e1 (r1.set rv j)
        rw [ry.int_]
        exact ⟨a, us, _, j, rfl, rfl, h1, by rw [r1.length]; exact e2, q _ s1 o1⟩
      · cases h
    · cases h
  · cases h
theorem as_sub {oo ii : Expr} {fo fi : DE} (he : AE X E e f) (ho : AE X E oo fo) (hi : AE X E ii fi)
    (ha : ∀ v, assign (.Subscript oo ii pos') X.env v = (do
      let ov ← holding [v] (eval oo X.env)
      let iv ← holding [v, ov] (eval ii X.env)
      standAt pos'
      holding [v, ov, iv] (setItem ov iv v)
      release [v, ov, iv] []) := by intro _; rfl)
    (hs : swapsWithSole [.Subscript oo ii pos'] e pos.line X.env = pure false := by rfl) (hw : swappedStores [.Subscript oo ii pos'] e X.env = pure none := by rfl)
    (h1 : (assignEach [.Subscript oo ii pos'] X.env).map (·.2) = [assign (.Subscript oo ii pos') X.env] := by rfl) :
    AS X E (.Assign [.Subscript oo ii pos'] e pos) (sSub fo fi f) := ⟨PS.imp (ps_asg he.pe (pg_sub ho.pe hi.pe set_list ha) hs hw h1) fun D σ H ⟨ρ, l, g, o, s, p⟩ =>
  ⟨ρ, l, g, o, s, OutP.of (rel := rD X.K) p fun d l1 ρ1 H1 v e1 s1 o1 r1 p1 =>
    ⟨ρ1, l1, g, o1, s.step s1 o, OutP.of (rel := rD X.K) p1 fun x l2 ρ2 H2 xv e2 s2 o2 r2 p2 =>
      ⟨ρ2, l2, g, o2, (s.step s1 o).step s2 o1, OutP.of (rel := rD X.K) p2 fun y l3 ρ3 H3 yv e3 s3 o3 r3 p3 => by
        cases q : hSetL x y d l3 with
        | none => rw [q] at p3; exact p3.elim
        | some l4 =>
          rw [q] at p3
          exact setL_of o3 (s3.rw o2 r2) r3 (s3.rw o2 (s2.rw o1 r1)) q fun H' s4 o4 => p3 ρ3 H' σ s4 o4 ((((s.step s1 o).step s2 o1).step s3 o2).step s4 o3)⟩⟩⟩⟩
/-- x += e of a name, by an operator's abstract function -/
def sAug (i : Nat) (h : D → D → Sto → Res D) (f : DE) : DS := fun g l => match g[i]? with
  | some (some x) => (f g l).out fun y l1 => (h x y l1).out fun z l2 => .nx (g.set i (some z)) l2
  | _ => .bad
theorem as_aug {i : Nat} {x : Str} {op : Operator} {r : R2} {h : D → D → Sto → Res D} (hN : X.N.Nodup) (hi : X.N[i]? = some x) (hx : Loc X.env.scope x) (ho : PIp X op r) (hs : OpS X.K E r h) (he : AE X E e f)
    (hf : X.fn x = true ∨ X.env.scope.names.lookup x = some .local := by first | exact .inl rfl | exact .inr rfl | assumption) : AS X E (.AugAssign (.Name x pos') op e pos) (sAug i h f) := ⟨PS.imp (ps_aug hN hi hx he.pe ho hf) fun D σ H ⟨ρ, l, g, o, s, p⟩ => by
  unfold sAug at p
  split at p
  · rename_i d hd
    obtain ⟨v, hv, r0⟩ := s.at_ i d hd
    refine ⟨v, hv, ρ, l, g, o, s, OutP.of (rel := rD X.K) p fun y l1 ρ1 H1 u e1 s1 o1 r1 p1 => ?_⟩
    refine hs ρ1 l1 H1 d y v u _ o1 (s1.rw o r0) r1 (OutP.of (rel := rD X.K) p1 fun z l2 ρ2 H2 w e2 s2 o2 r2 p2 => ?_)
    exact p2 ρ2 H2 _ Step.refl o2 (((s.step s1 o).step s2 o1).set i r2)
  · exact p.elim⟩
theorem pip_of {op : Operator} {r : R2} (h : OpR X (inplaceOp op) r) : PIp X op r := fun pins s σ H x y v u Q I rx ry q => h pins s σ H x y v u Q I rx ry q
theorem hs_int0 {f : Int → Int → Int} : OpS X.K E (rI0 fun i j => .int (f i j)) (hInt yes2 f) := fun ρ l H dx dy x y Q o rx ry p => by
  unfold hInt at p
  split at p
  · obtain ⟨_, p⟩ := Post.ite p
    rw [rx.int_, ry.int_]
    exact ⟨_, _, rfl, rfl, p.here o rw_int⟩
  · exact p.elim
/-- xs[i] += e -/
def rGetL (K : PySem.W.Frag) : V → V → Hp → VK → Prop := fun x y H Q => ∃ p xs i v, x = .ref p ∧ y = .int i ∧ SqL K H p xs ∧ 0 ≤ i ∧ i < 2 ^ 62 ∧ xs[i.toNat]? = some v ∧ Q v H
theorem get_list : PGet X (rGetL X.K) := fun pins s σ H o i ov iv Q I ro ri h => by
  obtain ⟨p, xs, k, v, rfl, rfl, hq, h0, h1, he, q⟩ := h
  cases ro
  obtain ⟨t, rfl⟩ := ri
  obtain ⟨its, r, pl, hz⟩ := I.list hq
  obtain ⟨w, ew, rw'⟩ := r.get he
  exact wpAny_getItem_list pl.isList h0 (by omega) (by simpa using ew) ⟨v, H, I, rw', q⟩
def hGetL : D → D → Sto → Res D
  | .adr n, .int i, l => match l[n]? with
    | some (.lst ds) => if decide (0 ≤ i) && mid i then okO ds[i.toNat]? l else .bad
    | _ => .bad
  | _, _, _ => .bad
theorem hs_getL : OpS X.K E (rGetL X.K) hGetL := fun ρ l H dx dy x y Q o rx ry p => by
  unfold hGetL at p
  split at p
  · split at p
    · rename_i es e1
      obtain ⟨hc, p⟩ := Post.ite p
      rw [Bool.and_eq_true] at hc
      obtain ⟨d, e, p⟩ := p.okO_
      obtain ⟨a, us, rfl, hn, h1, r1⟩ := o.lst rx e1
      obtain ⟨v, e3, r2⟩ := r1.get e
      rw [ry.int_]
      exact ⟨a, us, _, v, rfl, rfl, SqL.of h1, of_decide_eq_true hc.1, (mid_ hc.2).2, e3, p.here o r2⟩
    · exact p.elim
  · exact p.elim
def sAugS (h : D → D → Sto → Res D) (fo fi f : DE) : DS := fun g l => (fo g l).out fun x l1 => (fi g l1).out fun y l2 => (hGetL x y l2).out fun z l3 => (f g l3).out fun w l4 => (h z w l4).out fun n l5 => match hSetL x y n l5 with
  | some l6 => .nx g l6
  | none => .bad
theorem as_augS {oo ii : Expr} {fo fi : DE} {op : Operator} {r : R2} {h : D → D → Sto → Res D} {tpos : Pos} (ho : AE X E oo fo) (hi : AE X E ii fi) (he : AE X E e f) (hp : PIp X op r) (hs : OpS X.K E r h)
    (ha : ∀ ov iv new, augStore ii ov iv new = (do holding [new, ov, iv] (setItem ov iv new); release [new, ov, iv] []; pure .next) := by intros; rfl) : AS X E (.AugAssign (.Subscript oo ii tpos) op e pos) (sAugS h fo fi f) := ⟨PS.imp (ps_augS ho.pe hi.pe get_list he.pe hp set_list ha) fun D σ H ⟨ρ, l, g, o, s, p⟩ => by
  refine ⟨ρ, l, g, o, s, OutP.of (rel := rD X.K) p fun x l1 ρ1 H1 xv e1 s1 o1 r1 p1 => ?_⟩
  have t1 := s.step s1 o
  refine ⟨ρ1, l1, g, o1, t1, OutP.of (rel := rD X.K) p1 fun y l2 ρ2 H2 yv e2 s2 o2 r2 p2 => ?_⟩
  have t2 := t1.step s2 o1
  refine hs_getL (E := E) ρ2 l2 H2 x y xv yv _ o2 (s2.rw o1 r1) r2 (OutP.of (rel := rD X.K) p2 fun z l3 ρ3 H3 zv e3 s3 o3 r3 p3 => ?_)
  have t3 := t2.step s3 o2
  refine ⟨ρ3, l3, g, o3, t3, OutP.of (rel := rD X.K) p3 fun w l4 ρ4 H4 wv e4 s4 o4 r4 p4 => ?_⟩
  have t4 := t3.step s4 o3
  refine hs ρ4 l4 H4 z w zv wv _ o4 (s4.rw o3 r3) r4 (OutP.of (rel := rD X.K) p4 fun n l5 ρ5 H5 nv e5 s5 o5 r5 p5 => ?_)
  have t5 := t4.step s5 o4
  cases q : hSetL x y n l5 with
  | none => rw [q] at p5; exact p5.elim
  | some l6 =>
    rw [q] at p5
    have x5 : Rw X.K ρ5 H5 x xv := s5.rw o4 (s4.rw o3 (s3.rw o2 (s2.rw o1 r1)))
    have y5 : Rw X.K ρ5 H5 y yv := s5.rw o4 (s4.rw o3 (s3.rw o2 r2))
    exact setL_of o5 x5 y5 r5 q fun H' s6 o6 => p5 ρ5 H' σ s6 o6 (t5.step s6 o5)⟩
/-! while -/
def sWhile : Nat → DB → DS → DS
  | 0, _, _ => fun _ _ => .bad
  | n + 1, c, b => fun g l => (c g l).out fun k l1 => if k = true then (match b g l1 with
    | .nx g2 l2 => sWhile n c b g2 l2
    | .ct g2 l2 => sWhile n c b g2 l2
    | .bk g2 l2 => .nx g2 l2
    | r => r) else .nx g l1
theorem as_while {n : Nat} (hp : PassesOwn (model X.prog X.w) X.A X.env X.xe) (hc : AT X E c ba) (hb : ASs X E body t) : AS X E (.While c body [] pos) (sWhile n ba t) := ⟨PS.imp (ps_while hp hc.pt hb.pss) fun D σ H h => by
  refine ⟨fun m σ H => tsOf X.K E (sWhile m ba t) D σ H, ⟨n, h⟩, fun m σ H w => ?_⟩
  obtain ⟨ρ, l, g, o, s, p⟩ := w
  cases m with
  | zero => exact p.elim
  | succ m =>
    refine ⟨ρ, l, g, o, s, OutP.of (rel := rB) p fun k l1 ρ1 H1 b e1 s1 o1 r1 p1 => ?_⟩
    cases r1
    cases k with
    | false => exact p1 ρ1 H1 σ Step.refl o1 (s.step s1 o)
    | true =>
      rw [if_pos rfl] at p1 ⊢
      refine ⟨fun σ' H' => tsOf X.K E (sWhile m ba t) D σ' H', fun σ' H' z => ⟨m, Nat.lt_succ_self _, z⟩, ρ1, l1, g, o1, s.step s1 o, ?_⟩
      cases q : t g l1 with
      | bad => rw [q] at p1; exact p1.elim
      | nx g2 l2 => rw [q] at p1; exact fun ρ' H' σ' s' o' z => ⟨ρ', l2, g2, o', z, OutP.step p1 s'⟩
      | ct g2 l2 => rw [q] at p1; exact fun ρ' H' σ' s' o' z => ⟨ρ', l2, g2, o', z, OutP.step p1 s'⟩
      | bk g2 l2 => rw [q] at p1; exact fun ρ' H' σ' s' o' z => p1 ρ' H' σ' s' o' z
      | rt d l2 => rw [q] at p1; exact p1
      | ex C fs l2 => rw [q] at p1; exact p1⟩
end
end Zb

set_option Elab.async false
set_option linter.all false
set_option maxRecDepth 100000
namespace Zb
open PySem L2
/-! ### what is walked -/
structure ItD where
  ds : List D
  src : Option Nat
def ItD.ok (it : ItD) (l : Sto) : Prop := match it.src with
  | none => True
  | some n => l[n]? = some (.lst it.ds)
/-- what a walk needs of the steps made meanwhile -/
structure Wk (K : PySem.W.Frag) (ρ : List Addr) (H : Hp) (ρ' : List Addr) (H' : Hp) : Prop where
  mn_ : Mn K ρ H ρ' H'
  sq_ : ∀ a xs, SqT K H a xs → SqT K H' a xs
  fz : ∀ a o u, H a = some (.frz o u) → H' a = some (.frz o u)
section
variable {K : PySem.W.Frag} {ρ ρ' ρ2 : List Addr} {H H' H2 : Hp} {l : Sto}
theorem Wk.px (w : Wk K ρ H ρ' H') : ∀ (n : Nat) (a : Addr), ρ[n]? = some a → ρ'[n]? = some a := w.mn_.px
theorem Wk.mn (w : Wk K ρ H ρ' H') (o : Own K ρ l H) : Mn K ρ H ρ' H' := w.mn_
theorem Wk.sqt (w : Wk K ρ H ρ' H') (o : Own K ρ l H) : ∀ a xs, SqT K H a xs → SqT K H' a xs := w.sq_
theorem Wk.rw (w : Wk K ρ H ρ' H') (o : Own K ρ l H) {d : D} {v : V} (h : Rw K ρ H d v) : Rw K ρ' H' d v := Rw.mono w.mn_ d v h
theorem Wk.rws (w : Wk K ρ H ρ' H') (o : Own K ρ l H) {d : List D} {v : List V} (h : Rws K ρ H d v) : Rws K ρ' H' d v := Rws.mono w.mn_ d v h
theorem Step.wk (s : Step ρ H ρ' H') (o : Own K ρ l H) : Wk K ρ H ρ' H' := ⟨s.mn o, s.sqt o, s.fz⟩
theorem Wk.trans (a : Wk K ρ H ρ' H') (b : Wk K ρ' H' ρ2 H2) : Wk K ρ H ρ2 H2 :=
  ⟨⟨fun n x h => b.mn_.px n x (a.mn_.px n x h), fun x zs h => b.mn_.tk x zs (a.mn_.tk x zs h), fun x zs h => b.mn_.ss x zs (a.mn_.ss x zs h)⟩, fun x zs h => b.sq_ x zs (a.sq_ x zs h), fun x o u h => b.fz x o u (a.fz x o u h)⟩
theorem Wk.step (a : Wk K ρ H ρ' H') (s : Step ρ' H' ρ2 H2) (o : Own K ρ' l H') : Wk K ρ H ρ2 H2 := a.trans (s.wk o)
theorem Wk.refl : Wk K ρ H ρ H := ⟨⟨fun _ _ h => h, fun _ _ h => h, fun _ _ h => h⟩, fun _ _ h => h, fun _ _ _ h => h⟩
end
structure JR (K : PySem.W.Frag) (ρ0 : List Addr) (H0 : Hp) (it : ItD) (J : It) : Prop where
  go : ∀ i ρ l H, i < it.ds.length → Own K ρ l H → Wk K ρ0 H0 ρ H → it.ok l → J.go i H
  yld : ∀ i ρ l H x H', i < it.ds.length → Own K ρ l H → Wk K ρ0 H0 ρ H → it.ok l → J.yld i H x H' → ∃ d, it.ds[i]? = some d ∧ Own K ρ l H' ∧ Step ρ H ρ H' ∧ Rw K ρ H' d x
  stop : ∀ ρ l H, Own K ρ l H → Wk K ρ0 H0 ρ H → it.ok l → J.stop it.ds.length H
abbrev DI := Sl → Sto → Res ItD
def iOf (K : PySem.W.Frag) (E : XK) (fi : DI) : TI := fun σ H R => ∃ ρ l g, Own K ρ l H ∧ Slt K ρ H σ g ∧ Post K E ρ H (fun ρ H it J => JR K ρ H it J) (fi g l) R
structure AI (X : Cx) (E : XK) (tg iter : Expr) (fi : DI) : Prop where
  pi : PI X tg iter (iOf X.K E fi)
theorem PI.imp {X : Cx} {tg e : Expr} {t u : TI} (h : PI X tg e t) (q : ∀ σ H R, u σ H R → t σ H R) : PI X tg e u := ⟨fun pins s σ H R I k => h.run pins s σ H R I (q σ H R k)⟩
theorem PI.or {X : Cx} {tg e : Expr} {t u : TI} (h : PI X tg e t) (k : PI X tg e u) : PI X tg e (fun σ H R => t σ H R ∨ u σ H R) := ⟨fun pins s σ H R I z => z.elim (h.run pins s σ H R I) (k.run pins s σ H R I)⟩
section
variable {X : Cx} {E : XK} {tg e a b c : Expr} {es : List Expr} {f : DE} {fs : DEs} {pos p : Pos}
def signs (z : Str) : List D := z.cps.toList.map fun c => .str ⟨#[c]⟩
def dIt (f : DE) : DI := fun g l => (f g l).bind fun d l1 => match d with
  | .tup ds => .ok ⟨ds, none⟩ l1
  | .adr n => match l1[n]? with
    | some (.lst ds) => .ok ⟨ds, some n⟩ l1
    | _ => .bad
  | .ro ns => .ok ⟨ns.map D.int, none⟩ l1
  | .str z => .ok ⟨signs z, none⟩ l1
  | _ => .bad
theorem jr_tup {K : PySem.W.Frag} {ρ0 : List Addr} {l0 : Sto} {H0 : Hp} {q : Addr} {vs : List V} {ds : List D} (o0 : Own K ρ0 l0 H0) (t : SqT K H0 q vs) (r : Rws K ρ0 H0 ds vs) : JR K ρ0 H0 ⟨ds, none⟩ (Itt K q) where
  go := fun i ρ l H hi o s _ => by
    have t1 := s.sqt o0 _ _ t
    have hl : i < vs.length := by rw [r.length]; exact hi
    exact ⟨vs, vs[i], t1, List.getElem?_eq_getElem hl⟩
  yld := fun i ρ l H x H' hi o s _ y => by
    obtain ⟨rfl, y⟩ := y
    have t1 := s.sqt o0 _ _ t
    obtain ⟨d, e1, e2⟩ := (s.rws o0 r).getV (y vs t1)
    exact ⟨d, e1, o, Step.refl, e2⟩
  stop := fun ρ l H o s _ => ⟨vs, s.sqt o0 _ _ t, by rw [r.length]; exact Nat.le_refl _⟩
theorem jr_lst {K : PySem.W.Frag} {ρ0 : List Addr} {l0 : Sto} {H0 : Hp} {q : Addr} {n : Nat} {ds : List D} (o0 : Own K ρ0 l0 H0) (hn : ρ0[n]? = some q) : JR K ρ0 H0 ⟨ds, some n⟩ (Itl K q) where
  go := fun i ρ l H hi o s k => by
    have k : l[n]? = some (.lst ds) := k
    obtain ⟨vs, h1, r⟩ := o.at_ n _ q k (s.px n q hn)
    have hl : i < vs.length := by rw [r.length]; exact hi
    exact ⟨vs, vs[i], SqL.of h1, List.getElem?_eq_getElem hl⟩
  yld := fun i ρ l H x H' hi o s k y => by
    obtain ⟨rfl, y⟩ := y
    have k : l[n]? = some (.lst ds) := k
    obtain ⟨vs, h1, r⟩ := o.at_ n _ q k (s.px n q hn)
    obtain ⟨d, e1, e2⟩ := r.getV (y vs (SqL.of h1))
    exact ⟨d, e1, o, Step.refl, e2⟩
  stop := fun ρ l H o s k => by
    have k : l[n]? = some (.lst ds) := k
    obtain ⟨vs, h1, r⟩ := o.at_ n _ q k (s.px n q hn)
    exact ⟨vs, SqL.of h1, by rw [r.length]; exact Nat.le_refl _⟩
theorem jr_ro {K : PySem.W.Frag} {ρ0 : List Addr} {l0 : Sto} {H0 : Hp} {q : Addr} {ns : List Int} (o0 : Own K ρ0 l0 H0) (t : SqS K ρ0 H0 q (ns.map V.int)) : JR K ρ0 H0 ⟨ns.map D.int, none⟩ (Itl K q) where
  go := fun i ρ l H hi o s _ => by
    have t1 := ((s.mn o0).ss _ _ t).sq
    have hl : i < (ns.map V.int).length := by simpa using hi
    exact ⟨_, (ns.map V.int)[i], t1, List.getElem?_eq_getElem hl⟩
  yld := fun i ρ l H x H' hi o s _ y => by
    obtain ⟨rfl, y⟩ := y
    have t1 := ((s.mn o0).ss _ _ t).sq
    obtain ⟨d, e1, e2⟩ := (rws_ints (K := K) (ρ := ρ) (H := H') ns).getV (y _ t1)
    exact ⟨d, e1, o, Step.refl, e2⟩
  stop := fun ρ l H o s _ => ⟨_, ((s.mn o0).ss _ _ t).sq, by simp⟩
theorem jr_str {K : PySem.W.Frag} {ρ0 : List Addr} {H0 : Hp} {z : Str} : JR K ρ0 H0 ⟨signs z, none⟩ (Its z) where
  go := fun i ρ l H hi o s _ => by simpa [signs, Its] using hi
  yld := fun i ρ l H x H' hi o s _ y => by
    obtain ⟨rfl, c, e, rfl⟩ := y
    exact ⟨.str ⟨#[c]⟩, by simp [signs, e], o, Step.refl, rw_str⟩
  stop := fun ρ l H o s _ => by simp [signs, Its]
theorem ai_of (h : AE X E e f) : AI X E tg e (dIt f) := ⟨PI.imp (PI.or (pi_list h.pe) (PI.or (pi_tup h.pe) (pi_str h.pe))) fun σ H R ⟨ρ, l, g, o, s, p⟩ => by
  unfold dIt at p
  cases q : f g l with
  | bad => rw [q] at p; exact p.elim
  | exc C fs l1 =>
    rw [q] at p
    exact .inl ⟨ρ, l, g, o, s, by rw [q]; exact p⟩
  | ok d l1 =>
    rw [q] at p
    simp only [Res.bind] at p
    have go : ∀ (Q : V → Hp → Prop), (∀ ρ1 H1 v, Step ρ H ρ1 H1 → Own X.K ρ1 l1 H1 → Rw X.K ρ1 H1 d v → Q v H1) → teOf X.K E f σ H Q := fun Q k => ⟨ρ, l, g, o, s, by rw [q]; exact k⟩
    split at p
    · refine .inr (.inl (go _ fun ρ1 H1 v s1 o1 r1 => ?_))
      obtain ⟨a, vs, rfl, t, r⟩ := r1.tup_
      exact ⟨a, rfl, ⟨vs, t⟩, p ρ1 H1 _ s1 o1 (jr_tup o1 t r)⟩
    · split at p
      · rename_i n _ ds e1
        refine .inl (go _ fun ρ1 H1 v s1 o1 r1 => ?_)
        obtain ⟨a, vs, rfl, hn, h1, r⟩ := o1.lst r1 e1
        exact ⟨a, rfl, ⟨vs, SqL.of h1⟩, p ρ1 H1 _ s1 o1 (jr_lst o1 hn)⟩
      · exact p.elim
    · refine .inl (go _ fun ρ1 H1 v s1 o1 r1 => ?_)
      simp only [Rw] at r1
      obtain ⟨a, rfl, t⟩ := r1
      exact ⟨a, rfl, ⟨_, t.sq⟩, p ρ1 H1 _ s1 o1 (jr_ro o1 t)⟩
    · refine .inr (.inr (go _ fun ρ1 H1 v s1 o1 r1 => ?_))
      rw [r1.str_]
      exact ⟨_, rfl, p ρ1 H1 _ s1 o1 jr_str⟩
    · exact p.elim⟩
/-! ranges -/
def in62 (i : Int) : Bool := mid i
theorem in62_ {i : Int} (h : in62 i = true) : -(2 ^ 62) ≤ i ∧ i < 2 ^ 62 := by
  have := mid_ h
  exact ⟨Int.le_of_lt this.1, this.2⟩
def rng (lo : Int) (n : Nat) : List D := (List.range n).map fun i => .int (lo + (i : Nat))
def rngC (lo c : Int) (n : Nat) : List D := (List.range n).map fun i => .int (lo + (i : Nat) * c)
theorem jr_rng {K : PySem.W.Frag} {ρ0 : List Addr} {H0 : Hp} {lo : Int} {n : Nat} : JR K ρ0 H0 ⟨rng lo n, none⟩ (Itr lo n) where
  go := fun i ρ l H hi o s _ => by simpa [rng, Itr] using hi
  yld := fun i ρ l H x H' hi o s _ y => by
    obtain ⟨rfl, rfl⟩ := y
    have hi' : i < n := by simpa [rng] using hi
    exact ⟨.int (lo + i), by simp [rng, hi'], o, Step.refl, rw_int⟩
  stop := fun ρ l H o s _ => by simp [rng, Itr]
theorem jr_rngC {K : PySem.W.Frag} {ρ0 : List Addr} {H0 : Hp} {lo c : Int} {n : Nat} : JR K ρ0 H0 ⟨rngC lo c n, none⟩ (Itc lo c n) where
  go := fun i ρ l H hi o s _ => by simpa [rngC, Itc] using hi
  yld := fun i ρ l H x H' hi o s _ y => by
    obtain ⟨rfl, rfl⟩ := y
    have hi' : i < n := by simpa [rngC] using hi
    exact ⟨.int (lo + (i : Nat) * c), by simp [rngC, hi'], o, Step.refl, rw_int⟩
  stop := fun ρ l H o s _ => by simp [rngC, Itc]
def dRng1 (fs : DEs) : DI := fun g l => (fs g l).bind fun ds l1 => match ds with
  | [.int j] => if in62 j then .ok ⟨rng 0 j.toNat, none⟩ l1 else .bad
  | _ => .bad
def dRng2 (fs : DEs) : DI := fun g l => (fs g l).bind fun ds l1 => match ds with
  | [.int i, .int j] => if in62 i && in62 j then .ok ⟨rng i (j - i).toNat, none⟩ l1 else .bad
  | _ => .bad
theorem ai_range1 (hg : Gl X "range") (hm : X.mg "range" = none) (ha : AA X E [a] fs) (hs : starEach [a] X.env = [(false, eval a X.env)] := by rfl) : AI X E tg (.Call (.Name "range" p) [a] [] pos) (dRng1 fs) := ⟨PI.imp (pi_range1 hg hm ha.pa hs) fun σ H R ⟨ρ, l, g, o, s, pp⟩ => by
  refine ⟨ρ, l, g, o, s, ?_⟩
  unfold dRng1 at pp
  refine Post.bind pp fun ds l1 ρ1 H1 vs e1 s1 o1 r1 p1 => ?_
  split at p1
  · obtain ⟨hc, p1⟩ := Post.ite p1
    obtain ⟨v, rfl, w⟩ := r1.one_
    rw [w.int_]
    exact ⟨_, rfl, (in62_ hc).1, (in62_ hc).2, p1.here o1 jr_rng⟩
  · exact p1.elim⟩
theorem ai_range2 (hg : Gl X "range") (hm : X.mg "range" = none) (ha : AA X E [a, b] fs) (hs : starEach [a, b] X.env = [(false, eval a X.env), (false, eval b X.env)] := by rfl) (hs2 : starEach [b] X.env = [(false, eval b X.env)] := by rfl) : AI X E tg (.Call (.Name "range" p) [a, b] [] pos) (dRng2 fs) := ⟨PI.imp (pi_range2 hg hm ha.pa hs hs2) fun σ H R ⟨ρ, l, g, o, s, pp⟩ => by
  refine ⟨ρ, l, g, o, s, ?_⟩
  unfold dRng2 at pp
  refine Post.bind pp fun ds l1 ρ1 H1 vs e1 s1 o1 r1 p1 => ?_
  split at p1
  · obtain ⟨hc, p1⟩ := Post.ite p1
    obtain ⟨v, v', rfl, w, w'⟩ := r1.two_
    rw [Bool.and_eq_true] at hc
    rw [w.int_, w'.int_]
    exact ⟨_, _, rfl, ⟨(in62_ hc.1).1, (in62_ hc.1).2, (in62_ hc.2).1, (in62_ hc.2).2⟩, p1.here o1 jr_rng⟩
  · exact p1.elim⟩
end
/-! ### for -/
open Classical in
noncomputable def sForL (it : ItD) (gt : D → Sto → Sl → Option Sl) (b : DS) : List D → DS
  | [] => fun g l => if it.ok l then .nx g l else .bad
  | d :: r => fun g l => if it.ok l then (match gt d l g with
    | none => .bad
    | some g1 => match b g1 l with
      | .nx g2 l2 => sForL it gt b r g2 l2
      | .ct g2 l2 => sForL it gt b r g2 l2
      | .bk g2 l2 => .nx g2 l2
      | q => q) else .bad
noncomputable def sFor (fi : DI) (gt : D → Sto → Sl → Option Sl) (b : DS) : DS := fun g l => (fi g l).out fun it l1 => sForL it gt b it.ds g l1
section
variable {X : Cx} {E : XK} {tg e a b c iter : Expr} {es : List Expr} {f : DE} {fs : DEs} {pos p : Pos} {body : List Stmt} {t : DS} {fi : DI} {gt : D → Sto → Sl → Option Sl}
theorem forL_ok {K : PySem.W.Frag} {it : ItD} {ds : List D} {g : Sl} {l : Sto} {ρ : List Addr} {H : Hp} {D : Ends} (p : OutP K E ρ H D (sForL it gt t ds g l)) : it.ok l := by
  cases ds with
  | nil =>
    simp only [sForL] at p
    split at p
    · assumption
    · exact p.elim
  | cons d r =>
    simp only [sForL] at p
    split at p
    · assumption
    · exact p.elim
theorem as_for (hp : PassesOwn (model X.prog X.w) X.A X.env X.xe) (hc : X.calm = true) (hi : AI X E tg iter fi) (hg : AG X tg gt) (hb : ASs X E body t) (hs : ∀ x, foldedSetIterable iter X.env x = pure x := by intro _; rfl) :
    AS X E (.For tg iter body [] pos) (sFor fi gt t) := ⟨PS.imp (ps_for hp hc hi.pi hg.pg hb.pss hs) fun D σ H ⟨ρ, l, g, o, s, p⟩ => by
  refine ⟨ρ, l, g, o, s, OutP.of (rel := fun ρ H it J => JR X.K ρ H it J) p fun it l1 ρ1 H1 J e1 s1 o1 jr p1 => ?_⟩
  refine ⟨fun i m σ H => m = it.ds.length - i ∧ i ≤ it.ds.length ∧ ∃ ρ l g, Step ρ1 H1 ρ H ∧ Own X.K ρ l H ∧ Slt X.K ρ H σ g ∧ OutP X.K E ρ H D (sForL it gt t (it.ds.drop i) g l),
    ⟨_, rfl, Nat.zero_le _, ρ1, l1, g, Step.refl, o1, s.step s1 o, by rw [List.drop_zero]; exact p1⟩, ?_⟩
  rintro i m σ' H' ⟨rfl, hi, ρ', l', g', st, o', s', p'⟩
  have ok := forL_ok p'
  by_cases hlt : i < it.ds.length
  · refine .inr ⟨jr.go i ρ' l' H' hlt o' (st.wk o1) ok, fun σ H => ∃ ρ l g, Step ρ1 H1 ρ H ∧ Own X.K ρ l H ∧ Slt X.K ρ H σ g ∧ OutP X.K E ρ H D (sForL it gt t (it.ds.drop (i + 1)) g l),
      fun σ2 H2 z => ⟨it.ds.length - (i + 1), by omega, rfl, hlt, z⟩, fun x H2 y => ?_⟩
    obtain ⟨d, ed, o2, s2, r2⟩ := jr.yld i ρ' l' H' x H2 hlt o' (st.wk o1) ok y
    rw [List.drop_eq_getElem_cons hlt] at p'
    have eg : it.ds[i] = d := by
      rw [List.getElem?_eq_getElem hlt] at ed
      exact Option.some.inj ed
    rw [eg] at p'
    simp only [sForL, if_pos ok] at p'
    have p2 := p'.step s2
    refine ⟨ρ', l', g', d, o2, s'.step s2 o', r2, ?_⟩
    cases q : gt d l' g' with
    | none => rw [q] at p2; exact p2.elim
    | some g1 =>
      rw [q] at p2
      refine fun σ3 z => ⟨ρ', l', g1, o2, z, ?_⟩
      have st2 := st.trans s2
      simp only at p2
      cases qb : t g1 l' with
      | bad => rw [qb] at p2; exact p2.elim
      | nx g2 l2 => rw [qb] at p2; exact fun ρ3 H3 σ4 s3 o3 z3 => ⟨ρ3, l2, g2, st2.trans s3, o3, z3, OutP.step p2 s3⟩
      | ct g2 l2 => rw [qb] at p2; exact fun ρ3 H3 σ4 s3 o3 z3 => ⟨ρ3, l2, g2, st2.trans s3, o3, z3, OutP.step p2 s3⟩
      | bk g2 l2 => rw [qb] at p2; exact fun ρ3 H3 σ4 s3 o3 z3 => p2 ρ3 H3 σ4 s3 o3 z3
      | rt d2 l2 => rw [qb] at p2; exact p2
      | ex C gs l2 => rw [qb] at p2; exact p2
  · have e : i = it.ds.length := by omega
    subst e
    rw [List.drop_length] at p'
    simp only [sForL, if_pos ok] at p'
    exact .inl ⟨jr.stop ρ' l' H' o' (st.wk o1) ok, p' ρ' H' σ' Step.refl o' s'⟩⟩
end
end Zb

set_option Elab.async false
set_option linter.all false
set_option maxRecDepth 100000
namespace Zb
open PySem L2
/-! ### list comprehensions -/
section
variable {K : PySem.W.Frag} {ρ : List Addr} {l : Sto} {H : Hp}
theorem Own.add {p : Addr} {ob : OB} (o : Own K ρ l H) (hp : p ∉ ρ) (m : Mn K ρ H (ρ ++ [p]) H) (w : Ow K (ρ ++ [p]) H ob p) : Own K (ρ ++ [p]) (l ++ [ob]) H := by
  refine ⟨?_, by simp [o.len], fun n ob' a e1 e2 => ?_⟩
  · rw [List.nodup_append]
    refine ⟨o.nd, by simp, fun a ha b hb => ?_⟩
    simp at hb; subst hb
    exact fun q => hp (q ▸ ha)
  · by_cases hn : n < l.length
    · rw [List.getElem?_append_left hn] at e1
      rw [List.getElem?_append_left (by rw [o.len]; exact hn)] at e2
      exact Ow.mono m (fun v e => e) (o.at_ n ob' a e1 e2)
    · have h1 := (List.getElem?_eq_some_iff.mp e1).1
      have hn' : n = l.length := by simp at h1; omega
      subst hn'
      have e3 : (ρ ++ [p])[l.length]? = some p := by rw [← o.len]; simp
      rw [e3] at e2; cases e2
      have e4 : (l ++ [ob])[l.length]? = some ob := by simp
      rw [e4] at e1; cases e1
      exact w
theorem mn_out {p : Addr} {xs ys : List V} (hp : H p = some (.lst xs)) : Mn K ρ H ρ (upd H p (.lst ys)) := by
  have ne : ∀ a u, H a = some u → (∀ zs, u ≠ .lst zs) → a ≠ p := fun a u e n q => by
    subst q
    rw [hp] at e; cases e
    exact n xs rfl
  refine ⟨fun _ _ h => h, fun a zs h => ?_, fun a zs h => ?_⟩
  · rw [upd_ne (ne a _ h (fun _ q => by cases q))]; exact h
  · rcases h with ⟨ob, h⟩ | h
    · exact .inl ⟨ob, by rw [upd_ne (ne a _ h (fun _ q => by cases q))]; exact h⟩
    · exact .inr h
theorem Own.out {p : Addr} {xs ys : List V} (o : Own K ρ l H) (hn : p ∉ ρ) (hp : H p = some (.lst xs)) : Own K ρ l (upd H p (.lst ys)) :=
  ⟨o.nd, o.len, fun n ob a e1 e2 => Ow.mono (mn_out hp) (fun v e => by rw [upd_ne (fun q => hn (by rw [← q]; exact List.mem_of_getElem? e2))]; exact e) (o.at_ n ob a e1 e2)⟩
theorem Slt.mn {ρ' : List Addr} {H' : Hp} {σ : L2.St} {g : Sl} (h : Slt K ρ H σ g) (m : Mn K ρ H ρ' H') : Slt K ρ' H' σ g := ⟨h.len, fun i d e => let ⟨v, a, b⟩ := h.at_ i d e; ⟨v, a, Rw.mono m d v b⟩⟩
end
def wipeD (g : Sl) : List Nat → Sl
  | [] => g
  | v :: vs => (wipeD g vs).set v none
theorem Slt.wipe {K : PySem.W.Frag} {ρ : List Addr} {H : Hp} {σ : L2.St} {g : Sl} (h : Slt K ρ H σ g) : ∀ vs, Slt K ρ H (L2.wipe σ vs) (wipeD g vs)
  | [] => h
  | v :: vs => by
    have ih := Slt.wipe h vs
    refine ⟨by simp [L2.wipe, wipeD, ih.len], fun i d e => ?_⟩
    by_cases q : v = i
    · subst q
      have hv : v < (wipeD g vs).length := by
        have := (List.getElem?_eq_some_iff.mp e).1
        simpa [wipeD] using this
      simp [wipeD, hv] at e
    · simp only [wipeD, List.getElem?_set_ne q] at e
      obtain ⟨u, a, b⟩ := ih.at_ i d e
      exact ⟨u, by simp only [L2.wipe, List.getElem?_set_ne q]; exact a, b⟩
theorem wipe_set_in {x : Option V} {i : Nat} : ∀ {vs : List Nat} {σ : L2.St}, i ∈ vs → L2.wipe (σ.set i x) vs = L2.wipe σ vs
  | v :: vs, σ, h => by
    by_cases q : i ∈ vs
    · simp only [L2.wipe, wipe_set_in q]
    · have e : i = v := by
        rcases List.mem_cons.mp h with h | h
        · exact h
        · exact absurd h q
      subst e
      have : ∀ (vs : List Nat) (σ : L2.St), i ∉ vs → L2.wipe (σ.set i x) vs = (L2.wipe σ vs).set i x := by
        intro vs
        induction vs with
        | nil => intro σ _; rfl
        | cons w ws ih =>
          intro σ hn
          have n1 : i ≠ w := fun z => hn (by rw [z]; exact List.mem_cons_self)
          have n2 : i ∉ ws := fun z => hn (List.mem_cons_of_mem _ z)
          simp only [L2.wipe, ih σ n2]
          exact List.set_comm _ _ n1
      simp only [L2.wipe, this vs σ q, List.set_set]
theorem wipe_wipe (σ : L2.St) : ∀ vs ws : List Nat, (∀ v ∈ ws, v ∈ vs) → L2.wipe (L2.wipe σ ws) vs = L2.wipe σ vs
  | vs, [], _ => rfl
  | vs, w :: ws, h => by
    simp only [L2.wipe]
    rw [wipe_set_in (h w List.mem_cons_self)]
    exact wipe_wipe σ vs ws fun v hv => h v (List.mem_cons_of_mem _ hv)
theorem wipe_self (σ : L2.St) (vs : List Nat) : L2.wipe (L2.wipe σ vs) vs = L2.wipe σ vs := wipe_wipe σ vs vs fun _ h => h
open Classical in
noncomputable def lcL (it : ItD) (gt : D → Sto → Sl → Option Sl) (ct : DB) (fe : DE) (gw : Sl) : List D → Sto → List D → Res (List D)
  | [], l, acc => if it.ok l then .ok acc l else .bad
  | d :: r, l, acc => if it.ok l then (match gt d l gw with
    | none => .bad
    | some g1 => (ct g1 l).nox.bind fun b l1 => if b = true then (fe g1 l1).nox.bind fun y l2 => if small (acc.length + 1) then lcL it gt ct fe gw r l2 (acc ++ [y]) else .bad else lcL it gt ct fe gw r l1 acc) else .bad
noncomputable def dLc (fi : DI) (gt : D → Sto → Sl → Option Sl) (ct : DB) (fe : DE) (vs : List Nat) : DE := fun g l => (fi g l).bind fun it l1 => (lcL it gt ct fe (wipeD g vs) it.ds l1 []).bind fun acc l2 => .ok (.adr l2.length) (l2 ++ [.lst acc])
/-- a target that is wiped again -/
structure AGw (tg : TG) (K : PySem.W.Frag) (vs : List Nat) (gt : D → Sto → Sl → Option Sl) : Prop where
  go : ∀ ρ l g σ H d v g', Own K ρ l H → Slt K ρ H σ g → Rw K ρ H d v → gt d l g = some g' → ∀ Q : L2.St → Hp → Prop, (∀ σ', Slt K ρ H σ' g' → L2.wipe σ' vs = L2.wipe σ vs → Q σ' H) → tg v σ H Q
theorem agw_name {K : PySem.W.Frag} {i : Nat} {vs : List Nat} (h : i ∈ vs) : AGw (gName i) K vs (gN i) := ⟨fun ρ l g σ H d v g' o s r e Q q => by
  cases e
  exact q _ (s.set i r) (wipe_set_in h)⟩
theorem agw_two {K : PySem.W.Frag} {i j : Nat} {vs : List Nat} (h : i ∈ vs) (k : j ∈ vs) : AGw (gTup K 2 (gCons (gName i) (gCons (gName j) gNil))) K vs (gT [i, j]) := ⟨fun ρ l g σ H d v g' o s r e Q q => by
  cases d with
  | tup ds =>
    obtain ⟨a, us, rfl, t, w⟩ := r.tup_
    simp only [gT] at e
    match ds, e, w with
    | [x, y], e, w =>
      obtain ⟨v1, v2, rfl, w1, w2⟩ := w.two_
      cases e
      refine ⟨a, _, rfl, t, rfl, v1, _, rfl, v2, _, rfl, rfl, ?_⟩
      exact q _ ((s.set i w1).set j w2) (by rw [wipe_set_in k, wipe_set_in h])
    | [], e, _ => cases e
    | [_], e, _ => cases e
    | _ :: _ :: _ :: _, e, _ => cases e
  | _ => cases e⟩
theorem agw_three {K : PySem.W.Frag} {i j m : Nat} {vs : List Nat} (h : i ∈ vs) (k : j ∈ vs) (h3 : m ∈ vs) : AGw (gTup K 3 (gCons (gName i) (gCons (gName j) (gCons (gName m) gNil)))) K vs (gT [i, j, m]) := ⟨fun ρ l g σ H d v g' o s r e Q q => by
  cases d with
  | tup ds =>
    obtain ⟨a, us, rfl, t, w⟩ := r.tup_
    simp only [gT] at e
    match ds, e, w with
    | [x, y, z], e, w =>
      obtain ⟨v1, v2, v3, rfl, w1, w2, w3⟩ := w.three_
      cases e
      refine ⟨a, _, rfl, t, rfl, v1, _, rfl, v2, _, rfl, v3, _, rfl, rfl, ?_⟩
      exact q _ (((s.set i w1).set j w2).set m w3) (by rw [wipe_set_in h3, wipe_set_in k, wipe_set_in h])
    | [], e, _ => cases e
    | [_], e, _ => cases e
    | [_, _], e, _ => cases e
    | _ :: _ :: _ :: _ :: _, e, _ => cases e
  | _ => cases e⟩
section
variable {X : Cx} {E : XK} {K : PySem.W.Frag} {tg : TG} {vs : List Nat} {gt : D → Sto → Sl → Option Sl} {fi : DI} {ct : DB} {fe : DE}
theorem lcL_ok {it : ItD} {ds : List D} {gw : Sl} {l : Sto} {acc : List D} {α : Type} {k : List D → Sto → Res α} (p : (lcL it gt ct fe gw ds l acc).bind k ≠ .bad) : it.ok l := by
  cases ds with
  | nil =>
    simp only [lcL] at p
    split at p
    · assumption
    · exact absurd rfl p
  | cons d r =>
    simp only [lcL] at p
    split at p
    · assumption
    · exact absurd rfl p
theorem Post.ne {α β : Type} {ρ : List Addr} {H : Hp} {rel : List Addr → Hp → α → β → Prop} {r : Res α} {Q : β → Hp → Prop} (p : Post K E ρ H rel r Q) : r ≠ .bad := fun e => by rw [e] at p; exact p
theorem lc_of (ag : AGw tg K vs gt) {σ H Q} (h : teOf K E (dLc fi gt ct fe vs) σ H Q) : tLc (iOf K E fi) tg (ttOf K E0 ct) (teOf K E0 fe) vs σ H Q := by
  obtain ⟨ρ, l, g, o, s, p⟩ := h
  refine ⟨ρ, l, g, o, s, Post.bind p fun it l1 ρ1 H1 J e1 s1 o1 jr p1 => ?_⟩
  intro Dl hD
  have nD : Dl ∉ ρ1 := o1.nop hD
  have sw := (s.step s1 o).wipe vs
  have up0 : Step ρ1 H1 ρ1 (upd H1 Dl (.lst [])) := step_upd hD
  refine ⟨fun i m H => m = it.ds.length - i ∧ i ≤ it.ds.length ∧ ∃ ρ l acc av, Step ρ1 H1 ρ H ∧ Own K ρ l H ∧ Slt K ρ H (L2.wipe σ vs) (wipeD g vs) ∧ Dl ∉ ρ ∧ H Dl = some (.lst av) ∧ Rws K ρ H acc av ∧
      Post K E ρ1 H1 (rD K) ((lcL it gt ct fe (wipeD g vs) (it.ds.drop i) l acc).bind fun acc l2 => .ok (.adr l2.length) (l2 ++ [.lst acc])) Q,
    ⟨_, rfl, Nat.zero_le _, ρ1, l1, [], [], up0, ⟨o1.nd, o1.len, fun n ob a q1 q2 => Ow.mono (up0.mn o1) (fun u e => by rw [upd_ne (ne_of_none e hD)]; exact e) (o1.at_ n ob a q1 q2)⟩, sw.step up0 o1, nD, upd_same, Rws.nil, by rw [List.drop_zero]; exact p1⟩, ?_⟩
  rintro i m H2 ⟨rfl, hi, ρ2, l2, acc, av, st, o2, s2, nD2, hD2, ra, p2⟩
  have ok := lcL_ok (Post.ne p2)
  by_cases hlt : i < it.ds.length
  · refine .inr ⟨jr.go i ρ2 l2 H2 hlt o2 (st.wk o1) ok, fun H => ∃ ρ l acc av, Step ρ1 H1 ρ H ∧ Own K ρ l H ∧ Slt K ρ H (L2.wipe σ vs) (wipeD g vs) ∧ Dl ∉ ρ ∧ H Dl = some (.lst av) ∧ Rws K ρ H acc av ∧
      Post K E ρ1 H1 (rD K) ((lcL it gt ct fe (wipeD g vs) (it.ds.drop (i + 1)) l acc).bind fun acc l2 => .ok (.adr l2.length) (l2 ++ [.lst acc])) Q, fun H' z => ⟨_, by omega, rfl, hlt, z⟩, fun x H3 y => ?_⟩
    obtain ⟨d, ed, o3, st3, r3⟩ := jr.yld i ρ2 l2 H2 x H3 hlt o2 (st.wk o1) ok y
    rw [List.drop_eq_getElem_cons hlt] at p2
    have eg : it.ds[i] = d := by
      rw [List.getElem?_eq_getElem hlt] at ed
      exact Option.some.inj ed
    rw [eg] at p2
    simp only [lcL, if_pos ok] at p2
    have hD3 : H3 Dl = some (.lst av) := st3.keep _ _ hD2 nD2
    have s3 := s2.step st3 o2
    have ra3 := st3.rws o2 ra
    cases q : gt d l2 (wipeD g vs) with
    | none => rw [q] at p2; exact p2.elim
    | some g1 =>
      rw [q] at p2
      simp only at p2
      refine ag.go ρ2 l2 _ _ H3 d x g1 o3 s3 r3 q _ fun σ4 s4 hw => ⟨by rw [hw, wipe_self], ρ2, l2, g1, o3, s4, ?_⟩
      cases qc : ct g1 l2 with
      | bad => rw [qc] at p2; exact p2.elim
      | exc C fs l3 => rw [qc] at p2; exact p2.elim
      | ok b l3 =>
        rw [qc] at p2
        simp only [Res.nox, Res.bind] at p2
        intro ρ4 H4 b' st4 o4 eb
        cases eb
        have nD4 : Dl ∉ ρ4 := fun z => by
          have := st4.new Dl z nD2
          rw [hD3] at this; cases this
        have hD4 : H4 Dl = some (.lst av) := st4.keep _ _ hD3 nD2
        have s5 := s4.step st4 o3
        have ra4 := st4.rws o3 ra3
        cases b with
        | false =>
          rw [if_neg Bool.false_ne_true] at p2 ⊢
          exact ⟨ρ4, l3, acc, av, (st.trans st3).trans st4, o4, s3.step st4 o3, nD4, hD4, ra4, p2⟩
        | true =>
          rw [if_pos rfl] at p2 ⊢
          refine ⟨ρ4, l3, g1, o4, s5, ?_⟩
          cases qe : fe g1 l3 with
          | bad => rw [qe] at p2; exact p2.elim
          | exc C fs l4 => rw [qe] at p2; exact p2.elim
          | ok y l4 =>
            rw [qe] at p2
            simp only [Res.nox, Res.bind] at p2
            intro ρ5 H5 yv st5 o5 r5
            by_cases hs : small (acc.length + 1) = true
            · rw [if_pos hs] at p2
              have nD5 : Dl ∉ ρ5 := fun z => by
                have := st5.new Dl z nD4
                rw [hD4] at this; cases this
              have hD5 : H5 Dl = some (.lst av) := st5.keep _ _ hD4 nD4
              have m5 : Mn K ρ5 H5 ρ5 (upd H5 Dl (.lst (av ++ [yv]))) := mn_out hD5
              have ra5 := st5.rws o4 ra4
              have stF := ((st.trans st3).trans st4).trans st5
              refine ⟨av, hD5, by rw [ra5.length]; exact small_lt hs, ρ5, l4, acc ++ [y], av ++ [yv], ⟨stF.pre, fun a ob e n => ?_, stF.new, fun a od u e => ?_⟩, o5.out nD5 hD5, ((s3.step st4 o3).step st5 o4).mn m5, nD5, upd_same, Rws.mono m5 _ _ (ra5.app (Rws.one r5)), p2⟩
              · rw [upd_ne (fun z => by rw [z, hD] at e; cases e)]
                exact stF.keep a ob e n
              · rw [upd_ne (fun z => by rw [z, hD] at e; cases e)]
                exact stF.fz a od u e
            · rw [if_neg hs] at p2
              exact p2.elim
  · have e : i = it.ds.length := by omega
    subst e
    rw [List.drop_length] at p2
    simp only [lcL, if_pos ok, Res.bind] at p2
    refine .inl ⟨jr.stop ρ2 l2 H2 o2 (st.wk o1) ok, ?_⟩
    have m2 : Mn K ρ2 H2 (ρ2 ++ [Dl]) H2 := ⟨px_app, Tk.refl, fun _ _ h => h⟩
    have o3 : Own K (ρ2 ++ [Dl]) (l2 ++ [.lst acc]) H2 := o2.add nD2 m2 ⟨av, hD2, Rws.mono m2 _ _ ra⟩
    obtain ⟨t, ht⟩ := st.pre
    refine p2 (ρ2 ++ [Dl]) H2 _ ⟨⟨t ++ [Dl], by rw [ht]; simp⟩, st.keep, fun a ha hn => ?_, st.fz⟩ o3 (rw_adr (by rw [← o2.len]; simp))
    rcases List.mem_append.mp ha with ha | ha
    · exact st.new a ha hn
    · simp at ha; subst ha; exact hD
theorem ae_lc {elt tg' iter : Expr} {ifs : List Expr} {scope : Scope} {own : List (Str × Nat)} {pos : Pos} (hc : X.calm = true) (hN : X.N.Nodup) (hi : AI X E tg' iter fi) (ok : BlkOk X.N X.env.scope scope own)
    (hg : ∀ (s : Shared) (H : Hp) (C : Addr) (cl : List (Str × Addr)) (fp : List Addr), PG (X.blk s H scope (compEnvC scope cl C X.env) fp) tg' tg)
    (ht : ∀ (s : Shared) (H : Hp) (C : Addr) (cl : List (Str × Addr)) (fp : List Addr), PTs (X.blk s H scope (compEnvC scope cl C X.env) fp) ifs (ttOf X.K E0 ct))
    (he : ∀ (s : Shared) (H : Hp) (C : Addr) (cl : List (Str × Addr)) (fp : List Addr), AE (X.blk s H scope (compEnvC scope cl C X.env) fp) E0 elt fe)
    (ag : AGw tg X.K (own.map (·.2)) gt) (hs : ∀ x, foldedSetIterable iter X.env x = pure x := by intro _; rfl) :
    AE X E (.ListComp elt [⟨tg', iter, ifs, 0⟩] scope pos) (dLc fi gt ct fe (own.map (·.2))) := ⟨PE.imp (pe_lc hc hN hi.pi ok hg ht (fun s H C cl fp => (he s H C cl fp).pe) hs) fun σ H Q h => lc_of ag h⟩
theorem as_setLc {i : Nat} {y : Str} {py : Pos} {elt tg' iter : Expr} {ifs : List Expr} {scope : Scope} {own : List (Str × Nat)} {pos spos : Pos} (hc : X.calm = true) (hN : X.N.Nodup) (hy : X.N[i]? = some y) (hyl : X.env.scope.names.lookup y = some .local)
    (hsw : swapsWith (.ListComp elt [⟨tg', iter, ifs, 0⟩] scope pos) (some (.Name y py)) spos.line X.env = pure true) (hi : AI X E tg' iter fi) (ok : BlkOk X.N X.env.scope scope own)
    (hg : ∀ (s : Shared) (H : Hp) (C : Addr) (cl : List (Str × Addr)) (fp : List Addr), PG (X.blk s H scope (compEnvC scope cl C X.env) fp) tg' tg)
    (ht : ∀ (s : Shared) (H : Hp) (C : Addr) (cl : List (Str × Addr)) (fp : List Addr), PTs (X.blk s H scope (compEnvC scope cl C X.env) fp) ifs (ttOf X.K E0 ct))
    (he : ∀ (s : Shared) (H : Hp) (C : Addr) (cl : List (Str × Addr)) (fp : List Addr), AE (X.blk s H scope (compEnvC scope cl C X.env) fp) E0 elt fe)
    (ag : AGw tg X.K (own.map (·.2)) gt) (hs : ∀ x, foldedSetIterable iter X.env x = pure x := by intro _; rfl) :
    AS X E (.Assign [.Name y py] (.ListComp elt [⟨tg', iter, ifs, 0⟩] scope pos) spos) (sSet i (dLc fi gt ct fe (own.map (·.2)))) := ⟨PS.imp (ps_setLc hc hN hy hyl hsw hi.pi ok hg ht (fun s H C cl fp => (he s H C cl fp).pe) hs) fun D σ H ⟨ρ, l, g, o, s, p⟩ =>
      lc_of ag ⟨ρ, l, g, o, s, OutP.of (rel := rD X.K) p fun d l1 ρ1 H1 v e1 s1 o1 r1 p1 => p1 ρ1 H1 _ Step.refl o1 ((s.step s1 o).set i r1)⟩⟩
/-- no test -/
def dYes : DB := fun _ l => .ok true l
theorem pts_none : PTs X [] (ttOf X.K E0 dYes) := ⟨fun pins s σ H Q I h => by
  obtain ⟨ρ, l, g, o, sl, p⟩ := h
  exact pts_nil.run pins s σ H Q I (Post.here p o rfl)⟩
theorem pts_one_ {c : Expr} {b : DB} (h : AT X E0 c b) : PTs X [c] (ttOf X.K E0 b) := pts_one h.pt
end
end Zb

set_option Elab.async false
set_option linter.all false
set_option maxRecDepth 100000
namespace Zb
open PySem L2 PySem.Spec PyProof.Rows
/-! ### defs -/
def startD (n : Nat) (ds : List D) : Sl := ds.map some ++ List.replicate (n - ds.length) none
/-- what a def whose body is den hands back; nothing is raised -/
def runB (n : Nat) (den : DS) : List D → Sto → Res D := fun ds l => match den (startD n ds) l with
  | .rt d l' => .ok d l'
  | .nx _ l' => .ok .non l'
  | _ => .bad
theorem slt_start {K : PySem.W.Frag} {ρ : List Addr} {H : Hp} {N : List Str} {ds : List D} {vs : List V} (r : Rws K ρ H ds vs) : Slt K ρ H (L2.start N vs) (startD N.length ds) := by
  have hl := r.length
  refine ⟨by simp [L2.start, startD, hl], fun i d e => ?_⟩
  unfold startD at e
  unfold L2.start
  by_cases h : i < ds.length
  · rw [List.getElem?_append_left (by simpa using h), List.getElem?_map] at e
    rw [List.getElem?_append_left (by simpa [hl] using h), List.getElem?_map]
    cases q : ds[i]? with
    | none => rw [q] at e; cases e
    | some d' =>
      rw [q] at e
      have e' : d' = d := by simpa using e
      subst e'
      obtain ⟨v, a, b⟩ := r.get q
      exact ⟨v, by rw [a]; rfl, b⟩
  · rw [List.getElem?_append_right (by simpa using h)] at e
    exact absurd e (by
      intro q
      have := List.getElem?_eq_some_iff.mp q
      obtain ⟨h1, h2⟩ := this
      simp at h2)
section
variable {P : Program} {w : World} {K : PySem.W.Frag} {mg : Str → Option Value} {base : Heap} {k n : Nat} {f : Addr} {fd : FuncData} {ps N : List Str} {x qual : Str} {st : Stmt}
theorem ok_body {den : DS} (F : Fun K x qual st f fd) (S : FnScope N ps (defScope st))
    (hb : ∀ (cdv : Value) (A : Around) (outer : List Env) (s : Shared) (H : Hp) (E : XK), Room k (A.deeper (envOfC qual (defScope st) s.heap.objs.size f cdv)) →
      ASs (cxOf CX0 P w K mg base N qual (defScope st) f cdv A outer s H E).nox E0 (defBody st) den) : FnOk P w K mg base CX0 (k + 1) f fd ps (spD K ps.length (runB N.length den)) := by
  refine F.ok S (fun vs H Q E h => ?_) (fun cdv A outer s H vs Q E hr h => ?_)
  · obtain ⟨ρ, l, ds, o, r, hl, _⟩ := h
    rw [r.length, hl]
  · obtain ⟨ρ, l, ds, o, r, hl, p⟩ := h
    refine ⟨_, (hb cdv A outer s H E hr).pss, ρ, l, startD N.length ds, o, slt_start r, ?_⟩
    unfold runB at p
    cases q : den (startD N.length ds) l with
    | bad => rw [q] at p; exact p
    | nx g l' => rw [q] at p; exact fun ρ' H' σ' s' o' _ => p ρ' H' .non s' o' rw_non
    | rt d l' => rw [q] at p; exact fun ρ' H' v s' o' r' => p ρ' H' v s' o' r'
    | bk g l' => rw [q] at p; exact p.elim
    | ct g l' => rw [q] at p; exact p.elim
    | ex C gs l' => rw [q] at p; exact p.elim
/-! other promises out of it -/
theorem imp_D {CX : CXT} {m m' : List D → Sto → Res D} (F : FnOk P w K mg base CX k f fd ps (spD K n m)) (h : ∀ ds l, ds.length = n → m' ds l ≠ .bad → m ds l = m' ds l) : FnOk P w K mg base CX k f fd ps (spD K n m') :=
  F.imp fun vs H Q E ⟨ρ, l, ds, o, r, hl, p⟩ => ⟨ρ, l, ds, o, r, hl, by rw [h ds l hl (Post.ne p)]; exact p⟩
theorem imp_P {CX : CXT} {m : List D → Sto → Res D} {pf : List D → Option D} (F : FnOk P w K mg base CX k f fd ps (spD K n m)) (h : ∀ ds d, ds.length = n → pf ds = some d → ∃ l', m ds [] = .ok d l' ∧ pu d = true) : FnOk P w K mg base CX k f fd ps (spP K n pf) :=
  F.imp fun vs H Q E ⟨ds, d, r, hl, e, q⟩ => ⟨[], [], ds, Own.nil, r, hl, by
    obtain ⟨l', e2, hp⟩ := h ds d hl e
    rw [e2]
    exact fun ρ' H' v s o r' => q v H' s.same (Rw.pure_ Tk.refl d v hp r')⟩
theorem imp_L {CX : CXT} {m : List D → Sto → Res D} {lf : List D → Option (List D)} (F : FnOk P w K mg base CX k f fd ps (spD K n m)) (h : ∀ ds xs, ds.length = n → lf ds = some xs → ∃ l' j, m ds [] = .ok (.adr j) l' ∧ l'[j]? = some (.lst xs) ∧ pus xs = true) : FnOk P w K mg base CX k f fd ps (spL K n lf) :=
  F.imp fun vs H Q E ⟨ds, xs, r, hl, e, q⟩ => ⟨[], [], ds, Own.nil, r, hl, by
    obtain ⟨l', j, e2, e3, hp⟩ := h ds xs hl e
    rw [e2]
    intro ρ' H' v s o r'
    simp only [Rw] at r'
    obtain ⟨a, ha, rfl⟩ := r'
    obtain ⟨us, h1, r2⟩ := o.at_ j _ a e3 ha
    exact q a us H' (s.new a (List.mem_of_getElem? ha) (by simp)) s.same h1 (Rws.pure_ Tk.refl xs us hp r2)⟩
end
/-! what is left in the store behind a call may be forgotten -/
mutual
def clD (n : Nat) : D → Bool
  | .adr m => decide (m < n)
  | .tup ds => clDs n ds
  | _ => true
def clDs (n : Nat) : List D → Bool
  | [] => true
  | d :: ds => clD n d && clDs n ds
end
def clO (n : Nat) : OB → Bool
  | .lst ds => clDs n ds
  | .dct kvs => clDs n (kvs.map (·.2))
  | .dtt kvs => clDs n (kvs.map (·.2))
  | .fct kvs => clDs n (kvs.map (·.2))
  | .ftt kvs => clDs n (kvs.map (·.2))
section
variable {K : PySem.W.Frag} {ρ t : List Addr} {l : Sto} {H : Hp}
mutual
theorem Rw.cl : ∀ (d : D) (v : V), clD ρ.length d = true → Rw K (ρ ++ t) H d v → Rw K ρ H d v
  | .non, _, _, h => by simpa [Rw] using h
  | .bl _, _, _, h => by simpa [Rw] using h
  | .int _, _, _, h => by simpa [Rw] using h
  | .str _, _, _, h => by simpa [Rw] using h
  | .ty _, _, _, h => by simpa [Rw] using h
  | .ro _, _, _, h => by
    simp only [Rw] at h ⊢
    exact h
  | .adr m, v, c, h => by
    simp only [Rw] at h ⊢
    obtain ⟨a, e, rfl⟩ := h
    have hm : m < ρ.length := by simpa [clD] using c
    rw [List.getElem?_append_left hm] at e
    exact ⟨a, e, rfl⟩
  | .tup ds, v, c, h => by
    obtain ⟨a, vs, rfl, q, r⟩ := h.tupH
    exact rw_tup q (Rws.cl ds vs (by simpa [clD] using c) r)
theorem Rws.cl : ∀ (ds : List D) (vs : List V), clDs ρ.length ds = true → Rws K (ρ ++ t) H ds vs → Rws K ρ H ds vs
  | [], _, _, h => by simpa [Rws] using h
  | d :: ds, vs, c, h => by
    simp only [Rws] at h
    obtain ⟨v, u, rfl, r1, r2⟩ := h
    simp only [clDs, Bool.and_eq_true] at c
    exact Rws.cons (Rw.cl d v c.1 r1) (Rws.cl ds u c.2 r2)
end
theorem Ow.cl {o : OB} {a : Addr} (c : clO ρ.length o = true) (h : Ow K (ρ ++ t) H o a) : Ow K ρ H o a := by
  cases o with
  | lst ds => obtain ⟨vs, e, r⟩ := h; exact ⟨vs, e, Rws.cl _ _ c r⟩
  | dct ds => obtain ⟨vs, e, q, r⟩ := h; exact ⟨vs, e, q, Rws.cl _ _ c r⟩
  | dtt ds => obtain ⟨vs, e, q, r⟩ := h; exact ⟨vs, e, q, Rws.cl _ _ c r⟩
  | fct ds => obtain ⟨od, vs, e, q, r⟩ := h; exact ⟨od, vs, e, q, Rws.cl _ _ c r⟩
  | ftt ds => obtain ⟨od, vs, e, q, r⟩ := h; exact ⟨od, vs, e, q, Rws.cl _ _ c r⟩
variable {P : Program} {w : World} {mg : Str → Option Value} {base : Heap} {k n : Nat} {f : Addr} {fd : FuncData} {ps : List Str}
theorem imp_S {CX : CXT} {m m' : List D → Sto → Res D} (F : FnOk P w K mg base CX k f fd ps (spD K n m))
    (h : ∀ ds l, ds.length = n → m' ds l ≠ .bad → ∃ d l2 junk, m' ds l = .ok d l2 ∧ m ds l = .ok d (l2 ++ junk) ∧ l2.length = l.length ∧ clD l.length d = true ∧ ∀ o ∈ l2, clO l.length o = true) : FnOk P w K mg base CX k f fd ps (spD K n m') :=
  F.imp fun vs H Q E ⟨ρ, l, ds, o, r, hl, p⟩ => ⟨ρ, l, ds, o, r, hl, by
    obtain ⟨d, l2, junk, e1, e2, e3, e4, e5⟩ := h ds l hl (Post.ne p)
    rw [e1] at p
    rw [e2]
    intro ρ' H' v s o' r'
    obtain ⟨t, rfl⟩ := s.pre
    have hρ : ρ.length = l.length := o.len
    refine p ρ H' v ⟨⟨[], by simp⟩, s.keep, fun a h n => absurd h n, s.fz⟩ ⟨o.nd, by rw [hρ, e3], fun i ob a q1 q2 => ?_⟩ (Rw.cl d v (by rw [hρ]; exact e4) r')
    have hi : i < l2.length := (List.getElem?_eq_some_iff.mp q1).1
    refine Ow.cl (t := t) (by rw [hρ]; exact e5 ob (List.mem_of_getElem? q1)) (o'.at_ i ob a (by rw [List.getElem?_append_left hi]; exact q1) (by rw [List.getElem?_append_left (List.getElem?_eq_some_iff.mp q2).1]; exact q2))⟩
end
end Zb

set_option Elab.async false
set_option linter.all false
set_option maxRecDepth 100000
namespace Zb
open PySem L2 PySem.Spec PyProof.Rows
/-- a def of the module that keeps a promise -/
structure Has (CX : CXT) (P : Program) (w : World) (K : PySem.W.Frag) (mg : Str → Option Value) (base : Heap) (x : Str) (k : Nat) (ps : List Str) (sp : Sp) : Prop where
  ex : ∃ (f : Addr) (fd : FuncData), mg x = some (.ref f) ∧ PySem.W.keepIn K (.ref f) = true ∧ Binds K fd ps [] ∧ FnOk P w K mg base CX k f fd ps sp
section
variable {P : Program} {w : World} {K : PySem.W.Frag} {mg : Str → Option Value} {base : Heap} {x : Str} {k n : Nat} {ps : List Str}
theorem Has.mono {CX : CXT} {j : Nat} {sp : Sp} (h : Has CX P w K mg base x j ps sp) (l : j ≤ k) : Has CX P w K mg base x k ps sp :=
  let ⟨f, fd, a, b, c, d⟩ := h.ex; ⟨f, fd, a, b, c, d.mono l⟩
theorem Has.toD {CX : CXT} {m m' : List D → Sto → Res D} (h : Has CX P w K mg base x k ps (spD K n m)) (q : ∀ ds l, ds.length = n → m' ds l ≠ .bad → m ds l = m' ds l) : Has CX P w K mg base x k ps (spD K n m') :=
  let ⟨f, fd, a, b, c, d⟩ := h.ex; ⟨f, fd, a, b, c, imp_D d q⟩
theorem Has.toP {CX : CXT} {m : List D → Sto → Res D} {pf : List D → Option D} (h : Has CX P w K mg base x k ps (spD K n m)) (q : ∀ ds d, ds.length = n → pf ds = some d → ∃ l', m ds [] = .ok d l' ∧ pu d = true) : Has CX P w K mg base x k ps (spP K n pf) :=
  let ⟨f, fd, a, b, c, d⟩ := h.ex; ⟨f, fd, a, b, c, imp_P d q⟩
theorem Has.toL {CX : CXT} {m : List D → Sto → Res D} {lf : List D → Option (List D)} (h : Has CX P w K mg base x k ps (spD K n m)) (q : ∀ ds xs, ds.length = n → lf ds = some xs → ∃ l' j, m ds [] = .ok (.adr j) l' ∧ l'[j]? = some (.lst xs) ∧ pus xs = true) : Has CX P w K mg base x k ps (spL K n lf) :=
  let ⟨f, fd, a, b, c, d⟩ := h.ex; ⟨f, fd, a, b, c, imp_L d q⟩
theorem Has.toS {CX : CXT} {m m' : List D → Sto → Res D} (h : Has CX P w K mg base x k ps (spD K n m))
    (q : ∀ ds l, ds.length = n → m' ds l ≠ .bad → ∃ d l2 junk, m' ds l = .ok d l2 ∧ m ds l = .ok d (l2 ++ junk) ∧ l2.length = l.length ∧ clD l.length d = true ∧ ∀ o ∈ l2, clO l.length o = true) : Has CX P w K mg base x k ps (spD K n m') :=
  let ⟨f, fd, a, b, c, d⟩ := h.ex; ⟨f, fd, a, b, c, imp_S d q⟩
end
section
variable {X : Cx} {E : XK} {e : Expr} {es : List Expr} {fs : DEs} {pos p : Pos} {x : Str} {k n : Nat} {ps : List Str}
theorem ae_callD {CX : CXT} {m : List D → Sto → Res D} (h : Has CX X.prog X.w X.K X.mg X.base x k ps (spD X.K n m)) (hr : Room k X.A) (hg : Gl X x) (ha : AA X E (e :: es) fs) (hx : Passes CX X E0 := by first | exact pass0 | exact passL) (hdb : (x == ("__debug__" : Str)) = false := by decide)
    (he : starEach (e :: es) X.env = (false, eval e X.env) :: starEach es X.env := by rfl) (hpl : (backTo pos (starEach es X.env)).any (·.1) = false := by rfl) : AE X E (.Call (.Name x p) (e :: es) [] pos) (dCall n m fs) := by
  obtain ⟨f, fd, a, b, c, d⟩ := h.ex
  exact ⟨PE.imp (pe_call d hr hg a b c .nil hx ha.pa (hdb := hdb) (he := he) (hpl := hpl)) fun σ H Q h => call_of h⟩
theorem ae_callP {CX : CXT} {pf : List D → Option D} (h : Has CX X.prog X.w X.K X.mg X.base x k ps (spP X.K n pf)) (hr : Room k X.A) (hg : Gl X x) (ha : AA X E (e :: es) fs) (hx : Passes CX X E0 := by first | exact pass0 | exact passL) (hdb : (x == ("__debug__" : Str)) = false := by decide)
    (he : starEach (e :: es) X.env = (false, eval e X.env) :: starEach es X.env := by rfl) (hpl : (backTo pos (starEach es X.env)).any (·.1) = false := by rfl) : AE X E (.Call (.Name x p) (e :: es) [] pos) (dCallP n pf fs) := by
  obtain ⟨f, fd, a, b, c, d⟩ := h.ex
  exact ⟨PE.imp (pe_call d hr hg a b c .nil hx ha.pa (hdb := hdb) (he := he) (hpl := hpl)) fun σ H Q h => callP_of h⟩
theorem ae_callL {CX : CXT} {lf : List D → Option (List D)} (h : Has CX X.prog X.w X.K X.mg X.base x k ps (spL X.K n lf)) (hr : Room k X.A) (hg : Gl X x) (ha : AA X E (e :: es) fs) (hx : Passes CX X E0 := by first | exact pass0 | exact passL) (hdb : (x == ("__debug__" : Str)) = false := by decide)
    (he : starEach (e :: es) X.env = (false, eval e X.env) :: starEach es X.env := by rfl) (hpl : (backTo pos (starEach es X.env)).any (·.1) = false := by rfl) : AE X E (.Call (.Name x p) (e :: es) [] pos) (dCallL n lf fs) := by
  obtain ⟨f, fd, a, b, c, d⟩ := h.ex
  exact ⟨PE.imp (pe_call d hr hg a b c .nil hx ha.pa (hdb := hdb) (he := he) (hpl := hpl)) fun σ H Q h => callL_of h⟩
end
/-- the number of turns that a while may take at the most -/
def fuel : Nat := 1000000000
end Zb

set_option Elab.async false
set_option linter.all false
set_option maxRecDepth 100000
namespace Zb
open PySem L2 PySem.Spec PyProof.Rows
/-! ### dicts whose keys are ints and texts -/
def keyD : D → Option Key
  | .int i => some (.inl i)
  | .str s => some (.inr s)
  | _ => none
def valD (kvs : List (Key × D)) (k : Key) : Option D := (kvs.find? fun kv => decide (kv.1 = k)).map (·.2)
section
variable {K : PySem.W.Frag} {ρ : List Addr} {l : Sto} {H : Hp} {E : XK}
theorem val_rel : ∀ {kvs : List (Key × D)} {kv : List (Key × V)} (k : Key), kv.map (·.1) = kvs.map (·.1) → Rws K ρ H (kvs.map (·.2)) (kv.map (·.2)) →
    (valD kvs k = none → valV kv k = none) ∧ ∀ d, valD kvs k = some d → ∃ v, valV kv k = some v ∧ Rw K ρ H d v
  | [], [], k, _, _ => ⟨fun _ => rfl, fun d h => by cases h⟩
  | [], _ :: _, k, h, _ => by simp at h
  | _ :: _, [], k, h, _ => by simp at h
  | (k1, d1) :: kvs, (k2, v2) :: kv, k, h, r => by
    simp only [List.map_cons, List.cons.injEq] at h
    obtain ⟨e, h⟩ := h
    subst e
    simp only [List.map_cons, Rws] at r
    obtain ⟨v, u, ev, r1, r2⟩ := r
    simp only [List.cons.injEq] at ev
    obtain ⟨rfl, rfl⟩ := ev
    have ih := val_rel (kvs := kvs) (kv := kv) k h r2
    unfold valD valV at ih ⊢
    by_cases q : k2 = k
    · subst q
      simp only [List.find?_cons, decide_true, Option.map_some]
      exact ⟨(fun z => by cases z), (fun d z => by cases z; exact ⟨_, rfl, r1⟩)⟩
    · simp only [List.find?_cons, decide_eq_false q]
      exact ih
theorem Own.dct {n : Nat} {ds : List (Key × D)} {v : V} (o : Own K ρ l H) (r : Rw K ρ H (.adr n) v) (h : l[n]? = some (.dct ds)) :
    ∃ a kv, v = .ref a ∧ ρ[n]? = some a ∧ H a = some (.dK kv) ∧ kv.map (·.1) = ds.map (·.1) ∧ Rws K ρ H (ds.map (·.2)) (kv.map (·.2)) := by
  simp only [Rw] at r
  obtain ⟨a, e, rfl⟩ := r
  obtain ⟨vs, h1, h2, h3⟩ := o.at_ n _ a h e
  exact ⟨a, vs, rfl, e, h1, h2, h3⟩
theorem key_rel {d : D} {k : Key} {v : V} (h : keyD d = some k) (r : Rw K ρ H d v) : v = kV k := by
  cases d with
  | int i => cases h; rw [r.int_]; rfl
  | str i => cases h; rw [r.str_]; rfl
  | _ => cases h
end
def hDIn (neg : Bool) (y x : D) (l : Sto) : Res D := match x, keyD y with
  | .adr n, some k => match l[n]? with
    | some (.dct kvs) => .ok (.bl (if neg then !(valD kvs k).isSome else (valD kvs k).isSome)) l
    | _ => .bad
  | _, _ => .bad
def hDGet (x y : D) (l : Sto) : Res D := match x, keyD y with
  | .adr n, some k => match l[n]? with
    | some (.dct kvs) => okO (valD kvs k) l
    | _ => .bad
  | _, _ => .bad
section
variable {X : Cx} {E : XK} {a b e : Expr} {fa fb : DE} {pos : Pos}
theorem some_rel {kvs : List (Key × D)} {kv : List (Key × V)} {K : PySem.W.Frag} {ρ : List Addr} {H : Hp} {k : Key} (h : kv.map (·.1) = kvs.map (·.1)) (r : Rws K ρ H (kvs.map (·.2)) (kv.map (·.2))) : (valV kv k).isSome = (valD kvs k).isSome := by
  obtain ⟨h1, h2⟩ := val_rel k h r
  cases q : valD kvs k with
  | none => rw [h1 q]; rfl
  | some d => obtain ⟨v, e, _⟩ := h2 d q; rw [e]; rfl
theorem ae_din (hu : X.A.units + 1 < cLine) (ha : AE X E a fa) (hb : AE X E b fb) (hm : behindInMarks .In b = false := by rfl) : AE X E (.Compare a [.In] [b] pos) (dOp (hDIn false) fa fb) := ⟨PE.imp (pe_cmp (pc_din hu ha.pe hb.pe) hm) fun σ H Q ⟨ρ, l, g, o, s, p⟩ => by
  refine ⟨ρ, l, g, o, s, Post.bind p fun y l1 ρ1 H1 v e1 s1 o1 r1 p1 => ?_⟩
  refine ⟨ρ1, l1, g, o1, s.step s1 o, Post.bind p1 fun x l2 ρ2 H2 u e2 s2 o2 r2 p2 => ?_⟩
  unfold hDIn at p2
  split at p2
  · rename_i n k hk
    split at p2
    · rename_i kvs e3
      obtain ⟨q, kv, rfl, _, h1, h2, h3⟩ := o2.dct r2 e3
      refine ⟨q, valV kv k, rfl, ?_, ?_⟩
      · rw [key_rel hk (s2.rw o1 r1)]; exact DGet.k h1
      · rw [some_rel h2 h3]; exact p2.here o2 rw_bl
    · exact p2.elim
  · exact p2.elim⟩
theorem ae_dnotin (hu : X.A.units + 1 < cLine) (ha : AE X E a fa) (hb : AE X E b fb) (hm : behindInMarks .NotIn b = false := by rfl) : AE X E (.Compare a [.NotIn] [b] pos) (dOp (hDIn true) fa fb) := ⟨PE.imp (pe_cmp (pc_dnotin hu ha.pe hb.pe) hm) fun σ H Q ⟨ρ, l, g, o, s, p⟩ => by
  refine ⟨ρ, l, g, o, s, Post.bind p fun y l1 ρ1 H1 v e1 s1 o1 r1 p1 => ?_⟩
  refine ⟨ρ1, l1, g, o1, s.step s1 o, Post.bind p1 fun x l2 ρ2 H2 u e2 s2 o2 r2 p2 => ?_⟩
  unfold hDIn at p2
  split at p2
  · rename_i n k hk
    split at p2
    · rename_i kvs e3
      obtain ⟨q, kv, rfl, _, h1, h2, h3⟩ := o2.dct r2 e3
      refine ⟨q, valV kv k, rfl, ?_, ?_⟩
      · rw [key_rel hk (s2.rw o1 r1)]; exact DGet.k h1
      · rw [some_rel h2 h3]; exact p2.here o2 rw_bl
    · exact p2.elim
  · exact p2.elim⟩
theorem ae_dget (hu : X.A.units + 1 < cLine) (ha : AE X E a fa) (hb : AE X E b fb) (hs : NoSl b := by intro _ _; rfl) : AE X E (.Subscript a b pos) (dOp hDGet fa fb) := ⟨PE.imp (pe_dget hu ha.pe hb.pe hs) fun σ H Q ⟨ρ, l, g, o, s, p⟩ => by
  refine ⟨ρ, l, g, o, s, Post.bind p fun x l1 ρ1 H1 v e1 s1 o1 r1 p1 => ?_⟩
  refine ⟨ρ1, l1, g, o1, s.step s1 o, Post.bind p1 fun y l2 ρ2 H2 u e2 s2 o2 r2 p2 => ?_⟩
  unfold hDGet at p2
  split at p2
  · rename_i n k hk
    split at p2
    · rename_i kvs e3
      obtain ⟨q, kv, rfl, _, h1, h2, h3⟩ := o2.dct (s2.rw o1 r1) e3
      obtain ⟨d, e4, p2⟩ := p2.okO_
      obtain ⟨v, e5, r5⟩ := (val_rel k h2 h3).2 d e4
      refine ⟨q, v, rfl, ?_, p2.here o2 r5⟩
      rw [key_rel hk r2, ← e5]; exact DGet.k h1
    · exact p2.elim
  · exact p2.elim⟩
/-- a display of written texts and ints -/
def dDct (cs : List (Str × Int)) : DE := fun _ l => .ok (.adr l.length) (l ++ [.dct (cs.map fun c => (.inr c.1, .int c.2))])
theorem putK_new {kvs : List (Key × V)} {k : Key} {v : V} (h : k ∉ kvs.map (·.1)) : putK kvs k v = kvs ++ [(k, v)] := by
  unfold putK
  rw [if_neg]
  intro q
  obtain ⟨kv, hm, e⟩ := List.any_eq_true.mp q
  exact h (List.mem_map.mpr ⟨kv, hm, of_decide_eq_true e⟩)
theorem merge_new : ∀ (more kvs : List (Key × V)), ((kvs ++ more).map (·.1)).Nodup → mergeK kvs more = kvs ++ more
  | [], kvs, _ => by simp [mergeK]
  | m :: more, kvs, h => by
    have h1 : m.1 ∉ kvs.map (·.1) := by
      intro q
      rw [List.map_append, List.nodup_append] at h
      exact h.2.2 m.1 q m.1 (by simp) rfl
    show mergeK (putK kvs m.1 m.2) more = _
    rw [putK_new h1, merge_new more _ (by simpa using h)]
    simp
theorem pairs_c : ∀ (cs : List (Str × Int)) (σ : L2.St) (H : Hp) (Q : List (V × V) → Hp → Prop), Q (cs.map fun c => (.str c.1, .int c.2)) H → tPairs (cs.map fun c => (tC (.str c.1), tC (.int c.2))) σ H Q
  | [], _, _, _, h => h
  | c :: cs, σ, H, Q, h => pairs_c cs σ H (fun ps H3 => Q ((.str c.1, .int c.2) :: ps) H3) h
theorem rws_c {K : PySem.W.Frag} {ρ : List Addr} {H : Hp} : ∀ cs : List (Str × Int), Rws K ρ H (cs.map fun c => .int c.2) (cs.map fun c => .int c.2)
  | [] => Rws.nil
  | c :: cs => Rws.cons rw_int (rws_c cs)
theorem ae_dct {cs : List (Str × Int)} (h : PE X e (tDisp (cs.map fun c => (tC (.str c.1), tC (.int c.2))))) (nd : (cs.map (·.1)).Nodup) (hl : cs.length ≤ 15) : AE X E e (dDct cs) := ⟨PE.imp h fun σ H Q ⟨ρ, l, g, o, s, p⟩ => by
  intro q hq
  refine pairs_c cs σ _ _ ⟨upd_same, cs.map (fun c => (Sum.inr c.1, V.int c.2)), by simp [kV], by simpa using hl, ?_⟩
  have nd2 : ((cs.map (fun c => ((Sum.inr c.1 : Key), V.int c.2))).map (·.1)).Nodup := by
    rw [List.map_map]
    have e : ((fun x : Key × V => x.1) ∘ fun c : Str × Int => ((Sum.inr c.1 : Key), V.int c.2)) = (fun s : Str => (Sum.inr s : Key)) ∘ (·.1) := rfl
    rw [e, ← List.map_map]
    exact List.Pairwise.map _ (fun a b h q => h (Sum.inr.inj q)) nd
  rw [merge_new _ [] (by simpa using nd2), List.nil_append]
  have up : upd (upd H q (.dK [])) q (.dK (cs.map fun c => ((Sum.inr c.1 : Key), V.int c.2))) = upd H q (.dK (cs.map fun c => ((Sum.inr c.1 : Key), V.int c.2))) := upd_upd
  rw [up]
  obtain ⟨o1, s1⟩ := o.newO (u := .dK (cs.map fun c => ((Sum.inr c.1 : Key), V.int c.2))) (ob := .dct (cs.map fun c => (.inr c.1, .int c.2))) hq fun m => ⟨_, upd_same, by simp, by
    rw [List.map_map, List.map_map]
    exact rws_c cs⟩
  exact p _ _ _ s1 o1 (rw_adr (by rw [← o.len]; simp))⟩
end
end Zb

set_option Elab.async false
set_option linter.all false
set_option maxRecDepth 100000
namespace Zb
open PySem L2 PySem.Spec PyProof.Rows
/-! ### calls with a jug, with lists that are read, with a new list -/
inductive Kd where
  | P | L
structure Jug where
  f : Int
  gs : List Int
def Jug.ob (q : Nat) (J : Jug) : OB := .lst [.int J.f, .adr q]
def Jug.gob (J : Jug) : OB := .lst (J.gs.map D.int)
def insOne : Kd → D → Sto → Option D
  | .P, d, _ => if pu d then some d else none
  | .L, .adr n, l => match l[n]? with
    | some (.lst xs) => if pus xs then some (.tup xs) else none
    | _ => none
  | .L, _, _ => none
def ins : List Kd → List D → Sto → Option (List D)
  | [], [], _ => some []
  | k :: ks, d :: ds, l => match insOne k d l with
    | some e => (ins ks ds l).map (e :: ·)
    | none => none
  | _, _, _ => none
def idx : List Kd → List D → List Nat
  | .L :: ks, .adr n :: ds => n :: idx ks ds
  | _ :: ks, _ :: ds => idx ks ds
  | _, _ => []
def smA : List Kd → Nat → List D → List D
  | .L :: ks, k, _ :: ds => .adr k :: smA ks (k + 1) ds
  | .P :: ks, k, d :: ds => d :: smA ks k ds
  | _, _, _ => []
def smL : List Kd → List D → List OB
  | .L :: ks, .tup xs :: ds => .lst xs :: smL ks ds
  | .P :: ks, _ :: ds => smL ks ds
  | _, _ => []
def resK (rl : Bool) (d : D) (l : Sto) : Res D := match rl, d with
  | false, d => if pu d then .ok d l else .bad
  | true, .tup xs => if pus xs then .ok (.adr l.length) (l ++ [.lst xs]) else .bad
  | _, _ => .bad
def getJ (l : Sto) (w : Nat) : Option (Nat × Jug) := match l[w]? with
  | some (.lst [.int f, .adr q]) => match l[q]? with
    | some (.lst gs) => (intsOf gs).map fun ns => (q, ⟨f, ns⟩)
    | _ => none
  | _ => none
def putJ (l : Sto) (w q : Nat) (J : Jug) : Sto := (l.set w (J.ob q)).set q J.gob
def callF (ks : List Kd) (rl : Bool) (f : List D → Option D) (ds : List D) (l : Sto) : Res D := match ins ks ds l with
  | some es => if (idx ks ds).Nodup then (match f es with
    | some d => resK rl d l
    | none => .bad) else .bad
  | none => .bad
def callJ (ks : List Kd) (rl : Bool) (j : Jug → List D → Option (D × Jug)) (ds : List D) (l : Sto) : Res D := match ds with
  | .adr w :: ds => (match getJ l w with
    | some (q, J) => (match ins ks ds l with
      | some es => if (w :: q :: idx ks ds).Nodup then (match j J es with
        | some (d, J') => resK rl d (putJ l w q J')
        | none => .bad) else .bad
      | none => .bad)
    | none => .bad)
  | _ => .bad
/-- what the def hands back in its own small store -/
def outK (rl : Bool) (b : Nat) (d d' : D) (L : Sto) : Prop := match rl with
  | false => d' = d
  | true => ∃ xs k, d = .tup xs ∧ d' = .adr k ∧ L[k]? = some (.lst xs) ∧ b ≤ k

section
variable {K : PySem.W.Frag} {E : XK} {ρ : List Addr} {l : Sto} {H H' : Hp}
theorem nodup_inj {ρ : List Addr} (h : ρ.Nodup) {i j : Nat} (hi : i < ρ.length) (hj : j < ρ.length) (e : ρ[i] = ρ[j]) : i = j := by
  have := List.pairwise_iff_getElem.mp h
  rcases Nat.lt_trichotomy i j with q | q | q
  · exact absurd e (this i j hi hj q)
  · exact q
  · exact absurd e.symm (this j i hj hi q)
def adrs (ρ : List Addr) (is : List Nat) : List Addr := is.map fun n => ρ.getD n 0
theorem adrs_get {is : List Nat} {j n : Nat} (h : is[j]? = some n) (b : n < ρ.length) : ∃ a, ρ[n]? = some a ∧ (adrs ρ is)[j]? = some a := by
  refine ⟨ρ[n], List.getElem?_eq_getElem b, ?_⟩
  simp [adrs, h, List.getD_eq_getElem?_getD, List.getElem?_eq_getElem b]
theorem adrs_nodup {is : List Nat} (h : is.Nodup) (b : ∀ n ∈ is, n < ρ.length) (nd : ρ.Nodup) : (adrs ρ is).Nodup := by
  induction is with
  | nil => simp [adrs]
  | cons i is ih =>
    simp only [List.nodup_cons] at h
    have ih' := ih h.2 (fun n hn => b n (List.mem_cons_of_mem _ hn))
    have e : adrs ρ (i :: is) = ρ.getD i 0 :: adrs ρ is := rfl
    rw [e, List.nodup_cons]
    refine ⟨fun hm => h.1 ?_, ih'⟩
    obtain ⟨n, hn, e⟩ := List.mem_map.mp hm
    have b1 := b i List.mem_cons_self
    have b2 := b n (List.mem_cons_of_mem _ hn)
    simp only [List.getD_eq_getElem?_getD, List.getElem?_eq_getElem b1, List.getElem?_eq_getElem b2, Option.getD_some] at e
    have := nodup_inj nd b2 b1 e
    subst this; exact hn
theorem adrs_mem {is : List Nat} {a : Addr} (b : ∀ n ∈ is, n < ρ.length) (h : a ∈ adrs ρ is) : a ∈ ρ := by
  obtain ⟨n, hn, e⟩ := List.mem_map.mp h
  have b1 := b n hn
  simp only [List.getD_eq_getElem?_getD, List.getElem?_eq_getElem b1, Option.getD_some] at e
  subst e; exact List.getElem_mem _
theorem frame {is : List Nat} {t : List Addr} {l2 : Sto} (o : Own K ρ l H) (b : ∀ n ∈ is, n < ρ.length) (s : Step (adrs ρ is) H (adrs ρ is ++ t) H') (hl : l2.length = l.length)
    (same : ∀ n, n ∉ is → l2[n]? = l[n]?) (new : ∀ (j n : Nat) (ob : OB) (a : Addr), is[j]? = some n → l2[n]? = some ob → ρ[n]? = some a → Mn K ρ H ρ H' → Ow K ρ H' ob a) : Own K ρ l2 H' ∧ Step ρ H ρ H' := by
  have st : Step ρ H ρ H' := ⟨⟨[], by simp⟩, fun a u e hn => s.keep a u e fun q => hn (adrs_mem b q), fun a h n => absurd h n, s.fz⟩
  refine ⟨⟨o.nd, by rw [o.len, hl], fun n ob a e1 e2 => ?_⟩, st⟩
  by_cases q : n ∈ is
  · obtain ⟨j, hj⟩ := List.getElem?_of_mem q
    exact new j n ob a hj e1 e2 (st.mn o)
  · rw [same n q] at e1
    refine Ow.mono (st.mn o) (fun u e => s.keep a u e fun hm => ?_) (o.at_ n ob a e1 e2)
    obtain ⟨m, hm1, hm2⟩ := List.mem_map.mp hm
    have b1 := b m hm1
    simp only [List.getD_eq_getElem?_getD, List.getElem?_eq_getElem b1, Option.getD_some] at hm2
    obtain ⟨b2, e3⟩ := List.getElem?_eq_some_iff.mp e2
    rw [← e3] at hm2
    have := nodup_inj o.nd b1 b2 hm2
    subst this; exact q hm1
theorem ins_inv {ks : List Kd} {k : Kd} {ds es : List D} (h : ins (k :: ks) ds l = some es) : ∃ d ds' e es', ds = d :: ds' ∧ insOne k d l = some e ∧ ins ks ds' l = some es' ∧ es = e :: es' := by
  cases ds with
  | nil => simp [ins] at h
  | cons d ds =>
    simp only [ins] at h
    cases q : insOne k d l with
    | none => rw [q] at h; cases h
    | some e =>
      rw [q] at h
      cases q2 : ins ks ds l with
      | none => rw [q2] at h; cases h
      | some es' => rw [q2] at h; cases h; exact ⟨d, ds, e, es', rfl, q, q2, rfl⟩
theorem insP {d e : D} (h : insOne .P d l = some e) : pu d = true ∧ e = d := by
  simp only [insOne] at h
  split at h
  · cases h; exact ⟨by assumption, rfl⟩
  · cases h
theorem insL {d e : D} (h : insOne .L d l = some e) : ∃ n xs, d = .adr n ∧ l[n]? = some (.lst xs) ∧ pus xs = true ∧ e = .tup xs := by
  cases d with
  | adr n =>
    simp only [insOne] at h
    split at h
    · split at h
      · cases h; exact ⟨n, _, rfl, by assumption, by assumption, rfl⟩
      · cases h
    · cases h
  | _ => simp [insOne] at h
theorem ins_nil {ds es : List D} (h : ins [] ds l = some es) : ds = [] ∧ es = [] := by
  cases ds with
  | nil => simp [ins] at h; exact ⟨rfl, h⟩
  | cons d ds => simp [ins] at h
theorem idx_lt (o : Own K ρ l H) : ∀ {ks : List Kd} {ds es : List D}, ins ks ds l = some es → ∀ n ∈ idx ks ds, n < ρ.length
  | [], _, _, h, n, hn => by obtain ⟨rfl, rfl⟩ := ins_nil h; simp [idx] at hn
  | .P :: ks, _, _, h, n, hn => by
    obtain ⟨d, ds, e, es, rfl, h1, h2, rfl⟩ := ins_inv h
    exact idx_lt o h2 n (by simpa [idx] using hn)
  | .L :: ks, _, _, h, n, hn => by
    obtain ⟨d, ds, e, es, rfl, h1, h2, rfl⟩ := ins_inv h
    obtain ⟨m, xs, rfl, h3, h4, rfl⟩ := insL h1
    simp only [idx, List.mem_cons] at hn
    rcases hn with rfl | hn
    · rw [o.len]; exact (List.getElem?_eq_some_iff.mp h3).1
    · exact idx_lt o h2 n hn
theorem smL_len (k : Nat) : ∀ {ks : List Kd} {ds es : List D}, ins ks ds l = some es → (smL ks es).length = (idx ks ds).length ∧ (smA ks k es).length = ks.length
  | [], _, _, h => by obtain ⟨rfl, rfl⟩ := ins_nil h; simp [idx, smL, smA]
  | .P :: ks, _, _, h => by
    obtain ⟨d, ds, e, es, rfl, h1, h2, rfl⟩ := ins_inv h
    have := smL_len k h2
    simpa [idx, smL, smA] using this
  | .L :: ks, _, _, h => by
    obtain ⟨d, ds, e, es, rfl, h1, h2, rfl⟩ := ins_inv h
    obtain ⟨m, xs, rfl, h3, h4, rfl⟩ := insL h1
    have := smL_len (k + 1) h2
    simpa [idx, smL, smA] using this
/-- the arguments, told in the small store -/
theorem sm_args (o : Own K ρ l H) (m : Tk K H H') : ∀ {ks : List Kd} {ds es : List D} {vs : List V} (p : List Addr), ins ks ds l = some es → Rws K ρ H ds vs → Rws K (p ++ adrs ρ (idx ks ds)) H' (smA ks p.length es) vs
  | [], _, _, _, p, h, r => by obtain ⟨rfl, rfl⟩ := ins_nil h; simp only [Rws] at r; subst r; simp [smA, Rws]
  | .P :: ks, _, _, vs, p, h, r => by
    obtain ⟨d, ds, e, es, rfl, h1, h2, rfl⟩ := ins_inv h
    obtain ⟨pd, rfl⟩ := insP h1
    simp only [Rws] at r
    obtain ⟨v, us, rfl, r1, r2⟩ := r
    exact Rws.cons (Rw.pure_ m e v pd r1) (sm_args o m p h2 r2)
  | .L :: ks, _, _, vs, p, h, r => by
    obtain ⟨d, ds, e, es, rfl, h1, h2, rfl⟩ := ins_inv h
    obtain ⟨n, xs, rfl, h3, h4, rfl⟩ := insL h1
    simp only [Rws] at r
    obtain ⟨v, us, rfl, r1, r2⟩ := r
    simp only [Rw] at r1
    obtain ⟨a, ha, rfl⟩ := r1
    have hn : n < ρ.length := (List.getElem?_eq_some_iff.mp ha).1
    have e1 : ρ.getD n 0 = a := by rw [List.getD_eq_getElem?_getD, ha]; rfl
    have e2 : p ++ adrs ρ (idx (.L :: ks) (.adr n :: ds)) = (p ++ [a]) ++ adrs ρ (idx ks ds) := by simp only [idx, adrs, List.map_cons, e1]; simp
    rw [e2]
    refine Rws.cons (rw_adr (by simp)) ?_
    have := sm_args o m (p ++ [a]) h2 r2
    simpa using this
/-- the lists, told in any store -/
theorem sm_lists {is : List Nat} (o : Own K ρ l H) (m : Tk K H H') (ρ' : List Addr) (keep : ∀ n ∈ is, ∀ a, ρ[n]? = some a → ∀ u, H a = some u → H' a = some u) : ∀ {ks : List Kd} {ds es : List D}, ins ks ds l = some es → (∀ n ∈ idx ks ds, n ∈ is) →
    ∀ (j : Nat) (ob : OB) (a : Addr), (smL ks es)[j]? = some ob → (adrs ρ (idx ks ds))[j]? = some a → Ow K ρ' H' ob a
  | [], _, _, h, _, j, ob, a, e1, _ => by obtain ⟨rfl, rfl⟩ := ins_nil h; simp [smL] at e1
  | .P :: ks, _, _, h, hs, j, ob, a, e1, e2 => by
    obtain ⟨d, ds, e, es, rfl, h1, h2, rfl⟩ := ins_inv h
    exact sm_lists o m ρ' keep h2 (by simpa [idx] using hs) j ob a (by simpa [smL] using e1) (by simpa [idx] using e2)
  | .L :: ks, _, _, h, hs, j, ob, a, e1, e2 => by
    obtain ⟨d, ds, e, es, rfl, h1, h2, rfl⟩ := ins_inv h
    obtain ⟨n, xs, rfl, h3, h4, rfl⟩ := insL h1
    have hn : n < ρ.length := by rw [o.len]; exact (List.getElem?_eq_some_iff.mp h3).1
    have e3 : adrs ρ (idx (.L :: ks) (.adr n :: ds)) = ρ[n] :: adrs ρ (idx ks ds) := by simp [idx, adrs, List.getElem?_eq_getElem hn]
    rw [e3] at e2
    simp only [idx, List.mem_cons, forall_eq_or_imp] at hs
    cases j with
    | zero =>
      simp only [smL, List.getElem?_cons_zero, Option.some.injEq] at e1 e2
      subst e1; subst e2
      obtain ⟨us, q1, q2⟩ := o.at_ n _ _ h3 (List.getElem?_eq_getElem hn)
      exact ⟨us, keep n hs.1 _ (List.getElem?_eq_getElem hn) _ q1, Rws.pure_ m xs us h4 q2⟩
    | succ j => exact sm_lists o m ρ' keep h2 hs.2 j ob a (by simpa [smL] using e1) (by simpa using e2)
end
end Zb

set_option Elab.async false
set_option linter.all false
set_option maxRecDepth 100000
namespace Zb
open PySem L2 PySem.Spec PyProof.Rows
section
variable {K : PySem.W.Frag} {E : XK} {ρ : List Addr} {l : Sto} {H H' : Hp}
theorem finish {rl : Bool} {b : Nat} {d d' : D} {v : V} {ρs ρ' : List Addr} {L l2 : Sto} {Q : VK} (o : Own K ρ l H) (o2 : Own K ρ l2 H') (st : Step ρ H ρ H') (o' : Own K ρ' L H') (s : Step ρs H ρ' H') (hout : outK rl b d d' L) (hb : ρs.length ≤ b)
    (r : Rw K ρ' H' d' v) (p : Post K E ρ H (rD K) (resK rl d l2) Q) : Q v H' := by
  cases rl with
  | false =>
    cases hout
    simp only [resK] at p
    obtain ⟨pd, p⟩ := Post.ite p
    exact p ρ H' v st o2 (Rw.pure_ Tk.refl _ v pd r)
  | true =>
    obtain ⟨xs, k, rfl, rfl, e, hk⟩ := hout
    simp only [resK] at p
    obtain ⟨pd, p⟩ := Post.ite p
    simp only [Rw] at r
    obtain ⟨a, ha, rfl⟩ := r
    obtain ⟨us, h1, r2⟩ := o'.at_ k _ a e ha
    have hns : a ∉ ρs := fun q => by
      obtain ⟨j, hj⟩ := List.getElem?_of_mem q
      have hj2 := s.px j a hj
      have hj1 := (List.getElem?_eq_some_iff.mp hj).1
      obtain ⟨b1, e1⟩ := List.getElem?_eq_some_iff.mp hj2
      obtain ⟨b2, e2⟩ := List.getElem?_eq_some_iff.mp ha
      have := nodup_inj o'.nd b1 b2 (e1.trans e2.symm)
      omega
    have hnew := s.new a (List.mem_of_getElem? ha) hns
    have hna := o.nop hnew
    have m : Mn K ρ H' (ρ ++ [a]) H' := ⟨fun n b h => px_app n b h, Tk.refl, fun _ _ h => h⟩
    refine p (ρ ++ [a]) H' _ ⟨⟨[a], rfl⟩, st.keep, fun b hb hn => ?_, st.fz⟩ (o2.add hna m ⟨us, h1, Rws.pure_ Tk.refl xs us pd r2⟩) (rw_adr (by rw [← o2.len]; simp))
    rcases List.mem_append.mp hb with hb | hb
    · exact absurd hb hn
    · simp at hb; subst hb; exact hnew
theorem ints_map : ∀ {ds : List D} {ns : List Int}, intsOf ds = some ns → ds = ns.map D.int
  | [], _, h => by simp [intsOf] at h; subst h; rfl
  | .int i :: ds, _, h => by
    simp only [intsOf] at h
    cases q : intsOf ds with
    | none => rw [q] at h; cases h
    | some ns' => rw [q] at h; cases h; rw [ints_map q]; rfl
  | .non :: _, _, h => by simp [intsOf] at h
  | .bl _ :: _, _, h => by simp [intsOf] at h
  | .str _ :: _, _, h => by simp [intsOf] at h
  | .ty _ :: _, _, h => by simp [intsOf] at h
  | .adr _ :: _, _, h => by simp [intsOf] at h
  | .ro _ :: _, _, h => by simp [intsOf] at h
  | .tup _ :: _, _, h => by simp [intsOf] at h
theorem pus_int : ∀ ns : List Int, pus (ns.map D.int) = true
  | [] => rfl
  | n :: ns => by simp [pus, pu, pus_int ns]
theorem getJ_inv {w q : Nat} {J : Jug} (h : getJ l w = some (q, J)) : l[w]? = some (J.ob q) ∧ l[q]? = some J.gob := by
  unfold getJ at h
  split at h
  · split at h
    · rename_i _ f q' e1 _ gs e2
      cases z : intsOf gs with
      | none => rw [z] at h; cases h
      | some ns =>
        rw [z] at h
        cases h
        exact ⟨e1, by rw [e2, ints_map z]; rfl⟩
    · cases h
  · cases h
theorem smL_get : ∀ {ks : List Kd} {ds es : List D}, ins ks ds l = some es → ∀ (j n : Nat), (idx ks ds)[j]? = some n → ∃ xs, l[n]? = some (.lst xs) ∧ (smL ks es)[j]? = some (.lst xs) ∧ pus xs = true
  | [], _, _, h, j, n, e => by obtain ⟨rfl, rfl⟩ := ins_nil h; simp [idx] at e
  | .P :: ks, _, _, h, j, n, e => by
    obtain ⟨d, ds, e', es, rfl, h1, h2, rfl⟩ := ins_inv h
    exact smL_get h2 j n (by simpa [idx] using e)
  | .L :: ks, _, _, h, j, n, e => by
    obtain ⟨d, ds, e', es, rfl, h1, h2, rfl⟩ := ins_inv h
    obtain ⟨m, xs, rfl, h3, h4, rfl⟩ := insL h1
    cases j with
    | zero => simp only [idx, List.getElem?_cons_zero, Option.some.injEq] at e; subst e; exact ⟨xs, h3, rfl, h4⟩
    | succ j => exact smL_get h2 j n (by simpa [idx] using e)
variable {P : Program} {w : World} {mg : Str → Option Value} {base : Heap} {k n : Nat} {f : Addr} {fd : FuncData} {ps : List Str}
theorem imp_F {CX : CXT} {m : List D → Sto → Res D} {ks : List Kd} {rl : Bool} {pf : List D → Option D} (F : FnOk P w K mg base CX k f fd ps (spD K ks.length m))
    (q : ∀ es d, es.length = ks.length → pf es = some d → ∃ d' junk, m (smA ks 0 es) (smL ks es) = .ok d' (smL ks es ++ junk) ∧ outK rl (smL ks es).length d d' (smL ks es ++ junk)) : FnOk P w K mg base CX k f fd ps (spD K ks.length (callF ks rl pf)) :=
  F.imp fun vs H Q E ⟨ρ, l, ds, o, r, hl, p⟩ => by
    unfold callF at p
    split at p
    · rename_i es he
      split at p
      · rename_i nd
        split at p
        · rename_i d hd
          have hb := idx_lt o he
          obtain ⟨sl, sa⟩ := smL_len 0 he
          have hes : es.length = ks.length := by
            have : ∀ {ks : List Kd} {ds es : List D}, ins ks ds l = some es → es.length = ks.length := by
              intro ks
              induction ks with
              | nil => intro ds es h; obtain ⟨rfl, rfl⟩ := ins_nil h; rfl
              | cons k ks ih => intro ds es h; obtain ⟨d, ds, e', es, rfl, h1, h2, rfl⟩ := ins_inv h; simp [ih h2]
            exact this he
          obtain ⟨d', junk, e1, e2⟩ := q es d hes hd
          have own : Own K (adrs ρ (idx ks ds)) (smL ks es) H := ⟨adrs_nodup nd hb o.nd, by rw [sl]; simp [adrs], fun n ob a h1 h2 =>
            sm_lists (is := idx ks ds) o Tk.refl _ (fun _ _ _ _ u hu => hu) he (fun _ h => h) n ob a h1 h2⟩
          refine ⟨adrs ρ (idx ks ds), smL ks es, smA ks 0 es, own, by simpa using sm_args o Tk.refl [] he r, sa, ?_⟩
          rw [e1]
          intro ρ' H' v s o' r'
          obtain ⟨t, rfl⟩ := s.pre
          have fr := frame (l2 := l) o hb s rfl (fun _ _ => rfl) fun j n ob a h1 h2 h3 m => by
            obtain ⟨xs, g1, g2, g3⟩ := smL_get he j n h1
            rw [g1] at h2; cases h2
            have hj : j < (smL ks es).length := (List.getElem?_eq_some_iff.mp g2).1
            obtain ⟨a', h4, h5⟩ := adrs_get (ρ := ρ) h1 (hb n (List.mem_of_getElem? h1))
            rw [h3] at h4; cases h4
            obtain ⟨us, u1, u2⟩ := o'.at_ j _ a (by rw [List.getElem?_append_left hj]; exact g2) (by rw [List.getElem?_append_left (List.getElem?_eq_some_iff.mp h5).1]; exact h5)
            exact ⟨us, u1, Rws.pure_ Tk.refl xs us g3 u2⟩
          exact finish o fr.1 fr.2 o' s e2 (by rw [sl]; simp [adrs]) r' p
        · exact p.elim
      · exact p.elim
    · exact p.elim
theorem ins_len {ks : List Kd} : ∀ {ds es : List D}, ins ks ds l = some es → es.length = ks.length := by
  induction ks with
  | nil => intro ds es h; obtain ⟨rfl, rfl⟩ := ins_nil h; rfl
  | cons k ks ih => intro ds es h; obtain ⟨d, ds, e', es, rfl, h1, h2, rfl⟩ := ins_inv h; simp [ih h2]
theorem imp_J {CX : CXT} {m : List D → Sto → Res D} {ks : List Kd} {rl : Bool} {pj : Jug → List D → Option (D × Jug)} (F : FnOk P w K mg base CX k f fd ps (spD K (ks.length + 1) m))
    (q : ∀ J es d J', es.length = ks.length → pj J es = some (d, J') → ∃ d' junk, m (.adr 0 :: smA ks 2 es) (J.ob 1 :: J.gob :: smL ks es) = .ok d' (J'.ob 1 :: J'.gob :: (smL ks es ++ junk)) ∧ outK rl (2 + (smL ks es).length) d d' (J'.ob 1 :: J'.gob :: (smL ks es ++ junk))) : FnOk P w K mg base CX k f fd ps (spD K (ks.length + 1) (callJ ks rl pj)) :=
  F.imp fun vs H Q E ⟨ρ, l, ds, o, r, hl, p⟩ => by
    unfold callJ at p
    split at p
    · rename_i wi ds
      split at p
      · rename_i qi J hJ
        split at p
        · rename_i es he
          split at p
          · rename_i nd
            split at p
            · rename_i d J' hd
              obtain ⟨gw, gq⟩ := getJ_inv hJ
              have hb := idx_lt o he
              obtain ⟨sl, sa⟩ := smL_len 2 he
              obtain ⟨d', junk, e1, e2⟩ := q J es d J' (ins_len he) hd
              have bw : wi < ρ.length := by rw [o.len]; exact (List.getElem?_eq_some_iff.mp gw).1
              have bq : qi < ρ.length := by rw [o.len]; exact (List.getElem?_eq_some_iff.mp gq).1
              have ew := List.getElem?_eq_getElem bw
              have eq := List.getElem?_eq_getElem bq
              have hball : ∀ n ∈ wi :: qi :: idx ks ds, n < ρ.length := by
                intro n hn
                simp only [List.mem_cons] at hn
                rcases hn with rfl | rfl | hn
                · exact bw
                · exact bq
                · exact hb n hn
              have ea : adrs ρ (wi :: qi :: idx ks ds) = [ρ[wi], ρ[qi]] ++ adrs ρ (idx ks ds) := by simp [adrs, ew, eq]
              simp only [Rws] at r
              obtain ⟨v, us, rfl, r1, r2⟩ := r
              simp only [Rw] at r1
              obtain ⟨a1, h1, rfl⟩ := r1
              rw [ew] at h1; cases h1
              have own : Own K (adrs ρ (wi :: qi :: idx ks ds)) (J.ob 1 :: J.gob :: smL ks es) H := ⟨adrs_nodup nd hball o.nd, by simp [sl, adrs], fun n ob a h1 h2 => by
                rw [ea] at h2 ⊢
                match n, h1, h2 with
                | 0, h1, h2 =>
                  simp at h1 h2; subst h1; subst h2
                  obtain ⟨vs, u1, u2⟩ := o.at_ wi _ _ gw ew
                  obtain ⟨v1, v2, rfl, w1, w2⟩ := u2.two_
                  refine ⟨_, u1, Rws.cons (by simpa [Rw] using w1) (Rws.one ?_)⟩
                  simp only [Rw] at w2
                  obtain ⟨b, hb1, rfl⟩ := w2
                  rw [eq] at hb1; cases hb1
                  exact rw_adr (by simp)
                | 1, h1, h2 =>
                  simp at h1 h2; subst h1; subst h2
                  obtain ⟨vs, u1, u2⟩ := o.at_ qi _ _ gq eq
                  exact ⟨_, u1, Rws.pure_ Tk.refl _ _ (pus_int _) u2⟩
                | n + 2, h1, h2 =>
                  exact sm_lists (is := idx ks ds) o Tk.refl _ (fun _ _ _ _ u hu => hu) he (fun _ h => h) n ob a (by simpa using h1) (by simpa using h2)⟩
              refine ⟨_, _, .adr 0 :: smA ks 2 es, own, ?_, by simp [sa], ?_⟩
              · rw [ea]
                refine Rws.cons (rw_adr (by simp)) ?_
                exact sm_args o Tk.refl [_, _] he r2
              · rw [e1]
                intro ρ' H' v s o' r'
                obtain ⟨t, rfl⟩ := s.pre
                simp only [List.nodup_cons, List.mem_cons, not_or] at nd
                have lw : wi < l.length := (List.getElem?_eq_some_iff.mp gw).1
                have lq : qi < l.length := (List.getElem?_eq_some_iff.mp gq).1
                have fr := frame (l2 := putJ l wi qi J') o hball s (by simp [putJ]) (fun n hn => by
                  simp only [List.mem_cons, not_or] at hn
                  simp only [putJ]
                  rw [List.getElem?_set_ne (fun z => hn.2.1 z.symm), List.getElem?_set_ne (fun z => hn.1 z.symm)]) fun j n ob a h1 h2 h3 m => by
                  match j, h1 with
                  | 0, h1 =>
                    simp at h1; subst h1
                    have h2' : putJ l wi qi J' = (l.set qi J'.gob).set wi (J'.ob qi) := by simp only [putJ]; rw [List.set_comm]; exact nd.1.1
                    rw [h2', List.getElem?_set_self (by simpa using lw)] at h2
                    cases h2
                    rw [ew] at h3; cases h3
                    obtain ⟨vs, u1, u2⟩ := o'.at_ 0 (J'.ob 1) ρ[wi] rfl (by rw [ea]; rfl)
                    obtain ⟨v1, v2, rfl, w1, w2⟩ := u2.two_
                    refine ⟨_, u1, Rws.cons (by simpa [Rw] using w1) (Rws.one ?_)⟩
                    simp only [Rw] at w2
                    obtain ⟨b, hb1, rfl⟩ := w2
                    rw [ea] at hb1
                    simp at hb1; subst hb1
                    exact rw_adr eq
                  | 1, h1 =>
                    simp at h1; subst h1
                    simp only [putJ] at h2
                    rw [List.getElem?_set_self (by simpa using lq)] at h2
                    cases h2
                    rw [eq] at h3; cases h3
                    obtain ⟨vs, u1, u2⟩ := o'.at_ 1 J'.gob ρ[qi] rfl (by rw [ea]; rfl)
                    exact ⟨_, u1, Rws.pure_ Tk.refl _ _ (pus_int _) u2⟩
                  | j + 2, h1 =>
                    have h1' : (idx ks ds)[j]? = some n := by simpa using h1
                    have hmem := List.mem_of_getElem? h1'
                    obtain ⟨xs, g1, g2, g3⟩ := smL_get he j n h1'
                    simp only [putJ] at h2
                    rw [List.getElem?_set_ne (fun z : qi = n => nd.2.1 (z ▸ hmem)), List.getElem?_set_ne (fun z : wi = n => nd.1.2 (z ▸ hmem)), g1] at h2
                    cases h2
                    have hj : j < (smL ks es).length := (List.getElem?_eq_some_iff.mp g2).1
                    obtain ⟨a', h4, h5⟩ := adrs_get (ρ := ρ) h1' (hb n hmem)
                    rw [h3] at h4; cases h4
                    have hj2 : j < (adrs ρ (idx ks ds)).length := (List.getElem?_eq_some_iff.mp h5).1
                    obtain ⟨us, u1, u2⟩ := o'.at_ (j + 2) _ a (by simp only [List.getElem?_cons_succ]; rw [List.getElem?_append_left hj]; exact g2) (by
                      rw [ea]
                      show ((ρ[qi] :: (adrs ρ (idx ks ds))) ++ t)[j + 1]? = some a
                      show ((adrs ρ (idx ks ds)) ++ t)[j]? = some a
                      rw [List.getElem?_append_left hj2]; exact h5)
                    exact ⟨us, u1, Rws.pure_ Tk.refl xs us g3 u2⟩
                exact finish o fr.1 fr.2 o' s e2 (by rw [ea]; simp [sl, adrs]; omega) r' p
            · exact p.elim
          · exact p.elim
        · exact p.elim
      · exact p.elim
    · exact p.elim
variable {x : Str}
theorem Has.toF {CX : CXT} {m : List D → Sto → Res D} {ks : List Kd} {rl : Bool} {pf : List D → Option D} (h : Has CX P w K mg base x k ps (spD K ks.length m))
    (q : ∀ es d, es.length = ks.length → pf es = some d → ∃ d' junk, m (smA ks 0 es) (smL ks es) = .ok d' (smL ks es ++ junk) ∧ outK rl (smL ks es).length d d' (smL ks es ++ junk)) : Has CX P w K mg base x k ps (spD K ks.length (callF ks rl pf)) :=
  let ⟨f, fd, a, b, c, d⟩ := h.ex; ⟨f, fd, a, b, c, imp_F d q⟩
theorem Has.toJ {CX : CXT} {m : List D → Sto → Res D} {ks : List Kd} {rl : Bool} {pj : Jug → List D → Option (D × Jug)} (h : Has CX P w K mg base x k ps (spD K (ks.length + 1) m))
    (q : ∀ J es d J', es.length = ks.length → pj J es = some (d, J') → ∃ d' junk, m (.adr 0 :: smA ks 2 es) (J.ob 1 :: J.gob :: smL ks es) = .ok d' (J'.ob 1 :: J'.gob :: (smL ks es ++ junk)) ∧ outK rl (2 + (smL ks es).length) d d' (J'.ob 1 :: J'.gob :: (smL ks es ++ junk))) : Has CX P w K mg base x k ps (spD K (ks.length + 1) (callJ ks rl pj)) :=
  let ⟨f, fd, a, b, c, d⟩ := h.ex; ⟨f, fd, a, b, c, imp_J d q⟩
end
end Zb

set_option Elab.async false
set_option linter.all false
set_option maxRecDepth 100000
set_option maxHeartbeats 4000000
namespace Zb
open PySem L2 PySem.Spec PyProof.Rows
/-! ### a tuple times any int -/
theorem tuple_mul1 (l : Addr) (items : Array Value) (n : Nat) (dd : Option Addr) (sl : Array (Option Value)) (x : Int) (u : Tok) (c0 : (decide (x < -(2 ^ 63)) || decide (x ≥ 2 ^ 63)) = false) (c1 : (items.isEmpty || x == 1) = true) :
    Meets (Builtin.«tuple.__mul__» ⟨[.ref l, .int x u], []⟩) (fun _ R s => s.heap.get? l = some { cls := .type "tuple", dict := dd, data := .seq items n, slots := sl } ∧ R (.ok (.ret (Value.ref l))) s) :=
  .of_wp fun prog w A R s h => by
    obtain ⟨hp, g, d, tk, os⟩ := s
    obtain ⟨hl, h⟩ := h
    have f1 := AutoSeq1.idx_int
    wp_walk using wpAny_loadPart' hl
    repeat (first
      | (refine wpAny_ite_false (decide_eq_false (by rw [c0]; exact Bool.false_ne_true)) ?_; wp_walk using wpAny_loadPart' hl)
      | (refine wpAny_ite_true (decide_eq_true (by rw [c1])) ?_; wp_walk using wpAny_loadPart' hl))
    exact ⟨_, rfl, h⟩
theorem tuple_mul0 (l : Addr) (items : Array Value) (n : Nat) (dd : Option Addr) (sl : Array (Option Value)) (x : Int) (u : Tok) (c0 : (decide (x < -(2 ^ 63)) || decide (x ≥ 2 ^ 63)) = false) (c1 : (items.isEmpty || x == 1) = false) (c2 : (decide (x ≤ 0) || items.isEmpty) = true) :
    Meets (Builtin.«tuple.__mul__» ⟨[.ref l, .int x u], []⟩) (fun _ R s => s.heap.get? l = some { cls := .type "tuple", dict := dd, data := .seq items n, slots := sl } ∧
      R (.ok (.ret (Value.ref s.heap.objs.size))) { s with heap := s.heap.push { cls := Value.type "tuple", data := Data.seq #[] }, toks := s.toks }) :=
  .of_wp fun prog w A R s h => by
    obtain ⟨hp, g, d, tk, os⟩ := s
    obtain ⟨hl, h⟩ := h
    have f1 := AutoSeq1.idx_int
    wp_walk using wpAny_loadPart' hl
    repeat (first
      | (refine wpAny_ite_false (decide_eq_false (by rw [c0]; exact Bool.false_ne_true)) ?_; wp_walk using wpAny_loadPart' hl)
      | (refine wpAny_ite_false (decide_eq_false (by rw [c1]; exact Bool.false_ne_true)) ?_; wp_walk using wpAny_loadPart' hl)
      | (refine wpAny_ite_true (decide_eq_true (by rw [c2])) ?_; wp_walk using wpAny_loadPart' hl))
    exact ⟨_, rfl, h⟩
def rRepA (K : PySem.W.Frag) : R2 := fun x y H Q => ∃ l k xs, x = .ref l ∧ y = .int k ∧ SqT K H l xs ∧ -(2 ^ 62) < k ∧ k < 2 ^ 62 ∧ xs.length * k.toNat ≤ sizeLine ∧ ((xs.isEmpty || k == 1) = true → Q (.ref l) H) ∧
  ((xs.isEmpty || k == 1) = false → ∀ p, H p = none → Q (.ref p) (upd H p (.tup (List.replicate k.toNat xs).flatten)))
section
variable {X : Cx}
theorem op_repA : OpR X (binaryOp .Mult) (rRepA X.K) := by
  intro pins s σ H x y v u Q I rx ry h
  obtain ⟨l, k, xs, rfl, rfl, hT, h1, h2, hz, q1, q2⟩ := h
  cases rx
  obtain ⟨t, rfl⟩ := ry
  obtain ⟨its, r, ⟨⟨cls, dd, data, sl⟩, ho, hc, n, hd⟩, hs⟩ := I.tuple hT
  simp only at hc hd
  subst hc hd
  have hle : its.length = xs.length := r.length.symm
  have hi : its.toArray.isEmpty = xs.isEmpty := by
    cases its with
    | nil => cases xs with
      | nil => rfl
      | cons a b => cases hle
    | cons a b => cases xs with
      | nil => cases hle
      | cons a b => rfl
  have hsz0 : its.toArray.size = xs.length := by rw [List.size_toArray, hle]
  have c0 : (decide (k < -(2 ^ 63)) || decide (k ≥ 2 ^ 63)) = false := by
    rw [decide_eq_false (by omega), decide_eq_false (by omega)] <;> rfl
  cases c : (xs.isEmpty || k == 1) with
  | true =>
    have c1 : (its.toArray.isEmpty || k == 1) = true := by rw [hi]; exact c
    refine wpAny_binaryOp_repeat_ref (T := "tuple") (U := "int") (by decide) ⟨_, ho, rfl⟩ (fun s' => typeIs_int s' k t) noFill_tuple_mul F.fills_int_mul F.slot_int_rmul repeat_tuple F.slot_int_index.lookup
      (call_meets F.slot_int_rmul (typeIs_int s k t) F.entry_int_rmul (F.args_int_rmul_2 _ _) (int_rmul_tuple k t l its.toArray n dd sl)
        ⟨ho, rfl, ⟨_, ho, rfl⟩, call_meets F.slot_tuple_mul ⟨_, ho, rfl⟩ F.entry_tuple_mul (F.args_tuple_mul_2 _ _) (tuple_mul1 l its.toArray n dd sl k t c0 c1) ⟨ho, ?_⟩⟩)
    exact ⟨.ref l, _, I, rfl, q1 c⟩
  | false =>
    have c1 : (its.toArray.isEmpty || k == 1) = false := by rw [hi]; exact c
    have hx : xs.isEmpty = false := by
      cases e : xs.isEmpty with
      | true => rw [e] at c; cases c
      | false => rfl
    have hk1 : k ≠ 1 := fun e => by rw [e, hx] at c; cases c
    by_cases hk : k ≤ 0
    · have c2 : (decide (k ≤ 0) || its.toArray.isEmpty) = true := by rw [decide_eq_true hk]; rfl
      refine wpAny_binaryOp_repeat_ref (T := "tuple") (U := "int") (by decide) ⟨_, ho, rfl⟩ (fun s' => typeIs_int s' k t) noFill_tuple_mul F.fills_int_mul F.slot_int_rmul repeat_tuple F.slot_int_index.lookup
        (call_meets F.slot_int_rmul (typeIs_int s k t) F.entry_int_rmul (F.args_int_rmul_2 _ _) (int_rmul_tuple k t l its.toArray n dd sl)
          ⟨ho, rfl, ⟨_, ho, rfl⟩, call_meets F.slot_tuple_mul ⟨_, ho, rfl⟩ F.entry_tuple_mul (F.args_tuple_mul_2 _ _) (tuple_mul0 l its.toArray n dd sl k t c0 c1 c2) ⟨ho, ?_⟩⟩)
      have e0 : (List.replicate k.toNat xs).flatten = [] := by
        have : k.toNat = 0 := by omega
        rw [this]; rfl
      have q := q2 c
      rw [e0] at q
      refine ⟨.ref s.heap.objs.size, _, I.laid (t' := s.toks) (o := .tup []) (fun b ob q => Heap.get?_push_of_some _ q) (Nat.le_refl _) ?_, rfl, q _ (I.hok.fresh (Nat.le_refl _))⟩
      exact ⟨by rw [sizeLine_eq]; exact Nat.zero_le _, [], .nil, IsTup.new _ _⟩
    · have hm : ((its.toArray.size : Nat) : Int) * k ≤ 16777216 := by
        rw [hsz0]
        have : ((xs.length : Nat) : Int) * k = ((xs.length * k.toNat : Nat) : Int) := by
          rw [Int.natCast_mul, Int.toNat_of_nonneg (by omega)]
        rw [this]
        rw [sizeLine_eq] at hz
        omega
      have flen : (List.replicate k.toNat its).flatten.length ≤ sizeLine := by
        rw [PyProof.Rows.lm_len_rep_flat, hle, Nat.mul_comm]
        exact hz
      have c2 : (decide (k ≤ 0) || its.toArray.isEmpty) = false := by
        rw [hi, hx, Bool.or_false]
        exact decide_eq_false (by omega)
      have c4 : Builtin.Tuple.tupleTooMany (((its.toArray.size : Nat) : Int) * k) = false := by
        unfold Builtin.Tuple.tupleTooMany
        rw [sizeLine_eq]
        exact decide_eq_false (by omega)
      refine wpAny_binaryOp_repeat_ref (T := "tuple") (U := "int") (by decide) ⟨_, ho, rfl⟩ (fun s' => typeIs_int s' k t) noFill_tuple_mul F.fills_int_mul F.slot_int_rmul repeat_tuple F.slot_int_index.lookup
        (call_meets F.slot_int_rmul (typeIs_int s k t) F.entry_int_rmul (F.args_int_rmul_2 _ _) (int_rmul_tuple k t l its.toArray n dd sl)
          ⟨ho, rfl, ⟨_, ho, rfl⟩, call_meets F.slot_tuple_mul ⟨_, ho, rfl⟩ F.entry_tuple_mul (F.args_tuple_mul_2 _ _) (tuple_mulW l its.toArray n dd sl k t c0 c1 c2 (by omega) c4 (by rw [size_rep, List.size_toArray]; exact flen)) ⟨ho, ?_⟩⟩)
      rw [size_rep]
      refine ⟨.ref s.heap.objs.size, _, I.laid (t' := s.toks) (o := .tup (List.replicate k.toNat xs).flatten) (fun b ob q => Heap.get?_push_of_some _ q) (Nat.le_refl _) ?_, rfl, q2 c _ (I.hok.fresh (Nat.le_refl _))⟩
      exact ⟨by rw [PyProof.Rows.lm_len_rep_flat, Nat.mul_comm]; exact hz, _, r.rep k.toNat, IsTup.new _ _⟩
end
/-- a * b: ints, a list or a tuple times an int -/
def hMulT : D → D → Sto → Res D
  | .tup xs, .int k, l => if small (xs.length * k.toNat) && mid k then .ok (.tup (List.replicate k.toNat xs).flatten) l else .bad
  | x, y, l => hMul x y l
section
variable {X : Cx} {E : XK} {a b e : Expr} {fa fb : DE} {pos : Pos}
def rMulT (K : PySem.W.Frag) : R2 := fun x y H Q => rMulA x y H Q ∨ rRepA K x y H Q
theorem flat_nil {α : Type} : ∀ k : Nat, (List.replicate k ([] : List α)).flatten = []
  | 0 => rfl
  | k + 1 => by rw [List.replicate_succ, List.flatten_cons, flat_nil k]; rfl
theorem hs_mulT : OpS X.K E (rMulT X.K) hMulT := fun ρ l H dx dy x y Q o rx ry p => by
  unfold hMulT at p
  split at p
  · rename_i xs k
    obtain ⟨hc, p⟩ := Post.ite p
    rw [Bool.and_eq_true] at hc
    obtain ⟨a, vs, rfl, tH, r⟩ := rx.tupH
    have t : SqT X.K H a vs := .inl (.inl tH)
    have b1 := (mid_ hc.2).2
    have b2 := (mid_ hc.2).1
    rw [ry.int_]
    refine .inr ⟨a, k, vs, rfl, rfl, t, b2, b1, by rw [r.length]; exact small_le hc.1, fun c => ?_, fun c q hq => ?_⟩
    · refine Post.here p o (rw_tup tH ?_)
      rw [Bool.or_eq_true] at c
      rcases c with c | c
      · have e1 : vs = [] := by simpa using c
        have e2 := r.nil_iff.mp e1
        subst e1; subst e2
        rw [flat_nil]; exact Rws.nil
      · have e1 : k = 1 := by simpa using c
        subst e1
        have : (List.replicate (1 : Int).toNat xs).flatten = xs := by
          show (List.replicate 1 xs).flatten = xs
          simp
        rw [this]; exact r
    · exact Post.mkT o (r.rep _) p hq
  · exact .inl (hs_mul ρ l H dx dy x y Q o rx ry p)
theorem ae_mulT (ha : AE X E a fa) (hb : AE X E b fb) : AE X E (.BinOp a .Mult b pos) (dOp hMulT fa fb) := ae_op2 (pe_op (OpR.or op_mulA op_repA) ha.pe hb.pe) hs_mulT
end
end Zb

set_option Elab.async false
set_option linter.all false
set_option maxRecDepth 100000
namespace Zb
open PySem L2 PySem.Spec PyProof.Rows
theorem ae_gl {X : Cx} {E : XK} {d : D} {v : V} {x : Str} {pos : Pos} (hd : isC d v) (hg : Gl X x) (h : ∃ u, X.mg x = some u ∧ RelV v u) (hn : (x == ("__debug__" : Str)) = false := by decide) : AE X E (.Name x pos) (dC d) := by
  obtain ⟨u, hm, r⟩ := h
  exact ae_c hd (pe_glob hg hm r hn)
theorem _root_.L2.Room.units1 {k : Nat} {A : Around} (r : Room k A) : A.units + 1 < cLine := by have := r.un; omega
/-! ### comparisons as tests -/
def dBl (f : DE) : DB := fun g l => (f g l).bind fun d l1 => match d with
  | .bl k => .ok k l1
  | _ => .bad
section
variable {X : Cx} {E : XK} {a b c e : Expr} {fa fb fc f : DE} {pos : Pos}
theorem bl_of {K : PySem.W.Frag} {σ H Q} (h : ttOf K E (dBl f) σ H Q) : teOf K E f σ H (fun x H' => ∃ k, x = .bl k ∧ Q k H') := by
  obtain ⟨ρ, l, g, o, s, p⟩ := h
  refine ⟨ρ, l, g, o, s, Post.bind p fun d l1 ρ1 H1 v e1 s1 o1 r1 p1 => ?_⟩
  cases d with
  | bl k => rw [r1.bl_]; exact ⟨k, rfl, p1.here o1 rfl⟩
  | _ => exact p1.elim
theorem op2_of {K : PySem.W.Frag} {r : R2} {h : D → D → Sto → Res D} (hs : OpS K E r h) {σ H Q} (w : teOf K E (dOp h fa fb) σ H Q) : tOp r (teOf K E fa) (teOf K E fb) σ H Q := by
  obtain ⟨ρ, l, g, o, s, p⟩ := w
  refine ⟨ρ, l, g, o, s, Post.bind p fun x l1 ρ1 H1 v e1 s1 o1 r1 p1 => ?_⟩
  refine ⟨ρ1, l1, g, o1, s.step s1 o, Post.bind p1 fun y l2 ρ2 H2 u e2 s2 o2 r2 p2 => ?_⟩
  exact hs ρ2 l2 H2 x y v u Q o2 (s2.rw o1 r1) r2 p2
theorem at_cmp {op : CmpOp} {r : R2} {h : D → D → Sto → Res D} (ho : OpR X (compareOp op) r) (hs : OpS X.K E r h) (ha : AE X E a fa) (hb : AE X E b fb) (hm : behindInMarks op b = false) : AT X E (.Compare a [op] [b] pos) (dBl (dOp h fa fb)) :=
  ⟨PT.imp (pt_cmpR ho ha.pe hb.pe hm) fun σ H Q w => op2_of hs (bl_of w)⟩
theorem at_eq (hu : X.A.units + 64 < cLine) (ha : AE X E a fa) (hb : AE X E b fb) : AT X E (.Compare a [.Eq] [b] pos) (dBl (dOp hEq fa fb)) := at_cmp (OpR.or op_eq (op_eqD hu)) hs_eq ha hb (nomark _)
theorem at_ne (hu : X.A.units + 64 < cLine) (ha : AE X E a fa) (hb : AE X E b fb) : AT X E (.Compare a [.NotEq] [b] pos) (dBl (dOp hNe fa fb)) := at_cmp (OpR.or op_ne (op_neD hu)) hs_ne ha hb (nomark _)
theorem at_lt (ha : AE X E a fa) (hb : AE X E b fb) : AT X E (.Compare a [.Lt] [b] pos) (dBl (dOp (hCmp fun i j => decide (i < j)) fa fb)) := at_cmp op_lt hs_cmp ha hb (nomark _)
theorem at_le (ha : AE X E a fa) (hb : AE X E b fb) : AT X E (.Compare a [.LtE] [b] pos) (dBl (dOp (hCmp fun i j => decide (i ≤ j)) fa fb)) := at_cmp op_le hs_cmp ha hb (nomark _)
theorem at_gt (ha : AE X E a fa) (hb : AE X E b fb) : AT X E (.Compare a [.Gt] [b] pos) (dBl (dOp (hCmp fun i j => decide (j < i)) fa fb)) := at_cmp op_gt hs_cmp ha hb (nomark _)
theorem at_ge (ha : AE X E a fa) (hb : AE X E b fb) : AT X E (.Compare a [.GtE] [b] pos) (dBl (dOp (hCmp fun i j => decide (j ≤ i)) fa fb)) := at_cmp op_ge hs_cmp ha hb (nomark _)
theorem at_in (ha : AE X E a fa) (hb : AE X E b fb) (hm : behindInMarks .In b = false := by rfl) : AT X E (.Compare a [.In] [b] pos) (dBl (dOp (hIn false) fa fb)) := at_cmp op_in_seq hs_in ha hb hm
theorem at_notIn (ha : AE X E a fa) (hb : AE X E b fb) (hm : behindInMarks .NotIn b = false := by rfl) : AT X E (.Compare a [.NotIn] [b] pos) (dBl (dOp (hIn true) fa fb)) := at_cmp op_notIn_seq hs_in ha hb hm
theorem hs_isN : OpS X.K E (fun x y H Q => y = .non ∧ Q (.bl (decide (x = .non))) H) hIsN := fun ρ l H dx dy x y Q o rx ry p => by
  unfold hIsN at p
  split at p
  · exact ⟨ry.non_, by rw [isN_of rx]; exact p.here o rw_bl⟩
  · exact p.elim
theorem hs_notN : OpS X.K E (fun x y H Q => y = .non ∧ Q (.bl (!decide (x = .non))) H) hNotN := fun ρ l H dx dy x y Q o rx ry p => by
  unfold hNotN at p
  split at p
  · exact ⟨ry.non_, by rw [isN_of rx]; exact p.here o rw_bl⟩
  · exact p.elim
theorem at_isN (ha : AE X E a fa) (hb : AE X E b fb) : AT X E (.Compare a [.Is] [b] pos) (dBl (dOp hIsN fa fb)) := at_cmp op_isN hs_isN ha hb (nomark _)
theorem at_notN (ha : AE X E a fa) (hb : AE X E b fb) : AT X E (.Compare a [.IsNot] [b] pos) (dBl (dOp hNotN fa fb)) := at_cmp op_notN hs_notN ha hb (nomark _)
theorem din_of {K : PySem.W.Frag} {σ H Q} (w : teOf K E (dOp (hDIn false) fa fb) σ H Q) : tDIn (teOf K E fa) (teOf K E fb) σ H Q := by
  obtain ⟨ρ, l, g, o, s, p⟩ := w
  refine ⟨ρ, l, g, o, s, Post.bind p fun y l1 ρ1 H1 v e1 s1 o1 r1 p1 => ?_⟩
  refine ⟨ρ1, l1, g, o1, s.step s1 o, Post.bind p1 fun x l2 ρ2 H2 u e2 s2 o2 r2 p2 => ?_⟩
  unfold hDIn at p2
  split at p2
  · rename_i n k hk
    split at p2
    · rename_i kvs e3
      obtain ⟨q, kv, rfl, _, h1, h2, h3⟩ := o2.dct r2 e3
      refine ⟨q, valV kv k, rfl, ?_, ?_⟩
      · rw [key_rel hk (s2.rw o1 r1)]; exact DGet.k h1
      · rw [some_rel h2 h3]; exact p2.here o2 rw_bl
    · exact p2.elim
  · exact p2.elim
theorem dnotin_of {K : PySem.W.Frag} {σ H Q} (w : teOf K E (dOp (hDIn true) fa fb) σ H Q) : tDNotIn (teOf K E fa) (teOf K E fb) σ H Q := by
  obtain ⟨ρ, l, g, o, s, p⟩ := w
  refine ⟨ρ, l, g, o, s, Post.bind p fun y l1 ρ1 H1 v e1 s1 o1 r1 p1 => ?_⟩
  refine ⟨ρ1, l1, g, o1, s.step s1 o, Post.bind p1 fun x l2 ρ2 H2 u e2 s2 o2 r2 p2 => ?_⟩
  unfold hDIn at p2
  split at p2
  · rename_i n k hk
    split at p2
    · rename_i kvs e3
      obtain ⟨q, kv, rfl, _, h1, h2, h3⟩ := o2.dct r2 e3
      refine ⟨q, valV kv k, rfl, ?_, ?_⟩
      · rw [key_rel hk (s2.rw o1 r1)]; exact DGet.k h1
      · rw [some_rel h2 h3]; exact p2.here o2 rw_bl
    · exact p2.elim
  · exact p2.elim
theorem at_din (hu : X.A.units + 1 < cLine) (ha : AE X E a fa) (hb : AE X E b fb) (hm : behindInMarks .In b = false := by rfl) : AT X E (.Compare a [.In] [b] pos) (dBl (dOp (hDIn false) fa fb)) :=
  ⟨PT.imp (pt_cmp (pc_din hu ha.pe hb.pe) hm) fun σ H Q w => din_of (bl_of w)⟩
theorem at_dnotin (hu : X.A.units + 1 < cLine) (ha : AE X E a fa) (hb : AE X E b fb) (hm : behindInMarks .NotIn b = false := by rfl) : AT X E (.Compare a [.NotIn] [b] pos) (dBl (dOp (hDIn true) fa fb)) :=
  ⟨PT.imp (pt_cmp (pc_dnotin hu ha.pe hb.pe) hm) fun σ H Q w => dnotin_of (bl_of w)⟩
theorem pe_at {e : Expr} {t : TE} (h : PT X e (tTest t)) {h2 : teOf X.K E f = t} : AT X E e (dBl f) := ⟨PT.imp h fun σ H Q w => by rw [← h2]; exact bl_of w⟩
theorem at_chain {op op' : CmpOp} {r r' : R2} {h1 h2 : D → D → Sto → Res D} (ho : OpR X (compareOp op) r) (ho' : OpR X (compareOp op') r') (s1 : OpS X.K E r h1) (s2 : OpS X.K E r' h2) (ha : AE X E a fa) (hb : AE X E b fb) (hc : AE X E c fc) (hm : lastMarks [op, op'] [b, c] = false := by rfl) :
    AT X E (.Compare a [op, op'] [b, c] pos) (dBl (dChain h1 h2 fa fb fc)) := ⟨PT.imp (pt_chain ho ho' ha.pe hb.pe hc.pe hm) fun σ H Q h => chain_of s1 s2 (bl_of h)⟩
/-! ### comprehensions, the slots told ahead -/
variable {i : Nat} {y : Str} {py : Pos} {elt tg' iter : Expr} {ifs : List Expr} {scope : Scope} {own : List (Str × Nat)} {vs : List Nat} {spos : Pos} {fi : DI} {gt : D → Sto → Sl → Option Sl} {ct : DB} {fe : DE} {tg : TG}
theorem ae_lcv (own : List (Str × Nat)) (hv : own.map (·.2) = vs) (hc : X.calm = true) (hN : X.N.Nodup) (hi : AI X E tg' iter fi) (ok : BlkOk X.N X.env.scope scope own)
    (hg : ∀ (s : Shared) (H : Hp) (C : Addr) (cl : List (Str × Addr)) (fp : List Addr), PG (X.blk s H scope (compEnvC scope cl C X.env) fp) tg' tg)
    (ht : ∀ (s : Shared) (H : Hp) (C : Addr) (cl : List (Str × Addr)) (fp : List Addr), PTs (X.blk s H scope (compEnvC scope cl C X.env) fp) ifs (ttOf X.K E0 ct))
    (he : ∀ (s : Shared) (H : Hp) (C : Addr) (cl : List (Str × Addr)) (fp : List Addr), AE (X.blk s H scope (compEnvC scope cl C X.env) fp) E0 elt fe)
    (ag : AGw tg X.K vs gt) (hs : ∀ x, foldedSetIterable iter X.env x = pure x := by intro _; rfl) :
    AE X E (.ListComp elt [⟨tg', iter, ifs, 0⟩] scope pos) (dLc fi gt ct fe vs) := by
  subst hv
  exact ae_lc hc hN hi ok hg ht he ag hs
theorem as_setLcv (own : List (Str × Nat)) (hv : own.map (·.2) = vs) (hc : X.calm = true) (hN : X.N.Nodup) (hy : X.N[i]? = some y) (hyl : X.env.scope.names.lookup y = some .local)
    (hsw : swapsWith (.ListComp elt [⟨tg', iter, ifs, 0⟩] scope pos) (some (.Name y py)) spos.line X.env = pure true) (hi : AI X E tg' iter fi) (ok : BlkOk X.N X.env.scope scope own)
    (hg : ∀ (s : Shared) (H : Hp) (C : Addr) (cl : List (Str × Addr)) (fp : List Addr), PG (X.blk s H scope (compEnvC scope cl C X.env) fp) tg' tg)
    (ht : ∀ (s : Shared) (H : Hp) (C : Addr) (cl : List (Str × Addr)) (fp : List Addr), PTs (X.blk s H scope (compEnvC scope cl C X.env) fp) ifs (ttOf X.K E0 ct))
    (he : ∀ (s : Shared) (H : Hp) (C : Addr) (cl : List (Str × Addr)) (fp : List Addr), AE (X.blk s H scope (compEnvC scope cl C X.env) fp) E0 elt fe)
    (ag : AGw tg X.K vs gt) (hs : ∀ x, foldedSetIterable iter X.env x = pure x := by intro _; rfl) :
    AS X E (.Assign [.Name y py] (.ListComp elt [⟨tg', iter, ifs, 0⟩] scope pos) spos) (sSet i (dLc fi gt ct fe vs)) := by
  subst hv
  exact as_setLc hc hN hy hyl hsw hi ok hg ht he ag hs
/-! ### methods of lists -/
variable {es : List Expr} {o : Expr} {fo : DE} {fs : DEs} {apos cpos : Pos}
theorem ae_append (ho : AE X E o fo) (ha : AA X E (e :: es) fs) (hbase : attributeBase o "append" X.env (eval o X.env) = eval o X.env := by rfl)
    (hfew : ((backTo cpos (starEach (e :: es) X.env)).all (fun x => !x.1) && (backToKw cpos (keywordEach [] X.env)).all (fun x => x.1.isSome)
      && decide ((e :: es).length + ([] : List Keyword).length + (if ([] : List Keyword).isEmpty then 0 else 1) < 30)) = true := by rfl)
    (hline : (apos.endLine == cpos.line) = true := by rfl) (hs : starEach (e :: es) X.env = (false, eval e X.env) :: starEach es X.env := by rfl) (hplain : (backTo cpos (starEach es X.env)).any (·.1) = false := by rfl) :
    AE X E (.Call (.Attribute o "append" apos) (e :: es) [] cpos) (dMe hApp fo fs) := ae_me (pe_bm PySem.F.plainAttrs_list PySem.F.slot_list_append PySem.F.type_list_append mt_append ho.pe ha.pa hbase hfew hline hs hplain) ms_app
theorem ae_extend (ho : AE X E o fo) (ha : AA X E (e :: es) fs) (hbase : attributeBase o "extend" X.env (eval o X.env) = eval o X.env := by rfl)
    (hfew : ((backTo cpos (starEach (e :: es) X.env)).all (fun x => !x.1) && (backToKw cpos (keywordEach [] X.env)).all (fun x => x.1.isSome)
      && decide ((e :: es).length + ([] : List Keyword).length + (if ([] : List Keyword).isEmpty then 0 else 1) < 30)) = true := by rfl)
    (hline : (apos.endLine == cpos.line) = true := by rfl) (hs : starEach (e :: es) X.env = (false, eval e X.env) :: starEach es X.env := by rfl) (hplain : (backTo cpos (starEach es X.env)).any (·.1) = false := by rfl) :
    AE X E (.Call (.Attribute o "extend" apos) (e :: es) [] cpos) (dMe hExt fo fs) := ae_me (pe_bm PySem.F.plainAttrs_list PySem.F.slot_list_extend PySem.F.type_list_extend mt_extA ho.pe ha.pa hbase hfew hline hs hplain) ms_ext
theorem ae_pop (ho : AE X E o fo) (hbase : attributeBase o "pop" X.env (eval o X.env) = eval o X.env := by rfl) (hline : (apos.endLine == cpos.line) = true := by rfl) :
    AE X E (.Call (.Attribute o "pop" apos) [] [] cpos) (dMe0 hPop fo) := ae_me0 (pe_bm0 PySem.F.plainAttrs_list PySem.F.slot_list_pop PySem.F.type_list_pop mt_pop ho.pe hbase hline) ms_pop
end
end Zb

set_option Elab.async false
set_option linter.all false
set_option maxRecDepth 100000
namespace Zb
open PySem L2 PySem.Spec PyProof.Rows
/-! ### defs that raise -/
def runX (n : Nat) (den : DS) : List D → Sto → Res D := fun ds l => match den (startD n ds) l with
  | .rt d l' => .ok d l'
  | .nx _ l' => .ok .non l'
  | .ex C fs l' => .exc C fs l'
  | _ => .bad
section
variable {P : Program} {w : World} {K : PySem.W.Frag} {mg : Str → Option Value} {base : Heap} {k n : Nat} {f : Addr} {fd : FuncData} {ps N : List Str} {x qual : Str} {st : Stmt}
theorem ok_bodyX {den : DS} (F : Fun K x qual st f fd) (S : FnScope N ps (defScope st))
    (hb : ∀ (cdv : Value) (A : Around) (outer : List Env) (s : Shared) (H : Hp) (E : XK), Room k (A.deeper (envOfC qual (defScope st) s.heap.objs.size f cdv)) →
      ASs (cxOf (L2.CX P w) P w K mg base N qual (defScope st) f cdv A outer s H E) E (defBody st) den) : FnOk P w K mg base (L2.CX P w) (k + 1) f fd ps (spD K ps.length (runX N.length den)) := by
  refine F.okX S (fun vs H Q E h => ?_) (fun cdv A outer s H vs Q E hr h => ?_)
  · obtain ⟨ρ, l, ds, o, r, hl, _⟩ := h
    rw [r.length, hl]
  · obtain ⟨ρ, l, ds, o, r, hl, p⟩ := h
    refine ⟨_, (hb cdv A outer s H E hr).pss, ρ, l, startD N.length ds, o, slt_start r, ?_⟩
    unfold runX at p
    cases q : den (startD N.length ds) l with
    | bad => rw [q] at p; exact p
    | nx g l' => rw [q] at p; exact fun ρ' H' σ' s' o' _ => p ρ' H' .non s' o' rw_non
    | rt d l' => rw [q] at p; exact fun ρ' H' v s' o' r' => p ρ' H' v s' o' r'
    | bk g l' => rw [q] at p; exact p.elim
    | ct g l' => rw [q] at p; exact p.elim
    | ex C gs l' => rw [q] at p; exact p
end
section
variable {X : Cx} {E : XK} {e : Expr} {es : List Expr} {fs : DEs} {pos p : Pos} {x : Str} {k n : Nat} {ps : List Str}
/-! ### calls that may raise -/
def dCallX (n : Nat) (m : List D → Sto → Res D) (fs : DEs) : DE := fun g l => (fs g l).bind fun ds l1 => if ds.length == n then m ds l1 else .bad
theorem callX_of {m : List D → Sto → Res D} {σ H Q} (h : teOf X.K E (dCallX n m fs) σ H Q) : tCall (spD X.K n m) [] E (taOf X.K E fs) σ H Q := by
  obtain ⟨ρ, l, g, o, s, q⟩ := h
  refine ⟨ρ, l, g, o, s, Post.bind q fun ds l1 ρ1 H1 vs e1 s1 o1 r1 q1 => ?_⟩
  obtain ⟨hc, q1⟩ := Post.ite q1
  rw [List.append_nil]
  exact ⟨ρ1, l1, ds, o1, r1, by simpa using hc, q1⟩
theorem passX (tk : Takes X (fun c d _ H => E c d H)) : Passes (L2.CX X.prog X.w) X E := passes_call tk fun _ _ _ _ h => h
theorem ae_callX {CX : CXT} {m : List D → Sto → Res D} (h : Has CX X.prog X.w X.K X.mg X.base x k ps (spD X.K n m)) (hx : Passes CX X E) (hr : Room k X.A) (hg : Gl X x) (ha : AA X E (e :: es) fs) (hdb : (x == ("__debug__" : Str)) = false := by decide)
    (he : starEach (e :: es) X.env = (false, eval e X.env) :: starEach es X.env := by rfl) (hpl : (backTo pos (starEach es X.env)).any (·.1) = false := by rfl) : AE X E (.Call (.Name x p) (e :: es) [] pos) (dCallX n m fs) := by
  obtain ⟨f, fd, a, b, c, d⟩ := h.ex
  exact ⟨PE.imp (pe_call d hr hg a b c .nil hx ha.pa (hdb := hdb) (he := he) (hpl := hpl)) fun σ H Q h => callX_of h⟩
/-! ### calls by keywords alone -/
/-- the def binds its keywords ks so: g, gD put them in the parameters' order -/
structure HasK (CX : CXT) (P : Program) (w : World) (K : PySem.W.Frag) (mg : Str → Option Value) (base : Heap) (x : Str) (k : Nat) (ps ks : List Str) (gD : List D → List D) (sp : Sp) : Prop where
  ex : ∃ (f : Addr) (fd : FuncData) (g : List Value → List Value → List Value) (gV : List V → List V → List V), mg x = some (.ref f) ∧ PySem.W.keepIn K (.ref f) = true ∧ KBinds K fd ps ks g gV ∧ (∀ ρ H ds vs, Rws K ρ H ds vs → Rws K ρ H (gD ds) (gV [] vs)) ∧ FnOk P w K mg base CX k f fd ps sp
structure AK (X : Cx) (E : XK) (kws : List Keyword) (fs : DEs) : Prop where
  pk : PK X kws (taOf X.K E fs)
theorem ak_nil : AK X E [] dNil := ⟨⟨fun pos pins s σ H Q I ⟨ρ, l, g, o, sl, p⟩ => pk_nil.run pos pins s σ H Q I (Post.here p o Rws.nil)⟩⟩
theorem ak_cons {nm : Option Str} {kpos : Pos} {kws : List Keyword} {f : DE} (ha : AE X E e f) (hr : AK X E kws fs) : AK X E (⟨nm, e, kpos⟩ :: kws) (dCons f fs) :=
  ⟨⟨fun pos pins s σ H Q I ⟨ρ, l, g, o, sl, p⟩ => (pk_cons ha.pe hr.pk).run pos pins s σ H Q I (by
    refine ⟨ρ, l, g, o, sl, Post.bind p fun x l1 ρ1 H1 v e1 s1 o1 r1 p1 => ?_⟩
    refine ⟨ρ1, l1, g, o1, sl.step s1 o, Post.bind p1 fun ds l2 ρ2 H2 vs e2 s2 o2 r2 p2 => ?_⟩
    exact Post.here p2 o2 (Rws.cons (s2.rw o1 r1) r2))⟩⟩
def dCallKX (n : Nat) (gD : List D → List D) (m : List D → Sto → Res D) (fs : DEs) : DE := fun g l => (fs g l).bind fun ds l1 => if (gD ds).length == n then m (gD ds) l1 else .bad
theorem pe_callK0 {CX : CXT} {f : Addr} {fd : FuncData} {sp : Sp} {ks : List Str} {g : List Value → List Value → List Value} {gV : List V → List V → List V} {kws : List Keyword} {tk : TA} (F : FnOk X.prog X.w X.K X.mg X.base CX k f fd ps sp) (hr : Room k X.A) (hg : Gl X x) (hm : X.mg x = some (.ref f)) (hk : PySem.W.keepIn X.K (.ref f) = true) (hb : KBinds X.K fd ps ks g gV) (hx : Passes CX X E)
    (hkw : PK X kws tk) (hall : (backToKw pos (keywordEach kws X.env)).all (·.1.isSome) = true := by rfl) (hks : (backToKw pos (keywordEach kws X.env)).filterMap (·.1) = ks := by rfl)
    (hdb : (x == ("__debug__" : Str)) = false := by decide)
    (hpl : ((backTo pos (starEach [] X.env)).any (·.1) || (backToKw pos (keywordEach kws X.env)).any (·.1.isNone)) = false := by rfl) :
    PE X (.Call (.Name x p) [] kws pos) (tCallK sp gV E tNil tk) := by
  refine ⟨fun pins s σ H Q I h => ?_⟩
  refine wpAny_Call_Name_kw (ld_glob I hg hm ?_ hdb)
  refine PySem.W.callWith_KW0 (h₀ := X.base) I.ok.mod.kin hk hall ?_ hpl
  refine thn (hkw.run pos pins s σ H _ I h) fun ws s2 ⟨zs, H2, I2, rz, q2⟩ => ⟨I2.kIn, ?_⟩
  rw [hks]
  exact run_fnk F hr hb hx I2 .nil rz q2
theorem ae_callKX {CX : CXT} {ks : List Str} {gD : List D → List D} {kws : List Keyword} {m : List D → Sto → Res D} (h : HasK CX X.prog X.w X.K X.mg X.base x k ps ks gD (spD X.K n m)) (hx : Passes CX X E) (hr : Room k X.A) (hg : Gl X x) (ha : AK X E kws fs)
    (hall : (backToKw pos (keywordEach kws X.env)).all (·.1.isSome) = true := by rfl) (hks : (backToKw pos (keywordEach kws X.env)).filterMap (·.1) = ks := by rfl)
    (hdb : (x == ("__debug__" : Str)) = false := by decide)
    (hpl : ((backTo pos (starEach [] X.env)).any (·.1) || (backToKw pos (keywordEach kws X.env)).any (·.1.isNone)) = false := by rfl) :
    AE X E (.Call (.Name x p) [] kws pos) (dCallKX n gD m fs) := by
  obtain ⟨f, fd, g, gV, a, b, c, d, F⟩ := h.ex
  refine ⟨PE.imp (pe_callK0 F hr hg a b c hx ha.pk hall hks hdb hpl) fun σ H Q h => ?_⟩
  obtain ⟨ρ, l, gg, o, s, q⟩ := h
  refine ⟨ρ, l, gg, o, s, Post.bind q fun ds l1 ρ1 H1 vs e1 s1 o1 r1 q1 => ?_⟩
  obtain ⟨hc, q1⟩ := Post.ite q1
  exact ⟨ρ1, l1, gD ds, o1, d _ _ _ _ r1, by simpa using hc, q1⟩
end
end Zb

set_option Elab.async false
set_option linter.all false
set_option maxRecDepth 100000
namespace Zb
open PySem L2 PySem.Spec PyProof.Rows
/-! ### what a def computes, read off its run in a small store -/
open Classical in
noncomputable def cutK (rl : Bool) (b : Nat) (d' : D) (L : Sto) : Option D := match rl, d' with
  | false, d' => some d'
  | true, .adr k => if b ≤ k then (match L[k]? with
    | some (.lst xs) => some (.tup xs)
    | _ => none) else none
  | _, _ => none
open Classical in
noncomputable def pfOf (run : List D → Sto → Res D) (ks : List Kd) (rl : Bool) : List D → Option D := fun es => match run (smA ks 0 es) (smL ks es) with
  | .ok d' L => if L.take (smL ks es).length = smL ks es then cutK rl (smL ks es).length d' L else none
  | _ => none
open Classical in
noncomputable def pjOf (run : List D → Sto → Res D) (ks : List Kd) (rl : Bool) : Jug → List D → Option (D × Jug) := fun J es => match run (.adr 0 :: smA ks 2 es) (J.ob 1 :: J.gob :: smL ks es) with
  | .ok d' L => if h : ∃ J' : Jug, L.take (2 + (smL ks es).length) = J'.ob 1 :: J'.gob :: smL ks es then (cutK rl (2 + (smL ks es).length) d' L).map fun d => (d, h.choose) else none
  | _ => none
theorem cutK_out {rl : Bool} {b : Nat} {d d' : D} {L : Sto} (h : cutK rl b d' L = some d) : outK rl b d d' L := by
  cases rl with
  | false => simp only [cutK, Option.some.injEq] at h; exact h
  | true =>
    cases d' with
    | adr k =>
      simp only [cutK] at h
      split at h
      · split at h
        · rename_i hk _ xs e
          cases h
          exact ⟨xs, k, rfl, rfl, e, hk⟩
        · cases h
      · cases h
    | _ => simp [cutK] at h
theorem take_app {α : Type} {L t : List α} {n : Nat} (h : L.take n = t) : L = t ++ L.drop n := by rw [← h, List.take_append_drop]
section
variable {CX : CXT} {P : Program} {w : World} {K : PySem.W.Frag} {mg : Str → Option Value} {base : Heap} {x : Str} {k : Nat} {ps : List Str} {m : List D → Sto → Res D} {ks : List Kd} {rl : Bool}
theorem Has.toFo (h : Has CX P w K mg base x k ps (spD K ks.length m)) : Has CX P w K mg base x k ps (spD K ks.length (callF ks rl (pfOf m ks rl))) := h.toF fun es d _ e => by
  unfold pfOf at e
  split at e
  · rename_i d' L e1
    split at e
    · rename_i e2
      refine ⟨d', L.drop (smL ks es).length, ?_, ?_⟩
      · rw [e1, ← take_app e2]
      · rw [← take_app e2]; exact cutK_out e
    · cases e
  · cases e
theorem Has.toJo (h : Has CX P w K mg base x k ps (spD K (ks.length + 1) m)) : Has CX P w K mg base x k ps (spD K (ks.length + 1) (callJ ks rl (pjOf m ks rl))) := h.toJ fun J es d J' _ e => by
  unfold pjOf at e
  split at e
  · rename_i d' L e1
    split at e
    · rename_i e2
      cases q : cutK rl (2 + (smL ks es).length) d' L with
      | none => rw [q] at e; cases e
      | some d0 =>
        rw [q] at e
        cases e
        have e3 := e2.choose_spec
        have e4 := take_app e3
        refine ⟨d', L.drop (2 + (smL ks es).length), ?_, ?_⟩
        · rw [e1]
          exact congrArg (Res.ok d') (by simpa using e4)
        · have := cutK_out q
          rw [e4] at this
          simpa using this
    · cases e
  · cases e
end
theorem Jug.ob_inj {J J' : Jug} (h : J.ob 1 = J'.ob 1) (h2 : J.gob = J'.gob) : J = J' := by
  cases J with
  | mk f gs =>
    cases J' with
    | mk f' gs' =>
      simp only [Jug.ob, Jug.gob, OB.lst.injEq, List.cons.injEq, D.int.injEq, and_true] at h h2
      subst h
      have : gs = gs' := by
        have hi : Function.Injective D.int := fun a b e => by cases e; rfl
        exact List.map_inj_right (fun a b e => by cases e; rfl) |>.mp h2
      subst this; rfl
section
variable {run : List D → Sto → Res D} {ks : List Kd} {rl : Bool}
/-- a call, by the run in the small store -/
theorem callF_p {ds es : List D} {l junk : Sto} {d : D} (h1 : ins ks ds l = some es) (h2 : (idx ks ds).Nodup) (h3 : run (smA ks 0 es) (smL ks es) = .ok d (smL ks es ++ junk)) (h4 : pu d = true) :
    callF ks false (pfOf run ks false) ds l = .ok d l := by
  unfold callF pfOf
  rw [h1]
  simp [h2, h3, cutK, resK, h4]
theorem callF_l {ds es xs : List D} {l junk : Sto} {j : Nat} (h1 : ins ks ds l = some es) (h2 : (idx ks ds).Nodup) (h3 : run (smA ks 0 es) (smL ks es) = .ok (.adr j) (smL ks es ++ junk)) (hj : (smL ks es).length ≤ j) (h4 : (smL ks es ++ junk)[j]? = some (.lst xs)) (h5 : pus xs = true) :
    callF ks true (pfOf run ks true) ds l = .ok (.adr l.length) (l ++ [.lst xs]) := by
  unfold callF pfOf
  rw [h1]
  simp [h2, h3, cutK, resK, hj, h4, h5]
theorem callJ_p {w q : Nat} {ds es : List D} {l junk : Sto} {d : D} {J J' : Jug} (h0 : getJ l w = some (q, J)) (h1 : ins ks ds l = some es) (h2 : (w :: q :: idx ks ds).Nodup)
    (h3 : run (.adr 0 :: smA ks 2 es) (J.ob 1 :: J.gob :: smL ks es) = .ok d (J'.ob 1 :: J'.gob :: (smL ks es ++ junk))) (h4 : pu d = true) :
    callJ ks false (pjOf run ks false) (.adr w :: ds) l = .ok d (putJ l w q J') := by
  unfold callJ pjOf
  simp only [h0, h1, h3]
  have e : List.take (2 + (smL ks es).length) (J'.ob 1 :: J'.gob :: (smL ks es ++ junk)) = J'.ob 1 :: J'.gob :: smL ks es := by
    rw [Nat.add_comm 2, List.take_succ_cons, List.take_succ_cons, List.take_left']; rfl
  have hx : ∃ J'' : Jug, List.take (2 + (smL ks es).length) (J'.ob 1 :: J'.gob :: (smL ks es ++ junk)) = J''.ob 1 :: J''.gob :: smL ks es := ⟨J', e⟩
  have ej : hx.choose = J' := by
    have this := e.symm.trans hx.choose_spec
    simp only [List.cons.injEq, and_true] at this
    exact (Jug.ob_inj this.1 this.2).symm
  rw [if_pos h2, dif_pos hx]
  simp only [cutK, Option.map_some, ej, resK, h4, if_true]
theorem callJ_l {w q : Nat} {ds es xs : List D} {l junk : Sto} {j : Nat} {J J' : Jug} (h0 : getJ l w = some (q, J)) (h1 : ins ks ds l = some es) (h2 : (w :: q :: idx ks ds).Nodup)
    (h3 : run (.adr 0 :: smA ks 2 es) (J.ob 1 :: J.gob :: smL ks es) = .ok (.adr j) (J'.ob 1 :: J'.gob :: (smL ks es ++ junk))) (hj : 2 + (smL ks es).length ≤ j) (h4 : (J'.ob 1 :: J'.gob :: (smL ks es ++ junk))[j]? = some (.lst xs)) (h5 : pus xs = true) :
    callJ ks true (pjOf run ks true) (.adr w :: ds) l = .ok (.adr (putJ l w q J').length) (putJ l w q J' ++ [.lst xs]) := by
  unfold callJ pjOf
  simp only [h0, h1, h3]
  have e : List.take (2 + (smL ks es).length) (J'.ob 1 :: J'.gob :: (smL ks es ++ junk)) = J'.ob 1 :: J'.gob :: smL ks es := by
    rw [Nat.add_comm 2, List.take_succ_cons, List.take_succ_cons, List.take_left']; rfl
  have hx : ∃ J'' : Jug, List.take (2 + (smL ks es).length) (J'.ob 1 :: J'.gob :: (smL ks es ++ junk)) = J''.ob 1 :: J''.gob :: smL ks es := ⟨J', e⟩
  have ej : hx.choose = J' := by
    have this := e.symm.trans hx.choose_spec
    simp only [List.cons.injEq, and_true] at this
    exact (Jug.ob_inj this.1 this.2).symm
  rw [if_pos h2, dif_pos hx]
  simp only [cutK, if_pos hj, h4, Option.map_some, ej, resK, h5, if_true]
end
/-! ### written texts -/
theorem chars_inj : ∀ {a b : List Char}, a.map Char.toNat = b.map Char.toNat → a = b
  | [], [], _ => rfl
  | [], _ :: _, h => by simp at h
  | _ :: _, [], h => by simp at h
  | x :: a, y :: b, h => by
    simp only [List.map_cons, List.cons.injEq] at h
    rw [chars_inj h.2]
    have : x = y := Char.ext (UInt32.toNat_inj.mp h.1)
    rw [this]
@[simp] theorem ofString_inj {a b : String} : (Str.ofString a = Str.ofString b) ↔ a = b := by
  constructor
  · intro h
    rw [Str.ofString_eq_toList, Str.ofString_eq_toList] at h
    have h1 : (a.toList.map Char.toNat).toArray = (b.toList.map Char.toNat).toArray := congrArg Str.cps h
    have h2 := chars_inj (List.toArray_inj h1)
    exact String.toList_inj.mp h2
  · rintro rfl; rfl
example : (("throw" : Str) = "set") = False := by simp
end Zb

set_option Elab.async false
set_option linter.all false
set_option maxRecDepth 100000
namespace Zb
open PySem L2 PySem.Spec PyProof.Rows
/-! ### what a run computes, by rewriting: only what is run next is looked at -/
section
variable {α β : Type}
@[simp] theorem bind_ok (a : α) (l : Sto) (k : α → Sto → Res β) : (Res.ok a l).bind k = k a l := rfl
@[simp] theorem bind_bad (k : α → Sto → Res β) : (Res.bad : Res α).bind k = .bad := rfl
@[simp] theorem bind_exc (C : Addr) (fs : List (Str × D)) (l : Sto) (k : α → Sto → Res β) : (Res.exc C fs l : Res α).bind k = .exc C fs l := rfl
@[simp] theorem out_ok (a : α) (l : Sto) (k : α → Sto → Out) : (Res.ok a l).out k = k a l := rfl
@[simp] theorem out_bad (k : α → Sto → Out) : (Res.bad : Res α).out k = .bad := rfl
@[simp] theorem out_exc (C : Addr) (fs : List (Str × D)) (l : Sto) (k : α → Sto → Out) : (Res.exc C fs l : Res α).out k = .ex C fs l := rfl
@[simp] theorem nox_ok (a : α) (l : Sto) : (Res.ok a l).nox = .ok a l := rfl
@[simp] theorem nox_bad : (Res.bad : Res α).nox = .bad := rfl
end
def Out.seq (r : Out) (h : DS) : Out := match r with
  | .nx g1 l1 => h g1 l1
  | r => r
@[simp] theorem sSeq_e (f h : DS) (g : Sl) (l : Sto) : sSeq f h g l = (f g l).seq h := rfl
@[simp] theorem seq_nx (g : Sl) (l : Sto) (h : DS) : (Out.nx g l).seq h = h g l := rfl
@[simp] theorem seq_bad (h : DS) : Out.bad.seq h = .bad := rfl
@[simp] theorem seq_rt (d : D) (l : Sto) (h : DS) : (Out.rt d l).seq h = .rt d l := rfl
@[simp] theorem seq_bk (g : Sl) (l : Sto) (h : DS) : (Out.bk g l).seq h = .bk g l := rfl
@[simp] theorem seq_ct (g : Sl) (l : Sto) (h : DS) : (Out.ct g l).seq h = .ct g l := rfl
@[simp] theorem seq_ex (C : Addr) (fs : List (Str × D)) (l : Sto) (h : DS) : (Out.ex C fs l).seq h = .ex C fs l := rfl
def Out.toB (r : Out) : Res D := match r with
  | .rt d l' => .ok d l'
  | .nx _ l' => .ok .non l'
  | _ => .bad
@[simp] theorem toB_rt (d : D) (l : Sto) : (Out.rt d l).toB = .ok d l := rfl
@[simp] theorem toB_nx (g : Sl) (l : Sto) : (Out.nx g l).toB = .ok .non l := rfl
@[simp] theorem toB_bad : Out.bad.toB = .bad := rfl
@[simp] theorem runB_e (n : Nat) (den : DS) (ds : List D) (l : Sto) : runB n den ds l = (den (startD n ds) l).toB := rfl
def Out.toX (r : Out) : Res D := match r with
  | .rt d l' => .ok d l'
  | .nx _ l' => .ok .non l'
  | .ex C fs l' => .exc C fs l'
  | _ => .bad
@[simp] theorem toX_rt (d : D) (l : Sto) : (Out.rt d l).toX = .ok d l := rfl
@[simp] theorem toX_nx (g : Sl) (l : Sto) : (Out.nx g l).toX = .ok .non l := rfl
@[simp] theorem toX_ex (C : Addr) (fs : List (Str × D)) (l : Sto) : (Out.ex C fs l).toX = .exc C fs l := rfl
@[simp] theorem runX_e (n : Nat) (den : DS) (ds : List D) (l : Sto) : runX n den ds l = (den (startD n ds) l).toX := rfl
@[simp] theorem startD_nil (n : Nat) : startD n [] = List.replicate n none := rfl
@[simp] theorem startD_cons (n : Nat) (d : D) (ds : List D) : startD (n + 1) (d :: ds) = some d :: startD n ds := by simp [startD]
@[simp] theorem small_e (n : Nat) : small n = decide (n ≤ 16777216) := rfl
@[simp] theorem sRetN_e (g : Sl) (l : Sto) : sRetN g l = .rt .non l := rfl
@[simp] theorem mid_nat (n : Nat) : mid (n : Int) = decide (n ≤ 1000000000000) := by simp [mid]
@[simp] theorem in62_e (i : Int) : in62 i = mid i := rfl
@[simp] theorem mid_lit (n : Nat) : mid (no_index (OfNat.ofNat n)) = decide (OfNat.ofNat n ≤ 1000000000000) := mid_nat n
@[simp] theorem mid_0 : mid 0 = true := rfl
@[simp] theorem mid_1 : mid 1 = true := rfl
/-! operators -/
section
variable (l : Sto) (i j : Int) (xs ys : List D) (n m : Nat) (s t : Str) (b c : Bool) (x : D)
@[simp] theorem okO_some : okO (some x) l = .ok x l := rfl
@[simp] theorem okO_none : okO none l = .bad := rfl
@[simp] theorem hAdd_int : hAdd (.int i) (.int j) l = .ok (.int (i + j)) l := rfl
@[simp] theorem hAdd_tup : hAdd (.tup xs) (.tup ys) l = if small (xs.length + ys.length) then .ok (.tup (xs ++ ys)) l else .bad := rfl
@[simp] theorem hAdd_adr : hAdd (.adr n) (.adr m) l = (match l[n]?, l[m]? with
    | some (.lst xs), some (.lst ys) => if small (xs.length + ys.length) then .ok (.adr l.length) (l ++ [.lst (xs ++ ys)]) else .bad
    | _, _ => .bad) := rfl
@[simp] theorem hInt_int (c : Int → Int → Bool) (f : Int → Int → Int) : hInt c f (.int i) (.int j) l = if c i j then .ok (.int (f i j)) l else .bad := rfl
@[simp] theorem yes2_e : yes2 i j = true := rfl
@[simp] theorem hMul_int : hMul (.int i) (.int j) l = if mulOk i j then .ok (.int (i * j)) l else .bad := rfl
@[simp] theorem hMul_adr : hMul (.adr n) (.int j) l = (match l[n]? with
    | some (.lst xs) => if small (xs.length * j.toNat) && mid j then .ok (.adr l.length) (l ++ [.lst (List.replicate j.toNat xs).flatten]) else .bad
    | _ => .bad) := rfl
@[simp] theorem hMulT_int : hMulT (.int i) (.int j) l = hMul (.int i) (.int j) l := rfl
@[simp] theorem hMulT_adr : hMulT (.adr n) (.int j) l = hMul (.adr n) (.int j) l := rfl
@[simp] theorem hMulT_tup : hMulT (.tup xs) (.int j) l = if small (xs.length * j.toNat) && mid j then .ok (.tup (List.replicate j.toNat xs).flatten) l else .bad := rfl
@[simp] theorem hNeg_int : hNeg (.int i) l = .ok (.int (-i)) l := rfl
@[simp] theorem hEq_int : hEq (.int i) (.int j) l = .ok (.bl (decide (i = j))) l := rfl
@[simp] theorem hEq_str : hEq (.str s) (.str t) l = .ok (.bl (decide (s = t))) l := rfl
@[simp] theorem hEq_bl : hEq (.bl b) (.bl c) l = .ok (.bl (decide (b = c))) l := rfl
@[simp] theorem hEq_tup : hEq (.tup xs) (.tup ys) l = if sh (.tup xs) && sh (.tup ys) then .ok (.bl (PyData.eqv (py (.tup xs)) (py (.tup ys)))) l else .bad := rfl
@[simp] theorem hNe_int : hNe (.int i) (.int j) l = .ok (.bl (!decide (i = j))) l := rfl
@[simp] theorem hNe_str : hNe (.str s) (.str t) l = .ok (.bl (!decide (s = t))) l := rfl
@[simp] theorem hNe_bl : hNe (.bl b) (.bl c) l = .ok (.bl (!decide (b = c))) l := rfl
@[simp] theorem hNe_tup : hNe (.tup xs) (.tup ys) l = if sh (.tup xs) && sh (.tup ys) then .ok (.bl (!PyData.eqv (py (.tup xs)) (py (.tup ys)))) l else .bad := rfl
@[simp] theorem hNe_nn : hNe .non .non l = if sh .non && sh .non then .ok (.bl (!PyData.eqv (py .non) (py .non))) l else .bad := rfl
@[simp] theorem hNe_nt : hNe .non (.tup ys) l = if sh .non && sh (.tup ys) then .ok (.bl (!PyData.eqv (py .non) (py (.tup ys)))) l else .bad := rfl
@[simp] theorem hNe_tn : hNe (.tup ys) .non l = if sh (.tup ys) && sh .non then .ok (.bl (!PyData.eqv (py (.tup ys)) (py .non))) l else .bad := rfl
@[simp] theorem hCmp_int (f : Int → Int → Bool) : hCmp f (.int i) (.int j) l = .ok (.bl (f i j)) l := rfl
@[simp] theorem isN_non : isN .non = true := rfl
@[simp] theorem isN_tup : isN (.tup xs) = false := rfl
@[simp] theorem isN_int : isN (.int i) = false := rfl
@[simp] theorem isN_bl : isN (.bl b) = false := rfl
@[simp] theorem isN_str : isN (.str s) = false := rfl
@[simp] theorem isN_adr : isN (.adr n) = false := rfl
@[simp] theorem hIsN_e : hIsN x .non l = .ok (.bl (isN x)) l := by cases x <;> rfl
@[simp] theorem hNotN_e : hNotN x .non l = .ok (.bl (!isN x)) l := by cases x <;> rfl
@[simp] theorem items_tup : itemsOf (.tup xs) l = some xs := rfl
@[simp] theorem items_adr : itemsOf (.adr n) l = (match l[n]? with
  | some (.lst ds) => some ds
  | _ => none) := rfl
@[simp] theorem hIn_e (neg : Bool) (y : D) : hIn neg x y l = (match itemsOf y l with
  | some ds => if flatD x && ds.all flatD then .ok (.bl (if neg then !inV (fv x) (ds.map fv) else inV (fv x) (ds.map fv))) l else .bad
  | none => .bad) := rfl
@[simp] theorem flat_int : flatD (.int i) = true := rfl
@[simp] theorem flat_str : flatD (.str s) = true := rfl
@[simp] theorem fv_int : fv (.int i) = .int i := rfl
@[simp] theorem fv_str : fv (.str s) = .str s := rfl
@[simp] theorem tru_non : tru .non l = some false := rfl
@[simp] theorem tru_bl : tru (.bl b) l = some b := rfl
@[simp] theorem tru_int : tru (.int i) l = some (i != 0) := rfl
@[simp] theorem tru_tup : tru (.tup xs) l = some (!xs.isEmpty) := rfl
@[simp] theorem tru_adr : tru (.adr n) l = (match l[n]? with
    | some (.lst ds) => some (!ds.isEmpty)
    | _ => none) := rfl
@[simp] theorem hIx_tup : hIx (.tup xs) (.int i) l = okO (atI xs i) l := rfl
@[simp] theorem hIx_adr : hIx (.adr n) (.int i) l = (match l[n]? with
    | some (.lst ds) => okO (atI ds i) l
    | _ => .bad) := rfl
@[simp] theorem atI_nat_e : atI xs ((n : Nat) : Int) = xs[n]? := by
  unfold atI ixN
  rw [if_pos (by omega)]
  by_cases h : n < xs.length
  · rw [if_pos (by omega)]; simp
  · rw [if_neg (by omega)]; simp; omega
@[simp] theorem atI_zero : atI xs 0 = xs[0]? := atI_nat_e xs 0
@[simp] theorem atI_one : atI xs 1 = xs[1]? := atI_nat_e xs 1
@[simp] theorem atI_lit : atI xs (no_index (OfNat.ofNat n)) = xs[(OfNat.ofNat n : Nat)]? := atI_nat_e xs n
@[simp] theorem atI_last : atI xs (-1) = xs[xs.length - 1]? := by
  unfold atI ixN
  rw [if_neg (by omega)]
  by_cases h : xs.length = 0
  · rw [if_neg (by omega)]
    have : xs = [] := List.eq_nil_of_length_eq_zero h
    subst this; rfl
  · rw [if_pos (by omega)]
    have : ((-1 : Int) + (xs.length : Nat)).toNat = xs.length - 1 := by omega
    rw [this]; rfl
theorem cutG_to {α : Type} (xs : List α) (k : Nat) : cutG xs none (some (k : Int)) = xs.take k := by
  unfold cutG
  rw [HT.sIx_none, HT.sIx_nat]
  simp only [List.drop_zero, Nat.sub_zero]
  rw [Nat.min_def]
  split
  · rfl
  · rw [List.take_of_length_le (by omega), List.take_of_length_le (by omega)]
theorem cutG_from {α : Type} (xs : List α) (k : Nat) : cutG xs (some (k : Int)) none = xs.drop k := by
  unfold cutG
  rw [HT.sIx_none, HT.sIx_nat]
  rw [List.take_of_length_le (by rw [List.length_drop]; omega)]
  rw [Nat.min_def]
  split
  · rfl
  · rw [List.drop_eq_nil_of_le (by omega), List.drop_eq_nil_of_le (by omega)]
@[simp] theorem cutG_to_n {α : Type} (xs : List α) (k : Nat) : cutG xs none (some (k : Int)) = xs.take k := cutG_to xs k
@[simp] theorem cutG_to_l {α : Type} (xs : List α) (k : Nat) : cutG xs none (some (no_index (OfNat.ofNat k))) = xs.take (OfNat.ofNat k) := cutG_to xs k
@[simp] theorem cutG_to_1 {α : Type} (xs : List α) : cutG xs none (some 1) = xs.take 1 := cutG_to xs 1
@[simp] theorem cutG_from_n {α : Type} (xs : List α) (k : Nat) : cutG xs (some (k : Int)) none = xs.drop k := cutG_from xs k
@[simp] theorem cutG_from_l {α : Type} (xs : List α) (k : Nat) : cutG xs (some (no_index (OfNat.ofNat k))) none = xs.drop (OfNat.ofNat k) := cutG_from xs k
@[simp] theorem cutG_from_1 {α : Type} (xs : List α) : cutG xs (some 1) none = xs.drop 1 := cutG_from xs 1
@[simp] theorem hSl_tup (lo hi : Option Int) : hSl (.tup xs) lo hi l = .ok (.tup (cutG xs lo hi)) l := rfl
@[simp] theorem hSl_adr (lo hi : Option Int) : hSl (.adr n) lo hi l = (match l[n]? with
    | some (.lst ds) => .ok (.adr l.length) (l ++ [.lst (cutG ds lo hi)])
    | _ => .bad) := rfl
@[simp] theorem hSl_ro (ns : List Int) (lo hi : Option Int) : hSl (.ro ns) lo hi l = .ok (.adr l.length) (l ++ [.lst ((cutG ns lo hi).map D.int)]) := rfl
@[simp] theorem hRev_adr : hRev (.adr n) l = (match l[n]? with
    | some (.lst ds) => .ok (.adr l.length) (l ++ [.lst ds.reverse])
    | _ => .bad) := rfl
@[simp] theorem hLen_tup : hLen [.tup xs] l = .ok (.int xs.length) l := rfl
@[simp] theorem hLen_adr : hLen [.adr n] l = (match l[n]? with
    | some (.lst ds) => .ok (.int ds.length) l
    | _ => .bad) := rfl
@[simp] theorem hAbs_int : hAbs [.int i] l = .ok (.int (if i < 0 then -i else i)) l := rfl
@[simp] theorem hInt1_int : hInt1 [.int i] l = .ok (.int i) l := rfl
@[simp] theorem hInt1_bl : hInt1 [.bl b] l = .ok (.int (if b then 1 else 0)) l := rfl
@[simp] theorem hMax2_int : hMax2 [.int i, .int j] l = .ok (.int (if j > i then j else i)) l := rfl
@[simp] theorem hMin2_int : hMin2 [.int i, .int j] l = .ok (.int (if j < i then j else i)) l := rfl
@[simp] theorem hSumL_adr : hSumL [.adr n] l = (match l[n]? with
    | some (.lst ds) => match intsOf ds with
      | some ns => .ok (.int ns.sum) l
      | none => .bad
    | _ => .bad) := rfl
@[simp] theorem ints_map_e : ∀ ns : List Int, intsOf (ns.map D.int) = some ns
  | [] => rfl
  | n :: ns => by simp [intsOf, ints_map_e ns]
@[simp] theorem hTupOf_tup : hTupOf [.tup xs] l = .ok (.tup xs) l := rfl
@[simp] theorem hTupOf_adr : hTupOf [.adr n] l = (match l[n]? with
    | some (.lst ds) => .ok (.tup ds) l
    | _ => .bad) := rfl
@[simp] theorem hLstOf_tup : hLstOf [.tup xs] l = .ok (.adr l.length) (l ++ [.lst xs]) := rfl
@[simp] theorem hLstOf_adr : hLstOf [.adr n] l = (match l[n]? with
    | some (.lst ds) => .ok (.adr l.length) (l ++ [.lst ds])
    | _ => .bad) := rfl
@[simp] theorem tyD_non : tyD .non l = some "NoneType" := rfl
@[simp] theorem tyD_bl : tyD (.bl b) l = some "bool" := rfl
@[simp] theorem tyD_int : tyD (.int i) l = some "int" := rfl
@[simp] theorem tyD_str : tyD (.str s) l = some "str" := rfl
@[simp] theorem tyD_tup : tyD (.tup xs) l = some "tuple" := rfl
@[simp] theorem tyD_adr : tyD (.adr n) l = (match l[n]? with
    | some (.lst _) => some "list"
    | some (.dct _) => some "dict"
    | some (.dtt _) => some "dict"
    | some _ => none
    | none => none) := rfl
@[simp] theorem hIsi1_e (t : String) : hIsi1 [x, .ty t] l = (match tyD x l with
    | some s => match kitB s t with
      | some b => .ok (.bl b) l
      | none => .bad
    | none => .bad) := by cases x <;> rfl
@[simp] theorem hIsi2_e (t u : String) : hIsi2 t u x l = (match tyD x l with
  | some s => match kitB s t, kitB s u with
    | some b, some c => .ok (.bl (b || c)) l
    | _, _ => .bad
  | none => .bad) := rfl
@[simp] theorem isL_adr : isL (.adr n) l = (match l[n]? with
    | some (.lst _) => true
    | _ => false) := rfl
@[simp] theorem hApp_e : hApp (.adr n) [x] l = (match l[n]? with
    | some (.lst ds) => if small (ds.length + 1) then .ok .non (l.set n (.lst (ds ++ [x]))) else .bad
    | _ => .bad) := rfl
@[simp] theorem hPop_e : hPop (.adr n) [] l = (match l[n]? with
    | some (.lst ds) => match ds[ds.length - 1]? with
      | some d => .ok d (l.set n (.lst ds.dropLast))
      | none => .bad
    | _ => .bad) := rfl
@[simp] theorem hExt_e : hExt (.adr n) [x] l = (match l[n]?, itemsOf x l with
    | some (.lst ds), some es => if small (ds.length + es.length) then .ok .non (l.set n (.lst (ds ++ es))) else .bad
    | _, _ => .bad) := rfl
@[simp] theorem hSetL_e : hSetL (.adr n) (.int i) x l = (match l[n]? with
    | some (.lst ds) => match ixN ds.length i with
      | some j => some (l.set n (.lst (ds.set j x)))
      | none => none
    | _ => none) := rfl
@[simp] theorem ixN_nat : ixN m ((n : Nat) : Int) = if n < m then some n else none := by
  unfold ixN
  rw [if_pos (by omega)]
  by_cases h : n < m
  · rw [if_pos (by omega), if_pos h]; simp
  · rw [if_neg (by omega), if_neg h]
@[simp] theorem ixN_zero : ixN m 0 = if 0 < m then some 0 else none := ixN_nat 0 m
@[simp] theorem ixN_one : ixN m 1 = if 1 < m then some 1 else none := ixN_nat 1 m
@[simp] theorem hGetL_e : hGetL (.adr n) (.int i) l = (match l[n]? with
    | some (.lst ds) => if decide (0 ≤ i) && mid i then okO ds[i.toNat]? l else .bad
    | _ => .bad) := rfl
@[simp] theorem setsD_nil (g : Sl) : setsD [] [] g = some g := rfl
@[simp] theorem setsD_cons (is : List Nat) (g : Sl) : setsD (n :: is) (x :: xs) g = setsD is xs (g.set n (some x)) := rfl
@[simp] theorem gN_e (g : Sl) : gN n x l g = some (g.set n (some x)) := rfl
@[simp] theorem gT_e (is : List Nat) (g : Sl) : gT is (.tup xs) l g = setsD is xs g := rfl
@[simp] theorem keyD_int : keyD (.int i) = some (.inl i) := rfl
@[simp] theorem keyD_str : keyD (.str s) = some (.inr s) := rfl
@[simp] theorem hDIn_e (neg : Bool) (y : D) : hDIn neg y (.adr n) l = (match keyD y with
  | some k => (match l[n]? with
    | some (.dct kvs) => .ok (.bl (if neg then !(valD kvs k).isSome else (valD kvs k).isSome)) l
    | _ => .bad)
  | none => .bad) := by cases y <;> rfl
@[simp] theorem hDGet_e (y : D) : hDGet (.adr n) y l = (match keyD y with
  | some k => (match l[n]? with
    | some (.dct kvs) => okO (valD kvs k) l
    | _ => .bad)
  | none => .bad) := by cases y <;> rfl
@[simp] theorem pu_non : pu .non = true := rfl
@[simp] theorem pu_int : pu (.int i) = true := rfl
@[simp] theorem pu_bl : pu (.bl b) = true := rfl
@[simp] theorem pu_str : pu (.str s) = true := rfl
@[simp] theorem pu_tup : pu (.tup xs) = pus xs := by simp [pu]
@[simp] theorem pus_nil : pus [] = true := rfl
@[simp] theorem pus_cons : pus (x :: xs) = (pu x && pus xs) := by simp [pus]
@[simp] theorem pus_ints (ns : List Int) : pus (ns.map D.int) = true := pus_int ns
theorem pus_app : ∀ xs ys : List D, pus (xs ++ ys) = (pus xs && pus ys)
  | [], ys => by simp
  | x :: xs, ys => by simp [pus_app xs ys, Bool.and_assoc]
end
def dChain_k4 (h1 h2 : D → D → Sto → Res D) (fa fb fc : DE) (g : Sl) (x y z : D) : D → Sto → Res D := fun w l => h2 y w l
@[simp] theorem dChain_k4_e (h1 h2 : D → D → Sto → Res D) (fa fb fc : DE) (g : Sl) (x y z w : D) (l : Sto) : dChain_k4 h1 h2 fa fb fc g x y z w l = h2 y w l := rfl
def dCons_k2 (f : DE) (fs : DEs) (g : Sl) (d : D) : List D → Sto → Res (List D) := fun ds l => .ok (d :: ds) l
def dCons_k1 (f : DE) (fs : DEs) (g : Sl)  : D → Sto → Res (List D) := fun d l => (fs g l).bind (dCons_k2 f fs g  d)
@[simp] theorem dCons_k1_e (f : DE) (fs : DEs) (g : Sl)  (d : D) (l : Sto) : dCons_k1 f fs g  d l = ((fs g l).bind (dCons_k2 f fs g  d)) := rfl
@[simp] theorem dCons_k2_e (f : DE) (fs : DEs) (g : Sl) (d : D) (ds : List D) (l : Sto) : dCons_k2 f fs g d ds l = (.ok (d :: ds) l) := rfl
@[simp] theorem dCons_e (f : DE) (fs : DEs) (g : Sl) (l : Sto) : dCons f fs g l = (f g l).bind (dCons_k1 f fs g) := rfl
def dOp_k2 (h : D → D → Sto → Res D) (fa fb : DE) (g : Sl) (x : D) : D → Sto → Res D := fun y l => h x y l
def dOp_k1 (h : D → D → Sto → Res D) (fa fb : DE) (g : Sl)  : D → Sto → Res D := fun x l => (fb g l).bind (dOp_k2 h fa fb g  x)
@[simp] theorem dOp_k1_e (h : D → D → Sto → Res D) (fa fb : DE) (g : Sl)  (x : D) (l : Sto) : dOp_k1 h fa fb g  x l = ((fb g l).bind (dOp_k2 h fa fb g  x)) := rfl
@[simp] theorem dOp_k2_e (h : D → D → Sto → Res D) (fa fb : DE) (g : Sl) (x : D) (y : D) (l : Sto) : dOp_k2 h fa fb g x y l = (h x y l) := rfl
@[simp] theorem dOp_e (h : D → D → Sto → Res D) (fa fb : DE) (g : Sl) (l : Sto) : dOp h fa fb g l = (fa g l).bind (dOp_k1 h fa fb g) := rfl
def dTup_k1 (fs : DEs) (g : Sl)  : List D → Sto → Res D := fun ds l => if small ds.length then .ok (.tup ds) l else .bad
@[simp] theorem dTup_k1_e (fs : DEs) (g : Sl)  (ds : List D) (l : Sto) : dTup_k1 fs g  ds l = (if small ds.length then .ok (.tup ds) l else .bad) := rfl
@[simp] theorem dTup_e (fs : DEs) (g : Sl) (l : Sto) : dTup fs g l = (fs g l).bind (dTup_k1 fs g) := rfl
def dLst_k1 (fs : DEs) (g : Sl)  : List D → Sto → Res D := fun ds l => if small ds.length then .ok (.adr l.length) (l ++ [.lst ds]) else .bad
@[simp] theorem dLst_k1_e (fs : DEs) (g : Sl)  (ds : List D) (l : Sto) : dLst_k1 fs g  ds l = (if small ds.length then .ok (.adr l.length) (l ++ [.lst ds]) else .bad) := rfl
@[simp] theorem dLst_e (fs : DEs) (g : Sl) (l : Sto) : dLst fs g l = (fs g l).bind (dLst_k1 fs g) := rfl
def dUn_k1 (h : D → Sto → Res D) (fa : DE) (g : Sl)  : D → Sto → Res D := fun x l => h x l
@[simp] theorem dUn_k1_e (h : D → Sto → Res D) (fa : DE) (g : Sl)  (x : D) (l : Sto) : dUn_k1 h fa g  x l = (h x l) := rfl
@[simp] theorem dUn_e (h : D → Sto → Res D) (fa : DE) (g : Sl) (l : Sto) : dUn h fa g l = (fa g l).bind (dUn_k1 h fa g) := rfl
def dTru_k1 (f : DE) (g : Sl)  : D → Sto → Res Bool := fun d l => (match tru d l with
  | some k => .ok k l
  | none => .bad)
@[simp] theorem dTru_k1_e (f : DE) (g : Sl)  (d : D) (l : Sto) : dTru_k1 f g  d l = ((match tru d l with
  | some k => .ok k l
  | none => .bad)) := rfl
@[simp] theorem dTru_e (f : DE) (g : Sl) (l : Sto) : dTru f g l = (f g l).bind (dTru_k1 f g) := rfl
def dAnd_k1 (f h : DB) (g : Sl)  : Bool → Sto → Res Bool := fun b l => if b = true then h g l else .ok false l
@[simp] theorem dAnd_k1_e (f h : DB) (g : Sl)  (b : Bool) (l : Sto) : dAnd_k1 f h g  b l = (if b = true then h g l else .ok false l) := rfl
@[simp] theorem dAnd_e (f h : DB) (g : Sl) (l : Sto) : dAnd f h g l = (f g l).bind (dAnd_k1 f h g) := rfl
def dOr_k1 (f h : DB) (g : Sl)  : Bool → Sto → Res Bool := fun b l => if b = true then .ok true l else h g l
@[simp] theorem dOr_k1_e (f h : DB) (g : Sl)  (b : Bool) (l : Sto) : dOr_k1 f h g  b l = (if b = true then .ok true l else h g l) := rfl
@[simp] theorem dOr_e (f h : DB) (g : Sl) (l : Sto) : dOr f h g l = (f g l).bind (dOr_k1 f h g) := rfl
def dNot_k1 (f : DB) (g : Sl)  : Bool → Sto → Res Bool := fun b l => .ok (!b) l
@[simp] theorem dNot_k1_e (f : DB) (g : Sl)  (b : Bool) (l : Sto) : dNot_k1 f g  b l = (.ok (!b) l) := rfl
@[simp] theorem dNot_e (f : DB) (g : Sl) (l : Sto) : dNot f g l = (f g l).bind (dNot_k1 f g) := rfl
def dIfE_k1 (c : DB) (f h : DE) (g : Sl)  : Bool → Sto → Res D := fun b l => if b = true then f g l else h g l
@[simp] theorem dIfE_k1_e (c : DB) (f h : DE) (g : Sl)  (b : Bool) (l : Sto) : dIfE_k1 c f h g  b l = (if b = true then f g l else h g l) := rfl
@[simp] theorem dIfE_e (c : DB) (f h : DE) (g : Sl) (l : Sto) : dIfE c f h g l = (c g l).bind (dIfE_k1 c f h g) := rfl
def dAndV_k1 (f h : DE) (g : Sl)  : D → Sto → Res D := fun b l => (match b with
  | .bl true => h g l
  | .bl false => .ok (.bl false) l
  | _ => .bad)
@[simp] theorem dAndV_k1_e (f h : DE) (g : Sl)  (b : D) (l : Sto) : dAndV_k1 f h g  b l = ((match b with
  | .bl true => h g l
  | .bl false => .ok (.bl false) l
  | _ => .bad)) := rfl
@[simp] theorem dAndV_e (f h : DE) (g : Sl) (l : Sto) : dAndV f h g l = (f g l).bind (dAndV_k1 f h g) := rfl
def dOrV_k1 (f h : DE) (g : Sl)  : D → Sto → Res D := fun b l => (match b with
  | .bl false => h g l
  | .bl true => .ok (.bl true) l
  | _ => .bad)
@[simp] theorem dOrV_k1_e (f h : DE) (g : Sl)  (b : D) (l : Sto) : dOrV_k1 f h g  b l = ((match b with
  | .bl false => h g l
  | .bl true => .ok (.bl true) l
  | _ => .bad)) := rfl
@[simp] theorem dOrV_e (f h : DE) (g : Sl) (l : Sto) : dOrV f h g l = (f g l).bind (dOrV_k1 f h g) := rfl
def dNotV_k1 (f : DE) (g : Sl)  : D → Sto → Res D := fun b l => (match b with
  | .bl k => .ok (.bl (!k)) l
  | _ => .bad)
@[simp] theorem dNotV_k1_e (f : DE) (g : Sl)  (b : D) (l : Sto) : dNotV_k1 f g  b l = ((match b with
  | .bl k => .ok (.bl (!k)) l
  | _ => .bad)) := rfl
@[simp] theorem dNotV_e (f : DE) (g : Sl) (l : Sto) : dNotV f g l = (f g l).bind (dNotV_k1 f g) := rfl
def dBl_k1 (f : DE) (g : Sl)  : D → Sto → Res Bool := fun d l => (match d with
  | .bl k => .ok k l
  | _ => .bad)
@[simp] theorem dBl_k1_e (f : DE) (g : Sl)  (d : D) (l : Sto) : dBl_k1 f g  d l = ((match d with
  | .bl k => .ok k l
  | _ => .bad)) := rfl
@[simp] theorem dBl_e (f : DE) (g : Sl) (l : Sto) : dBl f g l = (f g l).bind (dBl_k1 f g) := rfl
def dChain_k3 (h1 h2 : D → D → Sto → Res D) (fa fb fc : DE) (g : Sl) (x : D) (y : D) : D → Sto → Res D := fun z l => (match z with
  | .bl true => (fc g l).bind (dChain_k4 h1 h2 fa fb fc g x y z)
  | .bl false => .ok (.bl false) l
  | _ => .bad)
def dChain_k2 (h1 h2 : D → D → Sto → Res D) (fa fb fc : DE) (g : Sl) (x : D) : D → Sto → Res D := fun y l => (h1 x y l).bind (dChain_k3 h1 h2 fa fb fc g x y)
def dChain_k1 (h1 h2 : D → D → Sto → Res D) (fa fb fc : DE) (g : Sl)  : D → Sto → Res D := fun x l => (fb g l).bind (dChain_k2 h1 h2 fa fb fc g  x)
@[simp] theorem dChain_k1_e (h1 h2 : D → D → Sto → Res D) (fa fb fc : DE) (g : Sl)  (x : D) (l : Sto) : dChain_k1 h1 h2 fa fb fc g  x l = ((fb g l).bind (dChain_k2 h1 h2 fa fb fc g  x)) := rfl
@[simp] theorem dChain_k2_e (h1 h2 : D → D → Sto → Res D) (fa fb fc : DE) (g : Sl) (x : D) (y : D) (l : Sto) : dChain_k2 h1 h2 fa fb fc g x y l = ((h1 x y l).bind (dChain_k3 h1 h2 fa fb fc g x y)) := rfl
@[simp] theorem dChain_k3_e (h1 h2 : D → D → Sto → Res D) (fa fb fc : DE) (g : Sl) (x : D) (y : D) (z : D) (l : Sto) : dChain_k3 h1 h2 fa fb fc g x y z l = ((match z with
  | .bl true => (fc g l).bind (dChain_k4 h1 h2 fa fb fc g x y z)
  | .bl false => .ok (.bl false) l
  | _ => .bad)) := rfl
@[simp] theorem dChain_e (h1 h2 : D → D → Sto → Res D) (fa fb fc : DE) (g : Sl) (l : Sto) : dChain h1 h2 fa fb fc g l = (fa g l).bind (dChain_k1 h1 h2 fa fb fc g) := rfl
def dOSome_k1 (f : DE) (g : Sl)  : D → Sto → Res (Option Int) := fun d l => (match d with
  | .int i => .ok (some i) l
  | _ => .bad)
@[simp] theorem dOSome_k1_e (f : DE) (g : Sl)  (d : D) (l : Sto) : dOSome_k1 f g  d l = ((match d with
  | .int i => .ok (some i) l
  | _ => .bad)) := rfl
@[simp] theorem dOSome_e (f : DE) (g : Sl) (l : Sto) : dOSome f g l = (f g l).bind (dOSome_k1 f g) := rfl
def dSl_k3 (f : DE) (lo hi : DO) (g : Sl) (d : D) (i : Option Int) : Option Int → Sto → Res D := fun j l => hSl d i j l
def dSl_k2 (f : DE) (lo hi : DO) (g : Sl) (d : D) : Option Int → Sto → Res D := fun i l => (hi g l).bind (dSl_k3 f lo hi g d i)
def dSl_k1 (f : DE) (lo hi : DO) (g : Sl)  : D → Sto → Res D := fun d l => (lo g l).bind (dSl_k2 f lo hi g  d)
@[simp] theorem dSl_k1_e (f : DE) (lo hi : DO) (g : Sl)  (d : D) (l : Sto) : dSl_k1 f lo hi g  d l = ((lo g l).bind (dSl_k2 f lo hi g  d)) := rfl
@[simp] theorem dSl_k2_e (f : DE) (lo hi : DO) (g : Sl) (d : D) (i : Option Int) (l : Sto) : dSl_k2 f lo hi g d i l = ((hi g l).bind (dSl_k3 f lo hi g d i)) := rfl
@[simp] theorem dSl_k3_e (f : DE) (lo hi : DO) (g : Sl) (d : D) (i : Option Int) (j : Option Int) (l : Sto) : dSl_k3 f lo hi g d i j l = (hSl d i j l) := rfl
@[simp] theorem dSl_e (f : DE) (lo hi : DO) (g : Sl) (l : Sto) : dSl f lo hi g l = (f g l).bind (dSl_k1 f lo hi g) := rfl
def dCB_k1 (h : List D → Sto → Res D) (fs : DEs) (g : Sl)  : List D → Sto → Res D := fun ds l => h ds l
@[simp] theorem dCB_k1_e (h : List D → Sto → Res D) (fs : DEs) (g : Sl)  (ds : List D) (l : Sto) : dCB_k1 h fs g  ds l = (h ds l) := rfl
@[simp] theorem dCB_e (h : List D → Sto → Res D) (fs : DEs) (g : Sl) (l : Sto) : dCB h fs g l = (fs g l).bind (dCB_k1 h fs g) := rfl
def dMe_k2 (h : D → List D → Sto → Res D) (fo : DE) (fs : DEs) (g : Sl) (x : D) : List D → Sto → Res D := fun ds l => h x ds l
def dMe_k1 (h : D → List D → Sto → Res D) (fo : DE) (fs : DEs) (g : Sl)  : D → Sto → Res D := fun x l => if isL x l = true then (fs g l).bind (dMe_k2 h fo fs g  x) else .bad
@[simp] theorem dMe_k1_e (h : D → List D → Sto → Res D) (fo : DE) (fs : DEs) (g : Sl)  (x : D) (l : Sto) : dMe_k1 h fo fs g  x l = (if isL x l = true then (fs g l).bind (dMe_k2 h fo fs g  x) else .bad) := rfl
@[simp] theorem dMe_k2_e (h : D → List D → Sto → Res D) (fo : DE) (fs : DEs) (g : Sl) (x : D) (ds : List D) (l : Sto) : dMe_k2 h fo fs g x ds l = (h x ds l) := rfl
@[simp] theorem dMe_e (h : D → List D → Sto → Res D) (fo : DE) (fs : DEs) (g : Sl) (l : Sto) : dMe h fo fs g l = (fo g l).bind (dMe_k1 h fo fs g) := rfl
def dMe0_k1 (h : D → List D → Sto → Res D) (fo : DE) (g : Sl)  : D → Sto → Res D := fun x l => if isL x l = true then h x [] l else .bad
@[simp] theorem dMe0_k1_e (h : D → List D → Sto → Res D) (fo : DE) (g : Sl)  (x : D) (l : Sto) : dMe0_k1 h fo g  x l = (if isL x l = true then h x [] l else .bad) := rfl
@[simp] theorem dMe0_e (h : D → List D → Sto → Res D) (fo : DE) (g : Sl) (l : Sto) : dMe0 h fo g l = (fo g l).bind (dMe0_k1 h fo g) := rfl
def dCall_k1 (n : Nat) (m : List D → Sto → Res D) (fs : DEs) (g : Sl)  : List D → Sto → Res D := fun ds l => if ds.length == n then (m ds l).nox else .bad
@[simp] theorem dCall_k1_e (n : Nat) (m : List D → Sto → Res D) (fs : DEs) (g : Sl)  (ds : List D) (l : Sto) : dCall_k1 n m fs g  ds l = (if ds.length == n then (m ds l).nox else .bad) := rfl
@[simp] theorem dCall_e (n : Nat) (m : List D → Sto → Res D) (fs : DEs) (g : Sl) (l : Sto) : dCall n m fs g l = (fs g l).bind (dCall_k1 n m fs g) := rfl
def dCallX_k1 (n : Nat) (m : List D → Sto → Res D) (fs : DEs) (g : Sl)  : List D → Sto → Res D := fun ds l => if ds.length == n then m ds l else .bad
@[simp] theorem dCallX_k1_e (n : Nat) (m : List D → Sto → Res D) (fs : DEs) (g : Sl)  (ds : List D) (l : Sto) : dCallX_k1 n m fs g  ds l = (if ds.length == n then m ds l else .bad) := rfl
@[simp] theorem dCallX_e (n : Nat) (m : List D → Sto → Res D) (fs : DEs) (g : Sl) (l : Sto) : dCallX n m fs g l = (fs g l).bind (dCallX_k1 n m fs g) := rfl
def dCallKX_k1 (n : Nat) (gD : List D → List D) (m : List D → Sto → Res D) (fs : DEs) (g : Sl)  : List D → Sto → Res D := fun ds l => if (gD ds).length == n then m (gD ds) l else .bad
@[simp] theorem dCallKX_k1_e (n : Nat) (gD : List D → List D) (m : List D → Sto → Res D) (fs : DEs) (g : Sl)  (ds : List D) (l : Sto) : dCallKX_k1 n gD m fs g  ds l = (if (gD ds).length == n then m (gD ds) l else .bad) := rfl
@[simp] theorem dCallKX_e (n : Nat) (gD : List D → List D) (m : List D → Sto → Res D) (fs : DEs) (g : Sl) (l : Sto) : dCallKX n gD m fs g l = (fs g l).bind (dCallKX_k1 n gD m fs g) := rfl
def sExpr_k1 (f : DE) (g : Sl)  : D → Sto → Out := fun d l => .nx g l
@[simp] theorem sExpr_k1_e (f : DE) (g : Sl)  (d : D) (l : Sto) : sExpr_k1 f g  d l = (.nx g l) := rfl
@[simp] theorem sExpr_e (f : DE) (g : Sl) (l : Sto) : sExpr f g l = (f g l).out (sExpr_k1 f g) := rfl
def sRet_k1 (f : DE) (g : Sl)  : D → Sto → Out := fun d l => .rt d l
@[simp] theorem sRet_k1_e (f : DE) (g : Sl)  (d : D) (l : Sto) : sRet_k1 f g  d l = (.rt d l) := rfl
@[simp] theorem sRet_e (f : DE) (g : Sl) (l : Sto) : sRet f g l = (f g l).out (sRet_k1 f g) := rfl
def sIf_k1 (c : DB) (f h : DS) (g : Sl)  : Bool → Sto → Out := fun b l => if b = true then f g l else h g l
@[simp] theorem sIf_k1_e (c : DB) (f h : DS) (g : Sl)  (b : Bool) (l : Sto) : sIf_k1 c f h g  b l = (if b = true then f g l else h g l) := rfl
@[simp] theorem sIf_e (c : DB) (f h : DS) (g : Sl) (l : Sto) : sIf c f h g l = (c g l).out (sIf_k1 c f h g) := rfl
def sSet_k1 (i : Nat) (f : DE) (g : Sl)  : D → Sto → Out := fun d l => .nx (g.set i (some d)) l
@[simp] theorem sSet_k1_e (i : Nat) (f : DE) (g : Sl)  (d : D) (l : Sto) : sSet_k1 i f g  d l = (.nx (g.set i (some d)) l) := rfl
@[simp] theorem sSet_e (i : Nat) (f : DE) (g : Sl) (l : Sto) : sSet i f g l = (f g l).out (sSet_k1 i f g) := rfl
def sAsg_k1 (gt : D → Sto → Sl → Option Sl) (f : DE) (g : Sl)  : D → Sto → Out := fun d l => (match gt d l g with
  | some g' => .nx g' l
  | none => .bad)
@[simp] theorem sAsg_k1_e (gt : D → Sto → Sl → Option Sl) (f : DE) (g : Sl)  (d : D) (l : Sto) : sAsg_k1 gt f g  d l = ((match gt d l g with
  | some g' => .nx g' l
  | none => .bad)) := rfl
@[simp] theorem sAsg_e (gt : D → Sto → Sl → Option Sl) (f : DE) (g : Sl) (l : Sto) : sAsg gt f g l = (f g l).out (sAsg_k1 gt f g) := rfl
def sPar_k1 (i j : Nat) (fs : DEs) (g : Sl)  : List D → Sto → Out := fun ds l => (match ds with
  | [d, d'] => .nx ((g.set i (some d)).set j (some d')) l
  | _ => .bad)
@[simp] theorem sPar_k1_e (i j : Nat) (fs : DEs) (g : Sl)  (ds : List D) (l : Sto) : sPar_k1 i j fs g  ds l = ((match ds with
  | [d, d'] => .nx ((g.set i (some d)).set j (some d')) l
  | _ => .bad)) := rfl
@[simp] theorem sPar_e (i j : Nat) (fs : DEs) (g : Sl) (l : Sto) : sPar i j fs g l = (fs g l).out (sPar_k1 i j fs g) := rfl
def sPar3_k1 (i j k : Nat) (fs : DEs) (g : Sl)  : List D → Sto → Out := fun ds l => (match ds with
  | [d, d', d''] => .nx (((g.set i (some d)).set j (some d')).set k (some d'')) l
  | _ => .bad)
@[simp] theorem sPar3_k1_e (i j k : Nat) (fs : DEs) (g : Sl)  (ds : List D) (l : Sto) : sPar3_k1 i j k fs g  ds l = ((match ds with
  | [d, d', d''] => .nx (((g.set i (some d)).set j (some d')).set k (some d'')) l
  | _ => .bad)) := rfl
@[simp] theorem sPar3_e (i j k : Nat) (fs : DEs) (g : Sl) (l : Sto) : sPar3 i j k fs g l = (fs g l).out (sPar3_k1 i j k fs g) := rfl
def sSub_k3 (fo fi f : DE) (g : Sl) (d : D) (x : D) : D → Sto → Out := fun y l => (match hSetL x y d l with
  | some l4 => .nx g l4
  | none => .bad)
def sSub_k2 (fo fi f : DE) (g : Sl) (d : D) : D → Sto → Out := fun x l => (fi g l).out (sSub_k3 fo fi f g d x)
def sSub_k1 (fo fi f : DE) (g : Sl)  : D → Sto → Out := fun d l => (fo g l).out (sSub_k2 fo fi f g  d)
@[simp] theorem sSub_k1_e (fo fi f : DE) (g : Sl)  (d : D) (l : Sto) : sSub_k1 fo fi f g  d l = ((fo g l).out (sSub_k2 fo fi f g  d)) := rfl
@[simp] theorem sSub_k2_e (fo fi f : DE) (g : Sl) (d : D) (x : D) (l : Sto) : sSub_k2 fo fi f g d x l = ((fi g l).out (sSub_k3 fo fi f g d x)) := rfl
@[simp] theorem sSub_k3_e (fo fi f : DE) (g : Sl) (d : D) (x : D) (y : D) (l : Sto) : sSub_k3 fo fi f g d x y l = ((match hSetL x y d l with
  | some l4 => .nx g l4
  | none => .bad)) := rfl
@[simp] theorem sSub_e (fo fi f : DE) (g : Sl) (l : Sto) : sSub fo fi f g l = (f g l).out (sSub_k1 fo fi f g) := rfl
def sAugS_k5 (h : D → D → Sto → Res D) (fo fi f : DE) (g : Sl) (x : D) (y : D) (z : D) (w : D) : D → Sto → Out := fun n l => (match hSetL x y n l with
  | some l6 => .nx g l6
  | none => .bad)
def sAugS_k4 (h : D → D → Sto → Res D) (fo fi f : DE) (g : Sl) (x : D) (y : D) (z : D) : D → Sto → Out := fun w l => (h z w l).out (sAugS_k5 h fo fi f g x y z w)
def sAugS_k3 (h : D → D → Sto → Res D) (fo fi f : DE) (g : Sl) (x : D) (y : D) : D → Sto → Out := fun z l => (f g l).out (sAugS_k4 h fo fi f g x y z)
def sAugS_k2 (h : D → D → Sto → Res D) (fo fi f : DE) (g : Sl) (x : D) : D → Sto → Out := fun y l => (hGetL x y l).out (sAugS_k3 h fo fi f g x y)
def sAugS_k1 (h : D → D → Sto → Res D) (fo fi f : DE) (g : Sl)  : D → Sto → Out := fun x l => (fi g l).out (sAugS_k2 h fo fi f g  x)
@[simp] theorem sAugS_k1_e (h : D → D → Sto → Res D) (fo fi f : DE) (g : Sl)  (x : D) (l : Sto) : sAugS_k1 h fo fi f g  x l = ((fi g l).out (sAugS_k2 h fo fi f g  x)) := rfl
@[simp] theorem sAugS_k2_e (h : D → D → Sto → Res D) (fo fi f : DE) (g : Sl) (x : D) (y : D) (l : Sto) : sAugS_k2 h fo fi f g x y l = ((hGetL x y l).out (sAugS_k3 h fo fi f g x y)) := rfl
@[simp] theorem sAugS_k3_e (h : D → D → Sto → Res D) (fo fi f : DE) (g : Sl) (x : D) (y : D) (z : D) (l : Sto) : sAugS_k3 h fo fi f g x y z l = ((f g l).out (sAugS_k4 h fo fi f g x y z)) := rfl
@[simp] theorem sAugS_k4_e (h : D → D → Sto → Res D) (fo fi f : DE) (g : Sl) (x : D) (y : D) (z : D) (w : D) (l : Sto) : sAugS_k4 h fo fi f g x y z w l = ((h z w l).out (sAugS_k5 h fo fi f g x y z w)) := rfl
@[simp] theorem sAugS_k5_e (h : D → D → Sto → Res D) (fo fi f : DE) (g : Sl) (x : D) (y : D) (z : D) (w : D) (n : D) (l : Sto) : sAugS_k5 h fo fi f g x y z w n l = ((match hSetL x y n l with
  | some l6 => .nx g l6
  | none => .bad)) := rfl
@[simp] theorem sAugS_e (h : D → D → Sto → Res D) (fo fi f : DE) (g : Sl) (l : Sto) : sAugS h fo fi f g l = (fo g l).out (sAugS_k1 h fo fi f g) := rfl
def dIt_k1 (f : DE) (g : Sl)  : D → Sto → Res ItD := fun d l => (match d with
  | .tup ds => .ok ⟨ds, none⟩ l
  | .adr n => match l[n]? with
    | some (.lst ds) => .ok ⟨ds, some n⟩ l
    | _ => .bad
  | .ro ns => .ok ⟨ns.map D.int, none⟩ l
  | .str z => .ok ⟨signs z, none⟩ l
  | _ => .bad)
@[simp] theorem dIt_k1_e (f : DE) (g : Sl)  (d : D) (l : Sto) : dIt_k1 f g  d l = ((match d with
  | .tup ds => .ok ⟨ds, none⟩ l
  | .adr n => match l[n]? with
    | some (.lst ds) => .ok ⟨ds, some n⟩ l
    | _ => .bad
  | .ro ns => .ok ⟨ns.map D.int, none⟩ l
  | .str z => .ok ⟨signs z, none⟩ l
  | _ => .bad)) := rfl
@[simp] theorem dIt_e (f : DE) (g : Sl) (l : Sto) : dIt f g l = (f g l).bind (dIt_k1 f g) := rfl
def dRng1_k1 (fs : DEs) (g : Sl)  : List D → Sto → Res ItD := fun ds l => (match ds with
  | [.int j] => if in62 j then .ok ⟨rng 0 j.toNat, none⟩ l else .bad
  | _ => .bad)
@[simp] theorem dRng1_k1_e (fs : DEs) (g : Sl)  (ds : List D) (l : Sto) : dRng1_k1 fs g  ds l = ((match ds with
  | [.int j] => if in62 j then .ok ⟨rng 0 j.toNat, none⟩ l else .bad
  | _ => .bad)) := rfl
@[simp] theorem dRng1_e (fs : DEs) (g : Sl) (l : Sto) : dRng1 fs g l = (fs g l).bind (dRng1_k1 fs g) := rfl
def dRng2_k1 (fs : DEs) (g : Sl)  : List D → Sto → Res ItD := fun ds l => (match ds with
  | [.int i, .int j] => if in62 i && in62 j then .ok ⟨rng i (j - i).toNat, none⟩ l else .bad
  | _ => .bad)
@[simp] theorem dRng2_k1_e (fs : DEs) (g : Sl)  (ds : List D) (l : Sto) : dRng2_k1 fs g  ds l = ((match ds with
  | [.int i, .int j] => if in62 i && in62 j then .ok ⟨rng i (j - i).toNat, none⟩ l else .bad
  | _ => .bad)) := rfl
@[simp] theorem dRng2_e (fs : DEs) (g : Sl) (l : Sto) : dRng2 fs g l = (fs g l).bind (dRng2_k1 fs g) := rfl
noncomputable def sFor_k1 (fi : DI) (gt : D → Sto → Sl → Option Sl) (b : DS) (g : Sl)  : ItD → Sto → Out := fun it l => sForL it gt b it.ds g l
@[simp] theorem sFor_k1_e (fi : DI) (gt : D → Sto → Sl → Option Sl) (b : DS) (g : Sl)  (it : ItD) (l : Sto) : sFor_k1 fi gt b g  it l = (sForL it gt b it.ds g l) := rfl
@[simp] theorem sFor_e (fi : DI) (gt : D → Sto → Sl → Option Sl) (b : DS) (g : Sl) (l : Sto) : sFor fi gt b g l = (fi g l).out (sFor_k1 fi gt b g) := rfl
noncomputable def dLc_k2 (fi : DI) (gt : D → Sto → Sl → Option Sl) (ct : DB) (fe : DE) (vs : List Nat) (g : Sl) (it : ItD) : List D → Sto → Res D := fun acc l => .ok (.adr l.length) (l ++ [.lst acc])
noncomputable def dLc_k1 (fi : DI) (gt : D → Sto → Sl → Option Sl) (ct : DB) (fe : DE) (vs : List Nat) (g : Sl)  : ItD → Sto → Res D := fun it l => (lcL it gt ct fe (wipeD g vs) it.ds l []).bind (dLc_k2 fi gt ct fe vs g  it)
@[simp] theorem dLc_k1_e (fi : DI) (gt : D → Sto → Sl → Option Sl) (ct : DB) (fe : DE) (vs : List Nat) (g : Sl)  (it : ItD) (l : Sto) : dLc_k1 fi gt ct fe vs g  it l = ((lcL it gt ct fe (wipeD g vs) it.ds l []).bind (dLc_k2 fi gt ct fe vs g  it)) := rfl
@[simp] theorem dLc_k2_e (fi : DI) (gt : D → Sto → Sl → Option Sl) (ct : DB) (fe : DE) (vs : List Nat) (g : Sl) (it : ItD) (acc : List D) (l : Sto) : dLc_k2 fi gt ct fe vs g it acc l = (.ok (.adr l.length) (l ++ [.lst acc])) := rfl
@[simp] theorem dLc_e (fi : DI) (gt : D → Sto → Sl → Option Sl) (ct : DB) (fe : DE) (vs : List Nat) (g : Sl) (l : Sto) : dLc fi gt ct fe vs g l = (fi g l).bind (dLc_k1 fi gt ct fe vs g) := rfl
@[simp] theorem dV_e (i : Nat) (g : Sl) (l : Sto) : dV i g l = (match g[i]? with
  | some (some d) => .ok d l
  | _ => .bad) := rfl
@[simp] theorem dC_e (d : D) (g : Sl) (l : Sto) : dC d g l = .ok d l := rfl
@[simp] theorem dNil_e (g : Sl) (l : Sto) : dNil g l = .ok [] l := rfl
@[simp] theorem dONone_e (g : Sl) (l : Sto) : dONone g l = .ok none l := rfl
@[simp] theorem dYes_e (g : Sl) (l : Sto) : dYes g l = .ok true l := rfl
@[simp] theorem sNx_e (g : Sl) (l : Sto) : sNx g l = .nx g l := rfl
@[simp] theorem sBk_e (g : Sl) (l : Sto) : sBk g l = .bk g l := rfl
@[simp] theorem sCt_e (g : Sl) (l : Sto) : sCt g l = .ct g l := rfl
def sAug_k1 (i : Nat) (h : D → D → Sto → Res D) (g : Sl) (x : D) : D → Sto → Out := fun y l1 => (h x y l1).out fun z l2 => .nx (g.set i (some z)) l2
@[simp] theorem sAug_k1_e (i : Nat) (h : D → D → Sto → Res D) (g : Sl) (x y : D) (l : Sto) : sAug_k1 i h g x y l = (h x y l).out fun z l2 => .nx (g.set i (some z)) l2 := rfl
@[simp] theorem sAug_e (i : Nat) (h : D → D → Sto → Res D) (f : DE) (g : Sl) (l : Sto) : sAug i h f g l = (match g[i]? with
  | some (some x) => (f g l).out (sAug_k1 i h g x)
  | _ => .bad) := rfl
/-! ### loops over what is written down -/
@[simp] theorem wipeD_nil (g : Sl) : wipeD g [] = g := rfl
@[simp] theorem wipeD_cons (g : Sl) (v : Nat) (vs : List Nat) : wipeD g (v :: vs) = (wipeD g vs).set v none := rfl
@[simp] theorem ok_none (ds : List D) (l : Sto) : (ItD.mk ds none).ok l = True := rfl
theorem lcL_map {α : Type} {it : ItD} {gt : D → Sto → Sl → Option Sl} {ct : DB} {fe : DE} {gw : Sl} {l : Sto} (hok : it.ok l) (e h : α → D) : ∀ (xs : List α) (acc : List D),
    (∀ x ∈ xs, ∃ g1, gt (e x) l gw = some g1 ∧ ct g1 l = .ok true l ∧ fe g1 l = .ok (h x) l) → acc.length + xs.length ≤ 16777216 → lcL it gt ct fe gw (xs.map e) l acc = .ok (acc ++ xs.map h) l
  | [], acc, _, _ => by simp [lcL, hok]
  | x :: xs, acc, hx, hl => by
    obtain ⟨g1, h1, h2, h3⟩ := hx x (by simp)
    simp only [List.length_cons] at hl
    simp only [List.map_cons, lcL, hok, if_true, h1, h2, h3, nox_ok, bind_ok]
    rw [if_pos (by simp; omega), lcL_map hok e h xs _ (fun y hy => hx y (by simp [hy])) (by simp; omega)]
    simp
@[simp] theorem set_concat {α : Type} : ∀ (pre : List α) (x y : α), (pre ++ [x]).set pre.length y = pre ++ [y]
  | [], _, _ => rfl
  | a :: pre, x, y => congrArg (a :: ·) (set_concat pre x y)
@[simp] theorem get_concat {α : Type} : ∀ (pre : List α) (x : α), (pre ++ [x])[pre.length]? = some x
  | [], _ => rfl
  | a :: pre, x => by rw [List.cons_append, List.length_cons, List.getElem?_cons_succ]; exact get_concat pre x
@[simp] theorem inV_nil (x : V) : inV x [] = false := rfl
@[simp] theorem inV_str (a b : Str) (xs : List V) : inV (.str a) (.str b :: xs) = (decide (b = a) || inV (.str a) xs) := by
  show (eqV (.str b) (.str a) || inV (.str a) xs) = _
  congr 1
@[simp] theorem rng00 : rng 0 0 = [] := rfl
@[simp] theorem rng01 : rng 0 1 = [.int 0] := rfl
@[simp] theorem rng02 : rng 0 2 = [.int 0, .int 1] := rfl
@[simp] theorem dDct_e (cs : List (Str × Int)) (g : Sl) (l : Sto) : dDct cs g l = .ok (.adr l.length) (l ++ [.dct (cs.map fun c => (.inr c.1, .int c.2))]) := rfl
@[simp] theorem cutG13 (a b c d : D) : cutG [a, b, c, d] (some 1) (some 3) = [b, c] := rfl
def _root_.Zb.Out.loop (r : Out) (k : Sl → Sto → Out) : Out := match r with
  | .nx g l => k g l
  | .ct g l => k g l
  | .bk g l => .nx g l
  | q => q
@[simp] theorem loop_nx (g : Sl) (l : Sto) (k : Sl → Sto → Out) : (Out.nx g l).loop k = k g l := rfl
@[simp] theorem loop_ct (g : Sl) (l : Sto) (k : Sl → Sto → Out) : (Out.ct g l).loop k = k g l := rfl
@[simp] theorem loop_bk (g : Sl) (l : Sto) (k : Sl → Sto → Out) : (Out.bk g l).loop k = .nx g l := rfl
@[simp] theorem loop_rt (d : D) (l : Sto) (k : Sl → Sto → Out) : (Out.rt d l).loop k = .rt d l := rfl
theorem for_nil {it : ItD} (gt : D → Sto → Sl → Option Sl) (b : DS) (g : Sl) (l : Sto) (h : it.ok l) : sForL it gt b [] g l = .nx g l := by simp only [sForL, h, if_true]
theorem for_cons {it : ItD} (gt : D → Sto → Sl → Option Sl) (b : DS) (d : D) (r : List D) (g : Sl) (l : Sto) (h : it.ok l) : sForL it gt b (d :: r) g l = (match gt d l g with
    | none => .bad
    | some g1 => (b g1 l).loop (sForL it gt b r)) := by
  simp only [sForL, h, if_true]
  cases gt d l g with
  | none => rfl
  | some g1 =>
    simp only
    cases b g1 l <;> rfl
@[simp] theorem for0_nil (ds : List D) (gt : D → Sto → Sl → Option Sl) (b : DS) (g : Sl) (l : Sto) : sForL ⟨ds, none⟩ gt b [] g l = .nx g l := for_nil gt b g l trivial
theorem for0_cons (ds : List D) (gt : D → Sto → Sl → Option Sl) (b : DS) (d : D) (r : List D) (g : Sl) (l : Sto) : sForL ⟨ds, none⟩ gt b (d :: r) g l = (match gt d l g with
    | none => .bad
    | some g1 => (b g1 l).loop (sForL ⟨ds, none⟩ gt b r)) := for_cons gt b d r g l trivial
theorem ok_some (ds : List D) (n : Nat) (l : Sto) (h : l[n]? = some (.lst ds)) : (ItD.mk ds (some n)).ok l := h
end Zb

set_option Elab.async false
set_option linter.all false
set_option maxRecDepth 100000
namespace Zb
open PySem L2 PySem.Spec PyProof.Rows
/-! ### calls framed: a def run in the small store of what its arguments reach; new objects that are still reached are kept, the rest is forgotten -/
mutual
def adsD : D → List Nat
  | .adr n => [n]
  | .tup ds => adsDs ds
  | _ => []
def adsDs : List D → List Nat
  | [] => []
  | d :: ds => adsD d ++ adsDs ds
end
def adsO : OB → List Nat
  | .lst ds => adsDs ds
  | .dct kvs => adsDs (kvs.map (·.2))
  | .dtt kvs => adsDs (kvs.map (·.2))
  | .fct kvs => adsDs (kvs.map (·.2))
  | .ftt kvs => adsDs (kvs.map (·.2))
mutual
def renD (f : Nat → Nat) : D → D
  | .adr n => .adr (f n)
  | .tup ds => .tup (renDs f ds)
  | .non => .non
  | .bl b => .bl b
  | .int i => .int i
  | .str s => .str s
  | .ty s => .ty s
  | .ro ns => .ro ns
def renDs (f : Nat → Nat) : List D → List D
  | [] => []
  | d :: ds => renD f d :: renDs f ds
end
def renO (f : Nat → Nat) : OB → OB
  | .lst ds => .lst (renDs f ds)
  | .dct kvs => .dct (kvs.map fun p => (p.1, renD f p.2))
  | .dtt kvs => .dtt (kvs.map fun p => (p.1, renD f p.2))
  | .fct kvs => .fct (kvs.map fun p => (p.1, renD f p.2))
  | .ftt kvs => .ftt (kvs.map fun p => (p.1, renD f p.2))
def levS (l : Sto) (is : List Nat) : List Nat := is.flatMap fun n => match l[n]? with
  | some o => adsO o
  | none => []
/-- all that is reached out of is, four steps deep -/
def reach (l : Sto) (is : List Nat) : List Nat :=
  let a := levS l is
  let b := levS l a
  let c := levS l b
  is ++ (a ++ (b ++ c))
def levF (k : Nat) (l : Sto) (is : List Nat) : List Nat := (levS l is).filter (k ≤ ·)
def reachF (k : Nat) (l : Sto) (is : List Nat) : List Nat :=
  let a := levF k l is
  let b := levF k l a
  let c := levF k l b
  is ++ (a ++ (b ++ c))
def smallS (l : Sto) (is : List Nat) : Sto := is.map fun n => renO is.idxOf (l.getD n (.lst []))
def setAll (l : Sto) : List Nat → List OB → Sto
  | n :: is, o :: os => setAll (l.set n o) is os
  | _, _ => l
def backF (n : Nat) (is F : List Nat) (j : Nat) : Nat := if j < is.length then is.getD j 0 else n + F.idxOf j
def okD (k : Nat) (F : List Nat) (d : List Nat) : Bool := d.all fun j => decide (j < k) || F.contains j
/-- what is told of the store behind the run -/
def backS (l : Sto) (is F : List Nat) (L : Sto) : Sto :=
  setAll l is ((L.take is.length).map (renO (backF l.length is F))) ++ F.map fun j => renO (backF l.length is F) (L.getD j (.lst []))
def freshF (k : Nat) (L : Sto) (d : List Nat) : List Nat := reachF k L ((d ++ (L.take k).flatMap adsO).filter (k ≤ ·))
def okS (k : Nat) (F : List Nat) (L : Sto) (d : List Nat) : Bool :=
  decide F.Nodup && F.all (fun j => decide (j < L.length)) && okD k F d && (L.take k).all (fun o => okD k F (adsO o)) && F.all (fun j => okD k F (adsO (L.getD j (.lst []))))
def finOk (l : Sto) (is F : List Nat) (d : D) (L : Sto) : Res D := if decide (is.length ≤ L.length) && okS is.length F L (adsD d) then .ok (renD (backF l.length is F) d) (backS l is F L) else .bad
def finEx (l : Sto) (is F : List Nat) (C : Addr) (fs : List (Str × D)) (L : Sto) : Res D := if decide (is.length ≤ L.length) && okS is.length F L (adsDs (fs.map (·.2))) then .exc C (fs.map fun p => (p.1, renD (backF l.length is F) p.2)) (backS l is F L) else .bad
def okIs (l : Sto) (is : List Nat) : Bool := decide is.Nodup && is.all (fun n => decide (n < l.length)) && is.all (fun n => okD 0 is (adsO (l.getD n (.lst []))))
def finAt (l : Sto) (is : List Nat) (r : Res D) : Res D := match r with
  | .ok d L => finOk l is (freshF is.length L (adsD d)) d L
  | .exc C fs L => finEx l is (freshF is.length L (adsDs (fs.map (·.2)))) C fs L
  | .bad => .bad
def callAt (run : List D → Sto → Res D) (ds : List D) (l : Sto) (is : List Nat) : Res D := if okIs l is then finAt l is (run (renDs is.idxOf ds) (smallS l is)) else .bad
def callM (run : List D → Sto → Res D) (ds : List D) (l : Sto) : Res D := callAt run ds l (reach l (adsDs ds))
section
variable {K : PySem.W.Frag} {E : XK} {ρ ρ' : List Addr} {l : Sto} {H H' : Hp}
mutual
theorem Rw.ren {f : Nat → Nat} : ∀ (d : D) (v : V), (∀ n ∈ adsD d, ∀ a, ρ[n]? = some a → ρ'[f n]? = some a) → Rw K ρ H d v → Rw K ρ' H (renD f d) v
  | .non, _, _, h => by simpa [renD, Rw] using h
  | .bl _, _, _, h => by simpa [renD, Rw] using h
  | .int _, _, _, h => by simpa [renD, Rw] using h
  | .str _, _, _, h => by simpa [renD, Rw] using h
  | .ty _, _, _, h => by simpa [renD, Rw] using h
  | .ro _, _, _, h => by
    simp only [renD, Rw] at h ⊢
    exact h
  | .adr n, v, q, h => by
    simp only [renD, Rw] at h ⊢
    obtain ⟨a, e, rfl⟩ := h
    exact ⟨a, q n (by simp [adsD]) a e, rfl⟩
  | .tup ds, v, q, h => by
    obtain ⟨a, vs, rfl, z, r⟩ := h.tupH
    simp only [renD]
    exact rw_tup z (Rws.ren ds vs (by simpa [adsD] using q) r)
theorem Rws.ren {f : Nat → Nat} : ∀ (ds : List D) (vs : List V), (∀ n ∈ adsDs ds, ∀ a, ρ[n]? = some a → ρ'[f n]? = some a) → Rws K ρ H ds vs → Rws K ρ' H (renDs f ds) vs
  | [], _, _, h => by simpa [renDs, Rws] using h
  | d :: ds, vs, q, h => by
    simp only [Rws] at h
    obtain ⟨v, u, rfl, r1, r2⟩ := h
    simp only [adsDs, List.mem_append] at q
    simp only [renDs]
    exact Rws.cons (Rw.ren d v (fun n hn => q n (.inl hn)) r1) (Rws.ren ds u (fun n hn => q n (.inr hn)) r2)
end
theorem map_ren {α : Type} {f : Nat → Nat} (kvs : List (α × D)) : (kvs.map fun p => (p.1, renD f p.2)).map (·.2) = renDs f (kvs.map (·.2)) := by
  induction kvs with
  | nil => rfl
  | cons p kvs ih => simp only [List.map_cons, renDs] at ih ⊢; rw [ih]
theorem Ow.ren {f : Nat → Nat} {o : OB} {a : Addr} (q : ∀ n ∈ adsO o, ∀ a, ρ[n]? = some a → ρ'[f n]? = some a) (h : Ow K ρ H o a) : Ow K ρ' H (renO f o) a := by
  cases o with
  | lst ds => obtain ⟨vs, e, r⟩ := h; exact ⟨vs, e, Rws.ren _ _ q r⟩
  | dct kvs =>
    obtain ⟨kv, e, k, r⟩ := h
    refine ⟨kv, e, ?_, ?_⟩
    · rw [k, List.map_map]; rfl
    · rw [map_ren]; exact Rws.ren _ _ q r
  | dtt kvs =>
    obtain ⟨kv, e, k, r⟩ := h
    refine ⟨kv, e, ?_, ?_⟩
    · rw [k, List.map_map]; rfl
    · rw [map_ren]; exact Rws.ren _ _ q r
  | fct kvs =>
    obtain ⟨od, kv, e, k, r⟩ := h
    refine ⟨od, kv, e, ?_, ?_⟩
    · rw [k, List.map_map]; rfl
    · rw [map_ren]; exact Rws.ren _ _ q r
  | ftt kvs =>
    obtain ⟨od, kv, e, k, r⟩ := h
    refine ⟨od, kv, e, ?_, ?_⟩
    · rw [k, List.map_map]; rfl
    · rw [map_ren]; exact Rws.ren _ _ q r
theorem setAll_len : ∀ (is : List Nat) (os : List OB) (l : Sto), (setAll l is os).length = l.length
  | [], os, l => by cases os <;> rfl
  | n :: is, [], l => rfl
  | n :: is, o :: os, l => by rw [setAll, setAll_len is os]; simp
theorem setAll_ne : ∀ (is : List Nat) (os : List OB) (l : Sto) (n : Nat), n ∉ is → (setAll l is os)[n]? = l[n]?
  | [], os, l, n, _ => by cases os <;> rfl
  | m :: is, [], l, n, _ => rfl
  | m :: is, o :: os, l, n, h => by
    simp only [List.mem_cons, not_or] at h
    rw [setAll, setAll_ne is os _ n h.2, List.getElem?_set_ne (fun z => h.1 z.symm)]
theorem setAll_at : ∀ (is : List Nat) (os : List OB) (l : Sto) (j n : Nat), is.Nodup → os.length = is.length → (∀ m ∈ is, m < l.length) → is[j]? = some n → (setAll l is os)[n]? = os[j]?
  | [], os, l, j, n, _, _, _, h => by simp at h
  | m :: is, [], l, j, n, _, e, _, _ => by simp at e
  | m :: is, o :: os, l, 0, n, nd, e, b, h => by
    simp only [List.getElem?_cons_zero, Option.some.injEq] at h
    subst h
    rw [setAll, setAll_ne is os _ m (List.nodup_cons.mp nd).1, List.getElem?_set_self (b m List.mem_cons_self)]
    rfl
  | m :: is, o :: os, l, j + 1, n, nd, e, b, h => by
    rw [setAll]
    have := setAll_at is os (l.set m o) j n (List.nodup_cons.mp nd).2 (by simpa using e) (fun x hx => by simpa using b x (List.mem_cons_of_mem _ hx)) (by simpa using h)
    rw [this]
    simp
theorem okD_ {k : Nat} {F d : List Nat} (h : okD k F d = true) : ∀ j ∈ d, j < k ∨ j ∈ F := by
  intro j hj
  have := List.all_eq_true.mp h j hj
  simpa using this
/-- the two worlds -/
structure Fr (K : PySem.W.Frag) (ρ : List Addr) (l : Sto) (H : Hp) (is F : List Nat) (ρ' : List Addr) (L : Sto) (H' : Hp) : Prop where
  o : Own K ρ l H
  nd : is.Nodup
  lt : ∀ n ∈ is, n < ρ.length
  st : Step (adrs ρ is) H ρ' H'
  o' : Own K ρ' L H'
  fnd : F.Nodup
  flt : ∀ j ∈ F, is.length ≤ j ∧ j < L.length
  cl : ∀ o ∈ L.take is.length, okD is.length F (adsO o) = true
  cf : ∀ j ∈ F, okD is.length F (adsO (L.getD j (.lst []))) = true
def big (ρ : List Addr) (F : List Nat) (ρ' : List Addr) : List Addr := ρ ++ F.map fun j => ρ'.getD j 0
section
variable {is F : List Nat} {L : Sto}
theorem Fr.back (f : Fr K ρ l H is F ρ' L H') {j : Nat} (h : j < is.length ∨ j ∈ F) {a : Addr} (e : ρ'[j]? = some a) : (big ρ F ρ')[backF ρ.length is F j]? = some a := by
  unfold backF
  by_cases hj : j < is.length
  · rw [if_pos hj]
    have hn := List.getElem_mem hj
    have hl := f.lt _ hn
    have e1 : is.getD j 0 = is[j] := by simp [List.getD_eq_getElem?_getD, hj]
    obtain ⟨a', h1, h2⟩ := adrs_get (ρ := ρ) (List.getElem?_eq_getElem hj) hl
    have := f.st.px j a' h2
    rw [e] at this
    cases this
    rw [e1]
    unfold big
    rw [List.getElem?_append_left hl]
    exact h1
  · rw [if_neg hj]
    have hF : j ∈ F := h.resolve_left hj
    unfold big
    rw [List.getElem?_append_right (Nat.le_add_right _ _), Nat.add_sub_cancel_left, List.getElem?_map]
    have hi := List.idxOf_lt_length_of_mem hF
    rw [List.getElem?_eq_getElem hi, List.getElem_idxOf hi]
    simp [List.getD_eq_getElem?_getD, e]
theorem Fr.rw (f : Fr K ρ l H is F ρ' L H') {d : D} {v : V} (h : okD is.length F (adsD d) = true) (r : Rw K ρ' H' d v) : Rw K (big ρ F ρ') H' (renD (backF ρ.length is F) d) v :=
  Rw.ren d v (fun j hj _ e => f.back (okD_ h j hj) e) r
theorem Fr.rws (f : Fr K ρ l H is F ρ' L H') {d : List D} {v : List V} (h : okD is.length F (adsDs d) = true) (r : Rws K ρ' H' d v) : Rws K (big ρ F ρ') H' (renDs (backF ρ.length is F) d) v :=
  Rws.ren d v (fun j hj _ e => f.back (okD_ h j hj) e) r
theorem Fr.fresh (f : Fr K ρ l H is F ρ' L H') {j : Nat} (hj : j ∈ F) : ∃ a, ρ'[j]? = some a ∧ a ∉ ρ ∧ H a = none := by
  obtain ⟨h1, h2⟩ := f.flt j hj
  have hb : j < ρ'.length := by rw [f.o'.len]; exact h2
  have hns : ρ'[j] ∉ adrs ρ is := fun q => by
    obtain ⟨i, hi⟩ := List.getElem?_of_mem q
    have hi1 := f.st.px i _ hi
    obtain ⟨b1, e1⟩ := List.getElem?_eq_some_iff.mp hi1
    have := nodup_inj f.o'.nd b1 hb e1
    have hl : i < is.length := by
      have := (List.getElem?_eq_some_iff.mp hi).1
      simpa [adrs] using this
    omega
  have hnew := f.st.new _ (List.getElem_mem hb) hns
  exact ⟨_, List.getElem?_eq_getElem hb, f.o.nop hnew, hnew⟩
theorem Fr.step (f : Fr K ρ l H is F ρ' L H') : Step ρ H (big ρ F ρ') H' := by
  refine ⟨⟨_, rfl⟩, fun a u e hn => f.st.keep a u e fun q => hn (adrs_mem f.lt q), fun a h n => ?_, f.st.fz⟩
  rcases List.mem_append.mp h with h | h
  · exact absurd h n
  · obtain ⟨j, hj, rfl⟩ := List.mem_map.mp h
    obtain ⟨a, e, _, hz⟩ := f.fresh hj
    simpa [List.getD_eq_getElem?_getD, e] using hz
theorem Fr.own (f : Fr K ρ l H is F ρ' L H') (hL : is.length ≤ L.length) : Own K (big ρ F ρ') (backS l is F L) H' := by
  have hρ : ρ.length = l.length := f.o.len
  have hos : ((L.take is.length).map (renO (backF l.length is F))).length = is.length := by simp; omega
  have hlt : ∀ n ∈ is, n < l.length := fun n hn => by rw [← hρ]; exact f.lt n hn
  refine ⟨?_, ?_, fun n ob a e1 e2 => ?_⟩
  · unfold big
    refine List.nodup_append.mpr ⟨f.o.nd, ?_, ?_⟩
    · refine List.pairwise_map.mpr (List.Pairwise.imp_of_mem ?_ f.fnd)
      intro i j hi hj hne z
      obtain ⟨a, ea, _, _⟩ := f.fresh hi
      obtain ⟨b, eb, _, _⟩ := f.fresh hj
      simp only [List.getD_eq_getElem?_getD, ea, eb, Option.getD_some] at z
      obtain ⟨b1, e1⟩ := List.getElem?_eq_some_iff.mp ea
      obtain ⟨b2, e2⟩ := List.getElem?_eq_some_iff.mp eb
      exact hne (nodup_inj f.o'.nd b1 b2 (by rw [e1, e2, z]))
    · intro a ha b hb hab
      obtain ⟨j, hj, rfl⟩ := List.mem_map.mp hb
      obtain ⟨c, ec, hc, _⟩ := f.fresh hj
      simp only [List.getD_eq_getElem?_getD, ec, Option.getD_some] at hab
      subst hab
      exact hc ha
  · simp [big, backS, setAll_len, hρ]
  · have hls : (setAll l is ((L.take is.length).map (renO (backF l.length is F)))).length = l.length := setAll_len _ _ _
    by_cases hn : n < l.length
    · unfold backS at e1
      unfold big at e2
      rw [List.getElem?_append_left (by rw [hls]; exact hn)] at e1
      rw [List.getElem?_append_left (by rw [hρ]; exact hn)] at e2
      by_cases q : n ∈ is
      · obtain ⟨j, hj⟩ := List.getElem?_of_mem q
        rw [setAll_at is _ l j n f.nd hos hlt hj, List.getElem?_map] at e1
        have hjl : j < is.length := (List.getElem?_eq_some_iff.mp hj).1
        rw [List.getElem?_take_of_lt hjl] at e1
        cases z : L[j]? with
        | none => rw [z] at e1; cases e1
        | some o2 =>
          rw [z] at e1
          simp only [Option.map_some, Option.some.injEq] at e1
          subst e1
          obtain ⟨a', h4, h5⟩ := adrs_get (ρ := ρ) hj (f.lt n q)
          rw [e2] at h4; cases h4
          have := f.o'.at_ j o2 a z (f.st.px j a h5)
          rw [← hρ]
          exact Ow.ren (fun i hi b eb => f.back (okD_ (f.cl o2 (List.mem_of_getElem? (by rw [List.getElem?_take_of_lt hjl]; exact z))) i hi) eb) this
      · rw [setAll_ne _ _ _ _ q] at e1
        refine Ow.mono (f.step.mn f.o) (fun u e => f.st.keep a u e fun hm => ?_) (f.o.at_ n ob a e1 e2)
        obtain ⟨m, hm1, hm2⟩ := List.mem_map.mp hm
        have b1 := f.lt m hm1
        simp only [List.getD_eq_getElem?_getD, List.getElem?_eq_getElem b1, Option.getD_some] at hm2
        obtain ⟨b2, e3⟩ := List.getElem?_eq_some_iff.mp e2
        rw [← e3] at hm2
        have := nodup_inj f.o.nd b1 b2 hm2
        subst this; exact q hm1
    · unfold backS at e1
      unfold big at e2
      rw [List.getElem?_append_right (by rw [hls]; omega), hls, List.getElem?_map] at e1
      rw [List.getElem?_append_right (by rw [hρ]; omega), hρ, List.getElem?_map] at e2
      cases z : F[n - l.length]? with
      | none => rw [z] at e1; cases e1
      | some j =>
        rw [z] at e1 e2
        simp only [Option.map_some, Option.some.injEq] at e1 e2
        have hj := List.mem_of_getElem? z
        obtain ⟨b, eb, _, _⟩ := f.fresh hj
        simp only [List.getD_eq_getElem?_getD, eb, Option.getD_some] at e2
        subst e2
        obtain ⟨_, h2⟩ := f.flt j hj
        have e3 : L[j]? = some (L.getD j (.lst [])) := by simp [List.getD_eq_getElem?_getD, List.getElem?_eq_getElem h2]
        have := f.o'.at_ j _ b e3 eb
        subst e1
        rw [← hρ]
        exact Ow.ren (fun i hi b eb => f.back (okD_ (f.cf j hj) i hi) eb) this
end
theorem mem_reachF {k : Nat} {L : Sto} {is : List Nat} (h : ∀ j ∈ is, k ≤ j) : ∀ j ∈ reachF k L is, k ≤ j := by
  have lv : ∀ xs j, j ∈ levF k L xs → k ≤ j := fun xs j hj => by
    unfold levF at hj
    simpa using (List.mem_filter.mp hj).2
  intro j hj
  unfold reachF at hj
  simp only [List.mem_append] at hj
  rcases hj with hj | hj | hj | hj
  · exact h j hj
  · exact lv _ j hj
  · exact lv _ j hj
  · exact lv _ j hj
variable {P : Program} {w : World} {mg : Str → Option Value} {base : Heap} {k n : Nat} {f : Addr} {fd : FuncData} {ps : List Str}
theorem idx_get {is : List Nat} (b : ∀ n ∈ is, n < ρ.length) {n : Nat} (hn : n ∈ is) {a : Addr} (e : ρ[n]? = some a) : (adrs ρ is)[is.idxOf n]? = some a := by
  have hi := List.idxOf_lt_length_of_mem hn
  have h1 : is[is.idxOf n]? = some n := by rw [List.getElem?_eq_getElem hi, List.getElem_idxOf hi]
  obtain ⟨a', h2, h3⟩ := adrs_get (ρ := ρ) h1 (b n hn)
  rw [e] at h2; cases h2
  exact h3
theorem imp_M {CX : CXT} {m : List D → Sto → Res D} (F0 : FnOk P w K mg base CX k f fd ps (spD K n m)) : FnOk P w K mg base CX k f fd ps (spD K n (callM m)) :=
  F0.imp fun vs H Q E ⟨ρ, l, ds, o, r, hl, p⟩ => by
    unfold callM callAt at p
    obtain ⟨hc, p⟩ := Post.ite p
    unfold okIs at hc
    simp only [Bool.and_eq_true, decide_eq_true_eq, List.all_eq_true] at hc
    obtain ⟨⟨nd, hlt⟩, hcl⟩ := hc
    have hρ : ρ.length = l.length := o.len
    let is := reach l (adsDs ds)
    have hb : ∀ n ∈ is, n < ρ.length := fun n hn => by rw [hρ]; exact hlt n hn
    have hsub : ∀ n ∈ adsDs ds, n ∈ is := fun n hn => List.mem_append_left _ hn
    have own : Own K (adrs ρ is) (smallS l is) H := ⟨adrs_nodup nd hb o.nd, by simp [smallS, adrs], fun j ob a e1 e2 => by
      have hj : j < is.length := by have := (List.getElem?_eq_some_iff.mp e2).1; simpa [adrs] using this
      have hn := List.getElem_mem hj
      obtain ⟨a', h1, h2⟩ := adrs_get (ρ := ρ) (List.getElem?_eq_getElem hj) (hb _ hn)
      rw [e2] at h2; cases h2
      have e3 : l[is[j]]? = some (l.getD is[j] (.lst [])) := by
        have := hlt _ hn
        simp [List.getD_eq_getElem?_getD, List.getElem?_eq_getElem this]
      simp only [smallS, List.getElem?_map, List.getElem?_eq_getElem hj, Option.map_some, Option.some.injEq] at e1
      subst e1
      exact Ow.ren (fun i hi b eb => idx_get hb ((okD_ (hcl _ hn) i hi).resolve_left (by omega)) eb) (o.at_ _ _ a e3 h1)⟩
    refine ⟨adrs ρ is, smallS l is, renDs is.idxOf ds, own, Rws.ren ds vs (fun i hi b eb => idx_get hb (hsub i hi) eb) r, ?_, ?_⟩
    · rw [← hl]
      have : ∀ (f : Nat → Nat) (ds : List D), (renDs f ds).length = ds.length := fun f ds => by
        induction ds with
        | nil => rfl
        | cons d ds ih => simp [renDs, ih]
      exact this _ _
    · have fr : ∀ {ρ' : List Addr} {H' : Hp} {L : Sto} {dd : List Nat}, is.length ≤ L.length → okS is.length (freshF is.length L dd) L dd = true → Step (adrs ρ is) H ρ' H' → Own K ρ' L H' → Fr K ρ l H is (freshF is.length L dd) ρ' L H' := fun {ρ' H' L dd} hL h s o' => by
        simp only [okS, Bool.and_eq_true, decide_eq_true_eq, List.all_eq_true] at h
        obtain ⟨⟨⟨⟨f1, f2⟩, f3⟩, f4⟩, f5⟩ := h
        refine ⟨o, nd, hb, s, o', f1, fun j hj => ⟨mem_reachF (fun i hi => ?_) j hj, f2 j hj⟩, f4, f5⟩
        have := (List.mem_filter.mp hi).2
        simpa using this
      change Post K E ρ H (rD K) (finAt l is (m (renDs is.idxOf ds) (smallS l is))) Q at p
      cases q : m (renDs is.idxOf ds) (smallS l is) with
      | bad => rw [q] at p; exact p
      | ok d L =>
        rw [q] at p
        obtain ⟨hc, p⟩ := Post.ite p
        simp only [Bool.and_eq_true, decide_eq_true_eq] at hc
        intro ρ' H' v s o' r'
        have f := fr hc.1 hc.2 s o'
        have hk : okD is.length (freshF is.length L (adsD d)) (adsD d) = true := by
          have := hc.2
          simp only [okS, Bool.and_eq_true] at this
          exact this.1.1.2
        have e : backF l.length is (freshF is.length L (adsD d)) = backF ρ.length is (freshF is.length L (adsD d)) := by rw [hρ]
        refine p _ H' v f.step (f.own hc.1) ?_
        have := f.rw hk r'
        rw [← e] at this
        exact this
      | exc C fs L =>
        rw [q] at p
        obtain ⟨hc, p⟩ := Post.ite p
        simp only [Bool.and_eq_true, decide_eq_true_eq] at hc
        intro ρ' H' dd vs s o' e1 e2 e3
        have f := fr hc.1 hc.2 s o'
        have hk : okD is.length (freshF is.length L (adsDs (fs.map (·.2)))) (adsDs (fs.map (·.2))) = true := by
          have := hc.2
          simp only [okS, Bool.and_eq_true] at this
          exact this.1.1.2
        have e : backF l.length is (freshF is.length L (adsDs (fs.map (·.2)))) = backF ρ.length is (freshF is.length L (adsDs (fs.map (·.2)))) := by rw [hρ]
        refine p _ H' dd vs f.step (f.own hc.1) e1 (by rw [e2, List.map_map]; rfl) ?_
        have := f.rws hk e3
        rw [← e] at this
        rw [map_ren]
        exact this
theorem Has.toM {CX : CXT} {x : Str} {m : List D → Sto → Res D} (h : Has CX P w K mg base x k ps (spD K n m)) : Has CX P w K mg base x k ps (spD K n (callM m)) :=
  let ⟨f, fd, a, b, c, d⟩ := h.ex; ⟨f, fd, a, b, c, imp_M d⟩
theorem HasK.toM {CX : CXT} {x : Str} {ks : List Str} {gD : List D → List D} {m : List D → Sto → Res D} (h : HasK CX P w K mg base x k ps ks gD (spD K n m)) : HasK CX P w K mg base x k ps ks gD (spD K n (callM m)) :=
  let ⟨f, fd, g, gV, a, b, c, e, d⟩ := h.ex; ⟨f, fd, g, gV, a, b, c, e, imp_M d⟩
end
end Zb

set_option Elab.async false
set_option linter.all false
set_option maxRecDepth 100000
set_option maxHeartbeats 2000000
namespace Zb
open PySem L2 PySem.Spec PyProof.Rows
/-! ### try: body / except C as n: return what the exception's fields tell -/
theorem Own.newX {K : PySem.W.Frag} {ρ : List Addr} {l : Sto} {H : Hp} {p : Addr} {u : HO} (o : Own K ρ l H) (hp : H p = none) : Own K ρ l (upd H p u) ∧ Step ρ H ρ (upd H p u) := by
  have st : Step ρ H ρ (upd H p u) := step_upd hp
  exact ⟨⟨o.nd, o.len, fun n ob a e1 e2 => Ow.mono (st.mn o) (fun u e => by rw [upd_ne (ne_of_none e hp)]; exact e) (o.at_ n ob a e1 e2)⟩, st⟩
/-- an element of what is handed back: a constant, a field -/
inductive HE where
  | k (d : D) | f (n : Str)
inductive HR where
  | one (h : HE) | tup (hs : List HE)
def heD (fs : List (Str × D)) : HE → Option D
  | .k d => some d
  | .f n => fs.lookup n
def hesD (fs : List (Str × D)) : List HE → Option (List D)
  | [] => some []
  | h :: hs => match heD fs h, hesD fs hs with
    | some d, some ds => some (d :: ds)
    | _, _ => none
def hrD (fs : List (Str × D)) : HR → Option D
  | .one h => heD fs h
  | .tup hs => match hesD fs hs with
    | some ds => if small ds.length then some (.tup ds) else none
    | none => none
def cV : D → Option V
  | .non => some .non
  | .bl b => some (.bl b)
  | .int i => some (.int i)
  | .str s => some (.str s)
  | _ => none
def heV (vs : List (Str × V)) : HE → Option V
  | .k d => cV d
  | .f n => vs.lookup n
def hesV (vs : List (Str × V)) : List HE → Option (List V)
  | [] => some []
  | h :: hs => match heV vs h, hesV vs hs with
    | some d, some ds => some (d :: ds)
    | _, _ => none
def heC : HE → Bool
  | .k d => (cV d).isSome
  | .f _ => true
def okR : HR → Bool
  | .one h => heC h
  | .tup hs => hs.all heC
section
variable {K : PySem.W.Frag} {ρ : List Addr} {H : Hp}
theorem lookup_rw : ∀ {fs : List (Str × D)} {vs : List (Str × V)} {n : Str} {d : D}, vs.map (·.1) = fs.map (·.1) → Rws K ρ H (fs.map (·.2)) (vs.map (·.2)) → fs.lookup n = some d → ∃ v, vs.lookup n = some v ∧ Rw K ρ H d v
  | [], _, _, _, _, _, e => by simp at e
  | (m, d0) :: fs, [], _, _, h, _, _ => by simp at h
  | (m, d0) :: fs, (m', v0) :: vs, n, d, h, r, e => by
    simp only [List.map_cons, List.cons.injEq] at h
    obtain ⟨rfl, h⟩ := h
    simp only [List.map_cons, Rws] at r
    obtain ⟨v, u, e1, r1, r2⟩ := r
    cases e1
    rw [List.lookup_cons] at e ⊢
    cases q : (n == m') with
    | true =>
      rw [q] at e
      cases e
      exact ⟨v0, rfl, r1⟩
    | false =>
      rw [q] at e
      exact lookup_rw h r2 e
theorem he_rw {fs : List (Str × D)} {vs : List (Str × V)} (h1 : vs.map (·.1) = fs.map (·.1)) (h2 : Rws K ρ H (fs.map (·.2)) (vs.map (·.2))) {h : HE} {d : D} (hc : heC h = true) (e : heD fs h = some d) : ∃ v, heV vs h = some v ∧ Rw K ρ H d v := by
  cases h with
  | k d0 =>
    simp only [heD, Option.some.injEq] at e
    subst e
    cases d0 <;> simp [heC, cV] at hc <;> exact ⟨_, rfl, by simp [Rw]⟩
  | f n => exact lookup_rw h1 h2 e
theorem hes_rw {fs : List (Str × D)} {vs : List (Str × V)} (h1 : vs.map (·.1) = fs.map (·.1)) (h2 : Rws K ρ H (fs.map (·.2)) (vs.map (·.2))) : ∀ {hs : List HE} {ds : List D}, hs.all heC = true → hesD fs hs = some ds → ∃ us, hesV vs hs = some us ∧ Rws K ρ H ds us
  | [], ds, _, e => by simp only [hesD, Option.some.injEq] at e; subst e; exact ⟨[], rfl, Rws.nil⟩
  | h :: hs, ds, hc, e => by
    simp only [List.all_cons, Bool.and_eq_true] at hc
    simp only [hesD] at e
    split at e
    · rename_i d ds' e1 e2
      cases e
      obtain ⟨v, q1, r1⟩ := he_rw h1 h2 hc.1 e1
      obtain ⟨us, q2, r2⟩ := hes_rw h1 h2 hc.2 e2
      exact ⟨v :: us, by simp only [hesV, q1, q2], Rws.cons r1 r2⟩
    · cases e
end
/-- what is known of a class of exceptions, so that the field n of one of it may be read -/
structure FldTxt (K : PySem.W.Frag) (C : Addr) (n : Str) : Prop where
  ga : PySem.W.findIn K (.ref C) "__getattribute__" = some (some (.builtin "BaseException.__getattribute__"))
  gg : PySem.W.findIn K (.ref C) "__getattr__" = some none
  exC : PySem.W.subIn K (.ref C) (.type "BaseException") = some true
  hdC : PySem.W.hasDictIn K C = true
  noN : PySem.W.findIn K (.ref C) n = some none
section
variable {X : Cx} {C : Addr} {i : Nat}
def teH (C : Addr) (i : Nat) (a : Addr) (cls : Value) (d : Option Addr) (fv : List (Str × V) → Option V) : TE := fun σ H Q => (∃ σ0 : L2.St, σ = σ0.set i (some (.ref a))) ∧ cls = .ref C ∧ ∃ (dd : Addr) (vs : List (Str × V)) (v : V), d = some dd ∧ H dd = some (.xd vs) ∧ fv vs = some v ∧ Q v H
def taH (C : Addr) (i : Nat) (a : Addr) (cls : Value) (d : Option Addr) (fv : List (Str × V) → Option (List V)) : TA := fun σ H Q => (∃ σ0 : L2.St, σ = σ0.set i (some (.ref a))) ∧ cls = .ref C ∧ ∃ (dd : Addr) (vs : List (Str × V)) (us : List V), d = some dd ∧ H dd = some (.xd vs) ∧ fv vs = some us ∧ Q us H
structure AH (X : Cx) (C : Addr) (i : Nat) (e : Expr) (h : HE) : Prop where
  pe : ∀ (a : Addr) (oe : Obj) (cls : Value) (d : Option Addr) (pn : List (Addr × Obj)), Zc cls d oe → (∃ vs, oe.data = .fields vs) → PE (X.suite a ((a, oe) :: pn)) e (teH C i a cls d fun vs => heV vs h)
  ok : heC h = true
structure AHs (X : Cx) (C : Addr) (i : Nat) (es : List Expr) (hs : List HE) : Prop where
  pa : ∀ (a : Addr) (oe : Obj) (cls : Value) (d : Option Addr) (pn : List (Addr × Obj)), Zc cls d oe → (∃ vs, oe.data = .fields vs) → PA (X.suite a ((a, oe) :: pn)) es (taH C i a cls d fun vs => hesV vs hs)
  ok : hs.all heC = true
theorem ah_c {e : Expr} {d : D} {v : V} (hd : cV d = some v) (h : ∀ (a : Addr) (oe : Obj) (pn : List (Addr × Obj)), PE (X.suite a ((a, oe) :: pn)) e (tC v)) : AH X C i e (.k d) :=
  ⟨fun a oe cls dd pn hz hf => PE.imp (h a oe pn) fun σ H Q ⟨_, _, _, vs, v', _, _, e1, q⟩ => by
    simp only [heV, hd, Option.some.injEq] at e1
    subst e1
    exact q, by simp [heC, hd]⟩
theorem ah_str {s : Str} {j p} : AH X C i (.Constant (.str s) j p) (.k (.str s)) := ah_c (v := .str s) rfl fun _ _ _ => pe_str
theorem ah_int {s : Int} {j p} : AH X C i (.Constant (.int s) j p) (.k (.int s)) := ah_c (v := .int s) rfl fun _ _ _ => pe_int
theorem ah_non {j p} : AH X C i (.Constant .none j p) (.k .non) := ah_c (v := .non) rfl fun _ _ _ => pe_non
theorem ah_bl {b : Bool} {j p} : AH X C i (.Constant (.bool b) j p) (.k (.bl b)) := ah_c (v := .bl b) rfl fun _ _ _ => pe_bl
theorem ah_fld {n m : Str} {p1 p2 : Pos} (T : FldTxt X.K C m) (hi : X.N[i]? = some n) (hln : X.env.kindOf n = some .local) (hd : (n == ("__debug__" : Str)) = false := by decide) (hcd : (n == ("__classdict__" : Str)) = false := by decide)
    (hb : attributeBase (.Name n p1) m X.env (eval (.Name n p1) X.env) = eval (.Name n p1) X.env := by rfl) : AH X C i (.Attribute (.Name n p1) m p2) (.f m) := by
  refine ⟨fun a oe cls d pn hz hf => ⟨fun pins s σ H Q I h => ?_⟩, rfl⟩
  obtain ⟨⟨σ0, eσ⟩, ec, dd, vs, v, ed, ea, ev, q⟩ := h
  have hl : i < σ.length := by rw [I.len]; exact (List.getElem?_eq_some_iff.mp hi).1
  have hσ : σ[i]? = some (some (.ref a)) := by
    rw [eσ] at hl ⊢
    rw [List.getElem?_set_self (by simpa using hl)]
  refine attr_of hb (thn ((pe_var (X := X.suite a ((a, oe) :: pn)) (pos := p1) hi (.inl hln) hd hcd).run pins s σ H (fun x H1 => x = .ref a ∧ H1 = H) I ⟨.ref a, hσ, rfl, rfl⟩) fun u s1 hh => ?_)
  obtain ⟨x, H1, I1, rx, ex, eH⟩ := hh
  subst ex eH ec ed
  obtain rfl : u = Value.ref a := rx
  obtain ⟨ha, _⟩ := I1.pin (a, oe) (List.mem_append_left _ List.mem_cons_self)
  obtain ⟨fs, hd2⟩ := hf
  have hx : ObjOk X.prog X.w H1 s1.heap dd (.xd vs) := I1.hok dd _ ea
  obtain ⟨mA, hns, hr⟩ := hx
  obtain ⟨od, ho, hl2⟩ := lookIn_ns hns
  obtain ⟨u, hu, ru⟩ := RelO.some_of (v := v) (o := mA m) (by have := hr m; rw [show vs.lookup m = some v from ev] at this; exact this)
  have J : PySem.W.InstAt s1.heap a oe C (some od) := ⟨ha, hz.1, by unfold PySem.W.notCls; rw [hd2] <;> rfl, by rw [hz.2]; exact ho⟩
  exact HandSPX.exc_get I1.kIn J T.ga T.gg T.exC (PySem.W.findObj_own T.hdC T.noN rfl (by rw [hl2, hu])) (handed_of ru) ⟨v, H1, I1.tok _, ru, q⟩
theorem ahs_nil : AHs X C i [] [] := ⟨fun a oe cls d pn hz hf => PA.imp pa_nil fun σ H Q ⟨_, _, _, vs, us, _, _, e, q⟩ =>
  (by
    simp only [hesV, Option.some.injEq] at e
    subst e
    exact q), rfl⟩
theorem ahs_cons {e : Expr} {es : List Expr} {h : HE} {hs : List HE} (a1 : AH X C i e h) (a2 : AHs X C i es hs) (hst : starEach (e :: es) X.env = (false, eval e X.env) :: starEach es X.env := by rfl) : AHs X C i (e :: es) (h :: hs) :=
  ⟨fun a oe cls d pn hz hf => PA.imp (pa_cons (a1.pe a oe cls d pn hz hf) (a2.pa a oe cls d pn hz hf) hst) fun σ H Q ⟨h1, h2, dd, vs, us, h3, h4, e1, q⟩ => (by
    simp only [hesV] at e1
    split at e1
    · rename_i v us' e2 e3
      cases e1
      exact ⟨h1, h2, dd, vs, v, h3, h4, e2, h1, h2, dd, vs, us', h3, h4, e3, q⟩
    · cases e1), by simp [a1.ok, a2.ok]⟩
def hrV (H : Hp) (vs : List (Str × V)) (hr : HR) (Q : V → Hp → Prop) : Prop := match hr with
  | .one h => ∃ v, heV vs h = some v ∧ Q v H
  | .tup hs => ∃ us, hesV vs hs = some us ∧ us.length ≤ sizeLine ∧ ∀ p, H p = none → Q (.ref p) (upd H p (.tup us))
def teR (C : Addr) (i : Nat) (a : Addr) (cls : Value) (d : Option Addr) (hr : HR) : TE := fun σ H Q => (∃ σ0 : L2.St, σ = σ0.set i (some (.ref a))) ∧ cls = .ref C ∧ ∃ (dd : Addr) (vs : List (Str × V)), d = some dd ∧ H dd = some (.xd vs) ∧ hrV H vs hr Q
structure AR (X : Cx) (C : Addr) (i : Nat) (e : Expr) (hr : HR) : Prop where
  pe : ∀ (a : Addr) (oe : Obj) (cls : Value) (d : Option Addr) (pn : List (Addr × Obj)), Zc cls d oe → (∃ vs, oe.data = .fields vs) → PE (X.suite a ((a, oe) :: pn)) e (teR C i a cls d hr)
  ok : okR hr = true
theorem ar_one {e : Expr} {h : HE} (a1 : AH X C i e h) : AR X C i e (.one h) := ⟨fun a oe cls d pn hz hf => PE.imp (a1.pe a oe cls d pn hz hf) fun σ H Q ⟨h1, h2, dd, vs, h3, h4, v, e, q⟩ => ⟨h1, h2, dd, vs, v, h3, h4, e, q⟩, a1.ok⟩
theorem ar_tup {es : List Expr} {x1 pos} {hs : List HE} (a1 : AHs X C i es hs) : AR X C i (.Tuple es x1 pos) (.tup hs) :=
  ⟨fun a oe cls d pn hz hf => PE.imp (pe_tup (a1.pa a oe cls d pn hz hf)) fun σ H Q ⟨h1, h2, dd, vs, h3, h4, us, e, hl, q⟩ => ⟨h1, h2, dd, vs, us, h3, h4, e, hl, q⟩, a1.ok⟩
/-- from the fields as told to what is handed back -/
theorem hr_post {K : PySem.W.Frag} {ρ : List Addr} {l : Sto} {H : Hp} {fs : List (Str × D)} {vs : List (Str × V)} {hr : HR} {d : D} {Q : VK} (o : Own K ρ l H) (h1 : vs.map (·.1) = fs.map (·.1)) (h2 : Rws K ρ H (fs.map (·.2)) (vs.map (·.2))) (hc : okR hr = true)
    (e : hrD fs hr = some d) (q : ∀ ρ' H' v, Step ρ H ρ' H' → Own K ρ' l H' → Rw K ρ' H' d v → Q v H') : hrV H vs hr Q := by
  cases hr with
  | one h =>
    obtain ⟨v, e1, r⟩ := he_rw h1 h2 hc e
    exact ⟨v, e1, q ρ H v Step.refl o r⟩
  | tup hs =>
    simp only [hrD] at e
    split at e
    · rename_i ds e1
      split at e
      · rename_i hs2
        cases e
        obtain ⟨us, e2, r⟩ := hes_rw h1 h2 hc e1
        refine ⟨us, e2, ?_, fun p hp => ?_⟩
        · rw [r.length]; exact small_le hs2
        · obtain ⟨o2, s2⟩ := o.newT (xs := us) hp
          exact q ρ _ _ s2 o2 (rw_tup upd_same (s2.rws o r))
      · cases e
    · cases e
open Classical in
noncomputable def sTry1 (C : Addr) (hr : HR) (t : DS) : DS := fun g l => match t g l with
  | .ex C' fs l' => if C' = C then (match hrD fs hr with
    | some d => .rt d l'
    | none => .bad) else .bad
  | r => r
theorem as_try1 {E : XK} {t : DS} {n cl : Str} {body : List Stmt} {hr : HR} {re : Expr} {np p3 pos pos' : Pos} (hs : X.stack = X.env :: X.outer) (hf : X.env.frame = some X.env.locals) (hN : X.N.Nodup) (hi : X.N[i]? = some n) (hln : X.env.kindOf n = some .local)
    (te : PySem.W.exmOne X.K (.ref C) (.ref C) = some true) (gC : X.mg cl = some (.ref C)) (hg : Gl X cl)
    (hb : ∀ (E' : XK) (pn : List (Addr × Obj)) (xe : Value → Shared → Prop), Takes (X.tr pn xe) (fun c d _ H => E' c d H) → PassesOwn (model X.prog X.w) X.A X.env xe → ASs (X.tr pn xe) E' body t)
    (hh : AR X C i re hr) (hdc : (cl == ("__debug__" : Str)) = false := by decide) :
    AS X E (.Try body [.ExceptHandler (some (.Name cl np)) (some n) [.Return (some re) p3] pos'] [] [] pos) (sTry1 C hr t) := by
  refine ⟨PS.imp (ps_try_as (i := i) (tb := fun W D σ H => ∃ E' : XK, (∀ c d σ H, E' c d H → W c d σ H) ∧ tsOf X.K E' t D σ H) (ts := fun a cls d => tRet (teR C i a cls d hr))
    (Wout := fun _ _ _ _ => False) hs hf hN hi hln ⟨hg, hdc, .inl gC⟩ takes0 (fun W pn xe tk po => ?_) (fun a oe cls d pn hz hfd => ?_)) fun D σ H h => ?_⟩
  · refine ⟨fun pins s σ H D I ⟨E', h1, h2⟩ => ?_⟩
    exact (hb E' pn xe (tk.imp h1) po).pss.run pins s σ H D I h2
  · exact pss_one (ps_ret (hh.pe a oe cls d pn hz hfd))
  · obtain ⟨ρ, l, g, o, s, p⟩ := h
    refine ⟨fun c d H => c = .ref C ∧ ∃ (dd : Addr) (vs : List (Str × V)), d = some dd ∧ H dd = some (.xd vs) ∧ hrV H vs hr D.rt, ?_, ρ, l, g, o, s, ?_⟩
    · rintro c d σ1 H1 ⟨rfl, dd, vs, rfl, e, q⟩
      exact ⟨true, te, fun _ a _ => ⟨⟨σ1, rfl⟩, rfl, dd, vs, rfl, e, q⟩, fun z => Bool.noConfusion z⟩
    · unfold sTry1 at p
      cases q : t g l with
      | bad => rw [q] at p; exact p
      | nx g' l' => rw [q] at p; exact p
      | rt d l' => rw [q] at p; exact p
      | bk g' l' => rw [q] at p; exact p
      | ct g' l' => rw [q] at p; exact p
      | ex C' fs l' =>
        rw [q] at p
        simp only at p
        split at p
        · rename_i hC
          subst hC
          split at p
          · rename_i d hd
            intro ρ' H' dd vs st o' e1 e2 e3
            refine ⟨rfl, dd, vs, rfl, e1, hr_post o' e2 e3 hh.ok hd fun ρ2 H2 v s2 o2 r2 => ?_⟩
            exact p ρ2 H2 v (st.trans s2) o2 r2
          · exact p.elim
        · exact p.elim
end
end Zb

set_option Elab.async false
set_option linter.all false
set_option maxRecDepth 100000
set_option maxHeartbeats 2000000
namespace Zb
open PySem L2 PySem.Spec PyProof.Rows RZ
/-! ### for i, x in enumerate(a tuple) -/
theorem mk_enum {v : Value} {o : Obj} {Z : Heap → Prop} (B : Begins v o Z) :
    Meets (Builtin.«enumerate.__new__» ⟨[.type "enumerate", v], []⟩) (fun _ R s => Z s.heap ∧
      R (.ok (.ret (.ref (s.heap.push o).objs.size))) { s with heap := (s.heap.push o).push { cls := .type "enumerate", data := .fields #[.none, .bool false, .ref s.heap.objs.size, rawInt 0, .none, .none] } }) :=
  .of_wp fun prog w A R s h => by
    obtain ⟨hp, g, d, tk, os⟩ := s
    obtain ⟨hz, h⟩ := h
    have sb := sub_enumerate
    have it1 : ∀ {A' : Around} {E Q : Value → Shared → Prop}, Q (.ref hp.objs.size) ⟨hp.push o, g, d, tk, os⟩ → wpAny (model prog w) A' (pyIter v) Q E ⟨hp, g, d, tk, os⟩ := fun q => B.iter prog w _ _ ⟨hp, g, d, tk, os⟩ _ hz q
    wp_walk using it1
    refine wpAny_stack_any fun st => wpAny_pure ?_
    split
    · rename_i c _ _ _ _ _
      cases (c == Value.type "enumerate")
      · wp_walk using it1
        exact ⟨_, rfl, h⟩
      · wp_walk using it1
        exact ⟨_, rfl, h⟩
    · wp_walk using it1
      exact ⟨_, rfl, h⟩
theorem call_enum {prog : Program} {w : World} {A : Around} {E : Value → Shared → Prop} {s : Shared} {v : Value} {o : Obj} {Z : Heap → Prop} {Q : Value → Shared → Prop} (B : Begins v o Z) (hz : Z s.heap)
    (h : ∀ h', IsEnum h' (s.heap.objs.size + 1) s.heap.objs.size 0 .none → h'.get? s.heap.objs.size = some o → (∀ b o, s.heap.get? b = some o → h'.get? b = some o) → Q (.ref (s.heap.objs.size + 1)) { s with heap := h' }) :
    wpAny (model prog w) A (call (.type "enumerate") [v]) Q E s := by
  refine callType_new F.called_enumerate (by decide) (F.typeCall_enumerate_1 _) (F.newCall_enumerate_1 _) (fun obj => F.args_object_init_2 obj _) F.entry_enumerate_new (mk_enum B) ⟨hz, ?_⟩
  have sz : (s.heap.push o).objs.size = s.heap.objs.size + 1 := Heap.size_push ..
  have new := Heap.get?_push_size (s.heap.push o) (o := { cls := .type "enumerate", data := .fields #[.none, .bool false, .ref s.heap.objs.size, rawInt 0, .none, .none] }) rfl
  rw [sz] at new
  show _ ∧ _
  rw [sz]
  exact ⟨⟨_, new, rfl⟩, h _ new (Heap.get?_push_of_some _ (Heap.get?_push_size _ B.free)) fun b o x => Heap.get?_push_of_some _ (Heap.get?_push_of_some _ x)⟩
/-- the tuple at a, its items numbered, in new pairs -/
def IteT (K : PySem.W.Frag) (a : Addr) : It :=
  ⟨fun i H => ∃ (xs : List V) (x : V), SqT K H a xs ∧ xs[i]? = some x,
   fun i H v H' => ∃ (T : Addr) (x : V), v = .ref T ∧ H T = none ∧ H' = upd H T (.tup [.int (i : Nat), x]) ∧ ∀ xs, SqT K H a xs → xs[i]? = some x,
   fun i H => ∃ xs : List V, SqT K H a xs ∧ xs.length = i⟩
theorem turn_enumT {P : Program} {w : World} {K : PySem.W.Frag} {elts : List Expr} {kk : Nat} {tpos : Pos} (a e it : Addr) :
    Turn P w K (.Tuple elts kk tpos) (IteT K a) [e, it] e (fun i h => (∃ old, IsEnum h e it ((i : Nat) : Int) old) ∧ h.IsTupleIter it a i ∧ e ≠ it ∧ a ≠ it ∧ a ≠ e) where
  mem := List.mem_cons_self
  obj := fun i h st b hb => by
    obtain ⟨⟨old, z⟩, ⟨o, z1, z2, z3⟩, _⟩ := st
    simp only [List.mem_cons, List.not_mem_nil, or_false] at hb
    rcases hb with rfl | rfl
    · exact ⟨_, z, fun v q => nomatch q⟩
    · exact ⟨o, z1, fun v q => by rw [z3] at q; cases q⟩
  keep := fun i h h' st k => by
    obtain ⟨⟨old, z⟩, y, n1, n2, n3⟩ := st
    exact ⟨⟨old, k e (by simp) _ z⟩, y.at fun o q => k it (by simp) o q, n1, n2, n3⟩
  item := by
    intro X hP hw hK hc i pins s σ H E I hf st hg
    subst hP hw hK
    obtain ⟨⟨old, he⟩, hit, n1, n2, n3⟩ := st
    obtain ⟨xs, x, hq, hx⟩ := hg
    obtain ⟨its, rv, p, _⟩ := I.tuple hq
    obtain ⟨u, hu, ru⟩ := rv.get hx
    have tp : s.heap.IsTuple a its.toArray := p
    have le : e < s.heap.objs.size := Heap.lt_size he
    have li : it < s.heap.objs.size := by obtain ⟨_, q, _⟩ := hit; exact Heap.lt_size q
    have hi : i < its.toArray.size := by have := (List.getElem?_eq_some_iff.mp hu).1; simpa using this
    have hh : X.A.in1.handled = none := I.ok.hd hc
    refine wpAny_pyNext_enum_itemD (Draws.tuple hh it a n2 its.toArray) he ⟨hit, tp⟩ hi n1 (by simp [n1, Ne.symm n3]) fun x2 h' tk hx2 ho st2 hT hsz hk => ?_
    have e2 : x2 = u := by
      have := hx2
      simp only [List.getElem?_toArray] at this
      rw [hu] at this
      exact (Option.some.inj this).symm
    subst e2
    refine ⟨_, rfl, wpAny_letOwnedTupleGo_enum (s := { s with heap := h', toks := tk + 1 }) ho fun h2 he2 sb => ?_⟩
    have hT2 := (sb.2 _ (Nat.ne_of_gt le)).trans hT
    have new : ObjOk X.prog X.w (upd H s.heap.objs.size (.tup [.int (i : Nat), x])) h2 s.heap.objs.size (.tup [.int (i : Nat), x]) :=
      ⟨by show 2 ≤ sizeLine; decide, [.int i tk, x2], .cons ⟨_, rfl⟩ (.cons ru .nil), ⟨_, hT2, rfl, _, rfl⟩⟩
    have I2 : Inv X pins σ (upd H s.heap.objs.size (.tup [.int (i : Nat), x])) { s with heap := h2, toks := tk + 1 } :=
      I.turnedNew (ch := [e, it]) (fun b ob hb q => (sb.2 b (fun z => hb (by simp [z]))).trans (hk b ob (fun z => hb (by simp [z])) (fun z => hb (by simp [z])) q)) hf (Nat.le_refl _) new
    refine ⟨.ref s.heap.objs.size, _, I2, rfl, ⟨_, x, rfl, I.hok.fresh (Nat.le_refl _), rfl, fun ys hy => by rw [I.tuple_inj hy hq]; exact hx⟩, ⟨⟨x2, ?_⟩, st2.1.at fun o q => (sb.2 it (Ne.symm n1)).trans q, n1, n2, n3⟩, fun b hb => ?_⟩
    · have e1 : ((i + 1 : Nat) : Int) = (i : Int) + 1 := by omega
      rw [e1]; exact he2
    · have lb : b < s.heap.objs.size := by
        simp only [List.mem_cons, List.not_mem_nil, or_false] at hb
        rcases hb with rfl | rfl
        · exact le
        · exact li
      rw [upd_ne (Nat.ne_of_lt lb)]
      exact (hf b hb).1
  done := by
    intro X hP hw hK hc i pins s σ H E I hf st hg
    subst hP hw hK
    obtain ⟨⟨old, he⟩, hit, n1, n2, n3⟩ := st
    obtain ⟨xs, hq, rfl⟩ := hg
    obtain ⟨its, rv, p, _⟩ := I.tuple hq
    have tp : s.heap.IsTuple a its.toArray := p
    have hl := rv.length
    obtain ⟨f0, f1, f2, f3, f4, f5⟩ := hf it (by simp)
    have hh : X.A.in1.handled = none := I.ok.hd hc
    have e1 : its.toArray.size = xs.length := by simp [hl]
    refine wpAny_pyNext_enum_endD (Draws.tuple hh it a n2 its.toArray) he ⟨by rw [e1]; exact hit, tp⟩ fun h' eb => ⟨rfl, I.turned (t' := s.toks) (fun b o hb q => eb b o hb q) f0 f1 f3 f4 f5⟩
  self := fun A i s Q E st h => by
    obtain ⟨⟨_, he⟩, _⟩ := st
    exact wpAny_pyIter_enum he h
def iEnumT (K : PySem.W.Frag) (ta : TA) : TI := fun σ H R => ta σ H fun vs H1 => ∃ a xs, vs = [.ref a] ∧ SqT K H1 a xs ∧ R (IteT K a) H1
theorem pi_enumT {X : Cx} {e : Expr} {ta : TA} {p pos tpos : Pos} {elts : List Expr} {kk : Nat} (hg : Gl X "enumerate") (hm : X.mg "enumerate" = none) (ha : PA X [e] ta) (hs : starEach [e] X.env = [(false, eval e X.env)] := by rfl) :
    PI X (.Tuple elts kk tpos) (.Call (.Name "enumerate" p) [e] [] pos) (iEnumT X.K ta) := by
  refine ⟨fun pins s σ H R I h => ?_⟩
  refine Call_ (ld_blt I hg hm boot_enumerate (PyProof.Rows.callWith_type1 (thn (ha.run pos pins s σ H _ I h) fun us s1 ⟨vs, H1, I1, r1, q1⟩ => ?_) hs rfl))
  obtain ⟨a, xs, rfl, hq, q⟩ := q1
  cases r1 with
  | cons r rr =>
    cases rr
    cases r
    obtain ⟨its, rv, tp, _⟩ := I1.tuple hq
    have la : a < s1.heap.objs.size := by obtain ⟨o, e1, _⟩ := tp; exact Heap.lt_size e1
    refine call_enum (begins_tuple a its.toArray) tp fun h' he hit hk => wpAny_pyIter_enum he ?_
    have I2 : Inv X pins σ H1 { s1 with heap := h' } := I1.kept (t' := s1.toks) hk
    refine ⟨s1.heap.objs.size + 1, [s1.heap.objs.size + 1, s1.heap.objs.size], _, _, H1, rfl, I2, turn_enumT a (s1.heap.objs.size + 1) s1.heap.objs.size, ⟨⟨.none, he⟩, ⟨_, hit, rfl, rfl⟩, Nat.succ_ne_self _, Nat.ne_of_lt la, Nat.ne_of_lt (Nat.lt_succ_of_lt la)⟩, fun b hb => ?_, q⟩
    have lb : s1.heap.objs.size ≤ b := by
      simp only [List.mem_cons, List.not_mem_nil, or_false] at hb
      rcases hb with rfl | rfl
      · exact Nat.le_succ _
      · exact Nat.le_refl _
    exact I1.fpOk lb (I1.hok.fresh lb)
def enumF (n : Nat) : List D → List D
  | [] => []
  | d :: ds => .tup [.int n, d] :: enumF (n + 1) ds
theorem enumF_len : ∀ (n : Nat) (ds : List D), (enumF n ds).length = ds.length
  | _, [] => rfl
  | n, d :: ds => by simp [enumF, enumF_len (n + 1) ds]
theorem enumF_get : ∀ (n : Nat) (ds : List D) (i : Nat), (enumF n ds)[i]? = (ds[i]?).map fun d => .tup [.int ((n + i : Nat) : Int), d]
  | _, [], i => by simp [enumF]
  | n, d :: ds, 0 => by simp [enumF]
  | n, d :: ds, i + 1 => by simp [enumF, enumF_get (n + 1) ds i]; have : n + 1 + i = n + (i + 1) := by omega
                            simp [show (n : Int) + 1 + i = n + (i + 1) by omega]
section
variable {X : Cx} {E : XK} {tg e a b c : Expr} {es : List Expr} {f : DE} {fs : DEs} {pos p : Pos}
theorem jr_enumT {K : PySem.W.Frag} {ρ0 : List Addr} {l0 : Sto} {H0 : Hp} {q : Addr} {vs : List V} {ds : List D} (o0 : Own K ρ0 l0 H0) (t : SqT K H0 q vs) (r : Rws K ρ0 H0 ds vs) : JR K ρ0 H0 ⟨enumF 0 ds, none⟩ (IteT K q) where
  go := fun i ρ l H hi o s _ => by
    have t1 := s.sqt o0 _ _ t
    have hl : i < vs.length := by rw [r.length]; simpa [enumF_len] using hi
    exact ⟨vs, vs[i], t1, List.getElem?_eq_getElem hl⟩
  yld := fun i ρ l H x H' hi o s _ y => by
    obtain ⟨T, x, rfl, hT, rfl, y⟩ := y
    have t1 := s.sqt o0 _ _ t
    obtain ⟨d, e1, e2⟩ := (s.rws o0 r).getV (y vs t1)
    obtain ⟨o2, s2⟩ := o.newT (xs := [.int (i : Nat), x]) hT
    refine ⟨.tup [.int (i : Nat), d], by rw [enumF_get, e1]; simp, o2, s2, rw_tup upd_same (Rws.cons rw_int (Rws.one (s2.rw o e2)))⟩
  stop := fun ρ l H o s _ => ⟨vs, s.sqt o0 _ _ t, by rw [r.length]; simp [enumF_len]⟩
def dEnum (fs : DEs) : DI := fun g l => (fs g l).bind fun ds l1 => match ds with
  | [.tup xs] => .ok ⟨enumF 0 xs, none⟩ l1
  | _ => .bad
theorem ai_enum {elts : List Expr} {kk : Nat} {tpos : Pos} (hg : Gl X "enumerate") (hm : X.mg "enumerate" = none) (ha : AA X E [a] fs) (hs : starEach [a] X.env = [(false, eval a X.env)] := by rfl) : AI X E (.Tuple elts kk tpos) (.Call (.Name "enumerate" p) [a] [] pos) (dEnum fs) := ⟨PI.imp (pi_enumT hg hm ha.pa hs) fun σ H R ⟨ρ, l, g, o, s, pp⟩ => by
  refine ⟨ρ, l, g, o, s, ?_⟩
  unfold dEnum at pp
  refine Post.bind pp fun ds l1 ρ1 H1 vs e1 s1 o1 r1 p1 => ?_
  split at p1
  · obtain ⟨v, rfl, w⟩ := r1.one_
    obtain ⟨q, us, rfl, t, r⟩ := w.tup_
    exact ⟨q, us, rfl, t, p1.here o1 (jr_enumT o1 t r)⟩
  · exact p1.elim⟩
/-! ### for x, y in zip(a tuple, a tuple) -/
def zipD : List D → List D → List D
  | d :: ds, e :: es => .tup [d, e] :: zipD ds es
  | _, _ => []
theorem zipD_get : ∀ (ds es : List D) (i : Nat) (d e : D), ds[i]? = some d → es[i]? = some e → (zipD ds es)[i]? = some (.tup [d, e])
  | [], _, i, _, _, h, _ => by simp at h
  | _ :: _, [], i, _, _, _, h => by simp at h
  | d :: ds, e :: es, 0, _, _, h, h' => by simp at h h'; subst h; subst h'; rfl
  | d :: ds, e :: es, i + 1, _, _, h, h' => by simpa [zipD] using zipD_get ds es i _ _ (by simpa using h) (by simpa using h')
theorem zipD_len : ∀ (ds es : List D), (zipD ds es).length = min ds.length es.length
  | [], es => by simp [zipD]
  | _ :: _, [] => by simp [zipD]
  | d :: ds, e :: es => by simp [zipD, zipD_len ds es]
theorem jr_zipT {K : PySem.W.Frag} {ρ0 : List Addr} {l0 : Sto} {H0 : Hp} {q q2 : Addr} {vs us : List V} {ds es : List D} (o0 : Own K ρ0 l0 H0) (t : SqT K H0 q vs) (r : Rws K ρ0 H0 ds vs) (t2 : SqT K H0 q2 us) (r2 : Rws K ρ0 H0 es us) : JR K ρ0 H0 ⟨zipD ds es, none⟩ (ItzT K q q2) where
  go := fun i ρ l H hi o s _ => by
    have hi' : i < min ds.length es.length := by rw [← zipD_len]; exact hi
    have h1 : i < vs.length := by rw [r.length]; omega
    have h2 : i < us.length := by rw [r2.length]; omega
    exact ⟨vs, us, vs[i], us[i], s.sqt o0 _ _ t, s.sqt o0 _ _ t2, List.getElem?_eq_getElem h1, List.getElem?_eq_getElem h2⟩
  yld := fun i ρ l H x H' hi o s _ y => by
    obtain ⟨T, x, z, rfl, hT, rfl, y1, y2⟩ := y
    obtain ⟨d, e1, e2⟩ := (s.rws o0 r).getV (y1 vs (s.sqt o0 _ _ t))
    obtain ⟨d2, e3, e4⟩ := (s.rws o0 r2).getV (y2 us (s.sqt o0 _ _ t2))
    obtain ⟨o2, s2⟩ := o.newT (xs := [x, z]) hT
    exact ⟨.tup [d, d2], zipD_get _ _ _ _ _ e1 e3, o2, s2, rw_tup upd_same (Rws.cons (s2.rw o e2) (Rws.one (s2.rw o e4)))⟩
  stop := fun ρ l H o s _ => ⟨vs, us, s.sqt o0 _ _ t, s.sqt o0 _ _ t2, by show _ ≤ (zipD ds es).length ∨ _ ≤ (zipD ds es).length; rw [r.length, r2.length, zipD_len]; omega⟩
def dZip (fs : DEs) : DI := fun g l => (fs g l).bind fun ds l1 => match ds with
  | [.tup xs, .tup ys] => .ok ⟨zipD xs ys, none⟩ l1
  | _ => .bad
theorem ai_zip {elts : List Expr} {kk : Nat} {tpos : Pos} (hg : Gl X "zip") (hm : X.mg "zip" = none) (ha : AA X E [a, b] fs) (hs : starEach [a, b] X.env = (false, eval a X.env) :: starEach [b] X.env := by rfl) (hpl : (backTo pos (starEach [b] X.env)).any (·.1) = false := by rfl) : AI X E (.Tuple elts kk tpos) (.Call (.Name "zip" p) [a, b] [] pos) (dZip fs) := ⟨PI.imp (pi_zipA hg hm ha.pa hs hpl) fun σ H R ⟨ρ, l, g, o, s, pp⟩ => by
  refine ⟨ρ, l, g, o, s, ?_⟩
  unfold dZip at pp
  refine Post.bind pp fun ds l1 ρ1 H1 vs e1 s1 o1 r1 p1 => ?_
  split at p1
  · obtain ⟨v, v2, rfl, w, w2⟩ := r1.two_
    obtain ⟨q, us, rfl, t, r⟩ := w.tup_
    obtain ⟨q2, us2, rfl, t2, r2⟩ := w2.tup_
    exact ⟨q, q2, us, us2, rfl, .inr ⟨t, t2, p1.here o1 (jr_zipT o1 t r t2 r2)⟩⟩
  · exact p1.elim⟩
/-! ### range(a, b, -1), range(a, b, c) with c > 0 -/
def dRng3 (fs : DEs) : DI := fun g l => (fs g l).bind fun ds l1 => match ds with
  | [.int i, .int j, .int k] => if in62 i && in62 j && decide (k = -1) then .ok ⟨rngC i (-1) (i - j).toNat, none⟩ l1 else .bad
  | _ => .bad
theorem ai_range3 (hg : Gl X "range") (hm : X.mg "range" = none) (ha : AA X E [a, b, c] fs) (hs : starEach [a, b, c] X.env = (false, eval a X.env) :: starEach [b, c] X.env := by rfl) (hpl : (backTo pos (starEach [b, c] X.env)).any (·.1) = false := by rfl) : AI X E tg (.Call (.Name "range" p) [a, b, c] [] pos) (dRng3 fs) := ⟨PI.imp (pi_range3 hg hm ha.pa hs hpl) fun σ H R ⟨ρ, l, g, o, s, pp⟩ => by
  refine ⟨ρ, l, g, o, s, ?_⟩
  unfold dRng3 at pp
  refine Post.bind pp fun ds l1 ρ1 H1 vs e1 s1 o1 r1 p1 => ?_
  split at p1
  · obtain ⟨hc, p2⟩ := Post.ite p1
    simp only [Bool.and_eq_true, decide_eq_true_eq] at hc
    obtain ⟨⟨h1, h2⟩, rfl⟩ := hc
    simp only [Rws] at r1
    obtain ⟨v1, _, rfl, w1, v2, _, rfl, w2, v3, _, rfl, w3, rfl⟩ := r1
    rw [w1.int_, w2.int_, w3.int_]
    exact ⟨_, _, _, _, rfl, RgC.neg (in62_ h1).1 (in62_ h1).2 (in62_ h2).1 (in62_ h2).2, p2.here o1 jr_rngC⟩
  · exact p1.elim⟩
end
end Zb

set_option Elab.async false
set_option linter.all false
set_option maxRecDepth 100000
set_option maxHeartbeats 2000000
namespace Zb
open PySem L2 PySem.Spec PyProof.Rows
/-! ### sum of a tuple, of a list -/
def rSumT (K : PySem.W.Frag) : List V → Hp → VK → Prop := fun vs H Q => ∃ (a : Addr) (ns : List Int), vs = [V.ref a] ∧ SqT K H a (ns.map V.int) ∧ Q (.int ns.sum) H
theorem sum_rawT {prog : Program} {w : World} {A : Around} {E : Value → Shared → Prop} {s : Shared} {l : Addr} {its : List Value} {ns : List Int} {Q : Value → Shared → Prop} (hh : A.handled = none) (hl : s.heap.IsTuple l its.toArray) (hi : IntsAre its ns)
    (h : ∀ h' tk t', (∀ b o, s.heap.get? b = some o → h'.get? b = some o) → Q (.int ns.sum t') { s with heap := h', toks := tk }) : wpAny (model prog w) A (call (.builtin "sum") [.ref l]) Q E s := by
  obtain ⟨xs, e⟩ := hi.allInts.items
  have hn : numsOf (intItems xs).toList = ns := by rw [← e]; exact hi.numsOf
  rw [nums_intItems] at hn
  rw [e] at hl
  refine PySem.W.ktm_sumG hh hl fun h' tk t' hk => ?_
  have := h h' tk t' hk
  rw [preSum_eq, List.take_of_length_le (by simp), hn]
  exact this
theorem cr_sumA {X : Cx} (hc : X.calm = true) : CallR X (.builtin "sum") (fun vs H Q => rSum X.K vs H Q ∨ rSumT X.K vs H Q) := by
  intro pins s σ H vs us Q I r h
  rcases h with h | h
  · exact cr_sum hc pins s σ H vs us Q I r h
  · obtain ⟨a, ns, rfl, hs, q⟩ := h
    obtain ⟨its, rv, tp, _⟩ := I.tuple hs
    rw [Vals.ref1 r]
    exact sum_rawT (I.ok.hd hc) (show s.heap.IsTuple a its.toArray from tp) rv.ints fun h' tk t' hk => ⟨.int _, H, I.kept hk, ⟨_, rfl⟩, q⟩
def hSum : List D → Sto → Res D
  | [.tup ds], l => match intsOf ds with
    | some ns => .ok (.int ns.sum) l
    | none => .bad
  | ds, l => hSumL ds l
section
variable {X : Cx} {E : XK} {tg e a b c o : Expr} {es : List Expr} {f fo : DE} {fs : DEs} {pos p apos : Pos} {x : Str} {k n : Nat} {ps : List Str}
theorem ae_sum {p : Pos} (hc : X.calm = true) (hg : Gl X "sum") (hm : X.mg "sum" = none) (ha : AA X E (e :: es) fs) (he : starEach (e :: es) X.env = (false, eval e X.env) :: starEach es X.env := by rfl) (hpl : (backTo pos (starEach es X.env)).any (·.1) = false := by rfl) : AE X E (.Call (.Name "sum" p) (e :: es) [] pos) (dCB hSum fs) := ae_cb (pe_callB (cr_sumA hc) hg hm (by decide +kernel) ha.pa (he := he) (hpl := hpl)) fun ρ l H ds vs Q o r p => by
  unfold hSum at p
  split at p
  · obtain ⟨v, rfl, w1⟩ := r.one_
    obtain ⟨q, us, rfl, t, w2⟩ := w1.tup_
    split at p
    · rename_i ns e2
      have e3 := ints_rws e2 w2
      subst e3
      exact .inr ⟨q, ns, rfl, t, p.here o rw_int⟩
    · exact p.elim
  · left
    unfold hSumL at p
    split at p
    · obtain ⟨v, rfl, w1⟩ := r.one_
      split at p
      · rename_i es e1
        obtain ⟨a, us, rfl, _, h1, q⟩ := o.lst w1 e1
        split at p
        · rename_i ns e2
          have e3 := ints_rws e2 q
          subst e3
          exact ⟨a, ns, rfl, SqL.of h1, p.here o rw_int⟩
        · exact p.elim
      · exact p.elim
    · exact p.elim
/-! ### x.bit_length() -/
def hBits : D → Sto → Res D
  | .int i, l => .ok (.int (Builtin.Int.intBits i : Nat)) l
  | _, _ => .bad
theorem ae_bits {apos pos : Pos} (ho : AE X E o fo) (hbase : attributeBase o "bit_length" X.env (eval o X.env) = eval o X.env := by rfl) (hline : (apos.endLine == pos.line) = true := by rfl) : AE X E (.Call (.Attribute o "bit_length" apos) [] [] pos) (dUn hBits fo) :=
  ⟨PE.imp (pe_bits ho.pe hbase hline) fun σ H Q ⟨ρ, l, g, ow, s, pp⟩ => by
    refine ⟨ρ, l, g, ow, s, Post.bind pp fun d l1 ρ1 H1 v e1 s1 o1 r1 p1 => ?_⟩
    unfold hBits at p1
    split at p1
    · exact ⟨_, r1.int_, p1.here o1 rw_int⟩
    · exact p1.elim⟩
/-! ### calls by keywords that raise nothing -/
def dCallK (n : Nat) (gD : List D → List D) (m : List D → Sto → Res D) (fs : DEs) : DE := fun g l => (fs g l).bind fun ds l1 => if (gD ds).length == n then (m (gD ds) l1).nox else .bad
theorem ae_callK {CX : CXT} {ks : List Str} {gD : List D → List D} {kws : List Keyword} {m : List D → Sto → Res D} (h : HasK CX X.prog X.w X.K X.mg X.base x k ps ks gD (spD X.K n m)) (hr : Room k X.A) (hg : Gl X x) (ha : AK X E kws fs)
    (hall : (backToKw pos (keywordEach kws X.env)).all (·.1.isSome) = true := by rfl) (hks : (backToKw pos (keywordEach kws X.env)).filterMap (·.1) = ks := by rfl) (hx : Passes CX X E0 := by first | exact pass0 | exact passL)
    (hdb : (x == ("__debug__" : Str)) = false := by decide)
    (hpl : ((backTo pos (starEach [] X.env)).any (·.1) || (backToKw pos (keywordEach kws X.env)).any (·.1.isNone)) = false := by rfl) :
    AE X E (.Call (.Name x p) [] kws pos) (dCallK n gD m fs) := by
  obtain ⟨f, fd, g, gV, a, b, c, d, F⟩ := h.ex
  refine ⟨PE.imp (pe_callK0 F hr hg a b c hx ha.pk hall hks hdb hpl) fun σ H Q h => ?_⟩
  obtain ⟨ρ, l, gg, o, s, q⟩ := h
  refine ⟨ρ, l, gg, o, s, Post.bind q fun ds l1 ρ1 H1 vs e1 s1 o1 r1 q1 => ?_⟩
  obtain ⟨hc, q1⟩ := Post.ite q1
  refine ⟨ρ1, l1, gD ds, o1, d _ _ _ _ r1, by simpa using hc, ?_⟩
  cases z : m (gD ds) l1 with
  | bad => rw [z] at q1; exact q1
  | ok a l2 => rw [z] at q1; exact q1
  | exc C gs l2 => rw [z] at q1; exact q1.elim
end
/-! ### rules -/
def dEnum_k1 (fs : DEs) (g : Sl)  : List D → Sto → Res ItD := fun ds l => (match ds with
  | [.tup xs] => .ok ⟨enumF 0 xs, none⟩ l
  | _ => .bad)
@[simp] theorem dEnum_k1_e (fs : DEs) (g : Sl)  (ds : List D) (l : Sto) : dEnum_k1 fs g  ds l = ((match ds with
  | [.tup xs] => .ok ⟨enumF 0 xs, none⟩ l
  | _ => .bad)) := rfl
@[simp] theorem dEnum_e (fs : DEs) (g : Sl) (l : Sto) : dEnum fs g l = (fs g l).bind (dEnum_k1 fs g) := rfl
def dZip_k1 (fs : DEs) (g : Sl)  : List D → Sto → Res ItD := fun ds l => (match ds with
  | [.tup xs, .tup ys] => .ok ⟨zipD xs ys, none⟩ l
  | _ => .bad)
@[simp] theorem dZip_k1_e (fs : DEs) (g : Sl)  (ds : List D) (l : Sto) : dZip_k1 fs g  ds l = ((match ds with
  | [.tup xs, .tup ys] => .ok ⟨zipD xs ys, none⟩ l
  | _ => .bad)) := rfl
@[simp] theorem dZip_e (fs : DEs) (g : Sl) (l : Sto) : dZip fs g l = (fs g l).bind (dZip_k1 fs g) := rfl
def dRng3_k1 (fs : DEs) (g : Sl)  : List D → Sto → Res ItD := fun ds l => (match ds with
  | [.int i, .int j, .int k] => if in62 i && in62 j && decide (k = -1) then .ok ⟨rngC i (-1) (i - j).toNat, none⟩ l else .bad
  | _ => .bad)
@[simp] theorem dRng3_k1_e (fs : DEs) (g : Sl)  (ds : List D) (l : Sto) : dRng3_k1 fs g  ds l = ((match ds with
  | [.int i, .int j, .int k] => if in62 i && in62 j && decide (k = -1) then .ok ⟨rngC i (-1) (i - j).toNat, none⟩ l else .bad
  | _ => .bad)) := rfl
@[simp] theorem dRng3_e (fs : DEs) (g : Sl) (l : Sto) : dRng3 fs g l = (fs g l).bind (dRng3_k1 fs g) := rfl
def dCallK_k1 (n : Nat) (gD : List D → List D) (m : List D → Sto → Res D) (fs : DEs) (g : Sl)  : List D → Sto → Res D := fun ds l => if (gD ds).length == n then (m (gD ds) l).nox else .bad
@[simp] theorem dCallK_k1_e (n : Nat) (gD : List D → List D) (m : List D → Sto → Res D) (fs : DEs) (g : Sl)  (ds : List D) (l : Sto) : dCallK_k1 n gD m fs g  ds l = (if (gD ds).length == n then (m (gD ds) l).nox else .bad) := rfl
@[simp] theorem dCallK_e (n : Nat) (gD : List D → List D) (m : List D → Sto → Res D) (fs : DEs) (g : Sl) (l : Sto) : dCallK n gD m fs g l = (fs g l).bind (dCallK_k1 n gD m fs g) := rfl
@[simp] theorem hSum_tup (ds : List D) (l : Sto) : hSum [.tup ds] l = (match intsOf ds with
    | some ns => .ok (.int ns.sum) l
    | none => .bad) := rfl
@[simp] theorem hSum_adr (n : Nat) (l : Sto) : hSum [.adr n] l = hSumL [.adr n] l := rfl
@[simp] theorem hBits_int (i : Int) (l : Sto) : hBits (.int i) l = .ok (.int (Builtin.Int.intBits i : Nat)) l := rfl
/-! ### calls framed: the usual shapes -/
mutual
theorem ads_pure : ∀ d : D, pu d = true → adsD d = []
  | .adr n, h => by simp [pu] at h
  | .tup ds, h => by simp only [adsD]; exact adss_pure ds (by simpa [pu] using h)
  | .non, _ => rfl
  | .bl _, _ => rfl
  | .int _, _ => rfl
  | .str _, _ => rfl
  | .ty _, _ => rfl
  | .ro _, _ => rfl
theorem adss_pure : ∀ ds : List D, pus ds = true → adsDs ds = []
  | [], _ => rfl
  | d :: ds, h => by
    simp only [pus, Bool.and_eq_true] at h
    simp only [adsDs, ads_pure d h.1, adss_pure ds h.2, List.append_nil]
end
mutual
theorem ren_pure (f : Nat → Nat) : ∀ d : D, pu d = true → renD f d = d
  | .adr n, h => by simp [pu] at h
  | .tup ds, h => by simp only [renD]; rw [rens_pure f ds (by simpa [pu] using h)]
  | .non, _ => rfl
  | .bl _, _ => rfl
  | .int _, _ => rfl
  | .str _, _ => rfl
  | .ty _, _ => rfl
  | .ro _, _ => rfl
theorem rens_pure (f : Nat → Nat) : ∀ ds : List D, pus ds = true → renDs f ds = ds
  | [], _ => rfl
  | d :: ds, h => by
    simp only [pus, Bool.and_eq_true] at h
    simp only [renDs, ren_pure f d h.1, rens_pure f ds h.2]
end
theorem reach_nil (l : Sto) : reach l [] = [] := rfl
theorem callM_at {run : List D → Sto → Res D} {ds : List D} {l : Sto} {is : List Nat} (h : reach l (adsDs ds) = is) : callM run ds l = callAt run ds l is := by unfold callM; rw [h]
theorem fresh_nil {k : Nat} {L : Sto} {d : List Nat} (h1 : ∀ o ∈ L.take k, ∀ j ∈ adsO o, j < k) (h2 : ∀ j ∈ d, j < k) : freshF k L d = [] := by
  have e : (d ++ (L.take k).flatMap adsO).filter (k ≤ ·) = [] := by
    refine List.filter_eq_nil_iff.mpr fun j hj => ?_
    have : j < k := by
      rcases List.mem_append.mp hj with h | h
      · exact h2 j h
      · obtain ⟨o, ho, h⟩ := List.mem_flatMap.mp h
        exact h1 o ho j h
    simp; omega
  unfold freshF
  rw [e]
  rfl
/-- nothing new is reached -/
theorem finOk_nil {l L : Sto} {is : List Nat} {d : D} (hL : is.length ≤ L.length) (h1 : ∀ o ∈ L.take is.length, ∀ j ∈ adsO o, j < is.length) (h2 : ∀ j ∈ adsD d, j < is.length) :
    finAt l is (.ok d L) = .ok (renD (backF l.length is []) d) (setAll l is ((L.take is.length).map (renO (backF l.length is [])))) := by
  show finOk l is (freshF is.length L (adsD d)) d L = _
  rw [fresh_nil h1 h2]
  unfold finOk
  rw [if_pos]
  · simp [backS]
  · simp only [Bool.and_eq_true, decide_eq_true_eq, okS, okD, List.all_eq_true, Bool.or_eq_true]
    refine ⟨hL, ⟨⟨⟨by simp, by simp⟩, fun j hj => .inl (h2 j hj)⟩, fun o ho j hj => .inl (h1 o ho j hj)⟩, by simp⟩
theorem finEx_nil {l L : Sto} {is : List Nat} {C : Addr} {fs : List (Str × D)} (hL : is.length ≤ L.length) (h1 : ∀ o ∈ L.take is.length, ∀ j ∈ adsO o, j < is.length) (h2 : ∀ j ∈ adsDs (fs.map (·.2)), j < is.length) :
    finAt l is (.exc C fs L) = .exc C (fs.map fun p => (p.1, renD (backF l.length is []) p.2)) (setAll l is ((L.take is.length).map (renO (backF l.length is [])))) := by
  show finEx l is (freshF is.length L (adsDs (fs.map (·.2)))) C fs L = _
  rw [fresh_nil h1 h2]
  unfold finEx
  rw [if_pos]
  · simp [backS]
  · simp only [Bool.and_eq_true, decide_eq_true_eq, okS, okD, List.all_eq_true, Bool.or_eq_true]
    refine ⟨hL, ⟨⟨⟨by simp, by simp⟩, fun j hj => .inl (h2 j hj)⟩, fun o ho j hj => .inl (h1 o ho j hj)⟩, by simp⟩
theorem okIs_nil (l : Sto) : okIs l [] = true := rfl
theorem map_ren_pure (f : Nat → Nat) : ∀ fs : List (Str × D), pus (fs.map (·.2)) = true → fs.map (fun p => (p.1, renD f p.2)) = fs
  | [], _ => rfl
  | p :: fs, h => by
    simp only [List.map_cons, pus, Bool.and_eq_true] at h
    simp only [List.map_cons, ren_pure _ p.2 h.1, map_ren_pure f fs h.2]
section
variable {run : List D → Sto → Res D} {ds xs gs gs' : List D} {l junk : Sto} {d : D} {C : Addr} {fs : List (Str × D)}
theorem callM_run (h1 : pus ds = true) : callM run ds l = finAt l [] (run ds []) := by
  rw [callM_at (is := []) (by rw [adss_pure ds h1]; rfl)]
  unfold callAt
  rw [if_pos (okIs_nil l), rens_pure _ ds h1]
  rfl
/-- pure arguments, a pure result -/
theorem callM_p (h1 : pus ds = true) (h : run ds [] = .ok d junk) (hd : pu d = true) : callM run ds l = .ok d l := by
  rw [callM_run h1, h, finOk_nil (by simp) (by simp) (by rw [ads_pure d hd]; simp), ren_pure _ d hd]
  rfl
theorem callM_x (h1 : pus ds = true) (h : run ds [] = .exc C fs junk) (hd : pus (fs.map (·.2)) = true) : callM run ds l = .exc C fs l := by
  rw [callM_run h1, h, finEx_nil (by simp) (by simp) (by rw [adss_pure _ hd]; simp), map_ren_pure _ fs hd]
  rfl
theorem fresh_one {j : Nat} (hj : junk[j]? = some (.lst xs)) (hx : pus xs = true) : freshF 0 junk [j] = [j] := by
  have z : levF 0 junk [j] = [] := by simp [levF, levS, hj, adsO, adss_pure xs hx]
  unfold freshF reachF
  have e : List.filter (fun x => decide (0 ≤ x)) ([j] ++ List.flatMap adsO (List.take 0 junk)) = [j] := by simp
  rw [e]
  simp only [z, show levF 0 junk [] = [] from rfl, List.append_nil]
/-- pure arguments, a new list of pure things -/
theorem callM_l {j : Nat} (h1 : pus ds = true) (h : run ds [] = .ok (.adr j) junk) (hj : junk[j]? = some (.lst xs)) (hx : pus xs = true) : callM run ds l = .ok (.adr l.length) (l ++ [.lst xs]) := by
  have hl : j < junk.length := (List.getElem?_eq_some_iff.mp hj).1
  have hg : junk[j] = .lst xs := (List.getElem?_eq_some_iff.mp hj).2
  rw [callM_run h1, h]
  show finOk l [] (freshF 0 junk [j]) (.adr j) junk = _
  rw [fresh_one hj hx]
  unfold finOk
  rw [if_pos]
  · simp [backS, setAll, renD, backF, renO, rens_pure _ xs hx, hj]
  · simp [okS, okD, adsD, hl, hg, adsO, adss_pure xs hx]
end
end Zb

set_option Elab.async false
set_option linter.all false
set_option maxRecDepth 100000
set_option maxHeartbeats 2000000
namespace Zb
open PySem L2 PySem.Spec PyProof.Rows
/-! ### calls whose arguments reach just the store's first objects -/
mutual
theorem ren_id {f : Nat → Nat} : ∀ d : D, (∀ j ∈ adsD d, f j = j) → renD f d = d
  | .adr n, h => by simp only [renD]; rw [h n (by simp [adsD])]
  | .tup ds, h => by simp only [renD]; rw [rens_id ds (by simpa [adsD] using h)]
  | .non, _ => rfl
  | .bl _, _ => rfl
  | .int _, _ => rfl
  | .str _, _ => rfl
  | .ty _, _ => rfl
  | .ro _, _ => rfl
theorem rens_id {f : Nat → Nat} : ∀ ds : List D, (∀ j ∈ adsDs ds, f j = j) → renDs f ds = ds
  | [], _ => rfl
  | d :: ds, h => by
    simp only [adsDs, List.mem_append] at h
    simp only [renDs]
    rw [ren_id d fun j hj => h j (.inl hj), rens_id ds fun j hj => h j (.inr hj)]
end
theorem mapr_id {α : Type} {f : Nat → Nat} : ∀ kvs : List (α × D), (∀ j ∈ adsDs (kvs.map (·.2)), f j = j) → kvs.map (fun p => (p.1, renD f p.2)) = kvs
  | [], _ => rfl
  | p :: kvs, h => by
    simp only [List.map_cons, adsDs, List.mem_append] at h
    simp only [List.map_cons]
    rw [ren_id p.2 fun j hj => h j (.inl hj), mapr_id kvs fun j hj => h j (.inr hj)]
theorem reno_id {f : Nat → Nat} (o : OB) (h : ∀ j ∈ adsO o, f j = j) : renO f o = o := by
  cases o with
  | lst ds => simp only [renO]; rw [rens_id ds h]
  | dct kvs => simp only [renO]; rw [mapr_id kvs h]
  | dtt kvs => simp only [renO]; rw [mapr_id kvs h]
  | fct kvs => simp only [renO]; rw [mapr_id kvs h]
  | ftt kvs => simp only [renO]; rw [mapr_id kvs h]
theorem setAll_range : ∀ (S' S r : Sto) (p : Nat) (pre : Sto), S'.length = S.length → pre.length = p → setAll (pre ++ S ++ r) (List.range' p S.length) S' = pre ++ S' ++ r
  | [], [], r, p, pre, _, _ => by simp [setAll]
  | o :: S', s :: S, r, p, pre, h, hp => by
    simp only [List.length_cons, List.range'_succ, setAll]
    have e : (pre ++ s :: S ++ r).set p o = (pre ++ [o]) ++ S ++ r := by
      rw [List.append_assoc, List.set_append_right _ _ (by omega), hp, Nat.sub_self]
      simp
    rw [e, setAll_range S' S r (p + 1) (pre ++ [o]) (by simpa using h) (by simp [hp])]
    simp
  | [], s :: S, r, p, pre, h, _ => by simp at h
  | o :: S', [], r, p, pre, h, _ => by simp at h
section
variable {run : List D → Sto → Res D} {ds xs : List D} {S S' r junk : Sto} {d : D} {k : Nat}
theorem call_pre (hS : S.length = k) (hr : reach (S ++ r) (adsDs ds) = List.range k) (hc : ∀ o ∈ S, ∀ j ∈ adsO o, j < k) : callM run ds (S ++ r) = finAt (S ++ r) (List.range k) (run ds S) := by
  have idx : ∀ j, j < k → (List.range k).idxOf j = j := fun j hj => by
    have h1 : j ∈ List.range k := List.mem_range.mpr hj
    have h2 := List.idxOf_lt_length_of_mem h1
    have h3 : (List.range k)[(List.range k).idxOf j] = j := List.getElem_idxOf h2
    rw [List.getElem_range] at h3
    exact h3
  rw [callM_at hr]
  unfold callAt
  have ok : okIs (S ++ r) (List.range k) = true := by
    simp only [okIs, Bool.and_eq_true, decide_eq_true_eq, List.all_eq_true, okD, Bool.or_eq_true]
    refine ⟨⟨List.nodup_range, fun n hn => ?_⟩, fun n hn j hj => .inr ?_⟩
    · have := List.mem_range.mp hn; simp; omega
    · have hn' := List.mem_range.mp hn
      have hl : n < S.length := by omega
      rw [List.getD_eq_getElem?_getD, List.getElem?_append_left hl, List.getElem?_eq_getElem hl] at hj
      simpa using hc _ (List.getElem_mem hl) j hj
  rw [if_pos ok]
  have hds : ∀ j ∈ adsDs ds, j < k := fun j hj => by
    have : j ∈ reach (S ++ r) (adsDs ds) := List.mem_append_left _ hj
    rw [hr] at this
    exact List.mem_range.mp this
  rw [rens_id ds fun j hj => idx j (hds j hj)]
  have sm : smallS (S ++ r) (List.range k) = S := by
    unfold smallS
    apply List.ext_getElem?
    intro i
    rw [List.getElem?_map]
    by_cases hi : i < k
    · have hl : i < S.length := by omega
      rw [List.getElem?_range hi, List.getElem?_eq_getElem hl]
      simp only [Option.map_some, List.getD_eq_getElem?_getD, List.getElem?_append_left hl, List.getElem?_eq_getElem hl, Option.getD_some]
      rw [reno_id _ fun j hj => idx j (hc _ (List.getElem_mem hl) j hj)]
    · rw [List.getElem?_eq_none (by simp; omega), List.getElem?_eq_none (by omega)]
      rfl
  rw [sm]
theorem back_range (n : Nat) {j : Nat} (hj : j < k) (F : List Nat) : backF n (List.range k) F j = j := by
  unfold backF
  rw [if_pos (by simpa using hj)]
  simp [List.getD_eq_getElem?_getD, hj]
/-- nothing new is handed back -/
theorem callM_pre (hS : S.length = k) (hr : reach (S ++ r) (adsDs ds) = List.range k) (hc : ∀ o ∈ S, ∀ j ∈ adsO o, j < k)
    (h : run ds S = .ok d (S' ++ junk)) (hS' : S'.length = k) (hc' : ∀ o ∈ S', ∀ j ∈ adsO o, j < k) (hd : ∀ j ∈ adsD d, j < k) : callM run ds (S ++ r) = .ok d (S' ++ r) := by
  have tk : List.take k (S' ++ junk) = S' := by rw [← hS', List.take_left]
  rw [call_pre hS hr hc, h, finOk_nil (by simp; omega) (by rw [List.length_range, tk]; exact hc') (by rw [List.length_range]; exact hd)]
  rw [ren_id d fun j hj => back_range _ (hd j hj) _, List.length_range, tk]
  have e : S'.map (renO (backF (S ++ r).length (List.range k) [])) = S' := by
    conv => rhs; rw [← List.map_id S']
    exact List.map_congr_left fun o ho => reno_id o fun j hj => back_range _ (hc' o ho j hj) _
  rw [e, List.range_eq_range']
  have := setAll_range S' S r 0 [] (by omega) rfl
  rw [hS] at this
  simpa using this
/-- a new list of pure things is handed back -/
theorem callM_pre_l {j : Nat} (hS : S.length = k) (hr : reach (S ++ r) (adsDs ds) = List.range k) (hc : ∀ o ∈ S, ∀ j ∈ adsO o, j < k)
    (h : run ds S = .ok (.adr j) (S' ++ junk)) (hS' : S'.length = k) (hc' : ∀ o ∈ S', ∀ j ∈ adsO o, j < k) (hj : k ≤ j) (hx : (S' ++ junk)[j]? = some (.lst xs)) (hp : pus xs = true) :
    callM run ds (S ++ r) = .ok (.adr (S' ++ r).length) (S' ++ r ++ [.lst xs]) := by
  have tk : List.take k (S' ++ junk) = S' := by rw [← hS', List.take_left]
  rw [call_pre hS hr hc, h]
  show finOk (S ++ r) (List.range k) (freshF (List.range k).length (S' ++ junk) [j]) (.adr j) (S' ++ junk) = _
  have fr : freshF (List.range k).length (S' ++ junk) [j] = [j] := by
    rw [List.length_range]
    have e : ([j] ++ (List.take k (S' ++ junk)).flatMap adsO).filter (k ≤ ·) = [j] := by
      rw [tk]
      have : (S'.flatMap adsO).filter (fun x => decide (k ≤ x)) = [] := by
        refine List.filter_eq_nil_iff.mpr fun i hi => ?_
        obtain ⟨o, ho, hi⟩ := List.mem_flatMap.mp hi
        have := hc' o ho i hi
        simp; omega
      rw [List.filter_append, this]
      simp [hj]
    unfold freshF
    rw [e]
    have z : levF k (S' ++ junk) [j] = [] := by simp [levF, levS, hx, adsO, adss_pure xs hp]
    unfold reachF
    simp only [z, show levF k (S' ++ junk) [] = [] from rfl, List.append_nil]
  rw [fr]
  have hlt : j < (S' ++ junk).length := (List.getElem?_eq_some_iff.mp hx).1
  unfold finOk
  rw [if_pos]
  · have e : S'.map (renO (backF (S ++ r).length (List.range k) [j])) = S' := by
      conv => rhs; rw [← List.map_id S']
      exact List.map_congr_left fun o ho => reno_id o fun i hi => back_range _ (hc' o ho i hi) _
    have st := setAll_range S' S r 0 [] (by omega) rfl
    rw [hS] at st
    have e2 : renD (backF (S ++ r).length (List.range k) [j]) (.adr j) = .adr (S' ++ r).length := by
      simp only [renD, backF, List.length_range]
      rw [if_neg (by omega)]
      simp; omega
    rw [e2]
    simp only [backS, List.length_range, tk, e, List.map_cons, List.map_nil, List.getD_eq_getElem?_getD, hx, Option.getD_some, renO, rens_pure _ xs hp]
    rw [List.range_eq_range']
    congr 1
    rw [show S ++ r = [] ++ S ++ r by simp, st]
    simp
  · have hx' : (S' ++ junk)[j] = .lst xs := (List.getElem?_eq_some_iff.mp hx).2
    simp only [List.length_range, okS, Bool.and_eq_true, decide_eq_true_eq, okD, List.all_eq_true, Bool.or_eq_true, tk]
    refine ⟨by simp; omega, ⟨⟨⟨by simp, by simpa using hlt⟩, by simp [adsD]⟩, fun o ho i hi => .inl (hc' o ho i hi)⟩, ?_⟩
    intro i hi
    simp at hi
    subst hi
    rw [List.getD_eq_getElem?_getD, hx]
    simp [adsO, adss_pure xs hp]
end
/-! ### one list among the arguments -/
section
variable {run : List D → Sto → Res D} {ds xs ys : List D} {l junk : Sto} {d : D} {n : Nat}
theorem call_one (ha : adsDs ds = [n]) (hl : l[n]? = some (.lst xs)) (hx : pus xs = true) : callM run ds l = finAt l [n] (run (renDs (fun _ => 0) ds) [.lst xs]) := by
  have rc : reach l (adsDs ds) = [n] := by
    rw [ha]
    have z : levS l [n] = [] := by simp [levS, hl, adsO, adss_pure xs hx]
    unfold reach
    simp only [z, show levS l [] = [] from rfl, List.append_nil]
  have hn : n < l.length := (List.getElem?_eq_some_iff.mp hl).1
  have hg : l.getD n (.lst []) = .lst xs := by simp [List.getD_eq_getElem?_getD, hl]
  rw [callM_at rc]
  unfold callAt
  rw [if_pos (by simp only [okIs, List.all_cons, List.all_nil, hg, adsO, adss_pure xs hx, okD]; simp [hn])]
  have e1 : renDs [n].idxOf ds = renDs (fun _ => 0) ds := by
    have key : ∀ (f g : Nat → Nat), (∀ (d : D), (∀ j ∈ adsD d, f j = g j) → renD f d = renD g d) ∧ (∀ (ds : List D), (∀ j ∈ adsDs ds, f j = g j) → renDs f ds = renDs g ds) := by
      intro f g
      have h1 : ∀ (d : D), (∀ j ∈ adsD d, f j = g j) → renD f d = renD g d := by
        intro d
        refine D.rec (motive_1 := fun d => (∀ j ∈ adsD d, f j = g j) → renD f d = renD g d) (motive_2 := fun ds => (∀ j ∈ adsDs ds, f j = g j) → renDs f ds = renDs g ds) ?_ ?_ ?_ ?_ ?_ ?_ ?_ ?_ ?_ ?_ d
        · intro _; rfl
        · intro _ _; rfl
        · intro _ _; rfl
        · intro _ _; rfl
        · intro _ _; rfl
        · intro n h; simp only [renD]; rw [h n (by simp [adsD])]
        · intro ds ih h; simp only [renD]; rw [ih (by simpa [adsD] using h)]
        · intro _ _; rfl
        · intro _; rfl
        · intro d ds ih1 ih2 h
          simp only [adsDs, List.mem_append] at h
          simp only [renDs]
          rw [ih1 fun j hj => h j (.inl hj), ih2 fun j hj => h j (.inr hj)]
      refine ⟨h1, fun ds => ?_⟩
      induction ds with
      | nil => intro _; rfl
      | cons d ds ih =>
        intro h
        simp only [adsDs, List.mem_append] at h
        simp only [renDs]
        rw [h1 d fun j hj => h j (.inl hj), ih fun j hj => h j (.inr hj)]
    refine (key _ _).2 ds fun j hj => ?_
    rw [ha] at hj
    simp at hj
    subst hj
    simp
  have e2 : smallS l [n] = [.lst xs] := by simp only [smallS, List.map_cons, List.map_nil, hg, renO, rens_pure _ xs hx]
  rw [e1, e2]
theorem callM_one (ha : adsDs ds = [n]) (hl : l[n]? = some (.lst xs)) (hx : pus xs = true) (h : run (renDs (fun _ => 0) ds) [.lst xs] = .ok d (.lst ys :: junk)) (hy : pus ys = true) (hd : pu d = true) : callM run ds l = .ok d (l.set n (.lst ys)) := by
  rw [call_one ha hl hx, h, finOk_nil (by simp) (by simp [adsO, adss_pure ys hy]) (by simp [ads_pure d hd])]
  rw [ren_pure _ d hd]
  simp [setAll, renO, rens_pure _ ys hy]
theorem set_self {α : Type} : ∀ (l : List α) (n : Nat) (x : α), l[n]? = some x → l.set n x = l
  | [], n, x, h => by simp at h
  | a :: l, 0, x, h => by simp at h; simp [h]
  | a :: l, n + 1, x, h => by simp only [List.set_cons_succ]; rw [set_self l n x (by simpa using h)]
theorem callM_read (ha : adsDs ds = [n]) (hl : l[n]? = some (.lst xs)) (hx : pus xs = true) (h : run (renDs (fun _ => 0) ds) [.lst xs] = .ok d (.lst xs :: junk)) (hd : pu d = true) : callM run ds l = .ok d l := by
  rw [callM_one ha hl hx h hx hd, set_self l n _ hl]
theorem callM_readx {C : Addr} {fs : List (Str × D)} (ha : adsDs ds = [n]) (hl : l[n]? = some (.lst xs)) (hx : pus xs = true) (h : run (renDs (fun _ => 0) ds) [.lst xs] = .exc C fs (.lst xs :: junk)) (hd : pus (fs.map (·.2)) = true) : callM run ds l = .exc C fs l := by
  rw [call_one ha hl hx, h, finEx_nil (by simp) (by simp [adsO, adss_pure xs hx]) (by simp [adss_pure _ hd])]
  rw [map_ren_pure _ fs hd]
  simp [setAll, renO, rens_pure _ xs hx, set_self l n _ hl]
end
section
variable {X : Cx} {E : XK} {a b c : Expr} {pos : Pos}
theorem as_par3 {i j k : Nat} {x y z : Str} {px py pz pt : Pos} {kt k2 pt2} {fs : DEs} (hc : X.calm = true) (hN : X.N.Nodup) (hi : X.N[i]? = some x) (hj : X.N[j]? = some y) (hk : X.N[k]? = some z) (hij : i ≠ j) (hik : i ≠ k) (hjk : j ≠ k)
    (hx : X.env.scope.names.lookup x = some .local) (hy : X.env.scope.names.lookup y = some .local) (hz : X.env.scope.names.lookup z = some .local) (ha : AA X E [a, b, c] fs)
    (hw : swappedStores [.Tuple [.Name x px, .Name y py, .Name z pz] kt pt] (.Tuple [a, b, c] k2 pt2) X.env = pure (some [x, y, z]))
    (hs : swapsWithSole [.Tuple [.Name x px, .Name y py, .Name z pz] kt pt] (.Tuple [a, b, c] k2 pt2) pos.line X.env = pure false := by rfl) :
    AS X E (.Assign [.Tuple [.Name x px, .Name y py, .Name z pz] kt pt] (.Tuple [a, b, c] k2 pt2) pos) (sPar3 i j k fs) := ⟨PS.imp (ps_par3 hc hN hi hj hk hij hik hjk hx hy hz ha.pa hw hs) fun D σ H h => par3_of h⟩
end
/-! ### a power of a greater number -/
def powW (i j : Int) : Bool := decide (0 ≤ j) && decide (j ≤ 1000) && decide (i.natAbs.log2 < 9000)
section
variable {X : Cx} {E : XK} {a b : Expr} {fa fb : DE} {pos : Pos}
theorem bits_W {i j : Int} (h0 : 0 ≤ j) (h1 : j ≤ 1000) (h2 : i.natAbs.log2 < 9000) : ((Builtin.Int.intBits i : Nat) : Int) * j ≤ (bitsLine : Int) := by
  have e : Builtin.Int.intBits i ≤ 9000 := by
    unfold Builtin.Int.intBits
    split <;> omega
  have e2 : ((Builtin.Int.intBits i : Nat) : Int) ≤ 9000 := by omega
  have : ((Builtin.Int.intBits i : Nat) : Int) * j ≤ 9000 * 1000 := Int.mul_le_mul e2 h1 h0 (by decide)
  have hb : (bitsLine : Int) = 134217728 := by decide
  omega
theorem op_powW : OpR X (binaryOp .Pow) (rI (fun i j => powW i j = true) fun i j => .int (i ^ j.toNat)) := opI fun i j _ _ _ _ _ hc q => by
  unfold powW at hc
  simp only [Bool.and_eq_true, decide_eq_true_eq] at hc
  exact pow_int hc.1.1 (bits_W hc.1.1 hc.1.2 hc.2) q
theorem ae_powW (ha : AE X E a fa) (hb : AE X E b fb) : AE X E (.BinOp a .Pow b pos) (dOp (hInt powW fun i j => i ^ j.toNat) fa fb) := ae_op2 (pe_op op_powW ha.pe hb.pe) (hs_int fun _ _ h => h)
end
end Zb

set_option Elab.async false
set_option linter.all false
set_option maxRecDepth 100000
namespace Zb
open PySem L2 PySem.Spec PyProof.Rows
/-! ### loops by invariants -/
/-- what a turn leaves: on, or over -/
def Out.on (r : Out) (P : Sl → Sto → Prop) : Prop := match r with
  | .nx g l => P g l
  | .ct g l => P g l
  | _ => False
theorem for_inv {it : ItD} {gt : D → Sto → Sl → Option Sl} {b : DS} (I : Nat → Sl → Sto → Prop) (hok : ∀ i g l, I i g l → it.ok l) : ∀ (ds : List D) (i : Nat) (g : Sl) (l : Sto), I i g l →
    (∀ j d g l, ds[j]? = some d → I (i + j) g l → ∃ g1, gt d l g = some g1 ∧ (b g1 l).on (I (i + j + 1))) → ∃ g' l', sForL it gt b ds g l = .nx g' l' ∧ I (i + ds.length) g' l'
  | [], i, g, l, h, _ => ⟨g, l, for_nil gt b g l (hok i g l h), h⟩
  | d :: ds, i, g, l, h, q => by
    obtain ⟨g1, e1, e2⟩ := q 0 d g l rfl h
    have step : ∀ g2 l2, I (i + 1) g2 l2 → ∃ g' l', sForL it gt b ds g2 l2 = .nx g' l' ∧ I (i + (d :: ds).length) g' l' := fun g2 l2 h2 => by
      obtain ⟨g', l', e3, e4⟩ := for_inv I hok ds (i + 1) g2 l2 h2 fun j d' g l hj hI => by
        have := q (j + 1) d' g l (by simpa using hj) (by rw [show i + (j + 1) = i + 1 + j by omega]; exact hI)
        rw [show i + (j + 1) + 1 = i + 1 + j + 1 by omega] at this
        exact this
      exact ⟨g', l', e3, by rw [List.length_cons, show i + (ds.length + 1) = i + 1 + ds.length by omega]; exact e4⟩
    rw [for_cons gt b d ds g l (hok i g l h), e1]
    simp only
    cases z : b g1 l with
    | nx g2 l2 => rw [z] at e2; exact step g2 l2 e2
    | ct g2 l2 => rw [z] at e2; exact step g2 l2 e2
    | bad => rw [z] at e2; exact e2.elim
    | rt d l2 => rw [z] at e2; exact e2.elim
    | bk g2 l2 => rw [z] at e2; exact e2.elim
    | ex C fs l2 => rw [z] at e2; exact e2.elim
/-- a loop whose turns all leave the slots' form and the store: from the first on -/
theorem for_all {it : ItD} {gt : D → Sto → Sl → Option Sl} {b : DS} {l : Sto} (G : Sl → Prop) (hok : it.ok l) (ds : List D) (g : Sl) (h : G g)
    (q : ∀ d g, d ∈ ds → G g → ∃ g1, gt d l g = some g1 ∧ ∃ g2, (b g1 l = .nx g2 l ∨ b g1 l = .ct g2 l) ∧ G g2) : ∃ g', sForL it gt b ds g l = .nx g' l ∧ G g' := by
  obtain ⟨g', l', e1, e2, e3⟩ := for_inv (it := it) (gt := gt) (b := b) (fun _ g l' => l' = l ∧ G g) (fun _ _ _ z => by rw [z.1]; exact hok) ds 0 g l ⟨rfl, h⟩ fun j d g l' hj hI => by
    obtain ⟨rfl, hG⟩ := hI
    obtain ⟨g1, a1, g2, a2, a3⟩ := q d g (List.mem_of_getElem? hj) hG
    refine ⟨g1, a1, ?_⟩
    rcases a2 with a2 | a2 <;> rw [a2] <;> exact ⟨rfl, a3⟩
  subst e2
  exact ⟨g', e1, e3⟩
theorem rng_get {lo : Int} {n j : Nat} {d : D} (h : (rng lo n)[j]? = some d) : j < n ∧ d = .int (lo + (j : Nat)) := by
  unfold rng at h
  rw [List.getElem?_map] at h
  by_cases hj : j < n
  · rw [List.getElem?_range hj] at h
    simp at h
    exact ⟨hj, h.symm⟩
  · rw [List.getElem?_eq_none (by simp; omega)] at h
    cases h
theorem rngC_get {lo c : Int} {n j : Nat} {d : D} (h : (rngC lo c n)[j]? = some d) : j < n ∧ d = .int (lo + (j : Nat) * c) := by
  unfold rngC at h
  rw [List.getElem?_map] at h
  by_cases hj : j < n
  · rw [List.getElem?_range hj] at h
    simp at h
    exact ⟨hj, h.symm⟩
  · rw [List.getElem?_eq_none (by simp; omega)] at h
    cases h
theorem rng_length (lo : Int) (n : Nat) : (rng lo n).length = n := by simp [rng]
theorem rngC_length (lo c : Int) (n : Nat) : (rngC lo c n).length = n := by simp [rngC]
/-- while, by a measure -/
theorem while_inv {c : DB} {b : DS} (I : Nat → Sl → Sto → Prop) (P : Sl → Sto → Prop)
    (step : ∀ n g l, I n g l → (c g l = .ok false l ∧ P g l) ∨ (c g l = .ok true l ∧ ∃ g' l' m, b g l = .nx g' l' ∧ m < n ∧ I m g' l')) : ∀ (f n : Nat) (g : Sl) (l : Sto), n < f → I n g l → ∃ g' l', sWhile f c b g l = .nx g' l' ∧ P g' l'
  | 0, n, g, l, h, _ => by omega
  | f + 1, n, g, l, h, hI => by
    rcases step n g l hI with ⟨e, p⟩ | ⟨e, g', l', m, e2, hm, hI2⟩
    · exact ⟨g, l, by simp [sWhile, e], p⟩
    · obtain ⟨g'', l'', e3, p⟩ := while_inv I P step f m g' l' (by omega) hI2
      exact ⟨g'', l'', by simp only [sWhile, e, out_ok, if_true, e2, e3], p⟩
/-- a comprehension whose element leaves the store as it is -/
theorem lcL_fm {it : ItD} {gt : D → Sto → Sl → Option Sl} {ct : DB} {fe : DE} {gw : Sl} {l : Sto} (hok : it.ok l) (p : D → Bool) (h : D → D) : ∀ (ds acc : List D),
    (∀ d ∈ ds, ∃ g1, gt d l gw = some g1 ∧ ct g1 l = .ok (p d) l ∧ (p d = true → fe g1 l = .ok (h d) l)) → acc.length + ds.length ≤ 16777216 → lcL it gt ct fe gw ds l acc = .ok (acc ++ (ds.filter p).map h) l
  | [], acc, _, _ => by simp [lcL, hok]
  | d :: ds, acc, q, hl => by
    obtain ⟨g1, h1, h2, h3⟩ := q d (by simp)
    simp only [List.length_cons] at hl
    cases hp : p d with
    | true =>
      rw [hp] at h2
      simp only [lcL, hok, if_true, h1, h2, h3 hp, nox_ok, bind_ok]
      rw [if_pos (by simp; omega), lcL_fm hok p h ds _ (fun e he => q e (by simp [he])) (by simp; omega)]
      simp [hp]
    | false =>
      rw [hp] at h2
      simp only [lcL, hok, if_true, h1, h2, nox_ok, bind_ok, Bool.false_eq_true, if_false]
      rw [lcL_fm hok p h ds _ (fun e he => q e (by simp [he])) (by omega)]
      simp [hp]
theorem lcL_fmap {α : Type} {it : ItD} {gt : D → Sto → Sl → Option Sl} {ct : DB} {fe : DE} {gw : Sl} {l : Sto} (hok : it.ok l) (e h : α → D) (p : α → Bool) : ∀ (xs : List α) (acc : List D),
    (∀ x ∈ xs, ∃ g1, gt (e x) l gw = some g1 ∧ ct g1 l = .ok (p x) l ∧ (p x = true → fe g1 l = .ok (h x) l)) → acc.length + xs.length ≤ 16777216 → lcL it gt ct fe gw (xs.map e) l acc = .ok (acc ++ (xs.filter p).map h) l
  | [], acc, _, _ => by simp [lcL, hok]
  | x :: xs, acc, q, hl => by
    obtain ⟨g1, h1, h2, h3⟩ := q x (by simp)
    simp only [List.length_cons] at hl
    cases hp : p x with
    | true =>
      rw [hp] at h2
      simp only [List.map_cons, lcL, hok, if_true, h1, h2, h3 hp, nox_ok, bind_ok]
      rw [if_pos (by simp; omega), lcL_fmap hok e h p xs _ (fun y hy => q y (by simp [hy])) (by simp; omega)]
      simp [hp]
    | false =>
      rw [hp] at h2
      simp only [List.map_cons, lcL, hok, if_true, h1, h2, nox_ok, bind_ok, Bool.false_eq_true, if_false]
      rw [lcL_fmap hok e h p xs _ (fun y hy => q y (by simp [hy])) (by omega)]
      simp [hp]
theorem rng_eq (n : Nat) : rng 0 n = (List.range n).map fun i => D.int (i : Nat) := by
  unfold rng
  exact List.map_congr_left fun i _ => by simp
theorem enumF_eq (ds : List D) (n : Nat) : enumF n ds = (List.range ds.length).map fun i => D.tup [.int ((n + i : Nat) : Int), ds.getD i .non] := by
  apply List.ext_getElem?
  intro i
  rw [enumF_get, List.getElem?_map]
  by_cases h : i < ds.length
  · rw [List.getElem?_range h, List.getElem?_eq_getElem h]
    simp [List.getD_eq_getElem?_getD, h]
  · rw [List.getElem?_eq_none (by omega), List.getElem?_eq_none (by simp; omega)]
    rfl
end Zb

set_option Elab.async false
set_option linter.all false
set_option maxRecDepth 100000
namespace Nm
/-! ### ways to choose -/
def C : Nat → Nat → Nat
  | _, 0 => 1
  | 0, _ + 1 => 0
  | n + 1, k + 1 => C n k + C n (k + 1)
@[simp] theorem C_0 (n : Nat) : C n 0 = 1 := by cases n <;> rfl
@[simp] theorem C_s (n k : Nat) : C (n + 1) (k + 1) = C n k + C n (k + 1) := rfl
theorem C_lt : ∀ (n k : Nat), n < k → C n k = 0
  | 0, k + 1, _ => rfl
  | n + 1, k + 1, h => by rw [C_s, C_lt n k (by omega), C_lt n (k + 1) (by omega)]
@[simp] theorem C_self : ∀ n : Nat, C n n = 1
  | 0 => rfl
  | n + 1 => by rw [C_s, C_self n, C_lt n (n + 1) (by omega)]
theorem C_pos : ∀ (n k : Nat), k ≤ n → 0 < C n k
  | _, 0, _ => by simp
  | n + 1, k + 1, h => by rw [C_s]; have := C_pos n k (by omega); omega
theorem C_le : ∀ (n k : Nat), C n k ≤ 2 ^ n
  | 0, 0 => by simp
  | 0, k + 1 => by simp [C]
  | n + 1, 0 => by simp; exact Nat.one_le_two_pow
  | n + 1, k + 1 => by
    rw [C_s, Nat.pow_succ]
    have h1 := C_le n k
    have h2 := C_le n (k + 1)
    omega
theorem C_mul : ∀ (n k : Nat), C n (k + 1) * (k + 1) = C n k * (n - k)
  | 0, k => by simp [C]
  | n + 1, 0 => by
    have := C_mul n 0
    simp at this
    simp; omega
  | n + 1, k + 1 => by
    have h1 := C_mul n k
    have h2 := C_mul n (k + 1)
    by_cases hk : k + 1 ≤ n
    · obtain ⟨m, rfl⟩ : ∃ m, n = k + 1 + m := ⟨n - (k + 1), by omega⟩
      have e1 : k + 1 + m - k = m + 1 := by omega
      have e2 : k + 1 + m - (k + 1) = m := by omega
      have e3 : k + 1 + m + 1 - (k + 1) = m + 1 := by omega
      rw [e1] at h1
      rw [e2] at h2
      rw [C_s, C_s, e3, Nat.add_mul, Nat.add_mul, h2, ← h1]
      generalize C (k + 1 + m) (k + 1) = x
      rw [← Nat.mul_add, ← Nat.mul_add]
      congr 1
      omega
    · by_cases hk2 : k = n
      · subst hk2
        rw [C_lt (k + 1) (k + 1 + 1) (by omega)]
        simp
      · rw [C_lt _ _ (by omega), C_lt (n + 1) (k + 1) (by omega)]; simp
theorem C_up (n k : Nat) (h : k ≤ n) : C (n + 1) k * (n + 1 - k) = C n k * (n + 1) := by
  cases k with
  | zero => simp
  | succ k =>
    have h1 := C_mul n k
    obtain ⟨m, rfl⟩ : ∃ m, n = k + 1 + m := ⟨n - (k + 1), by omega⟩
    have e1 : k + 1 + m - k = m + 1 := by omega
    have e3 : k + 1 + m + 1 - (k + 1) = m + 1 := by omega
    rw [e1] at h1
    rw [C_s, e3, Nat.add_mul, ← h1]
    rw [← Nat.mul_add]
    congr 1
theorem C_symm : ∀ (n k : Nat), k ≤ n → C n (n - k) = C n k
  | n, 0, _ => by simp
  | n + 1, k + 1, h => by
    by_cases e : k = n
    · subst e; simp; rw [C_lt k (k + 1) (by omega)]
    · obtain ⟨m, rfl⟩ : ∃ m, n = k + 1 + m := ⟨n - (k + 1), by omega⟩
      have h1 := C_symm (k + 1 + m) k (by omega)
      have h2 := C_symm (k + 1 + m) (k + 1) (by omega)
      have e1 : k + 1 + m - k = m + 1 := by omega
      have e2 : k + 1 + m - (k + 1) = m := by omega
      have e3 : k + 1 + m + 1 - (k + 1) = m + 1 := by omega
      rw [e1] at h1
      rw [e2] at h2
      rw [e3, C_s, C_s, h1, h2]
      omega
/-! one step of the programs' sums -/
theorem C_next (n k : Nat) : ((C n k : Int) * ((n : Int) - k)) / (k + 1) = C n (k + 1) := by
  by_cases h : k ≤ n
  · have := C_mul n k
    have e : (C n k : Int) * ((n : Int) - k) = (C n (k + 1) : Int) * ((k : Int) + 1) := by
      have e1 : ((n : Int) - k) = ((n - k : Nat) : Int) := by omega
      rw [e1]
      have e2 : ((k : Int) + 1) = ((k + 1 : Nat) : Int) := by omega
      rw [e2, ← Int.natCast_mul, ← Int.natCast_mul, this]
    rw [e]
    exact Int.mul_ediv_cancel _ (by omega)
  · rw [C_lt n k (by omega), C_lt n (k + 1) (by omega)]
    simp
theorem C_row (n k : Nat) (h : k ≤ n) : ((C n k : Int) * ((n : Int) + 1)) / ((n : Int) + 1 - k) = C (n + 1) k := by
  have := C_up n k h
  have e : (C n k : Int) * ((n : Int) + 1) = (C (n + 1) k : Int) * ((n : Int) + 1 - k) := by
    have e1 : ((n : Int) + 1 - k) = ((n + 1 - k : Nat) : Int) := by omega
    rw [e1]
    have e2 : ((n : Int) + 1) = ((n + 1 : Nat) : Int) := by omega
    rw [e2, ← Int.natCast_mul, ← Int.natCast_mul, this]
  rw [e]
  exact Int.mul_ediv_cancel _ (by omega)
/-- downward: from C(n, k) to C(n - 1, k - 1) and C(n - 1, k) -/
theorem C_down1 (n k : Nat) (h1 : 0 < k) (h2 : 0 < n) : ((C n k : Int) * k) / n = C (n - 1) (k - 1) := by
  obtain ⟨k, rfl⟩ : ∃ j, k = j + 1 := ⟨k - 1, by omega⟩
  obtain ⟨n, rfl⟩ : ∃ j, n = j + 1 := ⟨n - 1, by omega⟩
  have e : C (n + 1) (k + 1) * (k + 1) = C n k * (n + 1) := by
    by_cases h : k ≤ n
    · rw [C_mul (n + 1) k]
      have := C_up n k h
      rw [this]
    · rw [C_lt n k (by omega), C_lt (n + 1) (k + 1) (by omega)]; simp
  simp only [Nat.add_sub_cancel]
  rw [← Int.natCast_mul, e, Int.natCast_mul]
  exact Int.mul_ediv_cancel _ (by omega)
theorem C_down2 (n k : Nat) (h1 : k ≤ n) (h2 : 0 < n) : ((C n k : Int) * ((n : Int) - k)) / n = C (n - 1) k := by
  obtain ⟨n, rfl⟩ : ∃ j, n = j + 1 := ⟨n - 1, by omega⟩
  simp only [Nat.add_sub_cancel]
  by_cases h : k ≤ n
  · have := C_up n k h
    have e1 : (((n + 1 : Nat) : Int) - k) = ((n + 1 - k : Nat) : Int) := by omega
    rw [e1, ← Int.natCast_mul, this, Int.natCast_mul]
    exact Int.mul_ediv_cancel _ (by omega)
  · have : k = n + 1 := by omega
    subst this
    rw [C_lt n (n + 1) (by omega)]
    simp
/-! ### how great a number is -/
def Bd (i : Int) (a : Nat) : Prop := i.natAbs < 2 ^ a
theorem Bd.mono {i : Int} {a b : Nat} (h : Bd i a) (l : a ≤ b) : Bd i b := Nat.lt_of_lt_of_le h (Nat.pow_le_pow_right (by decide) l)
theorem Bd.mul {i j : Int} {a b : Nat} (h : Bd i a) (k : Bd j b) : Bd (i * j) (a + b) := by
  unfold Bd at *
  rw [Int.natAbs_mul, Nat.pow_add]
  exact Nat.lt_of_le_of_lt (Nat.mul_le_mul_left _ (Nat.le_of_lt k)) (Nat.mul_lt_mul_of_pos_right h (Nat.pow_pos (by decide)))
theorem Bd.nat {n a : Nat} (h : n < 2 ^ a) : Bd (n : Int) a := by unfold Bd; rw [Int.natAbs_natCast]; exact h
theorem Bd.sub {i j : Int} {a : Nat} (h : Bd i a) (k : Bd j a) : Bd (i - j) (a + 1) := by
  unfold Bd at *
  rw [Nat.pow_succ]
  omega
theorem Bd.add {i j : Int} {a : Nat} (h : Bd i a) (k : Bd j a) : Bd (i + j) (a + 1) := by
  unfold Bd at *
  rw [Nat.pow_succ]
  omega
theorem log2_of {i : Int} {a : Nat} (h : Bd i a) : i.natAbs.log2 ≤ a := by
  unfold Bd at h
  by_cases h0 : i.natAbs = 0
  · rw [h0]; simp
  · exact Nat.le_of_lt ((Nat.log2_lt h0).mpr h)
theorem Bd.mulOk {i j : Int} {a b : Nat} (h : Bd i a) (k : Bd j b) (l : a + b < 1000000) : Zb.mulOk i j = true := by
  unfold Zb.mulOk
  rw [decide_eq_true_eq]
  have := log2_of h
  have := log2_of k
  omega
theorem Bd.divOk {j : Int} {a : Nat} (h0 : 0 < j) (h : Bd j a) (l : a < 9000) : Zb.divOk j = true := by
  unfold Zb.divOk
  rw [Bool.and_eq_true, decide_eq_true_eq, decide_eq_true_eq]
  have := log2_of h
  exact ⟨h0, by omega⟩
theorem bdC (n k : Nat) : Bd (C n k : Int) (n + 1) := Bd.nat (Nat.lt_of_le_of_lt (C_le n k) (Nat.pow_lt_pow_right (by decide) (by omega)))
theorem bd_small {i : Int} (h : i.natAbs < 1048576) : Bd i 20 := by unfold Bd; simpa using h
theorem Bd.pow {b : Nat} {a : Nat} (h : b < 2 ^ a) : ∀ e : Nat, Bd ((b : Int) ^ e) (a * e + 1)
  | 0 => by simp [Bd]
  | e + 1 => by
    rw [Int.pow_succ]
    have := (Bd.pow h e).mul (Bd.nat h)
    exact this.mono (by rw [Nat.mul_succ]; omega)
end Nm

set_option Elab.async false
set_option linter.all false
set_option maxRecDepth 100000
namespace Zb
open PySem L2 PySem.Spec PyProof.Rows
/-! ### dicts that are written: keys ints and texts, or tuples of these -/
def keysD : List D → Option (List Key)
  | [] => some []
  | d :: ds => match keyD d, keysD ds with
    | some k, some ks => some (k :: ks)
    | _, _ => none
section
variable {κ : Type} [DecidableEq κ]
def vaD (kvs : List (κ × D)) (k : κ) : Option D := (kvs.find? fun kv => decide (kv.1 = k)).map (·.2)
def putD (kvs : List (κ × D)) (k : κ) (d : D) : List (κ × D) :=
  if kvs.any fun kv => decide (kv.1 = k) then kvs.map fun kv => if kv.1 = k then (kv.1, d) else kv else kvs ++ [(k, d)]
end
section
variable {K : PySem.W.Frag} {ρ : List Addr} {l : Sto} {H : Hp} {E : XK}
theorem keys_rel : ∀ {ds : List D} {ks : List Key} {vs : List V}, keysD ds = some ks → Rws K ρ H ds vs → vs = ks.map kV
  | [], ks, vs, h, r => by
    cases h
    simpa [Rws] using r
  | d :: ds, ks, vs, h, r => by
    simp only [keysD] at h
    cases q1 : keyD d with
    | none => rw [q1] at h; cases h
    | some k =>
      cases q2 : keysD ds with
      | none => rw [q1, q2] at h; cases h
      | some ks' =>
        rw [q1, q2] at h
        cases h
        simp only [Rws] at r
        obtain ⟨v, u, rfl, r1, r2⟩ := r
        rw [key_rel q1 r1, keys_rel q2 r2]
        rfl
section
variable {κ : Type} [DecidableEq κ]
theorem va_rel : ∀ {kvs : List (κ × D)} {kv : List (κ × V)} (k : κ), kv.map (·.1) = kvs.map (·.1) → Rws K ρ H (kvs.map (·.2)) (kv.map (·.2)) →
    (vaD kvs k = none → valV kv k = none) ∧ ∀ d, vaD kvs k = some d → ∃ v, valV kv k = some v ∧ Rw K ρ H d v
  | [], [], k, _, _ => ⟨fun _ => rfl, fun d h => by cases h⟩
  | [], _ :: _, k, h, _ => by simp at h
  | _ :: _, [], k, h, _ => by simp at h
  | (k1, d1) :: kvs, (k2, v2) :: kv, k, h, r => by
    simp only [List.map_cons, List.cons.injEq] at h
    obtain ⟨e, h⟩ := h
    subst e
    simp only [List.map_cons, Rws] at r
    obtain ⟨v, u, ev, r1, r2⟩ := r
    simp only [List.cons.injEq] at ev
    obtain ⟨rfl, rfl⟩ := ev
    have ih := va_rel (kvs := kvs) (kv := kv) k h r2
    unfold vaD valV at ih ⊢
    by_cases q : k2 = k
    · subst q
      simp only [List.find?_cons, decide_true, Option.map_some]
      exact ⟨(fun z => by cases z), (fun d z => by cases z; exact ⟨_, rfl, r1⟩)⟩
    · simp only [List.find?_cons, decide_eq_false q]
      exact ih
theorem any_rel (k : κ) : ∀ {kvs : List (κ × D)} {kv : List (κ × V)}, kv.map (·.1) = kvs.map (·.1) → (kv.any fun p => decide (p.1 = k)) = (kvs.any fun p => decide (p.1 = k))
  | [], [], _ => rfl
  | [], _ :: _, h => by simp at h
  | _ :: _, [], h => by simp at h
  | a :: kvs, b :: kv, h => by
    simp only [List.map_cons, List.cons.injEq] at h
    simp only [List.any_cons, h.1, any_rel k h.2]
theorem repl_rel (k : κ) {d : D} {v : V} (rv : Rw K ρ H d v) : ∀ {kvs : List (κ × D)} {kv : List (κ × V)}, kv.map (·.1) = kvs.map (·.1) → Rws K ρ H (kvs.map (·.2)) (kv.map (·.2)) →
    (kv.map fun p => if p.1 = k then (p.1, v) else p).map (·.1) = (kvs.map fun p => if p.1 = k then (p.1, d) else p).map (·.1) ∧ Rws K ρ H ((kvs.map fun p => if p.1 = k then (p.1, d) else p).map (·.2)) ((kv.map fun p => if p.1 = k then (p.1, v) else p).map (·.2))
  | [], [], _, _ => ⟨rfl, Rws.nil⟩
  | [], _ :: _, h, _ => by simp at h
  | _ :: _, [], h, _ => by simp at h
  | (k1, d1) :: kvs, (k2, v2) :: kv, h, r => by
    simp only [List.map_cons, List.cons.injEq] at h
    obtain ⟨e, h⟩ := h
    subst e
    simp only [List.map_cons, Rws] at r
    obtain ⟨v', u, ev, r1, r2⟩ := r
    simp only [List.cons.injEq] at ev
    obtain ⟨rfl, rfl⟩ := ev
    obtain ⟨i1, i2⟩ := repl_rel k rv h r2
    simp only [List.map_cons]
    by_cases q : k2 = k
    · rw [if_pos q, if_pos q]
      exact ⟨by rw [i1], Rws.cons rv i2⟩
    · rw [if_neg q, if_neg q]
      exact ⟨by rw [i1], Rws.cons r1 i2⟩
theorem put_rel (k : κ) {d : D} {v : V} (rv : Rw K ρ H d v) {kvs : List (κ × D)} {kv : List (κ × V)} (h : kv.map (·.1) = kvs.map (·.1)) (r : Rws K ρ H (kvs.map (·.2)) (kv.map (·.2))) :
    (putK kv k v).map (·.1) = (putD kvs k d).map (·.1) ∧ Rws K ρ H ((putD kvs k d).map (·.2)) ((putK kv k v).map (·.2)) := by
  unfold putK putD
  rw [any_rel k h]
  by_cases q : (kvs.any fun p => decide (p.1 = k)) = true
  · rw [if_pos q, if_pos q]
    exact repl_rel k rv h r
  · rw [if_neg q, if_neg q]
    rw [List.map_append, List.map_append, List.map_append, List.map_append]
    exact ⟨by rw [h]; rfl, r.app (Rws.one rv)⟩
end
/-- what stands at the key -/
def hDL (x y : D) (l : Sto) : Option (Option D) := match x with
  | .adr n => match l[n]? with
    | some (.dct kvs) => (keyD y).map (vaD kvs)
    | some (.fct kvs) => (keyD y).map (vaD kvs)
    | some (.dtt kvs) => match y with
      | .tup ds => (keysD ds).map (vaD kvs)
      | _ => none
    | some (.ftt kvs) => match y with
      | .tup ds => (keysD ds).map (vaD kvs)
      | _ => none
    | _ => none
  | _ => none
def isDct (x : D) (l : Sto) : Bool := match x with
  | .adr n => match l[n]? with
    | some (.dct _) => true
    | some (.fct _) => true
    | some (.dtt _) => true
    | some (.ftt _) => true
    | _ => false
  | _ => false
theorem isDct_of {x : D} {v : V} (o : Own K ρ l H) (r : Rw K ρ H x v) (h : isDct x l = true) : ∃ a, v = .ref a ∧ IsD H a := by
  unfold isDct at h
  split at h
  · rename_i n
    simp only [Rw] at r
    obtain ⟨a, ea, rfl⟩ := r
    refine ⟨a, rfl, ?_⟩
    split at h
    · rename_i kvs e
      obtain ⟨kv, h1, _⟩ := o.at_ n _ a e ea
      exact .inl ⟨kv, .inl h1⟩
    · rename_i kvs e
      obtain ⟨od, kv, h1, _⟩ := o.at_ n _ a e ea
      exact .inl ⟨kv, .inr ⟨od, h1⟩⟩
    · rename_i kvs e
      obtain ⟨kv, h1, _⟩ := o.at_ n _ a e ea
      exact .inr ⟨kv, .inl h1⟩
    · rename_i kvs e
      obtain ⟨od, kv, h1, _⟩ := o.at_ n _ a e ea
      exact .inr ⟨kv, .inr ⟨od, h1⟩⟩
    · cases h
  · cases h
/-- the same value, or none on both sides -/
def RelD (K : PySem.W.Frag) (ρ : List Addr) (H : Hp) (od : Option D) (ov : Option V) : Prop := (od = none → ov = none) ∧ ∀ d, od = some d → ∃ v, ov = some v ∧ Rw K ρ H d v
theorem dl_of {x y : D} {v u : V} {od : Option D} (o : Own K ρ l H) (rx : Rw K ρ H x v) (ry : Rw K ρ H y u) (h : hDL x y l = some od) : ∃ a ov, v = .ref a ∧ DGet H a u ov ∧ RelD K ρ H od ov := by
  unfold hDL at h
  split at h
  · rename_i n
    simp only [Rw] at rx
    obtain ⟨a, ea, rfl⟩ := rx
    split at h
    · rename_i kvs e
      obtain ⟨kv, h1, h2, h3⟩ := o.at_ n _ a e ea
      cases q : keyD y with
      | none => rw [q] at h; cases h
      | some k =>
        rw [q] at h; cases h
        exact ⟨a, _, rfl, .inl ⟨kv, k, .inl h1, key_rel q ry, rfl⟩, va_rel k h2 h3⟩
    · rename_i kvs e
      obtain ⟨ob, kv, h1, h2, h3⟩ := o.at_ n _ a e ea
      cases q : keyD y with
      | none => rw [q] at h; cases h
      | some k =>
        rw [q] at h; cases h
        exact ⟨a, _, rfl, .inl ⟨kv, k, .inr ⟨ob, h1⟩, key_rel q ry, rfl⟩, va_rel k h2 h3⟩
    · rename_i kvs e
      obtain ⟨kv, h1, h2, h3⟩ := o.at_ n _ a e ea
      split at h
      · rename_i ds
        cases q : keysD ds with
        | none => rw [q] at h; cases h
        | some ks =>
          rw [q] at h; cases h
          obtain ⟨b, vs, rfl, hb, rb⟩ := ry.tupH
          rw [keys_rel q rb] at hb
          exact ⟨a, _, rfl, .inr ⟨kv, ks, b, .inl h1, rfl, hb, rfl⟩, va_rel ks h2 h3⟩
      · cases h
    · rename_i kvs e
      obtain ⟨ob, kv, h1, h2, h3⟩ := o.at_ n _ a e ea
      split at h
      · rename_i ds
        cases q : keysD ds with
        | none => rw [q] at h; cases h
        | some ks =>
          rw [q] at h; cases h
          obtain ⟨b, vs, rfl, hb, rb⟩ := ry.tupH
          rw [keys_rel q rb] at hb
          exact ⟨a, _, rfl, .inr ⟨kv, ks, b, .inr ⟨ob, h1⟩, rfl, hb, rfl⟩, va_rel ks h2 h3⟩
      · cases h
    · cases h
  · cases h
/-- d[y] = v -/
def hDP (x y d : D) (l : Sto) : Option Sto := match x with
  | .adr n => match l[n]? with
    | some (.dct kvs) => match keyD y with
      | some k => if small (kvs.length + 1) then some (l.set n (.dct (putD kvs k d))) else none
      | none => none
    | some (.dtt kvs) => match y with
      | .tup ds => match keysD ds with
        | some ks => if small (kvs.length + 1) then some (l.set n (.dtt (putD kvs ks d))) else none
        | none => none
      | _ => none
    | _ => none
  | _ => none
theorem klen {κ : Type} {kvs : List (κ × D)} {kv : List (κ × V)} (h : kv.map (·.1) = kvs.map (·.1)) : kv.length = kvs.length := by
  have := congrArg List.length h
  simpa using this
theorem dpt_of {x y d : D} {v u w : V} {l' : Sto} {Q : Hp → Prop} (o : Own K ρ l H) (rx : Rw K ρ H x v) (ry : Rw K ρ H y u) (rd : Rw K ρ H d w) (h : hDP x y d l = some l')
    (q : ∀ H', Step ρ H ρ H' → Own K ρ l' H' → Q H') : ∃ a H4, v = .ref a ∧ DPut H a u w H4 ∧ Q H4 := by
  unfold hDP at h
  split at h
  · rename_i n
    simp only [Rw] at rx
    obtain ⟨a, ea, rfl⟩ := rx
    split at h
    · rename_i kvs e
      obtain ⟨kv, h1, h2, h3⟩ := o.at_ n _ a e ea
      cases qk : keyD y with
      | none => rw [qk] at h; cases h
      | some k =>
        rw [qk] at h
        simp only at h
        by_cases sm : small (kvs.length + 1) = true
        · rw [if_pos sm] at h
          cases h
          obtain ⟨p1, p2⟩ := put_rel k rd h2 h3
          obtain ⟨o1, s1⟩ := o.setO (u := .dK (putK kv k w)) (ob := .dct (putD kvs k d)) ea e fun m => ⟨_, upd_same, p1, Rws.mono m _ _ p2⟩
          exact ⟨a, _, rfl, .inl ⟨kv, k, h1, key_rel qk ry, by rw [klen h2]; exact small_lt sm, rfl⟩, q _ s1 o1⟩
        · rw [if_neg sm] at h; cases h
    · rename_i kvs e
      obtain ⟨kv, h1, h2, h3⟩ := o.at_ n _ a e ea
      split at h
      · rename_i ds
        cases qk : keysD ds with
        | none => rw [qk] at h; cases h
        | some ks =>
          rw [qk] at h
          simp only at h
          by_cases sm : small (kvs.length + 1) = true
          · rw [if_pos sm] at h
            cases h
            obtain ⟨b, vs, rfl, hb, rb⟩ := ry.tupH
            rw [keys_rel qk rb] at hb
            obtain ⟨p1, p2⟩ := put_rel ks rd h2 h3
            obtain ⟨o1, s1⟩ := o.setO (u := .dT (putK kv ks w)) (ob := .dtt (putD kvs ks d)) ea e fun m => ⟨_, upd_same, p1, Rws.mono m _ _ p2⟩
            exact ⟨a, _, rfl, .inr ⟨kv, ks, b, h1, rfl, hb, by rw [klen h2]; exact small_lt sm, rfl⟩, q _ s1 o1⟩
          · rw [if_neg sm] at h; cases h
      · cases h
    · cases h
  · cases h
end
def hDG (x y : D) (l : Sto) : Res D := match hDL x y l with
  | some (some d) => .ok d l
  | _ => .bad
def dGet2 (f fy fz : DE) : DE := fun g l => (f g l).bind fun x l1 => if isDct x l1 then (fy g l1).bind fun y l2 => (fz g l2).bind fun z l3 => match hDL x y l3 with
  | some od => .ok (od.getD z) l3
  | none => .bad else .bad
def sDSet (fo fi f : DE) : DS := fun g l => (f g l).out fun d l1 => (fo g l1).out fun x l2 => (fi g l2).out fun y l3 => match hDP x y d l3 with
  | some l4 => .nx g l4
  | none => .bad
def dNewK : DE := fun _ l => .ok (.adr l.length) (l ++ [.dct []])
def dNewT : DE := fun _ l => .ok (.adr l.length) (l ++ [.dtt []])
section
variable {X : Cx} {E : XK} {a b c e oo ii : Expr} {fa fb fc fo fi f : DE} {pos pos' apos cpos : Pos}
theorem ae_dg (hu : X.A.units + 1 < cLine) (ha : AE X E a fa) (hb : AE X E b fb) (hs : NoSl b := by intro _ _; rfl) : AE X E (.Subscript a b pos) (dOp hDG fa fb) := ⟨PE.imp (pe_dget hu ha.pe hb.pe hs) fun σ H Q ⟨ρ, l, g, o, s, p⟩ => by
  refine ⟨ρ, l, g, o, s, Post.bind p fun x l1 ρ1 H1 v e1 s1 o1 r1 p1 => ?_⟩
  refine ⟨ρ1, l1, g, o1, s.step s1 o, Post.bind p1 fun y l2 ρ2 H2 u e2 s2 o2 r2 p2 => ?_⟩
  unfold hDG at p2
  split at p2
  · rename_i d hd
    obtain ⟨q, ov, rfl, g1, k1, k2⟩ := dl_of o2 (s2.rw o1 r1) r2 hd
    obtain ⟨v, rfl, r5⟩ := k2 _ rfl
    exact ⟨q, v, rfl, g1, p2.here o2 r5⟩
  · exact p2.elim⟩
theorem ae_get2 (hu : X.A.units + 1 < cLine) (ha : AE X E a fa) (hb : AE X E b fb) (hc : AE X E c fc) (m : M2 X a "get" apos b c cpos := by exact ⟨rfl, rfl, rfl, rfl⟩) : AE X E (.Call (.Attribute a "get" apos) [b, c] [] cpos) (dGet2 fa fb fc) := ⟨PE.imp (pe_dget2 hu ha.pe hb.pe hc.pe m) fun σ H Q ⟨ρ, l, g, o, s, p⟩ => by
  refine ⟨ρ, l, g, o, s, Post.bind p fun x l1 ρ1 H1 v e1 s1 o1 r1 p1 => ?_⟩
  obtain ⟨hd, p1⟩ := Post.ite p1
  obtain ⟨q, rfl, hq⟩ := isDct_of o1 r1 hd
  refine ⟨q, rfl, hq, ρ1, l1, g, o1, s.step s1 o, Post.bind p1 fun y l2 ρ2 H2 u e2 s2 o2 r2 p2 => ?_⟩
  refine ⟨ρ2, l2, g, o2, (s.step s1 o).step s2 o1, Post.bind p2 fun z l3 ρ3 H3 w e3 s3 o3 r3 p3 => ?_⟩
  cases hl : hDL x y l3 with
  | none => rw [hl] at p3; exact p3.elim
  | some od =>
    rw [hl] at p3
    obtain ⟨q', ov, eq, g1, k1, k2⟩ := dl_of o3 (s3.rw o2 (s2.rw o1 r1)) (s3.rw o2 r2) hl
    cases eq
    refine ⟨ov, g1, ?_⟩
    cases od with
    | none => rw [k1 rfl]; exact p3.here o3 r3
    | some d => obtain ⟨v, rfl, r5⟩ := k2 _ rfl; exact p3.here o3 r5⟩
theorem as_dset (hu : X.A.units + 1 < cLine) (he : AE X E e f) (ho : AE X E oo fo) (hi : AE X E ii fi) (hs : swapsWith e (some (.Subscript oo ii pos')) pos.line X.env = pure false := by rfl) :
    AS X E (.Assign [.Subscript oo ii pos'] e pos) (sDSet fo fi f) := ⟨PS.imp (ps_dput hu ho.pe hi.pe he.pe hs) fun D σ H ⟨ρ, l, g, o, s, p⟩ =>
  ⟨ρ, l, g, o, s, OutP.of (rel := rD X.K) p fun d l1 ρ1 H1 v e1 s1 o1 r1 p1 =>
    ⟨ρ1, l1, g, o1, s.step s1 o, OutP.of (rel := rD X.K) p1 fun x l2 ρ2 H2 xv e2 s2 o2 r2 p2 =>
      ⟨ρ2, l2, g, o2, (s.step s1 o).step s2 o1, OutP.of (rel := rD X.K) p2 fun y l3 ρ3 H3 yv e3 s3 o3 r3 p3 => by
        cases q : hDP x y d l3 with
        | none => rw [q] at p3; exact p3.elim
        | some l4 =>
          rw [q] at p3
          exact dpt_of (Q := fun H4 => D.nx σ H4) o3 (s3.rw o2 r2) r3 (s3.rw o2 (s2.rw o1 r1)) q fun H' s4 o4 => p3 ρ3 H' σ s4 o4 ((((s.step s1 o).step s2 o1).step s3 o2).step s4 o3)⟩⟩⟩⟩
theorem ae_newK : AE X E (.Dict [] [] pos) dNewK := ⟨PE.imp pe_dnewK fun σ H Q ⟨ρ, l, g, o, s, p⟩ => fun q hq => by
  obtain ⟨o1, s1⟩ := o.newO (u := .dK []) (ob := .dct []) hq fun m => ⟨[], upd_same, rfl, Rws.nil⟩
  exact p _ _ _ s1 o1 (rw_adr (by rw [← o.len]; simp))⟩
theorem ae_newT : AE X E (.Dict [] [] pos) dNewT := ⟨PE.imp pe_dnewT fun σ H Q ⟨ρ, l, g, o, s, p⟩ => fun q hq => by
  obtain ⟨o1, s1⟩ := o.newO (u := .dT []) (ob := .dtt []) hq fun m => ⟨[], upd_same, rfl, Rws.nil⟩
  exact p _ _ _ s1 o1 (rw_adr (by rw [← o.len]; simp))⟩
end
end Zb

set_option Elab.async false
set_option linter.all false
set_option maxRecDepth 100000
namespace Zb
open PySem L2 PySem.Spec PyProof.Rows
/-! ### walks over dicts: the dict is frozen for the walk's time -/
def keyD' : Key → D
  | .inl i => .int i
  | .inr s => .str s
def keysK (kvs : List (Key × D)) : List D := kvs.map fun p => keyD' p.1
def keysT (kvs : List (List Key × D)) : List D := kvs.map fun p => .tup (p.1.map keyD')
def dKeys (f : DE) : DI := fun g l => (f g l).bind fun d l1 => match d with
  | .adr n => match l1[n]? with
    | some (.fct kvs) => .ok ⟨keysK kvs, none⟩ l1
    | some (.ftt kvs) => .ok ⟨keysT kvs, none⟩ l1
    | _ => .bad
  | _ => .bad
section
variable {K : PySem.W.Frag} {ρ0 : List Addr} {l0 : Sto} {H0 : Hp} {q : Addr} {od : Obj}
theorem rw_key {ρ : List Addr} {H : Hp} (k : Key) : Rw K ρ H (keyD' k) (kV k) := by
  cases k with
  | inl i => exact rw_int
  | inr s => exact rw_str
theorem rws_keys {ρ : List Addr} {H : Hp} : ∀ ks : List Key, Rws K ρ H (ks.map keyD') (ks.map kV)
  | [] => Rws.nil
  | k :: ks => Rws.cons (rw_key k) (rws_keys ks)
theorem key_at {κ : Type} {kvs : List (κ × D)} {kv : List (κ × V)} (h : kv.map (·.1) = kvs.map (·.1)) {i : Nat} {k : κ} {v : V} (e : kv[i]? = some (k, v)) : ∃ d, kvs[i]? = some (k, d) := by
  have h1 : (kv.map (·.1))[i]? = some k := by rw [List.getElem?_map, e]; rfl
  rw [h, List.getElem?_map] at h1
  cases q : kvs[i]? with
  | none => rw [q] at h1; cases h1
  | some p =>
    rw [q] at h1
    simp only [Option.map_some, Option.some.injEq] at h1
    subst h1
    exact ⟨p.2, rfl⟩
theorem jr_keysK {kvs : List (Key × D)} {kv : List (Key × V)} (o0 : Own K ρ0 l0 H0) (h : H0 q = some (.frz od (.dK kv))) (e : kv.map (·.1) = kvs.map (·.1)) : JR K ρ0 H0 ⟨keysK kvs, none⟩ (Itk q od kv) where
  go := fun i ρ l H hi o s _ => ⟨s.fz _ _ _ h, by rw [klen e]; simpa [keysK] using hi⟩
  yld := fun i ρ l H x H' hi o s _ y => by
    obtain ⟨rfl, k, v, e1, rfl⟩ := y
    obtain ⟨d, e2⟩ := key_at e e1
    exact ⟨keyD' k, by simp [keysK, e2], o, Step.refl, rw_key k⟩
  stop := fun ρ l H o s _ => ⟨s.fz _ _ _ h, by rw [klen e]; simp [keysK]⟩
theorem jr_keysT {kvs : List (List Key × D)} {kv : List (List Key × V)} (o0 : Own K ρ0 l0 H0) (h : H0 q = some (.frz od (.dT kv))) (e : kv.map (·.1) = kvs.map (·.1)) : JR K ρ0 H0 ⟨keysT kvs, none⟩ (Itkt q od kv) where
  go := fun i ρ l H hi o s _ => ⟨s.fz _ _ _ h, by rw [klen e]; simpa [keysT] using hi⟩
  yld := fun i ρ l H x H' hi o s _ y => by
    obtain ⟨rfl, k, v, b, e1, rfl, hb⟩ := y
    obtain ⟨d, e2⟩ := key_at e e1
    exact ⟨.tup (k.map keyD'), by simp [keysT, e2], o, Step.refl, rw_tup hb (rws_keys k)⟩
  stop := fun ρ l H o s _ => ⟨s.fz _ _ _ h, by rw [klen e]; simp [keysT]⟩
end
section
variable {X : Cx} {E : XK} {tg e : Expr} {f : DE}
theorem ai_keys (h : AE X E e f) : AI X E tg e (dKeys f) := ⟨PI.imp (pi_keys h.pe) fun σ H R ⟨ρ, l, g, o, s, p⟩ => by
  refine ⟨ρ, l, g, o, s, ?_⟩
  unfold dKeys at p
  refine Post.bind p fun d l1 ρ1 H1 v e1 s1 o1 r1 p1 => ?_
  split at p1
  · rename_i n
    simp only [Rw] at r1
    obtain ⟨a, ea, rfl⟩ := r1
    split at p1
    · rename_i kvs ek
      obtain ⟨od, kv, h1, h2, h3⟩ := o1.at_ n _ a ek ea
      exact ⟨a, od, rfl, .inl ⟨kv, h1, p1.here o1 (jr_keysK o1 h1 h2)⟩⟩
    · rename_i kvs ek
      obtain ⟨od, kv, h1, h2, h3⟩ := o1.at_ n _ a ek ea
      exact ⟨a, od, rfl, .inr ⟨kv, h1, p1.here o1 (jr_keysT o1 h1 h2)⟩⟩
    · exact p1.elim
  · exact p1.elim⟩
end
/-- the store behind the walk: the dict at n as it was -/
def thaw (n : Nat) (ob : OB) : Out → Out
  | .nx g l => .nx g (l.set n ob)
  | .ct g l => .ct g (l.set n ob)
  | .bk g l => .bk g (l.set n ob)
  | .rt d l => .rt d (l.set n ob)
  | _ => .bad
def sLock (i : Nat) (t : DS) : DS := fun g l => match g[i]? with
  | some (some (.adr n)) => match l[n]? with
    | some (.dct kvs) => thaw n (.dct kvs) (t g (l.set n (.fct kvs)))
    | some (.dtt kvs) => thaw n (.dtt kvs) (t g (l.set n (.ftt kvs)))
    | _ => .bad
  | _ => .bad
section
variable {K : PySem.W.Frag} {E : XK} {ρ : List Addr} {l : Sto} {H : Hp}
/-- u is a dict -/
def isDu : HO → Prop
  | .dK _ => True | .dT _ => True | _ => False
theorem mn_lock {a : Addr} {u : HO} {od : Obj} (h : H a = some u) (hu : isDu u) : Mn K ρ H ρ (upd H a (.frz od u)) := by
  have ne : ∀ b w, H b = some w → ¬ isDu w → b ≠ a := fun b w e n q => by
    subst q
    rw [h] at e; cases e
    exact n hu
  refine ⟨fun _ _ h => h, fun b zs e => ?_, fun b zs e => ?_⟩
  · rw [upd_ne (ne b _ e (fun q => q))]; exact e
  · rcases e with ⟨ob, e⟩ | e
    · exact .inl ⟨ob, by rw [upd_ne (ne b _ e (fun q => q))]; exact e⟩
    · exact .inr e
theorem mn_thaw {a : Addr} {u : HO} {od : Obj} (h : H a = some (.frz od u)) (hu : isDu u) : Mn K ρ H ρ (upd H a u) := by
  refine ⟨fun _ _ h => h, fun b zs e => ?_, fun b zs e => ?_⟩
  · rw [upd_ne (fun q => by rw [q, h] at e; cases e)]; exact e
  · rcases e with ⟨ob, e⟩ | e
    · exact .inl ⟨ob, by rw [upd_ne (fun q => by rw [q, h] at e; cases e; exact hu)]; exact e⟩
    · exact .inr e
theorem Own.swap {n : Nat} {a : Addr} {u : HO} {ob : OB} (o : Own K ρ l H) (hn : ρ[n]? = some a) (m : Mn K ρ H ρ (upd H a u)) (w : Ow K ρ (upd H a u) ob a) : Own K ρ (l.set n ob) (upd H a u) := by
  refine ⟨o.nd, by simp [o.len], fun k ob' b e1 e2 => ?_⟩
  by_cases q : n = k
  · subst q
    rw [hn] at e2; cases e2
    have hl : n < l.length := by rw [← o.len]; exact (List.getElem?_eq_some_iff.mp hn).1
    rw [List.getElem?_set_self hl] at e1
    cases e1
    exact w
  · rw [List.getElem?_set_ne q] at e1
    have nb : b ≠ a := fun z => by
      subst z
      obtain ⟨h1, g1⟩ := List.getElem?_eq_some_iff.mp hn
      obtain ⟨h2, g2⟩ := List.getElem?_eq_some_iff.mp e2
      exact q ((List.getElem_inj o.nd).mp (g1.trans g2.symm))
    exact Ow.mono m (fun v e => by rw [upd_ne nb]; exact e) (o.at_ k ob' b e1 e2)
end
section
variable {X : Cx} {E : XK} {st : Stmt} {t : DS}
theorem lock_end {ρ : List Addr} {l0 : Sto} {H : Hp} {a : Addr} {n : Nat} {u : HO} {od : Obj} {ob : OB} {D : Ends} {r : Out} (o0 : Own X.K ρ l0 H) (hu : isDu u) (hn : ρ[n]? = some a) (ha : H a = some u)
    (wk : ∀ ρ' H', Mn X.K ρ H ρ' H' → H' a = some u → Ow X.K ρ' H' ob a) (p : OutP X.K E ρ H D (thaw n ob r)) :
    OutP X.K E ρ (upd H a (.frz od u)) ⟨fun σ' H' => H' a = some (.frz od u) ∧ D.nx σ' (upd H' a u), fun v H' => H' a = some (.frz od u) ∧ D.rt v (upd H' a u), fun σ' H' => H' a = some (.frz od u) ∧ D.bk σ' (upd H' a u), fun σ' H' => H' a = some (.frz od u) ∧ D.ct σ' (upd H' a u)⟩ r := by
  have back : ∀ ρ' l' H', Step ρ (upd H a (.frz od u)) ρ' H' → Own X.K ρ' l' H' → H' a = some (.frz od u) ∧ Step ρ H ρ' (upd H' a u) ∧ Own X.K ρ' (l'.set n ob) (upd H' a u) ∧ Mn X.K ρ' H' ρ' (upd H' a u) := fun ρ' l' H' s o => by
    have h1 : H' a = some (.frz od u) := s.fz _ _ _ upd_same
    have m := mn_thaw (K := X.K) (ρ := ρ') h1 hu
    have st : Step ρ H ρ' (upd H' a u) := by
      refine ⟨s.pre, fun b w e nb => ?_, fun b hb nb => ?_, fun b o' w e => ?_⟩
      · have : b ≠ a := fun q => nb (by rw [q]; exact List.mem_of_getElem? hn)
        rw [upd_ne this]
        exact s.keep b w (by rw [upd_ne this]; exact e) nb
      · have : b ≠ a := fun q => nb (by rw [q]; exact List.mem_of_getElem? hn)
        have z := s.new b hb nb
        rw [upd_ne this] at z
        exact z
      · have : b ≠ a := fun q => by rw [q, ha] at e; cases e; exact hu
        rw [upd_ne this]
        exact s.fz b o' w (by rw [upd_ne this]; exact e)
    exact ⟨h1, st, o.swap (s.px n a hn) m (wk ρ' _ (st.mn o0) upd_same), m⟩
  cases r with
  | bad => exact p.elim
  | nx g l => exact fun ρ' H' σ' s o q => let ⟨h1, s1, o1, m1⟩ := back ρ' _ H' s o; ⟨h1, p ρ' _ σ' s1 o1 (q.mn m1)⟩
  | bk g l => exact fun ρ' H' σ' s o q => let ⟨h1, s1, o1, m1⟩ := back ρ' _ H' s o; ⟨h1, p ρ' _ σ' s1 o1 (q.mn m1)⟩
  | ct g l => exact fun ρ' H' σ' s o q => let ⟨h1, s1, o1, m1⟩ := back ρ' _ H' s o; ⟨h1, p ρ' _ σ' s1 o1 (q.mn m1)⟩
  | rt d l => exact fun ρ' H' v s o q => let ⟨h1, s1, o1, m1⟩ := back ρ' _ H' s o; ⟨h1, p ρ' _ v s1 o1 (Rw.mono m1 _ _ q)⟩
  | ex C fs l => exact p.elim
theorem as_lock {i : Nat} (h : AS X E st t) : AS X E st (sLock i t) := ⟨PS.imp (ps_lock h.ps) fun D σ H ⟨ρ, l, g, o, s, p⟩ => by
  unfold sLock at p
  split at p
  · rename_i n hg
    obtain ⟨v, hv, r⟩ := s.at_ i _ hg
    simp only [Rw] at r
    obtain ⟨a, ea, rfl⟩ := r
    split at p
    · rename_i kvs ek
      obtain ⟨kv, h1, h2, h3⟩ := o.at_ n _ a ek ea
      refine ⟨a, .dK kv, h1, trivial, fun od => ?_⟩
      have m := mn_lock (K := X.K) (ρ := ρ) (od := od) h1 (u := .dK kv) trivial
      have w : Ow X.K ρ (upd H a (.frz od (.dK kv))) (.fct kvs) a := ⟨od, kv, upd_same, h2, Rws.mono m _ _ h3⟩
      exact ⟨ρ, l.set n (.fct kvs), g, o.swap ea m w, s.mn m, lock_end (ob := .dct kvs) o trivial ea h1 (fun ρ' H' m' q => ⟨kv, q, h2, Rws.mono m' _ _ h3⟩) p⟩
    · rename_i kvs ek
      obtain ⟨kv, h1, h2, h3⟩ := o.at_ n _ a ek ea
      refine ⟨a, .dT kv, h1, trivial, fun od => ?_⟩
      have m := mn_lock (K := X.K) (ρ := ρ) (od := od) h1 (u := .dT kv) trivial
      have w : Ow X.K ρ (upd H a (.frz od (.dT kv))) (.ftt kvs) a := ⟨od, kv, upd_same, h2, Rws.mono m _ _ h3⟩
      exact ⟨ρ, l.set n (.ftt kvs), g, o.swap ea m w, s.mn m, lock_end (ob := .dtt kvs) o trivial ea h1 (fun ρ' H' m' q => ⟨kv, q, h2, Rws.mono m' _ _ h3⟩) p⟩
    · exact p.elim
  · exact p.elim⟩
end
end Zb

set_option Elab.async false
set_option linter.all false
set_option maxRecDepth 100000
namespace Zb
open PySem L2 PySem.Spec PyProof.Rows
/-! ### max of a dict's keys -/
def rMaxK : List V → Hp → VK → Prop := fun vs H Q => ∃ (a : Addr) (kvs : List (Key × V)) (ns : List Int), vs = [.ref a] ∧ Rd H a (.dK kvs) ∧ kvs.map (·.1) = ns.map Sum.inl ∧ 0 < ns.length ∧ ∀ m, m ∈ ns → (∀ y, y ∈ ns → y ≤ m) → Q (.int m) H
section
variable {X : Cx}
theorem cr_maxK (hc : X.calm = true) : CallR X (.builtin "max") rMaxK := by
  intro pins s σ H xs us Q I rx h
  obtain ⟨a, kvs, ns, rfl, he, hk, hne, q⟩ := h
  rw [Vals.ref1 rx]
  obtain ⟨hz, hs, vs, kv, o, es, ep, ho, hx, hdt, r⟩ := dk_rd I.hok he
  have l1 : es.toList.length = vs.length := r.2.1.length
  have l2 : kvs.length = vs.length := Paired.length kv
  have l3 : kvs.length = ns.length := by
    have := congrArg List.length hk
    simpa using this
  have hsz : es.size = ns.length := by
    rw [Array.length_toList] at l1
    omega
  have hP : ∀ (i : Nat) (v : Value), (∃ en : DictEntry, es[i]? = some en ∧ v = en.key) → ∃ t, v = .int (ns.getD i 0) t := fun i v ⟨en, e1, ev⟩ => by
    have hi : i < es.size := by
      rcases Nat.lt_or_ge i es.size with z | z
      · exact z
      · rw [Array.getElem?_eq_none z] at e1; cases e1
    have hi2 : i < kvs.length := by omega
    have hi3 : i < ns.length := by omega
    have e2 : kvs[i].1 = Sum.inl ns[i] := by
      have z : (kvs.map (·.1))[i]? = (ns.map Sum.inl)[i]? := by rw [hk]
      rw [List.getElem?_map, List.getElem?_map, List.getElem?_eq_getElem hi2, List.getElem?_eq_getElem hi3] at z
      exact Option.some.inj z
    obtain ⟨u, hu, ru⟩ := kv_get kv (i := i) (k := kvs[i].1) (v := kvs[i].2) (List.getElem?_eq_getElem hi2)
    obtain ⟨h1, h2⟩ := r.2.1.get? (e := en) (by rw [Array.getElem?_toList]; exact e1) hu
    have e3 : ns.getD i 0 = ns[i] := by rw [List.getD_eq_getElem?_getD, List.getElem?_eq_getElem hi3] <;> rfl
    rw [ev, e3]
    rw [e2] at h1
    exact keyIs_rel (k := Sum.inl ns[i]) (v := en.key) h1
  refine call_max_walk ?_
  refine iter_keys hs ho hx hdt ?_
  have ha : a < s.heap.objs.size := Heap.lt_size ho
  refine ⟨s.heap.objs.size, [s.heap.objs.size, a], [s.heap.objs.size], es.size, fun i v => ∃ en : DictEntry, es[i]? = some en ∧ v = en.key, _, fun i j => decide (ns.getD i 0 > ns.getD j 0), rfl, walks_raw (show X.A.in1.handled = none from I.ok.hd hc) s.heap.objs.size a (Nat.ne_of_lt ha) hdt, ⟨⟨_, Heap.get?_push_size _ rfl, rfl, rfl⟩, Heap.get?_push_of_some _ ho⟩, fun b hb => ?_, by omega, CmpOf.ints_gt (fun i => ns.getD i 0) hP, fun v h' tk hv' hk => ?_⟩
  · show b < (s.heap.push _).objs.size
    rw [size_push']
    rcases List.mem_cons.mp hb with z | z
    · rw [z]; exact Nat.lt_succ_self _
    · rw [List.mem_singleton.mp z]; exact Nat.lt_succ_of_lt ha
  · obtain ⟨t, rfl⟩ := hP _ _ hv'
    obtain ⟨m1', m2'⟩ := argBest_gt (fun i => ns.getD i 0) (es.size - 1)
    have m1 : argBest (fun i j => decide (ns.getD i 0 > ns.getD j 0)) (es.size - 1) ≤ es.size - 1 := m1'
    have m2 : ∀ j, j ≤ es.size - 1 → ns.getD j 0 ≤ ns.getD (argBest (fun i j => decide (ns.getD i 0 > ns.getD j 0)) (es.size - 1)) 0 := m2'
    have kp : ∀ b o, s.heap.get? b = some o → h'.get? b = some o := fun b o e => hk b o (fun z => by rw [List.mem_singleton.mp z] at e; exact absurd (Heap.lt_size e) (Nat.lt_irrefl _)) (Heap.get?_push_of_some _ e)
    refine ⟨.int _, H, I.kept (t' := tk) kp, ⟨t, rfl⟩, q _ (PySem.getD_mem (by omega)) fun y hy => ?_⟩
    obtain ⟨j, hj, e⟩ := List.mem_iff_getElem.mp hy
    have z := m2 j (by omega)
    have e3 : ns.getD j 0 = y := by rw [List.getD_eq_getElem?_getD, List.getElem?_eq_getElem hj, ← e] <;> rfl
    rw [e3] at z
    exact z
end
/-! ### D: max, min, gcd, list(range), setdefault -/
def maxI : List Int → Option Int
  | [] => none
  | i :: is => match maxI is with
    | none => some i
    | some m => some (if i > m then i else m)
def minI : List Int → Option Int
  | [] => none
  | i :: is => match minI is with
    | none => some i
    | some m => some (if i < m then i else m)
theorem maxI_spec : ∀ {is : List Int} {m : Int}, maxI is = some m → m ∈ is ∧ ∀ y ∈ is, y ≤ m
  | [], m, h => by cases h
  | i :: is, m, h => by
    simp only [maxI] at h
    cases q : maxI is with
    | none =>
      rw [q] at h
      cases h
      have : is = [] := by
        cases is with
        | nil => rfl
        | cons a r => simp only [maxI] at q; split at q <;> cases q
      subst this
      simp
    | some k =>
      rw [q] at h
      simp only [Option.some.injEq] at h
      obtain ⟨h1, h2⟩ := maxI_spec q
      by_cases c : i > k
      · rw [if_pos c] at h; subst h
        refine ⟨List.mem_cons_self, fun y hy => ?_⟩
        rcases List.mem_cons.mp hy with rfl | hy
        · exact Int.le_refl _
        · have := h2 y hy; omega
      · rw [if_neg c] at h; subst h
        refine ⟨List.mem_cons_of_mem _ h1, fun y hy => ?_⟩
        rcases List.mem_cons.mp hy with rfl | hy
        · omega
        · exact h2 y hy
theorem minI_spec : ∀ {is : List Int} {m : Int}, minI is = some m → m ∈ is ∧ ∀ y ∈ is, m ≤ y
  | [], m, h => by cases h
  | i :: is, m, h => by
    simp only [minI] at h
    cases q : minI is with
    | none =>
      rw [q] at h
      cases h
      have : is = [] := by
        cases is with
        | nil => rfl
        | cons a r => simp only [minI] at q; split at q <;> cases q
      subst this
      simp
    | some k =>
      rw [q] at h
      simp only [Option.some.injEq] at h
      obtain ⟨h1, h2⟩ := minI_spec q
      by_cases c : i < k
      · rw [if_pos c] at h; subst h
        refine ⟨List.mem_cons_self, fun y hy => ?_⟩
        rcases List.mem_cons.mp hy with rfl | hy
        · exact Int.le_refl _
        · have := h2 y hy; omega
      · rw [if_neg c] at h; subst h
        refine ⟨List.mem_cons_of_mem _ h1, fun y hy => ?_⟩
        rcases List.mem_cons.mp hy with rfl | hy
        · omega
        · exact h2 y hy
def keyInts : List (Key × D) → Option (List Int)
  | [] => some []
  | (.inl i, _) :: r => (keyInts r).map (i :: ·)
  | _ :: _ => none
theorem keyInts_eq : ∀ {kvs : List (Key × D)} {ns : List Int}, keyInts kvs = some ns → kvs.map (·.1) = ns.map Sum.inl
  | [], ns, h => by cases h; rfl
  | (.inl i, d) :: r, ns, h => by
    simp only [keyInts] at h
    cases q : keyInts r with
    | none => rw [q] at h; cases h
    | some ms => rw [q] at h; cases h; simp only [List.map_cons, keyInts_eq q]
  | (.inr i, d) :: r, ns, h => by simp [keyInts] at h
def okI (o : Option Int) (l : Sto) : Res D := match o with
  | some i => .ok (.int i) l
  | none => .bad
/-- max(d) -/
def hMaxK : List D → Sto → Res D
  | [.adr n], l => match l[n]? with
    | some (.dct kvs) => okI ((keyInts kvs).bind maxI) l
    | _ => .bad
  | _, _ => .bad
/-- max(xs), min(xs) of a list of ints -/
def hMaxL : List D → Sto → Res D
  | [.adr n], l => match l[n]? with
    | some (.lst ds) => okI ((intsOf ds).bind maxI) l
    | _ => .bad
  | _, _ => .bad
def hMinL : List D → Sto → Res D
  | [.adr n], l => match l[n]? with
    | some (.lst ds) => okI ((intsOf ds).bind minI) l
    | _ => .bad
  | _, _ => .bad
def hGcd : List D → Sto → Res D
  | [.int a, .int b], l => .ok (.int ((Nat.gcd a.natAbs b.natAbs : Nat) : Int)) l
  | _, _ => .bad
theorem Post.okI_ {K : PySem.W.Frag} {E : XK} {ρ : List Addr} {l : Sto} {H : Hp} {o : Option Int} {Q : VK} (h : Post K E ρ H (rD K) (okI o l) Q) : ∃ i, o = some i ∧ Post K E ρ H (rD K) (.ok (.int i) l) Q := by
  cases o with
  | none => exact h.elim
  | some i => exact ⟨i, rfl, h⟩
theorem mem_pos {is : List Int} {m : Int} (h : m ∈ is) : 0 < is.length := List.length_pos_of_mem h
section
variable {X : Cx} {E : XK} {tg e a b c o : Expr} {es : List Expr} {f fo fa fb fc : DE} {fs : DEs} {pos p apos cpos : Pos} {x : Str}
theorem le_anti {is : List Int} {m m' : Int} (h : m ∈ is) (q : ∀ y ∈ is, y ≤ m) (h' : m' ∈ is) (q' : ∀ y ∈ is, y ≤ m') : m' = m := by
  have := q m' h'; have := q' m h; omega
theorem ge_anti {is : List Int} {m m' : Int} (h : m ∈ is) (q : ∀ y ∈ is, m ≤ y) (h' : m' ∈ is) (q' : ∀ y ∈ is, m' ≤ y) : m' = m := by
  have := q m' h'; have := q' m h; omega
theorem ae_maxK (hc : X.calm = true) (hg : Gl X "max") (hm : X.mg "max" = none) (ha : AA X E (e :: es) fs) (he : starEach (e :: es) X.env = (false, eval e X.env) :: starEach es X.env := by rfl) (hpl : (backTo pos (starEach es X.env)).any (·.1) = false := by rfl) : AE X E (.Call (.Name "max" p) (e :: es) [] pos) (dCB hMaxK fs) := ae_cb (pe_callB (cr_maxK hc) hg hm (by decide +kernel) ha.pa (he := he) (hpl := hpl)) fun ρ l H ds vs Q o r p => by
  unfold hMaxK at p
  split at p
  · obtain ⟨v, rfl, w1⟩ := r.one_
    simp only [Rw] at w1
    obtain ⟨a, ea, rfl⟩ := w1
    split at p
    · rename_i kvs e1
      obtain ⟨kv, h1, h2, h3⟩ := o.at_ _ _ a e1 ea
      obtain ⟨m, em, p⟩ := p.okI_
      cases q : keyInts kvs with
      | none => rw [q] at em; cases em
      | some ns =>
        rw [q] at em
        obtain ⟨z1, z2⟩ := maxI_spec (show maxI ns = some m from em)
        refine ⟨a, kv, ns, rfl, .inl h1, by rw [h2]; exact keyInts_eq q, mem_pos z1, fun m' k1 k2 => ?_⟩
        rw [le_anti z1 z2 k1 k2]
        exact p.here o rw_int
    · exact p.elim
  · exact p.elim
theorem ae_maxL (hc : X.calm = true) (hg : Gl X "max") (hm : X.mg "max" = none) (ha : AA X E (e :: es) fs) (he : starEach (e :: es) X.env = (false, eval e X.env) :: starEach es X.env := by rfl) (hpl : (backTo pos (starEach es X.env)).any (·.1) = false := by rfl) : AE X E (.Call (.Name "max" p) (e :: es) [] pos) (dCB hMaxL fs) := ae_cb (pe_callB (cr_max hc) hg hm (by decide +kernel) ha.pa (he := he) (hpl := hpl)) fun ρ l H ds vs Q o r p => by
  unfold hMaxL at p
  split at p
  · obtain ⟨v, rfl, w1⟩ := r.one_
    split at p
    · rename_i ds' e1
      obtain ⟨a, us, rfl, _, h1, q⟩ := o.lst w1 e1
      obtain ⟨m, em, p⟩ := p.okI_
      cases qi : intsOf ds' with
      | none => rw [qi] at em; cases em
      | some ns =>
        rw [qi] at em
        obtain ⟨z1, z2⟩ := maxI_spec (show maxI ns = some m from em)
        have e3 := ints_rws qi q
        subst e3
        refine ⟨a, ns, rfl, SqL.of h1, mem_pos z1, fun m' k1 k2 => ?_⟩
        rw [le_anti z1 z2 k1 k2]
        exact p.here o rw_int
    · exact p.elim
  · exact p.elim
theorem ae_minL (hc : X.calm = true) (hg : Gl X "min") (hm : X.mg "min" = none) (ha : AA X E (e :: es) fs) (he : starEach (e :: es) X.env = (false, eval e X.env) :: starEach es X.env := by rfl) (hpl : (backTo pos (starEach es X.env)).any (·.1) = false := by rfl) : AE X E (.Call (.Name "min" p) (e :: es) [] pos) (dCB hMinL fs) := ae_cb (pe_callB (cr_min hc) hg hm (by decide +kernel) ha.pa (he := he) (hpl := hpl)) fun ρ l H ds vs Q o r p => by
  unfold hMinL at p
  split at p
  · obtain ⟨v, rfl, w1⟩ := r.one_
    split at p
    · rename_i ds' e1
      obtain ⟨a, us, rfl, _, h1, q⟩ := o.lst w1 e1
      obtain ⟨m, em, p⟩ := p.okI_
      cases qi : intsOf ds' with
      | none => rw [qi] at em; cases em
      | some ns =>
        rw [qi] at em
        obtain ⟨z1, z2⟩ := minI_spec (show minI ns = some m from em)
        have e3 := ints_rws qi q
        subst e3
        refine ⟨a, ns, rfl, SqL.of h1, mem_pos z1, fun m' k1 k2 => ?_⟩
        rw [ge_anti z1 z2 k1 k2]
        exact p.here o rw_int
    · exact p.elim
  · exact p.elim
theorem ae_gcd (hg : Gl X x) (hm : X.mg x = some (.builtin "math.gcd")) (ha : AA X E (e :: es) fs) (hdb : (x == ("__debug__" : Str)) = false := by decide) (he : starEach (e :: es) X.env = (false, eval e X.env) :: starEach es X.env := by rfl) (hpl : (backTo pos (starEach es X.env)).any (·.1) = false := by rfl) : AE X E (.Call (.Name x p) (e :: es) [] pos) (dCB hGcd fs) := ae_cb (pe_callBfun cr_gcd hg hm ha.pa hdb he hpl) fun ρ l H ds vs Q o r p => by
  unfold hGcd at p
  split at p
  · obtain ⟨v, v', rfl, w1, w2⟩ := r.two_
    rw [w1.int_, w2.int_]
    exact ⟨_, _, rfl, p.here o rw_int⟩
  · exact p.elim
/-- list(range(n)) -/
def dLstR (f : DE) : DE := fun g l => (f g l).bind fun d l1 => match d with
  | .int j => if decide (0 ≤ j) && decide (j ≤ 16777216) then .ok (.adr l1.length) (l1 ++ [.lst (rng 0 j.toNat)]) else .bad
  | _ => .bad
theorem rws_rng {K : PySem.W.Frag} {ρ : List Addr} {H : Hp} {n : Nat} (j : Int) (hn : n = j.toNat) : Rws K ρ H (rng 0 n) (rgV 0 j) := by
  subst hn
  unfold rng rgV
  rw [show (j - 0).toNat = j.toNat by omega]
  generalize List.range j.toNat = is
  induction is with
  | nil => exact Rws.nil
  | cons i is ih => exact Rws.cons rw_int ih
theorem ae_lstR {p2 pos2 : Pos} (hc : X.calm = true) (hl : Gl X "list") (hml : X.mg "list" = none) (hg : Gl X "range") (hm : X.mg "range" = none) (ha : AE X E a fa) (na : starEach [a] X.env = (false, eval a X.env) :: starEach [] X.env := by rfl)
    (na2 : starEach [Expr.Call (.Name "range" p2) [a] [] pos2] X.env = (false, eval (.Call (.Name "range" p2) [a] [] pos2) X.env) :: starEach [] X.env := by rfl) :
    AE X E (.Call (.Name "list" p) [.Call (.Name "range" p2) [a] [] pos2] [] pos) (dLstR fa) := ⟨PE.imp (pe_listRg hc hl hml (prg_1 hg hm ha.pe na) na2) fun σ H Q ⟨ρ, l, g, o, s, pp⟩ => by
  refine ⟨ρ, l, g, o, s, Post.bind pp fun d l1 ρ1 H1 v e1 s1 o1 r1 p1 => ?_⟩
  split at p1
  · rename_i j
    obtain ⟨hj, p1⟩ := Post.ite p1
    simp only [Bool.and_eq_true, decide_eq_true_eq] at hj
    refine ⟨j, r1.int_, RgOk.of_le (by omega) hj.2 (by omega) hj.1, fun q hq => ?_⟩
    exact Post.mkL o1 (rws_rng j rfl) p1 hq
  · exact p1.elim⟩
/-- d.setdefault(k, v), keys ints and texts -/
def dSetd (f fy fz : DE) : DE := fun g l => (f g l).bind fun x l1 => if isDct x l1 then (fy g l1).bind fun y l2 => (fz g l2).bind fun z l3 => match x, keyD y with
  | .adr n, some k => match l3[n]? with
    | some (.dct kvs) => if small (kvs.length + 1) then (match vaD kvs k with
      | some d => .ok d l3
      | none => .ok z (l3.set n (.dct (putD kvs k z)))) else .bad
    | _ => .bad
  | _, _ => .bad else .bad
theorem ae_setd (ha : AE X E a fa) (hb : AE X E b fb) (hc : AE X E c fc) (m : M2 X a "setdefault" apos b c cpos := by exact ⟨rfl, rfl, rfl, rfl⟩) : AE X E (.Call (.Attribute a "setdefault" apos) [b, c] [] cpos) (dSetd fa fb fc) := ⟨PE.imp (pe_dsetd ha.pe hb.pe hc.pe m) fun σ H Q ⟨ρ, l, g, o, s, p⟩ => by
  refine ⟨ρ, l, g, o, s, Post.bind p fun x l1 ρ1 H1 v e1 s1 o1 r1 p1 => ?_⟩
  obtain ⟨hd, p1⟩ := Post.ite p1
  obtain ⟨q, rfl, hq⟩ := isDct_of o1 r1 hd
  refine ⟨q, rfl, hq, ρ1, l1, g, o1, s.step s1 o, Post.bind p1 fun y l2 ρ2 H2 u e2 s2 o2 r2 p2 => ?_⟩
  refine ⟨ρ2, l2, g, o2, (s.step s1 o).step s2 o1, Post.bind p2 fun z l3 ρ3 H3 w e3 s3 o3 r3 p3 => ?_⟩
  split at p3
  · rename_i n k hk _
    have r1' := s3.rw o2 (s2.rw o1 r1)
    simp only [Rw] at r1'
    obtain ⟨a', ea, eq⟩ := r1'
    cases eq
    split at p3
    · rename_i kvs ek
      obtain ⟨kv, h1, h2, h3⟩ := o3.at_ n _ q ek ea
      obtain ⟨sm, p3⟩ := Post.ite p3
      obtain ⟨v1, v2⟩ := va_rel k h2 h3
      refine ⟨kv, k, h1, key_rel hk (s3.rw o2 r2), by rw [klen h2]; exact small_lt sm, fun v hv => ?_, fun hv => ?_⟩
      · cases qv : vaD kvs k with
        | none => rw [v1 qv] at hv; cases hv
        | some d =>
          rw [qv] at p3
          obtain ⟨v', hv', r5⟩ := v2 d qv
          rw [hv'] at hv; cases hv
          exact p3.here o3 r5
      · cases qv : vaD kvs k with
        | some d =>
          obtain ⟨v', hv', _⟩ := v2 d qv
          rw [hv'] at hv; cases hv
        | none =>
          rw [qv] at p3
          obtain ⟨p1', p2'⟩ := put_rel k r3 h2 h3
          obtain ⟨o4, s4⟩ := o3.setO (u := .dK (putK kv k w)) (ob := .dct (putD kvs k z)) ea ek fun m => ⟨_, upd_same, p1', Rws.mono m _ _ p2'⟩
          exact p3 ρ3 _ _ s4 o4 (s4.rw o3 r3)
    · exact p3.elim
  · exact p3.elim⟩
end
end Zb

set_option Elab.async false
set_option linter.all false
set_option maxRecDepth 100000
namespace Zb
open PySem L2 PySem.Spec PyProof.Rows
/-! ### comprehensions of two clauses -/
open Classical in
noncomputable def lc2L (it : ItD) (gt : D → Sto → Sl → Option Sl) (ct : DB) (fi1 : DI) (gt1 : D → Sto → Sl → Option Sl) (ct1 : DB) (fe : DE) (vs1 : List Nat) (gw : Sl) : List D → Sto → List D → Res (List D)
  | [], l, acc => if it.ok l then .ok acc l else .bad
  | d :: r, l, acc => if it.ok l then (match gt d l gw with
    | none => .bad
    | some g1 => (ct g1 l).nox.bind fun b l1 => if b = true then (fi1 g1 l1).nox.bind fun it1 l2 => (lcL it1 gt1 ct1 fe (wipeD g1 vs1) it1.ds l2 acc).bind fun acc2 l3 => lc2L it gt ct fi1 gt1 ct1 fe vs1 gw r l3 acc2
      else lc2L it gt ct fi1 gt1 ct1 fe vs1 gw r l1 acc) else .bad
noncomputable def dLc2 (fi : DI) (gt : D → Sto → Sl → Option Sl) (ct : DB) (fi1 : DI) (gt1 : D → Sto → Sl → Option Sl) (ct1 : DB) (fe : DE) (vs vs1 : List Nat) : DE := fun g l => (fi g l).bind fun it l1 => (lc2L it gt ct fi1 gt1 ct1 fe vs1 (wipeD g vs) it.ds l1 []).bind fun acc l2 => .ok (.adr l2.length) (l2 ++ [.lst acc])
section
variable {X : Cx} {E : XK} {K : PySem.W.Frag} {tg tg1 : TG} {vs vs1 : List Nat} {gt gt1 : D → Sto → Sl → Option Sl} {fi fi1 : DI} {ct ct1 : DB} {fe : DE}
theorem lc2L_ok {it : ItD} {ds : List D} {gw : Sl} {l : Sto} {acc : List D} {α : Type} {k : List D → Sto → Res α} (p : (lc2L it gt ct fi1 gt1 ct1 fe vs1 gw ds l acc).bind k ≠ .bad) : it.ok l := by
  cases ds with
  | nil =>
    simp only [lc2L] at p
    split at p
    · assumption
    · exact absurd rfl p
  | cons d r =>
    simp only [lc2L] at p
    split at p
    · assumption
    · exact absurd rfl p
theorem lc2_of (hv1 : ∀ v ∈ vs1, v ∈ vs) (ag : AGw tg K vs gt) (ag1 : AGw tg1 K vs1 gt1) {σ H Q} (h : teOf K E (dLc2 fi gt ct fi1 gt1 ct1 fe vs vs1) σ H Q) : tLc2 (iOf K E fi) tg (ttOf K E0 ct) (iOf K E0 fi1) tg1 (ttOf K E0 ct1) (teOf K E0 fe) vs vs1 σ H Q := by
  obtain ⟨ρ, l, g, o, s, p⟩ := h
  refine ⟨ρ, l, g, o, s, Post.bind p fun it l1 ρ1 H1 J e1 s1 o1 jr p1 => ?_⟩
  intro Dl hD
  have nD : Dl ∉ ρ1 := o1.nop hD
  have sw := (s.step s1 o).wipe vs
  have up0 : Step ρ1 H1 ρ1 (upd H1 Dl (.lst [])) := step_upd hD
  refine ⟨fun i m H => m = it.ds.length - i ∧ i ≤ it.ds.length ∧ ∃ ρ l acc av, Step ρ1 H1 ρ H ∧ Own K ρ l H ∧ Slt K ρ H (L2.wipe σ vs) (wipeD g vs) ∧ Dl ∉ ρ ∧ H Dl = some (.lst av) ∧ Rws K ρ H acc av ∧
      Post K E ρ1 H1 (rD K) ((lc2L it gt ct fi1 gt1 ct1 fe vs1 (wipeD g vs) (it.ds.drop i) l acc).bind fun acc l2 => .ok (.adr l2.length) (l2 ++ [.lst acc])) Q,
    ⟨_, rfl, Nat.zero_le _, ρ1, l1, [], [], up0, ⟨o1.nd, o1.len, fun n ob a q1 q2 => Ow.mono (up0.mn o1) (fun u e => by rw [upd_ne (ne_of_none e hD)]; exact e) (o1.at_ n ob a q1 q2)⟩, sw.step up0 o1, nD, upd_same, Rws.nil, by rw [List.drop_zero]; exact p1⟩, ?_⟩
  rintro i m H2 ⟨rfl, hi, ρ2, l2, acc, av, st, o2, s2, nD2, hD2, ra, p2⟩
  have ok := lc2L_ok (Post.ne p2)
  by_cases hlt : i < it.ds.length
  · refine .inr ⟨jr.go i ρ2 l2 H2 hlt o2 (st.wk o1) ok, fun H => ∃ ρ l acc av, Step ρ1 H1 ρ H ∧ Own K ρ l H ∧ Slt K ρ H (L2.wipe σ vs) (wipeD g vs) ∧ Dl ∉ ρ ∧ H Dl = some (.lst av) ∧ Rws K ρ H acc av ∧
      Post K E ρ1 H1 (rD K) ((lc2L it gt ct fi1 gt1 ct1 fe vs1 (wipeD g vs) (it.ds.drop (i + 1)) l acc).bind fun acc l2 => .ok (.adr l2.length) (l2 ++ [.lst acc])) Q, fun H' z => ⟨_, by omega, rfl, hlt, z⟩, fun x H3 y => ?_⟩
    obtain ⟨d, ed, o3, st3, r3⟩ := jr.yld i ρ2 l2 H2 x H3 hlt o2 (st.wk o1) ok y
    rw [List.drop_eq_getElem_cons hlt] at p2
    have eg : it.ds[i] = d := by
      rw [List.getElem?_eq_getElem hlt] at ed
      exact Option.some.inj ed
    rw [eg] at p2
    simp only [lc2L, if_pos ok] at p2
    have hD3 : H3 Dl = some (.lst av) := st3.keep _ _ hD2 nD2
    have s3 := s2.step st3 o2
    have ra3 := st3.rws o2 ra
    cases q : gt d l2 (wipeD g vs) with
    | none => rw [q] at p2; exact p2.elim
    | some g1 =>
      rw [q] at p2
      simp only at p2
      refine ag.go ρ2 l2 _ _ H3 d x g1 o3 s3 r3 q _ fun σ4 s4 hw => ⟨by rw [hw, wipe_self], ρ2, l2, g1, o3, s4, ?_⟩
      cases qc : ct g1 l2 with
      | bad => rw [qc] at p2; exact p2.elim
      | exc C fs l3 => rw [qc] at p2; exact p2.elim
      | ok b l3 =>
        rw [qc] at p2
        simp only [Res.nox, Res.bind] at p2
        intro ρ4 H4 b' st4 o4 eb
        cases eb
        have nD4 : Dl ∉ ρ4 := fun z => by
          have := st4.new Dl z nD2
          rw [hD3] at this; cases this
        have hD4 : H4 Dl = some (.lst av) := st4.keep _ _ hD3 nD2
        have s5 := s4.step st4 o3
        have s34 := s3.step st4 o3
        have ra4 := st4.rws o3 ra3
        cases b with
        | false =>
          rw [if_neg Bool.false_ne_true] at p2 ⊢
          exact ⟨ρ4, l3, acc, av, (st.trans st3).trans st4, o4, s34, nD4, hD4, ra4, p2⟩
        | true =>
          rw [if_pos rfl] at p2 ⊢
          refine ⟨ρ4, l3, g1, o4, s5, ?_⟩
          cases qe : fi1 g1 l3 with
          | bad => rw [qe] at p2; exact p2.elim
          | exc C fs l4 => rw [qe] at p2; exact p2.elim
          | ok it1 l4 =>
            rw [qe] at p2
            simp only [Res.nox, Res.bind] at p2
            intro ρ5 H5 J1 st5 o5 jr1
            have nD5 : Dl ∉ ρ5 := fun z => by
              have := st5.new Dl z nD4
              rw [hD4] at this; cases this
            have hD5 : H5 Dl = some (.lst av) := st5.keep _ _ hD4 nD4
            have stF := ((st.trans st3).trans st4).trans st5
            -- the inner walk
            refine ⟨fun j k H => k = it1.ds.length - j ∧ j ≤ it1.ds.length ∧ ∃ ρ l acc av, Wk K ρ5 H5 ρ H ∧ Step ρ1 H1 ρ H ∧ Own K ρ l H ∧ Slt K ρ H (L2.wipe σ vs) (wipeD g vs) ∧ Slt K ρ H (L2.wipe σ4 vs1) (wipeD g1 vs1) ∧ Dl ∉ ρ ∧ H Dl = some (.lst av) ∧ Rws K ρ H acc av ∧
                Post K E ρ1 H1 (rD K) (((lcL it1 gt1 ct1 fe (wipeD g1 vs1) (it1.ds.drop j) l acc).bind fun acc2 l3 => lc2L it gt ct fi1 gt1 ct1 fe vs1 (wipeD g vs) (it.ds.drop (i + 1)) l3 acc2).bind fun acc l2 => .ok (.adr l2.length) (l2 ++ [.lst acc])) Q,
              ⟨_, rfl, Nat.zero_le _, ρ5, l4, acc, av, Wk.refl, stF, o5, s34.step st5 o4, (s5.step st5 o4).wipe vs1, nD5, hD5, st5.rws o4 ra4, by rw [List.drop_zero]; exact p2⟩, ?_⟩
            rintro j k H6 ⟨rfl, hj, ρ6, l6, acc6, av6, sti, st6, o6, s6, t6, nD6, hD6, ra6, p6⟩
            have ok1 : it1.ok l6 := by
              have ne := Post.ne p6
              by_cases c : it1.ok l6
              · exact c
              · exfalso
                apply ne
                have : lcL it1 gt1 ct1 fe (wipeD g1 vs1) (it1.ds.drop j) l6 acc6 = .bad := by
                  cases it1.ds.drop j with
                  | nil => simp only [lcL, if_neg c]
                  | cons a r => simp only [lcL, if_neg c]
                rw [this]; rfl
            by_cases hlt1 : j < it1.ds.length
            · refine .inr ⟨jr1.go j ρ6 l6 H6 hlt1 o6 sti ok1, fun H => ∃ ρ l acc av, Wk K ρ5 H5 ρ H ∧ Step ρ1 H1 ρ H ∧ Own K ρ l H ∧ Slt K ρ H (L2.wipe σ vs) (wipeD g vs) ∧ Slt K ρ H (L2.wipe σ4 vs1) (wipeD g1 vs1) ∧ Dl ∉ ρ ∧ H Dl = some (.lst av) ∧ Rws K ρ H acc av ∧
                Post K E ρ1 H1 (rD K) (((lcL it1 gt1 ct1 fe (wipeD g1 vs1) (it1.ds.drop (j + 1)) l acc).bind fun acc2 l3 => lc2L it gt ct fi1 gt1 ct1 fe vs1 (wipeD g vs) (it.ds.drop (i + 1)) l3 acc2).bind fun acc l2 => .ok (.adr l2.length) (l2 ++ [.lst acc])) Q, fun H' z => ⟨_, by omega, rfl, hlt1, z⟩, fun x1 H7 y1 => ?_⟩
              obtain ⟨d1, ed1, o7, st7, r7⟩ := jr1.yld j ρ6 l6 H6 x1 H7 hlt1 o6 sti ok1 y1
              rw [List.drop_eq_getElem_cons hlt1] at p6
              have eg1 : it1.ds[j] = d1 := by
                rw [List.getElem?_eq_getElem hlt1] at ed1
                exact Option.some.inj ed1
              rw [eg1] at p6
              simp only [lcL, if_pos ok1] at p6
              have hD7 : H7 Dl = some (.lst av6) := st7.keep _ _ hD6 nD6
              have s7 := s6.step st7 o6
              have t7 := t6.step st7 o6
              have ra7 := st7.rws o6 ra6
              cases q1 : gt1 d1 l6 (wipeD g1 vs1) with
              | none => rw [q1] at p6; exact p6.elim
              | some g2 =>
                rw [q1] at p6
                simp only at p6
                refine ag1.go ρ6 l6 _ _ H7 d1 x1 g2 o7 t7 r7 q1 _ fun σ8 s8 hw1 => ⟨by rw [hw1, wipe_self], ρ6, l6, g2, o7, s8, ?_⟩
                cases qc1 : ct1 g2 l6 with
                | bad => rw [qc1] at p6; exact p6.elim
                | exc C fs l7 => rw [qc1] at p6; exact p6.elim
                | ok b1 l7 =>
                  rw [qc1] at p6
                  simp only [Res.nox, Res.bind] at p6
                  intro ρ8 H8 b1' st8 o8 eb1
                  cases eb1
                  have nD8 : Dl ∉ ρ8 := fun z => by
                    have := st8.new Dl z nD6
                    rw [hD7] at this; cases this
                  have hD8 : H8 Dl = some (.lst av6) := st8.keep _ _ hD7 nD6
                  have s9 := s8.step st8 o7
                  have ra8 := st8.rws o7 ra7
                  cases b1 with
                  | false =>
                    rw [if_neg Bool.false_ne_true] at p6 ⊢
                    exact ⟨ρ8, l7, acc6, av6, (sti.step st7 o6).step st8 o7, (st6.trans st7).trans st8, o8, s7.step st8 o7, t7.step st8 o7, nD8, hD8, ra8, p6⟩
                  | true =>
                    rw [if_pos rfl] at p6 ⊢
                    refine ⟨ρ8, l7, g2, o8, s9, ?_⟩
                    cases qe1 : fe g2 l7 with
                    | bad => rw [qe1] at p6; exact p6.elim
                    | exc C fs l8 => rw [qe1] at p6; exact p6.elim
                    | ok y8 l8 =>
                      rw [qe1] at p6
                      simp only [Res.nox, Res.bind] at p6
                      intro ρ9 H9 yv st9 o9 r9
                      by_cases hs : small (acc6.length + 1) = true
                      · rw [if_pos hs] at p6
                        have nD9 : Dl ∉ ρ9 := fun z => by
                          have := st9.new Dl z nD8
                          rw [hD8] at this; cases this
                        have hD9 : H9 Dl = some (.lst av6) := st9.keep _ _ hD8 nD8
                        have m9 : Mn K ρ9 H9 ρ9 (upd H9 Dl (.lst (av6 ++ [yv]))) := mn_out hD9
                        have ra9 := st9.rws o8 ra8
                        have stA := ((sti.step st7 o6).step st8 o7).step st9 o8
                        have stB := ((st6.trans st7).trans st8).trans st9
                        have upB : Step ρ1 H1 ρ9 (upd H9 Dl (.lst (av6 ++ [yv]))) := ⟨stB.pre, fun a ob e n => by
                          rw [upd_ne (fun z => by rw [z, hD] at e; cases e)]
                          exact stB.keep a ob e n, stB.new, fun a od u e => by
                          rw [upd_ne (fun z => by rw [z, hD] at e; cases e)]
                          exact stB.fz a od u e⟩
                        have wA : Wk K ρ5 H5 ρ9 (upd H9 Dl (.lst (av6 ++ [yv]))) := stA.trans ⟨m9, fun a zs h => by
                          rcases h with (h | ⟨ob, h⟩) | h
                          · exact .inl (.inl (m9.tk a zs h))
                          · exact .inl (.inr ⟨ob, by rw [upd_ne (fun z => by rw [z, hD9] at h; cases h)]; exact h⟩)
                          · exact .inr h, fun a od u e => by
                          rw [upd_ne (fun z => by rw [z, hD9] at e; cases e)]; exact e⟩
                        refine ⟨av6, hD9, by rw [ra9.length]; exact small_lt hs, ρ9, l8, acc6 ++ [y8], av6 ++ [yv], wA, upB, o9.out nD9 hD9, ((s7.step st8 o7).step st9 o8).mn m9, ((t7.step st8 o7).step st9 o8).mn m9, nD9, upd_same, Rws.mono m9 _ _ (ra9.app (Rws.one r9)), p6⟩
                      · rw [if_neg hs] at p6
                        exact p6.elim
            · have e : j = it1.ds.length := by omega
              subst e
              rw [List.drop_length] at p6
              simp only [lcL, if_pos ok1, Res.bind] at p6
              exact .inl ⟨jr1.stop ρ6 l6 H6 o6 sti ok1, ρ6, l6, acc6, av6, st6, o6, s6, nD6, hD6, ra6, p6⟩
  · have e : i = it.ds.length := by omega
    subst e
    rw [List.drop_length] at p2
    simp only [lc2L, if_pos ok, Res.bind] at p2
    refine .inl ⟨jr.stop ρ2 l2 H2 o2 (st.wk o1) ok, ?_⟩
    have m2 : Mn K ρ2 H2 (ρ2 ++ [Dl]) H2 := ⟨px_app, Tk.refl, fun _ _ h => h⟩
    have o3 : Own K (ρ2 ++ [Dl]) (l2 ++ [.lst acc]) H2 := o2.add nD2 m2 ⟨av, hD2, Rws.mono m2 _ _ ra⟩
    obtain ⟨t, ht⟩ := st.pre
    refine p2 (ρ2 ++ [Dl]) H2 _ ⟨⟨t ++ [Dl], by rw [ht]; simp⟩, st.keep, fun a ha hn => ?_, st.fz⟩ o3 (rw_adr (by rw [← o2.len]; simp))
    rcases List.mem_append.mp ha with ha | ha
    · exact st.new a ha hn
    · simp at ha; subst ha; exact hD
section
variable {elt tg' iter tg1' iter1 : Expr} {ifs ifs1 : List Expr} {scope : Scope} {own : List (Str × Nat)} {pos spos : Pos} {i : Nat} {y : Str} {py : Pos}
theorem ae_lc2v (own : List (Str × Nat)) (hv : own.map (·.2) = vs) (hv1 : ∀ v ∈ vs1, v ∈ vs) (hc : X.calm = true) (hN : X.N.Nodup) (hi : AI X E tg' iter fi) (ok : BlkOk X.N X.env.scope scope own)
    (hg : ∀ (s : Shared) (H : Hp) (C : Addr) (cl : List (Str × Addr)) (fp : List Addr), PG (X.blk s H scope (compEnvC scope cl C X.env) fp) tg' tg)
    (ht : ∀ (s : Shared) (H : Hp) (C : Addr) (cl : List (Str × Addr)) (fp : List Addr), PTs (X.blk s H scope (compEnvC scope cl C X.env) fp) ifs (ttOf X.K E0 ct))
    (hi1 : ∀ (s : Shared) (H : Hp) (C : Addr) (cl : List (Str × Addr)) (fp : List Addr), AI (X.blk s H scope (compEnvC scope cl C X.env) fp) E0 tg1' iter1 fi1)
    (hg1 : ∀ (s : Shared) (H : Hp) (C : Addr) (cl : List (Str × Addr)) (fp : List Addr), PG (X.blk s H scope (compEnvC scope cl C X.env) fp) tg1' tg1)
    (ht1 : ∀ (s : Shared) (H : Hp) (C : Addr) (cl : List (Str × Addr)) (fp : List Addr), PTs (X.blk s H scope (compEnvC scope cl C X.env) fp) ifs1 (ttOf X.K E0 ct1))
    (he : ∀ (s : Shared) (H : Hp) (C : Addr) (cl : List (Str × Addr)) (fp : List Addr), AE (X.blk s H scope (compEnvC scope cl C X.env) fp) E0 elt fe)
    (ag : AGw tg X.K vs gt) (ag1 : AGw tg1 X.K vs1 gt1) (hs : ∀ x, foldedSetIterable iter X.env x = pure x := by intro _; rfl) (hs1 : ∀ env x, foldedSetIterable iter1 env x = pure x := by intro _ _; rfl) :
    AE X E (.ListComp elt [⟨tg', iter, ifs, 0⟩, ⟨tg1', iter1, ifs1, 0⟩] scope pos) (dLc2 fi gt ct fi1 gt1 ct1 fe vs vs1) := by
  subst hv
  exact ⟨PE.imp (pe_lc2 hc hN hi.pi ok hv1 hg ht (fun s H C cl fp => (hi1 s H C cl fp).pi) hg1 ht1 (fun s H C cl fp => (he s H C cl fp).pe) hs hs1) fun σ H Q h => lc2_of hv1 ag ag1 h⟩
theorem as_setLc2v (own : List (Str × Nat)) (hv : own.map (·.2) = vs) (hv1 : ∀ v ∈ vs1, v ∈ vs) (hc : X.calm = true) (hN : X.N.Nodup) (hy : X.N[i]? = some y) (hyl : X.env.scope.names.lookup y = some .local)
    (hsw : swapsWith (.ListComp elt [⟨tg', iter, ifs, 0⟩, ⟨tg1', iter1, ifs1, 0⟩] scope pos) (some (.Name y py)) spos.line X.env = pure true) (hi : AI X E tg' iter fi) (ok : BlkOk X.N X.env.scope scope own)
    (hg : ∀ (s : Shared) (H : Hp) (C : Addr) (cl : List (Str × Addr)) (fp : List Addr), PG (X.blk s H scope (compEnvC scope cl C X.env) fp) tg' tg)
    (ht : ∀ (s : Shared) (H : Hp) (C : Addr) (cl : List (Str × Addr)) (fp : List Addr), PTs (X.blk s H scope (compEnvC scope cl C X.env) fp) ifs (ttOf X.K E0 ct))
    (hi1 : ∀ (s : Shared) (H : Hp) (C : Addr) (cl : List (Str × Addr)) (fp : List Addr), AI (X.blk s H scope (compEnvC scope cl C X.env) fp) E0 tg1' iter1 fi1)
    (hg1 : ∀ (s : Shared) (H : Hp) (C : Addr) (cl : List (Str × Addr)) (fp : List Addr), PG (X.blk s H scope (compEnvC scope cl C X.env) fp) tg1' tg1)
    (ht1 : ∀ (s : Shared) (H : Hp) (C : Addr) (cl : List (Str × Addr)) (fp : List Addr), PTs (X.blk s H scope (compEnvC scope cl C X.env) fp) ifs1 (ttOf X.K E0 ct1))
    (he : ∀ (s : Shared) (H : Hp) (C : Addr) (cl : List (Str × Addr)) (fp : List Addr), AE (X.blk s H scope (compEnvC scope cl C X.env) fp) E0 elt fe)
    (ag : AGw tg X.K vs gt) (ag1 : AGw tg1 X.K vs1 gt1) (hs : ∀ x, foldedSetIterable iter X.env x = pure x := by intro _; rfl) (hs1 : ∀ env x, foldedSetIterable iter1 env x = pure x := by intro _ _; rfl) :
    AS X E (.Assign [.Name y py] (.ListComp elt [⟨tg', iter, ifs, 0⟩, ⟨tg1', iter1, ifs1, 0⟩] scope pos) spos) (sSet i (dLc2 fi gt ct fi1 gt1 ct1 fe vs vs1)) := by
  subst hv
  exact ⟨PS.imp (ps_setLc2 hc hN hy hyl hsw hi.pi ok hv1 hg ht (fun s H C cl fp => (hi1 s H C cl fp).pi) hg1 ht1 (fun s H C cl fp => (he s H C cl fp).pe) hs hs1) fun D σ H ⟨ρ, l, g, o, s, p⟩ =>
      lc2_of hv1 ag ag1 ⟨ρ, l, g, o, s, OutP.of (rel := rD X.K) p fun d l1 ρ1 H1 v e1 s1 o1 r1 p1 => p1 ρ1 H1 _ Step.refl o1 ((s.step s1 o).set i r1)⟩⟩
end
end
end Zb

set_option Elab.async false
set_option linter.all false
set_option maxRecDepth 100000
namespace Zb
open PySem L2 PySem.Spec PyProof.Rows
/-! ### shifts of wide ints -/
def shlW (i j : Int) : Bool := decide (0 ≤ j) && decide (j ≤ 1000000) && decide (i.natAbs.log2 < 100000)
section
variable {X : Cx} {E : XK} {a b : Expr} {fa fb : DE} {pos : Pos}
theorem ae_shlW (ha : AE X E a fa) (hb : AE X E b fb) : AE X E (.BinOp a .LShift b pos) (dOp (hInt shlW fun i j => i * 2 ^ j.toNat) fa fb) := ae_op2 (pe_op op_shlW ha.pe hb.pe) (hs_int fun i j h => by
  unfold shlW at h
  simp only [Bool.and_eq_true, decide_eq_true_eq] at h
  have e : ((j.toNat : Nat) : Int) = j := by omega
  rw [← e]
  exact shl_ok (n := i.natAbs.log2 + 1) Nat.lt_log2_self (by omega))
end
/-! ### range(i, j, k), k positive -/
def upN (i j k : Int) : Nat := if i < j then ((j - i - 1) / k + 1).toNat else 0
def upOk (i j k : Int) : Bool := (decide (i.natAbs ≤ 1000000) && decide (j.natAbs ≤ 1000000)) && (decide (0 < k) && decide (k ≤ 1000000))
theorem rgC_up {i j k : Int} (h : upOk i j k = true) : RgC i j k (upN i j k) := by
  unfold upOk at h
  simp only [Bool.and_eq_true, decide_eq_true_eq] at h
  obtain ⟨⟨h1, h2⟩, h3, h4⟩ := h
  have hk : k > 0 := h3
  have hq : i < j → 0 ≤ (j - i - 1) / k ∧ (j - i - 1) / k ≤ j - i - 1 := fun q => ⟨Int.ediv_nonneg (by omega) (by omega), Int.ediv_le_self k (by omega)⟩
  refine ⟨by omega, by omega, ?_, ?_⟩
  · unfold Builtin.Range.small Builtin.Range.rangeSize
    simp only [Builtin.Range.rangeFitsLong, Bool.and_eq_true, Bool.or_eq_true, decide_eq_true_eq, beq_iff_eq, if_pos hk]
    by_cases q : i < j
    · have := hq q
      rw [if_pos q]
      omega
    · rw [if_neg q]
      omega
  · unfold Builtin.Range.rangeSize upN
    rw [if_pos hk]
    by_cases q : i < j
    · have := hq q
      rw [if_pos q, if_pos q]
      omega
    · rw [if_neg q, if_neg q]
      rfl
def dRngP_k1 : List D → Sto → Res ItD := fun ds l1 => match ds with
  | [.int i, .int j, .int k] => if upOk i j k then .ok ⟨rngC i k (upN i j k), none⟩ l1 else .bad
  | _ => .bad
def dRngP (fs : DEs) : DI := fun g l => (fs g l).bind dRngP_k1
@[simp] theorem dRngP_k1_e (i j k : Int) (l : Sto) : dRngP_k1 [.int i, .int j, .int k] l = if upOk i j k then .ok ⟨rngC i k (upN i j k), none⟩ l else .bad := rfl
@[simp] theorem dRngP_e (fs : DEs) (g : Sl) (l : Sto) : dRngP fs g l = (fs g l).bind dRngP_k1 := rfl
section
variable {X : Cx} {E : XK} {tg a b c : Expr} {fs : DEs} {pos p : Pos}
theorem ai_rangeP (hg : Gl X "range") (hm : X.mg "range" = none) (ha : AA X E [a, b, c] fs) (hs : starEach [a, b, c] X.env = (false, eval a X.env) :: starEach [b, c] X.env := by rfl) (hpl : (backTo pos (starEach [b, c] X.env)).any (·.1) = false := by rfl) : AI X E tg (.Call (.Name "range" p) [a, b, c] [] pos) (dRngP fs) := ⟨PI.imp (pi_range3 hg hm ha.pa hs hpl) fun σ H R ⟨ρ, l, g, o, s, pp⟩ => by
  refine ⟨ρ, l, g, o, s, ?_⟩
  unfold dRngP at pp
  refine Post.bind pp fun ds l1 ρ1 H1 vs e1 s1 o1 r1 p1 => ?_
  unfold dRngP_k1 at p1
  split at p1
  · obtain ⟨hc, p2⟩ := Post.ite p1
    simp only [Rws] at r1
    obtain ⟨v1, _, rfl, w1, v2, _, rfl, w2, v3, _, rfl, w3, rfl⟩ := r1
    rw [w1.int_, w2.int_, w3.int_]
    exact ⟨_, _, _, _, rfl, rgC_up hc, p2.here o1 jr_rngC⟩
  · exact p1.elim⟩
end
/-! ### the new combinators applied (simp) -/
section
variable {κ : Type} [DecidableEq κ]
@[simp] theorem vaD_nil (k : κ) : vaD ([] : List (κ × D)) k = none := rfl
end
def dGet2_k3 (x y : D) : D → Sto → Res D := fun z l3 => match hDL x y l3 with
  | some od => .ok (od.getD z) l3
  | none => .bad
def dGet2_k2 (fz : DE) (g : Sl) (x : D) : D → Sto → Res D := fun y l2 => (fz g l2).bind (dGet2_k3 x y)
def dGet2_k1 (fy fz : DE) (g : Sl) : D → Sto → Res D := fun x l1 => if isDct x l1 then (fy g l1).bind (dGet2_k2 fz g x) else .bad
@[simp] theorem dGet2_k3_e (x y z : D) (l : Sto) : dGet2_k3 x y z l = match hDL x y l with
  | some od => .ok (od.getD z) l
  | none => .bad := rfl
@[simp] theorem dGet2_k2_e (fz : DE) (g : Sl) (x y : D) (l : Sto) : dGet2_k2 fz g x y l = (fz g l).bind (dGet2_k3 x y) := rfl
@[simp] theorem dGet2_k1_e (fy fz : DE) (g : Sl) (x : D) (l : Sto) : dGet2_k1 fy fz g x l = if isDct x l then (fy g l).bind (dGet2_k2 fz g x) else .bad := rfl
@[simp] theorem dGet2_e (f fy fz : DE) (g : Sl) (l : Sto) : dGet2 f fy fz g l = (f g l).bind (dGet2_k1 fy fz g) := rfl
def dSetd_k3 (x y : D) : D → Sto → Res D := fun z l3 => match x, keyD y with
  | .adr n, some k => match l3[n]? with
    | some (.dct kvs) => if small (kvs.length + 1) then (match vaD kvs k with
      | some d => .ok d l3
      | none => .ok z (l3.set n (.dct (putD kvs k z)))) else .bad
    | _ => .bad
  | _, _ => .bad
def dSetd_k2 (fz : DE) (g : Sl) (x : D) : D → Sto → Res D := fun y l2 => (fz g l2).bind (dSetd_k3 x y)
def dSetd_k1 (fy fz : DE) (g : Sl) : D → Sto → Res D := fun x l1 => if isDct x l1 then (fy g l1).bind (dSetd_k2 fz g x) else .bad
@[simp] theorem dSetd_k3_e (x y z : D) (l : Sto) : dSetd_k3 x y z l = match x, keyD y with
  | .adr n, some k => match l[n]? with
    | some (.dct kvs) => if small (kvs.length + 1) then (match vaD kvs k with
      | some d => .ok d l
      | none => .ok z (l.set n (.dct (putD kvs k z)))) else .bad
    | _ => .bad
  | _, _ => .bad := rfl
@[simp] theorem dSetd_k2_e (fz : DE) (g : Sl) (x y : D) (l : Sto) : dSetd_k2 fz g x y l = (fz g l).bind (dSetd_k3 x y) := rfl
@[simp] theorem dSetd_k1_e (fy fz : DE) (g : Sl) (x : D) (l : Sto) : dSetd_k1 fy fz g x l = if isDct x l then (fy g l).bind (dSetd_k2 fz g x) else .bad := rfl
@[simp] theorem dSetd_e (f fy fz : DE) (g : Sl) (l : Sto) : dSetd f fy fz g l = (f g l).bind (dSetd_k1 fy fz g) := rfl
def sDSet_k3 (g : Sl) (d x : D) : D → Sto → Out := fun y l3 => match hDP x y d l3 with
  | some l4 => .nx g l4
  | none => .bad
def sDSet_k2 (fi : DE) (g : Sl) (d : D) : D → Sto → Out := fun x l2 => (fi g l2).out (sDSet_k3 g d x)
def sDSet_k1 (fo fi : DE) (g : Sl) : D → Sto → Out := fun d l1 => (fo g l1).out (sDSet_k2 fi g d)
@[simp] theorem sDSet_k3_e (g : Sl) (d x y : D) (l : Sto) : sDSet_k3 g d x y l = match hDP x y d l with
  | some l4 => .nx g l4
  | none => .bad := rfl
@[simp] theorem sDSet_k2_e (fi : DE) (g : Sl) (d x : D) (l : Sto) : sDSet_k2 fi g d x l = (fi g l).out (sDSet_k3 g d x) := rfl
@[simp] theorem sDSet_k1_e (fo fi : DE) (g : Sl) (d : D) (l : Sto) : sDSet_k1 fo fi g d l = (fo g l).out (sDSet_k2 fi g d) := rfl
@[simp] theorem sDSet_e (fo fi f : DE) (g : Sl) (l : Sto) : sDSet fo fi f g l = (f g l).out (sDSet_k1 fo fi g) := rfl
@[simp] theorem dNewK_e (g : Sl) (l : Sto) : dNewK g l = .ok (.adr l.length) (l ++ [.dct []]) := rfl
@[simp] theorem dNewT_e (g : Sl) (l : Sto) : dNewT g l = .ok (.adr l.length) (l ++ [.dtt []]) := rfl
@[simp] theorem thaw_nx (n : Nat) (ob : OB) (g : Sl) (l : Sto) : thaw n ob (.nx g l) = .nx g (l.set n ob) := rfl
@[simp] theorem thaw_rt (n : Nat) (ob : OB) (d : D) (l : Sto) : thaw n ob (.rt d l) = .rt d (l.set n ob) := rfl
@[simp] theorem sLock_e (i : Nat) (t : DS) (g : Sl) (l : Sto) : sLock i t g l = match g[i]? with
  | some (some (.adr n)) => match l[n]? with
    | some (.dct kvs) => thaw n (.dct kvs) (t g (l.set n (.fct kvs)))
    | some (.dtt kvs) => thaw n (.dtt kvs) (t g (l.set n (.ftt kvs)))
    | _ => .bad
  | _ => .bad := rfl
def dKeys_k1 : D → Sto → Res ItD := fun d l1 => match d with
  | .adr n => match l1[n]? with
    | some (.fct kvs) => .ok ⟨keysK kvs, none⟩ l1
    | some (.ftt kvs) => .ok ⟨keysT kvs, none⟩ l1
    | _ => .bad
  | _ => .bad
@[simp] theorem dKeys_k1_e (n : Nat) (l : Sto) : dKeys_k1 (.adr n) l = match l[n]? with
    | some (.fct kvs) => .ok ⟨keysK kvs, none⟩ l
    | some (.ftt kvs) => .ok ⟨keysT kvs, none⟩ l
    | _ => .bad := rfl
@[simp] theorem dKeys_e (f : DE) (g : Sl) (l : Sto) : dKeys f g l = (f g l).bind dKeys_k1 := by
  unfold dKeys
  congr 1
def dLstR_k1 : D → Sto → Res D := fun d l1 => match d with
  | .int j => if decide (0 ≤ j) && decide (j ≤ 16777216) then .ok (.adr l1.length) (l1 ++ [.lst (rng 0 j.toNat)]) else .bad
  | _ => .bad
@[simp] theorem dLstR_k1_e (j : Int) (l : Sto) : dLstR_k1 (.int j) l = if decide (0 ≤ j) && decide (j ≤ 16777216) then .ok (.adr l.length) (l ++ [.lst (rng 0 j.toNat)]) else .bad := rfl
@[simp] theorem dLstR_e (f : DE) (g : Sl) (l : Sto) : dLstR f g l = (f g l).bind dLstR_k1 := rfl
noncomputable def dLc2_k2 : List D → Sto → Res D := fun acc l2 => .ok (.adr l2.length) (l2 ++ [.lst acc])
@[simp] theorem dLc2_k2_e (acc : List D) (l : Sto) : dLc2_k2 acc l = .ok (.adr l.length) (l ++ [.lst acc]) := rfl
noncomputable def dLc2_k1 (gt : D → Sto → Sl → Option Sl) (ct : DB) (fi1 : DI) (gt1 : D → Sto → Sl → Option Sl) (ct1 : DB) (fe : DE) (vs vs1 : List Nat) (g : Sl) : ItD → Sto → Res D := fun it l1 => (lc2L it gt ct fi1 gt1 ct1 fe vs1 (wipeD g vs) it.ds l1 []).bind dLc2_k2
@[simp] theorem dLc2_k1_e (gt : D → Sto → Sl → Option Sl) (ct : DB) (fi1 : DI) (gt1 : D → Sto → Sl → Option Sl) (ct1 : DB) (fe : DE) (vs vs1 : List Nat) (g : Sl) (it : ItD) (l : Sto) : dLc2_k1 gt ct fi1 gt1 ct1 fe vs vs1 g it l = (lc2L it gt ct fi1 gt1 ct1 fe vs1 (wipeD g vs) it.ds l []).bind dLc2_k2 := rfl
@[simp] theorem dLc2_e (fi : DI) (gt : D → Sto → Sl → Option Sl) (ct : DB) (fi1 : DI) (gt1 : D → Sto → Sl → Option Sl) (ct1 : DB) (fe : DE) (vs vs1 : List Nat) (g : Sl) (l : Sto) : dLc2 fi gt ct fi1 gt1 ct1 fe vs vs1 g l = (fi g l).bind (dLc2_k1 gt ct fi1 gt1 ct1 fe vs vs1 g) := rfl
@[simp] theorem hDG_e (x y : D) (l : Sto) : hDG x y l = match hDL x y l with
  | some (some d) => .ok d l
  | _ => .bad := rfl
@[simp] theorem hDL_adr (n : Nat) (y : D) (l : Sto) : hDL (.adr n) y l = match l[n]? with
    | some (.dct kvs) => (keyD y).map (vaD kvs)
    | some (.fct kvs) => (keyD y).map (vaD kvs)
    | some (.dtt kvs) => match y with
      | .tup ds => (keysD ds).map (vaD kvs)
      | _ => none
    | some (.ftt kvs) => match y with
      | .tup ds => (keysD ds).map (vaD kvs)
      | _ => none
    | _ => none := rfl
@[simp] theorem isDct_adr (n : Nat) (l : Sto) : isDct (.adr n) l = match l[n]? with
    | some (.dct _) => true
    | some (.fct _) => true
    | some (.dtt _) => true
    | some (.ftt _) => true
    | _ => false := rfl
@[simp] theorem hDP_adr (n : Nat) (y d : D) (l : Sto) : hDP (.adr n) y d l = match l[n]? with
    | some (.dct kvs) => match keyD y with
      | some k => if small (kvs.length + 1) then some (l.set n (.dct (putD kvs k d))) else none
      | none => none
    | some (.dtt kvs) => match y with
      | .tup ds => match keysD ds with
        | some ks => if small (kvs.length + 1) then some (l.set n (.dtt (putD kvs ks d))) else none
        | none => none
      | _ => none
    | _ => none := rfl
@[simp] theorem hMaxK_adr (n : Nat) (l : Sto) : hMaxK [.adr n] l = match l[n]? with
    | some (.dct kvs) => okI ((keyInts kvs).bind maxI) l
    | _ => .bad := rfl
@[simp] theorem hMaxL_adr (n : Nat) (l : Sto) : hMaxL [.adr n] l = match l[n]? with
    | some (.lst ds) => okI ((intsOf ds).bind maxI) l
    | _ => .bad := rfl
@[simp] theorem hMinL_adr (n : Nat) (l : Sto) : hMinL [.adr n] l = match l[n]? with
    | some (.lst ds) => okI ((intsOf ds).bind minI) l
    | _ => .bad := rfl
@[simp] theorem okI_some (i : Int) (l : Sto) : okI (some i) l = .ok (.int i) l := rfl
@[simp] theorem hGcd_e (a b : Int) (l : Sto) : hGcd [.int a, .int b] l = .ok (.int ((Nat.gcd a.natAbs b.natAbs : Nat) : Int)) l := rfl
end Zb

set_option Elab.async false
set_option linter.all false
set_option maxRecDepth 100000
set_option maxHeartbeats 4000000
namespace Q81
open PySem L2 PySem.Spec PyProof.Rows Zb
def top (i : Nat) : Stmt := PySem.Challenge.pw_throwntrue_k81_whole_bits.main.body.getD i (.Pass ⟨0, 0, 0, 0⟩)
structure Bu (mg : Str → Option Value) : Prop where
  m_abs : mg "abs" = none
  m_bool : mg "bool" = none
  m_enumerate : mg "enumerate" = none
  m_int : mg "int" = none
  m_isinstance : mg "isinstance" = none
  m_len : mg "len" = none
  m_list : mg "list" = none
  m_max : mg "max" = none
  m_min : mg "min" = none
  m_range : mg "range" = none
  m_str : mg "str" = none
  m_sum : mg "sum" = none
  m_tuple : mg "tuple" = none
  m_zip : mg "zip" = none
  m_gcd : mg "gcd" = some (.builtin "math.gcd")
/-! choices -/
abbrev s_choices : Stmt := top 2
abbrev sc_choicesN : List Str := ["many", "few", "told", "step"]
theorem sc_choices : FnScope sc_choicesN ["many", "few"] (defScope s_choices) := ⟨rfl, rfl, rfl, by decide +kernel, rfl, by decide +kernel, by decide +kernel⟩
noncomputable def b1_choices : DS :=
  (sSet 2 (dOp (hInt (fun _ j => divOk j) fun i j => i / j) (dOp hMulT (dV 2) (dOp (hInt yes2 fun i j => i - j) (dV 0) (dV 3))) (dOp hAdd (dV 3) (dC (.int 1)))))
noncomputable def den_choices : DS :=
  (sSeq (sIf (dBl (dOp (hCmp fun i j => decide (j < i)) (dV 1) (dV 0))) (sRet (dC (.int 0))) sNx)
    (sSeq (sSet 2 (dC (.int 1)))
    (sSeq (sFor (dRng1 (dCons (dCB hMin2 (dCons (dV 1) (dCons (dOp (hInt yes2 fun i j => i - j) (dV 0) (dV 1)) dNil))) dNil)) (gN 3) b1_choices)
    (sRet (dV 2)))))
noncomputable def m_choices : List D → Sto → Res D := callM (runB 4 den_choices)
theorem ok_choices {P : Program} {w : World} {K : PySem.W.Frag} {mg : Str → Option Value} {base : Heap} {f : Addr} {fd : FuncData} (F : Fun K "choices" "choices" s_choices f fd) (B : Bu mg) :
    FnOk P w K mg base CX0 1 f fd ["many", "few"] (spD K 2 (runB 4 den_choices)) :=
  ok_body (k := 0) F sc_choices fun cdv A outer s H E hr =>
    (as_cons (as_if (at_gt (ae_var (pv 1)) (ae_var (pv 0))) (as_one (as_ret ae_int)) as_nil)
    (as_cons (as_set (i := 2) sc_choices.nd rfl (Or.inl rfl) ae_int)
    (as_cons (as_for PassesOwn.never rfl (ai_range1 rfl B.m_range (aa_cons (ae_min2 rfl rfl B.m_min (aa_cons (ae_var (pv 1)) (aa_cons (ae_sub (ae_var (pv 0)) (ae_var (pv 1))) aa_nil))) aa_nil)) (ag_name (i := 3) sc_choices.nd rfl (Or.inl rfl)) (as_one (as_set (i := 2) sc_choices.nd rfl (Or.inl rfl) (ae_div (ae_mulT (ae_var (pv 2)) (ae_sub (ae_var (pv 0)) (ae_var (pv 3)))) (ae_add (ae_var (pv 3)) ae_int)))))
    (as_one (as_ret (ae_var (pv 2)))))))
/-! choice_row -/
abbrev s_choice_row : Stmt := top 3
abbrev sc_choice_rowN : List Str := ["many", "row", "step"]
theorem sc_choice_row : FnScope sc_choice_rowN ["many"] (defScope s_choice_row) := ⟨rfl, rfl, rfl, by decide +kernel, rfl, by decide +kernel, by decide +kernel⟩
noncomputable def b1_choice_row : DS :=
  (sExpr (dMe hApp (dV 1) (dCons (dOp (hInt (fun _ j => divOk j) fun i j => i / j) (dOp hMulT (dOp hIx (dV 1) (dUn hNeg (dC (.int 1)))) (dOp (hInt yes2 fun i j => i - j) (dV 0) (dV 2))) (dOp hAdd (dV 2) (dC (.int 1)))) dNil)))
noncomputable def den_choice_row : DS :=
  (sSeq (sSet 1 (dLst (dCons (dC (.int 1)) dNil)))
    (sSeq (sFor (dRng1 (dCons (dV 0) dNil)) (gN 2) b1_choice_row)
    (sRet (dCB hTupOf (dCons (dV 1) dNil)))))
noncomputable def m_choice_row : List D → Sto → Res D := callM (runB 3 den_choice_row)
theorem ok_choice_row {P : Program} {w : World} {K : PySem.W.Frag} {mg : Str → Option Value} {base : Heap} {f : Addr} {fd : FuncData} (F : Fun K "choice_row" "choice_row" s_choice_row f fd) (B : Bu mg) :
    FnOk P w K mg base CX0 1 f fd ["many"] (spD K 1 (runB 3 den_choice_row)) :=
  ok_body (k := 0) F sc_choice_row fun cdv A outer s H E hr =>
    (as_cons (as_set (i := 1) sc_choice_row.nd rfl (Or.inl rfl) (ae_lst (aa_cons ae_int aa_nil)))
    (as_cons (as_for PassesOwn.never rfl (ai_range1 rfl B.m_range (aa_cons (ae_var (pv 0)) aa_nil)) (ag_name (i := 2) sc_choice_row.nd rfl (Or.inl rfl)) (as_one (as_expr (ae_append (ae_var (pv 1)) (aa_cons (ae_div (ae_mulT (ae_ix (ae_var (pv 1)) (ae_neg ae_int)) (ae_sub (ae_var (pv 0)) (ae_var (pv 2)))) (ae_add (ae_var (pv 2)) ae_int)) aa_nil)))))
    (as_one (as_ret (ae_tupOf rfl B.m_tuple (aa_cons (ae_var (pv 1)) aa_nil))))))
/-! power -/
abbrev s_power : Stmt := top 4
abbrev sc_powerN : List Str := ["number", "times", "told", "base"]
theorem sc_power : FnScope sc_powerN ["number", "times"] (defScope s_power) := ⟨rfl, rfl, rfl, by decide +kernel, rfl, by decide +kernel, by decide +kernel⟩
noncomputable def c1_power : DB :=
  (dBl (dOp (hCmp fun i j => decide (j < i)) (dV 1) (dC (.int 0))))
noncomputable def b2_power : DS :=
  (sSeq (sIf (dBl (dOp hEq (dOp (hInt (fun _ j => decide (j ≠ 0)) Int.fmod) (dV 1) (dC (.int 2))) (dC (.int 1)))) (sSet 2 (dOp hMulT (dV 2) (dV 3))) sNx)
    (sSeq (sSet 3 (dOp hMulT (dV 3) (dV 3)))
    (sSet 1 (dOp (hInt (fun _ j => divOk j) fun i j => i / j) (dV 1) (dC (.int 2))))))
noncomputable def den_power : DS :=
  (sSeq (sPar 2 3 (dCons (dC (.int 1)) (dCons (dV 0) dNil)))
    (sSeq (sWhile fuel c1_power b2_power)
    (sRet (dV 2))))
noncomputable def m_power : List D → Sto → Res D := callM (runB 4 den_power)
theorem ok_power {P : Program} {w : World} {K : PySem.W.Frag} {mg : Str → Option Value} {base : Heap} {f : Addr} {fd : FuncData} (F : Fun K "power" "power" s_power f fd) (B : Bu mg) :
    FnOk P w K mg base CX0 1 f fd ["number", "times"] (spD K 2 (runB 4 den_power)) :=
  ok_body (k := 0) F sc_power fun cdv A outer s H E hr =>
    (as_cons (as_par (i := 2) (j := 3) rfl sc_power.nd rfl rfl (by decide) rfl rfl (aa_cons ae_int (aa_cons (ae_var (pv 0)) aa_nil)) rfl)
    (as_cons (as_while PassesOwn.never (at_gt (ae_var (pv 1)) ae_int) (as_cons (as_if (at_eq hr.units (ae_mod (ae_var (pv 1)) ae_int) ae_int) (as_one (as_set (i := 2) sc_power.nd rfl (Or.inl rfl) (ae_mulT (ae_var (pv 2)) (ae_var (pv 3))))) as_nil)
    (as_cons (as_set (i := 3) sc_power.nd rfl (Or.inl rfl) (ae_mulT (ae_var (pv 3)) (ae_var (pv 3))))
    (as_one (as_set (i := 1) sc_power.nd rfl (Or.inl rfl) (ae_div (ae_var (pv 1)) ae_int))))))
    (as_one (as_ret (ae_var (pv 2))))))
/-! fraction -/
abbrev s_fraction : Stmt := top 6
abbrev sc_fractionN : List Str := ["top", "bottom", "common"]
theorem sc_fraction : FnScope sc_fractionN ["top", "bottom"] (defScope s_fraction) := ⟨rfl, rfl, rfl, by decide +kernel, rfl, by decide +kernel, by decide +kernel⟩
noncomputable def den_fraction : DS :=
  (sSeq (sSet 2 (dCB hGcd (dCons (dV 0) (dCons (dV 1) dNil))))
    (sRet (dTup (dCons (dOp (hInt (fun _ j => divOk j) fun i j => i / j) (dV 0) (dV 2)) (dCons (dOp (hInt (fun _ j => divOk j) fun i j => i / j) (dV 1) (dV 2)) dNil)))))
noncomputable def m_fraction : List D → Sto → Res D := callM (runB 3 den_fraction)
theorem ok_fraction {P : Program} {w : World} {K : PySem.W.Frag} {mg : Str → Option Value} {base : Heap} {f : Addr} {fd : FuncData} (F : Fun K "fraction" "fraction" s_fraction f fd) (B : Bu mg) :
    FnOk P w K mg base CX0 1 f fd ["top", "bottom"] (spD K 2 (runB 3 den_fraction)) :=
  ok_body (k := 0) F sc_fraction fun cdv A outer s H E hr =>
    (as_cons (as_set (i := 2) sc_fraction.nd rfl (Or.inl rfl) (ae_gcd rfl B.m_gcd (aa_cons (ae_var (pv 0)) (aa_cons (ae_var (pv 1)) aa_nil))))
    (as_one (as_ret (ae_tup (aa_cons (ae_div (ae_var (pv 0)) (ae_var (pv 2))) (aa_cons (ae_div (ae_var (pv 1)) (ae_var (pv 2))) aa_nil))))))
/-! heavy_faces -/
abbrev s_heavy_faces : Stmt := top 8
abbrev sc_heavy_facesN : List Str := ["die", "face", "weight"]
theorem sc_heavy_faces : FnScope sc_heavy_facesN ["die"] (defScope s_heavy_faces) := ⟨rfl, rfl, rfl, by decide +kernel, rfl, by decide +kernel, by decide +kernel⟩
noncomputable def e1_heavy_faces : DE :=
  (dV 1)
noncomputable def q2_heavy_faces : DB :=
  (dBl (dOp hEq (dV 2) (dOp hIx (dV 0) (dC (.int 0)))))
noncomputable def den_heavy_faces : DS :=
  (sRet (dCB hTupOf (dCons (dLc (dEnum (dCons (dV 0) dNil)) (gT [1, 2]) q2_heavy_faces e1_heavy_faces [1, 2]) dNil)))
noncomputable def m_heavy_faces : List D → Sto → Res D := callM (runB 3 den_heavy_faces)
theorem ok_heavy_faces {P : Program} {w : World} {K : PySem.W.Frag} {mg : Str → Option Value} {base : Heap} {f : Addr} {fd : FuncData} (F : Fun K "heavy_faces" "heavy_faces" s_heavy_faces f fd) (B : Bu mg) :
    FnOk P w K mg base CX0 1 f fd ["die"] (spD K 1 (runB 3 den_heavy_faces)) :=
  ok_body (k := 0) F sc_heavy_faces fun cdv A outer s H E hr =>
    (as_one (as_ret (ae_tupOf rfl B.m_tuple (aa_cons (ae_lcv [("face", 1), ("weight", 2)] rfl rfl sc_heavy_faces.nd (ai_enum rfl B.m_enumerate (aa_cons (ae_var (pv 0)) aa_nil)) (blkOk_by (own := [("face", 1), ("weight", 2)]) (N := sc_heavy_facesN) (sc := defScope s_heavy_faces) (by decide +kernel)) (fun _ _ _ _ _ => pg_tup rfl (pgs_cons (pg_name (i := 1) sc_heavy_faces.nd rfl (Or.inl rfl)) (pgs_cons (pg_name (i := 2) sc_heavy_faces.nd rfl (Or.inl rfl)) pgs_nil))) (fun _ _ _ _ _ => pts_one_ (at_eq hr.units (ae_var (pv 2)) (ae_ix (ae_var (pv 0)) ae_int))) (fun _ _ _ _ _ => (ae_var (pv 1))) (agw_two (by decide) (by decide))) aa_nil))))
/-! light_faces -/
abbrev s_light_faces : Stmt := top 9
abbrev sc_light_facesN : List Str := ["die", "face", "weight"]
theorem sc_light_faces : FnScope sc_light_facesN ["die"] (defScope s_light_faces) := ⟨rfl, rfl, rfl, by decide +kernel, rfl, by decide +kernel, by decide +kernel⟩
noncomputable def e1_light_faces : DE :=
  (dV 1)
noncomputable def q2_light_faces : DB :=
  (dBl (dOp hNe (dV 2) (dOp hIx (dV 0) (dC (.int 0)))))
noncomputable def den_light_faces : DS :=
  (sRet (dCB hTupOf (dCons (dLc (dEnum (dCons (dV 0) dNil)) (gT [1, 2]) q2_light_faces e1_light_faces [1, 2]) dNil)))
noncomputable def m_light_faces : List D → Sto → Res D := callM (runB 3 den_light_faces)
theorem ok_light_faces {P : Program} {w : World} {K : PySem.W.Frag} {mg : Str → Option Value} {base : Heap} {f : Addr} {fd : FuncData} (F : Fun K "light_faces" "light_faces" s_light_faces f fd) (B : Bu mg) :
    FnOk P w K mg base CX0 1 f fd ["die"] (spD K 1 (runB 3 den_light_faces)) :=
  ok_body (k := 0) F sc_light_faces fun cdv A outer s H E hr =>
    (as_one (as_ret (ae_tupOf rfl B.m_tuple (aa_cons (ae_lcv [("face", 1), ("weight", 2)] rfl rfl sc_light_faces.nd (ai_enum rfl B.m_enumerate (aa_cons (ae_var (pv 0)) aa_nil)) (blkOk_by (own := [("face", 1), ("weight", 2)]) (N := sc_light_facesN) (sc := defScope s_light_faces) (by decide +kernel)) (fun _ _ _ _ _ => pg_tup rfl (pgs_cons (pg_name (i := 1) sc_light_faces.nd rfl (Or.inl rfl)) (pgs_cons (pg_name (i := 2) sc_light_faces.nd rfl (Or.inl rfl)) pgs_nil))) (fun _ _ _ _ _ => pts_one_ (at_ne hr.units (ae_var (pv 2)) (ae_ix (ae_var (pv 0)) ae_int))) (fun _ _ _ _ _ => (ae_var (pv 1))) (agw_two (by decide) (by decide))) aa_nil))))
/-! die_form -/
abbrev s_die_form : Stmt := top 10
abbrev sc_die_formN : List Str := ["die", "light", "weight"]
theorem sc_die_form : FnScope sc_die_formN ["die"] (defScope s_die_form) := ⟨rfl, rfl, rfl, by decide +kernel, rfl, by decide +kernel, by decide +kernel⟩
noncomputable def den_die_form : DS :=
  (sSeq (sSet 1 (dCall 1 m_light_faces (dCons (dV 0) dNil)))
    (sSeq (sSet 2 (dIfE (dBl (dOp (hCmp fun i j => decide (j < i)) (dCB hLen (dCons (dV 1) dNil)) (dC (.int 0)))) (dOp hIx (dV 0) (dOp hIx (dV 1) (dC (.int 0)))) (dC (.int 1))))
    (sRet (dTup (dCons (dOp hIx (dV 0) (dC (.int 0))) (dCons (dOp (hInt yes2 fun i j => i - j) (dCB hLen (dCons (dV 0) dNil)) (dCB hLen (dCons (dV 1) dNil))) (dCons (dV 2) (dCons (dCB hLen (dCons (dV 1) dNil)) dNil))))))))
noncomputable def m_die_form : List D → Sto → Res D := callM (runB 3 den_die_form)
theorem ok_die_form {P : Program} {w : World} {K : PySem.W.Frag} {mg : Str → Option Value} {base : Heap} {f : Addr} {fd : FuncData} (F : Fun K "die_form" "die_form" s_die_form f fd) (B : Bu mg)
    (h_light_faces : Has CX0 P w K mg base "light_faces" 1 ["die"] (spD K 1 m_light_faces)) :
    FnOk P w K mg base CX0 2 f fd ["die"] (spD K 1 (runB 3 den_die_form)) :=
  ok_body (k := 1) F sc_die_form fun cdv A outer s H E hr =>
    (as_cons (as_set (i := 1) sc_die_form.nd rfl (Or.inl rfl) (ae_callD h_light_faces (hr.mono (by decide)) rfl (aa_cons (ae_var (pv 0)) aa_nil)))
    (as_cons (as_set (i := 2) sc_die_form.nd rfl (Or.inl rfl) (ae_if (at_gt (ae_len rfl B.m_len (aa_cons (ae_var (pv 1)) aa_nil)) ae_int) (ae_ix (ae_var (pv 0)) (ae_ix (ae_var (pv 1)) ae_int)) ae_int))
    (as_one (as_ret (ae_tup (aa_cons (ae_ix (ae_var (pv 0)) ae_int) (aa_cons (ae_sub (ae_len rfl B.m_len (aa_cons (ae_var (pv 0)) aa_nil)) (ae_len rfl B.m_len (aa_cons (ae_var (pv 1)) aa_nil))) (aa_cons (ae_var (pv 2)) (aa_cons (ae_len rfl B.m_len (aa_cons (ae_var (pv 1)) aa_nil)) aa_nil)))))))))
/-! is_heavy -/
abbrev s_is_heavy : Stmt := top 11
abbrev sc_is_heavyN : List Str := ["die", "face"]
theorem sc_is_heavy : FnScope sc_is_heavyN ["die", "face"] (defScope s_is_heavy) := ⟨rfl, rfl, rfl, by decide +kernel, rfl, by decide +kernel, by decide +kernel⟩
noncomputable def den_is_heavy : DS :=
  (sRet (dOp hEq (dOp hIx (dV 0) (dV 1)) (dOp hIx (dV 0) (dC (.int 0)))))
noncomputable def m_is_heavy : List D → Sto → Res D := callM (runB 2 den_is_heavy)
theorem ok_is_heavy {P : Program} {w : World} {K : PySem.W.Frag} {mg : Str → Option Value} {base : Heap} {f : Addr} {fd : FuncData} (F : Fun K "is_heavy" "is_heavy" s_is_heavy f fd) (B : Bu mg) :
    FnOk P w K mg base CX0 1 f fd ["die", "face"] (spD K 2 (runB 2 den_is_heavy)) :=
  ok_body (k := 0) F sc_is_heavy fun cdv A outer s H E hr =>
    (as_one (as_ret (ae_eq hr.units (ae_ix (ae_var (pv 0)) (ae_var (pv 1))) (ae_ix (ae_var (pv 0)) ae_int))))
/-! face_place -/
abbrev s_face_place : Stmt := top 12
abbrev sc_face_placeN : List Str := ["die", "face", "other"]
theorem sc_face_place : FnScope sc_face_placeN ["die", "face"] (defScope s_face_place) := ⟨rfl, rfl, rfl, by decide +kernel, rfl, by decide +kernel, by decide +kernel⟩
noncomputable def e1_face_place : DE :=
  (dV 2)
noncomputable def q2_face_place : DB :=
  (dBl (dOp hEq (dOp hIx (dV 0) (dV 2)) (dOp hIx (dV 0) (dV 1))))
noncomputable def den_face_place : DS :=
  (sRet (dCB hLen (dCons (dLc (dRng1 (dCons (dV 1) dNil)) (gN 2) q2_face_place e1_face_place [2]) dNil)))
noncomputable def m_face_place : List D → Sto → Res D := callM (runB 3 den_face_place)
theorem ok_face_place {P : Program} {w : World} {K : PySem.W.Frag} {mg : Str → Option Value} {base : Heap} {f : Addr} {fd : FuncData} (F : Fun K "face_place" "face_place" s_face_place f fd) (B : Bu mg) :
    FnOk P w K mg base CX0 1 f fd ["die", "face"] (spD K 2 (runB 3 den_face_place)) :=
  ok_body (k := 0) F sc_face_place fun cdv A outer s H E hr =>
    (as_one (as_ret (ae_len rfl B.m_len (aa_cons (ae_lcv [("other", 2)] rfl rfl sc_face_place.nd (ai_range1 rfl B.m_range (aa_cons (ae_var (pv 1)) aa_nil)) (blkOk_by (own := [("other", 2)]) (N := sc_face_placeN) (sc := defScope s_face_place) (by decide +kernel)) (fun _ _ _ _ _ => pg_name (i := 2) sc_face_place.nd rfl (Or.inl rfl)) (fun _ _ _ _ _ => pts_one_ (at_eq hr.units (ae_ix (ae_var (pv 0)) (ae_var (pv 2))) (ae_ix (ae_var (pv 0)) (ae_var (pv 1))))) (fun _ _ _ _ _ => (ae_var (pv 2))) (agw_name (by decide))) aa_nil))))
/-! kind_sizes -/
abbrev s_kind_sizes : Stmt := top 14
abbrev sc_kind_sizesN : List Str := ["die", "throws", "heavy", "many", "light", "few", "row", "kind"]
theorem sc_kind_sizes : FnScope sc_kind_sizesN ["die", "throws"] (defScope s_kind_sizes) := ⟨rfl, rfl, rfl, by decide +kernel, rfl, by decide +kernel, by decide +kernel⟩
noncomputable def e1_kind_sizes : DE :=
  (dOp hMulT (dOp hMulT (dOp hIx (dV 6) (dV 7)) (dCall 2 m_power (dCons (dV 3) (dCons (dV 7) dNil)))) (dCall 2 m_power (dCons (dV 5) (dCons (dOp (hInt yes2 fun i j => i - j) (dV 1) (dV 7)) dNil))))
noncomputable def den_kind_sizes : DS :=
  (sSeq (sAsg (gT [2, 3, 4, 5]) (dCall 1 m_die_form (dCons (dV 0) dNil)))
    (sSeq (sSet 6 (dCall 1 m_choice_row (dCons (dV 1) dNil)))
    (sRet (dCB hTupOf (dCons (dLc (dRng1 (dCons (dOp hAdd (dV 1) (dC (.int 1))) dNil)) (gN 7) dYes e1_kind_sizes [7]) dNil)))))
noncomputable def m_kind_sizes : List D → Sto → Res D := callM (runB 8 den_kind_sizes)
theorem ok_kind_sizes {P : Program} {w : World} {K : PySem.W.Frag} {mg : Str → Option Value} {base : Heap} {f : Addr} {fd : FuncData} (F : Fun K "kind_sizes" "kind_sizes" s_kind_sizes f fd) (B : Bu mg)
    (h_die_form : Has CX0 P w K mg base "die_form" 2 ["die"] (spD K 1 m_die_form))
    (h_choice_row : Has CX0 P w K mg base "choice_row" 1 ["many"] (spD K 1 m_choice_row))
    (h_power : Has CX0 P w K mg base "power" 1 ["number", "times"] (spD K 2 m_power)) :
    FnOk P w K mg base CX0 3 f fd ["die", "throws"] (spD K 2 (runB 8 den_kind_sizes)) :=
  ok_body (k := 2) F sc_kind_sizes fun cdv A outer s H E hr =>
    (as_cons (as_asg (ae_callD h_die_form (hr.mono (by decide)) rfl (aa_cons (ae_var (pv 0)) aa_nil)) (ag_tup rfl (ags_cons (i := 2) sc_kind_sizes.nd rfl (Or.inl rfl) (ags_cons (i := 3) sc_kind_sizes.nd rfl (Or.inr rfl) (ags_cons (i := 4) sc_kind_sizes.nd rfl (Or.inl rfl) (ags_cons (i := 5) sc_kind_sizes.nd rfl (Or.inr rfl) ags_nil))))))
    (as_cons (as_set (i := 6) sc_kind_sizes.nd rfl (Or.inr rfl) (ae_callD h_choice_row (hr.mono (by decide)) rfl (aa_cons (ae_var (pv 1)) aa_nil)))
    (as_one (as_ret (ae_tupOf rfl B.m_tuple (aa_cons (ae_lcv [("kind", 7)] rfl rfl sc_kind_sizes.nd (ai_range1 rfl B.m_range (aa_cons (ae_add (ae_var (pv 1)) ae_int) aa_nil)) (blkOk_by (own := [("kind", 7)]) (N := sc_kind_sizesN) (sc := defScope s_kind_sizes) (by decide +kernel)) (fun _ _ _ _ _ => pg_name (i := 7) sc_kind_sizes.nd rfl (Or.inl rfl)) (fun _ _ _ _ _ => pts_none) (fun _ _ _ _ _ => (ae_mulT (ae_mulT (ae_ix (ae_var (pv 6)) (ae_var (pv 7))) (ae_callD h_power (hr.mono (by decide)) rfl (aa_cons (ae_var (pv 3)) (aa_cons (ae_var (pv 7)) aa_nil)))) (ae_callD h_power (hr.mono (by decide)) rfl (aa_cons (ae_var (pv 5)) (aa_cons (ae_sub (ae_var (pv 1)) (ae_var (pv 7))) aa_nil))))) (agw_name (by decide))) aa_nil))))))
/-! kind_masses -/
abbrev s_kind_masses : Stmt := top 15
abbrev sc_kind_massesN : List Str := ["die", "throws", "heavy", "many", "light", "few", "kind"]
theorem sc_kind_masses : FnScope sc_kind_massesN ["die", "throws"] (defScope s_kind_masses) := ⟨rfl, rfl, rfl, by decide +kernel, rfl, by decide +kernel, by decide +kernel⟩
noncomputable def e1_kind_masses : DE :=
  (dOp hMulT (dCall 2 m_power (dCons (dV 2) (dCons (dV 6) dNil))) (dCall 2 m_power (dCons (dV 4) (dCons (dOp (hInt yes2 fun i j => i - j) (dV 1) (dV 6)) dNil))))
noncomputable def den_kind_masses : DS :=
  (sSeq (sAsg (gT [2, 3, 4, 5]) (dCall 1 m_die_form (dCons (dV 0) dNil)))
    (sRet (dCB hTupOf (dCons (dLc (dRng1 (dCons (dOp hAdd (dV 1) (dC (.int 1))) dNil)) (gN 6) dYes e1_kind_masses [6]) dNil))))
noncomputable def m_kind_masses : List D → Sto → Res D := callM (runB 7 den_kind_masses)
theorem ok_kind_masses {P : Program} {w : World} {K : PySem.W.Frag} {mg : Str → Option Value} {base : Heap} {f : Addr} {fd : FuncData} (F : Fun K "kind_masses" "kind_masses" s_kind_masses f fd) (B : Bu mg)
    (h_die_form : Has CX0 P w K mg base "die_form" 2 ["die"] (spD K 1 m_die_form))
    (h_power : Has CX0 P w K mg base "power" 1 ["number", "times"] (spD K 2 m_power)) :
    FnOk P w K mg base CX0 3 f fd ["die", "throws"] (spD K 2 (runB 7 den_kind_masses)) :=
  ok_body (k := 2) F sc_kind_masses fun cdv A outer s H E hr =>
    (as_cons (as_asg (ae_callD h_die_form (hr.mono (by decide)) rfl (aa_cons (ae_var (pv 0)) aa_nil)) (ag_tup rfl (ags_cons (i := 2) sc_kind_masses.nd rfl (Or.inr rfl) (ags_cons (i := 3) sc_kind_masses.nd rfl (Or.inl rfl) (ags_cons (i := 4) sc_kind_masses.nd rfl (Or.inr rfl) (ags_cons (i := 5) sc_kind_masses.nd rfl (Or.inl rfl) ags_nil))))))
    (as_one (as_ret (ae_tupOf rfl B.m_tuple (aa_cons (ae_lcv [("kind", 6)] rfl rfl sc_kind_masses.nd (ai_range1 rfl B.m_range (aa_cons (ae_add (ae_var (pv 1)) ae_int) aa_nil)) (blkOk_by (own := [("kind", 6)]) (N := sc_kind_massesN) (sc := defScope s_kind_masses) (by decide +kernel)) (fun _ _ _ _ _ => pg_name (i := 6) sc_kind_masses.nd rfl (Or.inl rfl)) (fun _ _ _ _ _ => pts_none) (fun _ _ _ _ _ => (ae_mulT (ae_callD h_power (hr.mono (by decide)) rfl (aa_cons (ae_var (pv 2)) (aa_cons (ae_var (pv 6)) aa_nil))) (ae_callD h_power (hr.mono (by decide)) rfl (aa_cons (ae_var (pv 4)) (aa_cons (ae_sub (ae_var (pv 1)) (ae_var (pv 6))) aa_nil))))) (agw_name (by decide))) aa_nil)))))
/-! kind_size -/
abbrev s_kind_size : Stmt := top 17
abbrev sc_kind_sizeN : List Str := ["die", "throws", "kind", "heavy", "many", "light", "few"]
theorem sc_kind_size : FnScope sc_kind_sizeN ["die", "throws", "kind"] (defScope s_kind_size) := ⟨rfl, rfl, rfl, by decide +kernel, rfl, by decide +kernel, by decide +kernel⟩
noncomputable def den_kind_size : DS :=
  (sSeq (sAsg (gT [3, 4, 5, 6]) (dCall 1 m_die_form (dCons (dV 0) dNil)))
    (sRet (dOp hMulT (dOp hMulT (dCall 2 m_choices (dCons (dV 1) (dCons (dV 2) dNil))) (dCall 2 m_power (dCons (dV 4) (dCons (dV 2) dNil)))) (dCall 2 m_power (dCons (dV 6) (dCons (dOp (hInt yes2 fun i j => i - j) (dV 1) (dV 2)) dNil))))))
noncomputable def m_kind_size : List D → Sto → Res D := callM (runB 7 den_kind_size)
theorem ok_kind_size {P : Program} {w : World} {K : PySem.W.Frag} {mg : Str → Option Value} {base : Heap} {f : Addr} {fd : FuncData} (F : Fun K "kind_size" "kind_size" s_kind_size f fd) (B : Bu mg)
    (h_die_form : Has CX0 P w K mg base "die_form" 2 ["die"] (spD K 1 m_die_form))
    (h_choices : Has CX0 P w K mg base "choices" 1 ["many", "few"] (spD K 2 m_choices))
    (h_power : Has CX0 P w K mg base "power" 1 ["number", "times"] (spD K 2 m_power)) :
    FnOk P w K mg base CX0 3 f fd ["die", "throws", "kind"] (spD K 3 (runB 7 den_kind_size)) :=
  ok_body (k := 2) F sc_kind_size fun cdv A outer s H E hr =>
    (as_cons (as_asg (ae_callD h_die_form (hr.mono (by decide)) rfl (aa_cons (ae_var (pv 0)) aa_nil)) (ag_tup rfl (ags_cons (i := 3) sc_kind_size.nd rfl (Or.inl rfl) (ags_cons (i := 4) sc_kind_size.nd rfl (Or.inl rfl) (ags_cons (i := 5) sc_kind_size.nd rfl (Or.inl rfl) (ags_cons (i := 6) sc_kind_size.nd rfl (Or.inl rfl) ags_nil))))))
    (as_one (as_ret (ae_mulT (ae_mulT (ae_callD h_choices (hr.mono (by decide)) rfl (aa_cons (ae_var (pv 1)) (aa_cons (ae_var (pv 2)) aa_nil))) (ae_callD h_power (hr.mono (by decide)) rfl (aa_cons (ae_var (pv 4)) (aa_cons (ae_var (pv 2)) aa_nil)))) (ae_callD h_power (hr.mono (by decide)) rfl (aa_cons (ae_var (pv 6)) (aa_cons (ae_sub (ae_var (pv 1)) (ae_var (pv 2))) aa_nil)))))))
/-! row_number -/
abbrev s_row_number : Stmt := top 18
abbrev sc_row_numberN : List Str := ["die", "faces", "heavy", "many", "light", "few", "kind", "place", "label", "at", "face"]
theorem sc_row_number : FnScope sc_row_numberN ["die", "faces"] (defScope s_row_number) := ⟨rfl, rfl, rfl, by decide +kernel, rfl, by decide +kernel, by decide +kernel⟩
noncomputable def b1_row_number : DS :=
  (sIf (dTru (dCall 2 m_is_heavy (dCons (dV 0) (dCons (dV 10) dNil)))) (sSeq (sSet 6 (dOp hAdd (dV 6) (dC (.int 1))))
    (sSeq (sSet 7 (dOp hAdd (dV 7) (dCall 2 m_choices (dCons (dV 9) (dCons (dV 6) dNil)))))
    (sSet 8 (dOp hAdd (dOp hMulT (dV 8) (dV 3)) (dCall 2 m_face_place (dCons (dV 0) (dCons (dV 10) dNil))))))) (sSet 8 (dOp hAdd (dOp hMulT (dV 8) (dV 5)) (dCall 2 m_face_place (dCons (dV 0) (dCons (dV 10) dNil))))))
noncomputable def den_row_number : DS :=
  (sSeq (sAsg (gT [2, 3, 4, 5]) (dCall 1 m_die_form (dCons (dV 0) dNil)))
    (sSeq (sAsg (gT [6, 7, 8]) (dTup (dCons (dC (.int 0)) (dCons (dC (.int 0)) (dCons (dC (.int 0)) dNil)))))
    (sSeq (sFor (dEnum (dCons (dV 1) dNil)) (gT [9, 10]) b1_row_number)
    (sRet (dOp hAdd (dOp hMulT (dOp hMulT (dV 7) (dCall 2 m_power (dCons (dV 3) (dCons (dV 6) dNil)))) (dCall 2 m_power (dCons (dV 5) (dCons (dOp (hInt yes2 fun i j => i - j) (dCB hLen (dCons (dV 1) dNil)) (dV 6)) dNil)))) (dV 8))))))
noncomputable def m_row_number : List D → Sto → Res D := callM (runB 11 den_row_number)
theorem ok_row_number {P : Program} {w : World} {K : PySem.W.Frag} {mg : Str → Option Value} {base : Heap} {f : Addr} {fd : FuncData} (F : Fun K "row_number" "row_number" s_row_number f fd) (B : Bu mg)
    (h_die_form : Has CX0 P w K mg base "die_form" 2 ["die"] (spD K 1 m_die_form))
    (h_is_heavy : Has CX0 P w K mg base "is_heavy" 1 ["die", "face"] (spD K 2 m_is_heavy))
    (h_choices : Has CX0 P w K mg base "choices" 1 ["many", "few"] (spD K 2 m_choices))
    (h_face_place : Has CX0 P w K mg base "face_place" 1 ["die", "face"] (spD K 2 m_face_place))
    (h_power : Has CX0 P w K mg base "power" 1 ["number", "times"] (spD K 2 m_power)) :
    FnOk P w K mg base CX0 3 f fd ["die", "faces"] (spD K 2 (runB 11 den_row_number)) :=
  ok_body (k := 2) F sc_row_number fun cdv A outer s H E hr =>
    (as_cons (as_asg (ae_callD h_die_form (hr.mono (by decide)) rfl (aa_cons (ae_var (pv 0)) aa_nil)) (ag_tup rfl (ags_cons (i := 2) sc_row_number.nd rfl (Or.inl rfl) (ags_cons (i := 3) sc_row_number.nd rfl (Or.inl rfl) (ags_cons (i := 4) sc_row_number.nd rfl (Or.inl rfl) (ags_cons (i := 5) sc_row_number.nd rfl (Or.inl rfl) ags_nil))))))
    (as_cons (as_asg (ae_tup (aa_cons ae_int (aa_cons ae_int (aa_cons ae_int aa_nil)))) (ag_tup rfl (ags_cons (i := 6) sc_row_number.nd rfl (Or.inl rfl) (ags_cons (i := 7) sc_row_number.nd rfl (Or.inl rfl) (ags_cons (i := 8) sc_row_number.nd rfl (Or.inl rfl) ags_nil)))))
    (as_cons (as_for PassesOwn.never rfl (ai_enum rfl B.m_enumerate (aa_cons (ae_var (pv 1)) aa_nil)) (ag_tup rfl (ags_cons (i := 9) sc_row_number.nd rfl (Or.inl rfl) (ags_cons (i := 10) sc_row_number.nd rfl (Or.inl rfl) ags_nil))) (as_one (as_if (at_val (ae_callD h_is_heavy (hr.mono (by decide)) rfl (aa_cons (ae_var (pv 0)) (aa_cons (ae_var (pv 10)) aa_nil)))) (as_cons (as_set (i := 6) sc_row_number.nd rfl (Or.inl rfl) (ae_add (ae_var (pv 6)) ae_int))
    (as_cons (as_set (i := 7) sc_row_number.nd rfl (Or.inl rfl) (ae_add (ae_var (pv 7)) (ae_callD h_choices (hr.mono (by decide)) rfl (aa_cons (ae_var (pv 9)) (aa_cons (ae_var (pv 6)) aa_nil)))))
    (as_one (as_set (i := 8) sc_row_number.nd rfl (Or.inl rfl) (ae_add (ae_mulT (ae_var (pv 8)) (ae_var (pv 3))) (ae_callD h_face_place (hr.mono (by decide)) rfl (aa_cons (ae_var (pv 0)) (aa_cons (ae_var (pv 10)) aa_nil)))))))) (as_one (as_set (i := 8) sc_row_number.nd rfl (Or.inl rfl) (ae_add (ae_mulT (ae_var (pv 8)) (ae_var (pv 5))) (ae_callD h_face_place (hr.mono (by decide)) rfl (aa_cons (ae_var (pv 0)) (aa_cons (ae_var (pv 10)) aa_nil)))))))))
    (as_one (as_ret (ae_add (ae_mulT (ae_mulT (ae_var (pv 7)) (ae_callD h_power (hr.mono (by decide)) rfl (aa_cons (ae_var (pv 3)) (aa_cons (ae_var (pv 6)) aa_nil)))) (ae_callD h_power (hr.mono (by decide)) rfl (aa_cons (ae_var (pv 5)) (aa_cons (ae_sub (ae_len rfl B.m_len (aa_cons (ae_var (pv 1)) aa_nil)) (ae_var (pv 6))) aa_nil)))) (ae_var (pv 8))))))))
/-! heavy_places -/
abbrev s_heavy_places : Stmt := top 19
abbrev sc_heavy_placesN : List Str := ["throws", "kind", "place", "found", "at", "left"]
theorem sc_heavy_places : FnScope sc_heavy_placesN ["throws", "kind", "place"] (defScope s_heavy_places) := ⟨rfl, rfl, rfl, by decide +kernel, rfl, by decide +kernel, by decide +kernel⟩
noncomputable def c1_heavy_places : DB :=
  (dBl (dOp (hCmp fun i j => decide (j < i)) (dCall 2 m_choices (dCons (dV 4) (dCons (dV 5) dNil))) (dV 2)))
noncomputable def b2_heavy_places : DS :=
  (sSet 4 (dOp (hInt yes2 fun i j => i - j) (dV 4) (dC (.int 1))))
noncomputable def b3_heavy_places : DS :=
  (sSeq (sSet 4 (dOp (hInt yes2 fun i j => i - j) (dV 4) (dC (.int 1))))
    (sSeq (sWhile fuel c1_heavy_places b2_heavy_places)
    (sSeq (sSet 2 (dOp (hInt yes2 fun i j => i - j) (dV 2) (dCall 2 m_choices (dCons (dV 4) (dCons (dV 5) dNil)))))
    (sExpr (dMe hApp (dV 3) (dCons (dV 4) dNil))))))
noncomputable def den_heavy_places : DS :=
  (sSeq (sSet 3 (dLst dNil))
    (sSeq (sSet 4 (dV 0))
    (sSeq (sFor (dRng3 (dCons (dV 1) (dCons (dC (.int 0)) (dCons (dUn hNeg (dC (.int 1))) dNil)))) (gN 5) b3_heavy_places)
    (sRet (dUn hRev (dV 3))))))
noncomputable def m_heavy_places : List D → Sto → Res D := callM (runB 6 den_heavy_places)
theorem ok_heavy_places {P : Program} {w : World} {K : PySem.W.Frag} {mg : Str → Option Value} {base : Heap} {f : Addr} {fd : FuncData} (F : Fun K "heavy_places" "heavy_places" s_heavy_places f fd) (B : Bu mg)
    (h_choices : Has CX0 P w K mg base "choices" 1 ["many", "few"] (spD K 2 m_choices)) :
    FnOk P w K mg base CX0 2 f fd ["throws", "kind", "place"] (spD K 3 (runB 6 den_heavy_places)) :=
  ok_body (k := 1) F sc_heavy_places fun cdv A outer s H E hr =>
    (as_cons (as_set (i := 3) sc_heavy_places.nd rfl (Or.inl rfl) (ae_lst aa_nil))
    (as_cons (as_set (i := 4) sc_heavy_places.nd rfl (Or.inl rfl) (ae_var (pv 0)))
    (as_cons (as_for PassesOwn.never rfl (ai_range3 rfl B.m_range (aa_cons (ae_var (pv 1)) (aa_cons ae_int (aa_cons (ae_neg ae_int) aa_nil)))) (ag_name (i := 5) sc_heavy_places.nd rfl (Or.inl rfl)) (as_cons (as_set (i := 4) sc_heavy_places.nd rfl (Or.inl rfl) (ae_sub (ae_var (pv 4)) ae_int))
    (as_cons (as_while PassesOwn.never (at_gt (ae_callD h_choices (hr.mono (by decide)) rfl (aa_cons (ae_var (pv 4)) (aa_cons (ae_var (pv 5)) aa_nil))) (ae_var (pv 2))) (as_one (as_set (i := 4) sc_heavy_places.nd rfl (Or.inl rfl) (ae_sub (ae_var (pv 4)) ae_int))))
    (as_cons (as_set (i := 2) sc_heavy_places.nd rfl (Or.inl rfl) (ae_sub (ae_var (pv 2)) (ae_callD h_choices (hr.mono (by decide)) rfl (aa_cons (ae_var (pv 4)) (aa_cons (ae_var (pv 5)) aa_nil)))))
    (as_one (as_expr (ae_append (ae_var (pv 3)) (aa_cons (ae_var (pv 4)) aa_nil))))))))
    (as_one (as_ret (ae_rev (ae_var (pv 3))))))))
/-! row_of_number -/
abbrev s_row_of_number : Stmt := top 20
abbrev sc_row_of_numberN : List Str := ["die", "throws", "kind", "number", "heavy", "many", "light", "few", "labels", "places", "label", "faces", "at", "sort"]
theorem sc_row_of_number : FnScope sc_row_of_numberN ["die", "throws", "kind", "number"] (defScope s_row_of_number) := ⟨rfl, rfl, rfl, by decide +kernel, rfl, by decide +kernel, by decide +kernel⟩
noncomputable def b1_row_of_number : DS :=
  (sSeq (sSet 13 (dIfE (dBl (dOp (hIn false) (dV 12) (dV 9))) (dCall 1 m_heavy_faces (dCons (dV 0) dNil)) (dCall 1 m_light_faces (dCons (dV 0) dNil))))
    (sSeq (sExpr (dMe hApp (dV 11) (dCons (dOp hIx (dV 13) (dOp (hInt (fun _ j => decide (j ≠ 0)) Int.fmod) (dV 10) (dCB hLen (dCons (dV 13) dNil)))) dNil)))
    (sSet 10 (dOp (hInt (fun _ j => divOk j) fun i j => i / j) (dV 10) (dCB hLen (dCons (dV 13) dNil))))))
noncomputable def den_row_of_number : DS :=
  (sSeq (sIf (dBl (dOp (hCmp fun i j => decide (j ≤ i)) (dV 3) (dCall 3 m_kind_size (dCons (dV 0) (dCons (dV 1) (dCons (dV 2) dNil)))))) (sRet (dC .non)) sNx)
    (sSeq (sAsg (gT [4, 5, 6, 7]) (dCall 1 m_die_form (dCons (dV 0) dNil)))
    (sSeq (sSet 8 (dOp hMulT (dCall 2 m_power (dCons (dV 5) (dCons (dV 2) dNil))) (dCall 2 m_power (dCons (dV 7) (dCons (dOp (hInt yes2 fun i j => i - j) (dV 1) (dV 2)) dNil)))))
    (sSeq (sSet 9 (dCall 3 m_heavy_places (dCons (dV 1) (dCons (dV 2) (dCons (dOp (hInt (fun _ j => divOk j) fun i j => i / j) (dV 3) (dV 8)) dNil)))))
    (sSeq (sSet 10 (dOp (hInt (fun _ j => decide (j ≠ 0)) Int.fmod) (dV 3) (dV 8)))
    (sSeq (sSet 11 (dLst dNil))
    (sSeq (sFor (dRng3 (dCons (dOp (hInt yes2 fun i j => i - j) (dV 1) (dC (.int 1))) (dCons (dUn hNeg (dC (.int 1))) (dCons (dUn hNeg (dC (.int 1))) dNil)))) (gN 12) b1_row_of_number)
    (sRet (dCB hTupOf (dCons (dUn hRev (dV 11)) dNil))))))))))
noncomputable def m_row_of_number : List D → Sto → Res D := callM (runB 14 den_row_of_number)
theorem ok_row_of_number {P : Program} {w : World} {K : PySem.W.Frag} {mg : Str → Option Value} {base : Heap} {f : Addr} {fd : FuncData} (F : Fun K "row_of_number" "row_of_number" s_row_of_number f fd) (B : Bu mg)
    (h_kind_size : Has CX0 P w K mg base "kind_size" 3 ["die", "throws", "kind"] (spD K 3 m_kind_size))
    (h_die_form : Has CX0 P w K mg base "die_form" 2 ["die"] (spD K 1 m_die_form))
    (h_power : Has CX0 P w K mg base "power" 1 ["number", "times"] (spD K 2 m_power))
    (h_heavy_places : Has CX0 P w K mg base "heavy_places" 2 ["throws", "kind", "place"] (spD K 3 m_heavy_places))
    (h_heavy_faces : Has CX0 P w K mg base "heavy_faces" 1 ["die"] (spD K 1 m_heavy_faces))
    (h_light_faces : Has CX0 P w K mg base "light_faces" 1 ["die"] (spD K 1 m_light_faces)) :
    FnOk P w K mg base CX0 4 f fd ["die", "throws", "kind", "number"] (spD K 4 (runB 14 den_row_of_number)) :=
  ok_body (k := 3) F sc_row_of_number fun cdv A outer s H E hr =>
    (as_cons (as_if (at_ge (ae_var (pv 3)) (ae_callD h_kind_size (hr.mono (by decide)) rfl (aa_cons (ae_var (pv 0)) (aa_cons (ae_var (pv 1)) (aa_cons (ae_var (pv 2)) aa_nil))))) (as_one (as_ret ae_non)) as_nil)
    (as_cons (as_asg (ae_callD h_die_form (hr.mono (by decide)) rfl (aa_cons (ae_var (pv 0)) aa_nil)) (ag_tup rfl (ags_cons (i := 4) sc_row_of_number.nd rfl (Or.inl rfl) (ags_cons (i := 5) sc_row_of_number.nd rfl (Or.inl rfl) (ags_cons (i := 6) sc_row_of_number.nd rfl (Or.inl rfl) (ags_cons (i := 7) sc_row_of_number.nd rfl (Or.inl rfl) ags_nil))))))
    (as_cons (as_set (i := 8) sc_row_of_number.nd rfl (Or.inl rfl) (ae_mulT (ae_callD h_power (hr.mono (by decide)) rfl (aa_cons (ae_var (pv 5)) (aa_cons (ae_var (pv 2)) aa_nil))) (ae_callD h_power (hr.mono (by decide)) rfl (aa_cons (ae_var (pv 7)) (aa_cons (ae_sub (ae_var (pv 1)) (ae_var (pv 2))) aa_nil)))))
    (as_cons (as_set (i := 9) sc_row_of_number.nd rfl (Or.inl rfl) (ae_callD h_heavy_places (hr.mono (by decide)) rfl (aa_cons (ae_var (pv 1)) (aa_cons (ae_var (pv 2)) (aa_cons (ae_div (ae_var (pv 3)) (ae_var (pv 8))) aa_nil)))))
    (as_cons (as_set (i := 10) sc_row_of_number.nd rfl (Or.inl rfl) (ae_mod (ae_var (pv 3)) (ae_var (pv 8))))
    (as_cons (as_set (i := 11) sc_row_of_number.nd rfl (Or.inl rfl) (ae_lst aa_nil))
    (as_cons (as_for PassesOwn.never rfl (ai_range3 rfl B.m_range (aa_cons (ae_sub (ae_var (pv 1)) ae_int) (aa_cons (ae_neg ae_int) (aa_cons (ae_neg ae_int) aa_nil)))) (ag_name (i := 12) sc_row_of_number.nd rfl (Or.inl rfl)) (as_cons (as_set (i := 13) sc_row_of_number.nd rfl (Or.inl rfl) (ae_if (at_in (ae_var (pv 12)) (ae_var (pv 9))) (ae_callD h_heavy_faces (hr.mono (by decide)) rfl (aa_cons (ae_var (pv 0)) aa_nil)) (ae_callD h_light_faces (hr.mono (by decide)) rfl (aa_cons (ae_var (pv 0)) aa_nil))))
    (as_cons (as_expr (ae_append (ae_var (pv 11)) (aa_cons (ae_ix (ae_var (pv 13)) (ae_mod (ae_var (pv 10)) (ae_len rfl B.m_len (aa_cons (ae_var (pv 13)) aa_nil)))) aa_nil)))
    (as_one (as_set (i := 10) sc_row_of_number.nd rfl (Or.inl rfl) (ae_div (ae_var (pv 10)) (ae_len rfl B.m_len (aa_cons (ae_var (pv 13)) aa_nil))))))))
    (as_one (as_ret (ae_tupOf rfl B.m_tuple (aa_cons (ae_rev (ae_var (pv 11))) aa_nil)))))))))))
/-! row_mass -/
abbrev s_row_mass : Stmt := top 22
abbrev sc_row_massN : List Str := ["die", "faces", "mass", "face"]
theorem sc_row_mass : FnScope sc_row_massN ["die", "faces"] (defScope s_row_mass) := ⟨rfl, rfl, rfl, by decide +kernel, rfl, by decide +kernel, by decide +kernel⟩
noncomputable def b1_row_mass : DS :=
  (sSet 2 (dOp hMulT (dV 2) (dOp hIx (dV 0) (dV 3))))
noncomputable def den_row_mass : DS :=
  (sSeq (sSet 2 (dC (.int 1)))
    (sSeq (sFor (dIt (dV 1)) (gN 3) b1_row_mass)
    (sRet (dV 2))))
noncomputable def m_row_mass : List D → Sto → Res D := callM (runB 4 den_row_mass)
theorem ok_row_mass {P : Program} {w : World} {K : PySem.W.Frag} {mg : Str → Option Value} {base : Heap} {f : Addr} {fd : FuncData} (F : Fun K "row_mass" "row_mass" s_row_mass f fd) (B : Bu mg) :
    FnOk P w K mg base CX0 1 f fd ["die", "faces"] (spD K 2 (runB 4 den_row_mass)) :=
  ok_body (k := 0) F sc_row_mass fun cdv A outer s H E hr =>
    (as_cons (as_set (i := 2) sc_row_mass.nd rfl (Or.inl rfl) ae_int)
    (as_cons (as_for PassesOwn.never rfl (ai_of (ae_var (pv 1))) (ag_name (i := 3) sc_row_mass.nd rfl (Or.inl rfl)) (as_one (as_set (i := 2) sc_row_mass.nd rfl (Or.inl rfl) (ae_mulT (ae_var (pv 2)) (ae_ix (ae_var (pv 0)) (ae_var (pv 3)))))))
    (as_one (as_ret (ae_var (pv 2))))))
/-! row_kind -/
abbrev s_row_kind : Stmt := top 23
abbrev sc_row_kindN : List Str := ["die", "faces", "face"]
theorem sc_row_kind : FnScope sc_row_kindN ["die", "faces"] (defScope s_row_kind) := ⟨rfl, rfl, rfl, by decide +kernel, rfl, by decide +kernel, by decide +kernel⟩
noncomputable def e1_row_kind : DE :=
  (dV 2)
noncomputable def q2_row_kind : DB :=
  (dBl (dOp hEq (dOp hIx (dV 0) (dV 2)) (dOp hIx (dV 0) (dC (.int 0)))))
noncomputable def den_row_kind : DS :=
  (sRet (dCB hLen (dCons (dLc (dIt (dV 1)) (gN 2) q2_row_kind e1_row_kind [2]) dNil)))
noncomputable def m_row_kind : List D → Sto → Res D := callM (runB 3 den_row_kind)
theorem ok_row_kind {P : Program} {w : World} {K : PySem.W.Frag} {mg : Str → Option Value} {base : Heap} {f : Addr} {fd : FuncData} (F : Fun K "row_kind" "row_kind" s_row_kind f fd) (B : Bu mg) :
    FnOk P w K mg base CX0 1 f fd ["die", "faces"] (spD K 2 (runB 3 den_row_kind)) :=
  ok_body (k := 0) F sc_row_kind fun cdv A outer s H E hr =>
    (as_one (as_ret (ae_len rfl B.m_len (aa_cons (ae_lcv [("face", 2)] rfl rfl sc_row_kind.nd (ai_of (ae_var (pv 1))) (blkOk_by (own := [("face", 2)]) (N := sc_row_kindN) (sc := defScope s_row_kind) (by decide +kernel)) (fun _ _ _ _ _ => pg_name (i := 2) sc_row_kind.nd rfl (Or.inl rfl)) (fun _ _ _ _ _ => pts_one_ (at_eq hr.units (ae_ix (ae_var (pv 0)) (ae_var (pv 2))) (ae_ix (ae_var (pv 0)) ae_int))) (fun _ _ _ _ _ => (ae_var (pv 2))) (agw_name (by decide))) aa_nil))))
/-! stretches -/
abbrev s_stretches : Stmt := top 25
abbrev sc_stretchesN : List Str := ["many", "e"]
theorem sc_stretches : FnScope sc_stretchesN ["many"] (defScope s_stretches) := ⟨rfl, rfl, rfl, by decide +kernel, rfl, by decide +kernel, by decide +kernel⟩
noncomputable def e1_stretches : DE :=
  (dV 1)
noncomputable def q2_stretches : DB :=
  (dBl (dOp hEq (dOp (hInt yes2 Builtin.bitAnd) (dOp (hInt (fun _ j => decide (0 ≤ j)) fun i j => i / 2 ^ j.toNat) (dV 0) (dV 1)) (dC (.int 1))) (dC (.int 1))))
noncomputable def den_stretches : DS :=
  (sRet (dLc (dRng3 (dCons (dOp (hInt yes2 fun i j => i - j) (dUn hBits (dV 0)) (dC (.int 1))) (dCons (dUn hNeg (dC (.int 1))) (dCons (dUn hNeg (dC (.int 1))) dNil)))) (gN 1) q2_stretches e1_stretches [1]))
noncomputable def m_stretches : List D → Sto → Res D := callM (runB 2 den_stretches)
theorem ok_stretches {P : Program} {w : World} {K : PySem.W.Frag} {mg : Str → Option Value} {base : Heap} {f : Addr} {fd : FuncData} (F : Fun K "stretches" "stretches" s_stretches f fd) (B : Bu mg) :
    FnOk P w K mg base CX0 1 f fd ["many"] (spD K 1 (runB 2 den_stretches)) :=
  ok_body (k := 0) F sc_stretches fun cdv A outer s H E hr =>
    (as_one (as_ret (ae_lcv [("e", 1)] rfl rfl sc_stretches.nd (ai_range3 rfl B.m_range (aa_cons (ae_sub (ae_bits (ae_var (pv 0))) ae_int) (aa_cons (ae_neg ae_int) (aa_cons (ae_neg ae_int) aa_nil)))) (blkOk_by (own := [("e", 1)]) (N := sc_stretchesN) (sc := defScope s_stretches) (by decide +kernel)) (fun _ _ _ _ _ => pg_name (i := 1) sc_stretches.nd rfl (Or.inl rfl)) (fun _ _ _ _ _ => pts_one_ (at_eq hr.units (ae_band (ae_shr (ae_var (pv 0)) (ae_var (pv 1))) ae_int) ae_int)) (fun _ _ _ _ _ => (ae_var (pv 1))) (agw_name (by decide)))))
/-! bits_of -/
abbrev s_bits_of : Stmt := top 26
abbrev sc_bits_ofN : List Str := ["number", "many", "e"]
theorem sc_bits_of : FnScope sc_bits_ofN ["number", "many"] (defScope s_bits_of) := ⟨rfl, rfl, rfl, by decide +kernel, rfl, by decide +kernel, by decide +kernel⟩
noncomputable def e1_bits_of : DE :=
  (dOp (hInt yes2 Builtin.bitAnd) (dOp (hInt (fun _ j => decide (0 ≤ j)) fun i j => i / 2 ^ j.toNat) (dV 0) (dV 2)) (dC (.int 1)))
noncomputable def den_bits_of : DS :=
  (sRet (dCB hTupOf (dCons (dLc (dRng3 (dCons (dOp (hInt yes2 fun i j => i - j) (dV 1) (dC (.int 1))) (dCons (dUn hNeg (dC (.int 1))) (dCons (dUn hNeg (dC (.int 1))) dNil)))) (gN 2) dYes e1_bits_of [2]) dNil)))
noncomputable def m_bits_of : List D → Sto → Res D := callM (runB 3 den_bits_of)
theorem ok_bits_of {P : Program} {w : World} {K : PySem.W.Frag} {mg : Str → Option Value} {base : Heap} {f : Addr} {fd : FuncData} (F : Fun K "bits_of" "bits_of" s_bits_of f fd) (B : Bu mg) :
    FnOk P w K mg base CX0 1 f fd ["number", "many"] (spD K 2 (runB 3 den_bits_of)) :=
  ok_body (k := 0) F sc_bits_of fun cdv A outer s H E hr =>
    (as_one (as_ret (ae_tupOf rfl B.m_tuple (aa_cons (ae_lcv [("e", 2)] rfl rfl sc_bits_of.nd (ai_range3 rfl B.m_range (aa_cons (ae_sub (ae_var (pv 1)) ae_int) (aa_cons (ae_neg ae_int) (aa_cons (ae_neg ae_int) aa_nil)))) (blkOk_by (own := [("e", 2)]) (N := sc_bits_ofN) (sc := defScope s_bits_of) (by decide +kernel)) (fun _ _ _ _ _ => pg_name (i := 2) sc_bits_of.nd rfl (Or.inl rfl)) (fun _ _ _ _ _ => pts_none) (fun _ _ _ _ _ => (ae_band (ae_shr (ae_var (pv 0)) (ae_var (pv 2))) ae_int)) (agw_name (by decide))) aa_nil))))
/-! bits_of_number -/
abbrev s_bits_of_number : Stmt := top 27
abbrev sc_bits_of_numberN : List Str := ["number", "many", "e"]
theorem sc_bits_of_number : FnScope sc_bits_of_numberN ["number", "many"] (defScope s_bits_of_number) := ⟨rfl, rfl, rfl, by decide +kernel, rfl, by decide +kernel, by decide +kernel⟩
noncomputable def b1_bits_of_number : DS :=
  (sSeq (sIf (dBl (dOp (hCmp fun i j => decide (i < j)) (dV 0) (dOp (hInt shlW fun i j => i * 2 ^ j.toNat) (dC (.int 1)) (dV 2)))) (sRet (dCall 2 m_bits_of (dCons (dV 0) (dCons (dV 2) dNil)))) sNx)
    (sSet 0 (dOp (hInt yes2 fun i j => i - j) (dV 0) (dOp (hInt shlW fun i j => i * 2 ^ j.toNat) (dC (.int 1)) (dV 2)))))
noncomputable def den_bits_of_number : DS :=
  (sSeq (sFor (dIt (dCall 1 m_stretches (dCons (dV 1) dNil))) (gN 2) b1_bits_of_number)
    (sRet (dTup dNil)))
noncomputable def m_bits_of_number : List D → Sto → Res D := callM (runB 3 den_bits_of_number)
theorem ok_bits_of_number {P : Program} {w : World} {K : PySem.W.Frag} {mg : Str → Option Value} {base : Heap} {f : Addr} {fd : FuncData} (F : Fun K "bits_of_number" "bits_of_number" s_bits_of_number f fd) (B : Bu mg)
    (h_stretches : Has CX0 P w K mg base "stretches" 1 ["many"] (spD K 1 m_stretches))
    (h_bits_of : Has CX0 P w K mg base "bits_of" 1 ["number", "many"] (spD K 2 m_bits_of)) :
    FnOk P w K mg base CX0 2 f fd ["number", "many"] (spD K 2 (runB 3 den_bits_of_number)) :=
  ok_body (k := 1) F sc_bits_of_number fun cdv A outer s H E hr =>
    (as_cons (as_for PassesOwn.never rfl (ai_of (ae_callD h_stretches (hr.mono (by decide)) rfl (aa_cons (ae_var (pv 1)) aa_nil))) (ag_name (i := 2) sc_bits_of_number.nd rfl (Or.inl rfl)) (as_cons (as_if (at_lt (ae_var (pv 0)) (ae_shlW ae_int (ae_var (pv 2)))) (as_one (as_ret (ae_callD h_bits_of (hr.mono (by decide)) rfl (aa_cons (ae_var (pv 0)) (aa_cons (ae_var (pv 2)) aa_nil))))) as_nil)
    (as_one (as_set (i := 0) sc_bits_of_number.nd rfl (Or.inl rfl) (ae_sub (ae_var (pv 0)) (ae_shlW ae_int (ae_var (pv 2))))))))
    (as_one (as_ret (ae_tup aa_nil))))
/-! row_bits -/
abbrev s_row_bits : Stmt := top 28
abbrev sc_row_bitsN : List Str := ["die", "faces", "many"]
theorem sc_row_bits : FnScope sc_row_bitsN ["die", "faces"] (defScope s_row_bits) := ⟨rfl, rfl, rfl, by decide +kernel, rfl, by decide +kernel, by decide +kernel⟩
noncomputable def den_row_bits : DS :=
  (sSeq (sSet 2 (dCall 3 m_kind_size (dCons (dV 0) (dCons (dCB hLen (dCons (dV 1) dNil)) (dCons (dCall 2 m_row_kind (dCons (dV 0) (dCons (dV 1) dNil))) dNil)))))
    (sRet (dCall 2 m_bits_of_number (dCons (dCall 2 m_row_number (dCons (dV 0) (dCons (dV 1) dNil))) (dCons (dV 2) dNil)))))
noncomputable def m_row_bits : List D → Sto → Res D := callM (runB 3 den_row_bits)
theorem ok_row_bits {P : Program} {w : World} {K : PySem.W.Frag} {mg : Str → Option Value} {base : Heap} {f : Addr} {fd : FuncData} (F : Fun K "row_bits" "row_bits" s_row_bits f fd) (B : Bu mg)
    (h_row_kind : Has CX0 P w K mg base "row_kind" 1 ["die", "faces"] (spD K 2 m_row_kind))
    (h_kind_size : Has CX0 P w K mg base "kind_size" 3 ["die", "throws", "kind"] (spD K 3 m_kind_size))
    (h_row_number : Has CX0 P w K mg base "row_number" 3 ["die", "faces"] (spD K 2 m_row_number))
    (h_bits_of_number : Has CX0 P w K mg base "bits_of_number" 2 ["number", "many"] (spD K 2 m_bits_of_number)) :
    FnOk P w K mg base CX0 4 f fd ["die", "faces"] (spD K 2 (runB 3 den_row_bits)) :=
  ok_body (k := 3) F sc_row_bits fun cdv A outer s H E hr =>
    (as_cons (as_set (i := 2) sc_row_bits.nd rfl (Or.inl rfl) (ae_callD h_kind_size (hr.mono (by decide)) rfl (aa_cons (ae_var (pv 0)) (aa_cons (ae_len rfl B.m_len (aa_cons (ae_var (pv 1)) aa_nil)) (aa_cons (ae_callD h_row_kind (hr.mono (by decide)) rfl (aa_cons (ae_var (pv 0)) (aa_cons (ae_var (pv 1)) aa_nil))) aa_nil)))))
    (as_one (as_ret (ae_callD h_bits_of_number (hr.mono (by decide)) rfl (aa_cons (ae_callD h_row_number (hr.mono (by decide)) rfl (aa_cons (ae_var (pv 0)) (aa_cons (ae_var (pv 1)) aa_nil))) (aa_cons (ae_var (pv 2)) aa_nil))))))
/-! bit_count -/
abbrev s_bit_count : Stmt := top 29
abbrev sc_bit_countN : List Str := ["die", "throws", "told", "size", "mass", "e"]
theorem sc_bit_count : FnScope sc_bit_countN ["die", "throws"] (defScope s_bit_count) := ⟨rfl, rfl, rfl, by decide +kernel, rfl, by decide +kernel, by decide +kernel⟩
noncomputable def b1_bit_count : DS :=
  (sDSet (dV 2) (dV 5) (dOp hAdd (dGet2 (dV 2) (dV 5) (dC (.int 0))) (dOp (hInt shlW fun i j => i * 2 ^ j.toNat) (dV 4) (dV 5))))
noncomputable def b2_bit_count : DS :=
  (sFor (dIt (dCall 1 m_stretches (dCons (dV 3) dNil))) (gN 5) b1_bit_count)
noncomputable def e3_bit_count : DE :=
  (dGet2 (dV 2) (dV 5) (dC (.int 0)))
noncomputable def den_bit_count : DS :=
  (sSeq (sSet 2 dNewK)
    (sSeq (sFor (dZip (dCons (dCall 2 m_kind_sizes (dCons (dV 0) (dCons (dV 1) dNil))) (dCons (dCall 2 m_kind_masses (dCons (dV 0) (dCons (dV 1) dNil))) dNil))) (gT [3, 4]) b2_bit_count)
    (sRet (dCB hTupOf (dCons (dLc (dRng1 (dCons (dOp hAdd (dCB hMaxK (dCons (dV 2) dNil)) (dC (.int 1))) dNil)) (gN 5) dYes e3_bit_count [5]) dNil)))))
noncomputable def m_bit_count : List D → Sto → Res D := callM (runB 6 den_bit_count)
theorem ok_bit_count {P : Program} {w : World} {K : PySem.W.Frag} {mg : Str → Option Value} {base : Heap} {f : Addr} {fd : FuncData} (F : Fun K "bit_count" "bit_count" s_bit_count f fd) (B : Bu mg)
    (h_kind_masses : Has CX0 P w K mg base "kind_masses" 3 ["die", "throws"] (spD K 2 m_kind_masses))
    (h_kind_sizes : Has CX0 P w K mg base "kind_sizes" 3 ["die", "throws"] (spD K 2 m_kind_sizes))
    (h_stretches : Has CX0 P w K mg base "stretches" 1 ["many"] (spD K 1 m_stretches)) :
    FnOk P w K mg base CX0 4 f fd ["die", "throws"] (spD K 2 (runB 6 den_bit_count)) :=
  ok_body (k := 3) F sc_bit_count fun cdv A outer s H E hr =>
    (as_cons (as_set (i := 2) sc_bit_count.nd rfl (Or.inr rfl) ae_newK)
    (as_cons (as_for PassesOwn.never rfl (ai_zip rfl B.m_zip (aa_cons (ae_callD h_kind_sizes (hr.mono (by decide)) rfl (aa_cons (ae_var (pv 0)) (aa_cons (ae_var (pv 1)) aa_nil))) (aa_cons (ae_callD h_kind_masses (hr.mono (by decide)) rfl (aa_cons (ae_var (pv 0)) (aa_cons (ae_var (pv 1)) aa_nil))) aa_nil))) (ag_tup rfl (ags_cons (i := 3) sc_bit_count.nd rfl (Or.inl rfl) (ags_cons (i := 4) sc_bit_count.nd rfl (Or.inl rfl) ags_nil))) (as_one (as_for PassesOwn.never rfl (ai_of (ae_callD h_stretches (hr.mono (by decide)) rfl (aa_cons (ae_var (pv 3)) aa_nil))) (ag_name (i := 5) sc_bit_count.nd rfl (Or.inl rfl)) (as_one (as_dset hr.units1 (ae_add (ae_get2 hr.units1 (ae_var (pv 2)) (ae_var (pv 5)) ae_int) (ae_shlW (ae_var (pv 4)) (ae_var (pv 5)))) (ae_var (pv 2)) (ae_var (pv 5)))))))
    (as_one (as_ret (ae_tupOf rfl B.m_tuple (aa_cons (ae_lcv [("e", 5)] rfl rfl sc_bit_count.nd (ai_range1 rfl B.m_range (aa_cons (ae_add (ae_maxK rfl rfl B.m_max (aa_cons (ae_var (pv 2)) aa_nil)) ae_int) aa_nil)) (blkOk_by (own := [("e", 5)]) (N := sc_bit_countN) (sc := defScope s_bit_count) (by decide +kernel)) (fun _ _ _ _ _ => pg_name (i := 5) sc_bit_count.nd rfl (Or.inl rfl)) (fun _ _ _ _ _ => pts_none) (fun _ _ _ _ _ => (ae_get2 hr.units1 (ae_var (pv 2)) (ae_var (pv 5)) ae_int)) (agw_name (by decide))) aa_nil))))))
/-! bits_mean -/
abbrev s_bits_mean : Stmt := top 30
abbrev sc_bits_meanN : List Str := ["die", "throws", "counts", "e", "mass"]
theorem sc_bits_mean : FnScope sc_bits_meanN ["die", "throws"] (defScope s_bits_mean) := ⟨rfl, rfl, rfl, by decide +kernel, rfl, by decide +kernel, by decide +kernel⟩
noncomputable def e1_bits_mean : DE :=
  (dOp hMulT (dV 3) (dV 4))
noncomputable def den_bits_mean : DS :=
  (sSeq (sSet 2 (dCall 2 m_bit_count (dCons (dV 0) (dCons (dV 1) dNil))))
    (sRet (dCall 2 m_fraction (dCons (dCB hSum (dCons (dLc (dEnum (dCons (dV 2) dNil)) (gT [3, 4]) dYes e1_bits_mean [3, 4]) dNil)) (dCons (dCall 2 m_power (dCons (dCB hSum (dCons (dV 0) dNil)) (dCons (dV 1) dNil))) dNil)))))
noncomputable def m_bits_mean : List D → Sto → Res D := callM (runB 5 den_bits_mean)
theorem ok_bits_mean {P : Program} {w : World} {K : PySem.W.Frag} {mg : Str → Option Value} {base : Heap} {f : Addr} {fd : FuncData} (F : Fun K "bits_mean" "bits_mean" s_bits_mean f fd) (B : Bu mg)
    (h_bit_count : Has CX0 P w K mg base "bit_count" 4 ["die", "throws"] (spD K 2 m_bit_count))
    (h_power : Has CX0 P w K mg base "power" 1 ["number", "times"] (spD K 2 m_power))
    (h_fraction : Has CX0 P w K mg base "fraction" 1 ["top", "bottom"] (spD K 2 m_fraction)) :
    FnOk P w K mg base CX0 5 f fd ["die", "throws"] (spD K 2 (runB 5 den_bits_mean)) :=
  ok_body (k := 4) F sc_bits_mean fun cdv A outer s H E hr =>
    (as_cons (as_set (i := 2) sc_bits_mean.nd rfl (Or.inl rfl) (ae_callD h_bit_count (hr.mono (by decide)) rfl (aa_cons (ae_var (pv 0)) (aa_cons (ae_var (pv 1)) aa_nil))))
    (as_one (as_ret (ae_callD h_fraction (hr.mono (by decide)) rfl (aa_cons (ae_sum rfl rfl B.m_sum (aa_cons (ae_lcv [("e", 3), ("mass", 4)] rfl rfl sc_bits_mean.nd (ai_enum rfl B.m_enumerate (aa_cons (ae_var (pv 2)) aa_nil)) (blkOk_by (own := [("e", 3), ("mass", 4)]) (N := sc_bits_meanN) (sc := defScope s_bits_mean) (by decide +kernel)) (fun _ _ _ _ _ => pg_tup rfl (pgs_cons (pg_name (i := 3) sc_bits_mean.nd rfl (Or.inl rfl)) (pgs_cons (pg_name (i := 4) sc_bits_mean.nd rfl (Or.inl rfl)) pgs_nil))) (fun _ _ _ _ _ => pts_none) (fun _ _ _ _ _ => (ae_mulT (ae_var (pv 3)) (ae_var (pv 4)))) (agw_two (by decide) (by decide))) aa_nil)) (aa_cons (ae_callD h_power (hr.mono (by decide)) rfl (aa_cons (ae_sum rfl rfl B.m_sum (aa_cons (ae_var (pv 0)) aa_nil)) (aa_cons (ae_var (pv 1)) aa_nil))) aa_nil))))))
/-! number_of_bits -/
abbrev s_number_of_bits : Stmt := top 31
abbrev sc_number_of_bitsN : List Str := ["bits", "told", "bit"]
theorem sc_number_of_bits : FnScope sc_number_of_bitsN ["bits"] (defScope s_number_of_bits) := ⟨rfl, rfl, rfl, by decide +kernel, rfl, by decide +kernel, by decide +kernel⟩
noncomputable def b1_number_of_bits : DS :=
  (sSet 1 (dOp hAdd (dOp hMulT (dC (.int 2)) (dV 1)) (dV 2)))
noncomputable def den_number_of_bits : DS :=
  (sSeq (sSet 1 (dC (.int 0)))
    (sSeq (sFor (dIt (dV 0)) (gN 2) b1_number_of_bits)
    (sRet (dV 1))))
noncomputable def m_number_of_bits : List D → Sto → Res D := callM (runB 3 den_number_of_bits)
theorem ok_number_of_bits {P : Program} {w : World} {K : PySem.W.Frag} {mg : Str → Option Value} {base : Heap} {f : Addr} {fd : FuncData} (F : Fun K "number_of_bits" "number_of_bits" s_number_of_bits f fd) (B : Bu mg) :
    FnOk P w K mg base CX0 1 f fd ["bits"] (spD K 1 (runB 3 den_number_of_bits)) :=
  ok_body (k := 0) F sc_number_of_bits fun cdv A outer s H E hr =>
    (as_cons (as_set (i := 1) sc_number_of_bits.nd rfl (Or.inl rfl) ae_int)
    (as_cons (as_for PassesOwn.never rfl (ai_of (ae_var (pv 0))) (ag_name (i := 2) sc_number_of_bits.nd rfl (Or.inl rfl)) (as_one (as_set (i := 1) sc_number_of_bits.nd rfl (Or.inl rfl) (ae_add (ae_mulT ae_int (ae_var (pv 1))) (ae_var (pv 2))))))
    (as_one (as_ret (ae_var (pv 1))))))
/-! row_for_bits -/
abbrev s_row_for_bits : Stmt := top 32
abbrev sc_row_for_bitsN : List Str := ["die", "throws", "kind", "bits", "ahead", "e"]
theorem sc_row_for_bits : FnScope sc_row_for_bitsN ["die", "throws", "kind", "bits"] (defScope s_row_for_bits) := ⟨rfl, rfl, rfl, by decide +kernel, rfl, by decide +kernel, by decide +kernel⟩
noncomputable def b1_row_for_bits : DS :=
  (sSeq (sIf (dBl (dOp hEq (dV 5) (dCB hLen (dCons (dV 3) dNil)))) (sRet (dCall 4 m_row_of_number (dCons (dV 0) (dCons (dV 1) (dCons (dV 2) (dCons (dOp hAdd (dV 4) (dCall 1 m_number_of_bits (dCons (dV 3) dNil))) dNil)))))) sNx)
    (sSet 4 (dOp hAdd (dV 4) (dOp (hInt shlW fun i j => i * 2 ^ j.toNat) (dC (.int 1)) (dV 5)))))
noncomputable def den_row_for_bits : DS :=
  (sSeq (sSet 4 (dC (.int 0)))
    (sSeq (sFor (dIt (dCall 1 m_stretches (dCons (dCall 3 m_kind_size (dCons (dV 0) (dCons (dV 1) (dCons (dV 2) dNil)))) dNil))) (gN 5) b1_row_for_bits)
    (sRet (dC .non))))
noncomputable def m_row_for_bits : List D → Sto → Res D := callM (runB 6 den_row_for_bits)
theorem ok_row_for_bits {P : Program} {w : World} {K : PySem.W.Frag} {mg : Str → Option Value} {base : Heap} {f : Addr} {fd : FuncData} (F : Fun K "row_for_bits" "row_for_bits" s_row_for_bits f fd) (B : Bu mg)
    (h_kind_size : Has CX0 P w K mg base "kind_size" 3 ["die", "throws", "kind"] (spD K 3 m_kind_size))
    (h_stretches : Has CX0 P w K mg base "stretches" 1 ["many"] (spD K 1 m_stretches))
    (h_number_of_bits : Has CX0 P w K mg base "number_of_bits" 1 ["bits"] (spD K 1 m_number_of_bits))
    (h_row_of_number : Has CX0 P w K mg base "row_of_number" 4 ["die", "throws", "kind", "number"] (spD K 4 m_row_of_number)) :
    FnOk P w K mg base CX0 5 f fd ["die", "throws", "kind", "bits"] (spD K 4 (runB 6 den_row_for_bits)) :=
  ok_body (k := 4) F sc_row_for_bits fun cdv A outer s H E hr =>
    (as_cons (as_set (i := 4) sc_row_for_bits.nd rfl (Or.inl rfl) ae_int)
    (as_cons (as_for PassesOwn.never rfl (ai_of (ae_callD h_stretches (hr.mono (by decide)) rfl (aa_cons (ae_callD h_kind_size (hr.mono (by decide)) rfl (aa_cons (ae_var (pv 0)) (aa_cons (ae_var (pv 1)) (aa_cons (ae_var (pv 2)) aa_nil)))) aa_nil))) (ag_name (i := 5) sc_row_for_bits.nd rfl (Or.inl rfl)) (as_cons (as_if (at_eq hr.units (ae_var (pv 5)) (ae_len rfl B.m_len (aa_cons (ae_var (pv 3)) aa_nil))) (as_one (as_ret (ae_callD h_row_of_number (hr.mono (by decide)) rfl (aa_cons (ae_var (pv 0)) (aa_cons (ae_var (pv 1)) (aa_cons (ae_var (pv 2)) (aa_cons (ae_add (ae_var (pv 4)) (ae_callD h_number_of_bits (hr.mono (by decide)) rfl (aa_cons (ae_var (pv 3)) aa_nil))) aa_nil))))))) as_nil)
    (as_one (as_set (i := 4) sc_row_for_bits.nd rfl (Or.inl rfl) (ae_add (ae_var (pv 4)) (ae_shlW ae_int (ae_var (pv 5))))))))
    (as_one (as_ret ae_non))))
/-! all_rows -/
abbrev s_all_rows : Stmt := top 34
abbrev sc_all_rowsN : List Str := ["die", "throws", "rows", "_", "face", "row"]
theorem sc_all_rows : FnScope sc_all_rowsN ["die", "throws"] (defScope s_all_rows) := ⟨rfl, rfl, rfl, by decide +kernel, rfl, by decide +kernel, by decide +kernel⟩
noncomputable def e1_all_rows : DE :=
  (dOp hAdd (dV 5) (dTup (dCons (dV 4) dNil)))
noncomputable def i2_all_rows : DI :=
  (dRng1 (dCons (dCB hLen (dCons (dV 0) dNil)) dNil))
noncomputable def b3_all_rows : DS :=
  (sSet 2 (dLc2 (dIt (dV 2)) (gN 5) dYes i2_all_rows (gN 4) dYes e1_all_rows [5, 4] [4]))
noncomputable def den_all_rows : DS :=
  (sSeq (sSet 2 (dLst (dCons (dTup dNil) dNil)))
    (sSeq (sFor (dRng1 (dCons (dV 1) dNil)) (gN 3) b3_all_rows)
    (sRet (dCB hTupOf (dCons (dV 2) dNil)))))
noncomputable def m_all_rows : List D → Sto → Res D := callM (runB 6 den_all_rows)
theorem ok_all_rows {P : Program} {w : World} {K : PySem.W.Frag} {mg : Str → Option Value} {base : Heap} {f : Addr} {fd : FuncData} (F : Fun K "all_rows" "all_rows" s_all_rows f fd) (B : Bu mg) :
    FnOk P w K mg base CX0 1 f fd ["die", "throws"] (spD K 2 (runB 6 den_all_rows)) :=
  ok_body (k := 0) F sc_all_rows fun cdv A outer s H E hr =>
    (as_cons (as_set (i := 2) sc_all_rows.nd rfl (Or.inl rfl) (ae_lst (aa_cons (ae_tup aa_nil) aa_nil)))
    (as_cons (as_for PassesOwn.never rfl (ai_range1 rfl B.m_range (aa_cons (ae_var (pv 1)) aa_nil)) (ag_name (i := 3) sc_all_rows.nd rfl (Or.inl rfl)) (as_one (as_setLc2v (i := 2) (vs1 := [4]) [("row", 5), ("face", 4)] rfl (by decide) rfl sc_all_rows.nd rfl rfl (sw_true rfl rfl rfl (by decide +kernel)) (ai_of (ae_var (pv 2))) (blkOk_by (own := [("row", 5), ("face", 4)]) (N := sc_all_rowsN) (sc := defScope s_all_rows) (by decide +kernel)) (fun _ _ _ _ _ => pg_name (i := 5) sc_all_rows.nd rfl (Or.inl rfl)) (fun _ _ _ _ _ => pts_none) (fun _ _ _ _ _ => (ai_range1 rfl B.m_range (aa_cons (ae_len rfl B.m_len (aa_cons (ae_var (pv 0)) aa_nil)) aa_nil))) (fun _ _ _ _ _ => pg_name (i := 4) sc_all_rows.nd rfl (Or.inl rfl)) (fun _ _ _ _ _ => pts_none) (fun _ _ _ _ _ => (ae_add (ae_var (pv 5)) (ae_tup (aa_cons (ae_var (pv 4)) aa_nil)))) (agw_name (by decide)) (agw_name (by decide)))))
    (as_one (as_ret (ae_tupOf rfl B.m_tuple (aa_cons (ae_var (pv 2)) aa_nil))))))
/-! rows_of_kind -/
abbrev s_rows_of_kind : Stmt := top 35
abbrev sc_rows_of_kindN : List Str := ["die", "throws", "kind", "many", "number"]
theorem sc_rows_of_kind : FnScope sc_rows_of_kindN ["die", "throws", "kind"] (defScope s_rows_of_kind) := ⟨rfl, rfl, rfl, by decide +kernel, rfl, by decide +kernel, by decide +kernel⟩
noncomputable def e1_rows_of_kind : DE :=
  (dCall 4 m_row_of_number (dCons (dV 0) (dCons (dV 1) (dCons (dV 2) (dCons (dV 4) dNil)))))
noncomputable def den_rows_of_kind : DS :=
  (sSeq (sSet 3 (dCall 3 m_kind_size (dCons (dV 0) (dCons (dV 1) (dCons (dV 2) dNil)))))
    (sRet (dCB hTupOf (dCons (dLc (dRng1 (dCons (dV 3) dNil)) (gN 4) dYes e1_rows_of_kind [4]) dNil))))
noncomputable def m_rows_of_kind : List D → Sto → Res D := callM (runB 5 den_rows_of_kind)
theorem ok_rows_of_kind {P : Program} {w : World} {K : PySem.W.Frag} {mg : Str → Option Value} {base : Heap} {f : Addr} {fd : FuncData} (F : Fun K "rows_of_kind" "rows_of_kind" s_rows_of_kind f fd) (B : Bu mg)
    (h_kind_size : Has CX0 P w K mg base "kind_size" 3 ["die", "throws", "kind"] (spD K 3 m_kind_size))
    (h_row_of_number : Has CX0 P w K mg base "row_of_number" 4 ["die", "throws", "kind", "number"] (spD K 4 m_row_of_number)) :
    FnOk P w K mg base CX0 5 f fd ["die", "throws", "kind"] (spD K 3 (runB 5 den_rows_of_kind)) :=
  ok_body (k := 4) F sc_rows_of_kind fun cdv A outer s H E hr =>
    (as_cons (as_set (i := 3) sc_rows_of_kind.nd rfl (Or.inl rfl) (ae_callD h_kind_size (hr.mono (by decide)) rfl (aa_cons (ae_var (pv 0)) (aa_cons (ae_var (pv 1)) (aa_cons (ae_var (pv 2)) aa_nil)))))
    (as_one (as_ret (ae_tupOf rfl B.m_tuple (aa_cons (ae_lcv [("number", 4)] rfl rfl sc_rows_of_kind.nd (ai_range1 rfl B.m_range (aa_cons (ae_var (pv 3)) aa_nil)) (blkOk_by (own := [("number", 4)]) (N := sc_rows_of_kindN) (sc := defScope s_rows_of_kind) (by decide +kernel)) (fun _ _ _ _ _ => pg_name (i := 4) sc_rows_of_kind.nd rfl (Or.inl rfl)) (fun _ _ _ _ _ => pts_none) (fun _ _ _ _ _ => (ae_callD h_row_of_number (hr.mono (by decide)) rfl (aa_cons (ae_var (pv 0)) (aa_cons (ae_var (pv 1)) (aa_cons (ae_var (pv 2)) (aa_cons (ae_var (pv 4)) aa_nil)))))) (agw_name (by decide))) aa_nil)))))
/-! bits_of_row -/
abbrev s_bits_of_row : Stmt := top 37
abbrev sc_bits_of_rowN : List Str := ["die", "faces", "block", "bits", "begin"]
theorem sc_bits_of_row : FnScope sc_bits_of_rowN ["die", "faces", "block"] (defScope s_bits_of_row) := ⟨rfl, rfl, rfl, by decide +kernel, rfl, by decide +kernel, by decide +kernel⟩
noncomputable def b1_bits_of_row : DS :=
  (sSet 3 (dOp hAdd (dV 3) (dCall 2 m_row_bits (dCons (dV 0) (dCons (dSl (dV 1) (dOSome (dV 4)) (dOSome (dOp hAdd (dV 4) (dV 2)))) dNil)))))
noncomputable def den_bits_of_row : DS :=
  (sSeq (sSet 3 (dTup dNil))
    (sSeq (sFor (dRngP (dCons (dC (.int 0)) (dCons (dOp hAdd (dOp (hInt yes2 fun i j => i - j) (dCB hLen (dCons (dV 1) dNil)) (dV 2)) (dC (.int 1))) (dCons (dV 2) dNil)))) (gN 4) b1_bits_of_row)
    (sRet (dV 3))))
noncomputable def m_bits_of_row : List D → Sto → Res D := callM (runB 5 den_bits_of_row)
theorem ok_bits_of_row {P : Program} {w : World} {K : PySem.W.Frag} {mg : Str → Option Value} {base : Heap} {f : Addr} {fd : FuncData} (F : Fun K "bits_of_row" "bits_of_row" s_bits_of_row f fd) (B : Bu mg)
    (h_row_bits : Has CX0 P w K mg base "row_bits" 4 ["die", "faces"] (spD K 2 m_row_bits)) :
    FnOk P w K mg base CX0 5 f fd ["die", "faces", "block"] (spD K 3 (runB 5 den_bits_of_row)) :=
  ok_body (k := 4) F sc_bits_of_row fun cdv A outer s H E hr =>
    (as_cons (as_set (i := 3) sc_bits_of_row.nd rfl (Or.inl rfl) (ae_tup aa_nil))
    (as_cons (as_for PassesOwn.never rfl (ai_rangeP rfl B.m_range (aa_cons ae_int (aa_cons (ae_add (ae_sub (ae_len rfl B.m_len (aa_cons (ae_var (pv 1)) aa_nil)) (ae_var (pv 2))) ae_int) (aa_cons (ae_var (pv 2)) aa_nil)))) (ag_name (i := 4) sc_bits_of_row.nd rfl (Or.inl rfl)) (as_one (as_set (i := 3) sc_bits_of_row.nd rfl (Or.inl rfl) (ae_add (ae_var (pv 3)) (ae_callD h_row_bits (hr.mono (by decide)) rfl (aa_cons (ae_var (pv 0)) (aa_cons (ae_sl (ae_var (pv 1)) (ao_some (ae_var (pv 4))) (ao_some (ae_add (ae_var (pv 4)) (ae_var (pv 2))))) aa_nil)))))))
    (as_one (as_ret (ae_var (pv 3))))))
/-! even_bits -/
abbrev s_even_bits : Stmt := top 38
abbrev sc_even_bitsN : List Str := ["die", "throws", "told", "faces", "bits", "lengths", "length", "masses"]
theorem sc_even_bits : FnScope sc_even_bitsN ["die", "throws"] (defScope s_even_bits) := ⟨rfl, rfl, rfl, by decide +kernel, rfl, by decide +kernel, by decide +kernel⟩
noncomputable def b1_even_bits : DS :=
  (sSeq (sSet 4 (dCall 2 m_row_bits (dCons (dV 0) (dCons (dV 3) dNil))))
    (sDSet (dV 2) (dV 4) (dOp hAdd (dGet2 (dV 2) (dV 4) (dC (.int 0))) (dCall 2 m_row_mass (dCons (dV 0) (dCons (dV 3) dNil))))))
noncomputable def b2_even_bits : DS :=
  (sExpr (dMe hApp (dSetd (dV 5) (dCB hLen (dCons (dV 4) dNil)) (dLst dNil)) (dCons (dOp hDG (dV 2) (dV 4)) dNil)))
noncomputable def b3_even_bits : DS :=
  (sSeq (sSet 7 (dOp hDG (dV 5) (dV 6)))
    (sIf (dOr (dBl (dOp hNe (dCB hLen (dCons (dV 7) dNil)) (dOp (hInt shlW fun i j => i * 2 ^ j.toNat) (dC (.int 1)) (dV 6)))) (dBl (dOp hNe (dCB hMinL (dCons (dV 7) dNil)) (dCB hMaxL (dCons (dV 7) dNil))))) (sRet (dC (.bl false))) sNx))
noncomputable def den_even_bits : DS :=
  (sSeq (sSet 2 dNewT)
    (sSeq (sFor (dIt (dCall 2 m_all_rows (dCons (dV 0) (dCons (dV 1) dNil)))) (gN 3) b1_even_bits)
    (sSeq (sSet 5 dNewK)
    (sSeq (sLock 2 (sFor (dKeys (dV 2)) (gN 4) b2_even_bits))
    (sSeq (sLock 5 (sFor (dKeys (dV 5)) (gN 6) b3_even_bits))
    (sRet (dC (.bl true))))))))
noncomputable def m_even_bits : List D → Sto → Res D := callM (runB 8 den_even_bits)
theorem ok_even_bits {P : Program} {w : World} {K : PySem.W.Frag} {mg : Str → Option Value} {base : Heap} {f : Addr} {fd : FuncData} (F : Fun K "even_bits" "even_bits" s_even_bits f fd) (B : Bu mg)
    (h_all_rows : Has CX0 P w K mg base "all_rows" 1 ["die", "throws"] (spD K 2 m_all_rows))
    (h_row_bits : Has CX0 P w K mg base "row_bits" 4 ["die", "faces"] (spD K 2 m_row_bits))
    (h_row_mass : Has CX0 P w K mg base "row_mass" 1 ["die", "faces"] (spD K 2 m_row_mass)) :
    FnOk P w K mg base CX0 5 f fd ["die", "throws"] (spD K 2 (runB 8 den_even_bits)) :=
  ok_body (k := 4) F sc_even_bits fun cdv A outer s H E hr =>
    (as_cons (as_set (i := 2) sc_even_bits.nd rfl (Or.inl rfl) ae_newT)
    (as_cons (as_for PassesOwn.never rfl (ai_of (ae_callD h_all_rows (hr.mono (by decide)) rfl (aa_cons (ae_var (pv 0)) (aa_cons (ae_var (pv 1)) aa_nil)))) (ag_name (i := 3) sc_even_bits.nd rfl (Or.inl rfl)) (as_cons (as_set (i := 4) sc_even_bits.nd rfl (Or.inl rfl) (ae_callD h_row_bits (hr.mono (by decide)) rfl (aa_cons (ae_var (pv 0)) (aa_cons (ae_var (pv 3)) aa_nil))))
    (as_one (as_dset hr.units1 (ae_add (ae_get2 hr.units1 (ae_var (pv 2)) (ae_var (pv 4)) ae_int) (ae_callD h_row_mass (hr.mono (by decide)) rfl (aa_cons (ae_var (pv 0)) (aa_cons (ae_var (pv 3)) aa_nil)))) (ae_var (pv 2)) (ae_var (pv 4))))))
    (as_cons (as_set (i := 5) sc_even_bits.nd rfl (Or.inl rfl) ae_newK)
    (as_cons (as_lock (i := 2) (as_for PassesOwn.never rfl (ai_keys (ae_var (pv 2))) (ag_name (i := 4) sc_even_bits.nd rfl (Or.inl rfl)) (as_one (as_expr (ae_append (ae_setd (ae_var (pv 5)) (ae_len rfl B.m_len (aa_cons (ae_var (pv 4)) aa_nil)) (ae_lst aa_nil)) (aa_cons (ae_dg hr.units1 (ae_var (pv 2)) (ae_var (pv 4))) aa_nil))))))
    (as_cons (as_lock (i := 5) (as_for PassesOwn.never rfl (ai_keys (ae_var (pv 5))) (ag_name (i := 6) sc_even_bits.nd rfl (Or.inl rfl)) (as_cons (as_set (i := 7) sc_even_bits.nd rfl (Or.inl rfl) (ae_dg hr.units1 (ae_var (pv 5)) (ae_var (pv 6))))
    (as_one (as_if (at_w (aw_or (at_ne hr.units (ae_len rfl B.m_len (aa_cons (ae_var (pv 7)) aa_nil)) (ae_shlW ae_int (ae_var (pv 6)))) (aw_or1 (at_ne hr.units (ae_minL rfl rfl B.m_min (aa_cons (ae_var (pv 7)) aa_nil)) (ae_maxL rfl rfl B.m_max (aa_cons (ae_var (pv 7)) aa_nil)))))) (as_one (as_ret ae_bl)) as_nil)))))
    (as_one (as_ret ae_bl)))))))
/-! _law_jug -/
abbrev s__law_jug : Stmt := top 40
abbrev sc__law_jugN : List Str := ["script", "great", "mix", "cell", "size"]
theorem sc__law_jug : FnScope sc__law_jugN ["script"] (defScope s__law_jug) := ⟨rfl, rfl, rfl, by decide +kernel, rfl, by decide +kernel, by decide +kernel⟩
noncomputable def b1__law_jug : DS :=
  (sSeq (sSet 4 (dOp (hInt (fun _ j => decide (j ≠ 0)) Int.fmod) (dCB hAbs (dCons (dCB hInt1 (dCons (dV 3) dNil)) dNil)) (dOp (hInt powW fun i j => i ^ j.toNat) (dOp (hInt powW fun i j => i ^ j.toNat) (dC (.int 10)) (dC (.int 60))) (dC (.int 8)))))
    (sSeq (sSet 2 (dOp (hInt (fun _ j => decide (j ≠ 0)) Int.fmod) (dCB hInt1 (dCons (dOp hAdd (dOp hAdd (dOp hMulT (dV 2) (dC (.int 44485709))) (dOp (hInt (fun _ j => decide (j ≠ 0)) Int.fmod) (dCB hInt1 (dCons (dV 4) dNil)) (dC (.int 1999999949)))) (dC (.int 25))) dNil)) (dC (.int 2147483563))))
    (sIf (dBl (dOp (hCmp fun i j => decide (j ≤ i)) (dV 4) (dOp (hInt powW fun i j => i ^ j.toNat) (dC (.int 10)) (dC (.int 18))))) (sExpr (dMe hApp (dV 1) (dCons (dV 4) dNil))) sNx)))
noncomputable def den__law_jug : DS :=
  (sSeq (sPar 1 2 (dCons (dLst dNil) (dCons (dC (.int 81001)) dNil)))
    (sSeq (sFor (dIt (dSl (dV 0) dONone (dOSome (dC (.int 48))))) (gN 3) b1__law_jug)
    (sRet (dLst (dCons (dUn hRev (dV 1)) (dCons (dV 2) dNil))))))
noncomputable def m__law_jug : List D → Sto → Res D := callM (runB 5 den__law_jug)
theorem ok__law_jug {P : Program} {w : World} {K : PySem.W.Frag} {mg : Str → Option Value} {base : Heap} {f : Addr} {fd : FuncData} (F : Fun K "_law_jug" "_law_jug" s__law_jug f fd) (B : Bu mg) :
    FnOk P w K mg base CX0 1 f fd ["script"] (spD K 1 (runB 5 den__law_jug)) :=
  ok_body (k := 0) F sc__law_jug fun cdv A outer s H E hr =>
    (as_cons (as_par (i := 1) (j := 2) rfl sc__law_jug.nd rfl rfl (by decide) rfl rfl (aa_cons (ae_lst aa_nil) (aa_cons ae_int aa_nil)) rfl)
    (as_cons (as_for PassesOwn.never rfl (ai_of (ae_sl (ae_var (pv 0)) ao_none (ao_some ae_int))) (ag_name (i := 3) sc__law_jug.nd rfl (Or.inl rfl)) (as_cons (as_set (i := 4) sc__law_jug.nd rfl (Or.inl rfl) (ae_mod (ae_abs rfl B.m_abs (aa_cons (ae_int1 rfl B.m_int (aa_cons (ae_var (pv 3)) aa_nil)) aa_nil)) (ae_powW (ae_powW ae_int ae_int) ae_int)))
    (as_cons (as_set (i := 2) sc__law_jug.nd rfl (Or.inl rfl) (ae_mod (ae_int1 rfl B.m_int (aa_cons (ae_add (ae_add (ae_mulT (ae_var (pv 2)) ae_int) (ae_mod (ae_int1 rfl B.m_int (aa_cons (ae_var (pv 4)) aa_nil)) ae_int)) ae_int) aa_nil)) ae_int))
    (as_one (as_if (at_ge (ae_var (pv 4)) (ae_powW ae_int ae_int)) (as_one (as_expr (ae_append (ae_var (pv 1)) (aa_cons (ae_var (pv 4)) aa_nil)))) as_nil)))))
    (as_one (as_ret (ae_lst (aa_cons (ae_rev (ae_var (pv 1))) (aa_cons (ae_var (pv 2)) aa_nil)))))))
/-! _law_pour -/
abbrev s__law_pour : Stmt := top 41
abbrev sc__law_pourN : List Str := ["jug", "many", "great", "told"]
theorem sc__law_pour : FnScope sc__law_pourN ["jug", "many"] (defScope s__law_pour) := ⟨rfl, rfl, rfl, by decide +kernel, rfl, by decide +kernel, by decide +kernel⟩
noncomputable def c1__law_pour : DB :=
  (dAnd (dBl (dOp (hCmp fun i j => decide (j < i)) (dCB hLen (dCons (dV 2) dNil)) (dC (.int 0)))) (dBl (dOp hEq (dOp hIx (dV 2) (dUn hNeg (dC (.int 1)))) (dC (.int 0)))))
noncomputable def b2__law_pour : DS :=
  (sExpr (dMe0 hPop (dV 2)))
noncomputable def den__law_pour : DS :=
  (sSeq (sSet 2 (dOp hIx (dV 0) (dC (.int 0))))
    (sSeq (sWhile fuel c1__law_pour b2__law_pour)
    (sSeq (sIf (dBl (dOp (hCmp fun i j => decide (j < i)) (dCB hLen (dCons (dV 2) dNil)) (dC (.int 0)))) (sSeq (sSet 3 (dOp (hInt (fun _ j => decide (j ≠ 0)) Int.fmod) (dCB hInt1 (dCons (dOp hIx (dV 2) (dUn hNeg (dC (.int 1)))) dNil)) (dV 1)))
    (sSeq (sSub (dV 2) (dUn hNeg (dC (.int 1))) (dOp (hInt (fun _ j => divOk j) fun i j => i / j) (dOp hIx (dV 2) (dUn hNeg (dC (.int 1)))) (dV 1)))
    (sRet (dV 3)))) sNx)
    (sSeq (sSub (dV 0) (dC (.int 1)) (dOp (hInt (fun _ j => decide (j ≠ 0)) Int.fmod) (dCB hInt1 (dCons (dOp hAdd (dOp hMulT (dOp hIx (dV 0) (dC (.int 1))) (dC (.int 41358))) (dC (.int 1201))) dNil)) (dC (.int 2147483563))))
    (sRet (dOp (hInt (fun _ j => decide (j ≠ 0)) Int.fmod) (dCB hInt1 (dCons (dOp (hInt (fun _ j => divOk j) fun i j => i / j) (dOp hIx (dV 0) (dC (.int 1))) (dC (.int 109))) dNil)) (dV 1)))))))
noncomputable def m__law_pour : List D → Sto → Res D := callM (runB 4 den__law_pour)
theorem ok__law_pour {P : Program} {w : World} {K : PySem.W.Frag} {mg : Str → Option Value} {base : Heap} {f : Addr} {fd : FuncData} (F : Fun K "_law_pour" "_law_pour" s__law_pour f fd) (B : Bu mg) :
    FnOk P w K mg base CX0 1 f fd ["jug", "many"] (spD K 2 (runB 4 den__law_pour)) :=
  ok_body (k := 0) F sc__law_pour fun cdv A outer s H E hr =>
    (as_cons (as_set (i := 2) sc__law_pour.nd rfl (Or.inl rfl) (ae_ix (ae_var (pv 0)) ae_int))
    (as_cons (as_while PassesOwn.never (at_w (aw_and (at_gt (ae_len rfl B.m_len (aa_cons (ae_var (pv 2)) aa_nil)) ae_int) (aw_and1 (at_eq hr.units (ae_ix (ae_var (pv 2)) (ae_neg ae_int)) ae_int)))) (as_one (as_expr (ae_pop (ae_var (pv 2))))))
    (as_cons (as_if (at_gt (ae_len rfl B.m_len (aa_cons (ae_var (pv 2)) aa_nil)) ae_int) (as_cons (as_set (i := 3) sc__law_pour.nd rfl (Or.inl rfl) (ae_mod (ae_int1 rfl B.m_int (aa_cons (ae_ix (ae_var (pv 2)) (ae_neg ae_int)) aa_nil)) (ae_var (pv 1))))
    (as_cons (as_sub (ae_div (ae_ix (ae_var (pv 2)) (ae_neg ae_int)) (ae_var (pv 1))) (ae_var (pv 2)) (ae_neg ae_int))
    (as_one (as_ret (ae_var (pv 3)))))) as_nil)
    (as_cons (as_sub (ae_mod (ae_int1 rfl B.m_int (aa_cons (ae_add (ae_mulT (ae_ix (ae_var (pv 0)) ae_int) ae_int) ae_int) aa_nil)) ae_int) (ae_var (pv 0)) ae_int)
    (as_one (as_ret (ae_mod (ae_int1 rfl B.m_int (aa_cons (ae_div (ae_ix (ae_var (pv 0)) ae_int) ae_int) aa_nil)) (ae_var (pv 1)))))))))
/-! _law_die -/
abbrev s__law_die : Stmt := top 42
abbrev sc__law_dieN : List Str := ["jug", "most", "pairs", "one", "other", "faces", "face"]
theorem sc__law_die : FnScope sc__law_dieN ["jug", "most"] (defScope s__law_die) := ⟨rfl, rfl, rfl, by decide +kernel, rfl, by decide +kernel, by decide +kernel⟩
noncomputable def e1__law_die : DE :=
  (dOp hIx (dLst (dCons (dV 3) (dCons (dV 4) dNil))) (dCall 2 m__law_pour (dCons (dV 0) (dCons (dC (.int 2)) dNil))))
noncomputable def den__law_die : DS :=
  (sSeq (sSet 2 (dLst (dCons (dTup (dCons (dC (.int 1)) (dCons (dC (.int 1)) dNil))) (dCons (dTup (dCons (dC (.int 1)) (dCons (dC (.int 2)) dNil))) (dCons (dTup (dCons (dC (.int 2)) (dCons (dC (.int 1)) dNil))) (dCons (dTup (dCons (dC (.int 1)) (dCons (dC (.int 3)) dNil))) (dCons (dTup (dCons (dC (.int 3)) (dCons (dC (.int 2)) dNil))) (dCons (dTup (dCons (dC (.int 2)) (dCons (dC (.int 3)) dNil))) (dCons (dTup (dCons (dC (.int 1)) (dCons (dC (.int 5)) dNil))) (dCons (dTup (dCons (dC (.int 5)) (dCons (dC (.int 1)) dNil))) (dCons (dTup (dCons (dC (.int 4)) (dCons (dC (.int 3)) dNil))) (dCons (dTup (dCons (dC (.int 4)) (dCons (dC (.int 5)) dNil))) (dCons (dTup (dCons (dC (.int 2)) (dCons (dC (.int 5)) dNil))) (dCons (dTup (dCons (dC (.int 4)) (dCons (dC (.int 1)) dNil))) dNil))))))))))))))
    (sSeq (sAsg (gT [3, 4]) (dOp hIx (dV 2) (dCall 2 m__law_pour (dCons (dV 0) (dCons (dCB hLen (dCons (dV 2) dNil)) dNil)))))
    (sSeq (sSet 5 (dOp hAdd (dLst (dCons (dV 3) dNil)) (dLc (dRng1 (dCons (dOp hAdd (dC (.int 1)) (dCall 2 m__law_pour (dCons (dV 0) (dCons (dOp (hInt yes2 fun i j => i - j) (dV 1) (dC (.int 1))) dNil)))) dNil)) (gN 6) dYes e1__law_die [6])))
    (sSeq (sIf (dBl (dOp (hIn true) (dV 4) (dV 5))) (sSub (dV 5) (dUn hNeg (dC (.int 1))) (dV 4)) sNx)
    (sRet (dCB hTupOf (dCons (dV 5) dNil)))))))
noncomputable def m__law_die : List D → Sto → Res D := callM (runB 7 den__law_die)
theorem ok__law_die {P : Program} {w : World} {K : PySem.W.Frag} {mg : Str → Option Value} {base : Heap} {f : Addr} {fd : FuncData} (F : Fun K "_law_die" "_law_die" s__law_die f fd) (B : Bu mg)
    (h__law_pour : Has CX0 P w K mg base "_law_pour" 1 ["jug", "many"] (spD K 2 m__law_pour)) :
    FnOk P w K mg base CX0 2 f fd ["jug", "most"] (spD K 2 (runB 7 den__law_die)) :=
  ok_body (k := 1) F sc__law_die fun cdv A outer s H E hr =>
    (as_cons (as_set (i := 2) sc__law_die.nd rfl (Or.inl rfl) (ae_lst (aa_cons (ae_tup (aa_cons ae_int (aa_cons ae_int aa_nil))) (aa_cons (ae_tup (aa_cons ae_int (aa_cons ae_int aa_nil))) (aa_cons (ae_tup (aa_cons ae_int (aa_cons ae_int aa_nil))) (aa_cons (ae_tup (aa_cons ae_int (aa_cons ae_int aa_nil))) (aa_cons (ae_tup (aa_cons ae_int (aa_cons ae_int aa_nil))) (aa_cons (ae_tup (aa_cons ae_int (aa_cons ae_int aa_nil))) (aa_cons (ae_tup (aa_cons ae_int (aa_cons ae_int aa_nil))) (aa_cons (ae_tup (aa_cons ae_int (aa_cons ae_int aa_nil))) (aa_cons (ae_tup (aa_cons ae_int (aa_cons ae_int aa_nil))) (aa_cons (ae_tup (aa_cons ae_int (aa_cons ae_int aa_nil))) (aa_cons (ae_tup (aa_cons ae_int (aa_cons ae_int aa_nil))) (aa_cons (ae_tup (aa_cons ae_int (aa_cons ae_int aa_nil))) aa_nil))))))))))))))
    (as_cons (as_asg (ae_ix (ae_var (pv 2)) (ae_callD h__law_pour (hr.mono (by decide)) rfl (aa_cons (ae_var (pv 0)) (aa_cons (ae_len rfl B.m_len (aa_cons (ae_var (pv 2)) aa_nil)) aa_nil)))) (ag_tup rfl (ags_cons (i := 3) sc__law_die.nd rfl (Or.inr rfl) (ags_cons (i := 4) sc__law_die.nd rfl (Or.inr rfl) ags_nil))))
    (as_cons (as_set (i := 5) sc__law_die.nd rfl (Or.inl rfl) (ae_add (ae_lst (aa_cons (ae_var (pv 3)) aa_nil)) (ae_lcv [("face", 6)] rfl rfl sc__law_die.nd (ai_range1 rfl B.m_range (aa_cons (ae_add ae_int (ae_callD h__law_pour (hr.mono (by decide)) rfl (aa_cons (ae_var (pv 0)) (aa_cons (ae_sub (ae_var (pv 1)) ae_int) aa_nil)))) aa_nil)) (blkOk_by (own := [("face", 6)]) (N := sc__law_dieN) (sc := defScope s__law_die) (by decide +kernel)) (fun _ _ _ _ _ => pg_name (i := 6) sc__law_die.nd rfl (Or.inl rfl)) (fun _ _ _ _ _ => pts_none) (fun _ _ _ _ _ => (ae_ix (ae_lst (aa_cons (ae_var (pv 3)) (aa_cons (ae_var (pv 4)) aa_nil))) (ae_callD h__law_pour (hr.mono (by decide)) rfl (aa_cons (ae_var (pv 0)) (aa_cons ae_int aa_nil))))) (agw_name (by decide)))))
    (as_cons (as_if (at_notIn (ae_var (pv 4)) (ae_var (pv 5))) (as_one (as_sub (ae_var (pv 4)) (ae_var (pv 5)) (ae_neg ae_int))) as_nil)
    (as_one (as_ret (ae_tupOf rfl B.m_tuple (aa_cons (ae_var (pv 5)) aa_nil))))))))
/-! _law_form -/
abbrev s__law_form : Stmt := top 43
abbrev sc__law_formN : List Str := ["die", "light", "weight"]
theorem sc__law_form : FnScope sc__law_formN ["die"] (defScope s__law_form) := ⟨rfl, rfl, rfl, by decide +kernel, rfl, by decide +kernel, by decide +kernel⟩
noncomputable def e1__law_form : DE :=
  (dV 2)
noncomputable def q2__law_form : DB :=
  (dBl (dOp hNe (dV 2) (dOp hIx (dV 0) (dC (.int 0)))))
noncomputable def den__law_form : DS :=
  (sSeq (sSet 1 (dLc (dIt (dV 0)) (gN 2) q2__law_form e1__law_form [2]))
    (sRet (dTup (dCons (dOp hIx (dV 0) (dC (.int 0))) (dCons (dOp (hInt yes2 fun i j => i - j) (dCB hLen (dCons (dV 0) dNil)) (dCB hLen (dCons (dV 1) dNil))) (dCons (dIfE (dBl (dOp (hCmp fun i j => decide (j < i)) (dCB hLen (dCons (dV 1) dNil)) (dC (.int 0)))) (dOp hIx (dV 1) (dC (.int 0))) (dC (.int 1))) (dCons (dCB hLen (dCons (dV 1) dNil)) dNil)))))))
noncomputable def m__law_form : List D → Sto → Res D := callM (runB 3 den__law_form)
theorem ok__law_form {P : Program} {w : World} {K : PySem.W.Frag} {mg : Str → Option Value} {base : Heap} {f : Addr} {fd : FuncData} (F : Fun K "_law_form" "_law_form" s__law_form f fd) (B : Bu mg) :
    FnOk P w K mg base CX0 1 f fd ["die"] (spD K 1 (runB 3 den__law_form)) :=
  ok_body (k := 0) F sc__law_form fun cdv A outer s H E hr =>
    (as_cons (as_setLcv (i := 1) [("weight", 2)] rfl rfl sc__law_form.nd rfl rfl (sw_true rfl rfl rfl (by decide +kernel)) (ai_of (ae_var (pv 0))) (blkOk_by (own := [("weight", 2)]) (N := sc__law_formN) (sc := defScope s__law_form) (by decide +kernel)) (fun _ _ _ _ _ => pg_name (i := 2) sc__law_form.nd rfl (Or.inl rfl)) (fun _ _ _ _ _ => pts_one_ (at_ne hr.units (ae_var (pv 2)) (ae_ix (ae_var (pv 0)) ae_int))) (fun _ _ _ _ _ => (ae_var (pv 2))) (agw_name (by decide)))
    (as_one (as_ret (ae_tup (aa_cons (ae_ix (ae_var (pv 0)) ae_int) (aa_cons (ae_sub (ae_len rfl B.m_len (aa_cons (ae_var (pv 0)) aa_nil)) (ae_len rfl B.m_len (aa_cons (ae_var (pv 1)) aa_nil))) (aa_cons (ae_if (at_gt (ae_len rfl B.m_len (aa_cons (ae_var (pv 1)) aa_nil)) ae_int) (ae_ix (ae_var (pv 1)) ae_int) ae_int) (aa_cons (ae_len rfl B.m_len (aa_cons (ae_var (pv 1)) aa_nil)) aa_nil))))))))
/-! _law_choose -/
abbrev s__law_choose : Stmt := top 44
abbrev sc__law_chooseN : List Str := ["n", "k", "told", "at"]
theorem sc__law_choose : FnScope sc__law_chooseN ["n", "k"] (defScope s__law_choose) := ⟨rfl, rfl, rfl, by decide +kernel, rfl, by decide +kernel, by decide +kernel⟩
noncomputable def b1__law_choose : DS :=
  (sSet 2 (dOp (hInt (fun _ j => divOk j) fun i j => i / j) (dOp hMulT (dV 2) (dOp (hInt yes2 fun i j => i - j) (dV 0) (dV 3))) (dOp hAdd (dV 3) (dC (.int 1)))))
noncomputable def den__law_choose : DS :=
  (sSeq (sSet 2 (dC (.int 1)))
    (sSeq (sFor (dRng1 (dCons (dV 1) dNil)) (gN 3) b1__law_choose)
    (sRet (dIfE (dBl (dOp (hCmp fun i j => decide (i ≤ j)) (dV 1) (dV 0))) (dV 2) (dC (.int 0))))))
noncomputable def m__law_choose : List D → Sto → Res D := callM (runB 4 den__law_choose)
theorem ok__law_choose {P : Program} {w : World} {K : PySem.W.Frag} {mg : Str → Option Value} {base : Heap} {f : Addr} {fd : FuncData} (F : Fun K "_law_choose" "_law_choose" s__law_choose f fd) (B : Bu mg) :
    FnOk P w K mg base CX0 1 f fd ["n", "k"] (spD K 2 (runB 4 den__law_choose)) :=
  ok_body (k := 0) F sc__law_choose fun cdv A outer s H E hr =>
    (as_cons (as_set (i := 2) sc__law_choose.nd rfl (Or.inl rfl) ae_int)
    (as_cons (as_for PassesOwn.never rfl (ai_range1 rfl B.m_range (aa_cons (ae_var (pv 1)) aa_nil)) (ag_name (i := 3) sc__law_choose.nd rfl (Or.inl rfl)) (as_one (as_set (i := 2) sc__law_choose.nd rfl (Or.inl rfl) (ae_div (ae_mulT (ae_var (pv 2)) (ae_sub (ae_var (pv 0)) (ae_var (pv 3)))) (ae_add (ae_var (pv 3)) ae_int)))))
    (as_one (as_ret (ae_if (at_le (ae_var (pv 1)) (ae_var (pv 0))) (ae_var (pv 2)) ae_int)))))
/-! _law_power -/
abbrev s__law_power : Stmt := top 45
abbrev sc__law_powerN : List Str := ["one", "many", "told", "lap"]
theorem sc__law_power : FnScope sc__law_powerN ["one", "many"] (defScope s__law_power) := ⟨rfl, rfl, rfl, by decide +kernel, rfl, by decide +kernel, by decide +kernel⟩
noncomputable def b1__law_power : DS :=
  (sSet 2 (dOp hMulT (dV 2) (dV 0)))
noncomputable def den__law_power : DS :=
  (sSeq (sSet 2 (dC (.int 1)))
    (sSeq (sFor (dRng1 (dCons (dV 1) dNil)) (gN 3) b1__law_power)
    (sRet (dV 2))))
noncomputable def m__law_power : List D → Sto → Res D := callM (runB 4 den__law_power)
theorem ok__law_power {P : Program} {w : World} {K : PySem.W.Frag} {mg : Str → Option Value} {base : Heap} {f : Addr} {fd : FuncData} (F : Fun K "_law_power" "_law_power" s__law_power f fd) (B : Bu mg) :
    FnOk P w K mg base CX0 1 f fd ["one", "many"] (spD K 2 (runB 4 den__law_power)) :=
  ok_body (k := 0) F sc__law_power fun cdv A outer s H E hr =>
    (as_cons (as_set (i := 2) sc__law_power.nd rfl (Or.inl rfl) ae_int)
    (as_cons (as_for PassesOwn.never rfl (ai_range1 rfl B.m_range (aa_cons (ae_var (pv 1)) aa_nil)) (ag_name (i := 3) sc__law_power.nd rfl (Or.inl rfl)) (as_one (as_set (i := 2) sc__law_power.nd rfl (Or.inl rfl) (ae_mulT (ae_var (pv 2)) (ae_var (pv 0))))))
    (as_one (as_ret (ae_var (pv 2))))))
/-! _law_size -/
abbrev s__law_size : Stmt := top 46
abbrev sc__law_sizeN : List Str := ["die", "throws", "kind", "a", "r", "d", "s"]
theorem sc__law_size : FnScope sc__law_sizeN ["die", "throws", "kind"] (defScope s__law_size) := ⟨rfl, rfl, rfl, by decide +kernel, rfl, by decide +kernel, by decide +kernel⟩
noncomputable def den__law_size : DS :=
  (sSeq (sAsg (gT [3, 4, 5, 6]) (dCall 1 m__law_form (dCons (dV 0) dNil)))
    (sRet (dOp hMulT (dOp hMulT (dCall 2 m__law_choose (dCons (dV 1) (dCons (dV 2) dNil))) (dCall 2 m__law_power (dCons (dV 4) (dCons (dV 2) dNil)))) (dCall 2 m__law_power (dCons (dV 6) (dCons (dOp (hInt yes2 fun i j => i - j) (dV 1) (dV 2)) dNil))))))
noncomputable def m__law_size : List D → Sto → Res D := callM (runB 7 den__law_size)
theorem ok__law_size {P : Program} {w : World} {K : PySem.W.Frag} {mg : Str → Option Value} {base : Heap} {f : Addr} {fd : FuncData} (F : Fun K "_law_size" "_law_size" s__law_size f fd) (B : Bu mg)
    (h__law_form : Has CX0 P w K mg base "_law_form" 1 ["die"] (spD K 1 m__law_form))
    (h__law_choose : Has CX0 P w K mg base "_law_choose" 1 ["n", "k"] (spD K 2 m__law_choose))
    (h__law_power : Has CX0 P w K mg base "_law_power" 1 ["one", "many"] (spD K 2 m__law_power)) :
    FnOk P w K mg base CX0 2 f fd ["die", "throws", "kind"] (spD K 3 (runB 7 den__law_size)) :=
  ok_body (k := 1) F sc__law_size fun cdv A outer s H E hr =>
    (as_cons (as_asg (ae_callD h__law_form (hr.mono (by decide)) rfl (aa_cons (ae_var (pv 0)) aa_nil)) (ag_tup rfl (ags_cons (i := 3) sc__law_size.nd rfl (Or.inl rfl) (ags_cons (i := 4) sc__law_size.nd rfl (Or.inl rfl) (ags_cons (i := 5) sc__law_size.nd rfl (Or.inl rfl) (ags_cons (i := 6) sc__law_size.nd rfl (Or.inl rfl) ags_nil))))))
    (as_one (as_ret (ae_mulT (ae_mulT (ae_callD h__law_choose (hr.mono (by decide)) rfl (aa_cons (ae_var (pv 1)) (aa_cons (ae_var (pv 2)) aa_nil))) (ae_callD h__law_power (hr.mono (by decide)) rfl (aa_cons (ae_var (pv 4)) (aa_cons (ae_var (pv 2)) aa_nil)))) (ae_callD h__law_power (hr.mono (by decide)) rfl (aa_cons (ae_var (pv 6)) (aa_cons (ae_sub (ae_var (pv 1)) (ae_var (pv 2))) aa_nil)))))))
/-! _law_mass -/
abbrev s__law_mass : Stmt := top 47
abbrev sc__law_massN : List Str := ["die", "faces", "told", "face"]
theorem sc__law_mass : FnScope sc__law_massN ["die", "faces"] (defScope s__law_mass) := ⟨rfl, rfl, rfl, by decide +kernel, rfl, by decide +kernel, by decide +kernel⟩
noncomputable def b1__law_mass : DS :=
  (sSet 2 (dOp hMulT (dV 2) (dOp hIx (dV 0) (dV 3))))
noncomputable def den__law_mass : DS :=
  (sSeq (sSet 2 (dC (.int 1)))
    (sSeq (sFor (dIt (dV 1)) (gN 3) b1__law_mass)
    (sRet (dV 2))))
noncomputable def m__law_mass : List D → Sto → Res D := callM (runB 4 den__law_mass)
theorem ok__law_mass {P : Program} {w : World} {K : PySem.W.Frag} {mg : Str → Option Value} {base : Heap} {f : Addr} {fd : FuncData} (F : Fun K "_law_mass" "_law_mass" s__law_mass f fd) (B : Bu mg) :
    FnOk P w K mg base CX0 1 f fd ["die", "faces"] (spD K 2 (runB 4 den__law_mass)) :=
  ok_body (k := 0) F sc__law_mass fun cdv A outer s H E hr =>
    (as_cons (as_set (i := 2) sc__law_mass.nd rfl (Or.inl rfl) ae_int)
    (as_cons (as_for PassesOwn.never rfl (ai_of (ae_var (pv 1))) (ag_name (i := 3) sc__law_mass.nd rfl (Or.inl rfl)) (as_one (as_set (i := 2) sc__law_mass.nd rfl (Or.inl rfl) (ae_mulT (ae_var (pv 2)) (ae_ix (ae_var (pv 0)) (ae_var (pv 3)))))))
    (as_one (as_ret (ae_var (pv 2))))))
/-! _law_kind -/
abbrev s__law_kind : Stmt := top 48
abbrev sc__law_kindN : List Str := ["die", "faces", "face"]
theorem sc__law_kind : FnScope sc__law_kindN ["die", "faces"] (defScope s__law_kind) := ⟨rfl, rfl, rfl, by decide +kernel, rfl, by decide +kernel, by decide +kernel⟩
noncomputable def e1__law_kind : DE :=
  (dV 2)
noncomputable def q2__law_kind : DB :=
  (dBl (dOp hEq (dOp hIx (dV 0) (dV 2)) (dOp hIx (dV 0) (dC (.int 0)))))
noncomputable def den__law_kind : DS :=
  (sRet (dCB hLen (dCons (dLc (dIt (dV 1)) (gN 2) q2__law_kind e1__law_kind [2]) dNil)))
noncomputable def m__law_kind : List D → Sto → Res D := callM (runB 3 den__law_kind)
theorem ok__law_kind {P : Program} {w : World} {K : PySem.W.Frag} {mg : Str → Option Value} {base : Heap} {f : Addr} {fd : FuncData} (F : Fun K "_law_kind" "_law_kind" s__law_kind f fd) (B : Bu mg) :
    FnOk P w K mg base CX0 1 f fd ["die", "faces"] (spD K 2 (runB 3 den__law_kind)) :=
  ok_body (k := 0) F sc__law_kind fun cdv A outer s H E hr =>
    (as_one (as_ret (ae_len rfl B.m_len (aa_cons (ae_lcv [("face", 2)] rfl rfl sc__law_kind.nd (ai_of (ae_var (pv 1))) (blkOk_by (own := [("face", 2)]) (N := sc__law_kindN) (sc := defScope s__law_kind) (by decide +kernel)) (fun _ _ _ _ _ => pg_name (i := 2) sc__law_kind.nd rfl (Or.inl rfl)) (fun _ _ _ _ _ => pts_one_ (at_eq hr.units (ae_ix (ae_var (pv 0)) (ae_var (pv 2))) (ae_ix (ae_var (pv 0)) ae_int))) (fun _ _ _ _ _ => (ae_var (pv 2))) (agw_name (by decide))) aa_nil))))
/-! _law_kind_mass -/
abbrev s__law_kind_mass : Stmt := top 49
abbrev sc__law_kind_massN : List Str := ["die", "throws", "kind", "a", "r", "d", "s"]
theorem sc__law_kind_mass : FnScope sc__law_kind_massN ["die", "throws", "kind"] (defScope s__law_kind_mass) := ⟨rfl, rfl, rfl, by decide +kernel, rfl, by decide +kernel, by decide +kernel⟩
noncomputable def den__law_kind_mass : DS :=
  (sSeq (sAsg (gT [3, 4, 5, 6]) (dCall 1 m__law_form (dCons (dV 0) dNil)))
    (sRet (dOp hMulT (dCall 2 m__law_power (dCons (dV 3) (dCons (dV 2) dNil))) (dCall 2 m__law_power (dCons (dV 5) (dCons (dOp (hInt yes2 fun i j => i - j) (dV 1) (dV 2)) dNil))))))
noncomputable def m__law_kind_mass : List D → Sto → Res D := callM (runB 7 den__law_kind_mass)
theorem ok__law_kind_mass {P : Program} {w : World} {K : PySem.W.Frag} {mg : Str → Option Value} {base : Heap} {f : Addr} {fd : FuncData} (F : Fun K "_law_kind_mass" "_law_kind_mass" s__law_kind_mass f fd) (B : Bu mg)
    (h__law_form : Has CX0 P w K mg base "_law_form" 1 ["die"] (spD K 1 m__law_form))
    (h__law_power : Has CX0 P w K mg base "_law_power" 1 ["one", "many"] (spD K 2 m__law_power)) :
    FnOk P w K mg base CX0 2 f fd ["die", "throws", "kind"] (spD K 3 (runB 7 den__law_kind_mass)) :=
  ok_body (k := 1) F sc__law_kind_mass fun cdv A outer s H E hr =>
    (as_cons (as_asg (ae_callD h__law_form (hr.mono (by decide)) rfl (aa_cons (ae_var (pv 0)) aa_nil)) (ag_tup rfl (ags_cons (i := 3) sc__law_kind_mass.nd rfl (Or.inl rfl) (ags_cons (i := 4) sc__law_kind_mass.nd rfl (Or.inl rfl) (ags_cons (i := 5) sc__law_kind_mass.nd rfl (Or.inl rfl) (ags_cons (i := 6) sc__law_kind_mass.nd rfl (Or.inl rfl) ags_nil))))))
    (as_one (as_ret (ae_mulT (ae_callD h__law_power (hr.mono (by decide)) rfl (aa_cons (ae_var (pv 3)) (aa_cons (ae_var (pv 2)) aa_nil))) (ae_callD h__law_power (hr.mono (by decide)) rfl (aa_cons (ae_var (pv 5)) (aa_cons (ae_sub (ae_var (pv 1)) (ae_var (pv 2))) aa_nil)))))))
/-! _law_number -/
abbrev s__law_number : Stmt := top 50
abbrev sc__law_numberN : List Str := ["die", "faces", "a", "r", "d", "s", "heavy", "places", "left", "ways", "at", "rank", "face"]
theorem sc__law_number : FnScope sc__law_numberN ["die", "faces"] (defScope s__law_number) := ⟨rfl, rfl, rfl, by decide +kernel, rfl, by decide +kernel, by decide +kernel⟩
noncomputable def e1__law_number : DE :=
  (dV 12)
noncomputable def q2__law_number : DB :=
  (dBl (dOp hEq (dOp hIx (dV 0) (dV 12)) (dOp hIx (dV 0) (dOp hIx (dV 1) (dV 10)))))
noncomputable def b3__law_number : DS :=
  (sSeq (sSet 11 (dCB hLen (dCons (dLc (dRng1 (dCons (dOp hIx (dV 1) (dV 10)) dNil)) (gN 12) q2__law_number e1__law_number [12]) dNil)))
    (sSeq (sIf (dBl (dOp hEq (dOp hIx (dV 0) (dOp hIx (dV 1) (dV 10))) (dV 2))) (sSeq (sSet 9 (dOp (hInt (fun _ j => divOk j) fun i j => i / j) (dOp hMulT (dV 9) (dOp (hInt yes2 fun i j => i - j) (dV 10) (dV 6))) (dOp hAdd (dV 6) (dC (.int 1)))))
    (sSeq (sSet 6 (dOp hAdd (dV 6) (dC (.int 1))))
    (sSeq (sSet 7 (dOp hAdd (dV 7) (dV 9)))
    (sSet 8 (dOp hAdd (dOp hMulT (dV 8) (dV 3)) (dV 11)))))) (sSet 8 (dOp hAdd (dOp hMulT (dV 8) (dV 5)) (dV 11))))
    (sSet 9 (dIfE (dBl (dOp hEq (dV 6) (dOp hAdd (dV 10) (dC (.int 1))))) (dC (.int 1)) (dOp (hInt (fun _ j => divOk j) fun i j => i / j) (dOp hMulT (dV 9) (dOp hAdd (dV 10) (dC (.int 1)))) (dOp (hInt yes2 fun i j => i - j) (dOp hAdd (dV 10) (dC (.int 1))) (dV 6)))))))
noncomputable def den__law_number : DS :=
  (sSeq (sAsg (gT [2, 3, 4, 5]) (dCall 1 m__law_form (dCons (dV 0) dNil)))
    (sSeq (sAsg (gT [6, 7, 8, 9]) (dTup (dCons (dC (.int 0)) (dCons (dC (.int 0)) (dCons (dC (.int 0)) (dCons (dC (.int 1)) dNil))))))
    (sSeq (sFor (dRng1 (dCons (dCB hLen (dCons (dV 1) dNil)) dNil)) (gN 10) b3__law_number)
    (sRet (dOp hAdd (dOp hMulT (dOp hMulT (dV 7) (dCall 2 m__law_power (dCons (dV 3) (dCons (dV 6) dNil)))) (dCall 2 m__law_power (dCons (dV 5) (dCons (dOp (hInt yes2 fun i j => i - j) (dCB hLen (dCons (dV 1) dNil)) (dV 6)) dNil)))) (dV 8))))))
noncomputable def m__law_number : List D → Sto → Res D := callM (runB 13 den__law_number)
theorem ok__law_number {P : Program} {w : World} {K : PySem.W.Frag} {mg : Str → Option Value} {base : Heap} {f : Addr} {fd : FuncData} (F : Fun K "_law_number" "_law_number" s__law_number f fd) (B : Bu mg)
    (h__law_form : Has CX0 P w K mg base "_law_form" 1 ["die"] (spD K 1 m__law_form))
    (h__law_power : Has CX0 P w K mg base "_law_power" 1 ["one", "many"] (spD K 2 m__law_power)) :
    FnOk P w K mg base CX0 2 f fd ["die", "faces"] (spD K 2 (runB 13 den__law_number)) :=
  ok_body (k := 1) F sc__law_number fun cdv A outer s H E hr =>
    (as_cons (as_asg (ae_callD h__law_form (hr.mono (by decide)) rfl (aa_cons (ae_var (pv 0)) aa_nil)) (ag_tup rfl (ags_cons (i := 2) sc__law_number.nd rfl (Or.inl rfl) (ags_cons (i := 3) sc__law_number.nd rfl (Or.inl rfl) (ags_cons (i := 4) sc__law_number.nd rfl (Or.inl rfl) (ags_cons (i := 5) sc__law_number.nd rfl (Or.inl rfl) ags_nil))))))
    (as_cons (as_asg (ae_tup (aa_cons ae_int (aa_cons ae_int (aa_cons ae_int (aa_cons ae_int aa_nil))))) (ag_tup rfl (ags_cons (i := 6) sc__law_number.nd rfl (Or.inl rfl) (ags_cons (i := 7) sc__law_number.nd rfl (Or.inl rfl) (ags_cons (i := 8) sc__law_number.nd rfl (Or.inl rfl) (ags_cons (i := 9) sc__law_number.nd rfl (Or.inl rfl) ags_nil))))))
    (as_cons (as_for PassesOwn.never rfl (ai_range1 rfl B.m_range (aa_cons (ae_len rfl B.m_len (aa_cons (ae_var (pv 1)) aa_nil)) aa_nil)) (ag_name (i := 10) sc__law_number.nd rfl (Or.inr rfl)) (as_cons (as_set (i := 11) sc__law_number.nd rfl (Or.inl rfl) (ae_len rfl B.m_len (aa_cons (ae_lcv [("face", 12)] rfl rfl sc__law_number.nd (ai_range1 rfl B.m_range (aa_cons (ae_ix (ae_var (pv 1)) (ae_var (pv 10))) aa_nil)) (blkOk_by (own := [("face", 12)]) (N := sc__law_numberN) (sc := defScope s__law_number) (by decide +kernel)) (fun _ _ _ _ _ => pg_name (i := 12) sc__law_number.nd rfl (Or.inl rfl)) (fun _ _ _ _ _ => pts_one_ (at_eq hr.units (ae_ix (ae_var (pv 0)) (ae_var (pv 12))) (ae_ix (ae_var (pv 0)) (ae_ix (ae_var (pv 1)) (ae_var (pv 10)))))) (fun _ _ _ _ _ => (ae_var (pv 12))) (agw_name (by decide))) aa_nil)))
    (as_cons (as_if (at_eq hr.units (ae_ix (ae_var (pv 0)) (ae_ix (ae_var (pv 1)) (ae_var (pv 10)))) (ae_var (pv 2))) (as_cons (as_set (i := 9) sc__law_number.nd rfl (Or.inl rfl) (ae_div (ae_mulT (ae_var (pv 9)) (ae_sub (ae_var (pv 10)) (ae_var (pv 6)))) (ae_add (ae_var (pv 6)) ae_int)))
    (as_cons (as_set (i := 6) sc__law_number.nd rfl (Or.inl rfl) (ae_add (ae_var (pv 6)) ae_int))
    (as_cons (as_set (i := 7) sc__law_number.nd rfl (Or.inl rfl) (ae_add (ae_var (pv 7)) (ae_var (pv 9))))
    (as_one (as_set (i := 8) sc__law_number.nd rfl (Or.inl rfl) (ae_add (ae_mulT (ae_var (pv 8)) (ae_var (pv 3))) (ae_var (pv 11)))))))) (as_one (as_set (i := 8) sc__law_number.nd rfl (Or.inl rfl) (ae_add (ae_mulT (ae_var (pv 8)) (ae_var (pv 5))) (ae_var (pv 11))))))
    (as_one (as_set (i := 9) sc__law_number.nd rfl (Or.inl rfl) (ae_if (at_eq hr.units (ae_var (pv 6)) (ae_add (ae_var (pv 10)) ae_int)) ae_int (ae_div (ae_mulT (ae_var (pv 9)) (ae_add (ae_var (pv 10)) ae_int)) (ae_sub (ae_add (ae_var (pv 10)) ae_int) (ae_var (pv 6))))))))))
    (as_one (as_ret (ae_add (ae_mulT (ae_mulT (ae_var (pv 7)) (ae_callD h__law_power (hr.mono (by decide)) rfl (aa_cons (ae_var (pv 3)) (aa_cons (ae_var (pv 6)) aa_nil)))) (ae_callD h__law_power (hr.mono (by decide)) rfl (aa_cons (ae_var (pv 5)) (aa_cons (ae_sub (ae_len rfl B.m_len (aa_cons (ae_var (pv 1)) aa_nil)) (ae_var (pv 6))) aa_nil)))) (ae_var (pv 8))))))))
/-! _law_row -/
abbrev s__law_row : Stmt := top 51
abbrev sc__law_rowN : List Str := ["die", "throws", "kind", "number", "a", "r", "d", "s", "heavy", "light", "whole", "places", "left", "told", "ways", "at", "face"]
theorem sc__law_row : FnScope sc__law_rowN ["die", "throws", "kind", "number"] (defScope s__law_row) := ⟨rfl, rfl, rfl, by decide +kernel, rfl, by decide +kernel, by decide +kernel⟩
noncomputable def e1__law_row : DE :=
  (dV 16)
noncomputable def q2__law_row : DB :=
  (dBl (dOp hEq (dOp hIx (dV 0) (dV 16)) (dV 4)))
noncomputable def e3__law_row : DE :=
  (dV 16)
noncomputable def q4__law_row : DB :=
  (dBl (dOp hNe (dOp hIx (dV 0) (dV 16)) (dV 4)))
noncomputable def b5__law_row : DS :=
  (sIf (dAnd (dBl (dOp (hCmp fun i j => decide (j < i)) (dV 2) (dC (.int 0)))) (dOr (dBl (dOp (hCmp fun i j => decide (i < j)) (dV 15) (dV 2))) (dBl (dOp (hCmp fun i j => decide (j ≤ i)) (dV 11) (dV 14))))) (sSeq (sExpr (dMe hApp (dV 13) (dCons (dOp hIx (dV 8) (dOp (hInt (fun _ j => decide (j ≠ 0)) Int.fmod) (dCB hInt1 (dCons (dV 12) dNil)) (dV 5))) dNil)))
    (sSeq (sSet 12 (dOp (hInt (fun _ j => divOk j) fun i j => i / j) (dV 12) (dV 5)))
    (sSeq (sIf (dBl (dOp (hCmp fun i j => decide (j ≤ i)) (dV 15) (dV 2))) (sSeq (sSet 11 (dOp (hInt yes2 fun i j => i - j) (dV 11) (dV 14)))
    (sSet 14 (dOp (hInt (fun _ j => divOk j) fun i j => i / j) (dOp hMulT (dV 14) (dV 2)) (dV 15)))) sNx)
    (sSet 2 (dOp (hInt yes2 fun i j => i - j) (dV 2) (dC (.int 1))))))) (sSeq (sExpr (dMe hApp (dV 13) (dCons (dOp hIx (dV 9) (dOp (hInt (fun _ j => decide (j ≠ 0)) Int.fmod) (dCB hInt1 (dCons (dV 12) dNil)) (dV 7))) dNil)))
    (sSeq (sSet 12 (dOp (hInt (fun _ j => divOk j) fun i j => i / j) (dV 12) (dV 7)))
    (sSet 14 (dIfE (dBl (dOp (hCmp fun i j => decide (j < i)) (dV 15) (dC (.int 0)))) (dOp (hInt (fun _ j => divOk j) fun i j => i / j) (dOp hMulT (dV 14) (dOp (hInt yes2 fun i j => i - j) (dV 15) (dV 2))) (dV 15)) (dC (.int 0)))))))
noncomputable def den__law_row : DS :=
  (sSeq (sAsg (gT [4, 5, 6, 7]) (dCall 1 m__law_form (dCons (dV 0) dNil)))
    (sSeq (sSet 8 (dLc (dRng1 (dCons (dCB hLen (dCons (dV 0) dNil)) dNil)) (gN 16) q2__law_row e1__law_row [16]))
    (sSeq (sSet 9 (dLc (dRng1 (dCons (dCB hLen (dCons (dV 0) dNil)) dNil)) (gN 16) q4__law_row e3__law_row [16]))
    (sSeq (sSet 10 (dOp hMulT (dCall 2 m__law_power (dCons (dV 5) (dCons (dV 2) dNil))) (dCall 2 m__law_power (dCons (dV 7) (dCons (dOp (hInt yes2 fun i j => i - j) (dV 1) (dV 2)) dNil)))))
    (sSeq (sPar3 11 12 13 (dCons (dOp (hInt (fun _ j => divOk j) fun i j => i / j) (dV 3) (dV 10)) (dCons (dOp (hInt (fun _ j => decide (j ≠ 0)) Int.fmod) (dCB hInt1 (dCons (dV 3) dNil)) (dV 10)) (dCons (dLst dNil) dNil))))
    (sSeq (sSet 14 (dIfE (dBl (dOp (hCmp fun i j => decide (j < i)) (dV 1) (dC (.int 0)))) (dCall 2 m__law_choose (dCons (dOp (hInt yes2 fun i j => i - j) (dV 1) (dC (.int 1))) (dCons (dV 2) dNil))) (dC (.int 0))))
    (sSeq (sFor (dRng3 (dCons (dOp (hInt yes2 fun i j => i - j) (dV 1) (dC (.int 1))) (dCons (dUn hNeg (dC (.int 1))) (dCons (dUn hNeg (dC (.int 1))) dNil)))) (gN 15) b5__law_row)
    (sRet (dCB hTupOf (dCons (dUn hRev (dV 13)) dNil))))))))))
noncomputable def m__law_row : List D → Sto → Res D := callM (runB 17 den__law_row)
theorem ok__law_row {P : Program} {w : World} {K : PySem.W.Frag} {mg : Str → Option Value} {base : Heap} {f : Addr} {fd : FuncData} (F : Fun K "_law_row" "_law_row" s__law_row f fd) (B : Bu mg)
    (h__law_form : Has CX0 P w K mg base "_law_form" 1 ["die"] (spD K 1 m__law_form))
    (h__law_power : Has CX0 P w K mg base "_law_power" 1 ["one", "many"] (spD K 2 m__law_power))
    (h__law_choose : Has CX0 P w K mg base "_law_choose" 1 ["n", "k"] (spD K 2 m__law_choose)) :
    FnOk P w K mg base CX0 2 f fd ["die", "throws", "kind", "number"] (spD K 4 (runB 17 den__law_row)) :=
  ok_body (k := 1) F sc__law_row fun cdv A outer s H E hr =>
    (as_cons (as_asg (ae_callD h__law_form (hr.mono (by decide)) rfl (aa_cons (ae_var (pv 0)) aa_nil)) (ag_tup rfl (ags_cons (i := 4) sc__law_row.nd rfl (Or.inr rfl) (ags_cons (i := 5) sc__law_row.nd rfl (Or.inl rfl) (ags_cons (i := 6) sc__law_row.nd rfl (Or.inl rfl) (ags_cons (i := 7) sc__law_row.nd rfl (Or.inl rfl) ags_nil))))))
    (as_cons (as_setLcv (i := 8) [("face", 16)] rfl rfl sc__law_row.nd rfl rfl (sw_true rfl rfl rfl (by decide +kernel)) (ai_range1 rfl B.m_range (aa_cons (ae_len rfl B.m_len (aa_cons (ae_var (pv 0)) aa_nil)) aa_nil)) (blkOk_by (own := [("face", 16)]) (N := sc__law_rowN) (sc := defScope s__law_row) (by decide +kernel)) (fun _ _ _ _ _ => pg_name (i := 16) sc__law_row.nd rfl (Or.inl rfl)) (fun _ _ _ _ _ => pts_one_ (at_eq hr.units (ae_ix (ae_var (pv 0)) (ae_var (pv 16))) (ae_var (pv 4)))) (fun _ _ _ _ _ => (ae_var (pv 16))) (agw_name (by decide)))
    (as_cons (as_setLcv (i := 9) [("face", 16)] rfl rfl sc__law_row.nd rfl rfl (sw_true rfl rfl rfl (by decide +kernel)) (ai_range1 rfl B.m_range (aa_cons (ae_len rfl B.m_len (aa_cons (ae_var (pv 0)) aa_nil)) aa_nil)) (blkOk_by (own := [("face", 16)]) (N := sc__law_rowN) (sc := defScope s__law_row) (by decide +kernel)) (fun _ _ _ _ _ => pg_name (i := 16) sc__law_row.nd rfl (Or.inl rfl)) (fun _ _ _ _ _ => pts_one_ (at_ne hr.units (ae_ix (ae_var (pv 0)) (ae_var (pv 16))) (ae_var (pv 4)))) (fun _ _ _ _ _ => (ae_var (pv 16))) (agw_name (by decide)))
    (as_cons (as_set (i := 10) sc__law_row.nd rfl (Or.inl rfl) (ae_mulT (ae_callD h__law_power (hr.mono (by decide)) rfl (aa_cons (ae_var (pv 5)) (aa_cons (ae_var (pv 2)) aa_nil))) (ae_callD h__law_power (hr.mono (by decide)) rfl (aa_cons (ae_var (pv 7)) (aa_cons (ae_sub (ae_var (pv 1)) (ae_var (pv 2))) aa_nil)))))
    (as_cons (as_par3 (i := 11) (j := 12) (k := 13) rfl sc__law_row.nd rfl rfl rfl (by decide) (by decide) (by decide) rfl rfl rfl (aa_cons (ae_div (ae_var (pv 3)) (ae_var (pv 10))) (aa_cons (ae_mod (ae_int1 rfl B.m_int (aa_cons (ae_var (pv 3)) aa_nil)) (ae_var (pv 10))) (aa_cons (ae_lst aa_nil) aa_nil))) rfl)
    (as_cons (as_set (i := 14) sc__law_row.nd rfl (Or.inl rfl) (ae_if (at_gt (ae_var (pv 1)) ae_int) (ae_callD h__law_choose (hr.mono (by decide)) rfl (aa_cons (ae_sub (ae_var (pv 1)) ae_int) (aa_cons (ae_var (pv 2)) aa_nil))) ae_int))
    (as_cons (as_for PassesOwn.never rfl (ai_range3 rfl B.m_range (aa_cons (ae_sub (ae_var (pv 1)) ae_int) (aa_cons (ae_neg ae_int) (aa_cons (ae_neg ae_int) aa_nil)))) (ag_name (i := 15) sc__law_row.nd rfl (Or.inl rfl)) (as_one (as_if (at_w (aw_and (at_gt (ae_var (pv 2)) ae_int) (aw_and1 (at_w (aw_or (at_lt (ae_var (pv 15)) (ae_var (pv 2))) (aw_or1 (at_ge (ae_var (pv 11)) (ae_var (pv 14))))))))) (as_cons (as_expr (ae_append (ae_var (pv 13)) (aa_cons (ae_ix (ae_var (pv 8)) (ae_mod (ae_int1 rfl B.m_int (aa_cons (ae_var (pv 12)) aa_nil)) (ae_var (pv 5)))) aa_nil)))
    (as_cons (as_set (i := 12) sc__law_row.nd rfl (Or.inl rfl) (ae_div (ae_var (pv 12)) (ae_var (pv 5))))
    (as_cons (as_if (at_ge (ae_var (pv 15)) (ae_var (pv 2))) (as_cons (as_set (i := 11) sc__law_row.nd rfl (Or.inl rfl) (ae_sub (ae_var (pv 11)) (ae_var (pv 14))))
    (as_one (as_set (i := 14) sc__law_row.nd rfl (Or.inl rfl) (ae_div (ae_mulT (ae_var (pv 14)) (ae_var (pv 2))) (ae_var (pv 15)))))) as_nil)
    (as_one (as_set (i := 2) sc__law_row.nd rfl (Or.inl rfl) (ae_sub (ae_var (pv 2)) ae_int)))))) (as_cons (as_expr (ae_append (ae_var (pv 13)) (aa_cons (ae_ix (ae_var (pv 9)) (ae_mod (ae_int1 rfl B.m_int (aa_cons (ae_var (pv 12)) aa_nil)) (ae_var (pv 7)))) aa_nil)))
    (as_cons (as_set (i := 12) sc__law_row.nd rfl (Or.inl rfl) (ae_div (ae_var (pv 12)) (ae_var (pv 7))))
    (as_one (as_set (i := 14) sc__law_row.nd rfl (Or.inl rfl) (ae_if (at_gt (ae_var (pv 15)) ae_int) (ae_div (ae_mulT (ae_var (pv 14)) (ae_sub (ae_var (pv 15)) (ae_var (pv 2)))) (ae_var (pv 15))) ae_int))))))))
    (as_one (as_ret (ae_tupOf rfl B.m_tuple (aa_cons (ae_rev (ae_var (pv 13))) aa_nil)))))))))))
/-! _law_rows -/
abbrev s__law_rows : Stmt := top 52
abbrev sc__law_rowsN : List Str := ["die", "throws", "told", "lap", "more", "row", "face"]
theorem sc__law_rows : FnScope sc__law_rowsN ["die", "throws"] (defScope s__law_rows) := ⟨rfl, rfl, rfl, by decide +kernel, rfl, by decide +kernel, by decide +kernel⟩
noncomputable def e1__law_rows : DE :=
  (dOp hAdd (dV 5) (dTup (dCons (dV 6) dNil)))
noncomputable def b2__law_rows : DS :=
  (sExpr (dMe hExt (dV 4) (dCons (dLc (dIt (dLstR (dCB hLen (dCons (dV 0) dNil)))) (gN 6) dYes e1__law_rows [6]) dNil)))
noncomputable def b3__law_rows : DS :=
  (sSeq (sSet 4 (dLst dNil))
    (sSeq (sFor (dIt (dV 2)) (gN 5) b2__law_rows)
    (sSet 2 (dV 4))))
noncomputable def den__law_rows : DS :=
  (sSeq (sSet 2 (dLst (dCons (dTup dNil) dNil)))
    (sSeq (sFor (dRng1 (dCons (dV 1) dNil)) (gN 3) b3__law_rows)
    (sRet (dV 2))))
noncomputable def m__law_rows : List D → Sto → Res D := callM (runB 7 den__law_rows)
theorem ok__law_rows {P : Program} {w : World} {K : PySem.W.Frag} {mg : Str → Option Value} {base : Heap} {f : Addr} {fd : FuncData} (F : Fun K "_law_rows" "_law_rows" s__law_rows f fd) (B : Bu mg) :
    FnOk P w K mg base CX0 1 f fd ["die", "throws"] (spD K 2 (runB 7 den__law_rows)) :=
  ok_body (k := 0) F sc__law_rows fun cdv A outer s H E hr =>
    (as_cons (as_set (i := 2) sc__law_rows.nd rfl (Or.inl rfl) (ae_lst (aa_cons (ae_tup aa_nil) aa_nil)))
    (as_cons (as_for PassesOwn.never rfl (ai_range1 rfl B.m_range (aa_cons (ae_var (pv 1)) aa_nil)) (ag_name (i := 3) sc__law_rows.nd rfl (Or.inl rfl)) (as_cons (as_set (i := 4) sc__law_rows.nd rfl (Or.inl rfl) (ae_lst aa_nil))
    (as_cons (as_for PassesOwn.never rfl (ai_of (ae_var (pv 2))) (ag_name (i := 5) sc__law_rows.nd rfl (Or.inr rfl)) (as_one (as_expr (ae_extend (ae_var (pv 4)) (aa_cons (ae_lcv [("face", 6)] rfl rfl sc__law_rows.nd (ai_of (ae_lstR rfl rfl B.m_list rfl B.m_range (ae_len rfl B.m_len (aa_cons (ae_var (pv 0)) aa_nil)))) (blkOk_by (own := [("face", 6)]) (N := sc__law_rowsN) (sc := defScope s__law_rows) (by decide +kernel)) (fun _ _ _ _ _ => pg_name (i := 6) sc__law_rows.nd rfl (Or.inl rfl)) (fun _ _ _ _ _ => pts_none) (fun _ _ _ _ _ => (ae_add (ae_var (pv 5)) (ae_tup (aa_cons (ae_var (pv 6)) aa_nil)))) (agw_name (by decide))) aa_nil)))))
    (as_one (as_set (i := 2) sc__law_rows.nd rfl (Or.inl rfl) (ae_var (pv 4)))))))
    (as_one (as_ret (ae_var (pv 2))))))
/-! _law_fraction -/
abbrev s__law_fraction : Stmt := top 53
abbrev sc__law_fractionN : List Str := ["top", "bottom", "one", "other"]
theorem sc__law_fraction : FnScope sc__law_fractionN ["top", "bottom"] (defScope s__law_fraction) := ⟨rfl, rfl, rfl, by decide +kernel, rfl, by decide +kernel, by decide +kernel⟩
noncomputable def c1__law_fraction : DB :=
  (dBl (dOp (hCmp fun i j => decide (j < i)) (dV 3) (dC (.int 0))))
noncomputable def b2__law_fraction : DS :=
  (sPar 2 3 (dCons (dV 3) (dCons (dOp (hInt (fun _ j => decide (j ≠ 0)) Int.fmod) (dCB hInt1 (dCons (dV 2) dNil)) (dV 3)) dNil)))
noncomputable def den__law_fraction : DS :=
  (sSeq (sPar 2 3 (dCons (dCB hAbs (dCons (dV 0) dNil)) (dCons (dV 1) dNil)))
    (sSeq (sWhile fuel c1__law_fraction b2__law_fraction)
    (sRet (dTup (dCons (dOp (hInt (fun _ j => divOk j) fun i j => i / j) (dV 0) (dV 2)) (dCons (dOp (hInt (fun _ j => divOk j) fun i j => i / j) (dV 1) (dV 2)) dNil))))))
noncomputable def m__law_fraction : List D → Sto → Res D := callM (runB 4 den__law_fraction)
theorem ok__law_fraction {P : Program} {w : World} {K : PySem.W.Frag} {mg : Str → Option Value} {base : Heap} {f : Addr} {fd : FuncData} (F : Fun K "_law_fraction" "_law_fraction" s__law_fraction f fd) (B : Bu mg) :
    FnOk P w K mg base CX0 1 f fd ["top", "bottom"] (spD K 2 (runB 4 den__law_fraction)) :=
  ok_body (k := 0) F sc__law_fraction fun cdv A outer s H E hr =>
    (as_cons (as_par (i := 2) (j := 3) rfl sc__law_fraction.nd rfl rfl (by decide) rfl rfl (aa_cons (ae_abs rfl B.m_abs (aa_cons (ae_var (pv 0)) aa_nil)) (aa_cons (ae_var (pv 1)) aa_nil)) rfl)
    (as_cons (as_while PassesOwn.never (at_gt (ae_var (pv 3)) ae_int) (as_one (as_par (i := 2) (j := 3) rfl sc__law_fraction.nd rfl rfl (by decide) rfl rfl (aa_cons (ae_var (pv 3)) (aa_cons (ae_mod (ae_int1 rfl B.m_int (aa_cons (ae_var (pv 2)) aa_nil)) (ae_var (pv 3))) aa_nil)) rfl)))
    (as_one (as_ret (ae_tup (aa_cons (ae_div (ae_var (pv 0)) (ae_var (pv 2))) (aa_cons (ae_div (ae_var (pv 1)) (ae_var (pv 2))) aa_nil)))))))
/-! _law_same -/
abbrev s__law_same : Stmt := top 54
abbrev sc__law_sameN : List Str := ["told", "due", "left", "one", "other", "at"]
theorem sc__law_same : FnScope sc__law_sameN ["told", "due"] (defScope s__law_same) := ⟨rfl, rfl, rfl, by decide +kernel, rfl, by decide +kernel, by decide +kernel⟩
noncomputable def e1__law_same : DE :=
  (dTup (dCons (dOp hIx (dV 3) (dV 5)) (dCons (dOp hIx (dV 4) (dV 5)) dNil)))
noncomputable def c2__law_same : DB :=
  (dBl (dOp (hCmp fun i j => decide (j < i)) (dCB hLen (dCons (dV 2) dNil)) (dC (.int 0))))
noncomputable def b3__law_same : DS :=
  (sSeq (sAsg (gT [3, 4]) (dMe0 hPop (dV 2)))
    (sIf (dTru (dCB hIsi1 (dCons (dV 4) (dCons (dC (.ty "tuple")) dNil)))) (sSeq (sIf (dOr (dNot (dTru (dCB hIsi1 (dCons (dV 3) (dCons (dC (.ty "tuple")) dNil))))) (dBl (dOp hNe (dCB hLen (dCons (dV 3) dNil)) (dCB hLen (dCons (dV 4) dNil))))) (sRet (dC (.bl false))) sNx)
    (sExpr (dMe hExt (dV 2) (dCons (dLc (dRng1 (dCons (dCB hLen (dCons (dV 4) dNil)) dNil)) (gN 5) dYes e1__law_same [5]) dNil)))) (sIf (dBl (dOp hIsN (dV 4) (dC .non))) (sIf (dBl (dOp hNotN (dV 3) (dC .non))) (sRet (dC (.bl false))) sNx) (sIf (dTru (dCB hIsi1 (dCons (dV 4) (dCons (dC (.ty "str")) dNil)))) (sIf (dOr (dNot (dTru (dCB hIsi1 (dCons (dV 3) (dCons (dC (.ty "str")) dNil))))) (dBl (dOp hNe (dV 3) (dV 4)))) (sRet (dC (.bl false))) sNx) (sIf (dOr (dTru (dCB hIsi1 (dCons (dV 4) (dCons (dC (.ty "bool")) dNil)))) (dTru (dCB hIsi1 (dCons (dV 3) (dCons (dC (.ty "bool")) dNil))))) (sIf (dOr (dNot (dTru (dCB hIsi1 (dCons (dV 3) (dCons (dC (.ty "bool")) dNil))))) (dOr (dNot (dTru (dCB hIsi1 (dCons (dV 4) (dCons (dC (.ty "bool")) dNil))))) (dBl (dOp hNe (dV 3) (dV 4))))) (sRet (dC (.bl false))) sNx) (sIf (dOr (dNot (dTru (dCB hIsi1 (dCons (dV 3) (dCons (dC (.ty "int")) dNil))))) (dBl (dOp hNe (dV 3) (dV 4)))) (sRet (dC (.bl false))) sNx))))))
noncomputable def den__law_same : DS :=
  (sSeq (sSet 2 (dLst (dCons (dTup (dCons (dV 0) (dCons (dV 1) dNil))) dNil)))
    (sSeq (sWhile fuel c2__law_same b3__law_same)
    (sRet (dC (.bl true)))))
noncomputable def m__law_same : List D → Sto → Res D := callM (runB 6 den__law_same)
theorem ok__law_same {P : Program} {w : World} {K : PySem.W.Frag} {mg : Str → Option Value} {base : Heap} {f : Addr} {fd : FuncData} (F : Fun K "_law_same" "_law_same" s__law_same f fd) (B : Bu mg) :
    FnOk P w K mg base CX0 1 f fd ["told", "due"] (spD K 2 (runB 6 den__law_same)) :=
  ok_body (k := 0) F sc__law_same fun cdv A outer s H E hr =>
    (as_cons (as_set (i := 2) sc__law_same.nd rfl (Or.inl rfl) (ae_lst (aa_cons (ae_tup (aa_cons (ae_var (pv 0)) (aa_cons (ae_var (pv 1)) aa_nil))) aa_nil)))
    (as_cons (as_while PassesOwn.never (at_gt (ae_len rfl B.m_len (aa_cons (ae_var (pv 2)) aa_nil)) ae_int) (as_cons (as_asg (ae_pop (ae_var (pv 2))) (ag_tup rfl (ags_cons (i := 3) sc__law_same.nd rfl (Or.inr rfl) (ags_cons (i := 4) sc__law_same.nd rfl (Or.inr rfl) ags_nil))))
    (as_one (as_if (at_val (ae_isi rfl B.m_isinstance (aa_cons (ae_var (pv 4)) (aa_cons (ae_c (v := .ty "tuple") rfl (pe_bltn rfl B.m_tuple (by decide +kernel) rfl)) aa_nil)))) (as_cons (as_if (at_w (aw_or (at_not (at_val (ae_isi rfl B.m_isinstance (aa_cons (ae_var (pv 3)) (aa_cons (ae_c (v := .ty "tuple") rfl (pe_bltn rfl B.m_tuple (by decide +kernel) rfl)) aa_nil))))) (aw_or1 (at_ne hr.units (ae_len rfl B.m_len (aa_cons (ae_var (pv 3)) aa_nil)) (ae_len rfl B.m_len (aa_cons (ae_var (pv 4)) aa_nil)))))) (as_one (as_ret ae_bl)) as_nil)
    (as_one (as_expr (ae_extend (ae_var (pv 2)) (aa_cons (ae_lcv [("at", 5)] rfl rfl sc__law_same.nd (ai_range1 rfl B.m_range (aa_cons (ae_len rfl B.m_len (aa_cons (ae_var (pv 4)) aa_nil)) aa_nil)) (blkOk_by (own := [("at", 5)]) (N := sc__law_sameN) (sc := defScope s__law_same) (by decide +kernel)) (fun _ _ _ _ _ => pg_name (i := 5) sc__law_same.nd rfl (Or.inl rfl)) (fun _ _ _ _ _ => pts_none) (fun _ _ _ _ _ => (ae_tup (aa_cons (ae_ix (ae_var (pv 3)) (ae_var (pv 5))) (aa_cons (ae_ix (ae_var (pv 4)) (ae_var (pv 5))) aa_nil)))) (agw_name (by decide))) aa_nil))))) (as_one (as_if (at_isN (ae_var (pv 4)) ae_non) (as_one (as_if (at_notN (ae_var (pv 3)) ae_non) (as_one (as_ret ae_bl)) as_nil)) (as_one (as_if (at_val (ae_isi rfl B.m_isinstance (aa_cons (ae_var (pv 4)) (aa_cons (ae_c (v := .ty "str") rfl (pe_bltn rfl B.m_str (by decide +kernel) rfl)) aa_nil)))) (as_one (as_if (at_w (aw_or (at_not (at_val (ae_isi rfl B.m_isinstance (aa_cons (ae_var (pv 3)) (aa_cons (ae_c (v := .ty "str") rfl (pe_bltn rfl B.m_str (by decide +kernel) rfl)) aa_nil))))) (aw_or1 (at_ne hr.units (ae_var (pv 3)) (ae_var (pv 4)))))) (as_one (as_ret ae_bl)) as_nil)) (as_one (as_if (at_w (aw_or (at_val (ae_isi rfl B.m_isinstance (aa_cons (ae_var (pv 4)) (aa_cons (ae_c (v := .ty "bool") rfl (pe_bltn rfl B.m_bool (by decide +kernel) rfl)) aa_nil)))) (aw_or1 (at_val (ae_isi rfl B.m_isinstance (aa_cons (ae_var (pv 3)) (aa_cons (ae_c (v := .ty "bool") rfl (pe_bltn rfl B.m_bool (by decide +kernel) rfl)) aa_nil))))))) (as_one (as_if (at_w (aw_or (at_not (at_val (ae_isi rfl B.m_isinstance (aa_cons (ae_var (pv 3)) (aa_cons (ae_c (v := .ty "bool") rfl (pe_bltn rfl B.m_bool (by decide +kernel) rfl)) aa_nil))))) (aw_or (at_not (at_val (ae_isi rfl B.m_isinstance (aa_cons (ae_var (pv 4)) (aa_cons (ae_c (v := .ty "bool") rfl (pe_bltn rfl B.m_bool (by decide +kernel) rfl)) aa_nil))))) (aw_or1 (at_ne hr.units (ae_var (pv 3)) (ae_var (pv 4))))))) (as_one (as_ret ae_bl)) as_nil)) (as_one (as_if (at_w (aw_or (at_not (at_val (ae_isi rfl B.m_isinstance (aa_cons (ae_var (pv 3)) (aa_cons (ae_c (v := .ty "int") rfl (pe_bltn rfl B.m_int (by decide +kernel) rfl)) aa_nil))))) (aw_or1 (at_ne hr.units (ae_var (pv 3)) (ae_var (pv 4)))))) (as_one (as_ret ae_bl)) as_nil))))))))))))
    (as_one (as_ret ae_bl))))
/-! _law_stretch -/
abbrev s__law_stretch : Stmt := top 55
abbrev sc__law_stretchN : List Str := ["whole", "digits", "start", "bit"]
theorem sc__law_stretch : FnScope sc__law_stretchN ["whole", "digits"] (defScope s__law_stretch) := ⟨rfl, rfl, rfl, by decide +kernel, rfl, by decide +kernel, by decide +kernel⟩
noncomputable def b1__law_stretch : DS :=
  (sSet 2 (dOp hAdd (dV 2) (dOp (hInt shlW fun i j => i * 2 ^ j.toNat) (dOp (hInt yes2 Builtin.bitAnd) (dOp (hInt (fun _ j => decide (0 ≤ j)) fun i j => i / 2 ^ j.toNat) (dV 0) (dV 3)) (dC (.int 1))) (dV 3))))
noncomputable def den__law_stretch : DS :=
  (sSeq (sSet 2 (dC (.int 0)))
    (sSeq (sFor (dRng3 (dCons (dOp (hInt yes2 fun i j => i - j) (dUn hBits (dCB hInt1 (dCons (dV 0) dNil))) (dC (.int 1))) (dCons (dV 1) (dCons (dUn hNeg (dC (.int 1))) dNil)))) (gN 3) b1__law_stretch)
    (sRet (dIfE (dBl (dOp hEq (dOp (hInt yes2 Builtin.bitAnd) (dOp (hInt (fun _ j => decide (0 ≤ j)) fun i j => i / 2 ^ j.toNat) (dV 0) (dV 1)) (dC (.int 1))) (dC (.int 1)))) (dV 2) (dC .non)))))
noncomputable def m__law_stretch : List D → Sto → Res D := callM (runB 4 den__law_stretch)
theorem ok__law_stretch {P : Program} {w : World} {K : PySem.W.Frag} {mg : Str → Option Value} {base : Heap} {f : Addr} {fd : FuncData} (F : Fun K "_law_stretch" "_law_stretch" s__law_stretch f fd) (B : Bu mg) :
    FnOk P w K mg base CX0 1 f fd ["whole", "digits"] (spD K 2 (runB 4 den__law_stretch)) :=
  ok_body (k := 0) F sc__law_stretch fun cdv A outer s H E hr =>
    (as_cons (as_set (i := 2) sc__law_stretch.nd rfl (Or.inl rfl) ae_int)
    (as_cons (as_for PassesOwn.never rfl (ai_range3 rfl B.m_range (aa_cons (ae_sub (ae_bits (ae_int1 rfl B.m_int (aa_cons (ae_var (pv 0)) aa_nil))) ae_int) (aa_cons (ae_var (pv 1)) (aa_cons (ae_neg ae_int) aa_nil)))) (ag_name (i := 3) sc__law_stretch.nd rfl (Or.inl rfl)) (as_one (as_set (i := 2) sc__law_stretch.nd rfl (Or.inl rfl) (ae_add (ae_var (pv 2)) (ae_shlW (ae_band (ae_shr (ae_var (pv 0)) (ae_var (pv 3))) ae_int) (ae_var (pv 3)))))))
    (as_one (as_ret (ae_if (at_eq hr.units (ae_band (ae_shr (ae_var (pv 0)) (ae_var (pv 1))) ae_int) ae_int) (ae_var (pv 2)) ae_non)))))
/-! _law_bits -/
abbrev s__law_bits : Stmt := top 56
abbrev sc__law_bitsN : List Str := ["die", "faces", "whole", "number", "digits", "at"]
theorem sc__law_bits : FnScope sc__law_bitsN ["die", "faces"] (defScope s__law_bits) := ⟨rfl, rfl, rfl, by decide +kernel, rfl, by decide +kernel, by decide +kernel⟩
noncomputable def e1__law_bits : DE :=
  (dOp (hInt yes2 Builtin.bitAnd) (dCB hInt1 (dCons (dOp (hInt (fun _ j => decide (0 ≤ j)) fun i j => i / 2 ^ j.toNat) (dV 3) (dOp (hInt yes2 fun i j => i - j) (dOp (hInt yes2 fun i j => i - j) (dV 4) (dC (.int 1))) (dV 5))) dNil)) (dC (.int 1)))
noncomputable def b2__law_bits : DS :=
  (sIf (dBl (dOp hEq (dOp (hInt yes2 Builtin.bitAnd) (dOp (hInt (fun _ j => decide (0 ≤ j)) fun i j => i / 2 ^ j.toNat) (dV 2) (dV 4)) (dC (.int 1))) (dC (.int 1)))) (sSeq (sIf (dBl (dOp (hCmp fun i j => decide (i < j)) (dV 3) (dOp (hInt shlW fun i j => i * 2 ^ j.toNat) (dC (.int 1)) (dV 4)))) (sRet (dCB hTupOf (dCons (dLc (dRng1 (dCons (dV 4) dNil)) (gN 5) dYes e1__law_bits [5]) dNil))) sNx)
    (sSet 3 (dOp (hInt yes2 fun i j => i - j) (dV 3) (dOp (hInt shlW fun i j => i * 2 ^ j.toNat) (dC (.int 1)) (dV 4))))) sNx)
noncomputable def den__law_bits : DS :=
  (sSeq (sAsg (gT [2, 3]) (dTup (dCons (dCall 3 m__law_size (dCons (dV 0) (dCons (dCB hLen (dCons (dV 1) dNil)) (dCons (dCall 2 m__law_kind (dCons (dV 0) (dCons (dV 1) dNil))) dNil)))) (dCons (dCall 2 m__law_number (dCons (dV 0) (dCons (dV 1) dNil))) dNil))))
    (sSeq (sFor (dRng3 (dCons (dOp (hInt yes2 fun i j => i - j) (dUn hBits (dCB hInt1 (dCons (dV 2) dNil))) (dC (.int 1))) (dCons (dUn hNeg (dC (.int 1))) (dCons (dUn hNeg (dC (.int 1))) dNil)))) (gN 4) b2__law_bits)
    (sRet (dC .non))))
noncomputable def m__law_bits : List D → Sto → Res D := callM (runB 6 den__law_bits)
theorem ok__law_bits {P : Program} {w : World} {K : PySem.W.Frag} {mg : Str → Option Value} {base : Heap} {f : Addr} {fd : FuncData} (F : Fun K "_law_bits" "_law_bits" s__law_bits f fd) (B : Bu mg)
    (h__law_number : Has CX0 P w K mg base "_law_number" 2 ["die", "faces"] (spD K 2 m__law_number))
    (h__law_kind : Has CX0 P w K mg base "_law_kind" 1 ["die", "faces"] (spD K 2 m__law_kind))
    (h__law_size : Has CX0 P w K mg base "_law_size" 2 ["die", "throws", "kind"] (spD K 3 m__law_size)) :
    FnOk P w K mg base CX0 3 f fd ["die", "faces"] (spD K 2 (runB 6 den__law_bits)) :=
  ok_body (k := 2) F sc__law_bits fun cdv A outer s H E hr =>
    (as_cons (as_asg (ae_tup (aa_cons (ae_callD h__law_size (hr.mono (by decide)) rfl (aa_cons (ae_var (pv 0)) (aa_cons (ae_len rfl B.m_len (aa_cons (ae_var (pv 1)) aa_nil)) (aa_cons (ae_callD h__law_kind (hr.mono (by decide)) rfl (aa_cons (ae_var (pv 0)) (aa_cons (ae_var (pv 1)) aa_nil))) aa_nil)))) (aa_cons (ae_callD h__law_number (hr.mono (by decide)) rfl (aa_cons (ae_var (pv 0)) (aa_cons (ae_var (pv 1)) aa_nil))) aa_nil))) (ag_tup rfl (ags_cons (i := 2) sc__law_bits.nd rfl (Or.inl rfl) (ags_cons (i := 3) sc__law_bits.nd rfl (Or.inr rfl) ags_nil))))
    (as_cons (as_for PassesOwn.never rfl (ai_range3 rfl B.m_range (aa_cons (ae_sub (ae_bits (ae_int1 rfl B.m_int (aa_cons (ae_var (pv 2)) aa_nil))) ae_int) (aa_cons (ae_neg ae_int) (aa_cons (ae_neg ae_int) aa_nil)))) (ag_name (i := 4) sc__law_bits.nd rfl (Or.inr rfl)) (as_one (as_if (at_eq hr.units (ae_band (ae_shr (ae_var (pv 2)) (ae_var (pv 4))) ae_int) ae_int) (as_cons (as_if (at_lt (ae_var (pv 3)) (ae_shlW ae_int (ae_var (pv 4)))) (as_one (as_ret (ae_tupOf rfl B.m_tuple (aa_cons (ae_lcv [("at", 5)] rfl rfl sc__law_bits.nd (ai_range1 rfl B.m_range (aa_cons (ae_var (pv 4)) aa_nil)) (blkOk_by (own := [("at", 5)]) (N := sc__law_bitsN) (sc := defScope s__law_bits) (by decide +kernel)) (fun _ _ _ _ _ => pg_name (i := 5) sc__law_bits.nd rfl (Or.inl rfl)) (fun _ _ _ _ _ => pts_none) (fun _ _ _ _ _ => (ae_band (ae_int1 rfl B.m_int (aa_cons (ae_shr (ae_var (pv 3)) (ae_sub (ae_sub (ae_var (pv 4)) ae_int) (ae_var (pv 5)))) aa_nil)) ae_int)) (agw_name (by decide))) aa_nil)))) as_nil)
    (as_one (as_set (i := 3) sc__law_bits.nd rfl (Or.inr rfl) (ae_sub (ae_var (pv 3)) (ae_shlW ae_int (ae_var (pv 4))))))) as_nil)))
    (as_one (as_ret ae_non))))
/-! _law_counts -/
abbrev s__law_counts : Stmt := top 57
abbrev sc__law_countsN : List Str := ["die", "throws", "told", "kind", "whole", "mass", "digits"]
theorem sc__law_counts : FnScope sc__law_countsN ["die", "throws"] (defScope s__law_counts) := ⟨rfl, rfl, rfl, by decide +kernel, rfl, by decide +kernel, by decide +kernel⟩
noncomputable def b1__law_counts : DS :=
  (sSeq (sSet 2 (dOp hAdd (dV 2) (dOp hMulT (dLst (dCons (dC (.int 0)) dNil)) (dOp (hInt yes2 fun i j => i - j) (dOp hAdd (dV 6) (dC (.int 1))) (dCB hLen (dCons (dV 2) dNil))))))
    (sAugS (hInt yes2 fun i j => i + j) (dV 2) (dV 6) (dOp hMulT (dOp (hInt shlW fun i j => i * 2 ^ j.toNat) (dOp (hInt yes2 Builtin.bitAnd) (dOp (hInt (fun _ j => decide (0 ≤ j)) fun i j => i / 2 ^ j.toNat) (dV 4) (dV 6)) (dC (.int 1))) (dV 6)) (dV 5))))
noncomputable def b2__law_counts : DS :=
  (sSeq (sPar 4 5 (dCons (dCall 3 m__law_size (dCons (dV 0) (dCons (dV 1) (dCons (dV 3) dNil)))) (dCons (dCall 3 m__law_kind_mass (dCons (dV 0) (dCons (dV 1) (dCons (dV 3) dNil)))) dNil)))
    (sFor (dRng1 (dCons (dUn hBits (dCB hInt1 (dCons (dV 4) dNil))) dNil)) (gN 6) b1__law_counts))
noncomputable def den__law_counts : DS :=
  (sSeq (sSet 2 (dLst dNil))
    (sSeq (sFor (dRng1 (dCons (dOp hAdd (dV 1) (dC (.int 1))) dNil)) (gN 3) b2__law_counts)
    (sRet (dV 2))))
noncomputable def m__law_counts : List D → Sto → Res D := callM (runB 7 den__law_counts)
theorem ok__law_counts {P : Program} {w : World} {K : PySem.W.Frag} {mg : Str → Option Value} {base : Heap} {f : Addr} {fd : FuncData} (F : Fun K "_law_counts" "_law_counts" s__law_counts f fd) (B : Bu mg)
    (h__law_kind_mass : Has CX0 P w K mg base "_law_kind_mass" 2 ["die", "throws", "kind"] (spD K 3 m__law_kind_mass))
    (h__law_size : Has CX0 P w K mg base "_law_size" 2 ["die", "throws", "kind"] (spD K 3 m__law_size)) :
    FnOk P w K mg base CX0 3 f fd ["die", "throws"] (spD K 2 (runB 7 den__law_counts)) :=
  ok_body (k := 2) F sc__law_counts fun cdv A outer s H E hr =>
    (as_cons (as_set (i := 2) sc__law_counts.nd rfl (Or.inl rfl) (ae_lst aa_nil))
    (as_cons (as_for PassesOwn.never rfl (ai_range1 rfl B.m_range (aa_cons (ae_add (ae_var (pv 1)) ae_int) aa_nil)) (ag_name (i := 3) sc__law_counts.nd rfl (Or.inl rfl)) (as_cons (as_par (i := 4) (j := 5) rfl sc__law_counts.nd rfl rfl (by decide) rfl rfl (aa_cons (ae_callD h__law_size (hr.mono (by decide)) rfl (aa_cons (ae_var (pv 0)) (aa_cons (ae_var (pv 1)) (aa_cons (ae_var (pv 3)) aa_nil)))) (aa_cons (ae_callD h__law_kind_mass (hr.mono (by decide)) rfl (aa_cons (ae_var (pv 0)) (aa_cons (ae_var (pv 1)) (aa_cons (ae_var (pv 3)) aa_nil)))) aa_nil)) rfl)
    (as_one (as_for PassesOwn.never rfl (ai_range1 rfl B.m_range (aa_cons (ae_bits (ae_int1 rfl B.m_int (aa_cons (ae_var (pv 4)) aa_nil))) aa_nil)) (ag_name (i := 6) sc__law_counts.nd rfl (Or.inl rfl)) (as_cons (as_set (i := 2) sc__law_counts.nd rfl (Or.inl rfl) (ae_add (ae_var (pv 2)) (ae_mulT (ae_lst (aa_cons ae_int aa_nil)) (ae_sub (ae_add (ae_var (pv 6)) ae_int) (ae_len rfl B.m_len (aa_cons (ae_var (pv 2)) aa_nil))))))
    (as_one (as_augS (ae_var (pv 2)) (ae_var (pv 6)) (ae_mulT (ae_shlW (ae_band (ae_shr (ae_var (pv 4)) (ae_var (pv 6))) ae_int) (ae_var (pv 6))) (ae_var (pv 5))) (pip_of iop_add) hs_int0)))))))
    (as_one (as_ret (ae_var (pv 2))))))
/-! _law_counted -/
abbrev s__law_counted : Stmt := top 58
abbrev sc__law_countedN : List Str := ["die", "throws", "counts", "whole", "mean", "at"]
theorem sc__law_counted : FnScope sc__law_countedN ["die", "throws"] (defScope s__law_counted) := ⟨rfl, rfl, rfl, by decide +kernel, rfl, by decide +kernel, by decide +kernel⟩
noncomputable def e1__law_counted : DE :=
  (dOp hMulT (dV 5) (dOp hIx (dV 2) (dV 5)))
noncomputable def den__law_counted : DS :=
  (sSeq (sSet 2 (dCall 2 m__law_counts (dCons (dV 0) (dCons (dV 1) dNil))))
    (sSeq (sSet 3 (dCall 2 m__law_power (dCons (dCB hSum (dCons (dV 0) dNil)) (dCons (dV 1) dNil))))
    (sSeq (sSet 4 (dCall 2 m__law_fraction (dCons (dCB hSum (dCons (dLc (dRng1 (dCons (dCB hLen (dCons (dV 2) dNil)) dNil)) (gN 5) dYes e1__law_counted [5]) dNil)) (dCons (dV 3) dNil))))
    (sRet (dAndV (dOp hEq (dCB hSum (dCons (dV 2) dNil)) (dV 3)) (dCall 2 m__law_same (dCons (dTup (dCons (dCall 2 m_bit_count (dCons (dV 0) (dCons (dV 1) dNil))) (dCons (dCall 2 m_bits_mean (dCons (dV 0) (dCons (dV 1) dNil))) dNil))) (dCons (dTup (dCons (dCB hTupOf (dCons (dV 2) dNil)) (dCons (dV 4) dNil))) dNil))))))))
noncomputable def m__law_counted : List D → Sto → Res D := callM (runB 6 den__law_counted)
theorem ok__law_counted {P : Program} {w : World} {K : PySem.W.Frag} {mg : Str → Option Value} {base : Heap} {f : Addr} {fd : FuncData} (F : Fun K "_law_counted" "_law_counted" s__law_counted f fd) (B : Bu mg)
    (h__law_counts : Has CX0 P w K mg base "_law_counts" 3 ["die", "throws"] (spD K 2 m__law_counts))
    (h__law_power : Has CX0 P w K mg base "_law_power" 1 ["one", "many"] (spD K 2 m__law_power))
    (h__law_fraction : Has CX0 P w K mg base "_law_fraction" 1 ["top", "bottom"] (spD K 2 m__law_fraction))
    (h_bits_mean : Has CX0 P w K mg base "bits_mean" 5 ["die", "throws"] (spD K 2 m_bits_mean))
    (h_bit_count : Has CX0 P w K mg base "bit_count" 4 ["die", "throws"] (spD K 2 m_bit_count))
    (h__law_same : Has CX0 P w K mg base "_law_same" 1 ["told", "due"] (spD K 2 m__law_same)) :
    FnOk P w K mg base CX0 6 f fd ["die", "throws"] (spD K 2 (runB 6 den__law_counted)) :=
  ok_body (k := 5) F sc__law_counted fun cdv A outer s H E hr =>
    (as_cons (as_set (i := 2) sc__law_counted.nd rfl (Or.inr rfl) (ae_callD h__law_counts (hr.mono (by decide)) rfl (aa_cons (ae_var (pv 0)) (aa_cons (ae_var (pv 1)) aa_nil))))
    (as_cons (as_set (i := 3) sc__law_counted.nd rfl (Or.inl rfl) (ae_callD h__law_power (hr.mono (by decide)) rfl (aa_cons (ae_sum rfl rfl B.m_sum (aa_cons (ae_var (pv 0)) aa_nil)) (aa_cons (ae_var (pv 1)) aa_nil))))
    (as_cons (as_set (i := 4) sc__law_counted.nd rfl (Or.inl rfl) (ae_callD h__law_fraction (hr.mono (by decide)) rfl (aa_cons (ae_sum rfl rfl B.m_sum (aa_cons (ae_lcv [("at", 5)] rfl rfl sc__law_counted.nd (ai_range1 rfl B.m_range (aa_cons (ae_len rfl B.m_len (aa_cons (ae_var (pv 2)) aa_nil)) aa_nil)) (blkOk_by (own := [("at", 5)]) (N := sc__law_countedN) (sc := defScope s__law_counted) (by decide +kernel)) (fun _ _ _ _ _ => pg_name (i := 5) sc__law_counted.nd rfl (Or.inl rfl)) (fun _ _ _ _ _ => pts_none) (fun _ _ _ _ _ => (ae_mulT (ae_var (pv 5)) (ae_ix (ae_var (pv 2)) (ae_var (pv 5))))) (agw_name (by decide))) aa_nil)) (aa_cons (ae_var (pv 3)) aa_nil))))
    (as_one (as_ret (ae_and (ae_eq hr.units (ae_sum rfl rfl B.m_sum (aa_cons (ae_var (pv 2)) aa_nil)) (ae_var (pv 3))) (ae_one (ae_callD h__law_same (hr.mono (by decide)) rfl (aa_cons (ae_tup (aa_cons (ae_callD h_bit_count (hr.mono (by decide)) rfl (aa_cons (ae_var (pv 0)) (aa_cons (ae_var (pv 1)) aa_nil))) (aa_cons (ae_callD h_bits_mean (hr.mono (by decide)) rfl (aa_cons (ae_var (pv 0)) (aa_cons (ae_var (pv 1)) aa_nil))) aa_nil))) (aa_cons (ae_tup (aa_cons (ae_tupOf rfl B.m_tuple (aa_cons (ae_var (pv 2)) aa_nil)) (aa_cons (ae_var (pv 4)) aa_nil))) aa_nil))))))))))
/-! _law_all -/
abbrev s__law_all : Stmt := top 59
abbrev sc__law_allN : List Str := ["die", "throws", "rows", "counts", "sums", "row", "bits", "at"]
theorem sc__law_all : FnScope sc__law_allN ["die", "throws"] (defScope s__law_all) := ⟨rfl, rfl, rfl, by decide +kernel, rfl, by decide +kernel, by decide +kernel⟩
noncomputable def b1__law_all : DS :=
  (sSeq (sSet 6 (dCall 2 m__law_bits (dCons (dV 0) (dCons (dV 5) dNil))))
    (sSeq (sIf (dNot (dTru (dCall 2 m__law_same (dCons (dCall 2 m_row_bits (dCons (dV 0) (dCons (dV 5) dNil))) (dCons (dV 6) dNil))))) (sRet (dC (.bl false))) sNx)
    (sSeq (sDSet (dV 3) (dCB hLen (dCons (dV 6) dNil)) (dOp hAdd (dGet2 (dV 3) (dCB hLen (dCons (dV 6) dNil)) (dC (.int 0))) (dCall 2 m__law_mass (dCons (dV 0) (dCons (dV 5) dNil)))))
    (sDSet (dV 4) (dV 6) (dOp hAdd (dGet2 (dV 4) (dV 6) (dC (.int 0))) (dCall 2 m__law_mass (dCons (dV 0) (dCons (dV 5) dNil))))))))
noncomputable def e2__law_all : DE :=
  (dGet2 (dV 3) (dV 7) (dC (.int 0)))
noncomputable def b3__law_all : DS :=
  (sIf (dBl (dOp hNe (dOp (hInt shlW fun i j => i * 2 ^ j.toNat) (dOp hDG (dV 4) (dV 6)) (dCB hLen (dCons (dV 6) dNil))) (dOp hDG (dV 3) (dCB hLen (dCons (dV 6) dNil))))) (sRet (dC (.bl false))) sNx)
noncomputable def den__law_all : DS :=
  (sSeq (sAsg (gT [2, 3, 4]) (dTup (dCons (dCall 2 m__law_rows (dCons (dV 0) (dCons (dV 1) dNil))) (dCons dNewK (dCons dNewT dNil)))))
    (sSeq (sIf (dNot (dTru (dCall 2 m__law_same (dCons (dTup (dCons (dCall 2 m_all_rows (dCons (dV 0) (dCons (dV 1) dNil))) (dCons (dCall 2 m_even_bits (dCons (dV 0) (dCons (dV 1) dNil))) dNil))) (dCons (dTup (dCons (dCB hTupOf (dCons (dV 2) dNil)) (dCons (dC (.bl true)) dNil))) dNil))))) (sRet (dC (.bl false))) sNx)
    (sSeq (sFor (dIt (dV 2)) (gN 5) b1__law_all)
    (sSeq (sIf (dBl (dOp hNe (dCB hTupOf (dCons (dLc (dRng1 (dCons (dOp hAdd (dCB hMaxK (dCons (dV 3) dNil)) (dC (.int 1))) dNil)) (gN 7) dYes e2__law_all [7]) dNil)) (dCB hTupOf (dCons (dCall 2 m__law_counts (dCons (dV 0) (dCons (dV 1) dNil))) dNil)))) (sRet (dC (.bl false))) sNx)
    (sSeq (sLock 4 (sFor (dKeys (dV 4)) (gN 6) b3__law_all))
    (sRet (dCall 2 m__law_counted (dCons (dV 0) (dCons (dV 1) dNil)))))))))
noncomputable def m__law_all : List D → Sto → Res D := callM (runB 8 den__law_all)
theorem ok__law_all {P : Program} {w : World} {K : PySem.W.Frag} {mg : Str → Option Value} {base : Heap} {f : Addr} {fd : FuncData} (F : Fun K "_law_all" "_law_all" s__law_all f fd) (B : Bu mg)
    (h__law_rows : Has CX0 P w K mg base "_law_rows" 1 ["die", "throws"] (spD K 2 m__law_rows))
    (h_even_bits : Has CX0 P w K mg base "even_bits" 5 ["die", "throws"] (spD K 2 m_even_bits))
    (h_all_rows : Has CX0 P w K mg base "all_rows" 1 ["die", "throws"] (spD K 2 m_all_rows))
    (h__law_same : Has CX0 P w K mg base "_law_same" 1 ["told", "due"] (spD K 2 m__law_same))
    (h__law_bits : Has CX0 P w K mg base "_law_bits" 3 ["die", "faces"] (spD K 2 m__law_bits))
    (h_row_bits : Has CX0 P w K mg base "row_bits" 4 ["die", "faces"] (spD K 2 m_row_bits))
    (h__law_mass : Has CX0 P w K mg base "_law_mass" 1 ["die", "faces"] (spD K 2 m__law_mass))
    (h__law_counts : Has CX0 P w K mg base "_law_counts" 3 ["die", "throws"] (spD K 2 m__law_counts))
    (h__law_counted : Has CX0 P w K mg base "_law_counted" 6 ["die", "throws"] (spD K 2 m__law_counted)) :
    FnOk P w K mg base CX0 7 f fd ["die", "throws"] (spD K 2 (runB 8 den__law_all)) :=
  ok_body (k := 6) F sc__law_all fun cdv A outer s H E hr =>
    (as_cons (as_asg (ae_tup (aa_cons (ae_callD h__law_rows (hr.mono (by decide)) rfl (aa_cons (ae_var (pv 0)) (aa_cons (ae_var (pv 1)) aa_nil))) (aa_cons ae_newK (aa_cons ae_newT aa_nil)))) (ag_tup rfl (ags_cons (i := 2) sc__law_all.nd rfl (Or.inl rfl) (ags_cons (i := 3) sc__law_all.nd rfl (Or.inr rfl) (ags_cons (i := 4) sc__law_all.nd rfl (Or.inl rfl) ags_nil)))))
    (as_cons (as_if (at_not (at_val (ae_callD h__law_same (hr.mono (by decide)) rfl (aa_cons (ae_tup (aa_cons (ae_callD h_all_rows (hr.mono (by decide)) rfl (aa_cons (ae_var (pv 0)) (aa_cons (ae_var (pv 1)) aa_nil))) (aa_cons (ae_callD h_even_bits (hr.mono (by decide)) rfl (aa_cons (ae_var (pv 0)) (aa_cons (ae_var (pv 1)) aa_nil))) aa_nil))) (aa_cons (ae_tup (aa_cons (ae_tupOf rfl B.m_tuple (aa_cons (ae_var (pv 2)) aa_nil)) (aa_cons ae_bl aa_nil))) aa_nil))))) (as_one (as_ret ae_bl)) as_nil)
    (as_cons (as_for PassesOwn.never rfl (ai_of (ae_var (pv 2))) (ag_name (i := 5) sc__law_all.nd rfl (Or.inl rfl)) (as_cons (as_set (i := 6) sc__law_all.nd rfl (Or.inl rfl) (ae_callD h__law_bits (hr.mono (by decide)) rfl (aa_cons (ae_var (pv 0)) (aa_cons (ae_var (pv 5)) aa_nil))))
    (as_cons (as_if (at_not (at_val (ae_callD h__law_same (hr.mono (by decide)) rfl (aa_cons (ae_callD h_row_bits (hr.mono (by decide)) rfl (aa_cons (ae_var (pv 0)) (aa_cons (ae_var (pv 5)) aa_nil))) (aa_cons (ae_var (pv 6)) aa_nil))))) (as_one (as_ret ae_bl)) as_nil)
    (as_cons (as_dset hr.units1 (ae_add (ae_get2 hr.units1 (ae_var (pv 3)) (ae_len rfl B.m_len (aa_cons (ae_var (pv 6)) aa_nil)) ae_int) (ae_callD h__law_mass (hr.mono (by decide)) rfl (aa_cons (ae_var (pv 0)) (aa_cons (ae_var (pv 5)) aa_nil)))) (ae_var (pv 3)) (ae_len rfl B.m_len (aa_cons (ae_var (pv 6)) aa_nil)))
    (as_one (as_dset hr.units1 (ae_add (ae_get2 hr.units1 (ae_var (pv 4)) (ae_var (pv 6)) ae_int) (ae_callD h__law_mass (hr.mono (by decide)) rfl (aa_cons (ae_var (pv 0)) (aa_cons (ae_var (pv 5)) aa_nil)))) (ae_var (pv 4)) (ae_var (pv 6))))))))
    (as_cons (as_if (at_ne hr.units (ae_tupOf rfl B.m_tuple (aa_cons (ae_lcv [("at", 7)] rfl rfl sc__law_all.nd (ai_range1 rfl B.m_range (aa_cons (ae_add (ae_maxK rfl rfl B.m_max (aa_cons (ae_var (pv 3)) aa_nil)) ae_int) aa_nil)) (blkOk_by (own := [("at", 7)]) (N := sc__law_allN) (sc := defScope s__law_all) (by decide +kernel)) (fun _ _ _ _ _ => pg_name (i := 7) sc__law_all.nd rfl (Or.inl rfl)) (fun _ _ _ _ _ => pts_none) (fun _ _ _ _ _ => (ae_get2 hr.units1 (ae_var (pv 3)) (ae_var (pv 7)) ae_int)) (agw_name (by decide))) aa_nil)) (ae_tupOf rfl B.m_tuple (aa_cons (ae_callD h__law_counts (hr.mono (by decide)) rfl (aa_cons (ae_var (pv 0)) (aa_cons (ae_var (pv 1)) aa_nil))) aa_nil))) (as_one (as_ret ae_bl)) as_nil)
    (as_cons (as_lock (i := 4) (as_for PassesOwn.never rfl (ai_keys (ae_var (pv 4))) (ag_name (i := 6) sc__law_all.nd rfl (Or.inl rfl)) (as_one (as_if (at_ne hr.units (ae_shlW (ae_dg hr.units1 (ae_var (pv 4)) (ae_var (pv 6))) (ae_len rfl B.m_len (aa_cons (ae_var (pv 6)) aa_nil))) (ae_dg hr.units1 (ae_var (pv 3)) (ae_len rfl B.m_len (aa_cons (ae_var (pv 6)) aa_nil)))) (as_one (as_ret ae_bl)) as_nil))))
    (as_one (as_ret (ae_callD h__law_counted (hr.mono (by decide)) rfl (aa_cons (ae_var (pv 0)) (aa_cons (ae_var (pv 1)) aa_nil))))))))))
/-! _law_found -/
abbrev s__law_found : Stmt := top 60
abbrev sc__law_foundN : List Str := ["jug", "die", "throws", "kind", "bits", "whole", "start", "number", "bit", "due"]
theorem sc__law_found : FnScope sc__law_foundN ["jug", "die", "throws", "kind", "bits"] (defScope s__law_found) := ⟨rfl, rfl, rfl, by decide +kernel, rfl, by decide +kernel, by decide +kernel⟩
noncomputable def b1__law_found : DS :=
  (sSet 7 (dOp hAdd (dOp hMulT (dC (.int 2)) (dV 7)) (dV 8)))
noncomputable def den__law_found : DS :=
  (sSeq (sSet 5 (dCall 3 m__law_size (dCons (dV 1) (dCons (dV 2) (dCons (dV 3) dNil)))))
    (sSeq (sPar 6 7 (dCons (dCall 2 m__law_stretch (dCons (dV 5) (dCons (dCB hLen (dCons (dV 4) dNil)) dNil))) (dCons (dC (.int 0)) dNil)))
    (sSeq (sFor (dIt (dV 4)) (gN 8) b1__law_found)
    (sSeq (sSet 9 (dIfE (dBl (dOp hIsN (dV 6) (dC .non))) (dC .non) (dCall 4 m__law_row (dCons (dV 1) (dCons (dV 2) (dCons (dV 3) (dCons (dOp hAdd (dV 6) (dV 7)) dNil)))))))
    (sRet (dCall 2 m__law_same (dCons (dCall 4 m_row_for_bits (dCons (dV 1) (dCons (dV 2) (dCons (dV 3) (dCons (dV 4) dNil))))) (dCons (dV 9) dNil))))))))
noncomputable def m__law_found : List D → Sto → Res D := callM (runB 10 den__law_found)
theorem ok__law_found {P : Program} {w : World} {K : PySem.W.Frag} {mg : Str → Option Value} {base : Heap} {f : Addr} {fd : FuncData} (F : Fun K "_law_found" "_law_found" s__law_found f fd) (B : Bu mg)
    (h__law_size : Has CX0 P w K mg base "_law_size" 2 ["die", "throws", "kind"] (spD K 3 m__law_size))
    (h__law_stretch : Has CX0 P w K mg base "_law_stretch" 1 ["whole", "digits"] (spD K 2 m__law_stretch))
    (h__law_row : Has CX0 P w K mg base "_law_row" 2 ["die", "throws", "kind", "number"] (spD K 4 m__law_row))
    (h_row_for_bits : Has CX0 P w K mg base "row_for_bits" 5 ["die", "throws", "kind", "bits"] (spD K 4 m_row_for_bits))
    (h__law_same : Has CX0 P w K mg base "_law_same" 1 ["told", "due"] (spD K 2 m__law_same)) :
    FnOk P w K mg base CX0 6 f fd ["jug", "die", "throws", "kind", "bits"] (spD K 5 (runB 10 den__law_found)) :=
  ok_body (k := 5) F sc__law_found fun cdv A outer s H E hr =>
    (as_cons (as_set (i := 5) sc__law_found.nd rfl (Or.inl rfl) (ae_callD h__law_size (hr.mono (by decide)) rfl (aa_cons (ae_var (pv 1)) (aa_cons (ae_var (pv 2)) (aa_cons (ae_var (pv 3)) aa_nil)))))
    (as_cons (as_par (i := 6) (j := 7) rfl sc__law_found.nd rfl rfl (by decide) rfl rfl (aa_cons (ae_callD h__law_stretch (hr.mono (by decide)) rfl (aa_cons (ae_var (pv 5)) (aa_cons (ae_len rfl B.m_len (aa_cons (ae_var (pv 4)) aa_nil)) aa_nil))) (aa_cons ae_int aa_nil)) rfl)
    (as_cons (as_for PassesOwn.never rfl (ai_of (ae_var (pv 4))) (ag_name (i := 8) sc__law_found.nd rfl (Or.inl rfl)) (as_one (as_set (i := 7) sc__law_found.nd rfl (Or.inl rfl) (ae_add (ae_mulT ae_int (ae_var (pv 7))) (ae_var (pv 8))))))
    (as_cons (as_set (i := 9) sc__law_found.nd rfl (Or.inl rfl) (ae_if (at_isN (ae_var (pv 6)) ae_non) ae_non (ae_callD h__law_row (hr.mono (by decide)) rfl (aa_cons (ae_var (pv 1)) (aa_cons (ae_var (pv 2)) (aa_cons (ae_var (pv 3)) (aa_cons (ae_add (ae_var (pv 6)) (ae_var (pv 7))) aa_nil)))))))
    (as_one (as_ret (ae_callD h__law_same (hr.mono (by decide)) rfl (aa_cons (ae_callD h_row_for_bits (hr.mono (by decide)) rfl (aa_cons (ae_var (pv 1)) (aa_cons (ae_var (pv 2)) (aa_cons (ae_var (pv 3)) (aa_cons (ae_var (pv 4)) aa_nil))))) (aa_cons (ae_var (pv 9)) aa_nil)))))))))
/-! _law_row_right -/
abbrev s__law_row_right : Stmt := top 61
abbrev sc__law_row_rightN : List Str := ["jug", "die", "faces", "throws", "kind", "bits", "told", "other", "some", "thing", "block", "cut", "due", "piece", "at", "bit", "lap"]
theorem sc__law_row_right : FnScope sc__law_row_rightN ["jug", "die", "faces"] (defScope s__law_row_right) := ⟨rfl, rfl, rfl, by decide +kernel, rfl, by decide +kernel, by decide +kernel⟩
def perm_row_for_bits (ds : List D) : List D := match ds with | [a, b, c, d] => [b, c, a, d] | _ => []
noncomputable def e1__law_row_right : DE :=
  (dOp (hInt yes2 fun i j => i - j) (dC (.int 1)) (dV 15))
noncomputable def e2__law_row_right : DE :=
  (dCall 2 m__law_pour (dCons (dV 0) (dCons (dC (.int 2)) dNil)))
noncomputable def b3__law_row_right : DS :=
  (sIf (dOr (dNot (dTru (dCall 5 m__law_found (dCons (dV 0) (dCons (dV 1) (dCons (dV 3) (dCons (dV 4) (dCons (dV 9) dNil)))))))) (dNot (dTru (dCall 5 m__law_found (dCons (dV 0) (dCons (dV 1) (dCons (dV 3) (dCons (dV 7) (dCons (dV 9) dNil))))))))) (sRet (dC (.bl false))) sNx)
noncomputable def e4__law_row_right : DE :=
  (dSl (dV 2) (dOSome (dV 14)) (dOSome (dOp hAdd (dV 14) (dV 10))))
noncomputable def b5__law_row_right : DS :=
  (sSet 12 (dOp hAdd (dV 12) (dCall 2 m__law_bits (dCons (dV 1) (dCons (dV 13) dNil)))))
noncomputable def den__law_row_right : DS :=
  (sSeq (sPar3 3 4 5 (dCons (dCB hLen (dCons (dV 2) dNil)) (dCons (dCall 2 m__law_kind (dCons (dV 1) (dCons (dV 2) dNil))) (dCons (dCall 2 m__law_bits (dCons (dV 1) (dCons (dV 2) dNil))) dNil))))
    (sSeq (sSet 6 (dTup (dCons (dCall 2 m_row_bits (dCons (dV 1) (dCons (dV 2) dNil))) (dCons (dCall 3 m_kind_size (dCons (dV 1) (dCons (dV 3) (dCons (dV 4) dNil)))) (dCons (dCall 2 m_row_number (dCons (dV 1) (dCons (dV 2) dNil))) dNil)))))
    (sSeq (sIf (dNot (dTru (dCall 2 m__law_same (dCons (dV 6) (dCons (dTup (dCons (dV 5) (dCons (dCall 3 m__law_size (dCons (dV 1) (dCons (dV 3) (dCons (dV 4) dNil)))) (dCons (dCall 2 m__law_number (dCons (dV 1) (dCons (dV 2) dNil))) dNil)))) dNil))))) (sRet (dC (.bl false))) sNx)
    (sSeq (sIf (dNot (dTru (dCall 2 m__law_same (dCons (dCallK 4 perm_row_for_bits m_row_for_bits (dCons (dV 4) (dCons (dV 1) (dCons (dV 3) (dCons (dV 5) dNil))))) (dCons (dV 2) dNil))))) (sRet (dC (.bl false))) sNx)
    (sSeq (sSet 7 (dCall 2 m__law_pour (dCons (dV 0) (dCons (dOp hAdd (dV 3) (dC (.int 1))) dNil))))
    (sSeq (sSet 8 (dLst (dCons (dOp hAdd (dV 5) (dTup (dCons (dCall 2 m__law_pour (dCons (dV 0) (dCons (dC (.int 2)) dNil))) dNil))) (dCons (dSl (dV 5) (dOSome (dC (.int 1))) dONone) (dCons (dCB hTupOf (dCons (dLc (dIt (dV 5)) (gN 15) dYes e1__law_row_right [15]) dNil)) (dCons (dTup dNil) dNil))))))
    (sSeq (sExpr (dMe hApp (dV 8) (dCons (dCB hTupOf (dCons (dLc (dRng1 (dCons (dCall 2 m__law_pour (dCons (dV 0) (dCons (dOp hAdd (dV 3) (dC (.int 3))) dNil))) dNil)) (gN 16) dYes e2__law_row_right [16]) dNil)) dNil)))
    (sSeq (sFor (dIt (dV 8)) (gN 9) b3__law_row_right)
    (sSeq (sSet 10 (dOp hAdd (dC (.int 1)) (dCall 2 m__law_pour (dCons (dV 0) (dCons (dC (.int 6)) dNil)))))
    (sSeq (sSet 11 (dLc (dRngP (dCons (dC (.int 0)) (dCons (dOp hAdd (dOp (hInt yes2 fun i j => i - j) (dV 3) (dV 10)) (dC (.int 1))) (dCons (dV 10) dNil)))) (gN 14) dYes e4__law_row_right [14]))
    (sSeq (sSet 12 (dTup dNil))
    (sSeq (sFor (dIt (dV 11)) (gN 13) b5__law_row_right)
    (sRet (dCall 2 m__law_same (dCons (dCall 3 m_bits_of_row (dCons (dV 1) (dCons (dV 2) (dCons (dV 10) dNil)))) (dCons (dV 12) dNil))))))))))))))))
noncomputable def m__law_row_right : List D → Sto → Res D := callM (runB 17 den__law_row_right)
theorem ok__law_row_right {P : Program} {w : World} {K : PySem.W.Frag} {mg : Str → Option Value} {base : Heap} {f : Addr} {fd : FuncData} (F : Fun K "_law_row_right" "_law_row_right" s__law_row_right f fd) (B : Bu mg)
    (h__law_bits : Has CX0 P w K mg base "_law_bits" 3 ["die", "faces"] (spD K 2 m__law_bits))
    (h__law_kind : Has CX0 P w K mg base "_law_kind" 1 ["die", "faces"] (spD K 2 m__law_kind))
    (h_row_number : Has CX0 P w K mg base "row_number" 3 ["die", "faces"] (spD K 2 m_row_number))
    (h_kind_size : Has CX0 P w K mg base "kind_size" 3 ["die", "throws", "kind"] (spD K 3 m_kind_size))
    (h_row_bits : Has CX0 P w K mg base "row_bits" 4 ["die", "faces"] (spD K 2 m_row_bits))
    (h__law_number : Has CX0 P w K mg base "_law_number" 2 ["die", "faces"] (spD K 2 m__law_number))
    (h__law_size : Has CX0 P w K mg base "_law_size" 2 ["die", "throws", "kind"] (spD K 3 m__law_size))
    (h__law_same : Has CX0 P w K mg base "_law_same" 1 ["told", "due"] (spD K 2 m__law_same))
    (h__law_pour : Has CX0 P w K mg base "_law_pour" 1 ["jug", "many"] (spD K 2 m__law_pour))
    (h__law_found : Has CX0 P w K mg base "_law_found" 6 ["jug", "die", "throws", "kind", "bits"] (spD K 5 m__law_found))
    (h_bits_of_row : Has CX0 P w K mg base "bits_of_row" 5 ["die", "faces", "block"] (spD K 3 m_bits_of_row))
    (hk_row_for_bits : HasK CX0 P w K mg base "row_for_bits" 5 ["die", "throws", "kind", "bits"] ["kind", "die", "throws", "bits"] perm_row_for_bits (spD K 4 m_row_for_bits)) :
    FnOk P w K mg base CX0 7 f fd ["jug", "die", "faces"] (spD K 3 (runB 17 den__law_row_right)) :=
  ok_body (k := 6) F sc__law_row_right fun cdv A outer s H E hr =>
    (as_cons (as_par3 (i := 3) (j := 4) (k := 5) rfl sc__law_row_right.nd rfl rfl rfl (by decide) (by decide) (by decide) rfl rfl rfl (aa_cons (ae_len rfl B.m_len (aa_cons (ae_var (pv 2)) aa_nil)) (aa_cons (ae_callD h__law_kind (hr.mono (by decide)) rfl (aa_cons (ae_var (pv 1)) (aa_cons (ae_var (pv 2)) aa_nil))) (aa_cons (ae_callD h__law_bits (hr.mono (by decide)) rfl (aa_cons (ae_var (pv 1)) (aa_cons (ae_var (pv 2)) aa_nil))) aa_nil))) rfl)
    (as_cons (as_set (i := 6) sc__law_row_right.nd rfl (Or.inl rfl) (ae_tup (aa_cons (ae_callD h_row_bits (hr.mono (by decide)) rfl (aa_cons (ae_var (pv 1)) (aa_cons (ae_var (pv 2)) aa_nil))) (aa_cons (ae_callD h_kind_size (hr.mono (by decide)) rfl (aa_cons (ae_var (pv 1)) (aa_cons (ae_var (pv 3)) (aa_cons (ae_var (pv 4)) aa_nil)))) (aa_cons (ae_callD h_row_number (hr.mono (by decide)) rfl (aa_cons (ae_var (pv 1)) (aa_cons (ae_var (pv 2)) aa_nil))) aa_nil)))))
    (as_cons (as_if (at_not (at_val (ae_callD h__law_same (hr.mono (by decide)) rfl (aa_cons (ae_var (pv 6)) (aa_cons (ae_tup (aa_cons (ae_var (pv 5)) (aa_cons (ae_callD h__law_size (hr.mono (by decide)) rfl (aa_cons (ae_var (pv 1)) (aa_cons (ae_var (pv 3)) (aa_cons (ae_var (pv 4)) aa_nil)))) (aa_cons (ae_callD h__law_number (hr.mono (by decide)) rfl (aa_cons (ae_var (pv 1)) (aa_cons (ae_var (pv 2)) aa_nil))) aa_nil)))) aa_nil))))) (as_one (as_ret ae_bl)) as_nil)
    (as_cons (as_if (at_not (at_val (ae_callD h__law_same (hr.mono (by decide)) rfl (aa_cons (ae_callK hk_row_for_bits (hr.mono (by decide)) rfl (ak_cons (ae_var (pv 4)) (ak_cons (ae_var (pv 1)) (ak_cons (ae_var (pv 3)) (ak_cons (ae_var (pv 5)) ak_nil))))) (aa_cons (ae_var (pv 2)) aa_nil))))) (as_one (as_ret ae_bl)) as_nil)
    (as_cons (as_set (i := 7) sc__law_row_right.nd rfl (Or.inl rfl) (ae_callD h__law_pour (hr.mono (by decide)) rfl (aa_cons (ae_var (pv 0)) (aa_cons (ae_add (ae_var (pv 3)) ae_int) aa_nil))))
    (as_cons (as_set (i := 8) sc__law_row_right.nd rfl (Or.inl rfl) (ae_lst (aa_cons (ae_add (ae_var (pv 5)) (ae_tup (aa_cons (ae_callD h__law_pour (hr.mono (by decide)) rfl (aa_cons (ae_var (pv 0)) (aa_cons ae_int aa_nil))) aa_nil))) (aa_cons (ae_sl (ae_var (pv 5)) (ao_some ae_int) ao_none) (aa_cons (ae_tupOf rfl B.m_tuple (aa_cons (ae_lcv [("bit", 15)] rfl rfl sc__law_row_right.nd (ai_of (ae_var (pv 5))) (blkOk_by (own := [("bit", 15)]) (N := sc__law_row_rightN) (sc := defScope s__law_row_right) (by decide +kernel)) (fun _ _ _ _ _ => pg_name (i := 15) sc__law_row_right.nd rfl (Or.inl rfl)) (fun _ _ _ _ _ => pts_none) (fun _ _ _ _ _ => (ae_sub ae_int (ae_var (pv 15)))) (agw_name (by decide))) aa_nil)) (aa_cons (ae_tup aa_nil) aa_nil))))))
    (as_cons (as_expr (ae_append (ae_var (pv 8)) (aa_cons (ae_tupOf rfl B.m_tuple (aa_cons (ae_lcv [("lap", 16)] rfl rfl sc__law_row_right.nd (ai_range1 rfl B.m_range (aa_cons (ae_callD h__law_pour (hr.mono (by decide)) rfl (aa_cons (ae_var (pv 0)) (aa_cons (ae_add (ae_var (pv 3)) ae_int) aa_nil))) aa_nil)) (blkOk_by (own := [("lap", 16)]) (N := sc__law_row_rightN) (sc := defScope s__law_row_right) (by decide +kernel)) (fun _ _ _ _ _ => pg_name (i := 16) sc__law_row_right.nd rfl (Or.inl rfl)) (fun _ _ _ _ _ => pts_none) (fun _ _ _ _ _ => (ae_callD h__law_pour (hr.mono (by decide)) rfl (aa_cons (ae_var (pv 0)) (aa_cons ae_int aa_nil)))) (agw_name (by decide))) aa_nil)) aa_nil)))
    (as_cons (as_for PassesOwn.never rfl (ai_of (ae_var (pv 8))) (ag_name (i := 9) sc__law_row_right.nd rfl (Or.inl rfl)) (as_one (as_if (at_w (aw_or (at_not (at_val (ae_callD h__law_found (hr.mono (by decide)) rfl (aa_cons (ae_var (pv 0)) (aa_cons (ae_var (pv 1)) (aa_cons (ae_var (pv 3)) (aa_cons (ae_var (pv 4)) (aa_cons (ae_var (pv 9)) aa_nil)))))))) (aw_or1 (at_not (at_val (ae_callD h__law_found (hr.mono (by decide)) rfl (aa_cons (ae_var (pv 0)) (aa_cons (ae_var (pv 1)) (aa_cons (ae_var (pv 3)) (aa_cons (ae_var (pv 7)) (aa_cons (ae_var (pv 9)) aa_nil))))))))))) (as_one (as_ret ae_bl)) as_nil)))
    (as_cons (as_set (i := 10) sc__law_row_right.nd rfl (Or.inr rfl) (ae_add ae_int (ae_callD h__law_pour (hr.mono (by decide)) rfl (aa_cons (ae_var (pv 0)) (aa_cons ae_int aa_nil)))))
    (as_cons (as_setLcv (i := 11) [("at", 14)] rfl rfl sc__law_row_right.nd rfl rfl (sw_true rfl rfl rfl (by decide +kernel)) (ai_rangeP rfl B.m_range (aa_cons ae_int (aa_cons (ae_add (ae_sub (ae_var (pv 3)) (ae_var (pv 10))) ae_int) (aa_cons (ae_var (pv 10)) aa_nil)))) (blkOk_by (own := [("at", 14)]) (N := sc__law_row_rightN) (sc := defScope s__law_row_right) (by decide +kernel)) (fun _ _ _ _ _ => pg_name (i := 14) sc__law_row_right.nd rfl (Or.inl rfl)) (fun _ _ _ _ _ => pts_none) (fun _ _ _ _ _ => (ae_sl (ae_var (pv 2)) (ao_some (ae_var (pv 14))) (ao_some (ae_add (ae_var (pv 14)) (ae_var (pv 10)))))) (agw_name (by decide)))
    (as_cons (as_set (i := 12) sc__law_row_right.nd rfl (Or.inl rfl) (ae_tup aa_nil))
    (as_cons (as_for PassesOwn.never rfl (ai_of (ae_var (pv 11))) (ag_name (i := 13) sc__law_row_right.nd rfl (Or.inl rfl)) (as_one (as_set (i := 12) sc__law_row_right.nd rfl (Or.inl rfl) (ae_add (ae_var (pv 12)) (ae_callD h__law_bits (hr.mono (by decide)) rfl (aa_cons (ae_var (pv 1)) (aa_cons (ae_var (pv 13)) aa_nil)))))))
    (as_one (as_ret (ae_callD h__law_same (hr.mono (by decide)) rfl (aa_cons (ae_callD h_bits_of_row (hr.mono (by decide)) rfl (aa_cons (ae_var (pv 1)) (aa_cons (ae_var (pv 2)) (aa_cons (ae_var (pv 10)) aa_nil)))) (aa_cons (ae_var (pv 12)) aa_nil)))))))))))))))))
/-! _law_faces -/
abbrev s__law_faces : Stmt := top 62
abbrev sc__law_facesN : List Str := ["jug", "die", "many", "one", "other", "lap"]
theorem sc__law_faces : FnScope sc__law_facesN ["jug", "die", "many"] (defScope s__law_faces) := ⟨rfl, rfl, rfl, by decide +kernel, rfl, by decide +kernel, by decide +kernel⟩
noncomputable def e1__law_faces : DE :=
  (dIfE (dBl (dOp (hCmp fun i j => decide (j < i)) (dCall 2 m__law_pour (dCons (dV 0) (dCons (dC (.int 4)) dNil))) (dC (.int 0)))) (dV 3) (dV 4))
noncomputable def e2__law_faces : DE :=
  (dCall 2 m__law_pour (dCons (dV 0) (dCons (dCB hLen (dCons (dV 1) dNil)) dNil)))
noncomputable def den__law_faces : DS :=
  (sSeq (sIf (dBl (dOp hEq (dCall 2 m__law_pour (dCons (dV 0) (dCons (dC (.int 3)) dNil))) (dC (.int 0)))) (sSeq (sAsg (gT [3, 4]) (dTup (dCons (dCall 2 m__law_pour (dCons (dV 0) (dCons (dCB hLen (dCons (dV 1) dNil)) dNil))) (dCons (dCall 2 m__law_pour (dCons (dV 0) (dCons (dCB hLen (dCons (dV 1) dNil)) dNil))) dNil))))
    (sRet (dCB hTupOf (dCons (dLc (dRng1 (dCons (dV 2) dNil)) (gN 5) dYes e1__law_faces [5]) dNil)))) sNx)
    (sRet (dCB hTupOf (dCons (dLc (dRng1 (dCons (dV 2) dNil)) (gN 5) dYes e2__law_faces [5]) dNil))))
noncomputable def m__law_faces : List D → Sto → Res D := callM (runB 6 den__law_faces)
theorem ok__law_faces {P : Program} {w : World} {K : PySem.W.Frag} {mg : Str → Option Value} {base : Heap} {f : Addr} {fd : FuncData} (F : Fun K "_law_faces" "_law_faces" s__law_faces f fd) (B : Bu mg)
    (h__law_pour : Has CX0 P w K mg base "_law_pour" 1 ["jug", "many"] (spD K 2 m__law_pour)) :
    FnOk P w K mg base CX0 2 f fd ["jug", "die", "many"] (spD K 3 (runB 6 den__law_faces)) :=
  ok_body (k := 1) F sc__law_faces fun cdv A outer s H E hr =>
    (as_cons (as_if (at_eq hr.units (ae_callD h__law_pour (hr.mono (by decide)) rfl (aa_cons (ae_var (pv 0)) (aa_cons ae_int aa_nil))) ae_int) (as_cons (as_asg (ae_tup (aa_cons (ae_callD h__law_pour (hr.mono (by decide)) rfl (aa_cons (ae_var (pv 0)) (aa_cons (ae_len rfl B.m_len (aa_cons (ae_var (pv 1)) aa_nil)) aa_nil))) (aa_cons (ae_callD h__law_pour (hr.mono (by decide)) rfl (aa_cons (ae_var (pv 0)) (aa_cons (ae_len rfl B.m_len (aa_cons (ae_var (pv 1)) aa_nil)) aa_nil))) aa_nil))) (ag_tup rfl (ags_cons (i := 3) sc__law_faces.nd rfl (Or.inr rfl) (ags_cons (i := 4) sc__law_faces.nd rfl (Or.inr rfl) ags_nil))))
    (as_one (as_ret (ae_tupOf rfl B.m_tuple (aa_cons (ae_lcv [("lap", 5)] rfl rfl sc__law_faces.nd (ai_range1 rfl B.m_range (aa_cons (ae_var (pv 2)) aa_nil)) (blkOk_by (own := [("lap", 5)]) (N := sc__law_facesN) (sc := defScope s__law_faces) (by decide +kernel)) (fun _ _ _ _ _ => pg_name (i := 5) sc__law_faces.nd rfl (Or.inl rfl)) (fun _ _ _ _ _ => pts_none) (fun _ _ _ _ _ => (ae_if (at_gt (ae_callD h__law_pour (hr.mono (by decide)) rfl (aa_cons (ae_var (pv 0)) (aa_cons ae_int aa_nil))) ae_int) (ae_var (pv 3)) (ae_var (pv 4)))) (agw_name (by decide))) aa_nil))))) as_nil)
    (as_one (as_ret (ae_tupOf rfl B.m_tuple (aa_cons (ae_lcv [("lap", 5)] rfl rfl sc__law_faces.nd (ai_range1 rfl B.m_range (aa_cons (ae_var (pv 2)) aa_nil)) (blkOk_by (own := [("lap", 5)]) (N := sc__law_facesN) (sc := defScope s__law_faces) (by decide +kernel)) (fun _ _ _ _ _ => pg_name (i := 5) sc__law_faces.nd rfl (Or.inl rfl)) (fun _ _ _ _ _ => pts_none) (fun _ _ _ _ _ => (ae_callD h__law_pour (hr.mono (by decide)) rfl (aa_cons (ae_var (pv 0)) (aa_cons (ae_len rfl B.m_len (aa_cons (ae_var (pv 1)) aa_nil)) aa_nil)))) (agw_name (by decide))) aa_nil)))))
/-! law -/
abbrev s_law : Stmt := top 63
abbrev sc_lawN : List Str := ["script", "jug", "die", "throws", "kind", "due", "lap", "told", "at"]
theorem sc_law : FnScope sc_lawN ["script"] (defScope s_law) := ⟨rfl, rfl, rfl, by decide +kernel, rfl, by decide +kernel, by decide +kernel⟩
def perm_row_bits (ds : List D) : List D := match ds with | [a, b] => [b, a] | _ => []
noncomputable def e1_law : DE :=
  (dCall 4 m__law_row (dCons (dV 2) (dCons (dV 3) (dCons (dV 4) (dCons (dV 8) dNil)))))
noncomputable def b2_law : DS :=
  (sIf (dNot (dTru (dCall 3 m__law_row_right (dCons (dV 1) (dCons (dV 2) (dCons (dCall 3 m__law_faces (dCons (dV 1) (dCons (dV 2) (dCons (dCall 2 m__law_pour (dCons (dV 1) (dCons (dOp hIx (dLst (dCons (dC (.int 9)) (dCons (dC (.int 20)) (dCons (dC (.int 40)) dNil)))) (dV 6)) dNil))) dNil)))) dNil)))))) (sRet (dC (.bl false))) sNx)
noncomputable def den_law : DS :=
  (sSeq (sSet 1 (dCall 1 m__law_jug (dCons (dV 0) dNil)))
    (sSeq (sSet 2 (dCall 2 m__law_die (dCons (dV 1) (dCons (dC (.int 5)) dNil))))
    (sSeq (sSet 3 (dCall 2 m__law_pour (dCons (dV 1) (dCons (dOp hIx (dLst (dCons (dC (.int 8)) (dCons (dC (.int 5)) (dCons (dC (.int 4)) (dCons (dC (.int 4)) dNil))))) (dOp (hInt yes2 fun i j => i - j) (dCB hLen (dCons (dV 2) dNil)) (dC (.int 2)))) dNil))))
    (sSeq (sIf (dNot (dTru (dCall 2 m__law_all (dCons (dV 2) (dCons (dV 3) dNil))))) (sRet (dC (.bl false))) sNx)
    (sSeq (sSet 4 (dCall 2 m__law_pour (dCons (dV 1) (dCons (dOp hAdd (dV 3) (dC (.int 1))) dNil))))
    (sSeq (sSet 5 (dCB hTupOf (dCons (dLc (dIt (dLstR (dCall 3 m__law_size (dCons (dV 2) (dCons (dV 3) (dCons (dV 4) dNil)))))) (gN 8) dYes e1_law [8]) dNil)))
    (sSeq (sIf (dNot (dTru (dCall 2 m__law_same (dCons (dCall 3 m_rows_of_kind (dCons (dV 2) (dCons (dV 3) (dCons (dV 4) dNil)))) (dCons (dV 5) dNil))))) (sRet (dC (.bl false))) sNx)
    (sSeq (sFor (dRng1 (dCons (dC (.int 3)) dNil)) (gN 6) b2_law)
    (sSeq (sIf (dNot (dTru (dCall 2 m__law_counted (dCons (dV 2) (dCons (dCall 2 m__law_pour (dCons (dV 1) (dCons (dC (.int 24)) dNil))) dNil))))) (sRet (dC (.bl false))) sNx)
    (sSeq (sIf (dBl (dOp hEq (dCall 2 m__law_pour (dCons (dV 1) (dCons (dC (.int 7)) dNil))) (dC (.int 3)))) (sSeq (sSet 2 (dCall 2 m__law_die (dCons (dV 1) (dCons (dC (.int 5)) dNil))))
    (sIf (dOr (dNot (dTru (dCall 3 m__law_row_right (dCons (dV 1) (dCons (dV 2) (dCons (dCall 3 m__law_faces (dCons (dV 1) (dCons (dV 2) (dCons (dC (.int 100)) dNil)))) dNil)))))) (dNot (dTru (dCall 2 m__law_counted (dCons (dV 2) (dCons (dC (.int 100)) dNil)))))) (sRet (dC (.bl false))) sNx)) sNx)
    (sSeq (sSet 7 (dTup (dCons (dCall 2 m_row_bits (dCons (dTup (dCons (dC (.int 1)) (dCons (dC (.int 2)) dNil))) (dCons (dTup (dCons (dC (.int 0)) (dCons (dC (.int 1)) (dCons (dC (.int 1)) dNil)))) dNil))) (dCons (dCall 2 m_row_bits (dCons (dTup (dCons (dC (.int 1)) (dCons (dC (.int 2)) dNil))) (dCons (dTup (dCons (dC (.int 1)) (dCons (dC (.int 0)) (dCons (dC (.int 1)) dNil)))) dNil))) (dCons (dCallK 2 perm_row_bits m_row_bits (dCons (dTup (dCons (dC (.int 1)) (dCons (dC (.int 1)) (dCons (dC (.int 0)) dNil)))) (dCons (dTup (dCons (dC (.int 1)) (dCons (dC (.int 2)) dNil))) dNil))) dNil)))))
    (sSeq (sIf (dNot (dTru (dCall 2 m__law_same (dCons (dV 7) (dCons (dTup (dCons (dTup (dCons (dC (.int 0)) dNil)) (dCons (dTup (dCons (dC (.int 1)) dNil)) (dCons (dTup dNil) dNil)))) dNil))))) (sRet (dC (.bl false))) sNx)
    (sSeq (sSet 7 (dTup (dCons (dCall 4 m_row_for_bits (dCons (dTup (dCons (dC (.int 1)) (dCons (dC (.int 2)) dNil))) (dCons (dC (.int 3)) (dCons (dC (.int 1)) (dCons (dTup (dCons (dC (.int 1)) dNil)) dNil))))) (dCons (dCall 4 m_row_for_bits (dCons (dTup (dCons (dC (.int 1)) (dCons (dC (.int 2)) dNil))) (dCons (dC (.int 3)) (dCons (dC (.int 1)) (dCons (dTup (dCons (dC (.int 0)) (dCons (dC (.int 1)) dNil))) dNil))))) (dCons (dCall 4 m_row_of_number (dCons (dTup (dCons (dC (.int 1)) (dCons (dC (.int 2)) dNil))) (dCons (dC (.int 3)) (dCons (dC (.int 1)) (dCons (dC (.int 2)) dNil))))) dNil)))))
    (sRet (dCall 2 m__law_same (dCons (dV 7) (dCons (dTup (dCons (dTup (dCons (dC (.int 1)) (dCons (dC (.int 0)) (dCons (dC (.int 1)) dNil)))) (dCons (dC .non) (dCons (dTup (dCons (dC (.int 1)) (dCons (dC (.int 1)) (dCons (dC (.int 0)) dNil)))) dNil)))) dNil)))))))))))))))))
noncomputable def m_law : List D → Sto → Res D := callM (runB 9 den_law)
theorem ok_law {P : Program} {w : World} {K : PySem.W.Frag} {mg : Str → Option Value} {base : Heap} {f : Addr} {fd : FuncData} (F : Fun K "law" "law" s_law f fd) (B : Bu mg)
    (h__law_jug : Has CX0 P w K mg base "_law_jug" 1 ["script"] (spD K 1 m__law_jug))
    (h__law_die : Has CX0 P w K mg base "_law_die" 2 ["jug", "most"] (spD K 2 m__law_die))
    (h__law_pour : Has CX0 P w K mg base "_law_pour" 1 ["jug", "many"] (spD K 2 m__law_pour))
    (h__law_all : Has CX0 P w K mg base "_law_all" 7 ["die", "throws"] (spD K 2 m__law_all))
    (h__law_size : Has CX0 P w K mg base "_law_size" 2 ["die", "throws", "kind"] (spD K 3 m__law_size))
    (h__law_row : Has CX0 P w K mg base "_law_row" 2 ["die", "throws", "kind", "number"] (spD K 4 m__law_row))
    (h_rows_of_kind : Has CX0 P w K mg base "rows_of_kind" 5 ["die", "throws", "kind"] (spD K 3 m_rows_of_kind))
    (h__law_same : Has CX0 P w K mg base "_law_same" 1 ["told", "due"] (spD K 2 m__law_same))
    (h__law_faces : Has CX0 P w K mg base "_law_faces" 2 ["jug", "die", "many"] (spD K 3 m__law_faces))
    (h__law_row_right : Has CX0 P w K mg base "_law_row_right" 7 ["jug", "die", "faces"] (spD K 3 m__law_row_right))
    (h__law_counted : Has CX0 P w K mg base "_law_counted" 6 ["die", "throws"] (spD K 2 m__law_counted))
    (h_row_bits : Has CX0 P w K mg base "row_bits" 4 ["die", "faces"] (spD K 2 m_row_bits))
    (h_row_of_number : Has CX0 P w K mg base "row_of_number" 4 ["die", "throws", "kind", "number"] (spD K 4 m_row_of_number))
    (h_row_for_bits : Has CX0 P w K mg base "row_for_bits" 5 ["die", "throws", "kind", "bits"] (spD K 4 m_row_for_bits))
    (hk_row_bits : HasK CX0 P w K mg base "row_bits" 4 ["die", "faces"] ["faces", "die"] perm_row_bits (spD K 2 m_row_bits)) :
    FnOk P w K mg base CX0 8 f fd ["script"] (spD K 1 (runB 9 den_law)) :=
  ok_body (k := 7) F sc_law fun cdv A outer s H E hr =>
    (as_cons (as_set (i := 1) sc_law.nd rfl (Or.inl rfl) (ae_callD h__law_jug (hr.mono (by decide)) rfl (aa_cons (ae_var (pv 0)) aa_nil)))
    (as_cons (as_set (i := 2) sc_law.nd rfl (Or.inr rfl) (ae_callD h__law_die (hr.mono (by decide)) rfl (aa_cons (ae_var (pv 1)) (aa_cons ae_int aa_nil))))
    (as_cons (as_set (i := 3) sc_law.nd rfl (Or.inr rfl) (ae_callD h__law_pour (hr.mono (by decide)) rfl (aa_cons (ae_var (pv 1)) (aa_cons (ae_ix (ae_lst (aa_cons ae_int (aa_cons ae_int (aa_cons ae_int (aa_cons ae_int aa_nil))))) (ae_sub (ae_len rfl B.m_len (aa_cons (ae_var (pv 2)) aa_nil)) ae_int)) aa_nil))))
    (as_cons (as_if (at_not (at_val (ae_callD h__law_all (hr.mono (by decide)) rfl (aa_cons (ae_var (pv 2)) (aa_cons (ae_var (pv 3)) aa_nil))))) (as_one (as_ret ae_bl)) as_nil)
    (as_cons (as_set (i := 4) sc_law.nd rfl (Or.inr rfl) (ae_callD h__law_pour (hr.mono (by decide)) rfl (aa_cons (ae_var (pv 1)) (aa_cons (ae_add (ae_var (pv 3)) ae_int) aa_nil))))
    (as_cons (as_set (i := 5) sc_law.nd rfl (Or.inl rfl) (ae_tupOf rfl B.m_tuple (aa_cons (ae_lcv [("at", 8)] rfl rfl sc_law.nd (ai_of (ae_lstR rfl rfl B.m_list rfl B.m_range (ae_callD h__law_size (hr.mono (by decide)) rfl (aa_cons (ae_var (pv 2)) (aa_cons (ae_var (pv 3)) (aa_cons (ae_var (pv 4)) aa_nil)))))) (blkOk_by (own := [("at", 8)]) (N := sc_lawN) (sc := defScope s_law) (by decide +kernel)) (fun _ _ _ _ _ => pg_name (i := 8) sc_law.nd rfl (Or.inl rfl)) (fun _ _ _ _ _ => pts_none) (fun _ _ _ _ _ => (ae_callD h__law_row (hr.mono (by decide)) rfl (aa_cons (ae_var (pv 2)) (aa_cons (ae_var (pv 3)) (aa_cons (ae_var (pv 4)) (aa_cons (ae_var (pv 8)) aa_nil)))))) (agw_name (by decide))) aa_nil)))
    (as_cons (as_if (at_not (at_val (ae_callD h__law_same (hr.mono (by decide)) rfl (aa_cons (ae_callD h_rows_of_kind (hr.mono (by decide)) rfl (aa_cons (ae_var (pv 2)) (aa_cons (ae_var (pv 3)) (aa_cons (ae_var (pv 4)) aa_nil)))) (aa_cons (ae_var (pv 5)) aa_nil))))) (as_one (as_ret ae_bl)) as_nil)
    (as_cons (as_for PassesOwn.never rfl (ai_range1 rfl B.m_range (aa_cons ae_int aa_nil)) (ag_name (i := 6) sc_law.nd rfl (Or.inl rfl)) (as_one (as_if (at_not (at_val (ae_callD h__law_row_right (hr.mono (by decide)) rfl (aa_cons (ae_var (pv 1)) (aa_cons (ae_var (pv 2)) (aa_cons (ae_callD h__law_faces (hr.mono (by decide)) rfl (aa_cons (ae_var (pv 1)) (aa_cons (ae_var (pv 2)) (aa_cons (ae_callD h__law_pour (hr.mono (by decide)) rfl (aa_cons (ae_var (pv 1)) (aa_cons (ae_ix (ae_lst (aa_cons ae_int (aa_cons ae_int (aa_cons ae_int aa_nil)))) (ae_var (pv 6))) aa_nil))) aa_nil)))) aa_nil)))))) (as_one (as_ret ae_bl)) as_nil)))
    (as_cons (as_if (at_not (at_val (ae_callD h__law_counted (hr.mono (by decide)) rfl (aa_cons (ae_var (pv 2)) (aa_cons (ae_callD h__law_pour (hr.mono (by decide)) rfl (aa_cons (ae_var (pv 1)) (aa_cons ae_int aa_nil))) aa_nil))))) (as_one (as_ret ae_bl)) as_nil)
    (as_cons (as_if (at_eq hr.units (ae_callD h__law_pour (hr.mono (by decide)) rfl (aa_cons (ae_var (pv 1)) (aa_cons ae_int aa_nil))) ae_int) (as_cons (as_set (i := 2) sc_law.nd rfl (Or.inr rfl) (ae_callD h__law_die (hr.mono (by decide)) rfl (aa_cons (ae_var (pv 1)) (aa_cons ae_int aa_nil))))
    (as_one (as_if (at_w (aw_or (at_not (at_val (ae_callD h__law_row_right (hr.mono (by decide)) rfl (aa_cons (ae_var (pv 1)) (aa_cons (ae_var (pv 2)) (aa_cons (ae_callD h__law_faces (hr.mono (by decide)) rfl (aa_cons (ae_var (pv 1)) (aa_cons (ae_var (pv 2)) (aa_cons ae_int aa_nil)))) aa_nil)))))) (aw_or1 (at_not (at_val (ae_callD h__law_counted (hr.mono (by decide)) rfl (aa_cons (ae_var (pv 2)) (aa_cons ae_int aa_nil)))))))) (as_one (as_ret ae_bl)) as_nil))) as_nil)
    (as_cons (as_set (i := 7) sc_law.nd rfl (Or.inl rfl) (ae_tup (aa_cons (ae_callD h_row_bits (hr.mono (by decide)) rfl (aa_cons (ae_tup (aa_cons ae_int (aa_cons ae_int aa_nil))) (aa_cons (ae_tup (aa_cons ae_int (aa_cons ae_int (aa_cons ae_int aa_nil)))) aa_nil))) (aa_cons (ae_callD h_row_bits (hr.mono (by decide)) rfl (aa_cons (ae_tup (aa_cons ae_int (aa_cons ae_int aa_nil))) (aa_cons (ae_tup (aa_cons ae_int (aa_cons ae_int (aa_cons ae_int aa_nil)))) aa_nil))) (aa_cons (ae_callK hk_row_bits (hr.mono (by decide)) rfl (ak_cons (ae_tup (aa_cons ae_int (aa_cons ae_int (aa_cons ae_int aa_nil)))) (ak_cons (ae_tup (aa_cons ae_int (aa_cons ae_int aa_nil))) ak_nil))) aa_nil)))))
    (as_cons (as_if (at_not (at_val (ae_callD h__law_same (hr.mono (by decide)) rfl (aa_cons (ae_var (pv 7)) (aa_cons (ae_tup (aa_cons (ae_tup (aa_cons ae_int aa_nil)) (aa_cons (ae_tup (aa_cons ae_int aa_nil)) (aa_cons (ae_tup aa_nil) aa_nil)))) aa_nil))))) (as_one (as_ret ae_bl)) as_nil)
    (as_cons (as_set (i := 7) sc_law.nd rfl (Or.inl rfl) (ae_tup (aa_cons (ae_callD h_row_for_bits (hr.mono (by decide)) rfl (aa_cons (ae_tup (aa_cons ae_int (aa_cons ae_int aa_nil))) (aa_cons ae_int (aa_cons ae_int (aa_cons (ae_tup (aa_cons ae_int aa_nil)) aa_nil))))) (aa_cons (ae_callD h_row_for_bits (hr.mono (by decide)) rfl (aa_cons (ae_tup (aa_cons ae_int (aa_cons ae_int aa_nil))) (aa_cons ae_int (aa_cons ae_int (aa_cons (ae_tup (aa_cons ae_int (aa_cons ae_int aa_nil))) aa_nil))))) (aa_cons (ae_callD h_row_of_number (hr.mono (by decide)) rfl (aa_cons (ae_tup (aa_cons ae_int (aa_cons ae_int aa_nil))) (aa_cons ae_int (aa_cons ae_int (aa_cons ae_int aa_nil))))) aa_nil)))))
    (as_one (as_ret (ae_callD h__law_same (hr.mono (by decide)) rfl (aa_cons (ae_var (pv 7)) (aa_cons (ae_tup (aa_cons (ae_tup (aa_cons ae_int (aa_cons ae_int (aa_cons ae_int aa_nil)))) (aa_cons ae_non (aa_cons (ae_tup (aa_cons ae_int (aa_cons ae_int (aa_cons ae_int aa_nil)))) aa_nil)))) aa_nil))))))))))))))))))
end Q81

set_option Elab.async false
set_option linter.all false
set_option maxRecDepth 100000
set_option maxHeartbeats 4000000
namespace Q81
open PySem L2 PySem.Spec PyProof.Rows Zb Nm
abbrev nD (n : Nat) : D := .int (n : Int)
@[simp] theorem pus_nD : ∀ ns : List Nat, pus (ns.map nD) = true
  | [] => rfl
  | n :: ns => by simp [pus_nD ns]
theorem divOk_n {m : Nat} (h1 : 1 ≤ m) (h2 : m < 1048576) : divOk (m : Int) = true := Bd.divOk (by omega) (bd_small (by omega)) (by decide)
theorem divOk_1 {k : Nat} (h : k < 1000000) : divOk ((k : Int) + 1) = true := Bd.divOk (by omega) (bd_small (by omega)) (by decide)
theorem mul_C {n k : Nat} {j : Int} (hn : n ≤ 1000) (hj : j.natAbs < 1048576) : mulOk (C n k) j = true := (bdC n k).mulOk (bd_small hj) (by omega)
/-! ### choices -/
theorem run_choices (n k : Nat) (hn : n ≤ 1000) (hk : k ≤ 1000) : runB 4 den_choices [nD n, nD k] [] = .ok (nD (C n k)) [] := by
  by_cases h : n < k
  · have h' : (n : Int) < (k : Int) := by omega
    simp [den_choices, h, h', C_lt n k h]
  · have h' : ¬ (n : Int) < (k : Int) := by omega
    obtain ⟨m, hm, hm2, hC⟩ : ∃ m : Nat, (if (n : Int) - k < k then (n : Int) - k else (k : Int)) = (m : Int) ∧ m ≤ n ∧ C n m = C n k := by
      by_cases q : (n : Int) - k < k
      · exact ⟨n - k, by rw [if_pos q]; omega, by omega, C_symm n k (by omega)⟩
      · exact ⟨k, by rw [if_neg q], by omega, rfl⟩
    obtain ⟨g', l', e1, e2⟩ := for_inv (it := ⟨rng 0 m, none⟩) (gt := gN 3) (b := b1_choices) (fun i g l => l = [] ∧ i ≤ m ∧ ∃ x, g = [some (nD n), some (nD k), some (nD (C n i)), x]) (fun _ _ _ _ => trivial) (rng 0 m) 0 [some (nD n), some (nD k), some (.int 1), none] [] ⟨rfl, by omega, none, by simp⟩ (by
      rintro j d g l hj ⟨rfl, hi, x, rfl⟩
      obtain ⟨hj, rfl⟩ := rng_get hj
      refine ⟨_, rfl, ?_⟩
      have d1 : divOk ((j : Int) + 1) = true := divOk_1 (by omega)
      have d2 : mulOk (C n j) ((n : Int) - j) = true := mul_C hn (by omega)
      have d3 := C_next n j
      simp [b1_choices, Out.on, d1, d2, d3]
      omega)
    obtain ⟨rfl, _, x, rfl⟩ := e2
    rw [rng_length, Nat.zero_add] at e1
    have hmid : mid (m : Int) = true := by rw [mid_nat]; simp; omega
    simp [den_choices, h, h', hm, hmid, e1, hC]
theorem call_choices (n k : Nat) (hn : n ≤ 1000) (hk : k ≤ 1000) (l : Sto) : m_choices [nD n, nD k] l = .ok (nD (C n k)) l := callM_p (by simp) (run_choices n k hn hk) (by simp)
/-! ### power -/
theorem run_power (b T : Nat) (hb : b ≤ 5) (hT : T ≤ 1000) : runB 4 den_power [nD b, nD T] [] = .ok (nD (b ^ T)) [] := by
  have bd : ∀ e : Nat, Bd ((b : Int) ^ e) (3 * e + 1) := fun e => Bd.pow (by omega) e
  obtain ⟨g', l', e1, e2⟩ := while_inv (c := c1_power) (b := b2_power) (fun t g l => l = [] ∧ ∃ p q : Nat, p + q * t = T ∧ (0 < t → q ≤ T) ∧ g = [some (nD b), some (nD t), some (.int ((b : Int) ^ p)), some (.int ((b : Int) ^ q))])
    (fun g l => l = [] ∧ ∃ x, g = [some (nD b), some (nD 0), some (.int ((b : Int) ^ T)), x]) (by
      rintro t g l ⟨rfl, p, q, h1, h2, rfl⟩
      by_cases h0 : t = 0
      · subst h0
        left
        have : p = T := by omega
        subst this
        exact ⟨by simp [c1_power], rfl, _, rfl⟩
      · right
        have h0' : (0 : Int) < (t : Int) := by omega
        have hq := h2 (by omega)
        have hp : p ≤ T := by omega
        have m1 : mulOk ((b : Int) ^ p) ((b : Int) ^ q) = true := (bd p).mulOk (bd q) (by omega)
        have m2 : mulOk ((b : Int) ^ q) ((b : Int) ^ q) = true := (bd q).mulOk (bd q) (by omega)
        have d2 : divOk 2 = true := by decide
        have hsq : (b : Int) ^ q * (b : Int) ^ q = (b : Int) ^ (q + q) := (Int.pow_add _ _ _).symm
        have hpq : (b : Int) ^ p * (b : Int) ^ q = (b : Int) ^ (p + q) := (Int.pow_add _ _ _).symm
        obtain ⟨t2, ht2, et2⟩ : ∃ t2 : Nat, (t : Int) / 2 = (t2 : Int) ∧ t2 = t / 2 := ⟨t / 2, by omega, rfl⟩
        have hmul : q + q ≤ T ∨ t / 2 = 0 := by
          by_cases z : t / 2 = 0
          · exact .inr z
          · left
            have : q * 2 ≤ q * t := Nat.mul_le_mul_left _ (by omega)
            omega
        refine ⟨by simp [c1_power]; omega, ?_⟩
        rcases Nat.mod_two_eq_zero_or_one t with hm | hm
        · have hf : ¬ (t : Int).fmod 2 = 1 := by rw [Int.fmod_eq_emod_of_nonneg _ (by decide)]; omega
          have e : b2_power [some (nD b), some (nD t), some (.int ((b : Int) ^ p)), some (.int ((b : Int) ^ q))] [] = .nx [some (nD b), some (nD t2), some (.int ((b : Int) ^ p)), some (.int ((b : Int) ^ (q + q)))] [] := by simp [b2_power, hf, m2, d2, hsq, ht2]
          refine ⟨_, _, t2, e, by omega, rfl, p, q + q, ?_, fun z => by omega, rfl⟩
          rw [← h1, Nat.add_mul]
          have : t = t2 + t2 := by omega
          conv => rhs; rw [this, Nat.mul_add]
        · have hf : (t : Int).fmod 2 = 1 := by rw [Int.fmod_eq_emod_of_nonneg _ (by decide)]; omega
          have e : b2_power [some (nD b), some (nD t), some (.int ((b : Int) ^ p)), some (.int ((b : Int) ^ q))] [] = .nx [some (nD b), some (nD t2), some (.int ((b : Int) ^ (p + q))), some (.int ((b : Int) ^ (q + q)))] [] := by simp [b2_power, hf, m1, m2, d2, hsq, hpq, ht2]
          refine ⟨_, _, t2, e, by omega, rfl, p + q, q + q, ?_, fun z => by omega, rfl⟩
          rw [← h1, Nat.add_mul]
          have : t = t2 + t2 + 1 := by omega
          conv => rhs; rw [this, Nat.mul_add, Nat.mul_add]
          omega) fuel T [some (nD b), some (nD T), some (.int 1), some (nD b)] [] (by unfold fuel; omega) ⟨rfl, 0, 1, by omega, fun _ => by omega, by simp [Int.pow_succ]⟩
  obtain ⟨rfl, x, rfl⟩ := e2
  simp [den_power, e1]
theorem call_power (b T : Nat) (hb : b ≤ 5) (hT : T ≤ 1000) (l : Sto) : m_power [nD b, nD T] l = .ok (nD (b ^ T)) l := callM_p (by simp) (run_power b T hb hT) (by simp)
end Q81

set_option Elab.async false
set_option linter.all false
set_option maxRecDepth 100000
set_option maxHeartbeats 4000000
namespace Q81
open PySem L2 PySem.Spec PyProof.Rows Zb Nm
/-! ### dice -/
def wt (d : List Nat) (i : Nat) : Nat := d.getD i 0
def isH (d : List Nat) (i : Nat) : Bool := wt d i == wt d 0
def dieD (d : List Nat) : D := .tup (d.map nD)
def hvL (d : List Nat) : List Nat := (List.range d.length).filter (isH d)
def ltL (d : List Nat) : List Nat := (List.range d.length).filter fun i => !isH d i
def rr (d : List Nat) : Nat := (hvL d).length
def ss (d : List Nat) : Nat := (ltL d).length
def lw (d : List Nat) : Nat := match ltL d with
  | i :: _ => wt d i
  | [] => 1
structure DieOk (d : List Nat) : Prop where
  lo : 2 ≤ d.length
  hi : d.length ≤ 5
  w : ∀ x ∈ d, 1 ≤ x ∧ x ≤ 5
  two : ∃ b, ∀ x ∈ d, x = wt d 0 ∨ x = b
@[simp] theorem pu_die (d : List Nat) : pu (dieD d) = true := by simp [dieD]
theorem wt_mem {d : List Nat} {i : Nat} (h : i < d.length) : wt d i ∈ d := by
  unfold wt
  rw [List.getD_eq_getElem?_getD, List.getElem?_eq_getElem h]
  exact List.getElem_mem h
theorem die_ix {d : List Nat} {i : Nat} (h : i < d.length) : (d.map nD)[i]? = some (nD (wt d i)) := by
  rw [List.getElem?_map, List.getElem?_eq_getElem h]
  simp [wt, List.getD_eq_getElem?_getD, h]
theorem rs_len (d : List Nat) : rr d + ss d = d.length := by
  have key : ∀ (xs : List Nat) (p : Nat → Bool), (xs.filter p).length + (xs.filter fun i => !p i).length = xs.length := by
    intro xs p
    induction xs with
    | nil => rfl
    | cons x xs ih => cases h : p x <;> simp [h] <;> omega
  have := key (List.range d.length) (isH d)
  simpa [rr, ss, hvL, ltL] using this
theorem DieOk.r1 {d : List Nat} (h : DieOk d) : 1 ≤ rr d := by
  have hl := h.lo
  have : 0 ∈ hvL d := List.mem_filter.mpr ⟨List.mem_range.mpr (by omega), by simp [isH]⟩
  exact List.length_pos_of_mem this
theorem DieOk.r5 {d : List Nat} (h : DieOk d) : rr d ≤ 5 := by have := rs_len d; have := h.hi; omega
theorem DieOk.s5 {d : List Nat} (h : DieOk d) : ss d ≤ 5 := by have := rs_len d; have := h.hi; omega
theorem DieOk.wt {d : List Nat} (h : DieOk d) {i : Nat} (hi : i < d.length) : 1 ≤ wt d i ∧ wt d i ≤ 5 := h.w _ (wt_mem hi)
theorem lt_w {d : List Nat} (h : DieOk d) {i : Nat} (hi : i < d.length) (hh : isH d i = false) : wt d i = lw d := by
  obtain ⟨b, hb⟩ := h.two
  have n : ∀ j, j < d.length → isH d j = false → wt d j = b := fun j hj hz => by
    rcases hb _ (wt_mem hj) with q | q
    · simp [isH, q] at hz
    · exact q
  have hm : i ∈ ltL d := List.mem_filter.mpr ⟨List.mem_range.mpr hi, by simp [hh]⟩
  unfold lw
  cases e : ltL d with
  | nil => rw [e] at hm; cases hm
  | cons j js =>
    have hj : j ∈ ltL d := by rw [e]; simp
    obtain ⟨h1, h2⟩ := List.mem_filter.mp hj
    simp only
    rw [n i hi hh, n j (List.mem_range.mp h1) (by simpa using h2)]
theorem lw_ok {d : List Nat} (h : DieOk d) : 1 ≤ lw d ∧ lw d ≤ 5 := by
  unfold lw
  cases e : ltL d with
  | nil => simp
  | cons j js =>
    have hj : j ∈ ltL d := by rw [e]; simp
    exact h.wt (List.mem_range.mp (List.mem_filter.mp hj).1)
theorem enum_die (d : List Nat) : enumF 0 (d.map nD) = (List.range d.length).map fun i => D.tup [nD i, nD (wt d i)] := by
  rw [enumF_eq, List.length_map]
  refine List.map_congr_left fun i hi => ?_
  have := die_ix (List.mem_range.mp hi)
  rw [List.getD_eq_getElem?_getD, this]
  simp
section
variable {d : List Nat}
theorem die_0 (h : 2 ≤ d.length) : (d.map nD)[0]? = some (nD (wt d 0)) := die_ix (by omega)
theorem isH_eq (d : List Nat) (i : Nat) : decide ((wt d i : Int) = (wt d 0 : Int)) = isH d i := by
  unfold isH
  by_cases h : wt d i = wt d 0
  · simp [h]
  · have : ¬ (wt d i : Int) = (wt d 0 : Int) := by omega
    rw [decide_eq_false this]
    exact (beq_false_of_ne h).symm
theorem isH_ne (d : List Nat) (i : Nat) : (!decide ((wt d i : Int) = (wt d 0 : Int))) = !isH d i := by rw [isH_eq]
theorem lc_heavy (h : DieOk d) (l : Sto) (x0 : Option D) : lcL ⟨enumF 0 (d.map nD), none⟩ (gT [1, 2]) q2_heavy_faces e1_heavy_faces [some (dieD d), none, none] (enumF 0 (d.map nD)) l [] = .ok ((hvL d).map nD) l := by
  have h0 := die_0 h.lo
  have hh := h.hi
  conv => lhs; arg 6; rw [enum_die]
  rw [lcL_fmap (by trivial) (fun i => D.tup [nD i, nD (wt d i)]) nD (isH d) _ _ (fun i hi => ?_) (by simp; omega)]
  · rfl
  · refine ⟨[some (dieD d), some (nD i), some (nD (wt d i))], rfl, ?_, fun _ => by simp [e1_heavy_faces]⟩
    simp only [q2_heavy_faces, dieD]
    simp [h0, isH_eq]
theorem lc_light (h : DieOk d) (l : Sto) : lcL ⟨enumF 0 (d.map nD), none⟩ (gT [1, 2]) q2_light_faces e1_light_faces [some (dieD d), none, none] (enumF 0 (d.map nD)) l [] = .ok ((ltL d).map nD) l := by
  have h0 := die_0 h.lo
  have hh := h.hi
  conv => lhs; arg 6; rw [enum_die]
  rw [lcL_fmap (by trivial) (fun i => D.tup [nD i, nD (wt d i)]) nD (fun i => !isH d i) _ _ (fun i hi => ?_) (by simp; omega)]
  · rfl
  · refine ⟨[some (dieD d), some (nD i), some (nD (wt d i))], rfl, ?_, fun _ => by simp [e1_light_faces]⟩
    simp only [q2_light_faces, dieD]
    simp [h0, isH_ne]
theorem call_heavy (h : DieOk d) (l : Sto) : m_heavy_faces [dieD d] l = .ok (.tup ((hvL d).map nD)) l := by
  refine callM_p (junk := [.lst ((hvL d).map nD)]) (by simp) ?_ (by simp)
  have := lc_heavy h [] none
  simp only [dieD] at this ⊢
  simp [den_heavy_faces, this]
theorem call_light (h : DieOk d) (l : Sto) : m_light_faces [dieD d] l = .ok (.tup ((ltL d).map nD)) l := by
  refine callM_p (junk := [.lst ((ltL d).map nD)]) (by simp) ?_ (by simp)
  have := lc_light h []
  simp only [dieD] at this ⊢
  simp [den_light_faces, this]
theorem call_form (h : DieOk d) (l : Sto) : m_die_form [dieD d] l = .ok (.tup [nD (wt d 0), nD (rr d), nD (lw d), nD (ss d)]) l := by
  refine callM_p (junk := []) (by simp) ?_ (by simp)
  have h0 := die_0 h.lo
  have hr := rs_len d
  have e1 : (d.length : Int) - (ss d : Int) = (rr d : Int) := by omega
  have cl := fun l => call_light h l
  simp only [dieD] at cl ⊢
  cases e : ltL d with
  | nil =>
    have es : ss d = 0 := by simp [ss, e]
    have el : lw d = 1 := by simp [lw, e]
    rw [es] at e1
    rw [e] at cl
    simp at e1
    simp [den_die_form, cl, h0, e1, es, el]
  | cons i is =>
    have hi : i < d.length := by
      have : i ∈ ltL d := by rw [e]; simp
      exact List.mem_range.mp (List.mem_filter.mp this).1
    have es : ss d = is.length + 1 := by simp [ss, e]
    have el : lw d = wt d i := by simp [lw, e]
    have hix := die_ix hi
    rw [es] at e1
    rw [e] at cl
    have q0 : (0 : Int) < (is.length : Int) + 1 := by omega
    have e1' : (d.length : Int) - ((is.length : Int) + 1) = (rr d : Int) := by omega
    simp [den_die_form, cl, h0, e1', es, el, q0, hix]
end
end Q81

set_option Elab.async false
set_option linter.all false
set_option maxRecDepth 100000
set_option maxHeartbeats 4000000
namespace Q81
open PySem L2 PySem.Spec PyProof.Rows Zb Nm
theorem call_powerI (b T : Nat) (i : Int) (hi : i = T) (hb : b ≤ 5) (hT : T ≤ 1000) (l : Sto) : m_power [nD b, .int i] l = .ok (.int ((b : Int) ^ T)) l := by
  subst hi
  rw [← Int.natCast_pow]
  exact call_power b T hb hT l
theorem call_choicesI (n k : Nat) (i j : Int) (hi : i = n) (hj : j = k) (hn : n ≤ 1000) (hk : k ≤ 1000) (l : Sto) : m_choices [.int i, .int j] l = .ok (nD (C n k)) l := by
  subst hi; subst hj
  exact call_choices n k hn hk l
theorem bdp (b e : Nat) (hb : b ≤ 5) : Bd ((b : Int) ^ e) (3 * e + 1) := Bd.pow (by omega) e
def sizeN (d : List Nat) (n k : Nat) : Nat := C n k * rr d ^ k * ss d ^ (n - k)
def massN (d : List Nat) (n k : Nat) : Nat := wt d 0 ^ k * lw d ^ (n - k)
section
variable {d : List Nat}
theorem bd_size (h : DieOk d) (n k : Nat) (hk : k ≤ n) : Bd (sizeN d n k : Int) (4 * n + 3 * n + 10) := by
  have h1 := ((bdC n k).mul (bdp (rr d) k h.r5)).mul (bdp (ss d) (n - k) h.s5)
  have e : (sizeN d n k : Int) = (C n k : Int) * (rr d : Int) ^ k * (ss d : Int) ^ (n - k) := by simp [sizeN]
  rw [e]
  exact h1.mono (by omega)
theorem call_size (h : DieOk d) (n k : Nat) (hk : k ≤ n) (hn : n ≤ 400) (l : Sto) : m_kind_size [dieD d, nD n, nD k] l = .ok (nD (sizeN d n k)) l := by
  refine callM_p (junk := []) (by simp) ?_ (by simp)
  have c1 := fun l => call_form h l
  have c2 := fun l => call_choices n k (by omega) (by omega) l
  have c3 := fun l => call_powerI (rr d) k k rfl h.r5 (by omega) l
  have c4 := fun l => call_powerI (ss d) (n - k) ((n : Int) - k) (by omega) h.s5 (by omega) l
  have m1 : mulOk (C n k) ((rr d : Int) ^ k) = true := (bdC n k).mulOk (bdp _ k h.r5) (by omega)
  have m2 : mulOk ((C n k : Int) * (rr d : Int) ^ k) ((ss d : Int) ^ (n - k)) = true := ((bdC n k).mul (bdp _ k h.r5)).mulOk (bdp _ (n - k) h.s5) (by omega)
  simp [den_kind_size, c1, c2, c3, c4, m1, m2, sizeN]
/-! ### the law's own -/
theorem run_lpower (b T : Nat) (hb : b ≤ 5) (hT : T ≤ 1000) : runB 4 den__law_power [nD b, nD T] [] = .ok (nD (b ^ T)) [] := by
  obtain ⟨g', l', e1, e2⟩ := for_inv (it := ⟨rng 0 T, none⟩) (gt := gN 3) (b := b1__law_power) (fun i g l => l = [] ∧ i ≤ T ∧ ∃ x, g = [some (nD b), some (nD T), some (.int ((b : Int) ^ i)), x]) (fun _ _ _ _ => trivial) (rng 0 T) 0 [some (nD b), some (nD T), some (.int 1), none] [] ⟨rfl, by omega, none, by simp⟩ (by
    rintro j e g l hj ⟨rfl, hi, x, rfl⟩
    obtain ⟨hj, rfl⟩ := rng_get hj
    refine ⟨_, rfl, ?_⟩
    have d2 : mulOk ((b : Int) ^ j) b = true := (bdp b j hb).mulOk (bd_small (by omega)) (by omega)
    simp [b1__law_power, Out.on, d2, Int.pow_succ]
    omega)
  obtain ⟨rfl, _, x, rfl⟩ := e2
  rw [rng_length, Nat.zero_add] at e1
  have hmid : mid (T : Int) = true := by rw [mid_nat]; simp; omega
  simp [den__law_power, hmid, e1]
theorem call_lpowerI (b T : Nat) (i : Int) (hi : i = T) (hb : b ≤ 5) (hT : T ≤ 1000) (l : Sto) : m__law_power [nD b, .int i] l = .ok (.int ((b : Int) ^ T)) l := by
  subst hi
  rw [← Int.natCast_pow]
  exact callM_p (by simp) (run_lpower b T hb hT) (by simp)
theorem run_lchoose (n k : Nat) (hn : n ≤ 1000) (hk : k ≤ 1000) : runB 4 den__law_choose [nD n, nD k] [] = .ok (nD (C n k)) [] := by
  obtain ⟨g', l', e1, e2⟩ := for_inv (it := ⟨rng 0 k, none⟩) (gt := gN 3) (b := b1__law_choose) (fun i g l => l = [] ∧ i ≤ k ∧ ∃ x, g = [some (nD n), some (nD k), some (nD (C n i)), x]) (fun _ _ _ _ => trivial) (rng 0 k) 0 [some (nD n), some (nD k), some (.int 1), none] [] ⟨rfl, by omega, none, by simp⟩ (by
    rintro j e g l hj ⟨rfl, hi, x, rfl⟩
    obtain ⟨hj, rfl⟩ := rng_get hj
    refine ⟨_, rfl, ?_⟩
    have d1 : divOk ((j : Int) + 1) = true := divOk_1 (by omega)
    have d2 : mulOk (C n j) ((n : Int) - j) = true := mul_C hn (by omega)
    have d3 := C_next n j
    simp [b1__law_choose, Out.on, d1, d2, d3]
    omega)
  obtain ⟨rfl, _, x, rfl⟩ := e2
  rw [rng_length, Nat.zero_add] at e1
  have hmid : mid (k : Int) = true := by rw [mid_nat]; simp; omega
  by_cases q : k ≤ n
  · have q' : (k : Int) ≤ n := by omega
    simp [den__law_choose, hmid, e1, q, q']
  · have q' : ¬ (k : Int) ≤ n := by omega
    simp [den__law_choose, hmid, e1, q, q', C_lt n k (by omega)]
theorem call_lchooseI (n k : Nat) (i j : Int) (hi : i = n) (hj : j = k) (hn : n ≤ 1000) (hk : k ≤ 1000) (l : Sto) : m__law_choose [.int i, .int j] l = .ok (nD (C n k)) l := by
  subst hi; subst hj
  exact callM_p (by simp) (run_lchoose n k hn hk) (by simp)
def lightW (d : List Nat) : List Nat := d.filter fun x => !(x == wt d 0)
theorem range_wt (d : List Nat) : (List.range d.length).map (wt d) = d := by
  apply List.ext_getElem?
  intro i
  rw [List.getElem?_map]
  by_cases hi : i < d.length
  · rw [List.getElem?_range hi, List.getElem?_eq_getElem hi]; simp [wt, List.getD_eq_getElem?_getD, hi]
  · rw [List.getElem?_eq_none (by simp; omega), List.getElem?_eq_none (by omega)]; rfl
theorem lightW_eq (d : List Nat) : lightW d = (ltL d).map (wt d) := by
  conv => lhs; unfold lightW; arg 2; rw [← range_wt d]
  rw [List.filter_map]
  rfl
theorem lc_lform (h : DieOk d) (l : Sto) : lcL ⟨d.map nD, none⟩ (gN 2) q2__law_form e1__law_form [some (dieD d), none, none] (d.map nD) l [] = .ok ((lightW d).map nD) l := by
  have h0 := die_0 h.lo
  have hh := h.hi
  rw [lcL_fmap (by trivial) nD nD (fun x => !(x == wt d 0)) _ _ (fun x hx => ?_) (by simp; omega)]
  · rfl
  · refine ⟨[some (dieD d), none, some (nD x)], rfl, ?_, fun _ => by simp [e1__law_form]⟩
    have e : (!decide ((x : Int) = (wt d 0 : Int))) = !(x == wt d 0) := by
      by_cases q : x = wt d 0
      · simp [q]
      · have : ¬ (x : Int) = (wt d 0 : Int) := by omega
        rw [decide_eq_false this, beq_false_of_ne q]
    simp only [q2__law_form, dieD]
    simp [h0, e]
theorem call_lform (h : DieOk d) (l : Sto) : m__law_form [dieD d] l = .ok (.tup [nD (wt d 0), nD (rr d), nD (lw d), nD (ss d)]) l := by
  refine callM_p (junk := [.lst ((lightW d).map nD)]) (by simp) ?_ (by simp)
  have h0 := die_0 h.lo
  have hr := rs_len d
  have cl := fun l => lc_lform h l
  have el := lightW_eq d
  have e1 : (d.length : Int) - (ss d : Int) = (rr d : Int) := by omega
  simp only [dieD] at cl ⊢
  cases e : ltL d with
  | nil =>
    have es : ss d = 0 := by simp [ss, e]
    have el2 : lw d = 1 := by simp [lw, e]
    rw [e] at el
    simp only [List.map_nil] at el
    rw [el] at cl
    rw [es] at e1
    simp at e1
    simp at cl
    simp [den__law_form, cl, h0, e1, es, el, el2]
  | cons i is =>
    have es : ss d = is.length + 1 := by simp [ss, e]
    have el2 : lw d = wt d i := by simp [lw, e]
    rw [e] at el
    simp only [List.map_cons] at el
    rw [el] at cl
    rw [es] at e1
    have q0 : (0 : Int) < (is.length : Int) + 1 := by omega
    have e1' : (d.length : Int) - ((is.length : Int) + 1) = (rr d : Int) := by omega
    simp at cl
    simp [den__law_form, cl, h0, e1', es, el2, q0, el]
theorem call_lsizeI (h : DieOk d) (n k : Nat) (i j : Int) (hi : i = n) (hj : j = k) (hk : k ≤ n) (hn : n ≤ 400) (l : Sto) : m__law_size [dieD d, .int i, .int j] l = .ok (nD (sizeN d n k)) l := by
  subst hi; subst hj
  refine callM_p (junk := []) (by simp) ?_ (by simp)
  have c1 := fun l => call_lform h l
  have c2 := fun l => call_lchooseI n k n k rfl rfl (by omega) (by omega) l
  have c3 := fun l => call_lpowerI (rr d) k k rfl h.r5 (by omega) l
  have c4 := fun l => call_lpowerI (ss d) (n - k) ((n : Int) - k) (by omega) h.s5 (by omega) l
  have m1 : mulOk (C n k) ((rr d : Int) ^ k) = true := (bdC n k).mulOk (bdp _ k h.r5) (by omega)
  have m2 : mulOk ((C n k : Int) * (rr d : Int) ^ k) ((ss d : Int) ^ (n - k)) = true := ((bdC n k).mul (bdp _ k h.r5)).mulOk (bdp _ (n - k) h.s5) (by omega)
  simp [den__law_size, c1, c2, c3, c4, m1, m2, sizeN]
/-! ### rows -/
def rowD (fs : List Nat) : D := .tup (fs.map nD)
@[simp] theorem pu_row (fs : List Nat) : pu (rowD fs) = true := by simp [rowD]
def massF (d : List Nat) (fs : List Nat) : Nat := (fs.map (wt d)).foldl (· * ·) 1
def kindF (d : List Nat) (fs : List Nat) : Nat := (fs.filter (isH d)).length
def RowOk (d : List Nat) (fs : List Nat) : Prop := (∀ f ∈ fs, f < d.length) ∧ fs.length ≤ 400
theorem mass_snoc (d fs : List Nat) (f : Nat) : massF d (fs ++ [f]) = massF d fs * wt d f := by simp [massF]
theorem mass_le (h : DieOk d) : ∀ fs : List Nat, (∀ f ∈ fs, f < d.length) → massF d fs < 2 ^ (3 * fs.length + 1) := by
  have key : ∀ (fs : List Nat) (a e : Nat), (∀ f ∈ fs, f < d.length) → a < 2 ^ e → (fs.map (wt d)).foldl (· * ·) a < 2 ^ (3 * fs.length + e) := by
    intro fs
    induction fs with
    | nil => intro a e _ ha; simpa using ha
    | cons f fs ih =>
      intro a e hf ha
      have w := h.wt (hf f (by simp))
      have : a * wt d f < 2 ^ (e + 3) := by
        rw [Nat.pow_add]
        have : a * wt d f ≤ a * 5 := Nat.mul_le_mul_left _ w.2
        omega
      have := ih (a * wt d f) (e + 3) (fun g hg => hf g (by simp [hg])) this
      simp only [List.map_cons, List.foldl_cons, List.length_cons]
      rw [show 3 * (fs.length + 1) + e = 3 * fs.length + (e + 3) by omega]
      exact this
  intro fs hf
  exact key fs 1 1 hf (by decide)
theorem lc_kind (h : DieOk d) {fs : List Nat} (hf : RowOk d fs) (l : Sto) : lcL ⟨fs.map nD, none⟩ (gN 2) q2_row_kind e1_row_kind [some (dieD d), some (rowD fs), none] (fs.map nD) l [] = .ok ((fs.filter (isH d)).map nD) l := by
  have h0 := die_0 h.lo
  rw [lcL_fmap (by trivial) nD nD (isH d) _ _ (fun x hx => ?_) (by have := hf.2; simp; omega)]
  · rfl
  · refine ⟨[some (dieD d), some (rowD fs), some (nD x)], rfl, ?_, fun _ => by simp [e1_row_kind]⟩
    have hx2 := die_ix (hf.1 x hx)
    simp only [q2_row_kind, dieD]
    simp [h0, hx2, isH_eq]
theorem lc_lkind (h : DieOk d) {fs : List Nat} (hf : RowOk d fs) (l : Sto) : lcL ⟨fs.map nD, none⟩ (gN 2) q2__law_kind e1__law_kind [some (dieD d), some (rowD fs), none] (fs.map nD) l [] = .ok ((fs.filter (isH d)).map nD) l := lc_kind h hf l
theorem call_rkind (h : DieOk d) {fs : List Nat} (hf : RowOk d fs) (l : Sto) : m_row_kind [dieD d, rowD fs] l = .ok (nD (kindF d fs)) l := by
  refine callM_p (junk := [.lst ((fs.filter (isH d)).map nD)]) (by simp) ?_ (by simp)
  have cl := fun l => lc_kind h hf l
  simp only [dieD, rowD] at cl ⊢
  simp [den_row_kind, cl, kindF]
theorem call_lkind (h : DieOk d) {fs : List Nat} (hf : RowOk d fs) (l : Sto) : m__law_kind [dieD d, rowD fs] l = .ok (nD (kindF d fs)) l := call_rkind h hf l
theorem mass_loop (h : DieOk d) {fs : List Nat} (hf : RowOk d fs) : ∃ x, sForL ⟨fs.map nD, none⟩ (gN 3) b1_row_mass (fs.map nD) [some (dieD d), some (rowD fs), some (.int 1), none] [] = .nx [some (dieD d), some (rowD fs), some (nD (massF d fs)), x] [] := by
  obtain ⟨g', l', e1, e2⟩ := for_inv (it := ⟨fs.map nD, none⟩) (gt := gN 3) (b := b1_row_mass) (fun i g l => l = [] ∧ ∃ x, g = [some (dieD d), some (rowD fs), some (nD (massF d (fs.take i))), x]) (fun _ _ _ _ => trivial) (fs.map nD) 0 [some (dieD d), some (rowD fs), some (.int 1), none] [] ⟨rfl, none, by simp [massF]⟩ (by
    rintro j e g l hj ⟨rfl, x, rfl⟩
    rw [List.getElem?_map] at hj
    cases q : fs[j]? with
    | none => rw [q] at hj; cases hj
    | some f =>
      rw [q] at hj
      cases hj
      have hfm := hf.1 f (List.mem_of_getElem? q)
      have hx2 := die_ix hfm
      refine ⟨_, rfl, ?_⟩
      rw [Nat.zero_add, List.take_add_one, q]
      have hb := mass_le h (fs.take j) fun f hf2 => hf.1 f (List.mem_of_mem_take hf2)
      have hlen : (fs.take j).length ≤ 400 := Nat.le_trans (by simp; omega) hf.2
      have m1 : mulOk (massF d (fs.take j)) (wt d f) = true := (Bd.nat hb).mulOk (bd_small (by have := (h.wt hfm).2; omega)) (by omega)
      simp only [b1_row_mass, dieD]
      simp [hx2, m1, Out.on, mass_snoc])
  obtain ⟨rfl, x, rfl⟩ := e2
  rw [Nat.zero_add, List.length_map, List.take_length] at e1
  exact ⟨x, e1⟩
theorem call_mass (h : DieOk d) {fs : List Nat} (hf : RowOk d fs) (l : Sto) : m_row_mass [dieD d, rowD fs] l = .ok (nD (massF d fs)) l := by
  refine callM_p (junk := []) (by simp) ?_ (by simp)
  obtain ⟨x, e⟩ := mass_loop h hf
  simp only [dieD, rowD] at e ⊢
  simp [den_row_mass, e]
theorem call_lmass (h : DieOk d) {fs : List Nat} (hf : RowOk d fs) (l : Sto) : m__law_mass [dieD d, rowD fs] l = .ok (nD (massF d fs)) l := call_mass h hf l
end
end Q81

set_option Elab.async false
set_option linter.all false
set_option maxRecDepth 100000
set_option maxHeartbeats 1000000
namespace Q81
open Nm
/-! ### numbers of rows: plain -/
def rank (d : List Nat) (f : Nat) : Nat := ((List.range f).filter fun o => wt d o == wt d f).length
abbrev S4 := Nat × Nat × Nat × Nat
def step (d : List Nat) (t : S4) (f : Nat) : S4 := if isH d f then (t.1 + 1, t.2.1 + 1, t.2.2.1 + C t.1 (t.2.1 + 1), t.2.2.2 * rr d + rank d f) else (t.1 + 1, t.2.1, t.2.2.1, t.2.2.2 * ss d + rank d f)
def enc (d : List Nat) (fs : List Nat) : S4 := fs.foldl (step d) (0, 0, 0, 0)
theorem enc_snoc (d fs : List Nat) (f : Nat) : enc d (fs ++ [f]) = step d (enc d fs) f := by simp [enc]
theorem kind_snoc (d fs : List Nat) (f : Nat) : kindF d (fs ++ [f]) = kindF d fs + (if isH d f then 1 else 0) := by
  unfold kindF
  rw [List.filter_append, List.length_append]
  cases h : isH d f <;> simp [h]
theorem snoc_ind {α : Type} {P : List α → Prop} (h0 : P []) (h1 : ∀ xs x, P xs → P (xs ++ [x])) : ∀ xs, P xs := by
  intro xs
  have : ∀ n (xs : List α), xs.length = n → P xs := by
    intro n
    induction n with
    | zero => intro xs h; rw [List.eq_nil_of_length_eq_zero h]; exact h0
    | succ n ih =>
      intro xs h
      rcases List.eq_nil_or_concat xs with rfl | ⟨ys, y, rfl⟩
      · simp at h
      · rw [List.concat_eq_append] at h ⊢
        exact h1 ys y (ih ys (by simpa using h))
  exact this _ xs rfl
theorem enc_nk (d : List Nat) : ∀ fs, (enc d fs).1 = fs.length ∧ (enc d fs).2.1 = kindF d fs := by
  refine snoc_ind ⟨rfl, rfl⟩ fun fs f ih => ?_
  rw [enc_snoc, kind_snoc]
  unfold step
  cases h : isH d f <;> simp [ih]
theorem kind_le (d fs : List Nat) : kindF d fs ≤ fs.length := List.length_filter_le _ _
/-! ranks -/
theorem filt_get (p : Nat → Bool) {i n : Nat} (hi : i < n) (hp : p i = true) : ((List.range n).filter p)[((List.range i).filter p).length]? = some i := by
  obtain ⟨m, rfl⟩ : ∃ m, n = i + (m + 1) := ⟨n - i - 1, by omega⟩
  have e : List.range (i + (m + 1)) = List.range i ++ i :: List.range' (i + 1) m := by
    rw [List.range_eq_range', List.range_eq_range', ← List.range'_append_1, List.range'_succ]
    simp
  rw [e, List.filter_append, List.filter_cons_of_pos (by exact hp), List.getElem?_append_right (Nat.le_refl _), Nat.sub_self]
  rfl
theorem rank_h {d : List Nat} {f : Nat} (hh : isH d f = true) : rank d f = ((List.range f).filter (isH d)).length := by
  unfold rank
  congr 1
  apply List.filter_congr
  intro o _
  have : wt d f = wt d 0 := by simpa [isH] using hh
  simp [isH, this]
theorem rank_l {d : List Nat} (ok : DieOk d) {f : Nat} (hf : f < d.length) (hh : isH d f = false) : rank d f = ((List.range f).filter fun o => !isH d o).length := by
  unfold rank
  congr 1
  apply List.filter_congr
  intro o ho
  have hol : o < d.length := Nat.lt_trans (List.mem_range.mp ho) hf
  have e1 := lt_w ok hf hh
  have hne : wt d f ≠ wt d 0 := by simpa [isH] using hh
  cases q : isH d o with
  | true =>
    have : wt d o = wt d 0 := by simpa [isH] using q
    simp [this]
    exact fun z => hne z.symm
  | false =>
    have e2 := lt_w ok hol q
    simp [e1, e2]
theorem hv_rank {d : List Nat} {f : Nat} (hf : f < d.length) (hh : isH d f = true) : (hvL d)[rank d f]? = some f := by
  rw [rank_h hh]
  exact filt_get (isH d) hf hh
theorem lt_rank {d : List Nat} (ok : DieOk d) {f : Nat} (hf : f < d.length) (hh : isH d f = false) : (ltL d)[rank d f]? = some f := by
  rw [rank_l ok hf hh]
  exact filt_get (fun o => !isH d o) hf (by simp [hh])
theorem rank_lt_r {d : List Nat} {f : Nat} (hf : f < d.length) (hh : isH d f = true) : rank d f < rr d := (List.getElem?_eq_some_iff.mp (hv_rank hf hh)).1
theorem rank_lt_s {d : List Nat} (ok : DieOk d) {f : Nat} (hf : f < d.length) (hh : isH d f = false) : rank d f < ss d := (List.getElem?_eq_some_iff.mp (lt_rank ok hf hh)).1
theorem nodup_get {xs : List Nat} (h : xs.Nodup) {i j x : Nat} (hi : xs[i]? = some x) (hj : xs[j]? = some x) : i = j := by
  obtain ⟨b1, e1⟩ := List.getElem?_eq_some_iff.mp hi
  obtain ⟨b2, e2⟩ := List.getElem?_eq_some_iff.mp hj
  exact (List.getElem_inj h).mp (e1.trans e2.symm)
theorem hv_nodup (d : List Nat) : (hvL d).Nodup := List.Pairwise.filter _ List.nodup_range
theorem lt_nodup (d : List Nat) : (ltL d).Nodup := List.Pairwise.filter _ List.nodup_range
theorem hv_at {d : List Nat} {j : Nat} (hj : j < rr d) : ∃ f, (hvL d)[j]? = some f ∧ f < d.length ∧ isH d f = true ∧ rank d f = j := by
  have e := List.getElem?_eq_getElem (l := hvL d) hj
  have hm := List.mem_filter.mp (List.mem_of_getElem? e)
  have h1 := List.mem_range.mp hm.1
  refine ⟨_, e, h1, hm.2, ?_⟩
  exact nodup_get (hv_nodup d) (hv_rank h1 hm.2) e
theorem lt_at {d : List Nat} (ok : DieOk d) {j : Nat} (hj : j < ss d) : ∃ f, (ltL d)[j]? = some f ∧ f < d.length ∧ isH d f = false ∧ rank d f = j := by
  have e := List.getElem?_eq_getElem (l := ltL d) hj
  have hm := List.mem_filter.mp (List.mem_of_getElem? e)
  have h1 := List.mem_range.mp hm.1
  have h2 : isH d (ltL d)[j] = false := by simpa using hm.2
  refine ⟨_, e, h1, h2, ?_⟩
  exact nodup_get (lt_nodup d) (lt_rank ok h1 h2) e
/-! what is well told -/
def W (d : List Nat) (n k : Nat) : Nat := rr d ^ k * ss d ^ (n - k)
structure Val (d : List Nat) (n k P L : Nat) : Prop where
  p : P < C n k
  l : L < W d n k
theorem Val.kn {d : List Nat} {n k P L : Nat} (h : Val d n k P L) : k ≤ n := by
  have := h.p
  by_cases q : k ≤ n
  · exact q
  · rw [C_lt n k (by omega)] at this; omega
theorem mul_lt {L r W q : Nat} (hL : L < W) (hq : q < r) : L * r + q < W * r := by
  have : (L + 1) * r ≤ W * r := Nat.mul_le_mul_right _ hL
  rw [Nat.add_mul] at this
  omega
theorem W_h (d : List Nat) (n k : Nat) : W d (n + 1) (k + 1) = W d n k * rr d := by
  unfold W
  rw [Nat.pow_succ, show n + 1 - (k + 1) = n - k by omega, Nat.mul_assoc, Nat.mul_comm (rr d), ← Nat.mul_assoc]
theorem W_l (d : List Nat) (n k : Nat) (h : k ≤ n) : W d (n + 1) k = W d n k * ss d := by
  unfold W
  rw [show n + 1 - k = n - k + 1 by omega, Nat.pow_succ, Nat.mul_assoc]
theorem enc_val {d : List Nat} (ok : DieOk d) : ∀ fs, (∀ f ∈ fs, f < d.length) → Val d fs.length (kindF d fs) (enc d fs).2.2.1 (enc d fs).2.2.2 := by
  refine snoc_ind (fun _ => ⟨by simp [enc, kindF], by simp [enc, kindF, W]⟩) fun fs f ih hf => ?_
  have hv := ih fun g hg => hf g (by simp [hg])
  have hfl := hf f (by simp)
  have kn := hv.kn
  obtain ⟨n1, n2⟩ := enc_nk d fs
  rw [enc_snoc, kind_snoc, List.length_append]
  unfold step
  rw [n1, n2]
  cases hh : isH d f with
  | true =>
    simp only [if_true, List.length_singleton]
    refine ⟨?_, ?_⟩
    · rw [C_s]; have := hv.p; omega
    · rw [W_h]; exact mul_lt hv.l (rank_lt_r hfl hh)
  | false =>
    simp only [Bool.false_eq_true, if_false, List.length_singleton, Nat.add_zero]
    refine ⟨?_, ?_⟩
    · cases h0 : kindF d fs with
      | zero => have := hv.p; rw [h0] at this; simpa using this
      | succ k => rw [C_s]; have := hv.p; rw [h0] at this; omega
    · rw [W_l d _ _ kn]; exact mul_lt hv.l (rank_lt_s ok hfl hh)
/-! from behind -/
def dec (d : List Nat) : Nat → Nat → Nat → Nat → List Nat
  | 0, _, _, _ => []
  | n + 1, k, P, L => if 0 < k ∧ C n k ≤ P then dec d n (k - 1) (P - C n k) (L / rr d) ++ [(hvL d).getD (L % rr d) 0] else dec d n k P (L / ss d) ++ [(ltL d).getD (L % ss d) 0]
theorem div_mul_add {a b c : Nat} (h : c < b) : (a * b + c) / b = a ∧ (a * b + c) % b = c := by
  have hb : 0 < b := by omega
  constructor
  · rw [Nat.mul_comm, Nat.mul_add_div hb, Nat.div_eq_of_lt h]; rfl
  · rw [Nat.mul_comm, Nat.mul_add_mod, Nat.mod_eq_of_lt h]
theorem dec_enc {d : List Nat} (ok : DieOk d) : ∀ fs, (∀ f ∈ fs, f < d.length) → dec d fs.length (kindF d fs) (enc d fs).2.2.1 (enc d fs).2.2.2 = fs := by
  refine snoc_ind (fun _ => rfl) fun fs f ih hf => ?_
  have hf' : ∀ g ∈ fs, g < d.length := fun g hg => hf g (by simp [hg])
  have hfl := hf f (by simp)
  have hv := enc_val ok fs hf'
  obtain ⟨n1, n2⟩ := enc_nk d fs
  rw [enc_snoc, kind_snoc, List.length_append]
  unfold step
  rw [n1, n2]
  cases hh : isH d f with
  | true =>
    simp only [if_true, List.length_singleton, dec]
    have e1 : 0 < kindF d fs + 1 ∧ C fs.length (kindF d fs + 1) ≤ (enc d fs).2.2.1 + C fs.length (kindF d fs + 1) := ⟨by omega, by omega⟩
    rw [if_pos e1]
    obtain ⟨q1, q2⟩ := div_mul_add (a := (enc d fs).2.2.2) (rank_lt_r hfl hh)
    rw [q1, q2, Nat.add_sub_cancel, Nat.add_sub_cancel, ih hf', List.getD_eq_getElem?_getD, hv_rank hfl hh]
    rfl
  | false =>
    simp only [Bool.false_eq_true, if_false, List.length_singleton, Nat.add_zero, dec]
    have e1 : ¬ (0 < kindF d fs ∧ C fs.length (kindF d fs) ≤ (enc d fs).2.2.1) := by have := hv.p; omega
    rw [if_neg e1]
    obtain ⟨q1, q2⟩ := div_mul_add (a := (enc d fs).2.2.2) (rank_lt_s ok hfl hh)
    rw [q1, q2, ih hf', List.getD_eq_getElem?_getD, lt_rank ok hfl hh]
    rfl
theorem enc_dec {d : List Nat} (ok : DieOk d) : ∀ n k P L, Val d n k P L → enc d (dec d n k P L) = (n, k, P, L) ∧ (∀ f ∈ dec d n k P L, f < d.length) ∧ (dec d n k P L).length = n
  | 0, k, P, L, h => by
    have hk : k = 0 := by have := h.kn; omega
    subst hk
    have h1 := h.p
    have h2 := h.l
    simp [W] at h1 h2
    subst h1
    subst h2
    exact ⟨rfl, by simp [dec], rfl⟩
  | n + 1, k, P, L, h => by
    have hr := ok.r1
    by_cases c : 0 < k ∧ C n k ≤ P
    · obtain ⟨k, rfl⟩ : ∃ j, k = j + 1 := ⟨k - 1, by omega⟩
      have hp := h.p
      have hl := h.l
      rw [C_s] at hp
      rw [W_h] at hl
      have hv : Val d n k (P - C n (k + 1)) (L / rr d) := ⟨by omega, Nat.div_lt_of_lt_mul (by rw [Nat.mul_comm]; exact hl)⟩
      obtain ⟨e1, e2, e3⟩ := enc_dec ok n k _ _ hv
      obtain ⟨f, f1, f2, f3, f4⟩ := hv_at (d := d) (j := L % rr d) (Nat.mod_lt _ (by omega))
      simp only [dec, if_pos c, Nat.add_sub_cancel]
      rw [List.getD_eq_getElem?_getD, f1, Option.getD_some, enc_snoc, e1]
      refine ⟨?_, ?_, by simp [e3]⟩
      · unfold step
        rw [if_pos f3, f4]
        simp only
        rw [Nat.sub_add_cancel c.2, Nat.mul_comm (L / rr d), Nat.div_add_mod]
      · intro g hg
        rcases List.mem_append.mp hg with hg | hg
        · exact e2 g hg
        · simp at hg; subst hg; exact f2
    · have hp := h.p
      have hl := h.l
      have kn := h.kn
      have hpn : P < C n k := by
        by_cases h0 : k = 0
        · subst h0; simpa using hp
        · omega
      have kn2 : k ≤ n := by
        by_cases q : k ≤ n
        · exact q
        · rw [C_lt n k (by omega)] at hpn; omega
      rw [W_l d n k kn2] at hl
      have hs : 0 < ss d := by
        rcases Nat.eq_zero_or_pos (ss d) with z | z
        · rw [z] at hl; omega
        · exact z
      have hv : Val d n k P (L / ss d) := ⟨hpn, Nat.div_lt_of_lt_mul (by rw [Nat.mul_comm]; exact hl)⟩
      obtain ⟨e1, e2, e3⟩ := enc_dec ok n k _ _ hv
      obtain ⟨f, f1, f2, f3, f4⟩ := lt_at ok (j := L % ss d) (Nat.mod_lt _ hs)
      simp only [dec, if_neg c]
      rw [List.getD_eq_getElem?_getD, f1, Option.getD_some, enc_snoc, e1]
      refine ⟨?_, ?_, by simp [e3]⟩
      · unfold step
        rw [if_neg (by rw [f3]; simp), f4]
        simp only
        rw [Nat.mul_comm (L / ss d), Nat.div_add_mod]
      · intro g hg
        rcases List.mem_append.mp hg with hg | hg
        · exact e2 g hg
        · simp at hg; subst hg; exact f2
/-! numbers -/
def numN (d fs : List Nat) : Nat := (enc d fs).2.2.1 * W d fs.length (kindF d fs) + (enc d fs).2.2.2
def rowN (d : List Nat) (n k x : Nat) : List Nat := dec d n k (x / W d n k) (x % W d n k)
theorem size_W (d : List Nat) (n k : Nat) : sizeN d n k = C n k * W d n k := by unfold sizeN W; rw [Nat.mul_assoc]
theorem num_lt {d : List Nat} (ok : DieOk d) (fs : List Nat) (hf : ∀ f ∈ fs, f < d.length) : numN d fs < sizeN d fs.length (kindF d fs) := by
  have h := enc_val ok fs hf
  rw [size_W]
  exact mul_lt h.p h.l
theorem row_num {d : List Nat} (ok : DieOk d) (fs : List Nat) (hf : ∀ f ∈ fs, f < d.length) : rowN d fs.length (kindF d fs) (numN d fs) = fs := by
  have h := enc_val ok fs hf
  unfold rowN numN
  obtain ⟨q1, q2⟩ := div_mul_add (a := (enc d fs).2.2.1) h.l
  rw [q1, q2]
  exact dec_enc ok fs hf
theorem val_of {d : List Nat} {n k x : Nat} (h : x < sizeN d n k) : Val d n k (x / W d n k) (x % W d n k) := by
  rw [size_W] at h
  have hW : 0 < W d n k := by
    rcases Nat.eq_zero_or_pos (W d n k) with z | z
    · rw [z] at h; omega
    · exact z
  exact ⟨Nat.div_lt_of_lt_mul (by rw [Nat.mul_comm]; exact h), Nat.mod_lt _ hW⟩
theorem num_row {d : List Nat} (ok : DieOk d) {n k x : Nat} (h : x < sizeN d n k) : numN d (rowN d n k x) = x ∧ (∀ f ∈ rowN d n k x, f < d.length) ∧ (rowN d n k x).length = n ∧ kindF d (rowN d n k x) = k := by
  obtain ⟨e1, e2, e3⟩ := enc_dec ok n k _ _ (val_of h)
  have e4 : kindF d (rowN d n k x) = k := by
    have := (enc_nk d (rowN d n k x)).2
    unfold rowN at this ⊢
    rw [e1] at this
    exact this.symm
  refine ⟨?_, e2, e3, e4⟩
  unfold numN
  rw [e4]
  unfold rowN
  rw [e1, e3]
  simp only
  rw [Nat.mul_comm, Nat.div_add_mod]
end Q81

set_option Elab.async false
set_option linter.all false
set_option maxRecDepth 100000
set_option maxHeartbeats 4000000
namespace Q81
open PySem L2 PySem.Spec PyProof.Rows Zb Nm
section
variable {d : List Nat}
/-! ### the numbers of rows: runs -/
theorem call_isH (h : DieOk d) {f : Nat} (hf : f < d.length) (l : Sto) : m_is_heavy [dieD d, nD f] l = .ok (.bl (isH d f)) l := by
  refine callM_p (junk := []) (by simp) ?_ (by simp)
  have h0 := die_0 h.lo
  have hx := die_ix hf
  simp only [dieD]
  simp [den_is_heavy, h0, hx, isH_eq]
theorem lc_place (h : DieOk d) {f : Nat} (hf : f < d.length) (l : Sto) : lcL ⟨rng 0 f, none⟩ (gN 2) q2_face_place e1_face_place [some (dieD d), some (nD f), none] (rng 0 f) l [] = .ok (((List.range f).filter fun o => wt d o == wt d f).map nD) l := by
  have hh := h.hi
  conv => lhs; arg 6; rw [rng_eq]
  rw [lcL_fmap (by trivial) (fun i => nD i) nD (fun o => wt d o == wt d f) _ _ (fun o ho => ?_) (by simp; omega)]
  · rfl
  · have ho' := List.mem_range.mp ho
    have hx := die_ix hf
    have ho2 := die_ix (d := d) (i := o) (by omega)
    refine ⟨[some (dieD d), some (nD f), some (nD o)], rfl, ?_, fun _ => by simp [e1_face_place]⟩
    have e : decide ((wt d o : Int) = (wt d f : Int)) = (wt d o == wt d f) := by
      by_cases q : wt d o = wt d f
      · simp [q]
      · have : ¬ (wt d o : Int) = (wt d f : Int) := by omega
        rw [decide_eq_false this, beq_false_of_ne q]
    simp only [q2_face_place, dieD]
    simp [hx, ho2, e]
theorem call_place (h : DieOk d) {f : Nat} (hf : f < d.length) (l : Sto) : m_face_place [dieD d, nD f] l = .ok (nD (rank d f)) l := by
  refine callM_p (junk := [.lst (((List.range f).filter fun o => wt d o == wt d f).map nD)]) (by simp) ?_ (by simp)
  have cl := fun l => lc_place h hf l
  have hh := h.hi
  have hm : mid (f : Int) = true := by rw [mid_nat]; simp; omega
  simp only [dieD] at cl ⊢
  simp [den_face_place, cl, hm, rank]
theorem bdW (h : DieOk d) (n k : Nat) (hk : k ≤ n) : Bd (W d n k : Int) (3 * n + 2) := by
  have := (bdp (rr d) k h.r5).mul (bdp (ss d) (n - k) h.s5)
  have e : (W d n k : Int) = (rr d : Int) ^ k * (ss d : Int) ^ (n - k) := by simp [W]
  rw [e]
  exact this.mono (by omega)
theorem bd_lt {x y a : Nat} (h : x < y) (k : Bd (y : Int) a) : Bd (x : Int) a := by
  unfold Bd at *
  rw [Int.natAbs_natCast] at *
  omega
theorem take_snoc {α : Type} {xs : List α} {j : Nat} {x : α} (h : xs[j]? = some x) : xs.take (j + 1) = xs.take j ++ [x] := by rw [List.take_add_one, h]; rfl
theorem enum_row (fs : List Nat) : enumF 0 (fs.map nD) = (List.range fs.length).map fun i => D.tup [nD i, nD (fs.getD i 0)] := by
  rw [enumF_eq, List.length_map]
  refine List.map_congr_left fun i hi => ?_
  have := List.mem_range.mp hi
  rw [List.getD_eq_getElem?_getD, List.getElem?_map, List.getElem?_eq_getElem this]
  simp [List.getD_eq_getElem?_getD, this]
theorem enum_get {fs : List Nat} {j : Nat} {e : D} (h : (enumF 0 (fs.map nD))[j]? = some e) : ∃ f, fs[j]? = some f ∧ e = .tup [nD j, nD f] := by
  rw [enumF_get, List.getElem?_map] at h
  cases q : fs[j]? with
  | none => rw [q] at h; cases h
  | some f =>
    rw [q] at h
    simp at h
    exact ⟨f, rfl, h.symm⟩
structure Pre (d fs : List Nat) (k P L : Nat) : Prop where
  e : enc d fs = (fs.length, k, P, L)
  v : Val d fs.length k P L
theorem pre_of (h : DieOk d) (fs : List Nat) (hf : ∀ f ∈ fs, f < d.length) : ∃ k P L, Pre d fs k P L := by
  obtain ⟨n1, n2⟩ := enc_nk d fs
  refine ⟨kindF d fs, (enc d fs).2.2.1, (enc d fs).2.2.2, ?_, enc_val h fs hf⟩
  rw [← n1, ← n2]
theorem num_pre {fs : List Nat} {k P L : Nat} (p : Pre d fs k P L) : numN d fs = P * W d fs.length k + L ∧ kindF d fs = k := by
  have hk : kindF d fs = k := by rw [← (enc_nk d fs).2, p.e]
  exact ⟨by unfold numN; rw [hk, p.e], hk⟩
theorem loop_num (h : DieOk d) {fs : List Nat} (hf : RowOk d fs) : ∃ k P L x y, Pre d fs k P L ∧ sForL ⟨enumF 0 (fs.map nD), none⟩ (gT [9, 10]) b1_row_number (enumF 0 (fs.map nD)) [some (dieD d), some (rowD fs), some (nD (wt d 0)), some (nD (rr d)), some (nD (lw d)), some (nD (ss d)), some (.int 0), some (.int 0), some (.int 0), none, none] [] =
    .nx [some (dieD d), some (rowD fs), some (nD (wt d 0)), some (nD (rr d)), some (nD (lw d)), some (nD (ss d)), some (nD k), some (nD P), some (nD L), x, y] [] := by
  have hr5 := h.r5
  have hs5 := h.s5
  obtain ⟨g', l', e1, e2⟩ := for_inv (it := ⟨enumF 0 (fs.map nD), none⟩) (gt := gT [9, 10]) (b := b1_row_number) (fun i g l => l = [] ∧ ∃ k P L x y, Pre d (fs.take i) k P L ∧ g = [some (dieD d), some (rowD fs), some (nD (wt d 0)), some (nD (rr d)), some (nD (lw d)), some (nD (ss d)), some (nD k), some (nD P), some (nD L), x, y])
    (fun _ _ _ _ => trivial) (enumF 0 (fs.map nD)) 0 [some (dieD d), some (rowD fs), some (nD (wt d 0)), some (nD (rr d)), some (nD (lw d)), some (nD (ss d)), some (.int 0), some (.int 0), some (.int 0), none, none] [] ⟨rfl, 0, 0, 0, none, none, ⟨by simp [enc], ⟨by simp, by simp [W]⟩⟩, rfl⟩ (by
      rintro j e g l hj ⟨rfl, k, P, L, x, y, hp, rfl⟩
      obtain ⟨f, hj2, he⟩ := enum_get hj
      subst he
      clear hj
      have hj := hj2
      rw [Nat.zero_add] at hp ⊢
      have hfm := hf.1 f (List.mem_of_getElem? hj)
      have hjl : j < fs.length := (List.getElem?_eq_some_iff.mp hj).1
      have h4 := hf.2
      have tl : (fs.take j).length = j := by simp; omega
      have kn := hp.v.kn
      rw [tl] at kn
      have c1 := fun l => call_isH h hfm l
      have c2 := fun l => call_choicesI j (k + 1) j ((k : Int) + 1) rfl (by omega) (by omega) (by omega) l
      have c3 := fun l => call_place h hfm l
      have bL : Bd (L : Int) 2000 := by
        have := bd_lt hp.v.l (bdW h _ _ hp.v.kn)
        exact this.mono (by rw [tl]; omega)
      have m1 : mulOk (L : Int) (rr d) = true := bL.mulOk (bd_small (by omega)) (by omega)
      have m2 : mulOk (L : Int) (ss d) = true := bL.mulOk (bd_small (by omega)) (by omega)
      have sn := take_snoc hj
      have hfs : ∀ g ∈ fs.take (j + 1), g < d.length := fun g hg => hf.1 g (List.mem_of_mem_take hg)
      have ev := enc_val h _ hfs
      refine ⟨_, rfl, ?_⟩
      cases hh : isH d f with
      | true =>
        have e : enc d (fs.take (j + 1)) = (j + 1, k + 1, P + C j (k + 1), L * rr d + rank d f) := by rw [sn, enc_snoc, hp.e]; unfold step; rw [if_pos hh, tl]
        simp only [b1_row_number, dieD] at c1 c3 ⊢
        rw [hh] at c1
        simp [c1, c2, c3, m1, Out.on]
        refine ⟨k + 1, P + C j (k + 1), L * rr d + rank d f, ⟨?_, ?_⟩, by simp, by simp, by simp⟩
        · rw [e]; simp; omega
        · have n2 := (enc_nk d (fs.take (j + 1))).2
          rw [← n2, e] at ev
          exact ev
      | false =>
        have e : enc d (fs.take (j + 1)) = (j + 1, k, P, L * ss d + rank d f) := by rw [sn, enc_snoc, hp.e]; unfold step; rw [if_neg (by rw [hh]; simp), tl]
        simp only [b1_row_number, dieD] at c1 c3 ⊢
        rw [hh] at c1
        simp [c1, c2, c3, m2, Out.on]
        refine ⟨k, P, L * ss d + rank d f, ⟨?_, ?_⟩, by simp, by simp, by simp⟩
        · rw [e]; simp; omega
        · have n2 := (enc_nk d (fs.take (j + 1))).2
          rw [← n2, e] at ev
          exact ev)
  obtain ⟨rfl, k, P, L, x, y, hp, rfl⟩ := e2
  rw [enumF_len, List.length_map, Nat.zero_add, List.take_length] at hp
  exact ⟨k, P, L, x, y, hp, e1⟩
theorem call_num (h : DieOk d) {fs : List Nat} (hf : RowOk d fs) (l : Sto) : m_row_number [dieD d, rowD fs] l = .ok (nD (numN d fs)) l := by
  refine callM_p (junk := []) (by simp) ?_ (by simp)
  obtain ⟨k, P, L, x, y, hp, e⟩ := loop_num h hf
  obtain ⟨q1, q2⟩ := num_pre hp
  have h4 := hf.2
  have kn := hp.v.kn
  have c1 := fun l => call_form h l
  have c3 := fun l => call_powerI (rr d) k k rfl h.r5 (by omega) l
  have c4 := fun l => call_powerI (ss d) (fs.length - k) ((fs.length : Int) - k) (by omega) h.s5 (by omega) l
  have bP : Bd (P : Int) 2000 := (bd_lt hp.v.p (bdC _ _)).mono (by omega)
  have m1 : mulOk (P : Int) ((rr d : Int) ^ k) = true := bP.mulOk (bdp _ k h.r5) (by omega)
  have m2 : mulOk ((P : Int) * (rr d : Int) ^ k) ((ss d : Int) ^ (fs.length - k)) = true := (bP.mul (bdp _ k h.r5)).mulOk (bdp _ _ h.s5) (by omega)
  rw [q1]
  simp only [dieD, rowD] at e c1 ⊢
  simp [den_row_number, c1, c3, c4, e, m1, m2, W]
  rw [Int.mul_assoc]
end
end Q81

set_option Elab.async false
set_option linter.all false
set_option maxRecDepth 100000
set_option maxHeartbeats 4000000
namespace Q81
open PySem L2 PySem.Spec PyProof.Rows Zb Nm
/-! ### _law_number -/
section
variable {d : List Nat}
theorem lc_lrank (h : DieOk d) {fs : List Nat} {j f : Nat} (hj : fs[j]? = some f) (hf : f < d.length) (l : Sto) (x2 x3 x4 x5 x6 x7 x8 x9 x11 : Option D) :
    lcL ⟨rng 0 f, none⟩ (gN 12) q2__law_number e1__law_number [some (dieD d), some (rowD fs), x2, x3, x4, x5, x6, x7, x8, x9, some (nD j), x11, none] (rng 0 f) l [] = .ok (((List.range f).filter fun o => wt d o == wt d f).map nD) l := by
  have hh := h.hi
  conv => lhs; arg 6; rw [rng_eq]
  rw [lcL_fmap (by trivial) (fun i => nD i) nD (fun o => wt d o == wt d f) _ _ (fun o ho => ?_) (by simp; omega)]
  · rfl
  · have ho' := List.mem_range.mp ho
    have hx := die_ix hf
    have ho2 := die_ix (d := d) (i := o) (by omega)
    have hjj : (fs.map nD)[j]? = some (nD f) := by rw [List.getElem?_map, hj]; rfl
    refine ⟨[some (dieD d), some (rowD fs), x2, x3, x4, x5, x6, x7, x8, x9, some (nD j), x11, some (nD o)], rfl, ?_, fun _ => by simp [e1__law_number]⟩
    have e : decide ((wt d o : Int) = (wt d f : Int)) = (wt d o == wt d f) := by
      by_cases q : wt d o = wt d f
      · simp [q]
      · have : ¬ (wt d o : Int) = (wt d f : Int) := by omega
        rw [decide_eq_false this, beq_false_of_ne q]
    simp only [q2__law_number, dieD, rowD]
    simp [hx, ho2, e, hjj]
theorem ways_next (k j : Nat) (h : k ≤ j + 1) : (if k = j + 1 then (1 : Int) else ((C j k : Int) * ((j : Int) + 1)) / ((j : Int) + 1 - k)) = (C (j + 1) k : Int) := by
  by_cases q : k = j + 1
  · rw [if_pos q, q, C_self]; rfl
  · rw [if_neg q]
    exact C_row j k (by omega)
def gL (d fs : List Nat) (k P L : Nat) (w : Int) (x y z : Option D) : Sl := [some (dieD d), some (rowD fs), some (nD (wt d 0)), some (nD (rr d)), some (nD (lw d)), some (nD (ss d)), some (nD k), some (nD P), some (nD L), some (.int w), x, y, z]
theorem loop_lnum (h : DieOk d) {fs : List Nat} (hf : RowOk d fs) : ∃ k P L w x y l', Pre d fs k P L ∧ sForL ⟨rng 0 fs.length, none⟩ (gN 10) b3__law_number (rng 0 fs.length) (gL d fs 0 0 0 1 none none none) [] = .nx (gL d fs k P L w x y none) l' := by
  have hr5 := h.r5
  have hs5 := h.s5
  have h0 := die_0 h.lo
  obtain ⟨g', l', e1, e2⟩ := for_inv (it := ⟨rng 0 fs.length, none⟩) (gt := gN 10) (b := b3__law_number) (fun i g l => ∃ k P L x y, Pre d (fs.take i) k P L ∧ g = gL d fs k P L (C i k) x y none)
    (fun _ _ _ _ => trivial) (rng 0 fs.length) 0 (gL d fs 0 0 0 1 none none none) [] ⟨0, 0, 0, none, none, ⟨by simp [enc], ⟨by simp, by simp [W]⟩⟩, by simp⟩ (by
      rintro j e g l hj ⟨k, P, L, x, y, hp, rfl⟩
      obtain ⟨hjl, he⟩ := rng_get hj
      subst he
      clear hj
      rw [Nat.zero_add] at hp ⊢
      have hj : fs[j]? = some fs[j] := List.getElem?_eq_getElem hjl
      generalize fs[j] = f at hj
      have hfm := hf.1 f (List.mem_of_getElem? hj)
      have hx := die_ix hfm
      have hjj : (fs.map nD)[j]? = some (nD f) := by rw [List.getElem?_map, hj]; rfl
      have h4 := hf.2
      have hh5 := h.hi
      have tl : (fs.take j).length = j := by simp; omega
      have kn := hp.v.kn
      rw [tl] at kn
      have bL : Bd (L : Int) 2000 := by
        have := bd_lt hp.v.l (bdW h _ _ hp.v.kn)
        exact this.mono (by rw [tl]; omega)
      have m1 : mulOk (L : Int) (rr d) = true := bL.mulOk (bd_small (by omega)) (by omega)
      have m2 : mulOk (L : Int) (ss d) = true := bL.mulOk (bd_small (by omega)) (by omega)
      have m3 : mulOk (C j k) ((j : Int) - k) = true := mul_C (by omega) (by omega)
      have m4 : mulOk (C j (k + 1)) ((j : Int) + 1) = true := mul_C (by omega) (by omega)
      have m5 : mulOk (C j k) ((j : Int) + 1) = true := mul_C (by omega) (by omega)
      have d1 : divOk ((k : Int) + 1) = true := divOk_1 (by omega)
      have sn := take_snoc hj
      have hfs : ∀ g ∈ fs.take (j + 1), g < d.length := fun g hg => hf.1 g (List.mem_of_mem_take hg)
      have ev := enc_val h _ hfs
      have lr := lc_lrank h hj hfm l (some (nD (wt d 0))) (some (nD (rr d))) (some (nD (lw d))) (some (nD (ss d))) (some (nD k)) (some (nD P)) (some (nD L)) (some (nD (C j k))) y
      have hmf : mid (f : Int) = true := by rw [mid_nat]; simp; omega
      have hz := isH_eq d f
      refine ⟨_, rfl, ?_⟩
      cases hh : isH d f with
      | true =>
        rw [hh] at hz
        have hz' : (wt d f : Int) = (wt d 0 : Int) := of_decide_eq_true hz
        have e : enc d (fs.take (j + 1)) = (j + 1, k + 1, P + C j (k + 1), L * rr d + rank d f) := by rw [sn, enc_snoc, hp.e]; unfold step; rw [if_pos hh, tl]
        have hv : Pre d (fs.take (j + 1)) (k + 1) (P + C j (k + 1)) (L * rr d + rank d f) := ⟨by rw [e]; simp; omega, by have n2 := (enc_nk d (fs.take (j + 1))).2; rw [← n2, e] at ev; exact ev⟩
        have kn2 := hv.v.kn
        have tl2 : (fs.take (j + 1)).length = j + 1 := by simp; omega
        rw [tl2] at kn2
        have wn := ways_next (k + 1) j kn2
        have cn := C_next j k
        simp only [gL, b3__law_number, dieD, rowD] at lr ⊢
        by_cases q : k + 1 = j + 1
        · obtain rfl : k = j := by omega
          rw [if_pos rfl] at wn
          have m6 : mulOk 1 0 = true := by decide
          simp only [C_self, Int.natCast_one, nD] at lr
          simp [lr, hmf, hx, hjj, h0, hz', m1, m6, d1, Out.on]
          exact ⟨_, _, _, hv, by simp, by simp [C_lt], by simp [rank], by simp [C_lt]⟩
        · have q' : ¬ (k : Int) + 1 = (j : Int) + 1 := by omega
          rw [if_neg q] at wn
          have d2 : divOk ((j : Int) + 1 - ((k : Int) + 1)) = true := Bd.divOk (by omega) (bd_small (by omega)) (by decide)
          have wn' : (C j (k + 1) : Int) * ((j : Int) + 1) / ((j : Int) + 1 - ((k : Int) + 1)) = (C (j + 1) (k + 1) : Int) := by simpa using wn
          simp [lr, hmf, hx, hjj, h0, hz', m1, m3, m4, d1, d2, cn, q', Out.on]
          exact ⟨_, _, _, hv, by simp, by simp, by simp [rank], by rw [wn']⟩
      | false =>
        rw [hh] at hz
        have hz' : ¬ (wt d f : Int) = (wt d 0 : Int) := of_decide_eq_false hz
        have e : enc d (fs.take (j + 1)) = (j + 1, k, P, L * ss d + rank d f) := by rw [sn, enc_snoc, hp.e]; unfold step; rw [if_neg (by rw [hh]; simp), tl]
        have hv : Pre d (fs.take (j + 1)) k P (L * ss d + rank d f) := ⟨by rw [e]; simp; omega, by have n2 := (enc_nk d (fs.take (j + 1))).2; rw [← n2, e] at ev; exact ev⟩
        have wn := ways_next k j (by omega)
        have q : ¬ k = j + 1 := by omega
        have q' : ¬ (k : Int) = (j : Int) + 1 := by omega
        rw [if_neg q] at wn
        have d2 : divOk ((j : Int) + 1 - (k : Int)) = true := Bd.divOk (by omega) (bd_small (by omega)) (by decide)
        simp only [gL, b3__law_number, dieD, rowD] at lr ⊢
        simp [lr, hmf, hx, hjj, h0, hz', m2, m5, d2, wn, q', Out.on]
        exact ⟨_, _, _, hv, by simp, by simp, by simp [rank], by simp⟩)
  obtain ⟨k, P, L, x, y, hp, rfl⟩ := e2
  rw [rng_length, Nat.zero_add, List.take_length] at hp
  exact ⟨k, P, L, _, x, y, l', hp, e1⟩
theorem call_lnum (h : DieOk d) {fs : List Nat} (hf : RowOk d fs) (l : Sto) : m__law_number [dieD d, rowD fs] l = .ok (nD (numN d fs)) l := by
  obtain ⟨k, P, L, w, x, y, l', hp, e⟩ := loop_lnum h hf
  refine callM_p (junk := l') (by simp) ?_ (by simp)
  obtain ⟨q1, q2⟩ := num_pre hp
  have h4 := hf.2
  have kn := hp.v.kn
  have c1 := fun l => call_lform h l
  have c3 := fun l => call_lpowerI (rr d) k k rfl h.r5 (by omega) l
  have c4 := fun l => call_lpowerI (ss d) (fs.length - k) ((fs.length : Int) - k) (by omega) h.s5 (by omega) l
  have bP : Bd (P : Int) 2000 := (bd_lt hp.v.p (bdC _ _)).mono (by omega)
  have m1 : mulOk (P : Int) ((rr d : Int) ^ k) = true := bP.mulOk (bdp _ k h.r5) (by omega)
  have m2 : mulOk ((P : Int) * (rr d : Int) ^ k) ((ss d : Int) ^ (fs.length - k)) = true := (bP.mul (bdp _ k h.r5)).mulOk (bdp _ _ h.s5) (by omega)
  have hmf : mid (fs.length : Int) = true := by rw [mid_nat]; simp; omega
  rw [q1]
  simp only [gL, dieD, rowD] at e c1 ⊢
  have z0 : nD 0 = D.int 0 := rfl
  rw [z0] at e
  simp [den__law_number, c1, c3, c4, e, m1, m2, W, hmf]
  rw [Int.mul_assoc]
end
end Q81

set_option Elab.async false
set_option linter.all false
set_option maxRecDepth 100000
set_option maxHeartbeats 4000000
namespace Q81
open PySem L2 PySem.Spec PyProof.Rows Zb Nm
/-! ### heavy_places -/
def hp : Nat → Nat → Nat → List Nat
  | 0, _, _ => []
  | n + 1, k, P => if 0 < k ∧ C n k ≤ P then hp n (k - 1) (P - C n k) ++ [n] else hp n k P
theorem hp_lt : ∀ n k P, ∀ x ∈ hp n k P, x < n
  | 0, k, P, x, h => by simp [hp] at h
  | n + 1, k, P, x, h => by
    unfold hp at h
    split at h
    · rcases List.mem_append.mp h with h | h
      · have := hp_lt n _ _ x h; omega
      · simp at h; omega
    · have := hp_lt n _ _ x h; omega
theorem hp_0 : ∀ n P, hp n 0 P = []
  | 0, P => rfl
  | n + 1, P => by unfold hp; rw [if_neg (by omega)]; exact hp_0 n P
theorem hp_len : ∀ n k P, (hp n k P).length ≤ n
  | 0, k, P => by simp [hp]
  | n + 1, k, P => by
    unfold hp
    split
    · have := hp_len n (k - 1) (P - C n k); simp; omega
    · have := hp_len n k P; omega
theorem run_hp (n k P : Nat) (hn : n ≤ 400) (hP : P < C n k) : ∃ junk, runB 6 den_heavy_places [nD n, nD k, nD P] [] = .ok (.adr 1) (junk :: [.lst ((hp n k P).map nD)]) := by
  have kn : k ≤ n := by
    by_cases q : k ≤ n
    · exact q
    · rw [C_lt n k (by omega)] at hP; omega
  obtain ⟨g', l', e1, e2⟩ := for_inv (it := ⟨rngC k (-1) k, none⟩) (gt := gN 5) (b := b3_heavy_places) (fun i g l => i ≤ k ∧ ∃ (at_ P' : Nat) (found : List Nat) (x : Option D), hp n k P = hp at_ (k - i) P' ++ found.reverse ∧ P' < C at_ (k - i) ∧ at_ ≤ n ∧ found.length ≤ i ∧ g = [some (nD n), some (nD k), some (nD P'), some (.adr 0), some (nD at_), x] ∧ l = [.lst (found.map nD)])
    (fun _ _ _ _ => trivial) (rngC k (-1) k) 0 [some (nD n), some (nD k), some (nD P), some (.adr 0), some (nD n), none] [.lst []] ⟨by omega, n, P, [], none, by simp, by simpa using hP, by omega, by simp, rfl, rfl⟩ (by
      rintro j e g l hj ⟨hjk, a, P', found, x, h1, h2, h3, h4, rfl, rfl⟩
      obtain ⟨hj, he⟩ := rngC_get hj
      subst he
      rw [Nat.zero_add] at *
      obtain ⟨q, hq⟩ : ∃ q : Nat, k - j = q + 1 := ⟨k - j - 1, by omega⟩
      have eq1 : (k : Int) + (j : Nat) * (-1) = ((q + 1 : Nat) : Int) := by omega
      rw [hq] at h1 h2
      have ha : q + 1 ≤ a := by
        by_cases z : q + 1 ≤ a
        · exact z
        · rw [C_lt a (q + 1) (by omega)] at h2; omega
      obtain ⟨b0, rfl⟩ : ∃ b : Nat, a = b + 1 := ⟨a - 1, by omega⟩
      refine ⟨[some (nD n), some (nD k), some (nD P'), some (.adr 0), some (nD (b0 + 1)), some (nD (q + 1))], by rw [eq1]; rfl, ?_⟩
      obtain ⟨g2, l2, w1, w2⟩ := while_inv (c := c1_heavy_places) (b := b2_heavy_places) (fun m g l => l = [.lst (found.map nD)] ∧ ∃ b : Nat, m = b ∧ b ≤ b0 ∧ hp n k P = hp (b + 1) (q + 1) P' ++ found.reverse ∧ P' < C (b + 1) (q + 1) ∧ g = [some (nD n), some (nD k), some (nD P'), some (.adr 0), some (nD b), some (nD (q + 1))])
        (fun g l => l = [.lst (found.map nD)] ∧ ∃ b : Nat, b ≤ b0 ∧ hp n k P = hp (b + 1) (q + 1) P' ++ found.reverse ∧ P' < C (b + 1) (q + 1) ∧ C b (q + 1) ≤ P' ∧ g = [some (nD n), some (nD k), some (nD P'), some (.adr 0), some (nD b), some (nD (q + 1))]) (by
          rintro m g l ⟨rfl, b, rfl, b1, b2, b3, rfl⟩
          have cc := fun l => call_choices m (q + 1) (by omega) (by omega) l
          by_cases z : P' < C m (q + 1)
          · right
            have z' : (P' : Int) < (C m (q + 1) : Int) := by omega
            have hm : q + 1 ≤ m := by
              by_cases y : q + 1 ≤ m
              · exact y
              · rw [C_lt m (q + 1) (by omega)] at z; omega
            obtain ⟨m', rfl⟩ : ∃ m', m = m' + 1 := ⟨m - 1, by omega⟩
            refine ⟨by simp [c1_heavy_places, cc, z', -C_s], ?_⟩
            refine ⟨[some (nD n), some (nD k), some (nD P'), some (.adr 0), some (nD m'), some (nD (q + 1))], _, m', by simp [b2_heavy_places], by omega, rfl, m', rfl, by omega, ?_, z, rfl⟩
            rw [b2]
            conv => lhs; unfold hp
            rw [if_neg (by omega)]
          · left
            have z' : ¬ (P' : Int) < (C m (q + 1) : Int) := by omega
            exact ⟨by simp [c1_heavy_places, cc, z'], rfl, m, b1, b2, b3, by omega, rfl⟩) fuel b0 _ _ (by unfold fuel; omega) ⟨rfl, b0, rfl, Nat.le_refl _, h1, h2, rfl⟩
      obtain ⟨rfl, b, b1, b2, b3, b4, rfl⟩ := w2
      have cc := fun l => call_choices b (q + 1) (by omega) (by omega) l
      have st : hp (b + 1) (q + 1) P' = hp b q (P' - C b (q + 1)) ++ [b] := by
        conv => lhs; unfold hp
        rw [if_pos ⟨by omega, b4⟩, Nat.add_sub_cancel]
      have hsub : (P' : Int) - (C b (q + 1) : Int) = ((P' - C b (q + 1) : Nat) : Int) := by omega
      have fl : found.length + 1 ≤ 16777216 := by omega
      have hb0 : (((b0 + 1 : Nat) : Int) - 1) = (b0 : Int) := by omega
      have hk2 : k - (j + 1) = q := by omega
      have fin : b3_heavy_places [some (nD n), some (nD k), some (nD P'), some (.adr 0), some (nD (b0 + 1)), some (nD (q + 1))] [.lst (found.map nD)] = .nx [some (nD n), some (nD k), some (nD (P' - C b (q + 1))), some (.adr 0), some (nD b), some (nD (q + 1))] [.lst ((found ++ [b]).map nD)] := by
        unfold b3_heavy_places
        rw [sSeq_e]
        simp only [sSet_e, dOp_e, dV_e, dC_e, bind_ok, dOp_k1_e, dOp_k2_e, hInt_int, yes2_e, if_true, List.getElem?_cons_succ, List.getElem?_cons_zero, out_ok, sSet_k1_e, hb0, seq_nx]
        rw [sSeq_e]
        have w1' : sWhile fuel c1_heavy_places b2_heavy_places ([some (nD n), some (nD k), some (nD P'), some (.adr 0), some (nD (b0 + 1)), some (nD (q + 1))].set 4 (some (.int b0))) [.lst (found.map nD)] = _ := w1
        rw [w1', seq_nx]
        simp [cc, hsub, fl]
      rw [fin]
      exact ⟨by omega, b, P' - C b (q + 1), found ++ [b], _, by rw [b2, st, hk2]; simp, by rw [hk2]; rw [C_s] at b3; omega, by omega, by simp; omega, rfl, rfl⟩)
  obtain ⟨_, a, P', found, x, h1, h2, h3, h4, rfl, rfl⟩ := e2
  rw [rngC_length, Nat.zero_add, Nat.sub_self, hp_0, List.nil_append] at h1
  have hm : mid (k : Int) = true := by rw [mid_nat]; simp; omega
  refine ⟨.lst (found.map nD), ?_⟩
  rw [h1]
  simp [den_heavy_places, hm, e1]
theorem call_hp (n k P : Nat) (i : Int) (hi : i = P) (hn : n ≤ 400) (hP : P < C n k) (l : Sto) : m_heavy_places [nD n, nD k, .int i] l = .ok (.adr l.length) (l ++ [.lst ((hp n k P).map nD)]) := by
  subst hi
  obtain ⟨junk, e⟩ := run_hp n k P hn hP
  exact callM_l (by simp) e rfl (by simp)
end Q81

set_option Elab.async false
set_option linter.all false
set_option maxRecDepth 100000
set_option maxHeartbeats 4000000
namespace Q81
open PySem L2 PySem.Spec PyProof.Rows Zb Nm
theorem flat_nD : ∀ ns : List Nat, (ns.map nD).all flatD = true
  | [] => rfl
  | n :: ns => by simp [flat_nD ns]
theorem inV_nD (a : Nat) : ∀ ns : List Nat, inV (.int (a : Int)) ((ns.map nD).map fv) = decide (a ∈ ns)
  | [] => by simp
  | n :: ns => by
    have ih := inV_nD a ns
    show (eqV (.int (n : Int)) (.int (a : Int)) || inV (.int (a : Int)) ((ns.map nD).map fv)) = _
    rw [ih]
    have e : eqV (.int (n : Int)) (.int (a : Int)) = decide (n = a) := by
      show decide ((n : Int) = (a : Int)) = _
      by_cases h : n = a
      · simp [h]
      · have : ¬ (n : Int) = (a : Int) := by omega
        simp [h, this]
    rw [e]
    by_cases h : n = a
    · simp [h]
    · have : ¬ a = n := fun z => h z.symm
      simp [h, this]
section
variable {d : List Nat}
def gR (d : List Nat) (n k x P : Nat) (L : Nat) (W : Int) (q10 : Option D) (pl at_ : Nat) (x12 x13 : Option D) : Sl := [some (dieD d), some (nD n), some (nD k), some (nD x), some (nD (wt d 0)), some (nD (rr d)), some (nD (lw d)), some (nD (ss d)), some (.int W), some (.adr pl), some (nD L), some (.adr at_), x12, x13]
/-- a turn of what goes from behind: what is told so far, what is left -/
structure Bk (d : List Nat) (n k P L j : Nat) (k' P' L' : Nat) (suf : List Nat) : Prop where
  e : dec d n k P L = dec d (n - j) k' P' L' ++ suf
  v : Val d (n - j) k' P' L'
  l : suf.length = j
theorem Bk.next (ok : DieOk d) {n k P L j k' P' L' : Nat} {suf : List Nat} (h : Bk d n k P L j k' P' L' suf) (hj : j < n) :
    (0 < k' ∧ C (n - j - 1) k' ≤ P' ∧ ∃ f, (hvL d)[L' % rr d]? = some f ∧ Bk d n k P L (j + 1) (k' - 1) (P' - C (n - j - 1) k') (L' / rr d) (f :: suf)) ∨
    (¬ (0 < k' ∧ C (n - j - 1) k' ≤ P') ∧ 0 < ss d ∧ k' ≤ n - j - 1 ∧ ∃ f, (ltL d)[L' % ss d]? = some f ∧ Bk d n k P L (j + 1) k' P' (L' / ss d) (f :: suf)) := by
  obtain ⟨m, hm⟩ : ∃ m, n - j = m + 1 := ⟨n - j - 1, by omega⟩
  have e1 : n - j - 1 = m := by omega
  have e2 : n - (j + 1) = m := by omega
  obtain ⟨he, hv, hl⟩ := h
  rw [hm] at he hv
  rw [e1]
  have hr := ok.r1
  have hp := hv.p
  have hlv := hv.l
  by_cases c : 0 < k' ∧ C m k' ≤ P'
  · left
    obtain ⟨q, rfl⟩ : ∃ q, k' = q + 1 := ⟨k' - 1, by omega⟩
    obtain ⟨f, f1, f2, f3, f4⟩ := hv_at (d := d) (j := L' % rr d) (Nat.mod_lt _ (by omega))
    refine ⟨c.1, c.2, f, f1, ?_, ?_, by simp [hl]⟩
    · rw [he, e2]
      simp only [dec, if_pos c]
      rw [List.getD_eq_getElem?_getD, f1]
      simp
    · rw [e2]
      rw [C_s] at hp
      rw [W_h] at hlv
      exact ⟨by simp only [Nat.add_sub_cancel]; omega, Nat.div_lt_of_lt_mul (by rw [Nat.mul_comm]; exact hlv)⟩
  · right
    have hpn : P' < C m k' := by
      by_cases h0 : k' = 0
      · subst h0; simpa using hp
      · omega
    have kn2 : k' ≤ m := by
      by_cases q : k' ≤ m
      · exact q
      · rw [C_lt m k' (by omega)] at hpn; omega
    rw [W_l d m k' kn2] at hlv
    have hs : 0 < ss d := by
      rcases Nat.eq_zero_or_pos (ss d) with z | z
      · rw [z] at hlv; omega
      · exact z
    obtain ⟨f, f1, f2, f3, f4⟩ := lt_at ok (j := L' % ss d) (Nat.mod_lt _ hs)
    refine ⟨c, hs, kn2, f, f1, ?_, ?_, by simp [hl]⟩
    · rw [he, e2]
      simp only [dec, if_neg c]
      rw [List.getD_eq_getElem?_getD, f1]
      simp
    · rw [e2]
      exact ⟨hpn, Nat.div_lt_of_lt_mul (by rw [Nat.mul_comm]; exact hlv)⟩
theorem Bk.start {n k P L : Nat} (v : Val d n k P L) : Bk d n k P L 0 k P L [] := ⟨by simp, by simpa using v, rfl⟩
theorem fmod_nat (a b : Nat) : (a : Int).fmod (b : Int) = ((a % b : Nat) : Int) := by
  rw [Int.fmod_eq_emod_of_nonneg _ (by omega)]; simp
theorem loop_row (h : DieOk d) {n k P L x : Nat} {W0 : Int} (hn : n ≤ 400) (v : Val d n k P L) : ∃ L' x12 x13, sForL ⟨rngC ((n : Int) - 1) (-1) n, none⟩ (gN 12) b1_row_of_number (rngC ((n : Int) - 1) (-1) n) (gR d n k x P L W0 none 0 1 none none) [.lst ((hp n k P).map nD), .lst []] =
    .nx (gR d n k x P L' W0 none 0 1 x12 x13) [.lst ((hp n k P).map nD), .lst ((dec d n k P L).reverse.map nD)] := by
  have hr5 := h.r5
  have hr1 := h.r1
  have hs5 := h.s5
  obtain ⟨g', l', e1, e2⟩ := for_inv (it := ⟨rngC ((n : Int) - 1) (-1) n, none⟩) (gt := gN 12) (b := b1_row_of_number) (fun j g l => j ≤ n ∧ ∃ (k' P' L' : Nat) (suf big : List Nat) (y z : Option D), Bk d n k P L j k' P' L' suf ∧ hp n k P = hp (n - j) k' P' ++ big ∧ (∀ b ∈ big, n - j ≤ b) ∧ g = gR d n k x P L' W0 none 0 1 y z ∧ l = [.lst ((hp n k P).map nD), .lst (suf.reverse.map nD)])
    (fun _ _ _ _ => trivial) (rngC ((n : Int) - 1) (-1) n) 0 (gR d n k x P L W0 none 0 1 none none) [.lst ((hp n k P).map nD), .lst []] ⟨by omega, k, P, L, [], [], none, none, Bk.start v, by simp, by simp, rfl, rfl⟩ (by
      rintro j e g l hj ⟨hjn, k', P', L', suf, big, y, z, hb, h1, h2, rfl, rfl⟩
      obtain ⟨hjl, he⟩ := rngC_get hj
      subst he
      clear hj
      rw [Nat.zero_add] at *
      have hat : (n : Int) - 1 + (j : Nat) * (-1) = ((n - j - 1 : Nat) : Int) := by omega
      obtain ⟨m, hm⟩ : ∃ m, n - j = m + 1 := ⟨n - j - 1, by omega⟩
      have e1 : n - j - 1 = m := by omega
      have e2 : n - (j + 1) = m := by omega
      rw [hat, e1]
      have hsl : suf.length + 1 ≤ 16777216 := by have := hb.l; omega
      have mem : decide (m ∈ hp n k P) = decide (0 < k' ∧ C m k' ≤ P') := by
        rw [h1, hm]
        have nb : m ∉ big := fun q => by have := h2 m q; omega
        apply decide_eq_decide.mpr
        constructor
        · intro q
          by_cases c : 0 < k' ∧ C m k' ≤ P'
          · exact c
          · rcases List.mem_append.mp q with q | q
            · unfold hp at q
              rw [if_neg c] at q
              have := hp_lt m _ _ m q; omega
            · exact absurd q nb
        · intro c
          unfold hp
          rw [if_pos c]
          simp
      have hin := inV_nD m (hp n k P)
      have hfl := flat_nD (hp n k P)
      have cH := fun l => call_heavy h l
      have cL := fun l => call_light h l
      refine ⟨_, rfl, ?_⟩
      rcases hb.next h hjl with ⟨c1, c2, f, hf, hb2⟩ | ⟨c, hs, kn2, f, hf, hb2⟩
      · rw [e1] at c2 hb2
        have hmem : decide (m ∈ hp n k P) = true := by rw [mem]; exact decide_eq_true ⟨c1, c2⟩
        rw [hmem] at hin
        have hlen : (hvL d).length = rr d := rfl
        have hrne : rr d ≠ 0 := by omega
        have dv : divOk (rr d : Int) = true := divOk_n (by omega) (by omega)
        have fm : (L' : Int).fmod (rr d : Int) = (L' : Int) % (rr d : Int) := Int.fmod_eq_emod_of_nonneg _ (by omega)
        have hix : atI ((hvL d).map nD) ((L' : Int) % (rr d : Int)) = some (nD f) := by rw [← Int.natCast_emod, atI_nat_e, List.getElem?_map, hf]; rfl
        have ld : (L' : Int) / (rr d : Int) = ((L' / rr d : Nat) : Int) := by simp
        have rl := hb.l
        simp only [gR, b1_row_of_number, dieD] at cH cL ⊢
        have fin : ∃ y', (sSeq (sSet 13 (dIfE (dBl (dOp (hIn false) (dV 12) (dV 9))) (dCall 1 m_heavy_faces (dCons (dV 0) dNil)) (dCall 1 m_light_faces (dCons (dV 0) dNil))))
    (sSeq (sExpr (dMe hApp (dV 11) (dCons (dOp hIx (dV 13) (dOp (hInt (fun _ j => decide (j ≠ 0)) Int.fmod) (dV 10) (dCB hLen (dCons (dV 13) dNil)))) dNil)))
    (sSet 10 (dOp (hInt (fun _ j => divOk j) fun i j => i / j) (dV 10) (dCB hLen (dCons (dV 13) dNil)))))) (gR d n k x P L' W0 none 0 1 (some (nD m)) z) [.lst ((hp n k P).map nD), .lst (suf.reverse.map nD)] = .nx (gR d n k x P (L' / rr d) W0 none 0 1 (some (nD m)) y') [.lst ((hp n k P).map nD), .lst ((f :: suf).reverse.map nD)] := by
          refine ⟨some (.tup ((hvL d).map nD)), ?_⟩
          simp only [gR, dieD]
          simp only [List.map_map] at hin
          simp [hin, hfl, cH, hlen, hrne, fm, hix, dv, hsl]
        obtain ⟨y', fin⟩ := fin
        simp only [gR, dieD] at fin
        have fin2 := fin
        simp only [List.set_cons_succ, List.set_cons_zero]
        rw [fin2]
        have hs1 : hp n k P = hp (n - (j + 1)) (k' - 1) (P' - C m k') ++ (m :: big) := by
          rw [h1, hm, e2]
          conv => lhs; unfold hp
          rw [if_pos ⟨c1, c2⟩]
          simp
        have hs2 : ∀ b ∈ m :: big, n - (j + 1) ≤ b := fun b hb => by
          rw [e2]
          rcases List.mem_cons.mp hb with rfl | hb
          · exact Nat.le_refl _
          · have := h2 b hb; omega
        exact ⟨by omega, k' - 1, P' - C m k', L' / rr d, f :: suf, m :: big, _, _, hb2, hs1, hs2, rfl, rfl⟩
      · rw [e1] at c kn2
        have hmem : decide (m ∈ hp n k P) = false := by rw [mem]; exact decide_eq_false c
        rw [hmem] at hin
        have hlen : (ltL d).length = ss d := rfl
        have hrne : ss d ≠ 0 := by omega
        have dv : divOk (ss d : Int) = true := divOk_n (by omega) (by omega)
        have fm : (L' : Int).fmod (ss d : Int) = (L' : Int) % (ss d : Int) := Int.fmod_eq_emod_of_nonneg _ (by omega)
        have hix : atI ((ltL d).map nD) ((L' : Int) % (ss d : Int)) = some (nD f) := by rw [← Int.natCast_emod, atI_nat_e, List.getElem?_map, hf]; rfl
        simp only [gR, b1_row_of_number, dieD] at cH cL ⊢
        have fin : ∃ y', (sSeq (sSet 13 (dIfE (dBl (dOp (hIn false) (dV 12) (dV 9))) (dCall 1 m_heavy_faces (dCons (dV 0) dNil)) (dCall 1 m_light_faces (dCons (dV 0) dNil))))
    (sSeq (sExpr (dMe hApp (dV 11) (dCons (dOp hIx (dV 13) (dOp (hInt (fun _ j => decide (j ≠ 0)) Int.fmod) (dV 10) (dCB hLen (dCons (dV 13) dNil)))) dNil)))
    (sSet 10 (dOp (hInt (fun _ j => divOk j) fun i j => i / j) (dV 10) (dCB hLen (dCons (dV 13) dNil)))))) (gR d n k x P L' W0 none 0 1 (some (nD m)) z) [.lst ((hp n k P).map nD), .lst (suf.reverse.map nD)] = .nx (gR d n k x P (L' / ss d) W0 none 0 1 (some (nD m)) y') [.lst ((hp n k P).map nD), .lst ((f :: suf).reverse.map nD)] := by
          refine ⟨some (.tup ((ltL d).map nD)), ?_⟩
          simp only [gR, dieD]
          simp only [List.map_map] at hin
          simp [hin, hfl, cL, hlen, hrne, fm, hix, dv, hsl]
        obtain ⟨y', fin⟩ := fin
        simp only [gR, dieD] at fin
        simp only [List.set_cons_succ, List.set_cons_zero]
        rw [fin]
        have hs1 : hp n k P = hp (n - (j + 1)) k' P' ++ big := by
          rw [h1, hm, e2]
          conv => lhs; unfold hp
          rw [if_neg c]
        exact ⟨by omega, k', P', L' / ss d, f :: suf, big, _, _, hb2, hs1, fun b hb => by have := h2 b hb; omega, rfl, rfl⟩)
  obtain ⟨_, k', P', L', suf, big, y, z, hb, h1, h2, rfl, rfl⟩ := e2
  rw [rngC_length, Nat.zero_add] at hb
  have e3 := hb.e
  rw [Nat.sub_self] at e3
  simp only [dec, List.nil_append] at e3
  rw [e3]
  exact ⟨L', y, z, e1⟩
theorem run_row (h : DieOk d) {n k x : Nat} (hn : n ≤ 400) (hx : x < sizeN d n k) (hk : k ≤ n) : ∃ junk, runB 14 den_row_of_number [dieD d, nD n, nD k, nD x] [] = .ok (rowD (rowN d n k x)) junk := by
  have v := val_of hx
  have hW : 0 < W d n k := by have := v.l; omega
  obtain ⟨L', y, z, e⟩ := loop_row h (x := x) (W0 := (W d n k : Int)) hn v
  unfold gR at e
  have c0 := fun l => call_size h n k hk hn l
  have c1 := fun l => call_form h l
  have c3 := fun l => call_powerI (rr d) k k rfl h.r5 (by omega) l
  have c4 := fun l => call_powerI (ss d) (n - k) ((n : Int) - k) (by omega) h.s5 (by omega) l
  have m1 : mulOk ((rr d : Int) ^ k) ((ss d : Int) ^ (n - k)) = true := (bdp _ k h.r5).mulOk (bdp _ _ h.s5) (by omega)
  have eW : (rr d : Int) ^ k * (ss d : Int) ^ (n - k) = (W d n k : Int) := by simp [W]
  have dW : divOk (W d n k : Int) = true := Bd.divOk (by omega) (bdW h n k hk) (by omega)
  have c5 := fun l => call_hp n k (x / W d n k) ((x : Int) / (W d n k : Int)) (by simp) hn v.p l
  have hx' : ¬ (sizeN d n k : Int) ≤ (x : Int) := by omega
  have hWne : ¬ W d n k = 0 := by omega
  have fm : (x : Int).fmod (W d n k : Int) = (x : Int) % (W d n k : Int) := Int.fmod_eq_emod_of_nonneg _ (by omega)
  have ex : nD (x % W d n k) = .int ((x : Int) % (W d n k : Int)) := by rw [nD, Int.natCast_emod]
  rw [ex] at e
  have hm : mid ((n : Int) - 1) = true := by unfold mid; exact decide_eq_true (by omega)
  have ht : ((n : Int) - 1 - -1).toNat = n := by omega
  have ht2 : ((n : Int) - 1 + 1).toNat = n := by omega
  refine ⟨[.lst ((hp n k (x / W d n k)).map nD), .lst ((rowN d n k x).reverse.map nD), .lst ((rowN d n k x).map nD)], ?_⟩
  simp only [gR, dieD, rowD] at e c0 c1 ⊢
  have mm1 : mid (-1) = true := by decide
  simp [den_row_of_number, c0, hx', c1, c3, c4, m1, eW, dW, c5, hWne, fm, hm, mm1, ht, ht2, e, rowN]
theorem call_row (h : DieOk d) {n k x : Nat} (i : Int) (hi : i = x) (hn : n ≤ 400) (hx : x < sizeN d n k) (hk : k ≤ n) (l : Sto) : m_row_of_number [dieD d, nD n, nD k, .int i] l = .ok (rowD (rowN d n k x)) l := by
  subst hi
  obtain ⟨junk, e⟩ := run_row h hn hx hk
  exact callM_p (by simp) e (by simp)
theorem call_row_no (h : DieOk d) {n k : Nat} (i : Int) (hi : (sizeN d n k : Int) ≤ i) (hn : n ≤ 400) (hk : k ≤ n) (l : Sto) : m_row_of_number [dieD d, nD n, nD k, .int i] l = .ok .non l := by
  refine callM_p (junk := []) (by simp) ?_ (by simp)
  have c0 := fun l => call_size h n k hk hn l
  simp [den_row_of_number, c0, hi]
end
end Q81

set_option Elab.async false
set_option linter.all false
set_option maxRecDepth 100000
set_option maxHeartbeats 4000000
namespace Q81
open PySem L2 PySem.Spec PyProof.Rows Zb Nm
section
variable {d : List Nat}
/-! ### _law_row -/
theorem lc_lhv (h : DieOk d) (l : Sto) (x1 x2 x3 x5 x6 x7 x8 x9 x10 x11 x12 x13 x14 x15 : Option D) : lcL ⟨rng 0 d.length, none⟩ (gN 16) q2__law_row e1__law_row [some (dieD d), x1, x2, x3, some (nD (wt d 0)), x5, x6, x7, x8, x9, x10, x11, x12, x13, x14, x15, none] (rng 0 d.length) l [] = .ok ((hvL d).map nD) l := by
  have hh := h.hi
  conv => lhs; arg 6; rw [rng_eq]
  rw [lcL_fmap (by trivial) (fun i => nD i) nD (isH d) _ _ (fun o ho => ?_) (by simp; omega)]
  · rfl
  · have ho' := List.mem_range.mp ho
    have hx := die_ix ho'
    refine ⟨[some (dieD d), x1, x2, x3, some (nD (wt d 0)), x5, x6, x7, x8, x9, x10, x11, x12, x13, x14, x15, some (nD o)], rfl, ?_, fun _ => by simp [e1__law_row]⟩
    simp only [q2__law_row, dieD]
    simp [hx, isH_eq]
theorem lc_llt (h : DieOk d) (l : Sto) (x1 x2 x3 x5 x6 x7 x8 x9 x10 x11 x12 x13 x14 x15 : Option D) : lcL ⟨rng 0 d.length, none⟩ (gN 16) q4__law_row e3__law_row [some (dieD d), x1, x2, x3, some (nD (wt d 0)), x5, x6, x7, x8, x9, x10, x11, x12, x13, x14, x15, none] (rng 0 d.length) l [] = .ok ((ltL d).map nD) l := by
  have hh := h.hi
  conv => lhs; arg 6; rw [rng_eq]
  rw [lcL_fmap (by trivial) (fun i => nD i) nD (fun i => !isH d i) _ _ (fun o ho => ?_) (by simp; omega)]
  · rfl
  · have ho' := List.mem_range.mp ho
    have hx := die_ix ho'
    refine ⟨[some (dieD d), x1, x2, x3, some (nD (wt d 0)), x5, x6, x7, x8, x9, x10, x11, x12, x13, x14, x15, some (nD o)], rfl, ?_, fun _ => by simp [e3__law_row]⟩
    simp only [q4__law_row, dieD]
    simp [hx, isH_ne]
def gW (d : List Nat) (n x : Nat) (W : Int) (k P L : Nat) (w : Int) (x15 : Option D) : Sl := [some (dieD d), some (nD n), some (nD k), some (nD x), some (nD (wt d 0)), some (nD (rr d)), some (nD (lw d)), some (nD (ss d)), some (.adr 0), some (.adr 1), some (.int W), some (nD P), some (nD L), some (.adr 2), some (.int w), x15, none]
def stW (d : List Nat) (suf : List Nat) : Sto := [.lst ((hvL d).map nD), .lst ((ltL d).map nD), .lst (suf.reverse.map nD)]
theorem loop_lrow (h : DieOk d) {n k P L x : Nat} {W0 w0 : Int} (hn : n ≤ 400) (v : Val d n k P L) (hw0 : 0 < n → k ≤ n - 1 → w0 = (C (n - 1) k : Int)) : ∃ k' P' L' w x15, sForL ⟨rngC ((n : Int) - 1) (-1) n, none⟩ (gN 15) b5__law_row (rngC ((n : Int) - 1) (-1) n) (gW d n x W0 k P L w0 none) (stW d []) =
    .nx (gW d n x W0 k' P' L' w x15) (stW d (dec d n k P L)) := by
  have hr5 := h.r5
  have hr1 := h.r1
  have hs5 := h.s5
  obtain ⟨g', l', e1, e2⟩ := for_inv (it := ⟨rngC ((n : Int) - 1) (-1) n, none⟩) (gt := gN 15) (b := b5__law_row) (fun j g l => j ≤ n ∧ ∃ (k' P' L' : Nat) (suf : List Nat) (w : Int) (y : Option D), Bk d n k P L j k' P' L' suf ∧ (j < n → k' ≤ n - j - 1 → w = (C (n - j - 1) k' : Int)) ∧ g = gW d n x W0 k' P' L' w y ∧ l = stW d suf)
    (fun _ _ _ _ => trivial) (rngC ((n : Int) - 1) (-1) n) 0 (gW d n x W0 k P L w0 none) (stW d []) ⟨by omega, k, P, L, [], w0, none, Bk.start v, by simpa using hw0, rfl, rfl⟩ (by
      rintro j e g l hj ⟨hjn, k', P', L', suf, w, y, hb, hw, rfl, rfl⟩
      obtain ⟨hjl, he⟩ := rngC_get hj
      subst he
      clear hj
      rw [Nat.zero_add] at *
      have hat : (n : Int) - 1 + (j : Nat) * (-1) = ((n - j - 1 : Nat) : Int) := by omega
      obtain ⟨m, hm⟩ : ∃ m, n - j = m + 1 := ⟨n - j - 1, by omega⟩
      have e1 : n - j - 1 = m := by omega
      have e2 : n - (j + 1) - 1 = m - 1 := by omega
      rw [hat, e1]
      rw [e1] at hw
      have hw := hw hjl
      have hsl : suf.length + 1 ≤ 16777216 := by have := hb.l; omega
      have hml : m < 400 := by omega
      refine ⟨gW d n x W0 k' P' L' w (some (nD m)), rfl, ?_⟩
      rcases hb.next h hjl with ⟨c1, c2, f, hf, hb2⟩ | ⟨c, hs, kn2, f, hf, hb2⟩
      · rw [e1] at c2 hb2
        have hlen : (hvL d).length = rr d := rfl
        have hrne : ¬ rr d = 0 := by omega
        have dv : divOk (rr d : Int) = true := divOk_n (by omega) (by omega)
        have fm : (L' : Int).fmod (rr d : Int) = (L' : Int) % (rr d : Int) := Int.fmod_eq_emod_of_nonneg _ (by omega)
        have hix : atI ((hvL d).map nD) ((L' : Int) % (rr d : Int)) = some (nD f) := by rw [← Int.natCast_emod, atI_nat_e, List.getElem?_map, hf]; rfl
        have c1' : (0 : Int) < (k' : Int) := by omega
        by_cases q : m < k'
        · have q' : (m : Int) < (k' : Int) := by omega
          have q2 : ¬ (k' : Int) ≤ (m : Int) := by omega
          have hC0 : C m k' = 0 := C_lt m k' q
          have hkk : (k' : Int) - 1 = ((k' - 1 : Nat) : Int) := by omega
          have fin : b5__law_row (gW d n x W0 k' P' L' w (some (nD m))) (stW d suf) = .nx (gW d n x W0 (k' - 1) P' (L' / rr d) w (some (nD m))) (stW d (f :: suf)) := by
            simp only [gW, stW, b5__law_row]
            simp [c1', c1, q', q2, q, fm, hrne, hix, dv, hsl, hkk]
          rw [fin]
          refine ⟨by omega, k' - 1, P' - C m k', L' / rr d, f :: suf, w, _, hb2, fun z1 z2 => by omega, by rw [hC0]; rfl, rfl⟩
        · have hk : k' ≤ m := by omega
          have hwv := hw hk
          have q' : ¬ (m : Int) < (k' : Int) := by omega
          have q2 : (k' : Int) ≤ (m : Int) := by omega
          have q3 : w ≤ (P' : Int) := by rw [hwv]; omega
          have hkk : (k' : Int) - 1 = ((k' - 1 : Nat) : Int) := by omega
          have hpp : (P' : Int) - w = ((P' - C m k' : Nat) : Int) := by rw [hwv]; omega
          have mk : mulOk w (k' : Int) = true := by rw [hwv]; exact mul_C (by omega) (by omega)
          have dm : divOk (m : Int) = true := divOk_n (by omega) (by omega)
          have hww : w * (k' : Int) / (m : Int) = (C (m - 1) (k' - 1) : Int) := by rw [hwv]; exact C_down1 m k' (by omega) (by omega)
          have fin : b5__law_row (gW d n x W0 k' P' L' w (some (nD m))) (stW d suf) = .nx (gW d n x W0 (k' - 1) (P' - C m k') (L' / rr d) (C (m - 1) (k' - 1)) (some (nD m))) (stW d (f :: suf)) := by
            simp only [gW, stW, b5__law_row]
            simp [c1', c1, q', q2, q3, q, hk, fm, hrne, hix, dv, hsl, hkk, hpp, mk, dm, hww]
          rw [fin]
          exact ⟨by omega, k' - 1, P' - C m k', L' / rr d, f :: suf, _, _, hb2, fun z1 z2 => by rw [e2], rfl, rfl⟩
      · rw [e1] at c kn2
        have hlen : (ltL d).length = ss d := rfl
        have hrne : ¬ ss d = 0 := by omega
        have dv : divOk (ss d : Int) = true := divOk_n (by omega) (by omega)
        have fm : (L' : Int).fmod (ss d : Int) = (L' : Int) % (ss d : Int) := Int.fmod_eq_emod_of_nonneg _ (by omega)
        have hix : atI ((ltL d).map nD) ((L' : Int) % (ss d : Int)) = some (nD f) := by rw [← Int.natCast_emod, atI_nat_e, List.getElem?_map, hf]; rfl
        have hwv := hw kn2
        have tst : 0 < k' → ¬ (m : Int) < (k' : Int) ∧ ¬ w ≤ (P' : Int) := fun z => ⟨by omega, by rw [hwv]; omega⟩
        have mk : mulOk w ((m : Int) - (k' : Int)) = true := by rw [hwv]; exact mul_C (by omega) (by omega)
        have q1 : ¬ m < k' := by omega
        by_cases m0 : 0 < m
        · have m0' : (0 : Int) < (m : Int) := by omega
          have dm : divOk (m : Int) = true := divOk_n (by omega) (by omega)
          have hww : w * ((m : Int) - (k' : Int)) / (m : Int) = (C (m - 1) k' : Int) := by rw [hwv]; exact C_down2 m k' kn2 m0
          have fin : b5__law_row (gW d n x W0 k' P' L' w (some (nD m))) (stW d suf) = .nx (gW d n x W0 k' P' (L' / ss d) (C (m - 1) k') (some (nD m))) (stW d (f :: suf)) := by
            simp only [gW, stW, b5__law_row]
            by_cases k0 : 0 < k'
            · have k0' : (0 : Int) < (k' : Int) := by omega
              obtain ⟨t1, t2⟩ := tst k0
              simp [k0, k0', t1, t2, q1, fm, hrne, hix, dv, hsl, mk, dm, hww, m0, m0']
            · have k0' : ¬ (0 : Int) < (k' : Int) := by omega
              simp [k0, k0', q1, fm, hrne, hix, dv, hsl, mk, dm, hww, m0, m0']
          rw [fin]
          exact ⟨by omega, k', P', L' / ss d, f :: suf, _, _, hb2, fun z1 z2 => by rw [e2], rfl, rfl⟩
        · have m0' : ¬ (0 : Int) < (m : Int) := by omega
          have fin : b5__law_row (gW d n x W0 k' P' L' w (some (nD m))) (stW d suf) = .nx (gW d n x W0 k' P' (L' / ss d) 0 (some (nD m))) (stW d (f :: suf)) := by
            simp only [gW, stW, b5__law_row]
            by_cases k0 : 0 < k'
            · have k0' : (0 : Int) < (k' : Int) := by omega
              obtain ⟨t1, t2⟩ := tst k0
              simp [k0, k0', t1, t2, q1, fm, hrne, hix, dv, hsl, m0, m0']
            · have k0' : ¬ (0 : Int) < (k' : Int) := by omega
              simp [k0, k0', q1, fm, hrne, hix, dv, hsl, m0, m0']
          rw [fin]
          exact ⟨by omega, k', P', L' / ss d, f :: suf, _, _, hb2, fun z1 z2 => by omega, rfl, rfl⟩)
  obtain ⟨_, k', P', L', suf, w, y, hb, hw, rfl, rfl⟩ := e2
  rw [rngC_length, Nat.zero_add] at hb
  have e3 := hb.e
  rw [Nat.sub_self] at e3
  simp only [dec, List.nil_append] at e3
  rw [e3]
  exact ⟨k', P', L', w, y, e1⟩
theorem run_lrow (h : DieOk d) {n k x : Nat} (hn : n ≤ 400) (hx : x < sizeN d n k) (hk : k ≤ n) : ∃ junk, runB 17 den__law_row [dieD d, nD n, nD k, nD x] [] = .ok (rowD (rowN d n k x)) junk := by
  have v := val_of hx
  have hW : 0 < W d n k := by have := v.l; omega
  have hd5 := h.hi
  have c1 := fun l => call_lform h l
  have c3 := fun l => call_lpowerI (rr d) k k rfl h.r5 (by omega) l
  have c4 := fun l => call_lpowerI (ss d) (n - k) ((n : Int) - k) (by omega) h.s5 (by omega) l
  have m1 : mulOk ((rr d : Int) ^ k) ((ss d : Int) ^ (n - k)) = true := (bdp _ k h.r5).mulOk (bdp _ _ h.s5) (by omega)
  have eW : (rr d : Int) ^ k * (ss d : Int) ^ (n - k) = (W d n k : Int) := by simp [W]
  have dW : divOk (W d n k : Int) = true := Bd.divOk (by omega) (bdW h n k hk) (by omega)
  have hWne : ¬ W d n k = 0 := by omega
  have fm : (x : Int).fmod (W d n k : Int) = (x : Int) % (W d n k : Int) := Int.fmod_eq_emod_of_nonneg _ (by omega)
  have ex : nD (x % W d n k) = .int ((x : Int) % (W d n k : Int)) := by rw [nD, Int.natCast_emod]
  have ep : nD (x / W d n k) = .int ((x : Int) / (W d n k : Int)) := by rw [nD, Int.natCast_ediv]
  have hm : mid ((n : Int) - 1) = true := by unfold mid; exact decide_eq_true (by omega)
  have hmd : mid (d.length : Int) = true := by rw [mid_nat]; simp; omega
  have ht2 : ((n : Int) - 1 + 1).toNat = n := by omega
  have mm1 : mid (-1) = true := by decide
  have lh := fun l => lc_lhv h l (some (nD n)) (some (nD k)) (some (nD x)) (some (nD (rr d))) (some (nD (lw d))) (some (nD (ss d))) none none none none none none none none
  have ll := fun l => lc_llt h l (some (nD n)) (some (nD k)) (some (nD x)) (some (nD (rr d))) (some (nD (lw d))) (some (nD (ss d))) (some (.adr 0)) none none none none none none none
  have st0 : ∀ w0 : Int, (0 < n → k ≤ n - 1 → w0 = (C (n - 1) k : Int)) → ∃ junk, (sSeq (sFor (dRng3 (dCons (dOp (hInt yes2 fun i j => i - j) (dV 1) (dC (.int 1))) (dCons (dUn hNeg (dC (.int 1))) (dCons (dUn hNeg (dC (.int 1))) dNil)))) (gN 15) b5__law_row)
    (sRet (dCB hTupOf (dCons (dUn hRev (dV 13)) dNil))) (gW d n x (W d n k) k (x / W d n k) (x % W d n k) w0 none) (stW d [])).toB = .ok (rowD (rowN d n k x)) junk := fun w0 hw0 => by
    obtain ⟨k', P', L', w, y, e⟩ := loop_lrow h (x := x) (W0 := (W d n k : Int)) hn v hw0
    refine ⟨stW d (rowN d n k x) ++ [.lst ((rowN d n k x).map nD)], ?_⟩
    simp only [gW, stW, rowD] at e ⊢
    rw [ex, ep] at e ⊢
    simp at e
    simp [hm, mm1, ht2, e, rowN]
  by_cases n0 : 0 < n
  · have n0' : (0 : Int) < (n : Int) := by omega
    have c5 := fun l => call_lchooseI (n - 1) k ((n : Int) - 1) k (by omega) rfl (by omega) (by omega) l
    obtain ⟨junk, e⟩ := st0 (C (n - 1) k) (fun _ _ => rfl)
    refine ⟨junk, ?_⟩
    rw [← e]
    simp only [gW, stW, dieD, rowD] at lh ll c1 ⊢
    rw [ex, ep]
    simp [den__law_row, c1, lh, ll, hmd, c3, c4, m1, eW, dW, hWne, fm, n0, n0', c5]
  · have n0' : ¬ (0 : Int) < (n : Int) := by omega
    obtain ⟨junk, e⟩ := st0 0 (fun z => absurd z n0)
    refine ⟨junk, ?_⟩
    rw [← e]
    simp only [gW, stW, dieD, rowD] at lh ll c1 ⊢
    rw [ex, ep]
    simp [den__law_row, c1, lh, ll, hmd, c3, c4, m1, eW, dW, hWne, fm, n0, n0']
theorem call_lrow (h : DieOk d) {n k x : Nat} (i : Int) (hi : i = x) (hn : n ≤ 400) (hx : x < sizeN d n k) (hk : k ≤ n) (l : Sto) : m__law_row [dieD d, nD n, nD k, .int i] l = .ok (rowD (rowN d n k x)) l := by
  subst hi
  obtain ⟨junk, e⟩ := run_lrow h hn hx hk
  exact callM_p (by simp) e (by simp)
end
end Q81

set_option Elab.async false
set_option linter.all false
set_option maxRecDepth 100000
set_option maxHeartbeats 4000000
namespace Q81
open PySem L2 PySem.Spec PyProof.Rows Zb Nm
/-! ### _law_same: a thing and itself -/
mutual
def plD : D → Bool
  | .int _ => true
  | .str _ => true
  | .bl _ => true
  | .non => true
  | .tup ds => plDs ds
  | _ => false
def plDs : List D → Bool
  | [] => true
  | d :: ds => plD d && plDs ds
end
mutual
def wD : D → Nat
  | .tup ds => wDs ds + 1
  | _ => 1
def wDs : List D → Nat
  | [] => 0
  | d :: ds => wD d + wDs ds
end
theorem wDs_app : ∀ xs ys : List D, wDs (xs ++ ys) = wDs xs + wDs ys
  | [], ys => by simp [wDs]
  | x :: xs, ys => by simp [wDs, wDs_app xs ys]; omega
theorem plDs_app : ∀ xs ys : List D, plDs (xs ++ ys) = (plDs xs && plDs ys)
  | [], ys => by simp [plDs]
  | x :: xs, ys => by simp [plDs, plDs_app xs ys, Bool.and_assoc]
theorem wD_pos (d : D) : 1 ≤ wD d := by cases d <;> simp [wD]
theorem wDs_len : ∀ xs : List D, xs.length ≤ wDs xs
  | [] => by simp
  | x :: xs => by
    have := wDs_len xs
    have := wD_pos x
    simp [wDs]; omega
mutual
theorem pl_pu : ∀ d : D, plD d = true → pu d = true
  | .int _, _ => rfl
  | .str _, _ => rfl
  | .bl _, _ => rfl
  | .non, _ => rfl
  | .tup ds, h => by simp only [pu]; exact pls_pu ds (by simpa [plD] using h)
  | .adr _, h => by simp [plD] at h
  | .ty _, h => by simp [plD] at h
  | .ro _, h => by simp [plD] at h
theorem pls_pu : ∀ ds : List D, plDs ds = true → pus ds = true
  | [], _ => rfl
  | d :: ds, h => by
    simp only [plDs, Bool.and_eq_true] at h
    simp only [pus, pl_pu d h.1, pls_pu ds h.2, Bool.and_self]
end
def pr (d : D) : D := .tup [d, d]
theorem pairs_same (x0 x1 x2 : Option D) (ds : List D) (l : Sto) (hl : ds.length ≤ 16777216) : lcL ⟨rng 0 ds.length, none⟩ (gN 5) dYes e1__law_same [x0, x1, x2, some (.tup ds), some (.tup ds), none] (rng 0 ds.length) l [] = .ok (ds.map pr) l := by
  conv => lhs; arg 6; rw [rng_eq]
  rw [lcL_fmap (by trivial) (fun i => nD i) (fun i => pr (ds.getD i .non)) (fun _ => true) _ _ (fun o ho => ?_) (by simp; omega)]
  · have ft : (List.range ds.length).filter (fun _ => true) = List.range ds.length := List.filter_eq_self.mpr fun _ _ => rfl
    rw [ft, List.nil_append]
    congr 1
    apply List.ext_getElem?
    intro i
    rw [List.getElem?_map, List.getElem?_map]
    by_cases h : i < ds.length
    · rw [List.getElem?_range h, List.getElem?_eq_getElem h]
      simp [List.getD_eq_getElem?_getD, h]
    · rw [List.getElem?_eq_none (by simp; omega), List.getElem?_eq_none (by omega)]
      rfl
  · have ho' := List.mem_range.mp ho
    obtain ⟨x, hx⟩ : ∃ x, ds[o]? = some x := ⟨_, List.getElem?_eq_getElem ho'⟩
    have e : ds.getD o .non = x := by rw [List.getD_eq_getElem?_getD, hx]; rfl
    refine ⟨[x0, x1, x2, some (.tup ds), some (.tup ds), some (nD o)], rfl, rfl, fun _ => ?_⟩
    rw [e]
    simp only [e1__law_same]
    simp [hx, pr]
def gS (t u : D) (x3 x4 x5 : Option D) : Sl := [some t, some u, some (.adr 0), x3, x4, x5]
theorem same_leaf (t u : D) (x3 x4 x5 : Option D) (xs : List D) (d : D) (hd : plD d = true) (hw : ∀ ds, d ≠ .tup ds) (junk : Sto) : b3__law_same (gS t u x3 x4 x5) (.lst ((xs ++ [d]).map pr) :: junk) = .nx (gS t u (some d) (some d) x5) (.lst (xs.map pr) :: junk) := by
  have k1 : kitB "int" "tuple" = some false := by decide
  have k2 : kitB "int" "str" = some false := by decide
  have k3 : kitB "int" "bool" = some false := by decide
  have k4 : kitB "int" "int" = some true := by decide
  have k5 : kitB "str" "tuple" = some false := by decide
  have k6 : kitB "str" "str" = some true := by decide
  have k7 : kitB "bool" "tuple" = some false := by decide
  have k8 : kitB "bool" "str" = some false := by decide
  have k9 : kitB "bool" "bool" = some true := by decide
  have k10 : kitB "NoneType" "tuple" = some false := by decide
  simp only [gS, b3__law_same]
  cases d with
  | int i => simp [pr, k1, k2, k3, k4]
  | str i => simp [pr, k5, k6]
  | bl i => simp [pr, k7, k8, k9]
  | non => simp [pr, k10]
  | tup ds => exact absurd rfl (hw ds)
  | _ => simp [plD] at hd
theorem same_tup (t u : D) (x3 x4 : Option D) (xs ds : List D) (junk : Sto) (hl : xs.length + ds.length ≤ 16000000) : ∃ junk', b3__law_same (gS t u x3 x4 none) (.lst ((xs ++ [D.tup ds]).map pr) :: junk) = .nx (gS t u (some (.tup ds)) (some (.tup ds)) none) (.lst ((xs ++ ds).map pr) :: junk') := by
  have k1 : kitB "tuple" "tuple" = some true := by decide
  have lc := fun l => pairs_same (some t) (some u) (some (.adr 0)) ds l (by omega)
  have hm : ds.length ≤ 1000000000000 := by omega
  have h1 : xs.length + ds.length ≤ 16777216 := by omega
  refine ⟨junk ++ [.lst (ds.map pr)], ?_⟩
  simp only [gS, b3__law_same]
  simp [pr, k1, hm, lc, h1]
theorem run_same (d : D) (hp : plD d = true) (hw : wD d ≤ 16000000) : ∃ junk, runB 6 den__law_same [d, d] [] = .ok (.bl true) junk := by
  obtain ⟨g', l', e1, e2⟩ := while_inv (c := c2__law_same) (b := b3__law_same) (fun n g l => ∃ (xs : List D) (x3 x4 : Option D) (junk : Sto), n = wDs xs ∧ plDs xs = true ∧ n ≤ 16000000 ∧ g = gS d d x3 x4 none ∧ l = .lst (xs.map pr) :: junk)
    (fun g l => True) (by
      rintro n g l ⟨xs, x3, x4, junk, rfl, h2, h3, rfl, rfl⟩
      rcases List.eq_nil_or_concat xs with rfl | ⟨ys, y, rfl⟩
      · left
        exact ⟨by simp [c2__law_same, gS], trivial⟩
      · right
        rw [List.concat_eq_append] at *
        rw [wDs_app] at *
        rw [plDs_app, Bool.and_eq_true] at h2
        simp only [wDs, plDs, Bool.and_true, Nat.add_zero] at h2 h3 ⊢
        have hy := wD_pos y
        refine ⟨by simp [c2__law_same, gS], ?_⟩
        by_cases ht : ∃ ds, y = .tup ds
        · obtain ⟨ds, rfl⟩ := ht
          simp only [wD] at h3 hy ⊢
          have l1 := wDs_len ys
          have l2 := wDs_len ds
          obtain ⟨junk', e⟩ := same_tup d d x3 x4 ys ds junk (by omega)
          exact ⟨_, _, wDs (ys ++ ds), e, by rw [wDs_app]; omega, ys ++ ds, _, _, junk', rfl, by rw [plDs_app, h2.1]; simpa [plD] using h2.2, by rw [wDs_app]; omega, rfl, rfl⟩
        · have e := same_leaf d d x3 x4 none ys y h2.2 (fun ds z => ht ⟨ds, z⟩) junk
          exact ⟨_, _, wDs ys, e, by omega, ys, _, _, junk, rfl, h2.1, by omega, rfl, rfl⟩) fuel (wDs [d]) (gS d d none none none) [.lst [pr d]] (by simp only [wDs, fuel]; omega) ⟨[d], none, none, [], rfl, by simp [plDs, hp], by simp only [wDs]; omega, rfl, rfl⟩
  refine ⟨l', ?_⟩
  simp only [gS, pr] at e1
  simp [den__law_same, e1]
theorem call_same (d : D) (hp : plD d = true) (hw : wD d ≤ 16000000) (l : Sto) : m__law_same [d, d] l = .ok (.bl true) l := by
  obtain ⟨junk, e⟩ := run_same d hp hw
  exact callM_p (by simp [pl_pu d hp]) e (by simp)
theorem pl_nD : ∀ ns : List Nat, plDs (ns.map nD) = true ∧ wDs (ns.map nD) = ns.length
  | [] => by simp [plDs, wDs]
  | n :: ns => by
    obtain ⟨h1, h2⟩ := pl_nD ns
    simp [plDs, wDs, plD, wD, h1, h2]
    omega
@[simp] theorem pl_row (fs : List Nat) : plD (rowD fs) = true := by simp [rowD, plD, pl_nD]
theorem w_row (fs : List Nat) : wD (rowD fs) = fs.length + 1 := by simp [rowD, wD, pl_nD]
@[simp] theorem plD_int (i : Int) : plD (.int i) = true := rfl
@[simp] theorem plD_str (i : Str) : plD (.str i) = true := rfl
@[simp] theorem plD_non : plD .non = true := rfl
@[simp] theorem plD_tup (ds : List D) : plD (.tup ds) = plDs ds := by simp [plD]
@[simp] theorem plDs_nil : plDs [] = true := rfl
@[simp] theorem plDs_cons (d : D) (ds : List D) : plDs (d :: ds) = (plD d && plDs ds) := by simp [plDs]
@[simp] theorem wD_int (i : Int) : wD (.int i) = 1 := rfl
@[simp] theorem wD_str (i : Str) : wD (.str i) = 1 := rfl
@[simp] theorem wD_non : wD .non = 1 := rfl
@[simp] theorem wD_tup (ds : List D) : wD (.tup ds) = wDs ds + 1 := by simp [wD]
@[simp] theorem wDs_nil : wDs [] = 0 := rfl
@[simp] theorem wDs_cons (d : D) (ds : List D) : wDs (d :: ds) = wD d + wDs ds := by simp [wDs]
end Q81

set_option Elab.async false
set_option linter.all false
set_option maxRecDepth 100000
set_option maxHeartbeats 4000000
namespace Q81
open PySem L2 PySem.Spec PyProof.Rows Zb Nm
section
variable {d : List Nat}
/-! ### choice_row, kind_sizes, kind_sums -/
theorem run_crow (n : Nat) (hn : n ≤ 400) : ∃ junk, runB 3 den_choice_row [nD n] [] = .ok (.tup ((List.range (n + 1)).map fun k => nD (C n k))) junk := by
  obtain ⟨g', l', e1, e2⟩ := for_inv (it := ⟨rng 0 n, none⟩) (gt := gN 2) (b := b1_choice_row) (fun j g l => j ≤ n ∧ ∃ y, g = [some (nD n), some (.adr 0), y] ∧ l = [.lst ((List.range (j + 1)).map fun k => nD (C n k))])
    (fun _ _ _ _ => trivial) (rng 0 n) 0 [some (nD n), some (.adr 0), none] [.lst [.int 1]] ⟨by omega, none, rfl, by simp [List.range_succ]⟩ (by
      rintro j e g l hj ⟨hjn, y, rfl, rfl⟩
      obtain ⟨hjl, he⟩ := rng_get hj
      subst he
      rw [Nat.zero_add] at *
      refine ⟨_, rfl, ?_⟩
      have d1 : divOk ((j : Int) + 1) = true := divOk_1 (by omega)
      have d2 : mulOk (C n j) ((n : Int) - j) = true := mul_C (by omega) (by omega)
      have d3 := C_next n j
      have hl : j + 1 + 1 ≤ 16777216 := by omega
      have hl2 : j + 1 ≤ 16777215 := by omega
      have hlast : ((List.range (j + 1)).map fun k => nD (C n k))[j]? = some (nD (C n j)) := by
        rw [List.getElem?_map, List.getElem?_range (by omega)]; rfl
      simp [b1_choice_row, hlast, d1, d2, d3, hl, hl2, Out.on, -List.getElem?_map]
      refine ⟨by omega, ?_⟩
      conv => rhs; rw [List.range_succ]
      simp)
  obtain ⟨_, y, rfl, rfl⟩ := e2
  rw [rng_length, Nat.zero_add] at e1
  have hm : mid (n : Int) = true := by rw [mid_nat]; simp; omega
  exact ⟨_, by simp [den_choice_row, hm, e1]; rfl⟩
theorem pus_map (f : Nat → Nat) (xs : List Nat) : pus (xs.map fun k => nD (f k)) = true := by
  have := pus_nD (xs.map f)
  rwa [List.map_map] at this
theorem call_crow (n : Nat) (hn : n ≤ 400) (l : Sto) : m_choice_row [nD n] l = .ok (.tup ((List.range (n + 1)).map fun k => nD (C n k))) l := by
  obtain ⟨junk, e⟩ := run_crow n hn
  exact callM_p (by simp) e (by simpa using pus_map (C n) _)
theorem lc_sizes (h : DieOk d) (n : Nat) (hn : n ≤ 400) (l : Sto) : lcL ⟨rng 0 (n + 1), none⟩ (gN 7) dYes e1_kind_sizes [some (dieD d), some (nD n), some (nD (wt d 0)), some (nD (rr d)), some (nD (lw d)), some (nD (ss d)), some (.tup ((List.range (n + 1)).map fun k => nD (C n k))), none] (rng 0 (n + 1)) l [] = .ok ((List.range (n + 1)).map fun k => nD (sizeN d n k)) l := by
  conv => lhs; arg 6; rw [rng_eq]
  have ft : (List.range (n + 1)).filter (fun _ => true) = List.range (n + 1) := List.filter_eq_self.mpr fun _ _ => rfl
  rw [lcL_fmap (by trivial) (fun i => nD i) (fun k => nD (sizeN d n k)) (fun _ => true) _ _ (fun k hk => ?_) (by simp; omega)]
  · rw [ft]; rfl
  · have hk' := List.mem_range.mp hk
    have hx : ((List.range (n + 1)).map fun k => nD (C n k))[k]? = some (nD (C n k)) := by rw [List.getElem?_map, List.getElem?_range hk']; rfl
    have c3 := fun l => call_powerI (rr d) k k rfl h.r5 (by omega) l
    have c4 := fun l => call_powerI (ss d) (n - k) ((n : Int) - k) (by omega) h.s5 (by omega) l
    have m1 : mulOk (C n k) ((rr d : Int) ^ k) = true := (bdC n k).mulOk (bdp _ k h.r5) (by omega)
    have m2 : mulOk ((C n k : Int) * (rr d : Int) ^ k) ((ss d : Int) ^ (n - k)) = true := ((bdC n k).mul (bdp _ k h.r5)).mulOk (bdp _ (n - k) h.s5) (by omega)
    refine ⟨[some (dieD d), some (nD n), some (nD (wt d 0)), some (nD (rr d)), some (nD (lw d)), some (nD (ss d)), some (.tup ((List.range (n + 1)).map fun k => nD (C n k))), some (nD k)], rfl, rfl, fun _ => ?_⟩
    simp only [e1_kind_sizes]
    simp [hx, c3, c4, m1, m2, sizeN, -List.getElem?_map]
theorem call_sizes (h : DieOk d) (n : Nat) (i : Int) (hi : i = n) (hn : n ≤ 400) (l : Sto) : m_kind_sizes [dieD d, .int i] l = .ok (.tup ((List.range (n + 1)).map fun k => nD (sizeN d n k))) l := by
  subst hi
  refine callM_p (junk := [.lst ((List.range (n + 1)).map fun k => nD (sizeN d n k))]) (by simp) ?_ (by simpa using pus_map (sizeN d n) _)
  have c1 := fun l => call_form h l
  have c2 := fun l => call_crow n hn l
  have lc := fun l => lc_sizes h n hn l
  have hm : mid ((n : Int) + 1) = true := by unfold mid; exact decide_eq_true (by omega)
  have ht : ((n : Int) + 1).toNat = n + 1 := by omega
  simp only [dieD] at c1 lc ⊢
  simp [den_kind_sizes, c1, c2, hm, ht, lc]
end
end Q81

set_option Elab.async false
set_option linter.all false
set_option maxRecDepth 100000
set_option maxHeartbeats 4000000
namespace Q81
open PySem L2 PySem.Spec PyProof.Rows Zb Nm
/-! ### the jug -/
def ob (J : Jug) : OB := .lst [.adr 1, .int J.f]
def JOk (J : Jug) : Prop := 0 ≤ J.f ∧ J.f < 2147483563 ∧ J.gs.length ≤ 1000
theorem reach_J (J : Jug) (r : Sto) (ds : List D) (h : pus ds = true) : reach ([ob J, J.gob] ++ r) (adsDs (.adr 0 :: ds)) = List.range 2 := by
  have e : adsDs (.adr 0 :: ds) = [0] := by simp [adsDs, adsD, adss_pure ds h]
  rw [e]
  have l1 : levS ([ob J, J.gob] ++ r) [0] = [1] := by simp [levS, ob, adsO, adsDs, adsD]
  have l2 : levS ([ob J, J.gob] ++ r) [1] = [] := by simp [levS, Jug.gob, adsO, adss_pure _ (pus_ints J.gs)]
  unfold reach
  simp only [l1, l2, show levS ([ob J, J.gob] ++ r) [] = [] from rfl]
  rfl
theorem closed_J (J : Jug) : ∀ o ∈ [ob J, J.gob], ∀ j ∈ adsO o, j < 2 := by
  intro o ho j hj
  simp only [List.mem_cons, List.not_mem_nil, or_false] at ho
  rcases ho with rfl | rfl
  · simp [ob, adsO, adsDs, adsD] at hj; omega
  · rw [Jug.gob] at hj; simp [adsO, adss_pure _ (pus_ints J.gs)] at hj
section
variable {run : List D → Sto → Res D} {ds : List D} {J J' : Jug} {junk : Sto} {d : D}
theorem callJ (hds : pus ds = true) (h : run (.adr 0 :: ds) [ob J, J.gob] = .ok d (ob J' :: J'.gob :: junk)) (hd : pu d = true) (r : Sto) : callM run (.adr 0 :: ds) (ob J :: J.gob :: r) = .ok d (ob J' :: J'.gob :: r) :=
  callM_pre (S := [ob J, J.gob]) (S' := [ob J', J'.gob]) (r := r) (k := 2) rfl (reach_J J r ds hds) (closed_J J) (by simpa using h) rfl (closed_J J') (by rw [ads_pure d hd]; simp)
end
@[simp] theorem ixN_last (n : Nat) : ixN (n + 1) (-1) = some n := by
  unfold ixN
  rw [if_neg (by omega), if_pos (by omega)]
  congr 1
  omega
theorem mul_f {f c : Int} (h : 0 ≤ f ∧ f < 2147483563) (hc : c.natAbs < 2 ^ 31) : mulOk f c = true :=
  Bd.mulOk (a := 31) (b := 31) (by unfold Bd; have : (2 : Nat) ^ 31 = 2147483648 := rfl; omega) hc (by decide)
theorem run_pour (J : Jug) (m : Nat) (hJ : JOk J) (h1 : 1 ≤ m) (h2 : m ≤ 1000000) : ∃ (n : Nat) (J' : Jug), n < m ∧ JOk J' ∧ runB 4 den__law_pour [.adr 0, nD m] [ob J, J.gob] = .ok (nD n) [ob J', J'.gob] := by
  obtain ⟨f, gs⟩ := J
  obtain ⟨hJ1, hJ2, hJ3⟩ := hJ
  simp only at hJ1 hJ2 hJ3
  have hm' : ¬ m = 0 := by omega
  have hd := divOk_n h1 (by omega : m < 1048576)
  obtain ⟨g', l', e1, e2⟩ := while_inv (c := c1__law_pour) (b := b2__law_pour) (fun n g l => n ≤ 1000 ∧ ∃ hs : List Int, hs.length = n ∧ g = [some (.adr 0), some (nD m), some (.adr 1), none] ∧ l = [ob ⟨f, hs⟩, .lst (hs.map D.int)])
    (fun g l => ∃ hs : List Int, hs.length ≤ 1000 ∧ g = [some (.adr 0), some (nD m), some (.adr 1), none] ∧ l = [ob ⟨f, hs⟩, .lst (hs.map D.int)]) (by
      rintro n g l ⟨hn, hs, rfl, rfl, rfl⟩
      rcases List.eq_nil_or_concat hs with rfl | ⟨hs', s, rfl⟩
      · left
        exact ⟨by simp [c1__law_pour], [], by simp, rfl, rfl⟩
      · rw [List.concat_eq_append] at *
        by_cases q : s = 0
        · right
          subst q
          refine ⟨by simp [c1__law_pour], [some (.adr 0), some (nD m), some (.adr 1), none], [ob ⟨f, hs'⟩, .lst (hs'.map D.int)], hs'.length, by simp [b2__law_pour, ob], by simp, by simp at hn; omega, hs', rfl, rfl, rfl⟩
        · left
          exact ⟨by simp [c1__law_pour, q], _, hn, rfl, rfl⟩) fuel gs.length [some (.adr 0), some (nD m), some (.adr 1), none] [ob ⟨f, gs⟩, .lst (gs.map D.int)] (by unfold fuel; omega) ⟨hJ3, gs, rfl, rfl, rfl⟩
  obtain ⟨hs, hl, rfl, rfl⟩ := e2
  simp only [ob] at e1
  rcases List.eq_nil_or_concat hs with rfl | ⟨hs', s, rfl⟩
  · have hmul : mulOk f 41358 = true := mul_f ⟨hJ1, hJ2⟩ (by decide)
    have hd2 : divOk 109 = true := by decide
    have hf0 : 0 ≤ (f * 41358 + 1201).fmod 2147483563 := Int.fmod_nonneg_of_pos _ (by decide)
    have hf1 : (f * 41358 + 1201).fmod 2147483563 < 2147483563 := Int.fmod_lt_of_pos _ (by decide)
    have n0 : 0 ≤ ((f * 41358 + 1201).fmod 2147483563 / 109).fmod (m : Int) := Int.fmod_nonneg_of_pos _ (by omega)
    have n1 : ((f * 41358 + 1201).fmod 2147483563 / 109).fmod (m : Int) < (m : Int) := Int.fmod_lt_of_pos _ (by omega)
    obtain ⟨n, hn⟩ : ∃ n : Nat, ((f * 41358 + 1201).fmod 2147483563 / 109).fmod (m : Int) = (n : Int) := ⟨_, (Int.toNat_of_nonneg n0).symm⟩
    refine ⟨n, ⟨(f * 41358 + 1201).fmod 2147483563, []⟩, by omega, ⟨hf0, hf1, by simp⟩, ?_⟩
    simp only [List.map_nil] at e1
    simp [den__law_pour, ob, Jug.gob, e1, hmul, hd2, hm', hn]
  · rw [List.concat_eq_append] at *
    have n0 : 0 ≤ s.fmod (m : Int) := Int.fmod_nonneg_of_pos _ (by omega)
    have n1 : s.fmod (m : Int) < (m : Int) := Int.fmod_lt_of_pos _ (by omega)
    obtain ⟨n, hn⟩ : ∃ n : Nat, s.fmod (m : Int) = (n : Int) := ⟨_, (Int.toNat_of_nonneg n0).symm⟩
    refine ⟨n, ⟨f, hs' ++ [s / m]⟩, by omega, ⟨hJ1, hJ2, by simpa using hl⟩, ?_⟩
    simp at e1
    simp [den__law_pour, ob, Jug.gob, e1, hd, hm', hn]
theorem pour {J : Jug} (hJ : JOk J) (m : Nat) (i : Int) (hi : i = m) (h1 : 1 ≤ m) (h2 : m ≤ 1000000) : ∃ (n : Nat) (J' : Jug), n < m ∧ JOk J' ∧ ∀ r : Sto, m__law_pour [.adr 0, .int i] (ob J :: J.gob :: r) = .ok (.int n) (ob J' :: J'.gob :: r) := by
  subst hi
  obtain ⟨n, J', h3, h4, e⟩ := run_pour J m hJ h1 h2
  exact ⟨n, J', h3, h4, fun r => callJ (junk := []) (by simp) e (by simp) r⟩
/-! ### _law_jug -/
theorem b1_jug {x0 x4 : Option D} {f : Int} (hf : 0 ≤ f ∧ f < 2147483563) (gs : List Int) (hg : gs.length ≤ 900) (i : Int) (B : OB) : ∃ (f' : Int) (gs' : List Int) (x4' : Option D), (0 ≤ f' ∧ f' < 2147483563) ∧ gs'.length ≤ gs.length + 1 ∧
    b1__law_jug [x0, some (.adr 0), some (.int f), some (.int i), x4] [.lst (gs.map D.int), B] = .nx [x0, some (.adr 0), some (.int f'), some (.int i), x4'] [.lst (gs'.map D.int), B] := by
  have hp : powW 10 60 = true := by decide
  have hp2 : powW (10 ^ 60) 8 = true := by decide +kernel
  have hp3 : powW 10 18 = true := by decide
  have hm : mulOk f 44485709 = true := mul_f hf (by decide)
  have hz : ¬ (((10 : Int) ^ 60) ^ 8 = 0) := by decide +kernel
  have hl : gs.length + 1 ≤ 16777216 := by omega
  generalize hW : (((10 : Int) ^ 60) ^ 8) = W at hz
  generalize hs : (if i < 0 then -i else i).fmod W = s
  by_cases h : (10 : Int) ^ 18 ≤ s
  · refine ⟨(f * 44485709 + s.fmod 1999999949 + 25).fmod 2147483563, gs ++ [s], some (.int s), ⟨Int.fmod_nonneg_of_pos _ (by decide), Int.fmod_lt_of_pos _ (by decide)⟩, by simp, ?_⟩
    simp [b1__law_jug, hp, hp2, hp3, hm, hW, hz, hs, h, hl, -Int.reducePow]
  · refine ⟨(f * 44485709 + s.fmod 1999999949 + 25).fmod 2147483563, gs, some (.int s), ⟨Int.fmod_nonneg_of_pos _ (by decide), Int.fmod_lt_of_pos _ (by decide)⟩, by simp, ?_⟩
    simp [b1__law_jug, hp, hp2, hp3, hm, hW, hz, hs, h, hl, -Int.reducePow]
theorem loop_jug {it : ItD} {B : OB} (hok : ∀ x, it.ok [x, B]) {x0 : Option D} : ∀ (is : List Int) (f : Int) (gs : List Int) (x3 x4 : Option D), (0 ≤ f ∧ f < 2147483563) → gs.length + is.length ≤ 900 →
    ∃ (f' : Int) (gs' : List Int) (y3 y4 : Option D), (0 ≤ f' ∧ f' < 2147483563) ∧ gs'.length ≤ 900 ∧ sForL it (gN 3) b1__law_jug (is.map D.int) [x0, some (.adr 0), some (.int f), x3, x4] [.lst (gs.map D.int), B] = .nx [x0, some (.adr 0), some (.int f'), y3, y4] [.lst (gs'.map D.int), B]
  | [], f, gs, x3, x4, hf, hl => ⟨f, gs, x3, x4, hf, by simpa using hl, by rw [List.map_nil, for_nil _ _ _ _ (hok _)]⟩
  | i :: is, f, gs, x3, x4, hf, hl => by
    simp only [List.length_cons] at hl
    obtain ⟨f1, gs1, y4, h1, h2, e⟩ := b1_jug (x0 := x0) (x4 := x4) hf gs (by omega) i B
    obtain ⟨f', gs', z3, z4, h3, h4, ih⟩ := loop_jug hok (x0 := x0) is f1 gs1 (some (.int i)) y4 h1 (by omega)
    refine ⟨f', gs', z3, z4, h3, h4, ?_⟩
    have hg : gN 3 (D.int i) [.lst (gs.map D.int), B] [x0, some (.adr 0), some (.int f), x3, x4] = some [x0, some (.adr 0), some (.int f), some (.int i), x4] := rfl
    rw [List.map_cons, for_cons _ _ _ _ _ _ (hok _), hg]
    simp only [e, loop_nx, ih]
theorem run_jug (ns : List Int) (hl : ns.length ≤ 63) : ∃ A B J, JOk J ∧ runB 5 den__law_jug [.ro ns] [] = .ok (.adr 3) [A, B, J.gob, .lst [.adr 2, .int J.f]] := by
  obtain ⟨f, gs, y3, y4, h1, h2, e⟩ := loop_jug (it := ⟨(ns.take 48).map D.int, some 1⟩) (B := .lst ((ns.take 48).map D.int)) (fun x => rfl) (x0 := some (.ro ns)) (ns.take 48) 81001 [] none none (by decide) (by simp; omega)
  refine ⟨.lst (gs.map D.int), .lst ((ns.take 48).map D.int), ⟨f, gs.reverse⟩, ⟨h1.1, h1.2, by simp; omega⟩, ?_⟩
  simp only [List.map_nil, List.map_take] at e
  simp [den__law_jug, e, Jug.gob]
theorem call_jug (ns : List Int) (hl : ns.length ≤ 63) : ∃ J, JOk J ∧ m__law_jug [.ro ns] [] = .ok (.adr 0) [ob J, J.gob] := by
  obtain ⟨A, B, J, hJ, e⟩ := run_jug ns hl
  refine ⟨J, hJ, ?_⟩
  unfold m__law_jug
  rw [callM_at (is := []) rfl]
  unfold callAt
  rw [if_pos (okIs_nil _)]
  have e0 : runB 5 den__law_jug (renDs (List.idxOf · []) [.ro ns]) (smallS [] []) = runB 5 den__law_jug [.ro ns] [] := rfl
  rw [e0, e]
  have g0 := adss_pure _ (pus_ints J.gs)
  have f1 : freshF 0 [A, B, J.gob, .lst [.adr 2, .int J.f]] [3] = [3, 2] := by
    unfold freshF reachF
    have z0 : List.filter (fun x => decide (0 ≤ x)) ([3] ++ List.flatMap adsO (List.take 0 [A, B, J.gob, OB.lst [.adr 2, .int J.f]])) = [3] := by simp
    have z1 : levF 0 [A, B, J.gob, OB.lst [.adr 2, .int J.f]] [3] = [2] := by simp [levF, levS, adsO, adsDs, adsD]
    have z2 : levF 0 [A, B, J.gob, OB.lst [.adr 2, .int J.f]] [2] = [] := by simp [levF, levS, Jug.gob, adsO, g0]
    rw [z0]
    simp only [z1, z2, show levF 0 [A, B, J.gob, OB.lst [.adr 2, .int J.f]] [] = [] from rfl]
    rfl
  show finOk [] [] (freshF 0 [A, B, J.gob, .lst [.adr 2, .int J.f]] [3]) (.adr 3) [A, B, J.gob, .lst [.adr 2, .int J.f]] = _
  rw [f1]
  unfold finOk
  rw [if_pos]
  · simp [backS, setAll, renD, backF, renO, renDs, Jug.gob, rens_pure _ _ (pus_ints J.gs), ob, List.idxOf_cons]
  · simp [okS, okD, adsD, adsO, adsDs, Jug.gob, g0]
end Q81

set_option Elab.async false
set_option linter.all false
set_option maxRecDepth 100000
set_option maxHeartbeats 4000000
namespace Q81
open PySem L2 PySem.Spec PyProof.Rows Zb Nm
/-! ### _law_die -/
def prs : List (Nat × Nat) := [(1, 1), (1, 2), (2, 1), (1, 3), (3, 2), (2, 3), (1, 5), (5, 1), (4, 3), (4, 5), (2, 5), (4, 1)]
def prD (p : Nat × Nat) : D := .tup [nD p.1, nD p.2]
theorem prs_ok : ∀ p ∈ prs, 1 ≤ p.1 ∧ p.1 ≤ 5 ∧ 1 ≤ p.2 ∧ p.2 ≤ 5 := by decide
theorem cellsDie (a b : Nat) (most : Int) {it : ItD} (hok : ∀ l, it.ok l) : ∀ (ds : List D) (J : Jug) (hJ : JOk J) (r : Sto) (acc : List Nat), acc.length + ds.length ≤ 1000 →
    ∃ (ns : List Nat) (J' : Jug) (r' : Sto), ns.length = ds.length ∧ (∀ n ∈ ns, n = a ∨ n = b) ∧ JOk J' ∧ lcL it (gN 6) dYes e1__law_die [some (.adr 0), some (.int most), some (.adr 2), some (nD a), some (nD b), none, none] ds (ob J :: J.gob :: r) (acc.map nD) = .ok ((acc ++ ns).map nD) (ob J' :: J'.gob :: (r ++ r'))
  | [], J, hJ, r, acc, _ => ⟨[], J, [], rfl, by simp, hJ, by simp [lcL, hok]⟩
  | e :: ds, J, hJ, r, acc, hl => by
    simp only [List.length_cons] at hl
    obtain ⟨n, J1, hn, hJ1, e1⟩ := pour hJ 2 2 rfl (by decide) (by decide)
    obtain ⟨x, hx, hx2⟩ : ∃ x, [nD a, nD b][n]? = some (nD x) ∧ (x = a ∨ x = b) := by
      match n, hn with
      | 0, _ => exact ⟨a, rfl, .inl rfl⟩
      | 1, _ => exact ⟨b, rfl, .inr rfl⟩
    obtain ⟨ns, J2, r2, h1, h2, hJ2, ih⟩ := cellsDie a b most hok ds J1 hJ1 (r ++ [.lst [nD a, nD b]]) (acc ++ [x]) (by simp; omega)
    refine ⟨x :: ns, J2, .lst [nD a, nD b] :: r2, by simp [h1], ?_, hJ2, ?_⟩
    · intro m hm
      rcases List.mem_cons.mp hm with rfl | hm
      · exact hx2
      · exact h2 m hm
    · have hg : gN 6 e (ob J :: J.gob :: r) [some (.adr 0), some (.int most), some (.adr 2), some (nD a), some (nD b), none, none] = some [some (.adr 0), some (.int most), some (.adr 2), some (nD a), some (nD b), none, some e] := rfl
      have hf : e1__law_die [some (.adr 0), some (.int most), some (.adr 2), some (nD a), some (nD b), none, some e] (ob J :: J.gob :: r) = .ok (nD x) (ob J1 :: J1.gob :: (r ++ [.lst [nD a, nD b]])) := by simp [e1__law_die, e1, hx]
      simp only [lcL, hok, if_true, hg, dYes_e, nox_ok, bind_ok, hf]
      rw [if_pos (by simp; omega)]
      have : acc.map nD ++ [nD x] = (acc ++ [x]).map nD := by simp
      rw [this, ih]
      simp
theorem die_of {a b : Nat} {ns : List Nat} (ha : 1 ≤ a ∧ a ≤ 5) (hb : 1 ≤ b ∧ b ≤ 5) (h1 : 1 ≤ ns.length) (h4 : ns.length ≤ 4) (h : ∀ n ∈ ns, n = a ∨ n = b) : DieOk (a :: ns) := by
  have hall : ∀ x ∈ a :: ns, x = a ∨ x = b := fun x hx => by
    rcases List.mem_cons.mp hx with rfl | hx
    · exact .inl rfl
    · exact h x hx
  refine ⟨by simp; omega, by simp; omega, fun x hx => ?_, b, fun x hx => ?_⟩
  · rcases hall x hx with rfl | rfl
    · exact ha
    · exact hb
  · have e : wt (a :: ns) 0 = a := by simp [wt]
    rw [e]
    exact hall x hx
theorem run_die {J : Jug} (hJ : JOk J) : ∃ (d : List Nat) (J' : Jug) (junk : Sto), DieOk d ∧ JOk J' ∧ runB 7 den__law_die [.adr 0, .int 5] [ob J, J.gob] = .ok (dieD d) (ob J' :: J'.gob :: junk) := by
  obtain ⟨i, J1, hi, hJ1, e1⟩ := pour hJ 12 12 rfl (by decide) (by decide)
  obtain ⟨p, hp⟩ : ∃ p, prs[i]? = some p := ⟨prs[i]'(by simpa [prs] using hi), List.getElem?_eq_getElem _⟩
  obtain ⟨a, b⟩ := p
  obtain ⟨a1, a2, b1, b2⟩ := prs_ok _ (List.mem_of_getElem? hp)
  have hpi : (prs.map prD)[i]? = some (.tup [nD a, nD b]) := by rw [List.getElem?_map, hp]; rfl
  obtain ⟨k, J2, hk, hJ2, e2⟩ := pour hJ1 4 4 rfl (by decide) (by decide)
  obtain ⟨ns, J3, r3, h1, h2, hJ3, e3⟩ := cellsDie a b 5 (it := ⟨rng 0 (1 + k), none⟩) (fun _ => trivial) (rng 0 (1 + k)) J2 hJ2 [.lst (prs.map prD), .lst [nD a]] [] (by rw [rng_length]; simp; omega)
  rw [rng_length] at h1
  simp only [List.nil_append, List.map_nil] at e3
  have hm : mid (1 + (k : Int)) = true := by unfold mid; exact decide_eq_true (by omega)
  have ht : (1 + (k : Int)).toNat = 1 + k := by omega
  have e0 : prs.map prD = [D.tup [D.int 1, D.int 1], D.tup [D.int 1, D.int 2], D.tup [D.int 2, D.int 1], D.tup [D.int 1, D.int 3], D.tup [D.int 3, D.int 2], D.tup [D.int 2, D.int 3], D.tup [D.int 1, D.int 5], D.tup [D.int 5, D.int 1], D.tup [D.int 4, D.int 3], D.tup [D.int 4, D.int 5], D.tup [D.int 2, D.int 5], D.tup [D.int 4, D.int 1]] := rfl
  have hin := inV_nD b (a :: ns)
  have hfl := flat_nD (a :: ns)
  have sz : 1 + ns.length ≤ 16777216 := by omega
  by_cases q : b ∈ a :: ns
  · refine ⟨a :: ns, J3, .lst (prs.map prD) :: .lst [nD a] :: (r3 ++ [.lst (ns.map nD), .lst (nD a :: ns.map nD)]), die_of ⟨a1, a2⟩ ⟨b1, b2⟩ (by omega) (by omega) h2, hJ3, ?_⟩
    rw [decide_eq_true q] at hin
    rw [e0] at e3 hpi ⊢
    simp only [List.map_cons, List.all_cons] at hin hfl
    simp at hin hfl
    simp [den__law_die, e1, hpi, e2, hm, ht, e3, hin, hfl, sz, dieD]
    done
  · have nb : ∀ n ∈ a :: ns, n = a := fun n hn => by
      rcases List.mem_cons.mp hn with rfl | hn
      · rfl
      · rcases h2 n hn with z | z
        · exact z
        · exact absurd (by rw [← z]; exact List.mem_cons_of_mem _ hn) q
    obtain ⟨ns', y, rfl⟩ : ∃ ns' y, ns = ns' ++ [y] := by
      rcases List.eq_nil_or_concat ns with rfl | ⟨ns', y, rfl⟩
      · simp at h1; omega
      · exact ⟨ns', y, List.concat_eq_append ..⟩
    refine ⟨a :: (ns' ++ [b]), J3, .lst (prs.map prD) :: .lst [nD a] :: (r3 ++ [.lst ((ns' ++ [y]).map nD), .lst (nD a :: (ns' ++ [b]).map nD)]), die_of ⟨a1, a2⟩ ⟨b1, b2⟩ (by simp) (by simp at h1 ⊢; omega) (fun n hn => ?_), hJ3, ?_⟩
    · rcases List.mem_append.mp hn with hn | hn
      · exact h2 n (List.mem_append_left _ hn)
      · simp at hn; exact .inr hn
    · rw [decide_eq_false q] at hin
      rw [e0] at e3 hpi ⊢
      simp only [List.map_cons, List.all_cons] at hin hfl
      simp at hin hfl sz
      simp [den__law_die, e1, hpi, e2, hm, ht, e3, hin, hfl, sz, dieD]
      done
end Q81

set_option Elab.async false
set_option linter.all false
set_option maxRecDepth 100000
set_option maxHeartbeats 4000000
namespace Q81
open PySem L2 PySem.Spec PyProof.Rows Zb Nm
theorem cellsJ {it : ItD} (hok : ∀ l, it.ok l) {i : Nat} {gw : Sl} {fe : DE} (P : Nat → Prop) (H : ∀ J, JOk J → ∀ d : D, ∃ (n : Nat) (J' : Jug), P n ∧ JOk J' ∧ ∀ r : Sto, fe (gw.set i (some d)) (ob J :: J.gob :: r) = .ok (nD n) (ob J' :: J'.gob :: r)) : ∀ (ds : List D) (J : Jug) (hJ : JOk J) (acc : List Nat), acc.length + ds.length ≤ 1000 →
    ∃ (ns : List Nat) (J' : Jug), ns.length = ds.length ∧ (∀ n ∈ ns, P n) ∧ JOk J' ∧ ∀ r : Sto, lcL it (gN i) dYes fe gw ds (ob J :: J.gob :: r) (acc.map nD) = .ok ((acc ++ ns).map nD) (ob J' :: J'.gob :: r)
  | [], J, hJ, acc, _ => ⟨[], J, rfl, by simp, hJ, fun r => by simp [lcL, hok]⟩
  | d :: ds, J, hJ, acc, hl => by
    simp only [List.length_cons] at hl
    obtain ⟨n, J1, hn, hJ1, e1⟩ := H J hJ d
    obtain ⟨ns, J2, h1, h2, hJ2, ih⟩ := cellsJ hok P H ds J1 hJ1 (acc ++ [n]) (by simp; omega)
    refine ⟨n :: ns, J2, by simp [h1], ?_, hJ2, fun r => ?_⟩
    · intro m hm
      rcases List.mem_cons.mp hm with rfl | hm
      · exact hn
      · exact h2 m hm
    · simp only [lcL, hok, if_true, gN_e, dYes_e, nox_ok, bind_ok, e1 r]
      rw [if_pos (by simp; omega)]
      have : acc.map nD ++ [nD n] = (acc ++ [n]).map nD := by simp
      rw [this, ih]
      simp
/-! ### _law_faces -/
theorem run_facesJ {J : Jug} (hJ : JOk J) {d : List Nat} (h : DieOk d) (n : Nat) (hn : n ≤ 400) : ∃ (fs : List Nat) (J' : Jug) (junk : Sto), RowOk d fs ∧ fs.length = n ∧ JOk J' ∧ runB 6 den__law_faces [.adr 0, dieD d, nD n] [ob J, J.gob] = .ok (rowD fs) (ob J' :: J'.gob :: junk) := by
  have lo := h.lo
  have hi := h.hi
  obtain ⟨a, J1, ha, hJ1, e1⟩ := pour hJ 3 3 rfl (by decide) (by decide)
  have hm : mid (n : Int) = true := by rw [mid_nat]; simp; omega
  by_cases q : (a : Int) = 0
  · obtain ⟨x, J2, hx, hJ2, e2⟩ := pour hJ1 d.length (d.length : Int) rfl (by omega) (by omega)
    obtain ⟨y, J3, hy, hJ3, e3⟩ := pour hJ2 d.length (d.length : Int) rfl (by omega) (by omega)
    obtain ⟨ns, J4, h1, h2, hJ4, e4⟩ := cellsJ (it := ⟨rng 0 n, none⟩) (fun _ => trivial) (i := 5) (gw := [some (.adr 0), some (dieD d), some (nD n), some (nD x), some (nD y), none]) (fe := e1__law_faces) (fun f => f < d.length) (fun J hJ z => by
      obtain ⟨k, J', hk, hJ', e⟩ := pour hJ 4 4 rfl (by decide) (by decide)
      by_cases q : (0 : Int) < (k : Int)
      · have q2 : 0 < k := by omega
        have q3 : ¬ k = 0 := by omega
        exact ⟨x, J', hx, hJ', fun r => by simp [e1__law_faces, e, q, q2, q3]⟩
      · have q2 : ¬ 0 < k := by omega
        have q3 : k = 0 := by omega
        subst q3
        exact ⟨y, J', hy, hJ', fun r => by simp at e; simp [e1__law_faces, e]⟩) (rng 0 n) J3 hJ3 [] (by rw [rng_length]; simp; omega)
    rw [rng_length] at h1
    refine ⟨ns, J4, [.lst (ns.map nD)], ⟨h2, by omega⟩, h1, hJ4, ?_⟩
    simp only [List.map_nil, List.nil_append, dieD] at e4
    simp only [dieD, rowD]
    simp [den__law_faces, e1, q, e2, e3, hm, e4]
  · obtain ⟨ns, J4, h1, h2, hJ4, e4⟩ := cellsJ (it := ⟨rng 0 n, none⟩) (fun _ => trivial) (i := 5) (gw := [some (.adr 0), some (dieD d), some (nD n), none, none, none]) (fe := e2__law_faces) (fun f => f < d.length) (fun J hJ z => by
      obtain ⟨k, J', hk, hJ', e⟩ := pour hJ d.length (d.length : Int) rfl (by omega) (by omega)
      exact ⟨k, J', hk, hJ', fun r => by simp only [e2__law_faces, dieD]; simp [e]⟩) (rng 0 n) J1 hJ1 [] (by rw [rng_length]; simp; omega)
    rw [rng_length] at h1
    refine ⟨ns, J4, [.lst (ns.map nD)], ⟨h2, by omega⟩, h1, hJ4, ?_⟩
    simp only [List.map_nil, List.nil_append, dieD] at e4
    simp only [dieD, rowD]
    have q' : ¬ a = 0 := by omega
    simp [den__law_faces, e1, q, q', hm, e4]
theorem facesJ {J : Jug} (hJ : JOk J) {d : List Nat} (h : DieOk d) (n : Nat) (i : Int) (hi : i = n) (hn : n ≤ 400) : ∃ (fs : List Nat) (J' : Jug), RowOk d fs ∧ fs.length = n ∧ JOk J' ∧ ∀ r : Sto, m__law_faces [.adr 0, dieD d, .int i] (ob J :: J.gob :: r) = .ok (rowD fs) (ob J' :: J'.gob :: r) := by
  subst hi
  obtain ⟨fs, J', junk, h1, h2, h3, e⟩ := run_facesJ hJ h n hn
  exact ⟨fs, J', h1, h2, h3, fun r => callJ (by simp) e (by simp) r⟩
theorem dieJ {J : Jug} (hJ : JOk J) : ∃ (d : List Nat) (J' : Jug), DieOk d ∧ JOk J' ∧ ∀ r : Sto, m__law_die [.adr 0, .int 5] (ob J :: J.gob :: r) = .ok (dieD d) (ob J' :: J'.gob :: r) := by
  obtain ⟨d, J', junk, h1, h2, e⟩ := run_die hJ
  exact ⟨d, J', h1, h2, fun r => callJ (by simp) e (by simp) r⟩
end Q81

set_option Elab.async false
set_option linter.all false
set_option maxRecDepth 100000
namespace Bt
/-! ### bits, plain -/
def bt (n e : Nat) : Nat := n / 2 ^ e % 2
theorem bt_lt (n e : Nat) : bt n e < 2 := Nat.mod_lt _ (by decide)
def down : Nat → List Nat
  | 0 => []
  | b + 1 => b :: down b
theorem down_mem {e : Nat} : ∀ {b : Nat}, e ∈ down b ↔ e < b
  | 0 => by simp [down]
  | b + 1 => by
    simp only [down, List.mem_cons, down_mem (b := b)]
    omega
theorem down_len : ∀ b : Nat, (down b).length = b
  | 0 => rfl
  | b + 1 => by simp [down, down_len b]
theorem down_range : ∀ b : Nat, (List.range b).map (fun i => b - 1 - i) = down b
  | 0 => rfl
  | b + 1 => by
    rw [List.range_succ_eq_map, List.map_cons, List.map_map]
    show (b + 1 - 1 - 0) :: _ = b :: down b
    rw [← down_range b]
    congr 1
    apply List.map_congr_left
    intro i hi
    simp only [Function.comp]
    omega
theorem down_nodup : ∀ b : Nat, (down b).Nodup
  | 0 => by simp [down]
  | b + 1 => by
    simp only [down, List.nodup_cons]
    exact ⟨fun h => by rw [down_mem] at h; omega, down_nodup b⟩
/-- bits told at a length -/
def bitsL (x e : Nat) : List Nat := (down e).map (bt x)
theorem bitsL_len (x e : Nat) : (bitsL x e).length = e := by simp [bitsL, down_len]
def IsB (bs : List Nat) : Prop := ∀ b ∈ bs, b < 2
theorem bitsL_isB (x e : Nat) : IsB (bitsL x e) := by
  intro b hb
  obtain ⟨i, _, rfl⟩ := List.mem_map.mp hb
  exact bt_lt x i
def nob : List Nat → Nat → Nat
  | [], t => t
  | b :: bs, t => nob bs (2 * t + b)
theorem nob_add : ∀ (bs : List Nat) (t : Nat), nob bs t = t * 2 ^ bs.length + nob bs 0
  | [], t => by simp [nob]
  | b :: bs, t => by
    simp only [nob, List.length_cons]
    rw [nob_add bs (2 * t + b), nob_add bs (2 * 0 + b), Nat.pow_succ]
    rw [Nat.add_mul, Nat.mul_zero, Nat.zero_add, Nat.mul_assoc 2 t, Nat.mul_comm 2, Nat.mul_assoc]
    omega
theorem nob_lt : ∀ (bs : List Nat), IsB bs → nob bs 0 < 2 ^ bs.length
  | [], _ => by simp [nob]
  | b :: bs, h => by
    have hb := h b (by simp)
    have ih := nob_lt bs fun c hc => h c (by simp [hc])
    simp only [nob, List.length_cons]
    rw [nob_add, Nat.pow_succ]
    have : 2 * 0 + b = 0 ∨ 2 * 0 + b = 1 := by omega
    rcases this with e | e <;> rw [e] <;> omega
theorem nob_bits : ∀ (e x : Nat), nob (bitsL x e) 0 = x % 2 ^ e
  | 0, x => by simp [bitsL, down, nob, Nat.mod_one]
  | e + 1, x => by
    have ih := nob_bits e x
    unfold bitsL at ih ⊢
    simp only [down, List.map_cons, nob]
    rw [nob_add, ih, List.length_map, down_len, Nat.mod_pow_succ]
    unfold bt
    rw [Nat.mul_zero, Nat.zero_add, Nat.mul_comm]
    omega
theorem bits_nob : ∀ (bs : List Nat), IsB bs → bitsL (nob bs 0) bs.length = bs
  | [], _ => rfl
  | b :: bs, h => by
    have hb := h b (by simp)
    have ih := bits_nob bs fun c hc => h c (by simp [hc])
    have lt := nob_lt bs fun c hc => h c (by simp [hc])
    have e1 : nob (b :: bs) 0 = b * 2 ^ bs.length + nob bs 0 := by
      simp only [nob]; rw [nob_add]; simp
    unfold bitsL at ih ⊢
    simp only [List.length_cons, down, List.map_cons]
    rw [e1]
    congr 1
    · unfold bt
      rw [Nat.mul_comm, Nat.mul_add_div (Nat.two_pow_pos _), Nat.div_eq_of_lt lt]
      omega
    · conv => rhs; rw [← ih]
      apply List.map_congr_left
      intro i hi
      rw [down_mem] at hi
      unfold bt
      have e2 : b * 2 ^ bs.length = b * 2 ^ (bs.length - i - 1) * 2 * 2 ^ i := by
        rw [Nat.mul_assoc (b * _), Nat.mul_comm 2, ← Nat.pow_succ, Nat.mul_assoc, ← Nat.pow_add]
        congr 2
        omega
      rw [e2, Nat.add_comm, Nat.add_mul_div_right _ _ (Nat.two_pow_pos _)]
      omega
/-! ### stretches -/
def bl (n : Nat) : Nat := if n = 0 then 0 else n.log2 + 1
theorem lt_bl (n : Nat) : n < 2 ^ bl n := by
  unfold bl
  split
  · subst n; decide
  · exact Nat.lt_log2_self
def stch (n : Nat) : List Nat := (down (bl n)).filter fun e => bt n e == 1
def vals (es : List Nat) : Nat := (es.map (2 ^ ·)).sum
theorem vals_down (n : Nat) : ∀ b : Nat, vals ((down b).filter fun e => bt n e == 1) = n % 2 ^ b
  | 0 => by simp [down, vals, Nat.mod_one]
  | b + 1 => by
    have ih := vals_down n b
    rw [Nat.mod_pow_succ]
    simp only [down, List.filter_cons]
    have h2 := bt_lt n b
    by_cases q : bt n b = 1
    · rw [if_pos (by simp [q])]
      unfold vals at ih ⊢
      rw [List.map_cons, List.sum_cons, ih]
      unfold bt at q
      rw [q]
      omega
    · rw [if_neg (by simp [q]), ih]
      have : bt n b = 0 := by omega
      unfold bt at this
      rw [this]
      omega
theorem vals_stch (n : Nat) : vals (stch n) = n := by
  unfold stch
  rw [vals_down, Nat.mod_eq_of_lt (lt_bl n)]
/-- where a number lies: the stretch's digits, its number there -/
def loc : List Nat → Nat → Option (Nat × Nat)
  | [], _ => none
  | e :: es, x => if x < 2 ^ e then some (e, x) else loc es (x - 2 ^ e)
theorem loc_some : ∀ (es : List Nat) (x : Nat), x < vals es → ∃ e o, loc es x = some (e, o) ∧ e ∈ es ∧ o < 2 ^ e
  | [], x, h => by simp [vals] at h
  | e :: es, x, h => by
    simp only [vals, List.map_cons, List.sum_cons] at h
    simp only [loc]
    by_cases q : x < 2 ^ e
    · rw [if_pos q]
      exact ⟨e, x, rfl, by simp, q⟩
    · rw [if_neg q]
      obtain ⟨e', o, h1, h2, h3⟩ := loc_some es (x - 2 ^ e) (by unfold vals; omega)
      exact ⟨e', o, h1, by simp [h2], h3⟩
def ahead : List Nat → Nat → Nat
  | [], _ => 0
  | a :: es, e => if a = e then 0 else 2 ^ a + ahead es e
theorem loc_ahead : ∀ (es : List Nat) (e o : Nat), e ∈ es → es.Nodup → o < 2 ^ e → loc es (ahead es e + o) = some (e, o) ∧ ahead es e + 2 ^ e ≤ vals es
  | [], e, o, h, _, _ => by simp at h
  | a :: es, e, o, h, nd, ho => by
    rw [List.nodup_cons] at nd
    have ev : vals (a :: es) = 2 ^ a + vals es := by simp [vals]
    rw [ev]
    by_cases q : a = e
    · subst q
      have ea : ahead (a :: es) a = 0 := by simp [ahead]
      rw [ea, Nat.zero_add]
      simp only [loc]
      rw [if_pos ho]
      exact ⟨rfl, by omega⟩
    · have ea : ahead (a :: es) e = 2 ^ a + ahead es e := by simp [ahead, q]
      rw [ea]
      have he : e ∈ es := by
        rcases List.mem_cons.mp h with h | h
        · exact absurd h.symm q
        · exact h
      obtain ⟨i1, i2⟩ := loc_ahead es e o he nd.2 ho
      simp only [loc]
      rw [if_neg (by omega), show 2 ^ a + ahead es e + o - 2 ^ a = ahead es e + o by omega]
      exact ⟨i1, by omega⟩
theorem loc_inv : ∀ (es : List Nat) (x e o : Nat), es.Nodup → loc es x = some (e, o) → x = ahead es e + o
  | [], x, e, o, _, h => by simp [loc] at h
  | a :: es, x, e, o, nd, h => by
    rw [List.nodup_cons] at nd
    simp only [loc] at h
    simp only [ahead]
    by_cases q : x < 2 ^ a
    · rw [if_pos q] at h
      cases h
      rw [if_pos rfl, Nat.zero_add]
    · rw [if_neg q] at h
      have ih := loc_inv es _ e o nd.2 h
      have : a ≠ e := by
        intro z
        subst z
        have : ∀ (es : List Nat) (x : Nat), loc es x = some (a, o) → a ∈ es := by
          intro es
          induction es with
          | nil => intro x h; simp [loc] at h
          | cons b es ih =>
            intro x h
            simp only [loc] at h
            split at h
            · cases h; simp
            · simp [ih _ h]
        exact nd.1 (this _ _ h)
      rw [if_neg this]
      omega
theorem stch_nodup (n : Nat) : (stch n).Nodup := List.Pairwise.filter _ (down_nodup _)
/-- the bits of the number x out of n -/
def bon (n x : Nat) : List Nat := match loc (stch n) x with
  | some (e, o) => bitsL o e
  | none => []
theorem bon_isB (n x : Nat) : IsB (bon n x) := by
  unfold bon
  split
  · exact bitsL_isB _ _
  · intro b hb
    cases hb
end Bt

set_option Elab.async false
set_option linter.all false
set_option maxRecDepth 100000
namespace Bt
theorem mod_le_mod (n : Nat) {a b : Nat} (h : a ≤ b) : n % 2 ^ a ≤ n % 2 ^ b := by
  have : n % 2 ^ a = (n % 2 ^ b) % 2 ^ a := (Nat.mod_mod_of_dvd n (Nat.pow_dvd_pow 2 h)).symm
  rw [this]
  exact Nat.mod_le _ _
theorem ahead_down (n e : Nat) (h : bt n e = 1) : ∀ b : Nat, e < b → ahead ((down b).filter fun e => bt n e == 1) e = n % 2 ^ b - n % 2 ^ (e + 1)
  | 0, h => by omega
  | b + 1, hb => by
    simp only [down, List.filter_cons]
    by_cases q : b = e
    · subst q
      rw [if_pos (by simp [h])]
      simp [ahead]
    · have ih := ahead_down n e h b (by omega)
      have le := mod_le_mod n (show e + 1 ≤ b by omega)
      rw [Nat.mod_pow_succ]
      have h2 := bt_lt n b
      by_cases qb : bt n b = 1
      · rw [if_pos (by simp [qb])]
        have : ahead (b :: (down b).filter fun e => bt n e == 1) e = 2 ^ b + ahead ((down b).filter fun e => bt n e == 1) e := by simp [ahead, q]
        rw [this, ih]
        unfold bt at qb
        rw [qb]
        omega
      · rw [if_neg (by simp [qb]), ih]
        have : bt n b = 0 := by omega
        unfold bt at this
        rw [this]
        omega
theorem bt_bl {n e : Nat} (h : bt n e = 1) : e < bl n := by
  rcases Nat.lt_or_ge e (bl n) with q | q
  · exact q
  · have : n < 2 ^ e := Nat.lt_of_lt_of_le (lt_bl n) (Nat.pow_le_pow_right (by decide) q)
    unfold bt at h
    rw [Nat.div_eq_of_lt this] at h
    simp at h
theorem mem_stch {n e : Nat} : e ∈ stch n ↔ bt n e = 1 := by
  unfold stch
  rw [List.mem_filter, down_mem]
  constructor
  · intro h; simpa using h.2
  · intro h; exact ⟨bt_bl h, by simp [h]⟩
/-- where the stretch of so many digits begins -/
def hi (n e : Nat) : Nat := n / 2 ^ (e + 1) * 2 ^ (e + 1)
theorem ahead_stch {n e : Nat} (h : bt n e = 1) : ahead (stch n) e = hi n e := by
  unfold stch hi
  rw [ahead_down n e h _ (bt_bl h), Nat.mod_eq_of_lt (lt_bl n)]
  have := Nat.div_add_mod n (2 ^ (e + 1))
  rw [Nat.mul_comm] at this
  omega
theorem hi_lt {n e o : Nat} (h : bt n e = 1) (ho : o < 2 ^ e) : hi n e + o < n := by
  obtain ⟨_, h2⟩ := loc_ahead (stch n) e o (mem_stch.mpr h) (stch_nodup n) ho
  rw [Bt.vals_stch, ahead_stch h] at h2
  omega
/-- one step of the sum from above -/
theorem top_step (n m : Nat) : n / 2 ^ (m + 1) * 2 ^ (m + 1) + bt n m * 2 ^ m = n / 2 ^ m * 2 ^ m := by
  unfold bt
  have e1 : n / 2 ^ (m + 1) = n / 2 ^ m / 2 := by rw [Nat.pow_succ, Nat.div_div_eq_div_mul]
  rw [e1, Nat.pow_succ, Nat.mul_comm (2 ^ m) 2, ← Nat.mul_assoc, ← Nat.add_mul]
  congr 1
  have := Nat.div_add_mod (n / 2 ^ m) 2
  omega
end Bt

set_option Elab.async false
set_option linter.all false
set_option maxRecDepth 100000
set_option maxHeartbeats 1000000
namespace Q81
open PySem L2 PySem.Spec PyProof.Rows Zb Nm Bt
theorem band1 (n : Nat) : Builtin.bitAnd (n : Int) 1 = ((n % 2 : Nat) : Int) := by
  unfold Builtin.bitAnd
  have h : decide ((0 : Int) ≤ (n : Int)) = true := decide_eq_true (by omega)
  have h1 : decide ((0 : Int) ≤ 1) = true := by decide
  rw [h, h1]
  show (((n : Int).toNat &&& (1 : Int).toNat : Nat) : Int) = _
  rw [Int.toNat_natCast, show (1 : Int).toNat = 1 from rfl, Nat.and_one_is_mod]
theorem bandq (n e : Nat) : Builtin.bitAnd ((n : Int) / 2 ^ e) 1 = ((bt n e : Nat) : Int) := by
  have : ((n : Int) / 2 ^ e) = ((n / 2 ^ e : Nat) : Int) := by simp
  rw [this, band1]
  rfl
theorem bits_bl (n : Nat) : Builtin.Int.intBits (n : Int) = bl n := by
  unfold Builtin.Int.intBits bl
  by_cases h : n = 0
  · subst h; rfl
  · have : ((n : Int) == 0) = false := by simpa using h
    rw [this, if_neg h]
    simp
theorem bl_le {n a : Nat} (h : Bd (n : Int) a) : bl n ≤ a := by
  unfold bl
  split
  · omega
  · rename_i h0
    unfold Bd at h
    rw [Int.natAbs_natCast] at h
    have := (Nat.log2_lt h0).mpr h
    omega
/-! ### stretches -/
theorem lc_str (N : Nat) (hN : Bd (N : Int) 4000) (l : Sto) : lcL ⟨rngC ((bl N : Int) - 1) (-1) (bl N), none⟩ (gN 1) q2_stretches e1_stretches [some (nD N), none] (rngC ((bl N : Int) - 1) (-1) (bl N)) l [] = .ok ((stch N).map nD) l := by
  have hb := bl_le hN
  unfold rngC
  conv => lhs; arg 6; rw [show (List.range (bl N)).map (fun i => D.int ((bl N : Int) - 1 + (i : Nat) * (-1))) = (down (bl N)).map nD by
    rw [← down_range, List.map_map]
    apply List.map_congr_left
    intro i hi
    have := List.mem_range.mp hi
    simp only [Function.comp]
    congr 1
    omega]
  rw [lcL_fmap (by trivial) nD nD (fun e => bt N e == 1) _ _ (fun e he => ?_) (by simp [down_len]; omega)]
  · rfl
  · have q := bandq N e
    have h2 := bt_lt N e
    refine ⟨[some (nD N), some (nD e)], rfl, ?_, fun _ => by simp [e1_stretches]⟩
    simp [q2_stretches, q]
    rcases (show bt N e = 0 ∨ bt N e = 1 by omega) with z | z <;> rw [z] <;> rfl
theorem call_str (N : Nat) (hN : Bd (N : Int) 4000) (l : Sto) : m_stretches [nD N] l = .ok (.adr l.length) (l ++ [.lst ((stch N).map nD)]) := by
  have lc := fun l => lc_str N hN l
  have hb := bl_le hN
  have i1 := bits_bl N
  have m1 : mid ((bl N : Int) - 1) = true := by unfold mid; exact decide_eq_true (by omega)
  have m2 : mid (-1) = true := by decide
  have ht : ((bl N : Int) - 1 + 1).toNat = bl N := by omega
  refine callM_l (j := 0) (junk := [.lst ((stch N).map nD)]) (by simp) ?_ rfl (by simp)
  simp [den_stretches, i1, m1, m2, ht, lc]
/-! ### bits_of -/
theorem lc_bits (x e : Nat) (he : e ≤ 4000) (l : Sto) : lcL ⟨rngC ((e : Int) - 1) (-1) e, none⟩ (gN 2) dYes e1_bits_of [some (nD x), some (nD e), none] (rngC ((e : Int) - 1) (-1) e) l [] = .ok ((bitsL x e).map nD) l := by
  unfold rngC
  conv => lhs; arg 6; rw [show (List.range e).map (fun i => D.int ((e : Int) - 1 + (i : Nat) * (-1))) = (down e).map nD by
    rw [← down_range, List.map_map]
    apply List.map_congr_left
    intro i hi
    have := List.mem_range.mp hi
    simp only [Function.comp]
    congr 1
    omega]
  rw [lcL_fmap (by trivial) nD (fun i => nD (bt x i)) (fun _ => true) _ _ (fun i hi => ?_) (by simp [down_len]; omega)]
  · rw [List.filter_eq_self.mpr (fun _ _ => rfl)]
    simp [bitsL, Function.comp_def]
  · have q := bandq x i
    exact ⟨[some (nD x), some (nD e), some (nD i)], rfl, rfl, fun _ => by simp [e1_bits_of, q]⟩
theorem call_bits (x e : Nat) (he : e ≤ 4000) (l : Sto) : m_bits_of [nD x, nD e] l = .ok (rowD (bitsL x e)) l := by
  have lc := fun l => lc_bits x e he l
  have m1 : mid ((e : Int) - 1) = true := by unfold mid; exact decide_eq_true (by omega)
  have m2 : mid (-1) = true := by decide
  have ht : ((e : Int) - 1 + 1).toNat = e := by omega
  refine callM_p (junk := [.lst ((bitsL x e).map nD)]) (by simp) ?_ (by simp)
  simp only [rowD]
  simp [den_bits_of, m1, m2, ht, lc]
end Q81

set_option Elab.async false
set_option linter.all false
set_option maxRecDepth 100000
set_option maxHeartbeats 1000000
namespace Q81
open PySem L2 PySem.Spec PyProof.Rows Zb Nm Bt
theorem shl1 {e : Nat} (he : e ≤ 4000) : shlW 1 (e : Int) = true := by
  unfold shlW
  simp only [Bool.and_eq_true, decide_eq_true_eq]
  exact ⟨⟨by omega, by omega⟩, by decide⟩
theorem two_lt (x e : Nat) : decide ((x : Int) < 2 ^ e) = decide (x < 2 ^ e) := by
  apply decide_eq_decide.mpr
  rw [show (2 : Int) ^ e = ((2 ^ e : Nat) : Int) by simp]
  omega
theorem stch_le {N : Nat} (hN : Bd (N : Int) 4000) {e : Nat} (he : e ∈ stch N) : e ≤ 4000 := by
  have := bl_le hN
  have h := (List.mem_filter.mp he).1
  rw [down_mem] at h
  omega
/-! ### bits_of_number -/
theorem loop_bon {it : ItD} {l : Sto} (hok : it.ok l) (N : Nat) : ∀ (es : List Nat) (x : Nat) (y : Option D), (∀ e ∈ es, e ≤ 4000) →
    match loc es x with
    | some (e, o) => sForL it (gN 2) b1_bits_of_number (es.map nD) [some (nD x), some (nD N), y] l = .rt (rowD (bitsL o e)) l
    | none => ∃ g', sForL it (gN 2) b1_bits_of_number (es.map nD) [some (nD x), some (nD N), y] l = .nx g' l
  | [], x, y, _ => ⟨_, for_nil _ _ _ _ hok⟩
  | e :: es, x, y, h => by
    have he := h e (by simp)
    have hg : gN 2 (nD e) l [some (nD x), some (nD N), y] = some [some (nD x), some (nD N), some (nD e)] := rfl
    have s1 := shl1 he
    have c := fun l => call_bits x e he l
    have lt := two_lt x e
    simp only [loc, List.map_cons]
    rw [for_cons _ _ _ _ _ _ hok, hg]
    by_cases q : x < 2 ^ e
    · rw [if_pos q]
      rw [decide_eq_true q] at lt
      have lt' : (x : Int) < 2 ^ e := of_decide_eq_true lt
      simp only [rowD] at c ⊢
      simp [b1_bits_of_number, s1, lt', c]
    · rw [if_neg q]
      rw [decide_eq_false q] at lt
      have lt' : ¬ (x : Int) < 2 ^ e := of_decide_eq_false lt
      have hs : (x : Int) - 2 ^ e = ((x - 2 ^ e : Nat) : Int) := by
        rw [show (2 : Int) ^ e = ((2 ^ e : Nat) : Int) by simp]
        omega
      have ih := loop_bon hok N es (x - 2 ^ e) (some (nD e)) (fun a ha => h a (by simp [ha]))
      have eb : b1_bits_of_number [some (nD x), some (nD N), some (nD e)] l = .nx [some (nD (x - 2 ^ e)), some (nD N), some (nD e)] l := by
        simp [b1_bits_of_number, s1, lt', hs]
      simp only [eb, loop_nx]
      exact ih
theorem call_bon (N x : Nat) (hN : Bd (N : Int) 4000) (l : Sto) : m_bits_of_number [nD x, nD N] l = .ok (rowD (bon N x)) l := by
  have c := fun l => call_str N hN l
  have e := loop_bon (it := ⟨(stch N).map nD, some 0⟩) (l := [.lst ((stch N).map nD)]) rfl N (stch N) x none (fun e he => stch_le hN he)
  refine callM_p (junk := [.lst ((stch N).map nD)]) (by simp) ?_ (by simp)
  unfold bon
  cases q : loc (stch N) x with
  | none =>
    rw [q] at e
    obtain ⟨g', e⟩ := e
    simp [den_bits_of_number, c, e, rowD]
  | some p =>
    rw [q] at e
    simp only at e ⊢
    simp [den_bits_of_number, c, e]
/-! ### row_bits -/
def rbits (d fs : List Nat) : List Nat := bon (sizeN d fs.length (kindF d fs)) (numN d fs)
theorem bd_sz {d : List Nat} (h : DieOk d) (n k : Nat) (hk : k ≤ n) (hn : n ≤ 400) : Bd (sizeN d n k : Int) 4000 := (bd_size h n k hk).mono (by omega)
theorem call_rbits {d : List Nat} (h : DieOk d) {fs : List Nat} (hf : RowOk d fs) (l : Sto) : m_row_bits [dieD d, rowD fs] l = .ok (rowD (rbits d fs)) l := by
  have kl := kind_le d fs
  have c1 := fun l => call_rkind h hf l
  have c2 := fun l => call_size h fs.length (kindF d fs) kl hf.2 l
  have c3 := fun l => call_num h hf l
  have c4 := fun l => call_bon (sizeN d fs.length (kindF d fs)) (numN d fs) (bd_sz h _ _ kl hf.2) l
  refine callM_p (junk := []) (by simp) ?_ (by simp)
  unfold rbits
  simp only [dieD, rowD] at *
  simp [den_row_bits, c1, c2, c3, c4]
/-! ### _law_bits -/
theorem loop_lb {x0 x1 : Option D} {D0 : List D} (N : Nat) (l0 : Sto) : ∀ (es : List Nat) (x : Nat) (y4 y5 : Option D), (∀ e ∈ es, e ≤ 4000) →
    match loc (es.filter fun e => bt N e == 1) x with
    | some (e, o) => ∃ junk, sForL ⟨D0, none⟩ (gN 4) b2__law_bits (es.map nD) [x0, x1, some (nD N), some (nD x), y4, none] l0 = .rt (rowD (bitsL o e)) junk
    | none => ∃ g' , sForL ⟨D0, none⟩ (gN 4) b2__law_bits (es.map nD) [x0, x1, some (nD N), some (nD x), y4, none] l0 = .nx g' l0
  | [], x, y4, y5, _ => ⟨_, for_nil _ _ _ _ trivial⟩
  | e :: es, x, y4, y5, h => by
    have he := h e (by simp)
    have hg : gN 4 (nD e) l0 [x0, x1, some (nD N), some (nD x), y4, none] = some [x0, x1, some (nD N), some (nD x), some (nD e), none] := rfl
    have s1 := shl1 he
    have lt := two_lt x e
    have h2 := bt_lt N e
    have q0 := bandq N e
    have ih := fun x => loop_lb (x0 := x0) (x1 := x1) (D0 := D0) N l0 es x (some (nD e)) y5 (fun a ha => h a (by simp [ha]))
    simp only [List.map_cons]
    rw [for0_cons, hg]
    by_cases qb : bt N e = 1
    · rw [qb] at q0
      rw [List.filter_cons, if_pos (by simp [qb])]
      simp only [loc]
      by_cases q : x < 2 ^ e
      · rw [if_pos q]
        rw [decide_eq_true q] at lt
        have lt' : (x : Int) < 2 ^ e := of_decide_eq_true lt
        have hm : mid (e : Int) = true := by rw [mid_nat]; simp; omega
        have lc : ∀ l, lcL ⟨rng 0 e, none⟩ (gN 5) dYes e1__law_bits [x0, x1, some (nD N), some (nD x), some (nD e), none] (rng 0 e) l [] = .ok ((bitsL x e).map nD) l := fun l => by
          conv => lhs; arg 6; rw [rng_eq]
          rw [lcL_fmap (by trivial) (fun i => D.int (i : Nat)) (fun i => nD (bt x (e - 1 - i))) (fun _ => true) _ _ (fun i hi => ?_) (by simp; omega)]
          · unfold bitsL
            rw [List.filter_eq_self.mpr (fun _ _ => rfl), ← down_range]
            simp [Function.comp_def]
          · have hi' := List.mem_range.mp hi
            have qx := bandq x (e - 1 - i)
            have hs : ((e : Int) - 1 - (i : Int)).toNat = e - 1 - i := by omega
            have hp : (i : Int) ≤ (e : Int) - 1 := by omega
            exact ⟨[x0, x1, some (nD N), some (nD x), some (nD e), some (.int (i : Nat))], rfl, rfl, fun _ => by simp [e1__law_bits, hs, hp, qx]⟩
        exact ⟨l0 ++ [.lst ((bitsL x e).map nD)], by simp only [rowD]; simp [b2__law_bits, q0, s1, lt', hm, lc]⟩
      · rw [if_neg q]
        rw [decide_eq_false q] at lt
        have lt' : ¬ (x : Int) < 2 ^ e := of_decide_eq_false lt
        have hs : (x : Int) - 2 ^ e = ((x - 2 ^ e : Nat) : Int) := by
          rw [show (2 : Int) ^ e = ((2 ^ e : Nat) : Int) by simp]
          omega
        have eb : b2__law_bits [x0, x1, some (nD N), some (nD x), some (nD e), none] l0 = .nx [x0, x1, some (nD N), some (nD (x - 2 ^ e)), some (nD e), none] l0 := by
          simp [b2__law_bits, q0, s1, lt', hs]
        simp only [eb, loop_nx]
        exact ih _
    · have qb0 : bt N e = 0 := by omega
      rw [qb0] at q0
      rw [List.filter_cons, if_neg (by simp [qb])]
      have eb : b2__law_bits [x0, x1, some (nD N), some (nD x), some (nD e), none] l0 = .nx [x0, x1, some (nD N), some (nD x), some (nD e), none] l0 := by
        simp [b2__law_bits, q0]
      simp only [eb, loop_nx]
      exact ih _
theorem bon_loc {N x : Nat} (hx : x < N) : ∃ e o, loc (stch N) x = some (e, o) ∧ e ∈ stch N ∧ o < 2 ^ e ∧ bon N x = bitsL o e := by
  obtain ⟨e, o, h1, h2, h3⟩ := loc_some (stch N) x (by rw [Bt.vals_stch]; exact hx)
  exact ⟨e, o, h1, h2, h3, by unfold bon; rw [h1]⟩
theorem down_rng (b : Nat) : rngC ((b : Int) - 1) (-1) b = (down b).map nD := by
  unfold rngC
  rw [← down_range, List.map_map]
  apply List.map_congr_left
  intro i hi
  have := List.mem_range.mp hi
  simp only [Function.comp]
  congr 1
  omega
theorem call_lbits {d : List Nat} (h : DieOk d) {fs : List Nat} (hf : RowOk d fs) (l : Sto) : m__law_bits [dieD d, rowD fs] l = .ok (rowD (rbits d fs)) l := by
  have kl := kind_le d fs
  have c1 := fun l => call_lkind h hf l
  have c2 := fun l => call_lsizeI h fs.length (kindF d fs) (fs.length : Int) (kindF d fs : Int) rfl rfl kl hf.2 l
  have c3 := fun l => call_lnum h hf l
  have hN := bd_sz h fs.length (kindF d fs) kl hf.2
  have nl := num_lt h fs hf.1
  generalize hS : sizeN d fs.length (kindF d fs) = S at *
  generalize hx : numN d fs = x at *
  have hb := bl_le hN
  have i1 := bits_bl S
  have m1 : mid ((bl S : Int) - 1) = true := by unfold mid; exact decide_eq_true (by omega)
  have m2 : mid (-1) = true := by decide
  have ht : ((bl S : Int) - 1 + 1).toNat = bl S := by omega
  have e := loop_lb (x0 := some (dieD d)) (x1 := some (rowD fs)) (D0 := rngC ((bl S : Int) - 1) (-1) (bl S)) S [] (down (bl S)) x none none (fun e he => by rw [down_mem] at he; omega)
  rw [← down_rng] at e
  obtain ⟨a, o, h1, h2, h3, h4⟩ := bon_loc nl
  have h1' : loc ((down (bl S)).filter fun e => bt S e == 1) x = some (a, o) := h1
  rw [h1'] at e
  obtain ⟨junk, e⟩ := e
  have hr : rbits d fs = bitsL o a := by unfold rbits; rw [hS, hx, h4]
  rw [hr]
  refine callM_p (junk := junk) (by simp) ?_ (by simp)
  simp only [dieD, rowD] at *
  simp [den__law_bits, c1, c2, c3, i1, m1, m2, ht, e]
end Q81

set_option Elab.async false
set_option linter.all false
set_option maxRecDepth 100000
set_option maxHeartbeats 1000000
namespace Q81
open PySem L2 PySem.Spec PyProof.Rows Zb Nm Bt
/-! ### number_of_bits -/
theorem loop_nob {it : ItD} {l : Sto} (hok : it.ok l) (x0 : Option D) : ∀ (bs : List Nat) (t a : Nat) (y : Option D), IsB bs → t < 2 ^ a → a + bs.length ≤ 4100 →
    ∃ y', sForL it (gN 2) b1_number_of_bits (bs.map nD) [x0, some (nD t), y] l = .nx [x0, some (nD (nob bs t)), y'] l
  | [], t, a, y, _, _, _ => ⟨y, for_nil _ _ _ _ hok⟩
  | b :: bs, t, a, y, h, ht, hl => by
    have hb := h b (by simp)
    simp only [List.length_cons] at hl
    have hg : gN 2 (nD b) l [x0, some (nD t), y] = some [x0, some (nD t), some (nD b)] := rfl
    have m : mulOk 2 (t : Int) = true := Bd.mulOk (a := 20) (b := a) (bd_small (by decide)) (Bd.nat ht) (by omega)
    have eb : b1_number_of_bits [x0, some (nD t), some (nD b)] l = .nx [x0, some (nD (2 * t + b)), some (nD b)] l := by simp [b1_number_of_bits, m]
    obtain ⟨y', ih⟩ := loop_nob hok x0 bs (2 * t + b) (a + 1) (some (nD b)) (fun c hc => h c (by simp [hc])) (by rw [Nat.pow_succ]; omega) (by omega)
    refine ⟨y', ?_⟩
    simp only [List.map_cons, nob]
    rw [for_cons _ _ _ _ _ _ hok, hg]
    simp only [eb, loop_nx]
    exact ih
theorem call_nob (bs : List Nat) (h : IsB bs) (hl : bs.length ≤ 4050) (l : Sto) : m_number_of_bits [rowD bs] l = .ok (nD (nob bs 0)) l := by
  obtain ⟨y, e⟩ := loop_nob (it := ⟨bs.map nD, none⟩) (l := []) trivial (some (rowD bs)) bs 0 0 none h (by decide) (by omega)
  refine callM_p (junk := []) (by simp) ?_ (by simp)
  have z0 : nD 0 = D.int 0 := rfl
  rw [z0] at e
  simp only [rowD] at e ⊢
  simp [den_number_of_bits, e]
/-! ### row_for_bits -/
def foundD (d : List Nat) (n k : Nat) (bs : List Nat) : D := if bt (sizeN d n k) bs.length = 1 then rowD (rowN d n k (hi (sizeN d n k) bs.length + nob bs 0)) else .non
theorem pu_found (d : List Nat) (n k : Nat) (bs : List Nat) : pu (foundD d n k bs) = true := by unfold foundD; split <;> simp
theorem loop_rfb {it : ItD} {l : Sto} (hok : it.ok l) {d : List Nat} (h : DieOk d) (n k : Nat) (hk : k ≤ n) (hn : n ≤ 400) (bs : List Nat) (hb : IsB bs) (hl : bs.length ≤ 4050) :
    ∀ (es : List Nat) (acc : Nat) (y : Option D), es.Nodup → (∀ e ∈ es, e ≤ 4000) → acc + vals es ≤ sizeN d n k →
    if bs.length ∈ es then sForL it (gN 5) b1_row_for_bits (es.map nD) [some (dieD d), some (nD n), some (nD k), some (rowD bs), some (nD acc), y] l = .rt (rowD (rowN d n k (acc + ahead es bs.length + nob bs 0))) l
    else ∃ g', sForL it (gN 5) b1_row_for_bits (es.map nD) [some (dieD d), some (nD n), some (nD k), some (rowD bs), some (nD acc), y] l = .nx g' l
  | [], acc, y, _, _, _ => by
    rw [if_neg (by simp)]
    exact ⟨_, for_nil _ _ _ _ hok⟩
  | e :: es, acc, y, nd, he, ha => by
    have nd0 := nd
    rw [List.nodup_cons] at nd
    have ha0 := ha
    have ev : vals (e :: es) = 2 ^ e + vals es := by simp [vals]
    rw [ev] at ha
    have hg : gN 5 (nD e) l [some (dieD d), some (nD n), some (nD k), some (rowD bs), some (nD acc), y] = some [some (dieD d), some (nD n), some (nD k), some (rowD bs), some (nD acc), some (nD e)] := rfl
    have c1 := fun l => call_nob bs hb hl l
    have lt := nob_lt bs hb
    simp only [List.map_cons]
    rw [for_cons _ _ _ _ _ _ hok, hg]
    by_cases q : e = bs.length
    · rw [if_pos (by simp [q])]
      have ea : ahead (e :: es) bs.length = 0 := by simp [ahead, q]
      rw [ea, Nat.add_zero]
      have hx : acc + nob bs 0 < sizeN d n k := by rw [← q] at lt; omega
      have c2 := fun l => call_row h (n := n) (k := k) (x := acc + nob bs 0) ((acc : Int) + (nob bs 0 : Int)) (by simp) hn hx hk l
      have q' : (e : Int) = (bs.length : Int) := by omega
      simp only [rowD, dieD] at *
      simp [b1_row_for_bits, q', q, c1, c2]
    · have s1 := shl1 (he e (by simp))
      have q' : ¬ (e : Int) = (bs.length : Int) := by omega
      have q2 : ¬ bs.length = e := fun z => q z.symm
      have ih := loop_rfb hok h n k hk hn bs hb hl es (acc + 2 ^ e) (some (nD e)) nd.2 (fun a ha => he a (by simp [ha])) (by omega)
      have eb : b1_row_for_bits [some (dieD d), some (nD n), some (nD k), some (rowD bs), some (nD acc), some (nD e)] l = .nx [some (dieD d), some (nD n), some (nD k), some (rowD bs), some (nD (acc + 2 ^ e)), some (nD e)] l := by
        simp only [rowD, dieD] at *
        simp [b1_row_for_bits, q', q, s1]
      simp only [eb, loop_nx]
      by_cases qm : bs.length ∈ es
      · rw [if_pos qm] at ih
        rw [if_pos (by simp [qm])]
        have ea : ahead (e :: es) bs.length = 2 ^ e + ahead es bs.length := by simp [ahead, q]
        rw [ea, ← Nat.add_assoc]
        exact ih
      · rw [if_neg qm] at ih
        rw [if_neg (by simp [qm, q2])]
        exact ih
theorem call_rfb {d : List Nat} (h : DieOk d) (n k : Nat) (hk : k ≤ n) (hn : n ≤ 400) (bs : List Nat) (hb : IsB bs) (hl : bs.length ≤ 4050) (l : Sto) : m_row_for_bits [dieD d, nD n, nD k, rowD bs] l = .ok (foundD d n k bs) l := by
  have hN := bd_sz h n k hk hn
  have c1 := fun l => call_size h n k hk hn l
  have c2 := fun l => call_str (sizeN d n k) hN l
  have e := loop_rfb (it := ⟨(stch (sizeN d n k)).map nD, some 0⟩) (l := [.lst ((stch (sizeN d n k)).map nD)]) rfl h n k hk hn bs hb hl (stch (sizeN d n k)) 0 none (stch_nodup _) (fun e he => stch_le hN he) (by rw [Bt.vals_stch]; omega)
  refine callM_p (junk := [.lst ((stch (sizeN d n k)).map nD)]) (by simp) ?_ (pu_found d n k bs)
  have z0 : nD 0 = D.int 0 := rfl
  unfold foundD
  by_cases q : bt (sizeN d n k) bs.length = 1
  · rw [if_pos (mem_stch.mpr q)] at e
    rw [if_pos q]
    rw [z0, Nat.zero_add, ahead_stch q] at e
    simp only [rowD, dieD] at *
    simp [den_row_for_bits, c1, c2, e]
  · rw [if_neg (fun z => q (mem_stch.mp z))] at e
    rw [if_neg q]
    obtain ⟨g', e⟩ := e
    rw [z0] at e
    simp only [rowD, dieD] at *
    simp [den_row_for_bits, c1, c2, e]
/-! ### _law_stretch -/
theorem run_lst (S L : Nat) (hN : Bd (S : Int) 4000) (hL : L ≤ 4050) : runB 4 den__law_stretch [nD S, nD L] [] = .ok (if bt S L = 1 then nD (hi S L) else .non) [] := by
  have hb := bl_le hN
  have i1 := bits_bl S
  obtain ⟨g', l', e1, e2⟩ := for_inv (it := ⟨rngC ((bl S : Int) - 1) (-1) (bl S - 1 - L), none⟩) (gt := gN 3) (b := b1__law_stretch) (fun j g l => l = [] ∧ ∃ y, g = [some (nD S), some (nD L), some (nD (S / 2 ^ (bl S - j) * 2 ^ (bl S - j))), y])
      (fun _ _ _ _ => trivial) (rngC ((bl S : Int) - 1) (-1) (bl S - 1 - L)) 0 [some (nD S), some (nD L), some (.int 0), none] [] ⟨rfl, none, by
        rw [Nat.sub_zero, Nat.div_eq_of_lt (lt_bl S), Nat.zero_mul]; rfl⟩ (by
        rintro j e g l hj ⟨rfl, y, rfl⟩
        obtain ⟨hjl, he⟩ := rngC_get hj
        rw [Nat.zero_add] at *
        have hd : e = nD (bl S - (j + 1)) := by
          rw [he]
          congr 1
          omega
        subst hd
        obtain ⟨m, hm1, hm2⟩ : ∃ m, bl S - j = m + 1 ∧ bl S - (j + 1) = m := ⟨bl S - (j + 1), by omega, rfl⟩
        rw [hm1, hm2]
        have q := bandq S m
        have ts := top_step S m
        have sh : shlW ((bt S m : Nat) : Int) (m : Int) = true := by
          unfold shlW
          have h2 := bt_lt S m
          simp only [Bool.and_eq_true, decide_eq_true_eq]
          refine ⟨⟨by omega, by omega⟩, ?_⟩
          rw [Int.natAbs_natCast]
          rcases (show bt S m = 0 ∨ bt S m = 1 by omega) with z | z <;> rw [z] <;> decide
        refine ⟨[some (nD S), some (nD L), some (nD (S / 2 ^ (m + 1) * 2 ^ (m + 1))), some (nD m)], rfl, ?_⟩
        have hs : ((S / 2 ^ (m + 1) * 2 ^ (m + 1) : Nat) : Int) + ((bt S m : Nat) : Int) * 2 ^ m = ((S / 2 ^ m * 2 ^ m : Nat) : Int) := by
          rw [← ts]; simp
        generalize S / 2 ^ (m + 1) * 2 ^ (m + 1) = A at *
        generalize S / 2 ^ m * 2 ^ m = B at *
        have go : b1__law_stretch [some (nD S), some (nD L), some (nD A), some (nD m)] [] = .nx [some (nD S), some (nD L), some (nD B), some (nD m)] [] := by
          simp [b1__law_stretch, q, sh, hs]
        rw [go]
        exact ⟨rfl, _, rfl⟩)
  obtain ⟨rfl, y, rfl⟩ := e2
  rw [rngC_length, Nat.zero_add] at e1
  have hfin : S / 2 ^ (bl S - (bl S - 1 - L)) * 2 ^ (bl S - (bl S - 1 - L)) = hi S L := by
    unfold hi
    rcases Nat.lt_or_ge (L + 1) (bl S + 1) with q | q
    · rw [show bl S - (bl S - 1 - L) = L + 1 by omega]
    · rw [show bl S - (bl S - 1 - L) = bl S by omega, Nat.div_eq_of_lt (lt_bl S), Nat.div_eq_of_lt (Nat.lt_of_lt_of_le (lt_bl S) (Nat.pow_le_pow_right (by decide) (by omega)))]
      simp
  rw [hfin] at e1
  have m1 : mid ((bl S : Int) - 1) = true := by unfold mid; exact decide_eq_true (by omega)
  have m2 : mid (L : Int) = true := by rw [mid_nat]; simp; omega
  have ht : ((bl S : Int) - 1 - (L : Int)).toNat = bl S - 1 - L := by omega
  have q := bandq S L
  by_cases qb : bt S L = 1
  · rw [if_pos qb]
    rw [qb] at q
    simp [den__law_stretch, i1, m1, m2, ht, e1, q]
  · rw [if_neg qb]
    have qb0 : bt S L = 0 := by have := bt_lt S L; omega
    rw [qb0] at q
    simp [den__law_stretch, i1, m1, m2, ht, e1, q]
theorem call_lst (S L : Nat) (hN : Bd (S : Int) 4000) (hL : L ≤ 4050) (i : Int) (hi : i = L) (l : Sto) : m__law_stretch [nD S, .int i] l = .ok (if bt S L = 1 then nD (Bt.hi S L) else .non) l := by
  subst hi
  exact callM_p (by simp) (run_lst S L hN hL) (by split <;> simp)
end Q81

set_option Elab.async false
set_option linter.all false
set_option maxRecDepth 100000
set_option maxHeartbeats 1000000
namespace Q81
open PySem L2 PySem.Spec PyProof.Rows Zb Nm Bt
/-! ### _law_found -/
theorem loop_lf {it : ItD} {l : Sto} (hok : it.ok l) (x0 x1 x2 x3 x4 x5 x6 x9 : Option D) : ∀ (bs : List Nat) (t a : Nat) (y : Option D), IsB bs → t < 2 ^ a → a + bs.length ≤ 4100 →
    ∃ y', sForL it (gN 8) b1__law_found (bs.map nD) [x0, x1, x2, x3, x4, x5, x6, some (nD t), y, x9] l = .nx [x0, x1, x2, x3, x4, x5, x6, some (nD (nob bs t)), y', x9] l
  | [], t, a, y, _, _, _ => ⟨y, for_nil _ _ _ _ hok⟩
  | b :: bs, t, a, y, h, ht, hl => by
    have hb := h b (by simp)
    simp only [List.length_cons] at hl
    have hg : gN 8 (nD b) l [x0, x1, x2, x3, x4, x5, x6, some (nD t), y, x9] = some [x0, x1, x2, x3, x4, x5, x6, some (nD t), some (nD b), x9] := rfl
    have m : mulOk 2 (t : Int) = true := Bd.mulOk (a := 20) (b := a) (bd_small (by decide)) (Bd.nat ht) (by omega)
    have eb : b1__law_found [x0, x1, x2, x3, x4, x5, x6, some (nD t), some (nD b), x9] l = .nx [x0, x1, x2, x3, x4, x5, x6, some (nD (2 * t + b)), some (nD b), x9] l := by simp [b1__law_found, m]
    obtain ⟨y', ih⟩ := loop_lf hok x0 x1 x2 x3 x4 x5 x6 x9 bs (2 * t + b) (a + 1) (some (nD b)) (fun c hc => h c (by simp [hc])) (by rw [Nat.pow_succ]; omega) (by omega)
    refine ⟨y', ?_⟩
    simp only [List.map_cons, nob]
    rw [for_cons _ _ _ _ _ _ hok, hg]
    simp only [eb, loop_nx]
    exact ih
theorem rowN_len {d : List Nat} (h : DieOk d) {n k x : Nat} (hx : x < sizeN d n k) : (rowN d n k x).length = n := (num_row h hx).2.2.1
theorem rowN_ok {d : List Nat} (h : DieOk d) {n k x : Nat} (hn : n ≤ 400) (hx : x < sizeN d n k) : RowOk d (rowN d n k x) := ⟨(num_row h hx).2.1, by rw [rowN_len h hx]; exact hn⟩
theorem found_pl {d : List Nat} (h : DieOk d) (n k : Nat) (hn : n ≤ 400) (bs : List Nat) (hb : IsB bs) : plD (foundD d n k bs) = true ∧ wD (foundD d n k bs) ≤ 500 := by
  unfold foundD
  split
  · rename_i q
    rw [w_row, rowN_len h (hi_lt q (nob_lt bs hb))]
    exact ⟨pl_row _, by omega⟩
  · simp [plD, wD]
theorem run_found {J : Jug} (hJ : JOk J) {d : List Nat} (h : DieOk d) (n k : Nat) (hk : k ≤ n) (hn : n ≤ 400) (bs : List Nat) (hb : IsB bs) (hl : bs.length ≤ 4050) : runB 10 den__law_found [.adr 0, dieD d, nD n, nD k, rowD bs] [ob J, J.gob] = .ok (.bl true) [ob J, J.gob] := by
  have hN := bd_sz h n k hk hn
  have c1 := fun l => call_lsizeI h n k (n : Int) (k : Int) rfl rfl hk hn l
  have c2 := fun l => call_lst (sizeN d n k) bs.length hN hl (bs.length : Int) rfl l
  have c3 := fun l => call_rfb h n k hk hn bs hb hl l
  obtain ⟨p1, p2⟩ := found_pl h n k hn bs hb
  have s1 := fun l => call_same (foundD d n k bs) p1 (by omega) l
  by_cases q : bt (sizeN d n k) bs.length = 1
  · obtain ⟨y, e⟩ := loop_lf (it := ⟨bs.map nD, none⟩) (l := [ob J, J.gob]) trivial (some (.adr 0)) (some (dieD d)) (some (nD n)) (some (nD k)) (some (rowD bs)) (some (nD (sizeN d n k))) (some (nD (hi (sizeN d n k) bs.length))) none bs 0 0 none hb (by decide) (by omega)
    have z0 : nD 0 = D.int 0 := rfl
    rw [z0] at e
    have hx := hi_lt q (nob_lt bs hb)
    have c4 := fun l => call_lrow h (n := n) (k := k) (x := hi (sizeN d n k) bs.length + nob bs 0) ((hi (sizeN d n k) bs.length : Int) + (nob bs 0 : Int)) (by simp) hn hx hk l
    rw [if_pos q] at c2
    unfold foundD at c3 s1
    rw [if_pos q] at c3 s1
    generalize hi (sizeN d n k) bs.length = A at *
    generalize sizeN d n k = S at *
    simp only [rowD, dieD] at *
    simp [den__law_found, c1, c2, c3, c4, e, s1]
  · obtain ⟨y, e⟩ := loop_lf (it := ⟨bs.map nD, none⟩) (l := [ob J, J.gob]) trivial (some (.adr 0)) (some (dieD d)) (some (nD n)) (some (nD k)) (some (rowD bs)) (some (nD (sizeN d n k))) (some .non) none bs 0 0 none hb (by decide) (by omega)
    have z0 : nD 0 = D.int 0 := rfl
    rw [z0] at e
    rw [if_neg q] at c2
    unfold foundD at c3 s1
    rw [if_neg q] at c3 s1
    generalize sizeN d n k = S at *
    simp only [rowD, dieD] at *
    simp [den__law_found, c1, c2, c3, e, s1]
theorem foundJ {J : Jug} (hJ : JOk J) {d : List Nat} (h : DieOk d) (n k : Nat) (hk : k ≤ n) (hn : n ≤ 400) (bs : List Nat) (hb : IsB bs) (hl : bs.length ≤ 4050) (r : Sto) : m__law_found [.adr 0, dieD d, nD n, nD k, rowD bs] (ob J :: J.gob :: r) = .ok (.bl true) (ob J :: J.gob :: r) :=
  callJ (junk := []) (by simp) (run_found hJ h n k hk hn bs hb hl) (by simp) r
/-! ### bits of a row, block by block -/
theorem cut_mid {α : Type} (xs : List α) (a b : Nat) (h1 : a ≤ b) (h2 : b ≤ xs.length) : cutG xs (some (a : Int)) (some (b : Int)) = (xs.drop a).take (b - a) := by
  unfold cutG
  rw [HT.sIx_nat, HT.sIx_nat]
  simp only [Nat.min_eq_left h2, Nat.min_eq_left (Nat.le_trans h1 h2)]
def piece (fs : List Nat) (b i : Nat) : List Nat := (fs.drop (i * b)).take b
theorem piece_ok {d fs : List Nat} (hf : RowOk d fs) (b i : Nat) : RowOk d (piece fs b i) := by
  refine ⟨fun f h => hf.1 f (List.mem_of_mem_drop (List.mem_of_mem_take h)), ?_⟩
  unfold piece
  rw [List.length_take, List.length_drop]
  have := hf.2
  omega
theorem piece_cut (fs : List Nat) (b i : Nat) (h : i * b + b ≤ fs.length) : cutG (fs.map nD) (some ((i * b : Nat) : Int)) (some ((i * b + b : Nat) : Int)) = (piece fs b i).map nD := by
  rw [cut_mid _ _ _ (by omega) (by simpa using h)]
  unfold piece
  rw [List.map_take, List.map_drop]
  congr 1
  omega
def blocks (d fs : List Nat) (b j : Nat) : List Nat := ((List.range j).map fun i => rbits d (piece fs b i)).flatten
theorem blocks_succ (d fs : List Nat) (b j : Nat) : blocks d fs b (j + 1) = blocks d fs b j ++ rbits d (piece fs b j) := by
  unfold blocks
  rw [List.range_succ, List.map_append, List.flatten_append]
  simp
theorem rbits_len {d : List Nat} (h : DieOk d) {fs : List Nat} (hf : RowOk d fs) : (rbits d fs).length ≤ 4000 := by
  obtain ⟨e, o, _, h2, _, h4⟩ := bon_loc (num_lt h fs hf.1)
  unfold rbits
  rw [h4, bitsL_len]
  exact stch_le (bd_sz h _ _ (kind_le d fs) hf.2) h2
theorem rbits_isB (d fs : List Nat) : IsB (rbits d fs) := bon_isB _ _
theorem blocks_len {d : List Nat} (h : DieOk d) {fs : List Nat} (hf : RowOk d fs) (b : Nat) : ∀ j, (blocks d fs b j).length ≤ 4000 * j
  | 0 => by simp [blocks]
  | j + 1 => by
    rw [blocks_succ, List.length_append]
    have := blocks_len h hf b j
    have := rbits_len h (piece_ok hf b j)
    omega
theorem up_cnt (n b : Nat) (hb : 1 ≤ b) : upN 0 ((n : Int) - (b : Int) + 1) (b : Int) = n / b := by
  unfold upN
  by_cases q : b ≤ n
  · rw [if_pos (by omega)]
    have e : ((n : Int) - (b : Int) + 1 - 0 - 1) = ((n - b : Nat) : Int) := by omega
    rw [e, show ((n - b : Nat) : Int) / (b : Int) = (((n - b) / b : Nat) : Int) by simp]
    have : n / b = (n - b) / b + 1 := by
      rw [show n = (n - b) + b by omega, Nat.add_div_right _ (by omega)]
      simp
    rw [this]
    generalize (n - b) / b = q'
    omega
  · rw [if_neg (by omega), Nat.div_eq_of_lt (by omega)]
theorem cnt_le {n b i : Nat} (hb : 1 ≤ b) (hi : i < n / b) : i * b + b ≤ n := by
  have h1 : (i + 1) * b ≤ n / b * b := Nat.mul_le_mul_right b (by omega)
  have h2 := Nat.div_mul_le_self n b
  rw [Nat.add_mul, Nat.one_mul] at h1
  omega
theorem call_bor {d : List Nat} (h : DieOk d) {fs : List Nat} (hf : RowOk d fs) (b : Nat) (hb : 1 ≤ b) (hb2 : b ≤ 6) (i : Int) (hi : i = b) (l : Sto) : m_bits_of_row [dieD d, rowD fs, .int i] l = .ok (rowD (blocks d fs b (fs.length / b))) l := by
  subst hi
  have hl := hf.2
  have hcl : fs.length / b ≤ 400 := Nat.le_trans (Nat.div_le_self _ _) hl
  obtain ⟨g', l', e1, e2⟩ := for_inv (it := ⟨rngC 0 (b : Int) (fs.length / b), none⟩) (gt := gN 4) (b := b1_bits_of_row) (fun j g l => l = [] ∧ ∃ y, g = [some (dieD d), some (rowD fs), some (nD b), some (rowD (blocks d fs b j)), y])
      (fun _ _ _ _ => trivial) (rngC 0 (b : Int) (fs.length / b)) 0 [some (dieD d), some (rowD fs), some (nD b), some (.tup []), none] [] ⟨rfl, none, rfl⟩ (by
        rintro j e g l hj ⟨rfl, y, rfl⟩
        obtain ⟨hjl, he⟩ := rngC_get hj
        rw [Nat.zero_add] at *
        have hd : e = nD (j * b) := by rw [he]; simp
        subst hd
        have hc := cnt_le hb hjl
        have pc := piece_cut fs b j hc
        have c1 := fun l => call_rbits h (piece_ok hf b j) l
        have l1 := blocks_len h hf b j
        have l2 := rbits_len h (piece_ok hf b j)
        have sm : (blocks d fs b j).length + (rbits d (piece fs b j)).length ≤ 16777216 := by omega
        refine ⟨[some (dieD d), some (rowD fs), some (nD b), some (rowD (blocks d fs b j)), some (nD (j * b))], rfl, ?_⟩
        have e3 : ((j * b : Nat) : Int) + (b : Int) = ((j * b + b : Nat) : Int) := by simp
        have go : b1_bits_of_row [some (dieD d), some (rowD fs), some (nD b), some (rowD (blocks d fs b j)), some (nD (j * b))] [] = .nx [some (dieD d), some (rowD fs), some (nD b), some (rowD (blocks d fs b (j + 1))), some (nD (j * b))] [] := by
          rw [blocks_succ]
          generalize hB : blocks d fs b j = B at *
          generalize hA : j * b = A at *
          simp only [rowD, dieD] at *
          simp only [Int.natCast_add] at pc e3
          simp [b1_bits_of_row, pc, c1, sm]
        rw [go]
        exact ⟨rfl, _, rfl⟩)
  obtain ⟨rfl, y, rfl⟩ := e2
  rw [rngC_length, Nat.zero_add] at e1
  have uc := up_cnt fs.length b hb
  have uo : upOk 0 ((fs.length : Int) - (b : Int) + 1) (b : Int) = true := by
    unfold upOk
    simp only [Bool.and_eq_true, decide_eq_true_eq]
    omega
  refine callM_p (junk := []) (by simp) ?_ (by simp)
  simp only [rowD, dieD] at *
  simp [den_bits_of_row, uc, uo, e1]
end Q81

set_option Elab.async false
set_option linter.all false
set_option maxRecDepth 100000
set_option maxHeartbeats 1000000
namespace Q81
open PySem L2 PySem.Spec PyProof.Rows Zb Nm Bt
/-! ### _law_row_right -/
theorem found_rb {d : List Nat} (h : DieOk d) {fs : List Nat} (hf : RowOk d fs) : foundD d fs.length (kindF d fs) (rbits d fs) = rowD fs := by
  have nl := num_lt h fs hf.1
  obtain ⟨e, o, h1, h2, h3, h4⟩ := bon_loc nl
  have hb : bt (sizeN d fs.length (kindF d fs)) e = 1 := mem_stch.mp h2
  have hx := loc_inv _ _ _ _ (stch_nodup _) h1
  rw [ahead_stch hb] at hx
  unfold foundD rbits
  rw [h4, bitsL_len, if_pos hb, nob_bits, Nat.mod_eq_of_lt h3, ← hx, row_num h fs hf.1]
def flip (bs : List Nat) : List Nat := bs.map (1 - ·)
theorem flip_isB {bs : List Nat} : IsB (flip bs) := by
  intro b hb
  obtain ⟨x, _, rfl⟩ := List.mem_map.mp hb
  show 1 - x < 2
  omega
theorem lc_flip {x0 x1 x2 x3 x4 x5 x6 x7 x8 x9 x10 x11 x12 x13 x14 x16 : Option D} (bs : List Nat) (h : IsB bs) (hl : bs.length ≤ 4050) (l : Sto) : lcL ⟨bs.map nD, none⟩ (gN 15) dYes e1__law_row_right [x0, x1, x2, x3, x4, x5, x6, x7, x8, x9, x10, x11, x12, x13, x14, none, x16] (bs.map nD) l [] = .ok ((flip bs).map nD) l := by
  rw [lcL_fmap (by trivial) nD (fun b => nD (1 - b)) (fun _ => true) _ _ (fun b hb => ?_) (by simp; omega)]
  · rw [List.filter_eq_self.mpr (fun _ _ => rfl)]
    simp [flip, Function.comp_def]
  · have h2 := h b hb
    have e : (1 : Int) - (b : Int) = ((1 - b : Nat) : Int) := by omega
    exact ⟨[x0, x1, x2, x3, x4, x5, x6, x7, x8, x9, x10, x11, x12, x13, x14, some (nD b), x16], rfl, rfl, fun _ => by simp [e1__law_row_right, e]⟩
theorem lc_cut {x0 x1 x3 x4 x5 x6 x7 x8 x9 x11 x12 x13 x15 x16 : Option D} (fs : List Nat) (b : Nat) (hb : 1 ≤ b) (hl : fs.length ≤ 400) (l : Sto) : lcL ⟨rngC 0 (b : Int) (fs.length / b), none⟩ (gN 14) dYes e4__law_row_right [x0, x1, some (rowD fs), x3, x4, x5, x6, x7, x8, x9, some (nD b), x11, x12, x13, none, x15, x16] (rngC 0 (b : Int) (fs.length / b)) l [] = .ok ((List.range (fs.length / b)).map fun i => rowD (piece fs b i)) l := by
  have hcl : fs.length / b ≤ 400 := Nat.le_trans (Nat.div_le_self _ _) hl
  unfold rngC
  rw [lcL_fmap (by trivial) (fun i : Nat => D.int (0 + (i : Nat) * (b : Int))) (fun i => rowD (piece fs b i)) (fun _ => true) _ _ (fun i hi => ?_) (by simp; omega)]
  · rw [List.filter_eq_self.mpr (fun _ _ => rfl)]
    simp
  · have hc := cnt_le hb (List.mem_range.mp hi)
    have pc := piece_cut fs b i hc
    have e : (0 : Int) + (i : Int) * (b : Int) = ((i * b : Nat) : Int) := by simp
    rw [e]
    refine ⟨[x0, x1, some (rowD fs), x3, x4, x5, x6, x7, x8, x9, some (nD b), x11, x12, x13, some (nD (i * b)), x15, x16], rfl, rfl, fun _ => ?_⟩
    generalize i * b = A at *
    simp only [Int.natCast_add] at pc
    simp only [rowD] at *
    simp [e4__law_row_right, pc]
theorem due_loop {d : List Nat} (h : DieOk d) {fs : List Nat} (hf : RowOk d fs) (b : Nat) {x0 x2 x3 x4 x5 x6 x7 x8 x9 x10 x11 : Option D} {it : ItD} {l : Sto} (hok : it.ok l) :
    ∀ (m j : Nat) (y : Option D), j + m ≤ 400 → ∃ y', sForL it (gN 13) b5__law_row_right ((List.range' j m).map fun i => rowD (piece fs b i)) [x0, some (dieD d), x2, x3, x4, x5, x6, x7, x8, x9, x10, x11, some (rowD (blocks d fs b j)), y, none, none, none] l = .nx [x0, some (dieD d), x2, x3, x4, x5, x6, x7, x8, x9, x10, x11, some (rowD (blocks d fs b (j + m))), y', none, none, none] l
  | 0, j, y, _ => ⟨y, for_nil _ _ _ _ hok⟩
  | m + 1, j, y, hj => by
    have hg : gN 13 (rowD (piece fs b j)) l [x0, some (dieD d), x2, x3, x4, x5, x6, x7, x8, x9, x10, x11, some (rowD (blocks d fs b j)), y, none, none, none] = some [x0, some (dieD d), x2, x3, x4, x5, x6, x7, x8, x9, x10, x11, some (rowD (blocks d fs b j)), some (rowD (piece fs b j)), none, none, none] := rfl
    have c1 := fun l => call_lbits h (piece_ok hf b j) l
    have l1 := blocks_len h hf b j
    have l2 := rbits_len h (piece_ok hf b j)
    have sm : (blocks d fs b j).length + (rbits d (piece fs b j)).length ≤ 16777216 := by omega
    have eb : b5__law_row_right [x0, some (dieD d), x2, x3, x4, x5, x6, x7, x8, x9, x10, x11, some (rowD (blocks d fs b j)), some (rowD (piece fs b j)), none, none, none] l = .nx [x0, some (dieD d), x2, x3, x4, x5, x6, x7, x8, x9, x10, x11, some (rowD (blocks d fs b (j + 1))), some (rowD (piece fs b j)), none, none, none] l := by
      rw [blocks_succ]
      simp only [rowD, dieD] at *
      simp [b5__law_row_right, c1, sm]
    obtain ⟨y', ih⟩ := due_loop h hf b hok m (j + 1) (some (rowD (piece fs b j))) (by omega)
    refine ⟨y', ?_⟩
    rw [List.range'_succ, List.map_cons, for_cons _ _ _ _ _ _ hok, hg]
    simp only [eb, loop_nx]
    rw [show j + (m + 1) = j + 1 + m by omega]
    exact ih
theorem some_loop {J : Jug} (hJ : JOk J) {d : List Nat} (h : DieOk d) (n k o : Nat) (hk : k ≤ n) (ho : o ≤ n) (hn : n ≤ 400) {x2 x5 x6 x8 : Option D} {it : ItD} {r : Sto} (hok : it.ok (ob J :: J.gob :: r)) :
    ∀ (bss : List (List Nat)) (y : Option D), (∀ bs ∈ bss, IsB bs ∧ bs.length ≤ 4050) → ∃ y', sForL it (gN 9) b3__law_row_right (bss.map rowD) [some (.adr 0), some (dieD d), x2, some (nD n), some (nD k), x5, x6, some (nD o), x8, y, none, none, none, none, none, none, none] (ob J :: J.gob :: r) = .nx [some (.adr 0), some (dieD d), x2, some (nD n), some (nD k), x5, x6, some (nD o), x8, y', none, none, none, none, none, none, none] (ob J :: J.gob :: r)
  | [], y, _ => ⟨y, for_nil _ _ _ _ hok⟩
  | bs :: bss, y, hb => by
    obtain ⟨h1, h2⟩ := hb bs (by simp)
    have hg : gN 9 (rowD bs) (ob J :: J.gob :: r) [some (.adr 0), some (dieD d), x2, some (nD n), some (nD k), x5, x6, some (nD o), x8, y, none, none, none, none, none, none, none] = some [some (.adr 0), some (dieD d), x2, some (nD n), some (nD k), x5, x6, some (nD o), x8, some (rowD bs), none, none, none, none, none, none, none] := rfl
    have c1 := foundJ hJ h n k hk hn bs h1 h2 r
    have c2 := foundJ hJ h n o ho hn bs h1 h2 r
    have eb : b3__law_row_right [some (.adr 0), some (dieD d), x2, some (nD n), some (nD k), x5, x6, some (nD o), x8, some (rowD bs), none, none, none, none, none, none, none] (ob J :: J.gob :: r) = .nx [some (.adr 0), some (dieD d), x2, some (nD n), some (nD k), x5, x6, some (nD o), x8, some (rowD bs), none, none, none, none, none, none, none] (ob J :: J.gob :: r) := by
      simp only [rowD, dieD] at *
      simp [b3__law_row_right, c1, c2]
    obtain ⟨y', ih⟩ := some_loop hJ h n k o hk ho hn hok bss (some (rowD bs)) (fun c hc => hb c (by simp [hc]))
    refine ⟨y', ?_⟩
    rw [List.map_cons, for_cons _ _ _ _ _ _ hok, hg]
    simp only [eb, loop_nx]
    exact ih
theorem run_rr {J : Jug} (hJ : JOk J) {d : List Nat} (h : DieOk d) {fs : List Nat} (hf : RowOk d fs) : ∃ (J' : Jug) (junk : Sto), JOk J' ∧ runB 17 den__law_row_right [.adr 0, dieD d, rowD fs] [ob J, J.gob] = .ok (.bl true) (ob J' :: J'.gob :: junk) := by
  have kl := kind_le d fs
  have hn := hf.2
  have c1 := fun l => call_lkind h hf l
  have c2 := fun l => call_lbits h hf l
  have c3 := fun l => call_rbits h hf l
  have c4 := fun l => call_size h fs.length (kindF d fs) kl hn l
  have c5 := fun l => call_num h hf l
  have c6 := fun l => call_lsizeI h fs.length (kindF d fs) (fs.length : Int) (kindF d fs : Int) rfl rfl kl hn l
  have c7 := fun l => call_lnum h hf l
  have hB := rbits_isB d fs
  have hBl := rbits_len h hf
  have c8 := fun l => call_rfb h fs.length (kindF d fs) kl hn (rbits d fs) hB (by omega) l
  rw [found_rb h hf] at c8
  generalize hS : sizeN d fs.length (kindF d fs) = S at *
  generalize hN : numN d fs = N at *
  generalize hK : kindF d fs = K at *
  generalize hR : rbits d fs = B at *
  have s1 := fun l => call_same (.tup [rowD B, nD S, nD N]) (by simp [plD, plDs]) (by simp [wD, wDs, w_row]; omega) l
  have s2 := fun l => call_same (rowD fs) (pl_row _) (by rw [w_row]; omega) l
  obtain ⟨o, J1, ho, hJ1, e1⟩ := pour hJ (fs.length + 1) ((fs.length : Int) + 1) (by simp) (by omega) (by omega)
  obtain ⟨p, J2, hp, hJ2, e2⟩ := pour hJ1 2 2 rfl (by decide) (by decide)
  have lc1 := fun l => lc_flip (x0 := some (.adr 0)) (x1 := some (dieD d)) (x2 := some (rowD fs)) (x3 := some (nD fs.length)) (x4 := some (nD K)) (x5 := some (rowD B)) (x6 := some (.tup [rowD B, nD S, nD N])) (x7 := some (nD o)) (x8 := none) (x9 := none) (x10 := none) (x11 := none) (x12 := none) (x13 := none) (x14 := none) (x16 := none) B hB (by omega) l
  obtain ⟨q, J3, hq, hJ3, e3⟩ := pour hJ2 (fs.length + 3) ((fs.length : Int) + 3) (by simp) (by omega) (by omega)
  obtain ⟨ns, J4, n1, n2, hJ4, e4⟩ := cellsJ (it := ⟨rng 0 q, none⟩) (fun _ => trivial) (i := 16) (gw := [some (.adr 0), some (dieD d), some (rowD fs), some (nD fs.length), some (nD K), some (rowD B), some (.tup [rowD B, nD S, nD N]), some (nD o), some (.adr 3), none, none, none, none, none, none, none, none]) (fe := e2__law_row_right) (fun f => f < 2) (fun J hJ z => by
      obtain ⟨k, J', hk, hJ', e⟩ := pour hJ 2 2 rfl (by decide) (by decide)
      exact ⟨k, J', hk, hJ', fun r => by simp [e2__law_row_right, e]⟩) (rng 0 q) J3 hJ3 [] (by rw [rng_length]; simp; omega)
  rw [rng_length] at n1
  simp only [List.map_nil, List.nil_append] at e4
  have hm : mid (q : Int) = true := by rw [mid_nat]; simp; omega
  let bss : List (List Nat) := [B ++ [p], B.tail, flip B, [], ns]
  obtain ⟨y9, e5⟩ := some_loop hJ4 h fs.length K o (by omega) (by omega) hn (x2 := some (rowD fs)) (x5 := some (rowD B)) (x6 := some (.tup [rowD B, nD S, nD N])) (x8 := some (.adr 3)) (it := ⟨bss.map rowD, some 3⟩) (r := [.lst ((flip B).map nD), .lst (bss.map rowD), .lst (ns.map nD)]) rfl bss none (by
    intro bs hbs
    simp only [bss, List.mem_cons, List.not_mem_nil, or_false] at hbs
    rcases hbs with rfl | rfl | rfl | rfl | rfl
    · refine ⟨fun b hb => ?_, by simp; omega⟩
      rcases List.mem_append.mp hb with hb | hb
      · exact hB b hb
      · simp at hb; omega
    · exact ⟨fun b hb => hB b (List.mem_of_mem_tail hb), by simp; omega⟩
    · exact ⟨flip_isB, by simp [flip]; omega⟩
    · exact ⟨fun b hb => by simp at hb, by simp⟩
    · exact ⟨n2, by omega⟩)
  obtain ⟨c, J5, hc, hJ5, e6⟩ := pour hJ4 6 6 rfl (by decide) (by decide)
  have uc := up_cnt fs.length (1 + c) (by omega)
  have uo : upOk 0 ((fs.length : Int) - ((1 + c : Nat) : Int) + 1) ((1 + c : Nat) : Int) = true := by
    unfold upOk
    simp only [Bool.and_eq_true, decide_eq_true_eq]
    omega
  have lc2 := fun l => lc_cut (x0 := some (.adr 0)) (x1 := some (dieD d)) (x3 := some (nD fs.length)) (x4 := some (nD K)) (x5 := some (rowD B)) (x6 := some (.tup [rowD B, nD S, nD N])) (x7 := some (nD o)) (x8 := some (.adr 3)) (x9 := y9) (x11 := none) (x12 := none) (x13 := none) (x15 := none) (x16 := none) fs (1 + c) (by omega) hn l
  have hcl : fs.length / (1 + c) ≤ 400 := Nat.le_trans (Nat.div_le_self _ _) hn
  obtain ⟨y13, e7⟩ := due_loop h hf (1 + c) (x0 := some (.adr 0)) (x2 := some (rowD fs)) (x3 := some (nD fs.length)) (x4 := some (nD K)) (x5 := some (rowD B)) (x6 := some (.tup [rowD B, nD S, nD N])) (x7 := some (nD o)) (x8 := some (.adr 3)) (x9 := y9) (x10 := some (nD (1 + c))) (x11 := some (.adr 5)) (it := ⟨(List.range (fs.length / (1 + c))).map fun i => rowD (piece fs (1 + c) i), some 5⟩) (l := [ob J5, J5.gob, .lst ((flip B).map nD), .lst (bss.map rowD), .lst (ns.map nD), .lst ((List.range (fs.length / (1 + c))).map fun i => rowD (piece fs (1 + c) i))]) rfl (fs.length / (1 + c)) 0 none (by omega)
  rw [← List.range_eq_range', Nat.zero_add] at e7
  have c9 := fun l => call_bor h hf (1 + c) (by omega) (by omega) (1 + (c : Int)) (by simp) l
  have bl1 := blocks_len h hf (1 + c) (fs.length / (1 + c))
  have s3 := fun l => call_same (rowD (blocks d fs (1 + c) (fs.length / (1 + c)))) (pl_row _) (by rw [w_row]; omega) l
  have b0 : blocks d fs (1 + c) 0 = [] := rfl
  rw [b0] at e7
  refine ⟨J5, [.lst ((flip B).map nD), .lst (bss.map rowD), .lst (ns.map nD), .lst ((List.range (fs.length / (1 + c))).map fun i => rowD (piece fs (1 + c) i))], hJ5, ?_⟩
  have sm1 : B.length ≤ 16777215 := by omega
  generalize hX : blocks d fs (1 + c) (fs.length / (1 + c)) = X at *
  generalize hP : ((List.range (fs.length / (1 + c))).map fun i => rowD (piece fs (1 + c) i)) = PS at *
  generalize hM : fs.length / (1 + c) = M at *
  simp only [bss, List.map_cons, List.map_nil] at *
  simp only [rowD, dieD, List.map_append, List.map_tail, List.map_cons, List.map_nil, nD, Int.natCast_add, Int.natCast_one] at *
  simp [den__law_row_right, c1, c2, c3, c4, c5, c6, c7, c8, c9, s1, s2, s3, e1, e2, e3, e4, e5, e6, e7, lc1, lc2, hm, uc, uo, sm1, perm_row_for_bits]
end Q81

set_option Elab.async false
set_option linter.all false
set_option maxRecDepth 100000
namespace Tl
open PySem L2 Zb
section
variable {κ : Type} [DecidableEq κ]
/-! ### tallies -/
def getN (t : List (κ × Nat)) (k : κ) : Option Nat := (t.find? fun p => decide (p.1 = k)).map (·.2)
def putN (t : List (κ × Nat)) (k : κ) (n : Nat) : List (κ × Nat) :=
  if t.any fun p => decide (p.1 = k) then t.map fun p => if p.1 = k then (p.1, n) else p else t ++ [(k, n)]
def toD (t : List (κ × Nat)) : List (κ × D) := t.map fun p => (p.1, .int (p.2 : Nat))
theorem va_toD (k : κ) : ∀ t : List (κ × Nat), vaD (toD t) k = (getN t k).map fun n : Nat => D.int (n : Nat)
  | [] => rfl
  | p :: t => by
    have ih := va_toD k t
    unfold vaD getN toD at *
    simp only [List.map_cons, List.find?_cons]
    by_cases q : p.1 = k
    · simp [q]
    · simp only [decide_eq_false q]
      exact ih
theorem any_toD (k : κ) (t : List (κ × Nat)) : ((toD t).any fun p => decide (p.1 = k)) = (t.any fun p => decide (p.1 = k)) := by
  unfold toD
  rw [List.any_map]
  rfl
theorem put_toD (t : List (κ × Nat)) (k : κ) (n : Nat) : putD (toD t) k (.int (n : Nat)) = toD (putN t k n) := by
  unfold putD putN
  rw [any_toD]
  split
  · unfold toD
    rw [List.map_map, List.map_map]
    apply List.map_congr_left
    intro p _
    simp only [Function.comp]
    split <;> simp_all
  · unfold toD
    simp
def mem (t : List (κ × Nat)) (k : κ) : Prop := k ∈ t.map (·.1)
theorem any_mem (t : List (κ × Nat)) (k : κ) : (t.any fun p => decide (p.1 = k)) = true ↔ k ∈ t.map (·.1) := by
  rw [List.any_eq_true, List.mem_map]
  constructor
  · rintro ⟨p, h, e⟩; exact ⟨p, h, of_decide_eq_true e⟩
  · rintro ⟨p, h, e⟩; exact ⟨p, h, decide_eq_true e⟩
theorem put_keys (t : List (κ × Nat)) (k : κ) (n : Nat) : (putN t k n).map (·.1) = if k ∈ t.map (·.1) then t.map (·.1) else t.map (·.1) ++ [k] := by
  unfold putN
  by_cases q : (t.any fun p => decide (p.1 = k)) = true
  · rw [if_pos q, if_pos ((any_mem t k).mp q), List.map_map]
    apply List.map_congr_left
    intro p _
    simp only [Function.comp]
    split <;> rfl
  · rw [if_neg q, if_neg (fun z => q ((any_mem t k).mpr z))]
    simp
theorem get_none {t : List (κ × Nat)} {k : κ} (h : k ∉ t.map (·.1)) : getN t k = none := by
  unfold getN
  rw [Option.map_eq_none_iff, List.find?_eq_none]
  intro p hp
  simp only [decide_eq_true_eq]
  intro e
  exact h (List.mem_map.mpr ⟨p, hp, e⟩)
theorem get_repl (k j : κ) (n : Nat) : ∀ t : List (κ × Nat), getN (t.map fun p => if p.1 = k then (p.1, n) else p) j = if j = k then (if k ∈ t.map (·.1) then some n else none) else getN t j
  | [] => by simp [getN]
  | p :: t => by
    have ih := get_repl k j n t
    unfold getN at *
    simp only [List.map_cons, List.find?_cons, List.mem_cons]
    by_cases q : p.1 = k
    · rw [if_pos q]
      by_cases z : j = k
      · subst z
        simp [q]
      · have z' : ¬ p.1 = j := fun y => z (by rw [← y, q])
        have z2 : decide (p.1 = j) = false := decide_eq_false z'
        rw [z2]
        show Option.map _ (List.find? _ _) = _
        rw [ih, if_neg z, if_neg z]
    · rw [if_neg q]
      by_cases z : p.1 = j
      · have z' : ¬ j = k := fun y => q (by rw [z, y])
        simp only [z, decide_true, Option.map_some]
        rw [if_neg z']
      · have z2 : decide (p.1 = j) = false := decide_eq_false z
        rw [z2]
        show Option.map _ (List.find? _ _) = _
        rw [ih]
        by_cases y : j = k
        · rw [if_pos y, if_pos y]
          have e2 : (k = p.1 ∨ k ∈ t.map (·.1)) ↔ k ∈ t.map (·.1) := ⟨fun h => h.elim (fun e => absurd e.symm q) id, .inr⟩
          by_cases w : k ∈ t.map (·.1)
          · rw [if_pos w, if_pos (.inr w)]
          · rw [if_neg w, if_neg (fun h => w (e2.mp h))]
        · rw [if_neg y, if_neg y]
theorem get_put (t : List (κ × Nat)) (k j : κ) (n : Nat) : getN (putN t k n) j = if j = k then some n else getN t j := by
  unfold putN
  by_cases q : (t.any fun p => decide (p.1 = k)) = true
  · rw [if_pos q, get_repl]
    by_cases z : j = k
    · rw [if_pos z, if_pos z, if_pos ((any_mem t k).mp q)]
    · rw [if_neg z, if_neg z]
  · rw [if_neg q]
    have hk : k ∉ t.map (·.1) := fun z => q ((any_mem t k).mpr z)
    by_cases z : j = k
    · subst z
      rw [if_pos rfl]
      have := get_none hk
      unfold getN at *
      rw [List.find?_append]
      have h1 : t.find? (fun p => decide (p.1 = j)) = none := by simpa using this
      rw [h1]
      simp
    · rw [if_neg z]
      unfold getN
      rw [List.find?_append]
      cases e : t.find? (fun p => decide (p.1 = j)) with
      | some p => simp
      | none =>
        have : ¬ k = j := fun y => z y.symm
        simp [this]
/-- the tally of pairs (key, weight) -/
def step (t : List (κ × Nat)) (p : κ × Nat) : List (κ × Nat) := putN t p.1 ((getN t p.1).getD 0 + p.2)
def tally (ps : List (κ × Nat)) : List (κ × Nat) := ps.foldl step []
def wsum (ps : List (κ × Nat)) (k : κ) : Nat := ((ps.filter fun p => decide (p.1 = k)).map (·.2)).sum
theorem tally_snoc (ps : List (κ × Nat)) (p : κ × Nat) : tally (ps ++ [p]) = step (tally ps) p := by simp [tally]
theorem wsum_snoc (ps : List (κ × Nat)) (p : κ × Nat) (k : κ) : wsum (ps ++ [p]) k = wsum ps k + if p.1 = k then p.2 else 0 := by
  unfold wsum
  rw [List.filter_append, List.map_append, List.sum_append]
  by_cases q : p.1 = k <;> simp [q]
theorem snoc_ind' {α : Type} {P : List α → Prop} (h0 : P []) (h1 : ∀ xs x, P xs → P (xs ++ [x])) : ∀ xs, P xs := by
  intro xs
  rw [← List.reverse_reverse xs]
  induction xs.reverse with
  | nil => exact h0
  | cons x xs ih => rw [List.reverse_cons]; exact h1 _ _ ih
theorem tally_mem (k : κ) : ∀ ps : List (κ × Nat), k ∈ (tally ps).map (·.1) ↔ k ∈ ps.map (·.1) := by
  refine snoc_ind' (by simp [tally]) ?_
  intro ps p ih
  rw [tally_snoc]
  unfold step
  rw [put_keys, List.map_append, List.mem_append]
  by_cases q : p.1 ∈ (tally ps).map (·.1)
  · rw [if_pos q, ih]
    constructor
    · exact .inl
    · rintro (h | h)
      · exact h
      · have e : k = p.1 := by simpa using h
        rw [e] at ih ⊢
        exact ih.mp q
  · rw [if_neg q, List.mem_append, ih]
    simp
theorem tally_get (k : κ) : ∀ ps : List (κ × Nat), getN (tally ps) k = if k ∈ ps.map (·.1) then some (wsum ps k) else none := by
  refine snoc_ind' (by simp [tally, getN]) ?_
  intro ps p ih
  rw [tally_snoc]
  unfold step
  rw [get_put, wsum_snoc]
  by_cases q : k = p.1
  · subst q
    have hm : p.1 ∈ (ps ++ [p]).map (·.1) := by simp
    rw [if_pos rfl, if_pos hm, if_pos rfl, ih]
    split
    · rfl
    · rename_i h
      have : wsum ps p.1 = 0 := by
        unfold wsum
        rw [List.filter_eq_nil_iff.mpr]
        · rfl
        · intro a ha
          simp only [decide_eq_true_eq]
          intro e
          exact h (List.mem_map.mpr ⟨a, ha, e⟩)
      simp [this]
  · have q' : ¬ p.1 = k := fun y => q y.symm
    rw [if_neg q, if_neg q', ih, Nat.add_zero]
    have : k ∈ (ps ++ [p]).map (·.1) ↔ k ∈ ps.map (·.1) := by simp [q]
    by_cases z : k ∈ ps.map (·.1)
    · rw [if_pos z, if_pos (this.mpr z)]
    · rw [if_neg z, if_neg (fun y => z (this.mp y))]
theorem tally_nodup : ∀ ps : List (κ × Nat), ((tally ps).map (·.1)).Nodup := by
  refine snoc_ind' (by simp [tally]) ?_
  intro ps p ih
  rw [tally_snoc]
  unfold step
  rw [put_keys]
  split
  · exact ih
  · rename_i h
    rw [List.nodup_append]
    refine ⟨ih, by simp, fun a ha b hb e => ?_⟩
    simp at hb
    subst hb e
    exact h ha
end
end Tl

set_option Elab.async false
set_option linter.all false
set_option maxRecDepth 100000
set_option maxHeartbeats 1000000
namespace Q81
open PySem L2 PySem.Spec PyProof.Rows Zb Nm Bt
theorem rightJ {J : Jug} (hJ : JOk J) {d : List Nat} (h : DieOk d) {fs : List Nat} (hf : RowOk d fs) : ∃ (J' : Jug), JOk J' ∧ ∀ r : Sto, m__law_row_right [.adr 0, dieD d, rowD fs] (ob J :: J.gob :: r) = .ok (.bl true) (ob J' :: J'.gob :: r) := by
  obtain ⟨J', junk, h2, e⟩ := run_rr hJ h hf
  exact ⟨J', h2, fun r => callJ (by simp) e (by simp) r⟩
/-! ### masses of kinds -/
section
variable {d : List Nat}
theorem call_lkm (h : DieOk d) (n k : Nat) (hk : k ≤ n) (hn : n ≤ 400) (l : Sto) : m__law_kind_mass [dieD d, nD n, nD k] l = .ok (nD (massN d n k)) l := by
  refine callM_p (junk := []) (by simp) ?_ (by simp)
  have hl := h.lo
  have w0 := (h.wt (i := 0) (by omega)).2
  have w1 := (lw_ok h).2
  have c1 := fun l => call_lform h l
  have c3 := fun l => call_lpowerI (wt d 0) k k rfl w0 (by omega) l
  have c4 := fun l => call_lpowerI (lw d) (n - k) ((n : Int) - k) (by omega) w1 (by omega) l
  have m1 : mulOk ((wt d 0 : Int) ^ k) ((lw d : Int) ^ (n - k)) = true := (bdp _ k w0).mulOk (bdp _ (n - k) w1) (by omega)
  simp [den__law_kind_mass, c1, c3, c4, m1, massN]
theorem lc_masses (h : DieOk d) (n : Nat) (hn : n ≤ 400) (l : Sto) : lcL ⟨rng 0 (n + 1), none⟩ (gN 6) dYes e1_kind_masses [some (dieD d), some (nD n), some (nD (wt d 0)), some (nD (rr d)), some (nD (lw d)), some (nD (ss d)), none] (rng 0 (n + 1)) l [] = .ok ((List.range (n + 1)).map fun k => nD (massN d n k)) l := by
  conv => lhs; arg 6; rw [rng_eq]
  have ft : (List.range (n + 1)).filter (fun _ => true) = List.range (n + 1) := List.filter_eq_self.mpr fun _ _ => rfl
  rw [lcL_fmap (by trivial) (fun i => nD i) (fun k => nD (massN d n k)) (fun _ => true) _ _ (fun k hk => ?_) (by simp; omega)]
  · rw [ft]; rfl
  · have hk' := List.mem_range.mp hk
    have hl := h.lo
    have w0 := (h.wt (i := 0) (by omega)).2
    have w1 := (lw_ok h).2
    have c3 := fun l => call_powerI (wt d 0) k k rfl w0 (by omega) l
    have c4 := fun l => call_powerI (lw d) (n - k) ((n : Int) - k) (by omega) w1 (by omega) l
    have m1 : mulOk ((wt d 0 : Int) ^ k) ((lw d : Int) ^ (n - k)) = true := (bdp _ k w0).mulOk (bdp _ (n - k) w1) (by omega)
    refine ⟨[some (dieD d), some (nD n), some (nD (wt d 0)), some (nD (rr d)), some (nD (lw d)), some (nD (ss d)), some (nD k)], rfl, rfl, fun _ => ?_⟩
    simp only [e1_kind_masses]
    simp [c3, c4, m1, massN]
theorem call_masses (h : DieOk d) (n : Nat) (hn : n ≤ 400) (l : Sto) : m_kind_masses [dieD d, nD n] l = .ok (.tup ((List.range (n + 1)).map fun k => nD (massN d n k))) l := by
  refine callM_p (junk := [.lst ((List.range (n + 1)).map fun k => nD (massN d n k))]) (by simp) ?_ (by simpa using pus_map (massN d n) _)
  have c1 := fun l => call_form h l
  have lc := fun l => lc_masses h n hn l
  have hm : mid ((n : Int) + 1) = true := by unfold mid; exact decide_eq_true (by omega)
  have ht : ((n : Int) + 1).toNat = n + 1 := by omega
  simp only [dieD] at c1 lc ⊢
  simp [den_kind_masses, c1, hm, ht, lc]
theorem bd_mass (h : DieOk d) (n k : Nat) (hk : k ≤ n) : Bd (massN d n k : Int) (3 * n + 2) := by
  have hl := h.lo
  have w0 := (h.wt (i := 0) (by omega)).2
  have w1 := (lw_ok h).2
  have := (bdp (wt d 0) k w0).mul (bdp (lw d) (n - k) w1)
  unfold massN
  rw [Int.natCast_mul, Int.natCast_pow, Int.natCast_pow]
  exact this.mono (by omega)
end
/-! ### bit_count -/
abbrev PK := List (Key × Nat)
def kI (e : Nat) : Key := .inl (e : Int)
theorem get_dflt (t : PK) (k : Key) : (vaD (Tl.toD t) k).getD (.int 0) = nD ((Tl.getN t k).getD 0) := by
  rw [Tl.va_toD]
  cases Tl.getN t k <;> rfl
theorem tally_len {κ : Type} [DecidableEq κ] : ∀ ps : List (κ × Nat), (Tl.tally ps).length ≤ ps.length := by
  refine Tl.snoc_ind' (by simp [Tl.tally]) ?_
  intro ps p ih
  rw [Tl.tally_snoc]
  unfold Tl.step
  have := congrArg List.length (Tl.put_keys (Tl.tally ps) p.1 ((Tl.getN (Tl.tally ps) p.1).getD 0 + p.2))
  rw [List.length_map] at this
  rw [this]
  split <;> simp <;> omega
theorem shl_m {m a e : Nat} (hm : Bd (m : Int) a) (ha : a < 90000) (he : e ≤ 4000) : shlW (m : Int) (e : Int) = true := by
  unfold shlW
  simp only [Bool.and_eq_true, decide_eq_true_eq]
  refine ⟨⟨by omega, by omega⟩, ?_⟩
  rw [Int.natAbs_natCast]
  have := log2_of hm
  rw [Int.natAbs_natCast] at this
  omega
theorem loop_bc {it : ItD} {junk : Sto} (hok : ∀ o, it.ok (o :: junk)) {x0 x1 x3 : Option D} (m a : Nat) (hm : Bd (m : Int) a) (ha : a < 90000) : ∀ (es : List Nat) (ps : PK) (y : Option D), (∀ e ∈ es, e ≤ 4000) → ps.length + es.length ≤ 16000000 →
    ∃ y', sForL it (gN 5) b1_bit_count (es.map nD) [x0, x1, some (.adr 0), x3, some (nD m), y] (.dct (Tl.toD (Tl.tally ps)) :: junk) = .nx [x0, x1, some (.adr 0), x3, some (nD m), y'] (.dct (Tl.toD (Tl.tally (ps ++ es.map fun e => (kI e, m * 2 ^ e)))) :: junk)
  | [], ps, y, _, _ => ⟨y, by rw [List.map_nil, for_nil _ _ _ _ (hok _)]; simp⟩
  | e :: es, ps, y, h, hl => by
    have he := h e (by simp)
    simp only [List.length_cons] at hl
    have hg : gN 5 (nD e) (.dct (Tl.toD (Tl.tally ps)) :: junk) [x0, x1, some (.adr 0), x3, some (nD m), y] = some [x0, x1, some (.adr 0), x3, some (nD m), some (nD e)] := rfl
    have s1 := shl_m hm ha he
    have tl := tally_len ps
    have gd := get_dflt (Tl.tally ps) (.inl (e : Int))
    have eb : b1_bit_count [x0, x1, some (.adr 0), x3, some (nD m), some (nD e)] (.dct (Tl.toD (Tl.tally ps)) :: junk) = .nx [x0, x1, some (.adr 0), x3, some (nD m), some (nD e)] (.dct (Tl.toD (Tl.tally (ps ++ [(kI e, m * 2 ^ e)]))) :: junk) := by
      rw [Tl.tally_snoc]
      unfold Tl.step
      rw [← Tl.put_toD]
      have sm : (Tl.toD (Tl.tally ps)).length ≤ 16777215 := by unfold Tl.toD; rw [List.length_map]; omega
      generalize Tl.toD (Tl.tally ps) = T at *
      generalize Tl.getN (Tl.tally ps) = G at *
      simp [b1_bit_count, s1, gd, sm, kI]
    obtain ⟨y', ih⟩ := loop_bc hok m a hm ha es (ps ++ [(kI e, m * 2 ^ e)]) (some (nD e)) (fun c hc => h c (by simp [hc])) (by simp; omega)
    refine ⟨y', ?_⟩
    rw [List.map_cons, for_cons _ _ _ _ _ _ (hok _), hg]
    simp only [eb, loop_nx]
    rw [ih]
    simp
end Q81

set_option Elab.async false
set_option linter.all false
set_option maxRecDepth 100000
set_option maxHeartbeats 1000000
namespace Q81
open PySem L2 PySem.Spec PyProof.Rows Zb Nm Bt
theorem stch_len {N : Nat} (hN : Bd (N : Int) 4000) : (stch N).length ≤ 4000 := by
  have := bl_le hN
  unfold stch
  have := List.length_filter_le (fun e => bt N e == 1) (down (bl N))
  rw [down_len] at this
  omega
def psK (d : List Nat) (n j : Nat) : PK := ((List.range j).map fun k => (stch (sizeN d n k)).map fun e => (kI e, massN d n k * 2 ^ e)).flatten
theorem psK_succ (d : List Nat) (n j : Nat) : psK d n (j + 1) = psK d n j ++ (stch (sizeN d n j)).map fun e => (kI e, massN d n j * 2 ^ e) := by
  unfold psK
  rw [List.range_succ, List.map_append, List.flatten_append]
  simp
theorem psK_len {d : List Nat} (h : DieOk d) (n : Nat) (hn : n ≤ 400) : ∀ j, j ≤ n + 1 → (psK d n j).length ≤ 4000 * j
  | 0, _ => by simp [psK]
  | j + 1, hj => by
    rw [psK_succ, List.length_append, List.length_map]
    have := psK_len h n hn j (by omega)
    have := stch_len (bd_sz h n j (by omega) hn)
    omega
/-- all digits that are told -/
def mxl : List Nat → Nat
  | [] => 0
  | a :: as => max a (mxl as)
def mxB (d : List Nat) (n : Nat) : Nat := mxl ((List.range (n + 1)).map fun k => bl (sizeN d n k))
theorem mxl_ge : ∀ {as : List Nat} {a : Nat}, a ∈ as → a ≤ mxl as
  | b :: as, a, h => by
    simp only [mxl]
    rcases List.mem_cons.mp h with rfl | h
    · omega
    · have := mxl_ge h; omega
theorem mxl_mem : ∀ {as : List Nat}, 0 < mxl as → mxl as ∈ as
  | [], h => by simp [mxl] at h
  | b :: as, h => by
    simp only [mxl] at h ⊢
    by_cases q : mxl as ≤ b
    · rw [Nat.max_eq_left q]; simp
    · rw [Nat.max_eq_right (by omega)]
      exact List.mem_cons_of_mem _ (mxl_mem (by omega))
theorem top_bit {n : Nat} (h : 0 < bl n) : bt n (bl n - 1) = 1 := by
  unfold bl at h ⊢
  by_cases q : n = 0
  · rw [if_pos q] at h; omega
  · rw [if_neg q] at h ⊢
    rw [Nat.add_sub_cancel]
    unfold bt
    have h1 : 2 ^ n.log2 ≤ n := Nat.log2_self_le q
    have h2 : n < 2 ^ (n.log2 + 1) := Nat.lt_log2_self
    rw [Nat.pow_succ] at h2
    have : n / 2 ^ n.log2 = 1 := by
      apply Nat.div_eq_of_lt_le
      · omega
      · omega
    rw [this]
theorem size_top {d : List Nat} (h : DieOk d) (n : Nat) : 1 ≤ sizeN d n n := by
  unfold sizeN
  rw [Nat.sub_self, Nat.pow_zero, Nat.mul_one]
  have h1 := h.r1
  have h2 : 1 ≤ rr d ^ n := Nat.pow_pos h1
  have h3 : C n n = 1 := C_self n
  rw [h3]
  omega
theorem key_mem {d : List Nat} (n : Nat) (k : Key) : k ∈ (psK d n (n + 1)).map (·.1) ↔ ∃ e kd, k = kI e ∧ kd ≤ n ∧ bt (sizeN d n kd) e = 1 := by
  unfold psK
  rw [List.mem_map]
  constructor
  · rintro ⟨p, hp, rfl⟩
    obtain ⟨ps, h1, h2⟩ := List.mem_flatten.mp hp
    obtain ⟨kd, h3, rfl⟩ := List.mem_map.mp h1
    obtain ⟨e, h4, rfl⟩ := List.mem_map.mp h2
    exact ⟨e, kd, rfl, by have := List.mem_range.mp h3; omega, mem_stch.mp h4⟩
  · rintro ⟨e, kd, rfl, h1, h2⟩
    refine ⟨(kI e, massN d n kd * 2 ^ e), List.mem_flatten.mpr ⟨_, List.mem_map.mpr ⟨kd, List.mem_range.mpr (by omega), rfl⟩, List.mem_map.mpr ⟨e, mem_stch.mpr h2, rfl⟩⟩, rfl⟩
/-- the count of bits told at e -/
def cntE (d : List Nat) (n e : Nat) : Nat := ((List.range (n + 1)).map fun k => bt (sizeN d n k) e * 2 ^ e * massN d n k).sum
theorem wsum_app {κ : Type} [DecidableEq κ] (ps qs : List (κ × Nat)) (k : κ) : Tl.wsum (ps ++ qs) k = Tl.wsum ps k + Tl.wsum qs k := by
  unfold Tl.wsum
  rw [List.filter_append, List.map_append, List.sum_append]
theorem wsum_st (m e : Nat) : ∀ es : List Nat, es.Nodup → Tl.wsum (es.map fun e => (kI e, m * 2 ^ e)) (kI e) = if e ∈ es then m * 2 ^ e else 0
  | [], _ => by simp [Tl.wsum]
  | a :: es, nd => by
    rw [List.nodup_cons] at nd
    have ih := wsum_st m e es nd.2
    have : (a :: es).map (fun e => (kI e, m * 2 ^ e)) = [(kI a, m * 2 ^ a)] ++ es.map (fun e => (kI e, m * 2 ^ e)) := rfl
    rw [this, wsum_app, ih]
    by_cases q : a = e
    · subst q
      rw [if_neg nd.1, if_pos (by simp)]
      simp [Tl.wsum]
    · have q2 : ¬ kI a = kI e := by
        unfold kI
        intro z
        exact q (Int.ofNat_inj.mp (Sum.inl.inj z))
      have q3 : ¬ e = a := fun z => q z.symm
      have : Tl.wsum [(kI a, m * 2 ^ a)] (kI e) = 0 := by simp [Tl.wsum, q2]
      rw [this, Nat.zero_add]
      by_cases z : e ∈ es
      · rw [if_pos z, if_pos (by simp [z])]
      · rw [if_neg z, if_neg (by simp [z, q3])]
theorem wsum_psK (d : List Nat) (n e : Nat) : ∀ j, Tl.wsum (psK d n j) (kI e) = ((List.range j).map fun k => bt (sizeN d n k) e * 2 ^ e * massN d n k).sum
  | 0 => by simp [psK, Tl.wsum]
  | j + 1 => by
    rw [psK_succ, wsum_app, wsum_psK d n e j, wsum_st _ _ _ (stch_nodup _), List.range_succ, List.map_append, List.sum_append]
    congr 1
    simp only [List.map_cons, List.map_nil, List.sum_cons, List.sum_nil, Nat.add_zero]
    have h2 := bt_lt (sizeN d n j) e
    by_cases q : bt (sizeN d n j) e = 1
    · rw [if_pos (mem_stch.mpr q), q, Nat.one_mul, Nat.mul_comm]
    · rw [if_neg (fun z => q (mem_stch.mp z))]
      have : bt (sizeN d n j) e = 0 := by omega
      rw [this]; simp
theorem get_cnt (d : List Nat) (n e : Nat) : (Tl.getN (Tl.tally (psK d n (n + 1))) (kI e)).getD 0 = cntE d n e := by
  rw [Tl.tally_get]
  have hw := wsum_psK d n e (n + 1)
  split
  · exact hw
  · rename_i h
    have : Tl.wsum (psK d n (n + 1)) (kI e) = 0 := by
      unfold Tl.wsum
      rw [List.filter_eq_nil_iff.mpr]
      · rfl
      · intro a ha
        simp only [decide_eq_true_eq]
        intro z
        exact h (List.mem_map.mpr ⟨a, ha, z⟩)
    show 0 = cntE d n e
    unfold cntE
    rw [← hw, this]
/-! the greatest key -/
theorem maxI_of : ∀ {is : List Int} {m : Int}, m ∈ is → (∀ y ∈ is, y ≤ m) → maxI is = some m := by
  intro is m h1 h2
  cases q : maxI is with
  | none =>
    cases is with
    | nil => simp at h1
    | cons a r => simp only [maxI] at q; split at q <;> cases q
  | some k =>
    obtain ⟨k1, k2⟩ := maxI_spec q
    have := h2 k k1
    have := k2 m h1
    congr 1
    omega
theorem keyInts_of : ∀ (t : PK) (is : List Int), t.map (·.1) = is.map Sum.inl → keyInts (Tl.toD t) = some is
  | [], is, h => by
    cases is with
    | nil => rfl
    | cons a r => simp at h
  | p :: t, is, h => by
    cases is with
    | nil => simp at h
    | cons i is =>
      simp only [List.map_cons, List.cons.injEq] at h
      have ih := keyInts_of t is h.2
      obtain ⟨k, n⟩ := p
      simp only at h
      rw [h.1]
      show (keyInts (Tl.toD t)).map (i :: ·) = _
      rw [ih]
      rfl
def unI : Key → Int
  | .inl i => i
  | .inr _ => 0
theorem max_keys {d : List Nat} (h : DieOk d) (n : Nat) : (keyInts (Tl.toD (Tl.tally (psK d n (n + 1))))).bind maxI = some ((mxB d n : Int) - 1) ∧ 1 ≤ mxB d n := by
  have kk : ∀ k : Key, k ∈ (Tl.tally (psK d n (n + 1))).map (·.1) ↔ ∃ e kd, k = kI e ∧ kd ≤ n ∧ bt (sizeN d n kd) e = 1 := fun k => by rw [Tl.tally_mem, key_mem]
  have e1 : (Tl.tally (psK d n (n + 1))).map (·.1) = (((Tl.tally (psK d n (n + 1))).map (·.1)).map unI).map Sum.inl := by
    rw [List.map_map]
    conv => lhs; rw [← List.map_id ((Tl.tally (psK d n (n + 1))).map (·.1))]
    apply List.map_congr_left
    intro k hk
    obtain ⟨e, kd, rfl, _⟩ := (kk k).mp hk
    rfl
  rw [keyInts_of _ _ e1]
  have hpos : 1 ≤ mxB d n := by
    unfold mxB
    have h1 := mxl_ge (List.mem_map.mpr ⟨n, List.mem_range.mpr (Nat.lt_succ_self n), rfl⟩ : bl (sizeN d n n) ∈ (List.range (n + 1)).map fun k => bl (sizeN d n k))
    have h2 := size_top h n
    have : 1 ≤ bl (sizeN d n n) := by
      unfold bl
      rw [if_neg (by omega)]
      omega
    omega
  refine ⟨?_, hpos⟩
  show maxI _ = _
  apply maxI_of
  · have hm := mxl_mem (as := (List.range (n + 1)).map fun k => bl (sizeN d n k)) (by unfold mxB at hpos; omega)
    obtain ⟨kd, h1, h2⟩ := List.mem_map.mp hm
    refine List.mem_map.mpr ⟨kI (mxB d n - 1), (kk _).mpr ⟨_, kd, rfl, by have := List.mem_range.mp h1; omega, ?_⟩, ?_⟩
    · have h3 : mxB d n = bl (sizeN d n kd) := h2.symm
      rw [h3]
      exact top_bit (by rw [← h3]; omega)
    · show (((mxB d n - 1 : Nat) : Int)) = _
      omega
  · intro y hy
    obtain ⟨k, hk, rfl⟩ := List.mem_map.mp hy
    obtain ⟨e, kd, rfl, h1, h2⟩ := (kk k).mp hk
    have h3 := bt_bl h2
    have h4 := mxl_ge (List.mem_map.mpr ⟨kd, List.mem_range.mpr (by omega), rfl⟩ : bl (sizeN d n kd) ∈ (List.range (n + 1)).map fun k => bl (sizeN d n k))
    show (e : Int) ≤ _
    unfold mxB
    omega
end Q81

set_option Elab.async false
set_option linter.all false
set_option maxRecDepth 100000
set_option maxHeartbeats 1000000
namespace Q81
open PySem L2 PySem.Spec PyProof.Rows Zb Nm Bt
theorem zipD_map {α : Type} (f g : α → D) : ∀ xs : List α, zipD (xs.map f) (xs.map g) = xs.map fun x => .tup [f x, g x]
  | [] => rfl
  | x :: xs => by simp only [List.map_cons, zipD, zipD_map f g xs]
theorem mxB_le {d : List Nat} (h : DieOk d) (n : Nat) (hn : n ≤ 400) : mxB d n ≤ 4000 := by
  rcases Nat.eq_zero_or_pos (mxB d n) with q | q
  · omega
  · have hm := mxl_mem (as := (List.range (n + 1)).map fun k => bl (sizeN d n k)) (by unfold mxB at q; omega)
    obtain ⟨kd, h1, h2⟩ := List.mem_map.mp hm
    have := bl_le (bd_sz h n kd (by have := List.mem_range.mp h1; omega) hn)
    unfold mxB
    omega
def cntD (d : List Nat) (n : Nat) : List D := (List.range (mxB d n)).map fun e => nD (cntE d n e)
theorem cntD_row (d : List Nat) (n : Nat) : cntD d n = ((List.range (mxB d n)).map (cntE d n)).map nD := by
  unfold cntD
  rw [List.map_map]
  rfl
theorem lc_cnt {d : List Nat} (h : DieOk d) (n : Nat) (hn : n ≤ 400) {x0 x1 x3 x4 : Option D} (T : PK) (hT : T = Tl.tally (psK d n (n + 1))) (junk : Sto) : lcL ⟨rng 0 (mxB d n), none⟩ (gN 5) dYes e3_bit_count [x0, x1, some (.adr 0), x3, x4, none] (rng 0 (mxB d n)) (.dct (Tl.toD T) :: junk) [] = .ok (cntD d n) (.dct (Tl.toD T) :: junk) := by
  have hM := mxB_le h n hn
  conv => lhs; arg 6; rw [rng_eq]
  rw [lcL_fmap (by trivial) (fun i => nD i) (fun e => nD (cntE d n e)) (fun _ => true) _ _ (fun e he => ?_) (by simp; omega)]
  · rw [List.filter_eq_self.mpr (fun _ _ => rfl)]
    rfl
  · have gd := get_dflt T (.inl (e : Int))
    have gc := get_cnt d n e
    rw [← hT] at gc
    unfold kI at gc
    rw [gc] at gd
    refine ⟨[x0, x1, some (.adr 0), x3, x4, some (nD e)], rfl, rfl, fun _ => ?_⟩
    generalize Tl.toD T = TD at *
    generalize cntE d n e = ce at *
    simp [e3_bit_count, gd]
theorem run_bc {d : List Nat} (h : DieOk d) (n : Nat) (hn : n ≤ 400) : ∃ junk, runB 6 den_bit_count [dieD d, nD n] [] = .ok (.tup (cntD d n)) junk := by
  have c1 := fun l => call_sizes h n (n : Int) rfl hn l
  have c2 := fun l => call_masses h n hn l
  have zm := zipD_map (fun k => nD (sizeN d n k)) (fun k => nD (massN d n k)) (List.range (n + 1))
  obtain ⟨g', l', e1, e2⟩ := for_inv (it := ⟨(List.range (n + 1)).map (fun k => .tup [nD (sizeN d n k), nD (massN d n k)]), none⟩) (gt := gT [3, 4]) (b := b2_bit_count) (fun j g l => j ≤ n + 1 ∧ ∃ (junk : Sto) (y3 y4 y5 : Option D), g = [some (dieD d), some (nD n), some (.adr 0), y3, y4, y5] ∧ l = .dct (Tl.toD (Tl.tally (psK d n j))) :: junk)
      (fun _ _ _ _ => trivial) ((List.range (n + 1)).map (fun k => .tup [nD (sizeN d n k), nD (massN d n k)])) 0 [some (dieD d), some (nD n), some (.adr 0), none, none, none] [.dct []] ⟨by omega, [], none, none, none, rfl, rfl⟩ (by
        rintro j e g l hj ⟨_, junk, y3, y4, y5, rfl, rfl⟩
        rw [Nat.zero_add] at *
        rw [List.getElem?_map] at hj
        have hjn : j < n + 1 := by
          rcases Nat.lt_or_ge j (n + 1) with q | q
          · exact q
          · rw [List.getElem?_eq_none (by simpa using q)] at hj; cases hj
        rw [List.getElem?_range hjn] at hj
        simp only [Option.map_some, Option.some.injEq] at hj
        subst hj
        have hN := bd_sz h n j (by omega) hn
        have c3 := fun l => call_str (sizeN d n j) hN l
        have pl := psK_len h n hn j (by omega)
        have sl := stch_len hN
        obtain ⟨y', e3⟩ := loop_bc (it := ⟨(stch (sizeN d n j)).map nD, some (junk.length + 1)⟩) (junk := junk ++ [.lst ((stch (sizeN d n j)).map nD)]) (fun o => by
          show (o :: (junk ++ [OB.lst ((stch (sizeN d n j)).map nD)]))[junk.length + 1]? = _
          simp) (x0 := some (dieD d)) (x1 := some (nD n)) (x3 := some (nD (sizeN d n j))) (massN d n j) (3 * n + 2) (bd_mass h n j (by omega)) (by omega) (stch (sizeN d n j)) (psK d n j) y5 (fun e he => stch_le hN he) (by omega)
        rw [← psK_succ] at e3
        refine ⟨[some (dieD d), some (nD n), some (.adr 0), some (nD (sizeN d n j)), some (nD (massN d n j)), y5], rfl, ?_⟩
        generalize Tl.toD (Tl.tally (psK d n j)) = A at *
        generalize Tl.toD (Tl.tally (psK d n (j + 1))) = B at *
        have go : b2_bit_count [some (dieD d), some (nD n), some (.adr 0), some (nD (sizeN d n j)), some (nD (massN d n j)), y5] (.dct A :: junk) = .nx [some (dieD d), some (nD n), some (.adr 0), some (nD (sizeN d n j)), some (nD (massN d n j)), y'] (.dct B :: (junk ++ [.lst ((stch (sizeN d n j)).map nD)])) := by
          generalize sizeN d n j = S at *
          generalize massN d n j = m at *
          simp only [dieD] at *
          simp [b2_bit_count, c3, e3]
        rw [go]
        exact ⟨by omega, _, _, _, _, rfl, rfl⟩)
  obtain ⟨_, junk, y3, y4, y5, rfl, rfl⟩ := e2
  rw [List.length_map, List.length_range, Nat.zero_add] at e1
  obtain ⟨mk, m1⟩ := max_keys h n
  have hM := mxB_le h n hn
  have lc := fun junk => lc_cnt h n hn (x0 := some (dieD d)) (x1 := some (nD n)) (x3 := y3) (x4 := y4) _ rfl junk
  have hm : mid (mxB d n : Int) = true := by rw [mid_nat]; simp; omega
  refine ⟨.dct (Tl.toD (Tl.tally (psK d n (n + 1)))) :: (junk ++ [.lst (cntD d n)]), ?_⟩
  generalize Tl.toD (Tl.tally (psK d n (n + 1))) = B at *
  generalize mxB d n = M at *
  generalize cntD d n = Z at *
  simp only [dieD] at *
  have ea : ((M : Int) - 1 + 1) = (M : Int) := by omega
  simp [den_bit_count, c1, c2, zm, e1, mk, hm, lc, -List.map_map]
theorem pus_cnt (d : List Nat) (n : Nat) : pus (cntD d n) = true := by rw [cntD_row]; exact pus_nD _
theorem call_bc {d : List Nat} (h : DieOk d) (n : Nat) (hn : n ≤ 400) (l : Sto) : m_bit_count [dieD d, nD n] l = .ok (.tup (cntD d n)) l := by
  obtain ⟨junk, e⟩ := run_bc h n hn
  exact callM_p (by simp) e (by simp [pus_cnt])
end Q81

set_option Elab.async false
set_option linter.all false
set_option maxRecDepth 100000
set_option maxHeartbeats 1000000
namespace Q81
open PySem L2 PySem.Spec PyProof.Rows Zb Nm Bt
/-! ### _law_counts -/
def fl (M : Nat) (f : Nat → Nat) : List D := (List.range M).map fun e => nD (f e)
theorem fl_len (M : Nat) (f : Nat → Nat) : (fl M f).length = M := by simp [fl]
theorem fl_get {M e : Nat} (f : Nat → Nat) (h : e < M) : (fl M f)[e]? = some (nD (f e)) := by
  unfold fl
  rw [List.getElem?_map, List.getElem?_range h]
  rfl
def addAt (f : Nat → Nat) (g v : Nat) : Nat → Nat := fun e => f e + if e = g then v else 0
theorem ext_get (M g : Nat) (f : Nat → Nat) (h0 : ∀ e, M ≤ e → f e = 0) : (fl M f ++ List.replicate (g + 1 - M) (D.int 0))[g]? = some (nD (f g)) := by
  by_cases q : g < M
  · rw [List.getElem?_append_left (by rw [fl_len]; exact q), fl_get f q]
  · rw [List.getElem?_append_right (by rw [fl_len]; omega), fl_len, List.getElem?_replicate, if_pos (by omega), h0 g (by omega)]
    rfl
theorem list_step (M g v : Nat) (f : Nat → Nat) (h0 : ∀ e, M ≤ e → f e = 0) : (fl M f ++ List.replicate (g + 1 - M) (D.int 0)).set g (nD (f g + v)) = fl (max M (g + 1)) (addAt f g v) := by
  apply List.ext_getElem?
  intro i
  by_cases q : g = i
  · subst q
    rw [List.getElem?_set_self (by rw [List.length_append, fl_len, List.length_replicate]; omega), fl_get _ (by omega)]
    simp [addAt]
  · rw [List.getElem?_set_ne q]
    have q' : ¬ i = g := fun z => q z.symm
    by_cases z : i < M
    · rw [List.getElem?_append_left (by rw [fl_len]; exact z), fl_get f z, fl_get _ (by omega)]
      simp [addAt, q']
    · rw [List.getElem?_append_right (by rw [fl_len]; omega), fl_len, List.getElem?_replicate]
      by_cases y : i < g + 1
      · rw [if_pos (by omega), fl_get _ (by omega)]
        simp [addAt, q', h0 i (by omega)]
      · rw [if_neg (by omega), List.getElem?_eq_none (by rw [fl_len]; omega)]
theorem gA (j xs : Sto) (k : Nat) : (j ++ xs)[j.length + k]? = xs[k]? := by
  rw [List.getElem?_append_right (by omega)]
  congr 1
  omega
theorem gA0 (j xs : Sto) : (j ++ xs)[j.length]? = xs[0]? := gA j xs 0
theorem sA (j xs : Sto) (k : Nat) (v : OB) : (j ++ xs).set (j.length + k) v = j ++ xs.set k v := by
  rw [List.set_append_right _ _ (by omega)]
  congr 2
  omega
theorem lc_step {x0 x1 x3 x4 : Option D} (S m a g M : Nat) (f : Nat → Nat) (hm : Bd (m : Int) a) (ha : a < 90000) (hg : g < 4000) (hM : M ≤ 4000) (h0 : ∀ e, M ≤ e → f e = 0) (junk : Sto) :
    b1__law_counts [x0, x1, some (.adr junk.length), x3, some (nD S), some (nD m), some (nD g)] (junk ++ [.lst (fl M f)]) = .nx [x0, x1, some (.adr (junk.length + 3)), x3, some (nD S), some (nD m), some (nD g)] (junk ++ [.lst (fl M f), .lst [.int 0], .lst (List.replicate (g + 1 - M) (.int 0)), .lst (fl (max M (g + 1)) (addAt f g (bt S g * 2 ^ g * m)))]) := by
  have bq := bandq S g
  have h2 := bt_lt S g
  have sh : shlW ((bt S g : Nat) : Int) (g : Int) = true := shl_m (a := 20) (bd_small (by omega)) (by omega) (by omega)
  have b1 : Bd (((bt S g : Nat) : Int) * 2 ^ g) (20 + (g + 1)) := by
    have : Bd ((2 : Int) ^ g) (g + 1) := by
      have := Bd.pow (b := 2) (a := 1) (e := g)
      unfold Bd
      rw [show (2 : Int) ^ g = ((2 ^ g : Nat) : Int) by simp, Int.natAbs_natCast]
      exact Nat.pow_lt_pow_right (by decide) (by omega)
    exact (bd_small (by omega)).mul this
  have mo : mulOk (((bt S g : Nat) : Int) * 2 ^ g) (m : Int) = true := b1.mulOk hm (by omega)
  have ht : ((g : Int) + 1 - (M : Int)).toNat = g + 1 - M := by omega
  have hmid : mid ((g : Int) + 1 - (M : Int)) = true := by unfold mid; exact decide_eq_true (by omega)
  have hmg : mid (g : Int) = true := by rw [mid_nat]; simp; omega
  have eg := ext_get M g f h0
  have es := list_step M g (bt S g * 2 ^ g * m) f h0
  have hl : (fl M f ++ List.replicate (g + 1 - M) (D.int 0)).length = M + (g + 1 - M) := by rw [List.length_append, fl_len, List.length_replicate]
  have hlg : g < (fl M f ++ List.replicate (g + 1 - M) (D.int 0)).length := by rw [hl]; omega
  have ev : (f g : Int) + ((bt S g : Nat) : Int) * 2 ^ g * (m : Int) = ((f g + bt S g * 2 ^ g * m : Nat) : Int) := by simp
  have sm1 : g + 1 - M ≤ 16777216 := by omega
  have sm2 : M + (g + 1 - M) ≤ 16777216 := by omega
  have fM := fl_len M f
  generalize fl M f = F at *
  generalize fl (max M (g + 1)) (addAt f g (bt S g * 2 ^ g * m)) = F' at *
  generalize f g + bt S g * 2 ^ g * m = w at *
  generalize f g = fg at *
  have gA1 := fun xs => gA junk xs 1
  have gA2 := fun xs => gA junk xs 2
  have gA3 := fun xs => gA junk xs 3
  have fl0 : (List.replicate (g + 1 - M) [D.int 0]).flatten = List.replicate (g + 1 - M) (D.int 0) := by simp
  have lF : F.length = M := fM
  obtain ⟨egh, egE⟩ := List.getElem?_eq_some_iff.mp eg
  have hix : g < M + (g + 1 - M) := by omega
  simp [b1__law_counts, gA0, gA1, gA2, gA3, sA, ht, hmid, hmg, bq, sh, mo, fl0, lF, sm1, sm2, eg, egE, ev, hl, ixN_nat, hix, es, -List.set_append, -List.getElem?_append, -List.getElem_append]
theorem addAt_0 (f : Nat → Nat) (g v M : Nat) (h0 : ∀ e, M ≤ e → f e = 0) : ∀ e, max M (g + 1) ≤ e → addAt f g v e = 0 := by
  intro e he
  unfold addAt
  rw [h0 e (by omega), if_neg (by omega)]
/-- what is added up to g digits -/
def upto (S m : Nat) (f : Nat → Nat) (g : Nat) : Nat → Nat := fun e => f e + if e < g then bt S e * 2 ^ e * m else 0
theorem upto_succ (S m : Nat) (f : Nat → Nat) (g : Nat) : addAt (upto S m f g) g (bt S g * 2 ^ g * m) = upto S m f (g + 1) := by
  funext e
  unfold addAt upto
  by_cases q : e = g
  · subst q
    rw [if_neg (by omega), if_pos rfl, if_pos (by omega)]
    omega
  · rw [if_neg q]
    by_cases z : e < g
    · rw [if_pos z, if_pos (by omega)]; rfl
    · rw [if_neg z, if_neg (by omega)]
theorem cnt_kind {x0 x1 x3 : Option D} {it : ItD} (hok : ∀ l, it.ok l) (S m a M : Nat) (f : Nat → Nat) (hm : Bd (m : Int) a) (ha : a < 90000) (hS : bl S ≤ 4000) (hM : M ≤ 4000) (h0 : ∀ e, M ≤ e → f e = 0) (junk : Sto) (y : Option D) (hit : it.ds = rng 0 (bl S)) :
    ∃ (junk' : Sto) (y' : Option D), sForL it (gN 6) b1__law_counts (rng 0 (bl S)) [x0, x1, some (.adr junk.length), x3, some (nD S), some (nD m), y] (junk ++ [.lst (fl M f)]) = .nx [x0, x1, some (.adr junk'.length), x3, some (nD S), some (nD m), y'] (junk' ++ [.lst (fl (max M (bl S)) (upto S m f (bl S)))]) := by
  obtain ⟨g', l', e1, e2⟩ := for_inv (it := it) (gt := gN 6) (b := b1__law_counts) (fun j g l => j ≤ bl S ∧ ∃ (jk : Sto) (y' : Option D), g = [x0, x1, some (.adr jk.length), x3, some (nD S), some (nD m), y'] ∧ l = jk ++ [.lst (fl (max M j) (upto S m f j))])
      (fun _ _ l _ => hok l) (rng 0 (bl S)) 0 [x0, x1, some (.adr junk.length), x3, some (nD S), some (nD m), y] (junk ++ [.lst (fl M f)]) ⟨by omega, junk, y, rfl, by
        rw [Nat.max_eq_left (by omega)]
        have : upto S m f 0 = f := by funext e; simp [upto]
        rw [this]⟩ (by
        rintro j e g l hj ⟨_, jk, y', rfl, rfl⟩
        obtain ⟨hjl, he⟩ := rng_get hj
        have hd : e = nD j := by rw [he]; simp
        subst hd
        rw [Nat.zero_add] at *
        have st := lc_step (x0 := x0) (x1 := x1) (x3 := x3) (x4 := none) S m a j (max M j) (upto S m f j) hm ha (by omega) (by omega) (fun e he => by
          unfold upto
          rw [h0 e (by omega), if_neg (by omega)]) jk
        rw [upto_succ, show max (max M j) (j + 1) = max M (j + 1) by omega] at st
        refine ⟨[x0, x1, some (.adr jk.length), x3, some (nD S), some (nD m), some (nD j)], rfl, ?_⟩
        rw [st]
        refine ⟨by omega, jk ++ [.lst (fl (max M j) (upto S m f j)), .lst [.int 0], .lst (List.replicate (j + 1 - max M j) (.int 0))], some (nD j), ?_, ?_⟩
        · simp
        · simp)
  obtain ⟨_, jk, y', rfl, rfl⟩ := e2
  rw [rng_length, Nat.zero_add] at e1
  exact ⟨jk, y', by simpa using e1⟩
end Q81

set_option Elab.async false
set_option linter.all false
set_option maxRecDepth 100000
set_option maxHeartbeats 1000000
namespace Q81
open PySem L2 PySem.Spec PyProof.Rows Zb Nm Bt
def part (d : List Nat) (n j : Nat) : Nat → Nat := fun e => ((List.range j).map fun k => bt (sizeN d n k) e * 2 ^ e * massN d n k).sum
def mxJ (d : List Nat) (n j : Nat) : Nat := mxl ((List.range j).map fun k => bl (sizeN d n k))
theorem mxl_app : ∀ (as : List Nat) (a : Nat), mxl (as ++ [a]) = max (mxl as) a
  | [], a => by simp [mxl]
  | b :: as, a => by simp only [List.cons_append, mxl, mxl_app as a]; omega
theorem mxJ_succ (d : List Nat) (n j : Nat) : mxJ d n (j + 1) = max (mxJ d n j) (bl (sizeN d n j)) := by
  unfold mxJ
  rw [List.range_succ, List.map_append, List.map_cons, List.map_nil, mxl_app]
theorem bt_hi {n e : Nat} (h : bl n ≤ e) : bt n e = 0 := by
  have h2 := bt_lt n e
  rcases (show bt n e = 0 ∨ bt n e = 1 by omega) with q | q
  · exact q
  · have := bt_bl q; omega
theorem part_succ (d : List Nat) (n j : Nat) : upto (sizeN d n j) (massN d n j) (part d n j) (bl (sizeN d n j)) = part d n (j + 1) := by
  funext e
  unfold upto part
  rw [List.range_succ, List.map_append, List.sum_append]
  simp only [List.map_cons, List.map_nil, List.sum_cons, List.sum_nil, Nat.add_zero]
  congr 1
  by_cases q : e < bl (sizeN d n j)
  · rw [if_pos q]
  · rw [if_neg q, bt_hi (by omega)]; simp
theorem part_0 (d : List Nat) (n : Nat) : ∀ j e, mxJ d n j ≤ e → part d n j e = 0
  | 0, e, _ => by simp [part]
  | j + 1, e, h => by
    rw [mxJ_succ] at h
    rw [← part_succ]
    unfold upto
    rw [part_0 d n j e (by omega), if_neg (by omega)]
theorem mxJ_le {d : List Nat} (h : DieOk d) (n : Nat) (hn : n ≤ 400) : ∀ j, j ≤ n + 1 → mxJ d n j ≤ 4000
  | 0, _ => by simp [mxJ, mxl]
  | j + 1, hj => by
    rw [mxJ_succ]
    have := mxJ_le h n hn j (by omega)
    have := bl_le (bd_sz h n j (by omega) hn)
    omega
theorem run_counts {d : List Nat} (h : DieOk d) (n : Nat) (hn : n ≤ 400) : ∃ junk : Sto, runB 7 den__law_counts [dieD d, nD n] [] = .ok (.adr junk.length) (junk ++ [.lst (cntD d n)]) := by
  obtain ⟨g', l', e1, e2⟩ := for_inv (it := ⟨rng 0 (n + 1), none⟩) (gt := gN 3) (b := b2__law_counts) (fun j g l => j ≤ n + 1 ∧ ∃ (jk : Sto) (y3 y4 y5 y6 : Option D), g = [some (dieD d), some (nD n), some (.adr jk.length), y3, y4, y5, y6] ∧ l = jk ++ [.lst (fl (mxJ d n j) (part d n j))])
      (fun _ _ _ _ => trivial) (rng 0 (n + 1)) 0 [some (dieD d), some (nD n), some (.adr 0), none, none, none, none] [.lst []] ⟨by omega, [], none, none, none, none, rfl, rfl⟩ (by
        rintro j e g l hj ⟨_, jk, y3, y4, y5, y6, rfl, rfl⟩
        obtain ⟨hjl, he⟩ := rng_get hj
        have hd : e = nD j := by rw [he]; simp
        subst hd
        rw [Nat.zero_add] at *
        have c1 := fun l => call_lsizeI h n j (n : Int) (j : Int) rfl rfl (by omega) hn l
        have c2 := fun l => call_lkm h n j (by omega) hn l
        have hS := bl_le (bd_sz h n j (by omega) hn)
        have i1 := bits_bl (sizeN d n j)
        have hm : mid (bl (sizeN d n j) : Int) = true := by rw [mid_nat]; simp; omega
        obtain ⟨jk', y', e3⟩ := cnt_kind (x0 := some (dieD d)) (x1 := some (nD n)) (x3 := some (nD j)) (it := ⟨rng 0 (bl (sizeN d n j)), none⟩) (fun _ => trivial) (sizeN d n j) (massN d n j) (3 * n + 2) (mxJ d n j) (part d n j) (bd_mass h n j (by omega)) (by omega) hS (mxJ_le h n hn j (by omega)) (part_0 d n j) jk y6 rfl
        rw [part_succ, ← mxJ_succ] at e3
        refine ⟨[some (dieD d), some (nD n), some (.adr jk.length), some (nD j), y4, y5, y6], rfl, ?_⟩
        generalize fl (mxJ d n j) (part d n j) = A at *
        generalize fl (mxJ d n (j + 1)) (part d n (j + 1)) = B at *
        have go : b2__law_counts [some (dieD d), some (nD n), some (.adr jk.length), some (nD j), y4, y5, y6] (jk ++ [.lst A]) = .nx [some (dieD d), some (nD n), some (.adr jk'.length), some (nD j), some (nD (sizeN d n j)), some (nD (massN d n j)), y'] (jk' ++ [.lst B]) := by
          generalize sizeN d n j = S at *
          generalize massN d n j = m at *
          simp only [dieD] at *
          simp [b2__law_counts, c1, c2, i1, hm, e3]
        rw [go]
        exact ⟨by omega, _, _, _, _, _, rfl, rfl⟩)
  obtain ⟨_, jk, y3, y4, y5, y6, rfl, rfl⟩ := e2
  rw [rng_length, Nat.zero_add] at e1
  have hm : mid ((n : Int) + 1) = true := by unfold mid; exact decide_eq_true (by omega)
  have ht : ((n : Int) + 1).toNat = n + 1 := by omega
  have hc : fl (mxJ d n (n + 1)) (part d n (n + 1)) = cntD d n := rfl
  rw [hc] at e1
  refine ⟨jk, ?_⟩
  simp only [dieD] at *
  simp [den__law_counts, hm, ht, e1]
theorem call_counts {d : List Nat} (h : DieOk d) (n : Nat) (hn : n ≤ 400) (l : Sto) : m__law_counts [dieD d, nD n] l = .ok (.adr l.length) (l ++ [.lst (cntD d n)]) := by
  obtain ⟨jk, e⟩ := run_counts h n hn
  exact callM_l (by simp) e (by simp) (pus_cnt d n)
end Q81

set_option Elab.async false
set_option linter.all false
set_option maxRecDepth 100000
namespace Bin
open Nm Bt
theorem sum_map_add {α : Type} (f g : α → Nat) : ∀ xs : List α, (xs.map fun x => f x + g x).sum = (xs.map f).sum + (xs.map g).sum
  | [] => rfl
  | x :: xs => by simp only [List.map_cons, List.sum_cons, sum_map_add f g xs]; omega
theorem sum_map_mul {α : Type} (f : α → Nat) (c : Nat) : ∀ xs : List α, (xs.map fun x => f x * c).sum = (xs.map f).sum * c
  | [] => by simp
  | x :: xs => by simp only [List.map_cons, List.sum_cons, sum_map_mul f c xs, Nat.add_mul]
theorem sum_swap {α β : Type} (f : α → β → Nat) : ∀ (xs : List α) (ys : List β), (xs.map fun x => (ys.map fun y => f x y).sum).sum = (ys.map fun y => (xs.map fun x => f x y).sum).sum
  | [], ys => by
    simp only [List.map_nil, List.sum_nil]
    induction ys with
    | nil => rfl
    | cons y ys ih => simp [← ih]
  | x :: xs, ys => by
    simp only [List.map_cons, List.sum_cons, sum_swap f xs ys]
    rw [← sum_map_add]
theorem sum_range_succ (f : Nat → Nat) (n : Nat) : ((List.range (n + 1)).map f).sum = ((List.range n).map f).sum + f n := by
  rw [List.range_succ, List.map_append, List.sum_append]
  simp
theorem sum_range_front (f : Nat → Nat) (n : Nat) : ((List.range (n + 1)).map f).sum = f 0 + ((List.range n).map fun k => f (k + 1)).sum := by
  rw [List.range_succ_eq_map, List.map_cons, List.sum_cons, List.map_map]
  rfl
theorem sum_congr {α : Type} {f g : α → Nat} {xs : List α} (h : ∀ x ∈ xs, f x = g x) : (xs.map f).sum = (xs.map g).sum := by
  rw [List.map_congr_left h]
/-- all bits make the number -/
theorem bits_sum (S : Nat) : ∀ M : Nat, ((List.range M).map fun e => bt S e * 2 ^ e).sum = S % 2 ^ M
  | 0 => by simp [Nat.mod_one]
  | M + 1 => by
    rw [sum_range_succ, bits_sum S M, Nat.mod_pow_succ]
    unfold bt
    rw [Nat.mul_comm]
/-- the binomial law -/
def bin (a b n : Nat) : Nat := ((List.range (n + 1)).map fun k => C n k * a ^ k * b ^ (n - k)).sum
theorem bin_pow (a b : Nat) : ∀ n, bin a b n = (a + b) ^ n
  | 0 => by simp [bin]
  | n + 1 => by
    have ih := bin_pow a b n
    unfold bin at ih ⊢
    rw [sum_range_front]
    have e1 : ((List.range (n + 1)).map fun k => C (n + 1) (k + 1) * a ^ (k + 1) * b ^ (n + 1 - (k + 1))).sum = ((List.range (n + 1)).map fun k => (C n k * a ^ k * b ^ (n - k)) * a).sum + ((List.range (n + 1)).map fun k => C n (k + 1) * a ^ (k + 1) * b ^ (n - k)).sum := by
      rw [← sum_map_add]
      apply sum_congr
      intro k _
      rw [C_s, show n + 1 - (k + 1) = n - k by omega, Nat.add_mul, Nat.add_mul]
      congr 1
      rw [Nat.pow_succ]
      simp only [Nat.mul_assoc, Nat.mul_comm, Nat.mul_left_comm]
    rw [e1, sum_map_mul, ih]
    have e2 : C (n + 1) 0 * a ^ 0 * b ^ (n + 1 - 0) + ((List.range (n + 1)).map fun k => C n (k + 1) * a ^ (k + 1) * b ^ (n - k)).sum = (a + b) ^ n * b := by
      rw [← ih, ← sum_map_mul]
      rw [sum_range_succ (fun k => C n (k + 1) * a ^ (k + 1) * b ^ (n - k)), C_lt n (n + 1) (by omega)]
      rw [sum_range_front]
      simp only [Nat.zero_mul, Nat.add_zero, C_0, Nat.pow_zero, Nat.mul_one, Nat.one_mul, Nat.sub_zero]
      rw [Nat.pow_succ]
      congr 1
      apply sum_congr
      intro k hk
      have hk := List.mem_range.mp hk
      have : n - k = (n - (k + 1)) + 1 := by omega
      generalize a ^ (k + 1) = A
      rw [this, Nat.pow_succ, Nat.mul_assoc (C n (k + 1) * A)]
    have e3 : (a + b) ^ (n + 1) = (a + b) ^ n * a + (a + b) ^ n * b := by rw [Nat.pow_succ, Nat.mul_add]
    rw [e3, ← e2]
    omega
end Bin

set_option Elab.async false
set_option linter.all false
set_option maxRecDepth 100000
set_option maxHeartbeats 1000000
namespace Q81
open PySem L2 PySem.Spec PyProof.Rows Zb Nm Bt
/-! ### fractions -/
def fracD (T B : Nat) : D := .tup [nD (T / Nat.gcd T B), nD (B / Nat.gcd T B)]
theorem call_frac (T B a : Nat) (hB : 1 ≤ B) (hb : Bd (B : Int) a) (ha : a < 9000) (l : Sto) : m_fraction [nD T, nD B] l = .ok (fracD T B) l := by
  have g1 : 1 ≤ Nat.gcd T B := Nat.gcd_pos_of_pos_right _ hB
  have g2 : Nat.gcd T B ≤ B := Nat.gcd_le_right _ hB
  have dv : divOk (Nat.gcd T B : Int) = true := Bd.divOk (a := a) (by omega) (by
    unfold Bd at hb ⊢
    rw [Int.natAbs_natCast] at hb ⊢
    exact Nat.lt_of_le_of_lt g2 hb) ha
  refine callM_p (junk := []) (by simp) ?_ (by simp [fracD])
  unfold fracD
  generalize hG : Nat.gcd T B = G at *
  simp [den_fraction, hG, dv]
theorem run_lfrac (T B a b : Nat) (hB : 1 ≤ B) (hT : T < 2 ^ b) (hb : Bd (B : Int) a) (ha : a < 9000) (hb2 : b < 90000) : runB 4 den__law_fraction [nD T, nD B] [] = .ok (fracD T B) [] := by
  have hb' : B < 2 ^ a := by unfold Bd at hb; rwa [Int.natAbs_natCast] at hb
  obtain ⟨g', l', e1, e2⟩ := while_inv (c := c1__law_fraction) (b := b2__law_fraction) (fun n g l => l = [] ∧ ∃ p q m : Nat, n = m + (if p < q then 1 else 0) ∧ p * q < 2 ^ m ∧ (0 < q → 1 ≤ p ∨ p < q) ∧ Nat.gcd p q = Nat.gcd T B ∧ g = [some (nD T), some (nD B), some (nD p), some (nD q)])
    (fun g l => l = [] ∧ g = [some (nD T), some (nD B), some (nD (Nat.gcd T B)), some (nD 0)]) (by
      rintro n g l ⟨rfl, p, q, m, hn, hm, hpq, hg, rfl⟩
      by_cases h0 : q = 0
      · subst h0
        left
        rw [Nat.gcd_zero_right] at hg
        subst hg
        exact ⟨by simp [c1__law_fraction], rfl, rfl⟩
      · right
        have fm : (p : Int).fmod (q : Int) = ((p % q : Nat) : Int) := by rw [Int.fmod_eq_emod_of_nonneg _ (by omega)]; rfl
        have hr : p % q < q := Nat.mod_lt _ (by omega)
        refine ⟨by simp [c1__law_fraction]; omega, [some (nD T), some (nD B), some (nD q), some (nD (p % q))], [], m - (if p < q then 0 else 1), ?_, ?_, rfl, q, p % q, m - (if p < q then 0 else 1), ?_, ?_, ?_, ?_, rfl⟩
        · generalize p % q = r at *
          simp [b2__law_fraction, h0, fm]
        · by_cases z : p < q
          · rw [if_pos z] at hn ⊢; omega
          · rw [if_neg z] at hn ⊢
            have : 0 < m := by
              rcases Nat.eq_zero_or_pos m with y | y
              · subst y
                have hp0 : 0 < p := by omega
                have hq0 : 0 < q := by omega
                have : 1 ≤ p * q := Nat.mul_pos hp0 hq0
                omega
              · exact y
            omega
        · rw [if_neg (show ¬ q < p % q by omega), Nat.add_zero]
        · by_cases z : p < q
          · rw [if_pos z, Nat.sub_zero, Nat.mod_eq_of_lt z, Nat.mul_comm]; exact hm
          · rw [if_neg z]
            have hm1 : 0 < m := by
              rcases Nat.eq_zero_or_pos m with y | y
              · subst y
                have hp0 : 0 < p := by omega
                have hq0 : 0 < q := by omega
                have : 1 ≤ p * q := Nat.mul_pos hp0 hq0
                omega
              · exact y
            have hp : q + p % q ≤ p := by
              have h1 := Nat.div_add_mod p q
              have h2 : 1 ≤ p / q := (Nat.one_le_div_iff (by omega)).mpr (by omega)
              have h3 : q * 1 ≤ q * (p / q) := Nat.mul_le_mul_left q h2
              omega
            have h4 : q * (p % q + p % q) ≤ q * p := Nat.mul_le_mul_left q (by omega)
            rw [Nat.mul_add, Nat.mul_comm q p] at h4
            obtain ⟨m', rfl⟩ : ∃ m', m = m' + 1 := ⟨m - 1, by omega⟩
            rw [Nat.pow_succ] at hm
            rw [Nat.add_sub_cancel]
            omega
        · intro _; left; omega
        · rw [Nat.gcd_comm q, ← Nat.gcd_rec, Nat.gcd_comm]; exact hg) fuel (a + b + (if T < B then 1 else 0)) [some (nD T), some (nD B), some (nD T), some (nD B)] [] (by unfold fuel; split <;> omega) ⟨rfl, T, B, a + b, rfl, by
        rw [Nat.pow_add, Nat.mul_comm]
        exact Nat.mul_lt_mul'' hb' hT, fun _ => by omega, rfl, rfl⟩
  obtain ⟨rfl, rfl⟩ := e2
  have g1 : 1 ≤ Nat.gcd T B := Nat.gcd_pos_of_pos_right _ hB
  have g2 : Nat.gcd T B ≤ B := Nat.gcd_le_right _ hB
  have dv : divOk (Nat.gcd T B : Int) = true := Bd.divOk (a := a) (by omega) (by
    unfold Bd at hb ⊢
    rw [Int.natAbs_natCast] at hb ⊢
    exact Nat.lt_of_le_of_lt g2 hb) ha
  unfold fracD
  generalize hG : Nat.gcd T B = G at *
  have habs : (if (T : Int) < 0 then -(T : Int) else (T : Int)) = (T : Int) := if_neg (by omega)
  simp [den__law_fraction, habs, e1, dv]
theorem call_lfrac (T B a b : Nat) (hB : 1 ≤ B) (hT : T < 2 ^ b) (hb : Bd (B : Int) a) (ha : a < 9000) (hb2 : b < 90000) (l : Sto) : m__law_fraction [nD T, nD B] l = .ok (fracD T B) l :=
  callM_p (by simp) (run_lfrac T B a b hB hT hb ha hb2) (by simp [fracD])
end Q81

set_option Elab.async false
set_option linter.all false
set_option maxRecDepth 100000
set_option maxHeartbeats 1000000
namespace Q81
open PySem L2 PySem.Spec PyProof.Rows Zb Nm Bt
theorem bdP5 (b e : Nat) (hb : b ≤ 31) : Bd ((b : Int) ^ e) (5 * e + 1) := Bd.pow (by omega) e
theorem run_powerW (b T : Nat) (hb : b ≤ 31) (hT : T ≤ 1000) : runB 4 den_power [nD b, nD T] [] = .ok (nD (b ^ T)) [] := by
  have bd : ∀ e : Nat, Bd ((b : Int) ^ e) (5 * e + 1) := fun e => Bd.pow (by omega) e
  obtain ⟨g', l', e1, e2⟩ := while_inv (c := c1_power) (b := b2_power) (fun t g l => l = [] ∧ ∃ p q : Nat, p + q * t = T ∧ (0 < t → q ≤ T) ∧ g = [some (nD b), some (nD t), some (.int ((b : Int) ^ p)), some (.int ((b : Int) ^ q))])
    (fun g l => l = [] ∧ ∃ x, g = [some (nD b), some (nD 0), some (.int ((b : Int) ^ T)), x]) (by
      rintro t g l ⟨rfl, p, q, h1, h2, rfl⟩
      by_cases h0 : t = 0
      · subst h0
        left
        have : p = T := by omega
        subst this
        exact ⟨by simp [c1_power], rfl, _, rfl⟩
      · right
        have h0' : (0 : Int) < (t : Int) := by omega
        have hq := h2 (by omega)
        have hp : p ≤ T := by omega
        have m1 : mulOk ((b : Int) ^ p) ((b : Int) ^ q) = true := (bd p).mulOk (bd q) (by omega)
        have m2 : mulOk ((b : Int) ^ q) ((b : Int) ^ q) = true := (bd q).mulOk (bd q) (by omega)
        have d2 : divOk 2 = true := by decide
        have hsq : (b : Int) ^ q * (b : Int) ^ q = (b : Int) ^ (q + q) := (Int.pow_add _ _ _).symm
        have hpq : (b : Int) ^ p * (b : Int) ^ q = (b : Int) ^ (p + q) := (Int.pow_add _ _ _).symm
        obtain ⟨t2, ht2, et2⟩ : ∃ t2 : Nat, (t : Int) / 2 = (t2 : Int) ∧ t2 = t / 2 := ⟨t / 2, by omega, rfl⟩
        have hmul : q + q ≤ T ∨ t / 2 = 0 := by
          by_cases z : t / 2 = 0
          · exact .inr z
          · left
            have : q * 2 ≤ q * t := Nat.mul_le_mul_left _ (by omega)
            omega
        refine ⟨by simp [c1_power]; omega, ?_⟩
        rcases Nat.mod_two_eq_zero_or_one t with hm | hm
        · have hf : ¬ (t : Int).fmod 2 = 1 := by rw [Int.fmod_eq_emod_of_nonneg _ (by decide)]; omega
          have e : b2_power [some (nD b), some (nD t), some (.int ((b : Int) ^ p)), some (.int ((b : Int) ^ q))] [] = .nx [some (nD b), some (nD t2), some (.int ((b : Int) ^ p)), some (.int ((b : Int) ^ (q + q)))] [] := by simp [b2_power, hf, m2, d2, hsq, ht2]
          refine ⟨_, _, t2, e, by omega, rfl, p, q + q, ?_, fun z => by omega, rfl⟩
          rw [← h1, Nat.add_mul]
          have : t = t2 + t2 := by omega
          conv => rhs; rw [this, Nat.mul_add]
        · have hf : (t : Int).fmod 2 = 1 := by rw [Int.fmod_eq_emod_of_nonneg _ (by decide)]; omega
          have e : b2_power [some (nD b), some (nD t), some (.int ((b : Int) ^ p)), some (.int ((b : Int) ^ q))] [] = .nx [some (nD b), some (nD t2), some (.int ((b : Int) ^ (p + q))), some (.int ((b : Int) ^ (q + q)))] [] := by simp [b2_power, hf, m1, m2, d2, hsq, hpq, ht2]
          refine ⟨_, _, t2, e, by omega, rfl, p + q, q + q, ?_, fun z => by omega, rfl⟩
          rw [← h1, Nat.add_mul]
          have : t = t2 + t2 + 1 := by omega
          conv => rhs; rw [this, Nat.mul_add, Nat.mul_add]
          omega) fuel T [some (nD b), some (nD T), some (.int 1), some (nD b)] [] (by unfold fuel; omega) ⟨rfl, 0, 1, by omega, fun _ => by omega, by simp [Int.pow_succ]⟩
  obtain ⟨rfl, x, rfl⟩ := e2
  simp [den_power, e1]
theorem run_lpowerW (b T : Nat) (hb : b ≤ 31) (hT : T ≤ 1000) : runB 4 den__law_power [nD b, nD T] [] = .ok (nD (b ^ T)) [] := by
  obtain ⟨g', l', e1, e2⟩ := for_inv (it := ⟨rng 0 T, none⟩) (gt := gN 3) (b := b1__law_power) (fun i g l => l = [] ∧ i ≤ T ∧ ∃ x, g = [some (nD b), some (nD T), some (.int ((b : Int) ^ i)), x]) (fun _ _ _ _ => trivial) (rng 0 T) 0 [some (nD b), some (nD T), some (.int 1), none] [] ⟨rfl, by omega, none, by simp⟩ (by
    rintro j e g l hj ⟨rfl, hi, x, rfl⟩
    obtain ⟨hj, rfl⟩ := rng_get hj
    refine ⟨_, rfl, ?_⟩
    have d2 : mulOk ((b : Int) ^ j) b = true := (bdP5 b j hb).mulOk (bd_small (by omega)) (by omega)
    simp [b1__law_power, Out.on, d2, Int.pow_succ]
    omega)
  obtain ⟨rfl, _, x, rfl⟩ := e2
  rw [rng_length, Nat.zero_add] at e1
  have hmid : mid (T : Int) = true := by rw [mid_nat]; simp; omega
  simp [den__law_power, hmid, e1]
theorem call_powerW (b T : Nat) (hb : b ≤ 31) (hT : T ≤ 1000) (l : Sto) : m_power [nD b, nD T] l = .ok (nD (b ^ T)) l := callM_p (by simp) (run_powerW b T hb hT) (by simp)
theorem call_lpowerW (b T : Nat) (hb : b ≤ 31) (hT : T ≤ 1000) (l : Sto) : m__law_power [nD b, nD T] l = .ok (nD (b ^ T)) l := callM_p (by simp) (run_lpowerW b T hb hT) (by simp)
/-! ### the whole of all counts -/
theorem ints_nD (r : List Nat) : intsOf (r.map nD) = some (r.map fun x : Nat => (x : Int)) := by
  have := ints_map_e (r.map fun x : Nat => (x : Int))
  rw [List.map_map] at this
  exact this
theorem sum_cast : ∀ r : List Nat, (r.map fun x : Nat => (x : Int)).sum = ((r.sum : Nat) : Int)
  | [] => rfl
  | x :: r => by simp [sum_cast r]
theorem sum_hl {d : List Nat} (h : DieOk d) : ∀ xs : List Nat, (∀ i ∈ xs, i < d.length) → (xs.map (wt d)).sum = (xs.filter (isH d)).length * wt d 0 + (xs.filter fun i => !isH d i).length * lw d
  | [], _ => by simp
  | i :: xs, hx => by
    have ih := sum_hl h xs fun j hj => hx j (by simp [hj])
    rw [List.map_cons, List.sum_cons, ih, List.filter_cons, List.filter_cons]
    cases q : isH d i with
    | true =>
      have : wt d i = wt d 0 := by simpa [isH] using q
      simp only [if_true, Bool.not_true, Bool.false_eq_true, if_false, List.length_cons, Nat.add_mul, this]
      omega
    | false =>
      have : wt d i = lw d := lt_w h (hx i (by simp)) q
      simp only [if_true, Bool.not_false, Bool.false_eq_true, if_false, List.length_cons, Nat.add_mul, this]
      omega
theorem die_sum {d : List Nat} (h : DieOk d) : d.sum = rr d * wt d 0 + ss d * lw d := by
  have e := sum_hl h (List.range d.length) fun i hi => List.mem_range.mp hi
  rw [range_wt] at e
  exact e
theorem sum_le5 : ∀ (d : List Nat), (∀ x ∈ d, x ≤ 5) → d.sum ≤ 5 * d.length
  | [], _ => by simp
  | x :: d, h => by
    have := h x (by simp)
    have := sum_le5 d fun y hy => h y (by simp [hy])
    simp
    omega
theorem die_sum_le {d : List Nat} (h : DieOk d) : 1 ≤ d.sum ∧ d.sum ≤ 25 := by
  have h1 := sum_le5 d fun x hx => (h.w x hx).2
  have h2 := h.hi
  have h3 := h.lo
  refine ⟨?_, by omega⟩
  rw [die_sum h]
  have r1 := h.r1
  have w0 := (h.wt (i := 0) (by omega)).1
  have := Nat.mul_le_mul r1 w0
  omega
theorem cnt_total {d : List Nat} (h : DieOk d) (n : Nat) : ((List.range (mxB d n)).map (cntE d n)).sum = d.sum ^ n := by
  unfold cntE
  rw [Bin.sum_swap]
  have e1 : ∀ k ∈ List.range (n + 1), ((List.range (mxB d n)).map fun e => bt (sizeN d n k) e * 2 ^ e * massN d n k).sum = C n k * (rr d * wt d 0) ^ k * (ss d * lw d) ^ (n - k) := fun k hk => by
    rw [Bin.sum_map_mul, Bin.bits_sum, Nat.mod_eq_of_lt]
    · unfold sizeN massN
      rw [Nat.mul_pow, Nat.mul_pow]
      generalize rr d ^ k = A
      generalize wt d 0 ^ k = B
      generalize ss d ^ (n - k) = E
      generalize lw d ^ (n - k) = F
      simp only [Nat.mul_assoc, Nat.mul_comm, Nat.mul_left_comm]
    · have h4 := mxl_ge (List.mem_map.mpr ⟨k, hk, rfl⟩ : bl (sizeN d n k) ∈ (List.range (n + 1)).map fun k => bl (sizeN d n k))
      exact Nat.lt_of_lt_of_le (lt_bl _) (Nat.pow_le_pow_right (by decide) h4)
  rw [Bin.sum_congr e1, die_sum h]
  exact Bin.bin_pow _ _ n
theorem le_sum : ∀ {xs : List Nat} {x : Nat}, x ∈ xs → x ≤ xs.sum
  | y :: xs, x, h => by
    rw [List.sum_cons]
    rcases List.mem_cons.mp h with rfl | h
    · omega
    · have := le_sum h; omega
theorem whole_lt {d : List Nat} (h : DieOk d) (n : Nat) : d.sum ^ n < 2 ^ (5 * n + 1) := by
  have := bdP5 d.sum n (by have := die_sum_le h; omega)
  unfold Bd at this
  rw [← Int.natCast_pow, Int.natAbs_natCast] at this
  exact this
theorem cnt_lt {d : List Nat} (h : DieOk d) (n e : Nat) (he : e < mxB d n) : cntE d n e < 2 ^ (5 * n + 1) := by
  have h1 := le_sum (List.mem_map.mpr ⟨e, List.mem_range.mpr he, rfl⟩ : cntE d n e ∈ (List.range (mxB d n)).map (cntE d n))
  rw [cnt_total h] at h1
  exact Nat.lt_of_le_of_lt h1 (whole_lt h n)
def topN (d : List Nat) (n : Nat) : Nat := ((List.range (mxB d n)).map fun e => e * cntE d n e).sum
theorem sum_le_mul (f : Nat → Nat) (M : Nat) : ∀ xs : List Nat, (∀ x ∈ xs, x ≤ M) → (xs.map fun e => e * f e).sum ≤ M * (xs.map f).sum
  | [], _ => by simp
  | x :: xs, h => by
    have ih := sum_le_mul f M xs fun y hy => h y (by simp [hy])
    have := Nat.mul_le_mul_right (f x) (h x (by simp))
    simp only [List.map_cons, List.sum_cons, Nat.mul_add]
    omega
theorem top_lt {d : List Nat} (h : DieOk d) (n : Nat) (hn : n ≤ 400) : topN d n < 2 ^ (12 + (5 * n + 1)) := by
  have h1 := sum_le_mul (cntE d n) 4000 (List.range (mxB d n)) fun x hx => by have := List.mem_range.mp hx; have := mxB_le h n hn; omega
  rw [cnt_total h] at h1
  have h2 := whole_lt h n
  unfold topN
  rw [Nat.pow_add]
  generalize 2 ^ (5 * n + 1) = Z at *
  have : (2 : Nat) ^ 12 = 4096 := rfl
  rw [this]
  omega
end Q81

set_option Elab.async false
set_option linter.all false
set_option maxRecDepth 100000
set_option maxHeartbeats 1000000
namespace Q81
open PySem L2 PySem.Spec PyProof.Rows Zb Nm Bt
theorem enum_map (f : Nat → D) (n : Nat) : enumF 0 ((List.range n).map f) = (List.range n).map fun i => D.tup [nD i, f i] := by
  apply List.ext_getElem?
  intro i
  rw [enumF_get, List.getElem?_map, List.getElem?_map]
  rcases Nat.lt_or_ge i n with q | q
  · rw [List.getElem?_range q]
    simp
  · rw [List.getElem?_eq_none (by simpa using q)]
    rfl
def topD (d : List Nat) (n : Nat) : List D := (List.range (mxB d n)).map fun e => nD (e * cntE d n e)
theorem topD_ints (d : List Nat) (n : Nat) : ∃ ns : List Int, intsOf (topD d n) = some ns ∧ ns.sum = (topN d n : Int) := by
  have e : topD d n = ((List.range (mxB d n)).map fun e => e * cntE d n e).map nD := by unfold topD; rw [List.map_map]; rfl
  rw [e, ints_nD]
  exact ⟨_, rfl, sum_cast _⟩
theorem cntD_ints {d : List Nat} (h : DieOk d) (n : Nat) : ∃ ns : List Int, intsOf (cntD d n) = some ns ∧ ns.sum = ((d.sum ^ n : Nat) : Int) := by
  rw [cntD_row, ints_nD]
  refine ⟨_, rfl, ?_⟩
  rw [sum_cast, cnt_total h]
theorem die_ints (d : List Nat) : ∃ ns : List Int, intsOf (d.map nD) = some ns ∧ ns.sum = (d.sum : Int) := by
  rw [ints_nD]
  exact ⟨_, rfl, sum_cast _⟩
theorem lc_mean {d : List Nat} (h : DieOk d) (n : Nat) (hn : n ≤ 400) {x0 x1 x2 : Option D} (l : Sto) : lcL ⟨enumF 0 (cntD d n), none⟩ (gT [3, 4]) dYes e1_bits_mean [x0, x1, x2, none, none] (enumF 0 (cntD d n)) l [] = .ok (topD d n) l := by
  have hM := mxB_le h n hn
  have em : enumF 0 (cntD d n) = (List.range (mxB d n)).map fun i => D.tup [nD i, nD (cntE d n i)] := enum_map (fun e => nD (cntE d n e)) (mxB d n)
  rw [em]
  rw [lcL_fmap (by trivial) (fun i => D.tup [nD i, nD (cntE d n i)]) (fun e => nD (e * cntE d n e)) (fun _ => true) _ _ (fun e he => ?_) (by simp; omega)]
  · rw [List.filter_eq_self.mpr (fun _ _ => rfl)]
    rfl
  · have he' := List.mem_range.mp he
    have cl := cnt_lt h n e he'
    have mo : mulOk (e : Int) (cntE d n e : Int) = true := Bd.mulOk (a := 20) (b := 5 * n + 1) (bd_small (by omega)) (Bd.nat cl) (by omega)
    exact ⟨[x0, x1, x2, some (nD e), some (nD (cntE d n e))], rfl, rfl, fun _ => by simp [e1_bits_mean, mo]⟩
theorem whole_bd {d : List Nat} (h : DieOk d) (n : Nat) : Bd ((d.sum ^ n : Nat) : Int) (5 * n + 1) := Bd.nat (whole_lt h n)
theorem whole_pos {d : List Nat} (h : DieOk d) (n : Nat) : 1 ≤ d.sum ^ n := Nat.pow_pos (die_sum_le h).1
def meanD (d : List Nat) (n : Nat) : D := fracD (topN d n) (d.sum ^ n)
theorem call_mean {d : List Nat} (h : DieOk d) (n : Nat) (hn : n ≤ 400) (l : Sto) : m_bits_mean [dieD d, nD n] l = .ok (meanD d n) l := by
  have c1 := fun l => call_bc h n hn l
  have c2 := fun l => call_powerW d.sum n (by have := die_sum_le h; omega) (by omega) l
  have c3 := fun l => call_frac (topN d n) (d.sum ^ n) (5 * n + 1) (whole_pos h n) (whole_bd h n) (by omega) l
  have lc := fun l => lc_mean h n hn (x0 := some (dieD d)) (x1 := some (nD n)) (x2 := some (.tup (cntD d n))) l
  obtain ⟨ns, i1, i2⟩ := topD_ints d n
  obtain ⟨ms, j1, j2⟩ := die_ints d
  refine callM_p (junk := [.lst (topD d n)]) (by simp) ?_ (by simp [meanD, fracD])
  unfold meanD
  generalize topD d n = TD at *
  generalize cntD d n = CD at *
  generalize topN d n = T at *
  generalize d.sum ^ n = B at *
  simp only [dieD] at *
  simp [den_bits_mean, c1, c2, c3, lc, i1, i2, j1, j2, hSumL]
/-! ### _law_counted -/
theorem lc_counted {d : List Nat} (h : DieOk d) (n : Nat) (hn : n ≤ 400) {x0 x1 x3 x4 : Option D} (l : Sto) (a : Nat) (hl : l[a]? = some (.lst (cntD d n))) : lcL ⟨rng 0 (mxB d n), none⟩ (gN 5) dYes e1__law_counted [x0, x1, some (.adr a), x3, x4, none] (rng 0 (mxB d n)) l [] = .ok (topD d n) l := by
  have hM := mxB_le h n hn
  conv => lhs; arg 6; rw [rng_eq]
  rw [lcL_fmap (by trivial) (fun i => nD i) (fun e => nD (e * cntE d n e)) (fun _ => true) _ _ (fun e he => ?_) (by simp; omega)]
  · rw [List.filter_eq_self.mpr (fun _ _ => rfl)]
    rfl
  · have he' := List.mem_range.mp he
    have cl := cnt_lt h n e he'
    have mo : mulOk (e : Int) (cntE d n e : Int) = true := Bd.mulOk (a := 20) (b := 5 * n + 1) (bd_small (by omega)) (Bd.nat cl) (by omega)
    have hx : (cntD d n)[e]? = some (nD (cntE d n e)) := by
      unfold cntD
      rw [List.getElem?_map, List.getElem?_range he']
      rfl
    refine ⟨[x0, x1, some (.adr a), x3, x4, some (nD e)], rfl, rfl, fun _ => ?_⟩
    generalize cntD d n = CD at *
    simp [e1__law_counted, hl, hx, mo]
theorem call_counted {d : List Nat} (h : DieOk d) (n : Nat) (hn : n ≤ 400) (l : Sto) : m__law_counted [dieD d, nD n] l = .ok (.bl true) l := by
  have hM := mxB_le h n hn
  have c1 := fun l => call_counts h n hn l
  have c2 := fun l => call_lpowerW d.sum n (by have := die_sum_le h; omega) (by omega) l
  have c3 := fun l => call_lfrac (topN d n) (d.sum ^ n) (5 * n + 1) (12 + (5 * n + 1)) (whole_pos h n) (top_lt h n hn) (whole_bd h n) (by omega) (by omega) l
  have c4 := fun l => call_bc h n hn l
  have c5 := fun l => call_mean h n hn l
  have lc := lc_counted h n hn (x0 := some (dieD d)) (x1 := some (nD n)) (x3 := some (nD (d.sum ^ n))) (x4 := none) [.lst (cntD d n)] 0 rfl
  have cl : (cntD d n).length = mxB d n := by simp [cntD]
  have s1 := fun l => call_same (.tup [.tup (cntD d n), meanD d n]) (by
    rw [cntD_row]
    have := (pl_nD ((List.range (mxB d n)).map (cntE d n))).1
    simp only [plD, plDs, meanD, fracD, this]
    rfl) (by
    rw [cntD_row]
    have := (pl_nD ((List.range (mxB d n)).map (cntE d n))).2
    simp only [wD, wDs, meanD, fracD, this]
    simp
    omega) l
  obtain ⟨ns, i1, i2⟩ := topD_ints d n
  obtain ⟨ms, j1, j2⟩ := die_ints d
  obtain ⟨ks, k1, k2⟩ := cntD_ints h n
  refine callM_p (junk := [.lst (cntD d n), .lst (topD d n)]) (by simp) ?_ (by simp)
  have hm : mid (mxB d n : Int) = true := by rw [mid_nat]; simp; omega
  have fr : meanD d n = fracD (topN d n) (d.sum ^ n) := rfl
  rw [← fr] at c3
  generalize meanD d n = F at *
  generalize topD d n = TD at *
  generalize cntD d n = CD at *
  generalize topN d n = T at *
  generalize d.sum ^ n = B at *
  generalize mxB d n = M at *
  simp only [dieD] at *
  simp [den__law_counted, c1, c2, c3, c4, c5, lc, cl, s1, i1, i2, j1, j2, k1, k2, hm, hSumL]
end Q81

set_option Elab.async false
set_option linter.all false
set_option maxRecDepth 100000
set_option maxHeartbeats 1000000
namespace Q81
open PySem L2 PySem.Spec PyProof.Rows Zb Nm Bt
/-! ### all rows -/
def nxt (m : Nat) (R : List (List Nat)) : List (List Nat) := R.flatMap fun r => (List.range m).map fun f => r ++ [f]
def rowsL (m : Nat) : Nat → List (List Nat)
  | 0 => [[]]
  | k + 1 => nxt m (rowsL m k)
theorem nxt_len (m : Nat) : ∀ R : List (List Nat), (nxt m R).length = R.length * m
  | [] => by simp [nxt]
  | r :: R => by
    have := nxt_len m R
    unfold nxt at *
    rw [List.flatMap_cons, List.length_append, this]
    simp [Nat.add_mul]
    omega
theorem rowsL_len (m : Nat) : ∀ n, (rowsL m n).length = m ^ n
  | 0 => by simp [rowsL]
  | n + 1 => by rw [rowsL, nxt_len, rowsL_len m n, Nat.pow_succ]
theorem rowsL_row (m : Nat) : ∀ n, ∀ r ∈ rowsL m n, r.length = n ∧ ∀ f ∈ r, f < m
  | 0, r, h => by simp [rowsL] at h; subst h; simp
  | n + 1, r, h => by
    obtain ⟨s, h1, h2⟩ := List.mem_flatMap.mp h
    obtain ⟨f, h3, rfl⟩ := List.mem_map.mp h2
    obtain ⟨i1, i2⟩ := rowsL_row m n s h1
    refine ⟨by simp [i1], fun g hg => ?_⟩
    rcases List.mem_append.mp hg with hg | hg
    · exact i2 g hg
    · simp at hg; subst hg; exact List.mem_range.mp h3
theorem lc2_rows {d : List Nat} {it : ItD} {l : Sto} (hok : it.ok l) (hm : d.length ≤ 5) {x1 x2 x3 : Option D} : ∀ (R acc : List (List Nat)), (∀ r ∈ R, r.length ≤ 400) → acc.length + R.length * d.length ≤ 10000000 →
    lc2L it (gN 5) dYes i2_all_rows (gN 4) dYes e1_all_rows [4] [some (dieD d), x1, x2, x3, none, none] (R.map rowD) l (acc.map rowD) = .ok ((acc ++ nxt d.length R).map rowD) l
  | [], acc, _, _ => by simp [lc2L, hok, nxt]
  | r :: R, acc, hr, hl => by
    have hr0 := hr r (by simp)
    simp only [List.length_cons, Nat.add_mul, Nat.one_mul] at hl
    have hg : gN 5 (rowD r) l [some (dieD d), x1, x2, x3, none, none] = some [some (dieD d), x1, x2, x3, none, some (rowD r)] := rfl
    have hmid : mid (d.length : Int) = true := by rw [mid_nat]; simp; omega
    have hi : i2_all_rows [some (dieD d), x1, x2, x3, none, some (rowD r)] l = .ok ⟨rng 0 d.length, none⟩ l := by
      simp only [dieD]
      simp [i2_all_rows, hmid]
    have hw : wipeD [some (dieD d), x1, x2, x3, none, some (rowD r)] [4] = [some (dieD d), x1, x2, x3, none, some (rowD r)] := rfl
    have lc : lcL ⟨rng 0 d.length, none⟩ (gN 4) dYes e1_all_rows [some (dieD d), x1, x2, x3, none, some (rowD r)] (rng 0 d.length) l (acc.map rowD) = .ok ((acc ++ (List.range d.length).map fun f => r ++ [f]).map rowD) l := by
      conv => lhs; arg 6; rw [rng_eq]
      rw [lcL_fmap (by trivial) (fun i => nD i) (fun f => rowD (r ++ [f])) (fun _ => true) _ _ (fun f hf => ?_) (by simp; omega)]
      · rw [List.filter_eq_self.mpr (fun _ _ => rfl)]
        simp
      · refine ⟨[some (dieD d), x1, x2, x3, some (nD f), some (rowD r)], rfl, rfl, fun _ => ?_⟩
        have sm : r.length + 1 ≤ 16777216 := by omega
        have sm2 : r.length ≤ 16777215 := by omega
        simp only [rowD, dieD]
        simp [e1_all_rows, sm, sm2]
    have ih := lc2_rows (x1 := x1) (x2 := x2) (x3 := x3) hok hm R (acc ++ (List.range d.length).map fun f => r ++ [f]) (fun s hs => hr s (by simp [hs])) (by simp; omega)
    simp only [List.map_cons, lc2L, hok, if_true, hg, dYes_e, nox_ok, bind_ok, hi, hw, lc]
    rw [ih]
    unfold nxt
    rw [List.flatMap_cons, List.append_assoc]
theorem run_all {d : List Nat} (h : DieOk d) (n : Nat) (hn : n ≤ 400) (hb : ∀ j ≤ n, d.length ^ j ≤ 1000) : ∃ junk : Sto, runB 6 den_all_rows [dieD d, nD n] [] = .ok (.tup ((rowsL d.length n).map rowD)) junk := by
  have hm5 := h.hi
  obtain ⟨g', l', e1, e2⟩ := for_inv (it := ⟨rng 0 n, none⟩) (gt := gN 3) (b := b3_all_rows) (fun j g l => j ≤ n ∧ ∃ (jk : Sto) (y : Option D), g = [some (dieD d), some (nD n), some (.adr jk.length), y, none, none] ∧ l = jk ++ [.lst ((rowsL d.length j).map rowD)])
      (fun _ _ _ _ => trivial) (rng 0 n) 0 [some (dieD d), some (nD n), some (.adr 0), none, none, none] [.lst [.tup []]] ⟨by omega, [], none, rfl, rfl⟩ (by
        rintro j e g l hj ⟨_, jk, y, rfl, rfl⟩
        obtain ⟨hjl, he⟩ := rng_get hj
        have hd : e = nD j := by rw [he]; simp
        subst hd
        rw [Nat.zero_add] at *
        have lc := lc2_rows (d := d) (it := ⟨(rowsL d.length j).map rowD, some jk.length⟩) (l := jk ++ [.lst ((rowsL d.length j).map rowD)]) (by
          show (jk ++ [OB.lst ((rowsL d.length j).map rowD)])[jk.length]? = _
          simp) hm5 (x1 := some (nD n)) (x2 := some (.adr jk.length)) (x3 := some (nD j)) (rowsL d.length j) [] (fun r hr => by rw [(rowsL_row _ _ r hr).1]; omega) (by
            rw [rowsL_len]
            have := hb j (by omega)
            have := Nat.mul_le_mul this hm5
            simp
            omega)
        rw [List.nil_append, List.map_nil] at lc
        refine ⟨[some (dieD d), some (nD n), some (.adr jk.length), some (nD j), none, none], rfl, ?_⟩
        have go : b3_all_rows [some (dieD d), some (nD n), some (.adr jk.length), some (nD j), none, none] (jk ++ [.lst ((rowsL d.length j).map rowD)]) = .nx [some (dieD d), some (nD n), some (.adr (jk.length + 1)), some (nD j), none, none] (jk ++ [.lst ((rowsL d.length j).map rowD), .lst ((rowsL d.length (j + 1)).map rowD)]) := by
          show _ = Out.nx _ (jk ++ [.lst ((rowsL d.length j).map rowD), .lst ((nxt d.length (rowsL d.length j)).map rowD)])
          generalize (rowsL d.length j).map rowD = A at *
          generalize (nxt d.length (rowsL d.length j)).map rowD = B at *
          simp [b3_all_rows, lc]
        rw [go]
        exact ⟨by omega, jk ++ [.lst ((rowsL d.length j).map rowD)], some (nD j), by simp, by simp⟩)
  obtain ⟨_, jk, y, rfl, rfl⟩ := e2
  rw [rng_length, Nat.zero_add] at e1
  have hm : mid (n : Int) = true := by rw [mid_nat]; simp; omega
  refine ⟨jk ++ [.lst ((rowsL d.length n).map rowD)], ?_⟩
  generalize (rowsL d.length n).map rowD = A at *
  simp only [dieD] at *
  simp [den_all_rows, hm, e1]
theorem pus_rows : ∀ R : List (List Nat), pus (R.map rowD) = true
  | [] => rfl
  | r :: R => by simp [pus_rows R]
theorem call_all {d : List Nat} (h : DieOk d) (n : Nat) (hn : n ≤ 400) (hb : ∀ j ≤ n, d.length ^ j ≤ 1000) (l : Sto) : m_all_rows [dieD d, nD n] l = .ok (.tup ((rowsL d.length n).map rowD)) l := by
  obtain ⟨jk, e⟩ := run_all h n hn hb
  exact callM_p (by simp) e (by simp [pus_rows])
/-! ### _law_rows -/
theorem gLk {l xs : Sto} {a : Nat} {v : OB} (h : l[a]? = some v) : (l ++ xs)[a]? = some v := by
  rw [List.getElem?_append_left (List.getElem?_eq_some_iff.mp h).1, h]
theorem lc_lrow {d : List Nat} {x1 x2 x3 x4 : Option D} (ds : List D) (s : Option Nat) (r : List Nat) (hr : r.length ≤ 400) (l : Sto) (hok : (ItD.mk (rng 0 d.length) s).ok l) (hm : d.length ≤ 5) : lcL ⟨rng 0 d.length, s⟩ (gN 6) dYes e1__law_rows [some (dieD d), x1, x2, x3, x4, some (rowD r), none] (rng 0 d.length) l [] = .ok (((List.range d.length).map fun f => r ++ [f]).map rowD) l := by
  conv => lhs; arg 6; rw [rng_eq]
  rw [lcL_fmap hok (fun i => nD i) (fun f => rowD (r ++ [f])) (fun _ => true) _ _ (fun f hf => ?_) (by simp; omega)]
  · rw [List.filter_eq_self.mpr (fun _ _ => rfl)]
    simp
  · refine ⟨[some (dieD d), x1, x2, x3, x4, some (rowD r), some (nD f)], rfl, rfl, fun _ => ?_⟩
    have sm : r.length + 1 ≤ 16777216 := by omega
    have sm2 : r.length ≤ 16777215 := by omega
    simp only [rowD, dieD]
    simp [e1__law_rows, sm, sm2]
theorem more_loop {d : List Nat} (h : DieOk d) {x1 x3 : Option D} (a b : Nat) (hab : a ≠ b) (all : List D) : ∀ (R M : List (List Nat)) (l : Sto) (y : Option D), (∀ r ∈ R, r.length ≤ 400) → l[a]? = some (.lst all) → l[b]? = some (.lst (M.map rowD)) → M.length + R.length * d.length ≤ 1000000 →
    ∃ (l' : Sto) (y' : Option D), sForL ⟨all, some a⟩ (gN 5) b2__law_rows (R.map rowD) [some (dieD d), x1, some (.adr a), x3, some (.adr b), y, none] l = .nx [some (dieD d), x1, some (.adr a), x3, some (.adr b), y', none] l' ∧ l'[a]? = some (.lst all) ∧ l'[b]? = some (.lst ((M ++ nxt d.length R).map rowD))
  | [], M, l, y, _, ha, hb, _ => ⟨l, y, by rw [List.map_nil, for_nil _ _ _ _ (show (ItD.mk all (some a)).ok l from ha)], ha, by simpa [nxt] using hb⟩
  | r :: R, M, l, y, hr, ha, hb, hl => by
    have hr0 := hr r (by simp)
    have hm5 := h.hi
    simp only [List.length_cons, Nat.add_mul, Nat.one_mul] at hl
    have hg : gN 5 (rowD r) l [some (dieD d), x1, some (.adr a), x3, some (.adr b), y, none] = some [some (dieD d), x1, some (.adr a), x3, some (.adr b), some (rowD r), none] := rfl
    have hbl : b < l.length := (List.getElem?_eq_some_iff.mp hb).1
    have lc := lc_lrow (d := d) (x1 := x1) (x2 := some (.adr a)) (x3 := x3) (x4 := some (.adr b)) [] (some l.length) r hr0 (l ++ [.lst (rng 0 d.length)]) (by
      show (l ++ [OB.lst (rng 0 d.length)])[l.length]? = _
      simp) hm5
    have gb : (l ++ [OB.lst (rng 0 d.length), OB.lst (((List.range d.length).map fun f => r ++ [f]).map rowD)])[b]? = some (.lst (M.map rowD)) := gLk hb
    have sb : (l ++ [OB.lst (rng 0 d.length), OB.lst (((List.range d.length).map fun f => r ++ [f]).map rowD)]).set b (.lst ((M ++ (List.range d.length).map fun f => r ++ [f]).map rowD)) = l.set b (.lst ((M ++ (List.range d.length).map fun f => r ++ [f]).map rowD)) ++ [OB.lst (rng 0 d.length), OB.lst (((List.range d.length).map fun f => r ++ [f]).map rowD)] := by
      rw [List.set_append_left _ _ hbl]
    have dl : (d.length : Int) ≤ 16777216 := by omega
    have sm : M.length + d.length ≤ 16777216 := by omega
    have eb : b2__law_rows [some (dieD d), x1, some (.adr a), x3, some (.adr b), some (rowD r), none] l = .nx [some (dieD d), x1, some (.adr a), x3, some (.adr b), some (rowD r), none] (l.set b (.lst ((M ++ (List.range d.length).map fun f => r ++ [f]).map rowD)) ++ [OB.lst (rng 0 d.length), OB.lst (((List.range d.length).map fun f => r ++ [f]).map rowD)]) := by
      have dl0 : (0 : Int) ≤ (d.length : Int) := by omega
      rw [List.map_append] at sb
      have lN : (((List.range d.length).map fun f => r ++ [f]).map rowD).length = d.length := by simp
      have lM : (M.map rowD).length = M.length := by simp
      rw [List.map_append]
      generalize (((List.range d.length).map fun f => r ++ [f]).map rowD) = N at *
      generalize M.map rowD = MD at *
      simp only [dieD] at *
      have dl2 : d.length ≤ 16777216 := by omega
      simp [b2__law_rows, dl, dl0, dl2, lc, gb, hb, sb, lM, lN, sm, -List.set_append]
    have ha' : (l.set b (.lst ((M ++ (List.range d.length).map fun f => r ++ [f]).map rowD)) ++ [OB.lst (rng 0 d.length), OB.lst (((List.range d.length).map fun f => r ++ [f]).map rowD)])[a]? = some (.lst all) := gLk (by rw [List.getElem?_set_ne (fun z => hab z.symm)]; exact ha)
    have hb' : (l.set b (.lst ((M ++ (List.range d.length).map fun f => r ++ [f]).map rowD)) ++ [OB.lst (rng 0 d.length), OB.lst (((List.range d.length).map fun f => r ++ [f]).map rowD)])[b]? = some (.lst ((M ++ (List.range d.length).map fun f => r ++ [f]).map rowD)) := gLk (by rw [List.getElem?_set_self hbl])
    obtain ⟨l', y', i1, i2, i3⟩ := more_loop h (x1 := x1) (x3 := x3) a b hab all R (M ++ (List.range d.length).map fun f => r ++ [f]) _ (some (rowD r)) (fun s hs => hr s (by simp [hs])) ha' hb' (by simp; omega)
    refine ⟨l', y', ?_, i2, ?_⟩
    · rw [List.map_cons, for_cons _ _ _ _ _ _ (show (ItD.mk all (some a)).ok l from ha), hg]
      simp only [eb, loop_nx]
      exact i1
    · rw [i3]
      unfold nxt
      rw [List.flatMap_cons, List.append_assoc]
end Q81

set_option Elab.async false
set_option linter.all false
set_option maxRecDepth 100000
set_option maxHeartbeats 1000000
namespace Q81
open PySem L2 PySem.Spec PyProof.Rows Zb Nm Bt
theorem run_lrows {d : List Nat} (h : DieOk d) (n : Nat) (hn : n ≤ 400) (hb : ∀ j ≤ n, d.length ^ j ≤ 1000) : ∃ (L : Sto) (a : Nat), runB 7 den__law_rows [dieD d, nD n] [] = .ok (.adr a) L ∧ L[a]? = some (.lst ((rowsL d.length n).map rowD)) := by
  have hm5 := h.hi
  obtain ⟨g', l', e1, e2⟩ := for_inv (it := ⟨rng 0 n, none⟩) (gt := gN 3) (b := b3__law_rows) (fun j g l => j ≤ n ∧ ∃ (a : Nat) (y3 y4 y5 : Option D), g = [some (dieD d), some (nD n), some (.adr a), y3, y4, y5, none] ∧ l[a]? = some (.lst ((rowsL d.length j).map rowD)))
      (fun _ _ _ _ => trivial) (rng 0 n) 0 [some (dieD d), some (nD n), some (.adr 0), none, none, none, none] [.lst [.tup []]] ⟨by omega, 0, none, none, none, rfl, rfl⟩ (by
        rintro j e g l hj ⟨_, a, y3, y4, y5, rfl, ha⟩
        obtain ⟨hjl, he⟩ := rng_get hj
        have hd : e = nD j := by rw [he]; simp
        subst hd
        rw [Nat.zero_add] at *
        have al : a < l.length := (List.getElem?_eq_some_iff.mp ha).1
        have g0 : (l ++ [OB.lst []])[a]? = some (.lst ((rowsL d.length j).map rowD)) := gLk ha
        obtain ⟨l2, y', i1, i2, i3⟩ := more_loop h (x1 := some (nD n)) (x3 := some (nD j)) a l.length (by omega) ((rowsL d.length j).map rowD) (rowsL d.length j) [] (l ++ [.lst []]) y5 (fun r hr => by rw [(rowsL_row _ _ r hr).1]; omega) g0 (by simp) (by
          rw [rowsL_len]
          have := hb j (by omega)
          have := Nat.mul_le_mul this hm5
          simp
          omega)
        rw [List.nil_append] at i3
        refine ⟨[some (dieD d), some (nD n), some (.adr a), some (nD j), y4, y5, none], rfl, ?_⟩
        have go : b3__law_rows [some (dieD d), some (nD n), some (.adr a), some (nD j), y4, y5, none] l = .nx [some (dieD d), some (nD n), some (.adr l.length), some (nD j), some (.adr l.length), y', none] l2 := by
          generalize (rowsL d.length j).map rowD = A at *
          simp [b3__law_rows, g0, i1]
        rw [go]
        exact ⟨by omega, l.length, some (nD j), some (.adr l.length), y', rfl, i3⟩)
  obtain ⟨_, a, y3, y4, y5, rfl, ha⟩ := e2
  rw [rng_length, Nat.zero_add] at *
  have hm : mid (n : Int) = true := by rw [mid_nat]; simp; omega
  refine ⟨l', a, ?_, ha⟩
  simp only [dieD] at *
  simp [den__law_rows, hm, e1]
theorem call_lrows {d : List Nat} (h : DieOk d) (n : Nat) (hn : n ≤ 400) (hb : ∀ j ≤ n, d.length ^ j ≤ 1000) (l : Sto) : m__law_rows [dieD d, nD n] l = .ok (.adr l.length) (l ++ [.lst ((rowsL d.length n).map rowD)]) := by
  obtain ⟨L, a, e, ha⟩ := run_lrows h n hn hb
  exact callM_l (by simp) e ha (pus_rows _)
/-! ### rows_of_kind -/
def kindRows (d : List Nat) (n k : Nat) : List D := (List.range (sizeN d n k)).map fun x => rowD (rowN d n k x)
theorem lc_rok {d : List Nat} (h : DieOk d) (n k : Nat) (hk : k ≤ n) (hn : n ≤ 400) (hs : sizeN d n k ≤ 10000) {x3 : Option D} (l : Sto) : lcL ⟨rng 0 (sizeN d n k), none⟩ (gN 4) dYes e1_rows_of_kind [some (dieD d), some (nD n), some (nD k), x3, none] (rng 0 (sizeN d n k)) l [] = .ok (kindRows d n k) l := by
  conv => lhs; arg 6; rw [rng_eq]
  rw [lcL_fmap (by trivial) (fun i => nD i) (fun x => rowD (rowN d n k x)) (fun _ => true) _ _ (fun x hx => ?_) (by simp; omega)]
  · rw [List.filter_eq_self.mpr (fun _ _ => rfl)]
    rfl
  · have c1 := fun l => call_row h (n := n) (k := k) (x := x) (x : Int) rfl hn (List.mem_range.mp hx) hk l
    exact ⟨[some (dieD d), some (nD n), some (nD k), x3, some (nD x)], rfl, rfl, fun _ => by simp [e1_rows_of_kind, c1]⟩
theorem pus_kr (d : List Nat) (n k : Nat) : pus (kindRows d n k) = true := by
  have : kindRows d n k = ((List.range (sizeN d n k)).map (rowN d n k)).map rowD := by unfold kindRows; rw [List.map_map]; rfl
  rw [this]
  exact pus_rows _
theorem call_rok {d : List Nat} (h : DieOk d) (n k : Nat) (hk : k ≤ n) (hn : n ≤ 400) (hs : sizeN d n k ≤ 10000) (l : Sto) : m_rows_of_kind [dieD d, nD n, nD k] l = .ok (.tup (kindRows d n k)) l := by
  have c1 := fun l => call_size h n k hk hn l
  have lc := fun l => lc_rok h n k hk hn hs (x3 := some (nD (sizeN d n k))) l
  have hm : mid (sizeN d n k : Int) = true := by rw [mid_nat]; simp; omega
  refine callM_p (junk := [.lst (kindRows d n k)]) (by simp) ?_ (by simp [pus_kr])
  generalize kindRows d n k = R at *
  generalize sizeN d n k = S at *
  simp only [dieD] at *
  simp [den_rows_of_kind, c1, hm, lc]
end Q81

set_option Elab.async false
set_option linter.all false
set_option maxRecDepth 100000
set_option maxHeartbeats 1000000
namespace Q81
open PySem L2 PySem.Spec PyProof.Rows Zb Nm Bt
/-! ### all rows, by kind and number -/
theorem rowsL_mem (m : Nat) : ∀ (n : Nat) (r : List Nat), r ∈ rowsL m n ↔ r.length = n ∧ ∀ f ∈ r, f < m
  | 0, r => by
    simp only [rowsL, List.mem_singleton]
    constructor
    · rintro rfl; simp
    · rintro ⟨h, _⟩; exact List.eq_nil_of_length_eq_zero h
  | n + 1, r => by
    constructor
    · exact fun h => rowsL_row m (n + 1) r h
    · rintro ⟨h1, h2⟩
      rcases List.eq_nil_or_concat r with rfl | ⟨s, f, rfl⟩
      · simp at h1
      · rw [List.concat_eq_append] at *
        refine List.mem_flatMap.mpr ⟨s, (rowsL_mem m n s).mpr ⟨by simp at h1; omega, fun g hg => h2 g (by simp [hg])⟩, List.mem_map.mpr ⟨f, List.mem_range.mpr (h2 f (by simp)), rfl⟩⟩
theorem nodup_flatMap {α β : Type} (f : α → List β) : ∀ (xs : List α), xs.Nodup → (∀ x ∈ xs, (f x).Nodup) → (∀ x ∈ xs, ∀ y ∈ xs, x ≠ y → ∀ b, b ∈ f x → b ∉ f y) → (xs.flatMap f).Nodup
  | [], _, _, _ => by simp
  | x :: xs, nd, h1, h2 => by
    rw [List.nodup_cons] at nd
    rw [List.flatMap_cons, List.nodup_append]
    refine ⟨h1 x (by simp), nodup_flatMap f xs nd.2 (fun y hy => h1 y (by simp [hy])) (fun y hy z hz => h2 y (by simp [hy]) z (by simp [hz])), ?_⟩
    intro a ha b hb e
    subst e
    obtain ⟨y, hy, hb⟩ := List.mem_flatMap.mp hb
    exact h2 x (by simp) y (by simp [hy]) (fun z => nd.1 (by rw [z]; exact hy)) a ha hb
theorem map_nodup {α β : Type} (f : α → β) : ∀ (xs : List α), xs.Nodup → (∀ x ∈ xs, ∀ y ∈ xs, f x = f y → x = y) → (xs.map f).Nodup
  | [], _, _ => by simp
  | x :: xs, nd, h => by
    rw [List.nodup_cons] at nd
    rw [List.map_cons, List.nodup_cons]
    refine ⟨fun hm => ?_, map_nodup f xs nd.2 fun y hy z hz => h y (by simp [hy]) z (by simp [hz])⟩
    obtain ⟨y, hy, e⟩ := List.mem_map.mp hm
    have := h y (by simp [hy]) x (by simp) e
    subst this
    exact nd.1 hy
theorem rowsL_nodup (m : Nat) : ∀ n, (rowsL m n).Nodup
  | 0 => by simp [rowsL]
  | n + 1 => by
    refine nodup_flatMap _ _ (rowsL_nodup m n) (fun r _ => map_nodup _ _ List.nodup_range (fun x _ y _ e => by
      have := List.append_cancel_left e
      simpa using this)) ?_
    intro x _ y _ hxy b hb hb2
    obtain ⟨f, _, rfl⟩ := List.mem_map.mp hb
    obtain ⟨g, _, e⟩ := List.mem_map.mp hb2
    exact hxy (List.append_inj_left' e rfl).symm
def byKind (d : List Nat) (n : Nat) : List (List Nat) := (List.range (n + 1)).flatMap fun k => (List.range (sizeN d n k)).map fun x => rowN d n k x
theorem byKind_mem {d : List Nat} (h : DieOk d) (n : Nat) (r : List Nat) : r ∈ byKind d n ↔ r.length = n ∧ ∀ f ∈ r, f < d.length := by
  unfold byKind
  rw [List.mem_flatMap]
  constructor
  · rintro ⟨k, _, h2⟩
    obtain ⟨x, h3, rfl⟩ := List.mem_map.mp h2
    have nr := num_row h (List.mem_range.mp h3)
    exact ⟨nr.2.2.1, nr.2.1⟩
  · rintro ⟨rfl, h2⟩
    have nl := num_lt h r h2
    exact ⟨kindF d r, List.mem_range.mpr (by have := kind_le d r; omega), List.mem_map.mpr ⟨numN d r, List.mem_range.mpr nl, row_num h r h2⟩⟩
theorem byKind_nodup {d : List Nat} (h : DieOk d) (n : Nat) : (byKind d n).Nodup := by
  refine nodup_flatMap _ _ List.nodup_range (fun k _ => map_nodup _ _ List.nodup_range fun x hx y hy e => ?_) ?_
  · have h1 := (num_row h (List.mem_range.mp hx)).1
    have h2 := (num_row h (List.mem_range.mp hy)).1
    rw [← h1, ← h2, e]
  · intro k _ k' _ hk b hb hb2
    obtain ⟨x, hx, rfl⟩ := List.mem_map.mp hb
    obtain ⟨y, hy, e⟩ := List.mem_map.mp hb2
    have h1 := (num_row h (List.mem_range.mp hx)).2.2.2
    have h2 := (num_row h (List.mem_range.mp hy)).2.2.2
    rw [e] at h2
    exact hk (h1.symm.trans h2)
theorem rows_perm {d : List Nat} (h : DieOk d) (n : Nat) : (rowsL d.length n).Perm (byKind d n) :=
  (List.perm_ext_iff_of_nodup (rowsL_nodup _ _) (byKind_nodup h n)).mpr fun r => by rw [rowsL_mem, byKind_mem h]
theorem sum_flatMap {α β : Type} (f : α → List β) (g : β → Nat) : ∀ xs : List α, ((xs.flatMap f).map g).sum = (xs.map fun x => ((f x).map g).sum).sum
  | [] => rfl
  | x :: xs => by rw [List.flatMap_cons, List.map_append, List.sum_append, List.map_cons, List.sum_cons, sum_flatMap f g xs]
/-- a sum over all rows, kind by kind, number by number -/
theorem rows_sum {d : List Nat} (h : DieOk d) (n : Nat) (F : Nat → Nat → Nat) : ((rowsL d.length n).map fun r => F (kindF d r) (numN d r)).sum = ((List.range (n + 1)).map fun k => ((List.range (sizeN d n k)).map fun x => F k x).sum).sum := by
  have e1 : ((rowsL d.length n).map fun r => F (kindF d r) (numN d r)).sum = ((byKind d n).map fun r => F (kindF d r) (numN d r)).sum := ((rows_perm h n).map _).sum_nat
  rw [e1]
  unfold byKind
  rw [sum_flatMap]
  apply Bin.sum_congr
  intro k _
  rw [List.map_map]
  apply Bin.sum_congr
  intro x hx
  have nr := num_row h (List.mem_range.mp hx)
  show F (kindF d (rowN d n k x)) (numN d (rowN d n k x)) = F k x
  rw [nr.1, nr.2.2.2]
/-! ### numbers with given bits -/
theorem sum_one (S : Nat) (p : Nat → Bool) (a : Nat) (ha : a < S) (hp : ∀ x, x < S → (p x = true ↔ x = a)) (c : Nat) : ((List.range S).map fun x => if p x then c else 0).sum = c := by
  induction S with
  | zero => omega
  | succ S ih =>
    rw [Bin.sum_range_succ]
    by_cases q : a = S
    · subst q
      have z : ((List.range a).map fun x => if p x then c else 0).sum = 0 := by
        rw [Bin.sum_congr (g := fun _ => 0)]
        · induction (List.range a) with
          | nil => rfl
          | cons _ _ ih => simpa using ih
        · intro x hx
          have hx := List.mem_range.mp hx
          rw [if_neg]
          intro y
          have := (hp x (by omega)).mp y
          omega
      rw [z, if_pos ((hp a (by omega)).mpr rfl)]
      omega
    · rw [ih (by omega) (fun x hx => hp x (by omega)), if_neg]
      · rfl
      · intro y
        have := (hp S (by omega)).mp y
        omega
theorem sum_zero (S : Nat) (p : Nat → Bool) (hp : ∀ x, x < S → p x = false) (c : Nat) : ((List.range S).map fun x => if p x then c else 0).sum = 0 := by
  induction S with
  | zero => rfl
  | succ S ih =>
    rw [Bin.sum_range_succ, ih (fun x hx => hp x (by omega)), hp S (by omega)]
    rfl
/-- a number's bits, and back -/
theorem bon_iff {S x : Nat} (hx : x < S) (b : List Nat) (hb : IsB b) : bon S x = b ↔ bt S b.length = 1 ∧ x = hi S b.length + nob b 0 := by
  obtain ⟨e, o, h1, h2, h3, h4⟩ := bon_loc hx
  have hbe := mem_stch.mp h2
  have hx2 := loc_inv _ _ _ _ (stch_nodup _) h1
  rw [ahead_stch hbe] at hx2
  rw [h4]
  constructor
  · rintro rfl
    rw [bitsL_len, nob_bits, Nat.mod_eq_of_lt h3]
    exact ⟨hbe, hx2⟩
  · rintro ⟨h5, h6⟩
    have l1 := (loc_ahead (stch S) b.length (nob b 0) (mem_stch.mpr h5) (stch_nodup _) (nob_lt b hb)).1
    rw [ahead_stch h5, ← h6, h1] at l1
    simp only [Option.some.injEq, Prod.mk.injEq] at l1
    rw [l1.1, l1.2, bits_nob b hb]
theorem bits_count (S : Nat) (b : List Nat) (hb : IsB b) (c : Nat) : ((List.range S).map fun x => if decide (bon S x = b) then c else 0).sum = bt S b.length * c := by
  by_cases q : bt S b.length = 1
  · rw [q, Nat.one_mul]
    exact sum_one S _ (hi S b.length + nob b 0) (hi_lt q (nob_lt b hb)) (fun x hx => by
      rw [decide_eq_true_eq, bon_iff hx b hb]
      exact ⟨fun z => z.2, fun z => ⟨q, z⟩⟩) c
  · have : bt S b.length = 0 := by have := bt_lt S b.length; omega
    rw [this, Nat.zero_mul]
    exact sum_zero S _ (fun x hx => by
      rw [decide_eq_false_iff_not, bon_iff hx b hb]
      exact fun z => q z.1) c
end Q81

set_option Elab.async false
set_option linter.all false
set_option maxRecDepth 100000
set_option maxHeartbeats 1000000
namespace Q81
open PySem L2 PySem.Spec PyProof.Rows Zb Nm Bt
theorem sum_between (a m c : Nat) : ∀ S : Nat, ((List.range S).map fun x => if decide (a ≤ x ∧ x < a + m) then c else 0).sum = (min S (a + m) - min S a) * c
  | 0 => by simp
  | S + 1 => by
    rw [Bin.sum_range_succ, sum_between a m c S]
    by_cases q : a ≤ S ∧ S < a + m
    · rw [if_pos (decide_eq_true q)]
      have : min (S + 1) (a + m) - min (S + 1) a = (min S (a + m) - min S a) + 1 := by omega
      rw [this, Nat.add_mul, Nat.one_mul]
    · rw [if_neg (by simpa using q), Nat.add_zero]
      congr 1
      omega
theorem len_iff {S x e : Nat} (hx : x < S) : (bon S x).length = e ↔ bt S e = 1 ∧ hi S e ≤ x ∧ x < hi S e + 2 ^ e := by
  obtain ⟨a, o, h1, h2, h3, h4⟩ := bon_loc hx
  have hbe := mem_stch.mp h2
  have hx2 := loc_inv _ _ _ _ (stch_nodup _) h1
  rw [ahead_stch hbe] at hx2
  rw [h4, bitsL_len]
  constructor
  · rintro rfl
    exact ⟨hbe, by omega, by omega⟩
  · rintro ⟨h5, h6, h7⟩
    obtain ⟨t, ht⟩ : ∃ t, x = hi S e + t := ⟨x - hi S e, by omega⟩
    have l1 := (loc_ahead (stch S) e t (mem_stch.mpr h5) (stch_nodup _) (by omega)).1
    rw [ahead_stch h5, ← ht, h1] at l1
    simp only [Option.some.injEq, Prod.mk.injEq] at l1
    exact l1.1
theorem len_count (S e c : Nat) : ((List.range S).map fun x => if decide ((bon S x).length = e) then c else 0).sum = bt S e * 2 ^ e * c := by
  by_cases q : bt S e = 1
  · rw [q, Nat.one_mul]
    have e1 : ∀ x ∈ List.range S, (if decide ((bon S x).length = e) then c else 0) = if decide (hi S e ≤ x ∧ x < hi S e + 2 ^ e) then c else 0 := fun x hx => by
      have hx := List.mem_range.mp hx
      congr 1
      simp only [decide_eq_true_eq, eq_iff_iff]
      rw [len_iff hx]
      exact ⟨fun z => z.2, fun z => ⟨q, z⟩⟩
    rw [Bin.sum_congr e1, sum_between]
    have h1 := hi_lt q (o := 2 ^ e - 1) (by have := Nat.two_pow_pos e; omega)
    have h2 := Nat.two_pow_pos e
    congr 1
    omega
  · have : bt S e = 0 := by have := bt_lt S e; omega
    rw [this, Nat.zero_mul, Nat.zero_mul]
    exact sum_zero S _ (fun x hx => by
      rw [decide_eq_false_iff_not, len_iff hx]
      exact fun z => q z.1) c
theorem wsum_map {α κ : Type} [DecidableEq κ] (key : α → κ) (w : α → Nat) (k : κ) : ∀ xs : List α, Tl.wsum (xs.map fun r => (key r, w r)) k = (xs.map fun r => if decide (key r = k) then w r else 0).sum
  | [] => rfl
  | x :: xs => by
    have ih := wsum_map key w k xs
    unfold Tl.wsum at *
    rw [List.map_cons, List.filter_cons, List.map_cons, List.sum_cons]
    by_cases q : key x = k
    · rw [if_pos (decide_eq_true q), if_pos (decide_eq_true q), List.map_cons, List.sum_cons, ih]
    · rw [if_neg (by simpa using q), if_neg (by simpa using q), ih, Nat.zero_add]
theorem massN_h (d : List Nat) (n k : Nat) : massN d (n + 1) (k + 1) = massN d n k * wt d 0 := by
  unfold massN
  rw [show n + 1 - (k + 1) = n - k by omega, Nat.pow_succ, Nat.mul_assoc, Nat.mul_assoc, Nat.mul_comm (wt d 0)]
theorem massN_l (d : List Nat) (n k : Nat) (h : k ≤ n) : massN d (n + 1) k = massN d n k * lw d := by
  unfold massN
  rw [show n + 1 - k = n - k + 1 by omega, Nat.pow_succ, Nat.mul_assoc]
theorem mass_eq {d : List Nat} (ok : DieOk d) : ∀ fs : List Nat, (∀ f ∈ fs, f < d.length) → massF d fs = massN d fs.length (kindF d fs) := by
  refine snoc_ind (fun _ => by simp [massF, massN, kindF]) ?_
  intro fs f ih h
  have h1 := ih fun g hg => h g (List.mem_append_left _ hg)
  have hf := h f (by simp)
  rw [mass_snoc, kind_snoc, h1, List.length_append, List.length_singleton]
  by_cases q : isH d f = true
  · rw [if_pos q, massN_h]
    have : wt d f = wt d 0 := by simpa [isH] using q
    rw [this]
  · have q' : isH d f = false := by simpa using q
    rw [if_neg q]
    show _ = massN d (fs.length + 1) (kindF d fs)
    rw [massN_l _ _ _ (kind_le d fs), lt_w ok hf q']
/-- the mass of each tuple of e bits -/
def evN (d : List Nat) (n e : Nat) : Nat := ((List.range (n + 1)).map fun k => bt (sizeN d n k) e * massN d n k).sum
theorem ev_cnt (d : List Nat) (n e : Nat) : evN d n e * 2 ^ e = cntE d n e := by
  unfold evN cntE
  rw [← Bin.sum_map_mul]
  apply Bin.sum_congr
  intro k _
  rw [Nat.mul_right_comm]
theorem wsum_bits {d : List Nat} (h : DieOk d) (n : Nat) (b : List Nat) (hb : IsB b) : Tl.wsum ((rowsL d.length n).map fun r => (rbits d r, massF d r)) b = evN d n b.length := by
  rw [wsum_map]
  have e1 : ∀ r ∈ rowsL d.length n, (if decide (rbits d r = b) then massF d r else 0) = (fun k x => if decide (bon (sizeN d n k) x = b) then massN d n k else 0) (kindF d r) (numN d r) := fun r hr => by
    obtain ⟨h1, h2⟩ := rowsL_row _ _ r hr
    subst h1
    rw [mass_eq h r h2]
    rfl
  rw [Bin.sum_congr e1]
  refine (rows_sum h n (fun k x => if decide (bon (sizeN d n k) x = b) then massN d n k else 0)).trans ?_
  unfold evN
  apply Bin.sum_congr
  intro k _
  exact bits_count _ b hb _
theorem wsum_len {d : List Nat} (h : DieOk d) (n e : Nat) : Tl.wsum ((rowsL d.length n).map fun r => ((rbits d r).length, massF d r)) e = cntE d n e := by
  rw [wsum_map]
  have e1 : ∀ r ∈ rowsL d.length n, (if decide ((rbits d r).length = e) then massF d r else 0) = (fun k x => if decide ((bon (sizeN d n k) x).length = e) then massN d n k else 0) (kindF d r) (numN d r) := fun r hr => by
    obtain ⟨h1, h2⟩ := rowsL_row _ _ r hr
    subst h1
    rw [mass_eq h r h2]
    rfl
  rw [Bin.sum_congr e1]
  refine (rows_sum h n (fun k x => if decide ((bon (sizeN d n k) x).length = e) then massN d n k else 0)).trans ?_
  unfold cntE
  apply Bin.sum_congr
  intro k _
  exact len_count _ e _
/-- which bits there are -/
theorem bits_there {d : List Nat} (h : DieOk d) (n : Nat) (b : List Nat) : b ∈ (rowsL d.length n).map (rbits d) ↔ IsB b ∧ ∃ k, k ≤ n ∧ bt (sizeN d n k) b.length = 1 := by
  rw [List.mem_map]
  constructor
  · rintro ⟨r, hr, rfl⟩
    obtain ⟨h1, h2⟩ := rowsL_row _ _ r hr
    subst h1
    refine ⟨rbits_isB d r, kindF d r, kind_le d r, ?_⟩
    exact ((bon_iff (num_lt h r h2) (rbits d r) (rbits_isB d r)).mp rfl).1
  · rintro ⟨hb, k, hk, h2⟩
    have hx := hi_lt h2 (nob_lt b hb)
    have nr := num_row h hx
    refine ⟨rowN d n k (hi (sizeN d n k) b.length + nob b 0), (rowsL_mem _ _ _).mpr ⟨nr.2.2.1, nr.2.1⟩, ?_⟩
    unfold rbits
    rw [nr.1, nr.2.2.1, nr.2.2.2]
    exact (bon_iff hx b hb).mpr ⟨h2, rfl⟩
end Q81

set_option Elab.async false
set_option linter.all false
set_option maxRecDepth 100000
namespace Tl
open PySem L2 Zb
section
variable {κ κ' : Type} [DecidableEq κ] [DecidableEq κ'] {φ : κ → κ'}
/-! ### tallies as dicts, the keys told by φ -/
def mapD (φ : κ → κ') (t : List (κ × Nat)) : List (κ' × D) := t.map fun p => (φ p.1, .int (p.2 : Nat))
theorem va_mapD (inj : ∀ a b, φ a = φ b → a = b) (k : κ) : ∀ t : List (κ × Nat), vaD (mapD φ t) (φ k) = (getN t k).map fun n : Nat => D.int (n : Nat)
  | [] => rfl
  | p :: t => by
    have ih := va_mapD inj k t
    unfold vaD getN mapD at *
    simp only [List.map_cons, List.find?_cons]
    by_cases q : p.1 = k
    · simp [q]
    · have q2 : ¬ φ p.1 = φ k := fun z => q (inj _ _ z)
      simp only [decide_eq_false q, decide_eq_false q2]
      exact ih
theorem get_mapD (inj : ∀ a b, φ a = φ b → a = b) (t : List (κ × Nat)) (k : κ) : (vaD (mapD φ t) (φ k)).getD (.int 0) = .int (((getN t k).getD 0 : Nat) : Int) := by
  rw [va_mapD inj]
  cases getN t k <;> rfl
theorem any_mapD (inj : ∀ a b, φ a = φ b → a = b) (k : κ) (t : List (κ × Nat)) : ((mapD φ t).any fun p => decide (p.1 = φ k)) = (t.any fun p => decide (p.1 = k)) := by
  unfold mapD
  rw [List.any_map]
  congr 1
  funext p
  simp only [Function.comp]
  by_cases q : p.1 = k
  · rw [decide_eq_true q, decide_eq_true (by rw [q])]
  · rw [decide_eq_false q, decide_eq_false (fun z => q (inj _ _ z))]
theorem put_mapD (inj : ∀ a b, φ a = φ b → a = b) (t : List (κ × Nat)) (k : κ) (n : Nat) : putD (mapD φ t) (φ k) (.int (n : Nat)) = mapD φ (putN t k n) := by
  unfold putD putN
  rw [any_mapD inj]
  split
  · unfold mapD
    rw [List.map_map, List.map_map]
    apply List.map_congr_left
    intro p _
    simp only [Function.comp]
    by_cases q : p.1 = k
    · rw [if_pos q, if_pos (by rw [q])]
    · rw [if_neg q, if_neg (fun z => q (inj _ _ z))]
  · unfold mapD
    simp
theorem mapD_len (t : List (κ × Nat)) : (mapD φ t).length = t.length := by simp [mapD]
end
end Tl

set_option Elab.async false
set_option linter.all false
set_option maxRecDepth 100000
set_option maxHeartbeats 1000000
namespace Q81
open PySem L2 PySem.Spec PyProof.Rows Zb Nm Bt
def kB (b : List Nat) : List Key := b.map kI
theorem kI_inj : ∀ a b, kI a = kI b → a = b := fun a b z => Int.ofNat_inj.mp (Sum.inl.inj z)
theorem kB_inj : ∀ a b, kB a = kB b → a = b
  | [], [], _ => rfl
  | [], _ :: _, h => by simp [kB] at h
  | _ :: _, [], h => by simp [kB] at h
  | x :: a, y :: b, h => by
    simp only [kB, List.map_cons, List.cons.injEq] at h
    rw [kI_inj _ _ h.1, kB_inj a b h.2]
theorem keysD_row : ∀ b : List Nat, keysD (b.map nD) = some (kB b)
  | [] => rfl
  | x :: b => by
    have ih := keysD_row b
    simp only [List.map_cons, keysD, ih, keyD_int, kB]
    rfl
abbrev TB := List (List Nat × Nat)
/-! ### even_bits: the masses of all bits -/
def psB (d : List Nat) (R : List (List Nat)) : TB := R.map fun r => (rbits d r, massF d r)
theorem loop_eb {d : List Nat} (h : DieOk d) {D0 : List D} {x1 x5 x6 x7 : Option D} {junk : Sto} : ∀ (R : List (List Nat)) (ps : TB) (y3 y4 : Option D), (∀ r ∈ R, RowOk d r) → ps.length + R.length ≤ 10000 →
    ∃ y3' y4', sForL ⟨D0, none⟩ (gN 3) b1_even_bits (R.map rowD) [some (dieD d), x1, some (.adr 0), y3, y4, x5, x6, x7] (.dtt (Tl.mapD kB (Tl.tally ps)) :: junk) = .nx [some (dieD d), x1, some (.adr 0), y3', y4', x5, x6, x7] (.dtt (Tl.mapD kB (Tl.tally (ps ++ psB d R))) :: junk)
  | [], ps, y3, y4, _, _ => ⟨y3, y4, by rw [List.map_nil, for_nil _ _ _ _ (show (ItD.mk D0 none).ok _ from trivial)]; simp [psB]⟩
  | r :: R, ps, y3, y4, hr, hl => by
    have hr0 := hr r (by simp)
    simp only [List.length_cons] at hl
    have hg : gN 3 (rowD r) (.dtt (Tl.mapD kB (Tl.tally ps)) :: junk) [some (dieD d), x1, some (.adr 0), y3, y4, x5, x6, x7] = some [some (dieD d), x1, some (.adr 0), some (rowD r), y4, x5, x6, x7] := rfl
    have c1 := fun l => call_rbits h hr0 l
    have c2 := fun l => call_mass h hr0 l
    have kd := keysD_row (rbits d r)
    have gd := Tl.get_mapD kB_inj (Tl.tally ps) (rbits d r)
    have tl := tally_len ps
    have sm : (Tl.mapD kB (Tl.tally ps)).length ≤ 16777215 := by rw [Tl.mapD_len]; omega
    have eb : b1_even_bits [some (dieD d), x1, some (.adr 0), some (rowD r), y4, x5, x6, x7] (.dtt (Tl.mapD kB (Tl.tally ps)) :: junk) = .nx [some (dieD d), x1, some (.adr 0), some (rowD r), some (rowD (rbits d r)), x5, x6, x7] (.dtt (Tl.mapD kB (Tl.tally (ps ++ [(rbits d r, massF d r)]))) :: junk) := by
      rw [Tl.tally_snoc]
      unfold Tl.step
      rw [← Tl.put_mapD kB_inj]
      generalize Tl.mapD kB (Tl.tally ps) = T at *
      generalize Tl.getN (Tl.tally ps) = G at *
      generalize rbits d r = B at *
      generalize massF d r = M at *
      simp only [rowD, dieD] at *
      simp [b1_even_bits, c1, c2, kd, gd, sm]
    obtain ⟨y3', y4', ih⟩ := loop_eb h (D0 := D0) (x1 := x1) (x5 := x5) (x6 := x6) (x7 := x7) (junk := junk) R (ps ++ [(rbits d r, massF d r)]) (some (rowD r)) (some (rowD (rbits d r))) (fun s hs => hr s (by simp [hs])) (by simp; omega)
    refine ⟨y3', y4', ?_⟩
    rw [List.map_cons, for0_cons, hg]
    simp only [eb, loop_nx]
    rw [ih]
    simp [psB]
end Q81

set_option Elab.async false
set_option linter.all false
set_option maxRecDepth 100000
set_option maxHeartbeats 1000000
namespace Q81
open PySem L2 PySem.Spec PyProof.Rows Zb Nm Bt
/-! ### even_bits: the lengths -/
abbrev TN := List (Nat × Nat)
def lenD (A : Nat → Nat) (cs : TN) : List (Key × D) := cs.map fun p => (kI p.1, .adr (A p.1))
structure LenOk (v : Nat → Nat) (A : Nat → Nat) (cs : TN) (l : Sto) : Prop where
  at_ : ∀ e c, Tl.getN cs e = some c → l[A e]? = some (.lst (List.replicate c (nD (v e)))) ∧ 2 ≤ A e
  inj : ∀ e e', (Tl.getN cs e).isSome → (Tl.getN cs e').isSome → A e = A e' → e = e'
theorem va_len (A : Nat → Nat) (e : Nat) : ∀ cs : TN, vaD (lenD A cs) (kI e) = (Tl.getN cs e).map fun _ => D.adr (A e)
  | [] => rfl
  | p :: cs => by
    have ih := va_len A e cs
    unfold vaD Tl.getN lenD at *
    simp only [List.map_cons, List.find?_cons]
    by_cases q : p.1 = e
    · simp [q]
    · have q2 : ¬ kI p.1 = kI e := fun z => q (kI_inj _ _ z)
      simp only [decide_eq_false q, decide_eq_false q2]
      exact ih
theorem any_len (A : Nat → Nat) (e : Nat) (cs : TN) : ((lenD A cs).any fun p => decide (p.1 = kI e)) = (cs.any fun p => decide (p.1 = e)) := by
  unfold lenD
  rw [List.any_map]
  congr 1
  funext p
  simp only [Function.comp]
  by_cases q : p.1 = e
  · rw [decide_eq_true q, decide_eq_true (by rw [q])]
  · rw [decide_eq_false q, decide_eq_false (fun z => q (kI_inj _ _ z))]
theorem getN_any {cs : TN} {e : Nat} : (cs.any fun p => decide (p.1 = e)) = (Tl.getN cs e).isSome := by
  unfold Tl.getN
  rw [Option.isSome_map]
  apply Bool.eq_iff_iff.mpr
  rw [List.find?_isSome, List.any_eq_true]
theorem len_put (A : Nat → Nat) (cs : TN) (e n : Nat) (a : Nat) (h : Tl.getN cs e = none) : putD (lenD A cs) (kI e) (.adr a) = lenD (fun x => if x = e then a else A x) (Tl.putN cs e n) := by
  have hn : ¬ (cs.any fun p => decide (p.1 = e)) = true := by rw [getN_any, h]; simp
  unfold putD Tl.putN
  rw [any_len, if_neg hn, if_neg hn]
  unfold lenD
  rw [List.map_append]
  congr 1
  · apply List.map_congr_left
    intro p hp
    have : p.1 ≠ e := fun z => hn (List.any_eq_true.mpr ⟨p, hp, decide_eq_true z⟩)
    simp [this]
  · simp
theorem len_keep (A : Nat → Nat) (cs : TN) (e n : Nat) (h : (Tl.getN cs e).isSome) : lenD A (Tl.putN cs e n) = lenD A cs := by
  have hn : (cs.any fun p => decide (p.1 = e)) = true := by rw [getN_any]; exact h
  unfold Tl.putN
  rw [if_pos hn]
  unfold lenD
  rw [List.map_map]
  apply List.map_congr_left
  intro p _
  simp only [Function.comp]
  split <;> rfl
theorem rep_succ (c : Nat) (d : D) : List.replicate c d ++ [d] = List.replicate (c + 1) d := List.replicate_succ'.symm
theorem loop_len {d : List Nat} (n : Nat) {D0 : List D} {x0 x1 x3 x6 x7 : Option D} (T : List (List Key × D)) (all : TB) (hT : T = Tl.mapD kB all) (ev : ∀ b, (Tl.getN all b).isSome → Tl.getN all b = some (evN d n b.length)) :
    ∀ (bs : List (List Nat)) (cs : TN) (A : Nat → Nat) (rest : Sto) (y4 : Option D), (∀ b ∈ bs, (Tl.getN all b).isSome ∧ b.length ≤ 4000) → LenOk (evN d n) A cs (.ftt T :: .dct (lenD A cs) :: rest) → cs.length + bs.length ≤ 10000 → (∀ e c, Tl.getN cs e = some c → c + bs.length ≤ 100000) →
    ∃ (A' : Nat → Nat) (rest' : Sto) (y4' : Option D) (cs' : TN), cs' = (bs.map fun b => (b.length, 1)).foldl Tl.step cs ∧ LenOk (evN d n) A' cs' (.ftt T :: .dct (lenD A' cs') :: rest') ∧
      sForL ⟨D0, none⟩ (gN 4) b2_even_bits (bs.map rowD) [x0, x1, some (.adr 0), x3, y4, some (.adr 1), x6, x7] (.ftt T :: .dct (lenD A cs) :: rest) = .nx [x0, x1, some (.adr 0), x3, y4', some (.adr 1), x6, x7] (.ftt T :: .dct (lenD A' cs') :: rest')
  | [], cs, A, rest, y4, _, ok, _, _ => ⟨A, rest, y4, cs, rfl, ok, by rw [List.map_nil, for_nil _ _ _ _ (show (ItD.mk D0 none).ok _ from trivial)]⟩
  | b :: bs, cs, A, rest, y4, hb, ok, hl, hc => by
    obtain ⟨hb1, hb2⟩ := hb b (by simp)
    simp only [List.length_cons] at hl hc
    have hg : gN 4 (rowD b) (.ftt T :: .dct (lenD A cs) :: rest) [x0, x1, some (.adr 0), x3, y4, some (.adr 1), x6, x7] = some [x0, x1, some (.adr 0), x3, some (rowD b), some (.adr 1), x6, x7] := rfl
    have kd := keysD_row b
    have hv : vaD T (kB b) = some (nD (evN d n b.length)) := by rw [hT, Tl.va_mapD kB_inj, ev b hb1]; rfl
    have vl := va_len A b.length cs
    have sm : (lenD A cs).length ≤ 16777215 := by simp [lenD]; omega
    have kIe : (Sum.inl (b.length : Int) : Key) = kI b.length := rfl
    cases hcs : Tl.getN cs b.length with
    | some c =>
      rw [hcs] at vl
      obtain ⟨h1, h2⟩ := ok.at_ _ _ hcs
      have hc' := hc _ _ hcs
      obtain ⟨a, ha⟩ : ∃ a, A b.length = a + 2 := ⟨A b.length - 2, by omega⟩
      rw [ha] at h1 vl
      have hr : rest[a]? = some (.lst (List.replicate c (nD (evN d n b.length)))) := by simpa using h1
      have hra : a < rest.length := (List.getElem?_eq_some_iff.mp hr).1
      have gr : (rest ++ [OB.lst []])[a]? = some (.lst (List.replicate c (nD (evN d n b.length)))) := gLk hr
      have sr : (rest ++ [OB.lst []]).set a (.lst (List.replicate (c + 1) (nD (evN d n b.length)))) = rest.set a (.lst (List.replicate (c + 1) (nD (evN d n b.length)))) ++ [OB.lst []] := List.set_append_left _ _ hra
      have st : Tl.step cs (b.length, 1) = Tl.putN cs b.length (c + 1) := by simp [Tl.step, hcs]
      have keep := len_keep A cs b.length (c + 1) (by rw [hcs]; rfl)
      have eb : b2_even_bits [x0, x1, some (.adr 0), x3, some (rowD b), some (.adr 1), x6, x7] (.ftt T :: .dct (lenD A cs) :: rest) = .nx [x0, x1, some (.adr 0), x3, some (rowD b), some (.adr 1), x6, x7] (.ftt T :: .dct (lenD A (Tl.step cs (b.length, 1))) :: (rest.set a (.lst (List.replicate (c + 1) (nD (evN d n b.length)))) ++ [OB.lst []])) := by
        rw [st, keep]
        have rs := rep_succ c (nD (evN d n b.length))
        generalize lenD A cs = LD at *
        generalize evN d n b.length = V at *
        have smc : c ≤ 16777215 := by omega
        simp only [rowD] at *
        simp [b2_even_bits, kd, hv, vl, kIe, sm, smc, gr, hr, rs, sr, sr]
      have ok' : LenOk (evN d n) A (Tl.step cs (b.length, 1)) (.ftt T :: .dct (lenD A (Tl.step cs (b.length, 1))) :: (rest.set a (.lst (List.replicate (c + 1) (nD (evN d n b.length)))) ++ [OB.lst []])) := by
        rw [st]
        refine ⟨fun e c' he => ?_, fun e e' h1 h2 z => ?_⟩
        · rw [Tl.get_put] at he
          by_cases q : e = b.length
          · rw [if_pos q] at he
            cases he
            subst q
            refine ⟨?_, by omega⟩
            rw [ha]
            show (rest.set a (.lst (List.replicate (c + 1) (nD (evN d n b.length)))) ++ [OB.lst []])[a]? = _
            exact gLk (List.getElem?_set_self hra)
          · rw [if_neg q] at he
            obtain ⟨k1, k2⟩ := ok.at_ e c' he
            obtain ⟨a', ha'⟩ : ∃ a', A e = a' + 2 := ⟨A e - 2, by omega⟩
            have ne : a ≠ a' := fun z => q (ok.inj e b.length (by rw [he]; rfl) (by rw [hcs]; rfl) (by omega))
            refine ⟨?_, k2⟩
            rw [ha'] at k1 ⊢
            show (rest.set a (.lst (List.replicate (c + 1) (nD (evN d n b.length)))) ++ [OB.lst []])[a']? = _
            exact gLk (by rw [List.getElem?_set_ne ne]; simpa using k1)
        · have f : ∀ e, (Tl.getN (Tl.putN cs b.length (c + 1)) e).isSome → (Tl.getN cs e).isSome := fun e h => by
            rw [Tl.get_put] at h
            by_cases q : e = b.length
            · rw [q, hcs]; rfl
            · rwa [if_neg q] at h
          exact ok.inj e e' (f e h1) (f e' h2) z
      have sl : (Tl.step cs (b.length, 1)).length ≤ cs.length + 1 := by
        rw [st]
        unfold Tl.putN
        split <;> simp
      obtain ⟨A', rest', y4', cs', i1, i2, i3⟩ := loop_len n (D0 := D0) (x0 := x0) (x1 := x1) (x3 := x3) (x6 := x6) (x7 := x7) T all hT ev bs _ A _ (some (rowD b)) (fun c hc => hb c (by simp [hc])) ok' (by omega) (fun e c' he => by
        rw [st, Tl.get_put] at he
        by_cases q : e = b.length
        · rw [if_pos q] at he; cases he; omega
        · rw [if_neg q] at he; have := hc e c' he; omega)
      refine ⟨A', rest', y4', cs', i1, i2, ?_⟩
      rw [List.map_cons, for0_cons, hg]
      simp only [eb, loop_nx]
      exact i3
    | none =>
      rw [hcs] at vl
      have st : Tl.step cs (b.length, 1) = Tl.putN cs b.length 1 := by simp [Tl.step, hcs]
      have put := len_put A cs b.length 1 (rest.length + 2) hcs
      have eb : b2_even_bits [x0, x1, some (.adr 0), x3, some (rowD b), some (.adr 1), x6, x7] (.ftt T :: .dct (lenD A cs) :: rest) = .nx [x0, x1, some (.adr 0), x3, some (rowD b), some (.adr 1), x6, x7] (.ftt T :: .dct (lenD (fun x => if x = b.length then rest.length + 2 else A x) (Tl.step cs (b.length, 1))) :: (rest ++ [OB.lst [nD (evN d n b.length)]])) := by
        rw [st, ← put]
        generalize lenD A cs = LD at *
        generalize evN d n b.length = V at *
        simp only [rowD] at *
        simp [b2_even_bits, kd, hv, vl, kIe, sm]
      have ok' : LenOk (evN d n) (fun x => if x = b.length then rest.length + 2 else A x) (Tl.step cs (b.length, 1)) (.ftt T :: .dct (lenD (fun x => if x = b.length then rest.length + 2 else A x) (Tl.step cs (b.length, 1))) :: (rest ++ [OB.lst [nD (evN d n b.length)]])) := by
        rw [st]
        refine ⟨fun e c' he => ?_, fun e e' h1 h2 z => ?_⟩
        · rw [Tl.get_put] at he
          by_cases q : e = b.length
          · rw [if_pos q] at he
            cases he
            subst q
            rw [if_pos rfl]
            refine ⟨?_, by omega⟩
            show (rest ++ [OB.lst [nD (evN d n b.length)]])[rest.length]? = _
            simp
          · rw [if_neg q] at he
            rw [if_neg q]
            obtain ⟨k1, k2⟩ := ok.at_ e c' he
            obtain ⟨a', ha'⟩ : ∃ a', A e = a' + 2 := ⟨A e - 2, by omega⟩
            refine ⟨?_, k2⟩
            rw [ha'] at k1 ⊢
            show (rest ++ [OB.lst [nD (evN d n b.length)]])[a']? = _
            exact gLk (by simpa using k1)
        · have lt : ∀ e, (Tl.getN cs e).isSome → A e < rest.length + 2 := fun e h => by
            obtain ⟨c', hc'⟩ := Option.isSome_iff_exists.mp h
            have := (List.getElem?_eq_some_iff.mp (ok.at_ e c' hc').1).1
            simpa using this
          have f : ∀ e, ¬ e = b.length → (Tl.getN (Tl.putN cs b.length 1) e).isSome → (Tl.getN cs e).isSome := fun e q h => by
            rw [Tl.get_put, if_neg q] at h
            exact h
          by_cases q : e = b.length
          · by_cases q' : e' = b.length
            · rw [q, q']
            · simp only [if_pos q, if_neg q'] at z
              have := lt e' (f e' q' h2)
              omega
          · by_cases q' : e' = b.length
            · simp only [if_neg q, if_pos q'] at z
              have := lt e (f e q h1)
              omega
            · simp only [if_neg q, if_neg q'] at z
              exact ok.inj e e' (f e q h1) (f e' q' h2) z
      have sl : (Tl.step cs (b.length, 1)).length ≤ cs.length + 1 := by
        rw [st]
        unfold Tl.putN
        split <;> simp
      obtain ⟨A', rest', y4', cs', i1, i2, i3⟩ := loop_len n (D0 := D0) (x0 := x0) (x1 := x1) (x3 := x3) (x6 := x6) (x7 := x7) T all hT ev bs _ _ _ (some (rowD b)) (fun c hc => hb c (by simp [hc])) ok' (by omega) (fun e c' he => by
        rw [st, Tl.get_put] at he
        by_cases q : e = b.length
        · rw [if_pos q] at he; cases he; omega
        · rw [if_neg q] at he; have := hc e c' he; omega)
      refine ⟨A', rest', y4', cs', i1, i2, ?_⟩
      rw [List.map_cons, for0_cons, hg]
      simp only [eb, loop_nx]
      exact i3
end Q81

set_option Elab.async false
set_option linter.all false
set_option maxRecDepth 100000
set_option maxHeartbeats 1000000
namespace Q81
open PySem L2 PySem.Spec PyProof.Rows Zb Nm Bt
theorem sum_filter {α : Type} (p : α → Bool) : ∀ xs : List α, (xs.map fun r => if p r then 1 else 0).sum = (xs.filter p).length
  | [] => rfl
  | x :: xs => by
    rw [List.map_cons, List.sum_cons, sum_filter p xs, List.filter_cons]
    split <;> simp <;> omega
theorem keys_count {bs : List (List Nat)} (nd : bs.Nodup) (e : Nat) (hm : ∀ b, b.length = e → (b ∈ bs ↔ IsB b)) : Tl.wsum (bs.map fun b => (b.length, 1)) e = 2 ^ e := by
  rw [wsum_map, sum_filter]
  have p : (bs.filter fun b => decide (b.length = e)).Perm ((List.range (2 ^ e)).map fun x => bitsL x e) := by
    refine (List.perm_ext_iff_of_nodup (List.Pairwise.filter _ nd) (map_nodup _ _ List.nodup_range fun x hx y hy z => ?_)).mpr fun b => ?_
    · have := congrArg (fun b => nob b 0) z
      simp only [nob_bits] at this
      rw [Nat.mod_eq_of_lt (List.mem_range.mp hx), Nat.mod_eq_of_lt (List.mem_range.mp hy)] at this
      exact this
    · rw [List.mem_filter, decide_eq_true_eq, List.mem_map]
      constructor
      · rintro ⟨h1, h2⟩
        have hb := (hm b h2).mp h1
        refine ⟨nob b 0, List.mem_range.mpr (by rw [← h2]; exact nob_lt b hb), ?_⟩
        rw [← h2, bits_nob b hb]
      · rintro ⟨x, hx, rfl⟩
        exact ⟨(hm _ (bitsL_len x e)).mpr (bitsL_isB x e), bitsL_len x e⟩
  rw [p.length_eq]
  simp
theorem ints_rep (v : Nat) : ∀ c : Nat, intsOf (List.replicate c (nD v)) = some (List.replicate c (v : Int))
  | 0 => rfl
  | c + 1 => by
    rw [List.replicate_succ, List.replicate_succ]
    show (intsOf (List.replicate c (nD v))).map ((v : Int) :: ·) = _
    rw [ints_rep v c]
    rfl
theorem max_rep (v : Int) (c : Nat) (hc : 1 ≤ c) : maxI (List.replicate c v) = some v := maxI_of (List.mem_replicate.mpr ⟨by omega, rfl⟩) fun y hy => by rw [(List.mem_replicate.mp hy).2]; exact Int.le_refl _
theorem minI_of : ∀ {is : List Int} {m : Int}, m ∈ is → (∀ y ∈ is, m ≤ y) → minI is = some m := by
  intro is m h1 h2
  cases q : minI is with
  | none =>
    cases is with
    | nil => simp at h1
    | cons a r => simp only [minI] at q; split at q <;> cases q
  | some k =>
    obtain ⟨k1, k2⟩ := minI_spec q
    have := h2 k k1
    have := k2 m h1
    congr 1
    omega
theorem min_rep (v : Int) (c : Nat) (hc : 1 ≤ c) : minI (List.replicate c v) = some v := minI_of (List.mem_replicate.mpr ⟨by omega, rfl⟩) fun y hy => by rw [(List.mem_replicate.mp hy).2]; exact Int.le_refl _
theorem loop_ml {D0 : List D} {x0 x1 x2 x3 x4 : Option D} (v : Nat → Nat) (A : Nat → Nat) (cs : TN) (o0 : OB) (rest : Sto) (ok : ∀ e c, Tl.getN cs e = some c → (o0 :: .fct (lenD A cs) :: rest)[A e]? = some (.lst (List.replicate c (nD (v e))))) (hc : ∀ e c, Tl.getN cs e = some c → c = 2 ^ e) :
    ∀ (es : List Nat) (y6 y7 : Option D), (∀ e ∈ es, (Tl.getN cs e).isSome ∧ e ≤ 4000) → ∃ y6' y7', sForL ⟨D0, none⟩ (gN 6) b3_even_bits (es.map nD) [x0, x1, x2, x3, x4, some (.adr 1), y6, y7] (o0 :: .fct (lenD A cs) :: rest) = .nx [x0, x1, x2, x3, x4, some (.adr 1), y6', y7'] (o0 :: .fct (lenD A cs) :: rest)
  | [], y6, y7, _ => ⟨y6, y7, by rw [List.map_nil, for_nil _ _ _ _ (show (ItD.mk D0 none).ok _ from trivial)]⟩
  | e :: es, y6, y7, h => by
    obtain ⟨h1, h2⟩ := h e (by simp)
    obtain ⟨c, hcs⟩ := Option.isSome_iff_exists.mp h1
    have hg : gN 6 (nD e) (o0 :: .fct (lenD A cs) :: rest) [x0, x1, x2, x3, x4, some (.adr 1), y6, y7] = some [x0, x1, x2, x3, x4, some (.adr 1), some (nD e), y7] := rfl
    have vl := va_len A e cs
    rw [hcs] at vl
    have la := ok e c hcs
    have ce := hc e c hcs
    have kIe : (Sum.inl (e : Int) : Key) = kI e := rfl
    have s1 := shl1 h2
    have c1 : 1 ≤ c := by rw [ce]; exact Nat.two_pow_pos e
    have i1 := ints_rep (v e) c
    have m1 := max_rep (v e : Int) c c1
    have m2 := min_rep (v e : Int) c c1
    have ce' : (c : Int) = 2 ^ e := by rw [ce]; simp
    have eb : b3_even_bits [x0, x1, x2, x3, x4, some (.adr 1), some (nD e), y7] (o0 :: .fct (lenD A cs) :: rest) = .nx [x0, x1, x2, x3, x4, some (.adr 1), some (nD e), some (.adr (A e))] (o0 :: .fct (lenD A cs) :: rest) := by
      have lr : (List.replicate c (nD (v e))).length = c := List.length_replicate
      generalize lenD A cs = LD at *
      generalize List.replicate c (nD (v e)) = RP at *
      generalize A e = ae at *
      simp [b3_even_bits, vl, kIe, la, lr, s1, ce', i1, m1, m2]
    obtain ⟨y6', y7', ih⟩ := loop_ml (D0 := D0) (x0 := x0) (x1 := x1) (x2 := x2) (x3 := x3) (x4 := x4) v A cs o0 rest ok hc es (some (nD e)) (some (.adr (A e))) (fun c hc => h c (by simp [hc]))
    refine ⟨y6', y7', ?_⟩
    rw [List.map_cons, for0_cons, hg]
    simp only [eb, loop_nx]
    exact ih
end Q81

set_option Elab.async false
set_option linter.all false
set_option maxRecDepth 100000
set_option maxHeartbeats 1000000
namespace Q81
open PySem L2 PySem.Spec PyProof.Rows Zb Nm Bt
def allB (d : List Nat) (n : Nat) : TB := Tl.tally (psB d (rowsL d.length n))
def bsB (d : List Nat) (n : Nat) : List (List Nat) := (allB d n).map (·.1)
theorem psB_keys (d : List Nat) (R : List (List Nat)) : (psB d R).map (·.1) = R.map (rbits d) := by
  unfold psB
  rw [List.map_map]
  rfl
theorem bsB_mem {d : List Nat} (h : DieOk d) (n : Nat) (b : List Nat) : b ∈ bsB d n ↔ IsB b ∧ ∃ k, k ≤ n ∧ bt (sizeN d n k) b.length = 1 := by
  unfold bsB allB
  rw [Tl.tally_mem, psB_keys, bits_there h]
theorem bsB_nodup (d : List Nat) (n : Nat) : (bsB d n).Nodup := Tl.tally_nodup _
theorem getN_mem {κ : Type} [DecidableEq κ] (t : List (κ × Nat)) (k : κ) : (Tl.getN t k).isSome ↔ k ∈ t.map (·.1) := by
  constructor
  · intro h
    rcases Classical.em (k ∈ t.map (·.1)) with q | q
    · exact q
    · rw [Tl.get_none q] at h; cases h
  · intro h
    obtain ⟨p, hp, rfl⟩ := List.mem_map.mp h
    unfold Tl.getN
    rw [Option.isSome_map, List.find?_isSome]
    exact ⟨p, hp, decide_eq_true rfl⟩
theorem all_ev {d : List Nat} (h : DieOk d) (n : Nat) (b : List Nat) (hb : (Tl.getN (allB d n) b).isSome) : Tl.getN (allB d n) b = some (evN d n b.length) := by
  have hm := (getN_mem _ _).mp hb
  have hi := ((bsB_mem h n b).mp hm).1
  unfold allB at hm ⊢
  rw [Tl.tally_get, if_pos ((Tl.tally_mem _ _).mp hm)]
  congr 1
  exact wsum_bits h n b hi
theorem bsB_len (d : List Nat) (n : Nat) : (bsB d n).length ≤ d.length ^ n := by
  unfold bsB allB
  rw [List.length_map]
  have := tally_len (psB d (rowsL d.length n))
  unfold psB at *
  rw [List.length_map, rowsL_len] at this
  exact this
theorem bsB_le {d : List Nat} (h : DieOk d) (n : Nat) (hn : n ≤ 400) {b : List Nat} (hb : b ∈ bsB d n) : b.length ≤ 4000 := by
  obtain ⟨_, k, hk, hbt⟩ := (bsB_mem h n b).mp hb
  exact stch_le (bd_sz h n k hk hn) (mem_stch.mpr hbt)
theorem keysT_all (t : TB) : keysT (Tl.mapD kB t) = (t.map (·.1)).map rowD := by
  unfold keysT Tl.mapD
  rw [List.map_map, List.map_map]
  apply List.map_congr_left
  intro p _
  simp only [Function.comp, kB, rowD, List.map_map]
  rfl
theorem keysK_len (A : Nat → Nat) (cs : TN) : keysK (lenD A cs) = (cs.map (·.1)).map nD := by
  unfold keysK lenD
  rw [List.map_map, List.map_map]
  rfl
theorem run_even {d : List Nat} (h : DieOk d) (n : Nat) (hn : n ≤ 400) (hb : ∀ j ≤ n, d.length ^ j ≤ 1000) : ∃ junk : Sto, runB 8 den_even_bits [dieD d, nD n] [] = .ok (.bl true) junk := by
  have c1 := fun l => call_all h n hn hb l
  have hbn := hb n (Nat.le_refl _)
  obtain ⟨y3, y4, e1⟩ := loop_eb h (D0 := (rowsL d.length n).map rowD) (x1 := some (nD n)) (x5 := none) (x6 := none) (x7 := none) (junk := []) (rowsL d.length n) [] none none (fun r hr => by
    obtain ⟨h1, h2⟩ := rowsL_row _ _ r hr
    exact ⟨h2, by omega⟩) (by rw [rowsL_len]; simp; omega)
  rw [List.nil_append] at e1
  have ea : Tl.tally (psB d (rowsL d.length n)) = allB d n := rfl
  rw [ea] at e1
  have t0 : Tl.mapD kB (Tl.tally ([] : TB)) = [] := rfl
  rw [t0] at e1
  have kT := keysT_all (allB d n)
  have bl := bsB_len d n
  obtain ⟨A, rest, y4', cs, i1, ok, e2⟩ := loop_len n (D0 := (bsB d n).map rowD) (x0 := some (dieD d)) (x1 := some (nD n)) (x3 := y3) (x6 := none) (x7 := none) (Tl.mapD kB (allB d n)) (allB d n) rfl (all_ev h n) (bsB d n) [] (fun _ => 0) [] y4 (fun b hb => ⟨(getN_mem _ _).mpr hb, bsB_le h n hn hb⟩) ⟨(fun e c he => by cases he), (fun e e' h1 _ _ => by cases h1)⟩ (by simp; omega) (fun e c he => by cases he)
  have l0 : lenD (fun _ => 0) [] = [] := rfl
  rw [l0] at e2
  have hcs : cs = Tl.tally ((bsB d n).map fun b => (b.length, 1)) := i1
  have kcs : ∀ e c, Tl.getN cs e = some c → c = 2 ^ e ∧ e ≤ 4000 := fun e c he => by
    rw [hcs, Tl.tally_get] at he
    split at he
    · rename_i hm
      obtain ⟨p, hp, hpe⟩ := List.mem_map.mp hm
      obtain ⟨b, hb1, rfl⟩ := List.mem_map.mp hp
      simp only at hpe
      obtain ⟨_, k, hk, hbt⟩ := (bsB_mem h n b).mp hb1
      cases he
      refine ⟨keys_count (bsB_nodup d n) e fun b' hb' => ?_, by rw [← hpe]; exact bsB_le h n hn hb1⟩
      rw [bsB_mem h n]
      exact ⟨fun z => z.1, fun z => ⟨z, k, hk, by rw [hb', ← hpe]; exact hbt⟩⟩
    · cases he
  have kK := keysK_len A cs
  obtain ⟨y6, y7, e3⟩ := loop_ml (D0 := (cs.map (·.1)).map nD) (x0 := some (dieD d)) (x1 := some (nD n)) (x2 := some (.adr 0)) (x3 := y3) (x4 := y4') (evN d n) A cs (.dtt (Tl.mapD kB (allB d n))) rest (fun e c he => by
    obtain ⟨k1, k2⟩ := ok.at_ e c he
    obtain ⟨a, ha⟩ : ∃ a, A e = a + 2 := ⟨A e - 2, by omega⟩
    rw [ha] at k1 ⊢
    simpa using k1) (fun e c he => (kcs e c he).1) (cs.map (·.1)) none none (fun e he => by
    have hs := (getN_mem cs e).mpr he
    obtain ⟨c, hc⟩ := Option.isSome_iff_exists.mp hs
    exact ⟨hs, (kcs e c hc).2⟩)
  refine ⟨.dtt (Tl.mapD kB (allB d n)) :: .dct (lenD A cs) :: rest, ?_⟩
  have bs0 : (allB d n).map (·.1) = bsB d n := rfl
  rw [bs0] at kT
  generalize Tl.mapD kB (allB d n) = T at *
  generalize lenD A cs = LD at *
  generalize (bsB d n).map rowD = BR at *
  generalize (cs.map (·.1)).map nD = CR at *
  generalize (rowsL d.length n).map rowD = RR at *
  simp only [dieD] at *
  simp [den_even_bits, c1, e1, e2, e3, kT, kK]
theorem call_even {d : List Nat} (h : DieOk d) (n : Nat) (hn : n ≤ 400) (hb : ∀ j ≤ n, d.length ^ j ≤ 1000) (l : Sto) : m_even_bits [dieD d, nD n] l = .ok (.bl true) l := by
  obtain ⟨junk, e⟩ := run_even h n hn hb
  exact callM_p (by simp) e (by simp)
end Q81

set_option Elab.async false
set_option linter.all false
set_option maxRecDepth 100000
set_option maxHeartbeats 1000000
namespace Q81
open PySem L2 PySem.Spec PyProof.Rows Zb Nm Bt
/-! ### _law_all -/
def psL (d : List Nat) (R : List (List Nat)) : TN := R.map fun r => ((rbits d r).length, massF d r)
theorem okA (all : List D) (rest : Sto) : (ItD.mk all (some 0)).ok (.lst all :: rest) := rfl
theorem loop_la {d : List Nat} (h : DieOk d) {x1 x2 x7 : Option D} (all : List D) {junk : Sto} : ∀ (R : List (List Nat)) (pl : TN) (pb : TB) (y5 y6 : Option D), (∀ r ∈ R, RowOk d r) → pl.length + R.length ≤ 10000 → pb.length + R.length ≤ 10000 →
    ∃ y5' y6', sForL ⟨all, some 0⟩ (gN 5) b1__law_all (R.map rowD) [some (dieD d), x1, x2, some (.adr 1), some (.adr 2), y5, y6, x7] (.lst all :: .dct (Tl.mapD kI (Tl.tally pl)) :: .dtt (Tl.mapD kB (Tl.tally pb)) :: junk) = .nx [some (dieD d), x1, x2, some (.adr 1), some (.adr 2), y5', y6', x7] (.lst all :: .dct (Tl.mapD kI (Tl.tally (pl ++ psL d R))) :: .dtt (Tl.mapD kB (Tl.tally (pb ++ psB d R))) :: junk)
  | [], pl, pb, y5, y6, _, _, _ => ⟨y5, y6, by rw [List.map_nil, for_nil _ _ _ _ (okA all _)]; simp [psL, psB]⟩
  | r :: R, pl, pb, y5, y6, hr, hl, hl2 => by
    have hr0 := hr r (by simp)
    simp only [List.length_cons] at hl hl2
    have hg : gN 5 (rowD r) (.lst all :: .dct (Tl.mapD kI (Tl.tally pl)) :: .dtt (Tl.mapD kB (Tl.tally pb)) :: junk) [some (dieD d), x1, x2, some (.adr 1), some (.adr 2), y5, y6, x7] = some [some (dieD d), x1, x2, some (.adr 1), some (.adr 2), some (rowD r), y6, x7] := rfl
    have c1 := fun l => call_rbits h hr0 l
    have c2 := fun l => call_lbits h hr0 l
    have c3 := fun l => call_lmass h hr0 l
    have rl := rbits_len h hr0
    have s1 := fun l => call_same (rowD (rbits d r)) (pl_row _) (by rw [w_row]; omega) l
    have kd := keysD_row (rbits d r)
    have gd := Tl.get_mapD kB_inj (Tl.tally pb) (rbits d r)
    have gl := Tl.get_mapD kI_inj (Tl.tally pl) (rbits d r).length
    have tl := tally_len pl
    have tb := tally_len pb
    have sm : (Tl.mapD kI (Tl.tally pl)).length ≤ 16777215 := by rw [Tl.mapD_len]; omega
    have sm2 : (Tl.mapD kB (Tl.tally pb)).length ≤ 16777215 := by rw [Tl.mapD_len]; omega
    have kIe : (Sum.inl ((rbits d r).length : Int) : Key) = kI (rbits d r).length := rfl
    have eb : b1__law_all [some (dieD d), x1, x2, some (.adr 1), some (.adr 2), some (rowD r), y6, x7] (.lst all :: .dct (Tl.mapD kI (Tl.tally pl)) :: .dtt (Tl.mapD kB (Tl.tally pb)) :: junk) = .nx [some (dieD d), x1, x2, some (.adr 1), some (.adr 2), some (rowD r), some (rowD (rbits d r)), x7] (.lst all :: .dct (Tl.mapD kI (Tl.tally (pl ++ [((rbits d r).length, massF d r)]))) :: .dtt (Tl.mapD kB (Tl.tally (pb ++ [(rbits d r, massF d r)]))) :: junk) := by
      rw [Tl.tally_snoc, Tl.tally_snoc]
      unfold Tl.step
      rw [← Tl.put_mapD kB_inj, ← Tl.put_mapD kI_inj]
      generalize Tl.mapD kB (Tl.tally pb) = T at *
      generalize Tl.mapD kI (Tl.tally pl) = TL at *
      generalize Tl.getN (Tl.tally pb) = G at *
      generalize Tl.getN (Tl.tally pl) = GL at *
      generalize rbits d r = B at *
      generalize massF d r = M at *
      simp only [rowD, dieD] at *
      simp [b1__law_all, c1, c2, c3, s1, kd, gd, gl, kIe, sm, sm2]
    obtain ⟨y5', y6', ih⟩ := loop_la h (x1 := x1) (x2 := x2) (x7 := x7) all (junk := junk) R (pl ++ [((rbits d r).length, massF d r)]) (pb ++ [(rbits d r, massF d r)]) (some (rowD r)) (some (rowD (rbits d r))) (fun s hs => hr s (by simp [hs])) (by simp; omega) (by simp; omega)
    refine ⟨y5', y6', ?_⟩
    rw [List.map_cons, for_cons _ _ _ _ _ _ (okA all _), hg]
    simp only [eb, loop_nx]
    rw [ih]
    simp [psB, psL]
def allL (d : List Nat) (n : Nat) : TN := Tl.tally (psL d (rowsL d.length n))
theorem allL_mem {d : List Nat} (h : DieOk d) (n e : Nat) : e ∈ (allL d n).map (·.1) ↔ ∃ k, k ≤ n ∧ bt (sizeN d n k) e = 1 := by
  unfold allL
  rw [Tl.tally_mem]
  have e1 : (psL d (rowsL d.length n)).map (·.1) = ((rowsL d.length n).map (rbits d)).map List.length := by
    unfold psL
    rw [List.map_map, List.map_map]
    rfl
  rw [e1, List.mem_map]
  constructor
  · rintro ⟨b, hb, rfl⟩
    exact ((bits_there h n b).mp hb).2
  · rintro ⟨k, hk, hb⟩
    refine ⟨bitsL 0 e, (bits_there h n _).mpr ⟨bitsL_isB 0 e, k, hk, by rw [bitsL_len]; exact hb⟩, bitsL_len 0 e⟩
theorem allL_get {d : List Nat} (h : DieOk d) (n e : Nat) : (Tl.getN (allL d n) e).getD 0 = cntE d n e := by
  have hw := wsum_len h n e
  unfold allL
  rw [Tl.tally_get]
  split
  · exact hw
  · rename_i hm
    have : Tl.wsum (psL d (rowsL d.length n)) e = 0 := by
      unfold Tl.wsum
      rw [List.filter_eq_nil_iff.mpr]
      · rfl
      · intro a ha
        simp only [decide_eq_true_eq]
        intro z
        exact hm (List.mem_map.mpr ⟨a, ha, z⟩)
    show 0 = cntE d n e
    rw [← hw]
    exact this.symm
theorem keyInts_mapD : ∀ t : TN, keyInts (Tl.mapD kI t) = some (t.map fun p => (p.1 : Int))
  | [] => rfl
  | p :: t => by
    show (keyInts (Tl.mapD kI t)).map ((p.1 : Int) :: ·) = _
    rw [keyInts_mapD t]
    rfl
theorem max_allL {d : List Nat} (h : DieOk d) (n : Nat) : (keyInts (Tl.mapD kI (allL d n))).bind maxI = some ((mxB d n : Int) - 1) := by
  rw [keyInts_mapD]
  have hpos := (max_keys h n).2
  show maxI _ = _
  apply maxI_of
  · have hm := mxl_mem (as := (List.range (n + 1)).map fun k => bl (sizeN d n k)) (by unfold mxB at hpos; omega)
    obtain ⟨kd, h1, h2⟩ := List.mem_map.mp hm
    have h3 : mxB d n = bl (sizeN d n kd) := h2.symm
    have hk : mxB d n - 1 ∈ (allL d n).map (·.1) := (allL_mem h n _).mpr ⟨kd, by have := List.mem_range.mp h1; omega, by rw [h3]; exact top_bit (by rw [← h3]; omega)⟩
    obtain ⟨p, hp, hpe⟩ := List.mem_map.mp hk
    refine List.mem_map.mpr ⟨p, hp, ?_⟩
    rw [hpe]
    omega
  · intro y hy
    obtain ⟨p, hp, rfl⟩ := List.mem_map.mp hy
    obtain ⟨k, hk, hb⟩ := (allL_mem h n p.1).mp (List.mem_map.mpr ⟨p, hp, rfl⟩)
    have h3 := bt_bl hb
    have h4 := mxl_ge (List.mem_map.mpr ⟨k, List.mem_range.mpr (by omega), rfl⟩ : bl (sizeN d n k) ∈ (List.range (n + 1)).map fun k => bl (sizeN d n k))
    unfold mxB
    omega
theorem lc_la {d : List Nat} (h : DieOk d) (n : Nat) (hn : n ≤ 400) {x0 x1 x2 x4 x5 x6 : Option D} (o0 : OB) (junk : Sto) : lcL ⟨rng 0 (mxB d n), none⟩ (gN 7) dYes e2__law_all [x0, x1, x2, some (.adr 1), x4, x5, x6, none] (rng 0 (mxB d n)) (o0 :: .dct (Tl.mapD kI (allL d n)) :: junk) [] = .ok (cntD d n) (o0 :: .dct (Tl.mapD kI (allL d n)) :: junk) := by
  have hM := mxB_le h n hn
  conv => lhs; arg 6; rw [rng_eq]
  rw [lcL_fmap (by trivial) (fun i => nD i) (fun e => nD (cntE d n e)) (fun _ => true) _ _ (fun e he => ?_) (by simp; omega)]
  · rw [List.filter_eq_self.mpr (fun _ _ => rfl)]
    rfl
  · have gd := Tl.get_mapD kI_inj (allL d n) e
    rw [allL_get h] at gd
    have kIe : (Sum.inl (e : Int) : Key) = kI e := rfl
    refine ⟨[x0, x1, x2, some (.adr 1), x4, x5, x6, some (nD e)], rfl, rfl, fun _ => ?_⟩
    generalize Tl.mapD kI (allL d n) = TD at *
    generalize cntE d n e = ce at *
    simp [e2__law_all, kIe, gd]
theorem loop_sums {d : List Nat} (h : DieOk d) (n : Nat) (hn : n ≤ 400) {D0 : List D} {x0 x1 x2 x5 x7 : Option D} (o0 : OB) (junk : Sto) : ∀ (bs : List (List Nat)) (y6 : Option D), (∀ b ∈ bs, b ∈ bsB d n) →
    ∃ y6', sForL ⟨D0, none⟩ (gN 6) b3__law_all (bs.map rowD) [x0, x1, x2, some (.adr 1), some (.adr 2), x5, y6, x7] (o0 :: .dct (Tl.mapD kI (allL d n)) :: .ftt (Tl.mapD kB (allB d n)) :: junk) = .nx [x0, x1, x2, some (.adr 1), some (.adr 2), x5, y6', x7] (o0 :: .dct (Tl.mapD kI (allL d n)) :: .ftt (Tl.mapD kB (allB d n)) :: junk)
  | [], y6, _ => ⟨y6, by rw [List.map_nil, for_nil _ _ _ _ (show (ItD.mk D0 none).ok _ from trivial)]⟩
  | b :: bs, y6, hb => by
    have hb0 := hb b (by simp)
    have hg : gN 6 (rowD b) (o0 :: .dct (Tl.mapD kI (allL d n)) :: .ftt (Tl.mapD kB (allB d n)) :: junk) [x0, x1, x2, some (.adr 1), some (.adr 2), x5, y6, x7] = some [x0, x1, x2, some (.adr 1), some (.adr 2), x5, some (rowD b), x7] := rfl
    have kd := keysD_row b
    have hv : vaD (Tl.mapD kB (allB d n)) (kB b) = some (nD (evN d n b.length)) := by rw [Tl.va_mapD kB_inj, all_ev h n b ((getN_mem _ _).mpr hb0)]; rfl
    obtain ⟨_, k, hk, hbt⟩ := (bsB_mem h n b).mp hb0
    have hlm : b.length ∈ (allL d n).map (·.1) := (allL_mem h n _).mpr ⟨k, hk, hbt⟩
    have hlv : vaD (Tl.mapD kI (allL d n)) (kI b.length) = some (nD (cntE d n b.length)) := by
      rw [Tl.va_mapD kI_inj]
      obtain ⟨c, hc⟩ := Option.isSome_iff_exists.mp ((getN_mem _ _).mpr hlm)
      have := allL_get h n b.length
      rw [hc] at this ⊢
      simp only [Option.getD_some] at this
      rw [this]
      rfl
    have kIe : (Sum.inl (b.length : Int) : Key) = kI b.length := rfl
    have hle := bsB_le h n hn hb0
    have hmx : b.length < mxB d n := by
      have h3 := bt_bl hbt
      have h4 := mxl_ge (List.mem_map.mpr ⟨k, List.mem_range.mpr (by omega), rfl⟩ : bl (sizeN d n k) ∈ (List.range (n + 1)).map fun k => bl (sizeN d n k))
      unfold mxB
      omega
    have ec := ev_cnt d n b.length
    have evb : Bd (evN d n b.length : Int) (5 * n + 1) := Bd.nat (by
      have := cnt_lt h n b.length hmx
      rw [← ec] at this
      exact Nat.lt_of_le_of_lt (Nat.le_mul_of_pos_right _ (Nat.two_pow_pos _)) this)
    have sh := shl_m evb (by omega) hle
    have ec' : (evN d n b.length : Int) * 2 ^ b.length = (cntE d n b.length : Int) := by rw [← ec]; simp
    have eb : b3__law_all [x0, x1, x2, some (.adr 1), some (.adr 2), x5, some (rowD b), x7] (o0 :: .dct (Tl.mapD kI (allL d n)) :: .ftt (Tl.mapD kB (allB d n)) :: junk) = .nx [x0, x1, x2, some (.adr 1), some (.adr 2), x5, some (rowD b), x7] (o0 :: .dct (Tl.mapD kI (allL d n)) :: .ftt (Tl.mapD kB (allB d n)) :: junk) := by
      generalize Tl.mapD kI (allL d n) = TD at *
      generalize Tl.mapD kB (allB d n) = TT at *
      generalize cntE d n b.length = ce at *
      generalize evN d n b.length = ve at *
      simp only [rowD] at *
      simp [b3__law_all, kd, hv, hlv, kIe, sh, ec']
    obtain ⟨y6', ih⟩ := loop_sums h n hn (D0 := D0) (x0 := x0) (x1 := x1) (x2 := x2) (x5 := x5) (x7 := x7) o0 junk bs (some (rowD b)) (fun c hc => hb c (by simp [hc]))
    refine ⟨y6', ?_⟩
    rw [List.map_cons, for0_cons, hg]
    simp only [eb, loop_nx]
    exact ih
end Q81

set_option Elab.async false
set_option linter.all false
set_option maxRecDepth 100000
set_option maxHeartbeats 1000000
namespace Q81
open PySem L2 PySem.Spec PyProof.Rows Zb Nm Bt
theorem py_lay : ∀ ns : List Nat, PyData.canLayAll0 (pys (ns.map nD)) = true
  | [] => rfl
  | n :: ns => by simp [pys, py, PyData.canLayAll0, PyData.canLay0, py_lay ns]
theorem py_dep : ∀ ns : List Nat, PyData.depthAll (pys (ns.map nD)) ≤ 1
  | [] => by simp [pys, PyData.depthAll]
  | n :: ns => by
    have := py_dep ns
    simp [pys, py, PyData.depthAll, PyData.depth]
    omega
theorem hNe_nums (ns : List Nat) (l : Sto) : hNe (.tup (ns.map nD)) (.tup (ns.map nD)) l = .ok (.bl false) l := by
  have h1 := py_lay ns
  have h2 := py_dep ns
  have h3 : PyData.canLay0 (.tuple (pys (ns.map nD))) = true := by simpa [PyData.canLay0] using h1
  have h4 := SeqAt.eqv_refl _ h3
  have h5 : sh (.tup (ns.map nD)) = true := by
    unfold sh
    simp only [pu, pus_nD, Bool.true_and, py]
    simp [SeqAt.shaped, h3, PyData.depth]
    omega
  rw [hNe_tup, h5]
  simp [py, h4]
theorem rows_pl (R : List (List Nat)) (n : Nat) (h : ∀ r ∈ R, r.length = n) : plDs (R.map rowD) = true ∧ wDs (R.map rowD) = R.length * (n + 1) := by
  induction R with
  | nil => simp [plDs, wDs]
  | cons r R ih =>
    obtain ⟨i1, i2⟩ := ih fun s hs => h s (by simp [hs])
    have := h r (by simp)
    simp only [List.map_cons, plDs, wDs, i1, i2, pl_row, w_row, this, List.length_cons, Nat.add_mul, Bool.and_self, true_and]
    omega
theorem run_lall {d : List Nat} (h : DieOk d) (n : Nat) (hn : n ≤ 400) (hb : ∀ j ≤ n, d.length ^ j ≤ 1000) : ∃ junk : Sto, runB 8 den__law_all [dieD d, nD n] [] = .ok (.bl true) junk := by
  have hbn := hb n (Nat.le_refl _)
  have hM := mxB_le h n hn
  have c1 := fun l => call_lrows h n hn hb l
  have c2 := fun l => call_all h n hn hb l
  have c3 := fun l => call_even h n hn hb l
  have c4 := fun l => call_counts h n hn l
  have c5 := fun l => call_counted h n hn l
  obtain ⟨p1, p2⟩ := rows_pl (rowsL d.length n) n fun r hr => (rowsL_row _ _ r hr).1
  have lenR := rowsL_len d.length n
  have s1 := fun l => call_same (.tup [.tup ((rowsL d.length n).map rowD), .bl true]) (by simp [plD, plDs, p1]) (by
    simp only [wD, wDs, p2, lenR]
    have := Nat.mul_le_mul hbn (show n + 1 ≤ 401 by omega)
    omega) l
  obtain ⟨y5, y6, e1⟩ := loop_la h (x1 := some (nD n)) (x2 := some (.adr 0)) (x7 := none) ((rowsL d.length n).map rowD) (junk := []) (rowsL d.length n) [] [] none none (fun r hr => by
    obtain ⟨h1, h2⟩ := rowsL_row _ _ r hr
    exact ⟨h2, by omega⟩) (by rw [lenR]; simp; omega) (by rw [lenR]; simp; omega)
  rw [List.nil_append, List.nil_append] at e1
  have ea : Tl.tally (psB d (rowsL d.length n)) = allB d n := rfl
  have el : Tl.tally (psL d (rowsL d.length n)) = allL d n := rfl
  rw [ea, el] at e1
  have t0 : Tl.mapD kB (Tl.tally ([] : TB)) = [] := rfl
  have t1 : Tl.mapD kI (Tl.tally ([] : TN)) = [] := rfl
  rw [t0, t1] at e1
  have mk := max_allL h n
  have lc := lc_la h n hn (x0 := some (dieD d)) (x1 := some (nD n)) (x2 := some (.adr 0)) (x4 := some (.adr 2)) (x5 := y5) (x6 := y6) (.lst ((rowsL d.length n).map rowD)) [.dtt (Tl.mapD kB (allB d n))]
  have kT := keysT_all (allB d n)
  have bs0 : (allB d n).map (·.1) = bsB d n := rfl
  rw [bs0] at kT
  obtain ⟨y6', e2⟩ := loop_sums h n hn (D0 := (bsB d n).map rowD) (x0 := some (dieD d)) (x1 := some (nD n)) (x2 := some (.adr 0)) (x5 := y5) (x7 := none) (.lst ((rowsL d.length n).map rowD)) [.lst (cntD d n), .lst (cntD d n)] (bsB d n) y6 (fun b hb => hb)
  have hne := fun l => hNe_nums ((List.range (mxB d n)).map (cntE d n)) l
  rw [← cntD_row] at hne
  have hm : mid (mxB d n : Int) = true := by rw [mid_nat]; simp; omega
  refine ⟨[.lst ((rowsL d.length n).map rowD), .dct (Tl.mapD kI (allL d n)), .dtt (Tl.mapD kB (allB d n)), .lst (cntD d n), .lst (cntD d n)], ?_⟩
  generalize Tl.mapD kB (allB d n) = T at *
  generalize Tl.mapD kI (allL d n) = TL at *
  generalize (bsB d n).map rowD = BR at *
  generalize (rowsL d.length n).map rowD = RR at *
  generalize cntD d n = CD at *
  generalize mxB d n = M at *
  simp only [dieD] at *
  simp [den__law_all, c1, c2, c3, c4, c5, s1, e1, e2, mk, lc, hne, kT, hm, -hNe_tup]
theorem call_lall {d : List Nat} (h : DieOk d) (n : Nat) (hn : n ≤ 400) (hb : ∀ j ≤ n, d.length ^ j ≤ 1000) (l : Sto) : m__law_all [dieD d, nD n] l = .ok (.bl true) l := by
  obtain ⟨junk, e⟩ := run_lall h n hn hb
  exact callM_p (by simp) e (by simp)
end Q81

set_option Elab.async false
set_option linter.all false
set_option maxRecDepth 100000
set_option maxHeartbeats 1000000
namespace Q81
open PySem L2 PySem.Spec PyProof.Rows Zb Nm Bt
theorem size_le {d : List Nat} (h : DieOk d) (n k : Nat) (hk : k ≤ n) : sizeN d n k ≤ d.length ^ n := by
  have e := rows_sum h n (fun _ _ => 1)
  have e1 : ((rowsL d.length n).map fun r => (fun _ _ => 1) (kindF d r) (numN d r)).sum = d.length ^ n := by
    rw [← rowsL_len d.length n]
    induction rowsL d.length n with
    | nil => rfl
    | cons r R ih => simp at ih ⊢; omega
  have e2 : ∀ k, ((List.range (sizeN d n k)).map fun x => (fun _ _ => 1) k x).sum = sizeN d n k := fun k => by
    generalize sizeN d n k = S
    induction S with
    | zero => rfl
    | succ S ih => rw [Bin.sum_range_succ, ih]
  rw [e1] at e
  have : ((List.range (n + 1)).map fun k => ((List.range (sizeN d n k)).map fun x => (fun _ _ => 1) k x).sum) = (List.range (n + 1)).map (sizeN d n) := List.map_congr_left fun k _ => e2 k
  rw [this] at e
  rw [e]
  exact le_sum (List.mem_map.mpr ⟨k, List.mem_range.mpr (by omega), rfl⟩)
theorem lc_due {d : List Nat} (h : DieOk d) (n k : Nat) (hk : k ≤ n) (hn : n ≤ 400) (hs : sizeN d n k ≤ 10000) {x0 x1 x5 x6 x7 : Option D} (s : Option Nat) (l : Sto) (hok : (ItD.mk (rng 0 (sizeN d n k)) s).ok l) : lcL ⟨rng 0 (sizeN d n k), s⟩ (gN 8) dYes e1_law [x0, x1, some (dieD d), some (nD n), some (nD k), x5, x6, x7, none] (rng 0 (sizeN d n k)) l [] = .ok (kindRows d n k) l := by
  conv => lhs; arg 6; rw [rng_eq]
  rw [lcL_fmap hok (fun i => nD i) (fun x => rowD (rowN d n k x)) (fun _ => true) _ _ (fun x hx => ?_) (by simp; omega)]
  · rw [List.filter_eq_self.mpr (fun _ _ => rfl)]
    rfl
  · have c1 := fun l => call_lrow h (n := n) (k := k) (x := x) (x : Int) rfl hn (List.mem_range.mp hx) hk l
    exact ⟨[x0, x1, some (dieD d), some (nD n), some (nD k), x5, x6, x7, some (nD x)], rfl, rfl, fun _ => by simp [e1_law, c1]⟩
theorem laps {d : List Nat} (h : DieOk d) (x0 x3 x4 x5 : Option D) {J : Jug} (hJ : JOk J) (junk : Sto) :
    ∃ (J' : Jug) (x6 : Option D) (junk' : Sto), JOk J' ∧ sForL ⟨rng 0 3, none⟩ (gN 6) b2_law (rng 0 3) [x0, some (.adr 0), some (dieD d), x3, x4, x5, none, none, none] (ob J :: J.gob :: junk) = .nx [x0, some (.adr 0), some (dieD d), x3, x4, x5, x6, none, none] (ob J' :: J'.gob :: junk') := by
  obtain ⟨g', l', e2, e3⟩ := for_inv (it := ⟨rng 0 3, none⟩) (gt := gN 6) (b := b2_law) (fun j g l => ∃ (J' : Jug) (x6 : Option D) (junk : Sto), JOk J' ∧ g = [x0, some (.adr 0), some (dieD d), x3, x4, x5, x6, none, none] ∧ l = ob J' :: J'.gob :: junk)
      (fun _ _ _ _ => trivial) (rng 0 3) 0 [x0, some (.adr 0), some (dieD d), x3, x4, x5, none, none, none] (ob J :: J.gob :: junk) ⟨J, none, junk, hJ, rfl, rfl⟩ (by
        rintro j e g l hj ⟨J', x6, junk, hJ', rfl, rfl⟩
        obtain ⟨hjl, he⟩ := rng_get hj
        have hd : e = nD j := by rw [he]; simp
        subst hd
        obtain ⟨T, hT1, hT2, hT3⟩ : ∃ T : Nat, ([D.int 9, .int 20, .int 40] : List D)[j]? = some (nD T) ∧ 1 ≤ T ∧ T ≤ 40 := by
          match j, hjl with
          | 0, _ => exact ⟨9, rfl, by decide, by decide⟩
          | 1, _ => exact ⟨20, rfl, by decide, by decide⟩
          | 2, _ => exact ⟨40, rfl, by decide, by decide⟩
        obtain ⟨n, J2, hn, hJ2, e2⟩ := pour hJ' T (T : Int) rfl hT2 (by omega)
        obtain ⟨fs, J3, hf, hfl, hJ3, e3⟩ := facesJ hJ2 h n (n : Int) rfl (by omega)
        obtain ⟨J4, hJ4, e4⟩ := rightJ hJ3 h hf
        refine ⟨[x0, some (.adr 0), some (dieD d), x3, x4, x5, some (nD j), none, none], rfl, ?_⟩
        have go : b2_law [x0, some (.adr 0), some (dieD d), x3, x4, x5, some (nD j), none, none] (ob J' :: J'.gob :: junk) = .nx [x0, some (.adr 0), some (dieD d), x3, x4, x5, some (nD j), none, none] (ob J4 :: J4.gob :: (junk ++ [.lst [.int 9, .int 20, .int 40]])) := by
          simp only [dieD, rowD] at *
          simp [b2_law, hT1, e2, e3, e4]
        rw [go]
        exact ⟨J4, _, _, hJ4, rfl, rfl⟩)
  obtain ⟨J', x6, junk', hJ', rfl, rfl⟩ := e3
  exact ⟨J', x6, junk', hJ', e2⟩
def d1 : List Nat := [1, 2]
theorem d1_ok : DieOk d1 := ⟨by decide, by decide, by decide, 2, by decide⟩
theorem run_law (ns : List Int) (hns : ns.length ≤ 63) : ∃ L : Sto, runB 9 den_law [.ro ns] [] = .ok (.bl true) L := by
  obtain ⟨J, hJ, e1⟩ := call_jug ns hns
  obtain ⟨d, J1, h, hJ1, e2⟩ := dieJ hJ
  have lo := h.lo
  have hi5 := h.hi
  obtain ⟨T, hT1, hT2, hT3, hpw⟩ : ∃ T : Nat, (atI ([D.int 8, .int 5, .int 4, .int 4] : List D) ((d.length : Int) - 2)) = some (nD T) ∧ 1 ≤ T ∧ T ≤ 8 ∧ ∀ n, n < T → ∀ j ≤ n, d.length ^ j ≤ 1000 := by
    have mono : ∀ m a b : Nat, 1 ≤ m → a ≤ b → m ^ a ≤ m ^ b := fun m a b hm hab => Nat.pow_le_pow_right hm hab
    rcases (show d.length = 2 ∨ d.length = 3 ∨ d.length = 4 ∨ d.length = 5 by omega) with q | q | q | q
    · rw [q]
      exact ⟨8, rfl, by decide, by decide, fun n hn j hj => Nat.le_trans (mono 2 j 7 (by decide) (by omega)) (by decide)⟩
    · rw [q]
      exact ⟨5, rfl, by decide, by decide, fun n hn j hj => Nat.le_trans (mono 3 j 4 (by decide) (by omega)) (by decide)⟩
    · rw [q]
      exact ⟨4, rfl, by decide, by decide, fun n hn j hj => Nat.le_trans (mono 4 j 3 (by decide) (by omega)) (by decide)⟩
    · rw [q]
      exact ⟨4, rfl, by decide, by decide, fun n hn j hj => Nat.le_trans (mono 5 j 3 (by decide) (by omega)) (by decide)⟩
  obtain ⟨n, J2, hn, hJ2, e3⟩ := pour hJ1 T (T : Int) rfl hT2 (by omega)
  have hb := hpw n hn
  have c1 := fun l => call_lall h n (by omega) hb l
  obtain ⟨k, J3, hk, hJ3, e4⟩ := pour hJ2 (n + 1) ((n : Int) + 1) (by simp) (by omega) (by omega)
  have hs : sizeN d n k ≤ 1000 := Nat.le_trans (size_le h n k (by omega)) (hb n (Nat.le_refl _))
  have c2 := fun l => call_lsizeI h n k (n : Int) (k : Int) rfl rfl (by omega) (by omega) l
  have lc := lc_due h n k (by omega) (by omega) (by omega) (x0 := some (.ro ns)) (x1 := some (.adr 0)) (x5 := none) (x6 := none) (x7 := none) (some 3) [ob J3, J3.gob, .lst [.int 8, .int 5, .int 4, .int 4], .lst (rng 0 (sizeN d n k))] rfl
  have c3 := fun l => call_rok h n k (by omega) (by omega) (by omega) l
  have kr : kindRows d n k = ((List.range (sizeN d n k)).map (rowN d n k)).map rowD := by unfold kindRows; rw [List.map_map]; rfl
  obtain ⟨p1, p2⟩ := rows_pl ((List.range (sizeN d n k)).map (rowN d n k)) n (fun r hr => by
    obtain ⟨x, hx, rfl⟩ := List.mem_map.mp hr
    exact rowN_len h (List.mem_range.mp hx))
  rw [← kr] at p1 p2
  have s1 := fun l => call_same (.tup (kindRows d n k)) (by simp only [plD]; exact p1) (by
    simp only [wD]
    rw [p2, List.length_map, List.length_range]
    have := Nat.mul_le_mul hs (show n + 1 ≤ 9 by omega)
    omega) l
  obtain ⟨J4, x6, junk, hJ4, e5⟩ := laps h (some (.ro ns)) (some (nD n)) (some (nD k)) (some (.tup (kindRows d n k))) hJ3 [.lst [.int 8, .int 5, .int 4, .int 4], .lst (rng 0 (sizeN d n k)), .lst (kindRows d n k)]
  obtain ⟨m, J5, hm, hJ5, e6⟩ := pour hJ4 24 24 rfl (by decide) (by decide)
  have c4 := fun l => call_counted h m (by omega) l
  obtain ⟨w, J6, hw, hJ6, e7⟩ := pour hJ5 7 7 rfl (by decide) (by decide)
  have z1 : RowOk d1 [0, 1, 1] := ⟨by decide, by decide⟩
  have z2 : RowOk d1 [1, 0, 1] := ⟨by decide, by decide⟩
  have z3 : RowOk d1 [1, 1, 0] := ⟨by decide, by decide⟩
  have t1 : ∀ l, m_row_bits [.tup [.int 1, .int 2], .tup [.int 0, .int 1, .int 1]] l = .ok (.tup [.int 0]) l := fun l => by
    have := call_rbits d1_ok z1 l
    rw [show rbits d1 [0, 1, 1] = [0] by decide +kernel] at this
    exact this
  have t2 : ∀ l, m_row_bits [.tup [.int 1, .int 2], .tup [.int 1, .int 0, .int 1]] l = .ok (.tup [.int 1]) l := fun l => by
    have := call_rbits d1_ok z2 l
    rw [show rbits d1 [1, 0, 1] = [1] by decide +kernel] at this
    exact this
  have t3 : ∀ l, m_row_bits [.tup [.int 1, .int 2], .tup [.int 1, .int 1, .int 0]] l = .ok (.tup []) l := fun l => by
    have := call_rbits d1_ok z3 l
    rw [show rbits d1 [1, 1, 0] = [] by decide +kernel] at this
    exact this
  have t4 : ∀ l, m_row_for_bits [.tup [.int 1, .int 2], .int 3, .int 1, .tup [.int 1]] l = .ok (.tup [.int 1, .int 0, .int 1]) l := fun l => by
    have := call_rfb d1_ok 3 1 (by decide) (by decide) [1] (by unfold IsB; decide) (by decide) l
    rw [show foundD d1 3 1 [1] = rowD [1, 0, 1] by
      unfold foundD
      rw [if_pos (by decide +kernel), show rowN d1 3 1 (hi (sizeN d1 3 1) [1].length + nob [1] 0) = [1, 0, 1] by decide +kernel]] at this
    exact this
  have t5 : ∀ l, m_row_for_bits [.tup [.int 1, .int 2], .int 3, .int 1, .tup [.int 0, .int 1]] l = .ok .non l := fun l => by
    have := call_rfb d1_ok 3 1 (by decide) (by decide) [0, 1] (by unfold IsB; decide) (by decide) l
    rw [show foundD d1 3 1 [0, 1] = .non by
      unfold foundD
      rw [if_neg (by decide +kernel)]] at this
    exact this
  have t6 : ∀ l, m_row_of_number [.tup [.int 1, .int 2], .int 3, .int 1, .int 2] l = .ok (.tup [.int 1, .int 1, .int 0]) l := fun l => by
    have := call_row d1_ok (n := 3) (k := 1) (x := 2) 2 rfl (by decide) (by decide +kernel) (by decide) l
    rw [show rowN d1 3 1 2 = [1, 1, 0] by decide +kernel] at this
    exact this
  have s2 : ∀ l, m__law_same [.tup [.tup [.int 0], .tup [.int 1], .tup []], .tup [.tup [.int 0], .tup [.int 1], .tup []]] l = .ok (.bl true) l := fun l => call_same (.tup [.tup [.int 0], .tup [.int 1], .tup []]) rfl (by decide) l
  have s3 : ∀ l, m__law_same [.tup [.tup [.int 1, .int 0, .int 1], .non, .tup [.int 1, .int 1, .int 0]], .tup [.tup [.int 1, .int 0, .int 1], .non, .tup [.int 1, .int 1, .int 0]]] l = .ok (.bl true) l := fun l => call_same (.tup [.tup [.int 1, .int 0, .int 1], .non, .tup [.int 1, .int 1, .int 0]]) rfl (by decide) l
  have hS0 : sizeN d n k ≤ 16777216 := by omega
  have hSi : (sizeN d n k : Int) ≤ 16777216 := by omega
  generalize kindRows d n k = KR at *
  generalize sizeN d n k = S at *
  obtain ⟨R, hR⟩ : ∃ R, runB 9 den_law [.ro ns] [] = R := ⟨_, rfl⟩
  rw [hR]
  by_cases q : w = 3
  · subst q
    obtain ⟨d2, J7, h2, hJ7, e8⟩ := dieJ hJ6
    obtain ⟨fs, J8, hf, hfl, hJ8, e9⟩ := facesJ hJ7 h2 100 100 rfl (by decide)
    obtain ⟨J9, hJ9, e10⟩ := rightJ hJ8 h2 hf
    have c5 := fun l => call_counted h2 100 (by decide) l
    have e7' : ∀ r : Sto, m__law_pour [.adr 0, .int 7] (ob J5 :: J5.gob :: r) = .ok (.int 3) (ob J6 :: J6.gob :: r) := e7
    have c5' : ∀ l, m__law_counted [dieD d2, .int 100] l = .ok (.bl true) l := c5
    simp only [dieD, rowD] at *
    simp [den_law, e1, e2, hT1, e3, c1, e4, c2, hSi, hS0, lc, c3, s1, e5, e6, c4, e7', e8, e9, e10, c5', t1, t2, t3, t4, t5, t6, s2, s3, perm_row_bits] at hR
    exact ⟨_, hR.symm⟩
  · have q' : ¬ (w : Int) = 3 := by omega
    simp only [dieD, rowD] at *
    simp [den_law, e1, e2, hT1, e3, c1, e4, c2, hSi, hS0, lc, c3, s1, e5, e6, c4, e7, q, q', t1, t2, t3, t4, t5, t6, s2, s3, perm_row_bits] at hR
    exact ⟨_, hR.symm⟩
end Q81

set_option Elab.async false
set_option linter.all false
set_option maxRecDepth 100000
set_option maxHeartbeats 8000000
namespace Q81
open PySem PySem.W PySem.Calls PyProof.Rows PySem.HandSPX L2 PySem.Spec Zb
def spLaw (K : PySem.W.Frag) : Sp := fun vs H Q _ => ∃ (a : Addr) (ns : List Int), vs = [.ref a] ∧ SqS K [] H a (ns.map V.int) ∧ ns.length ≤ 63 ∧ ∀ H', Q (.bl true) H'
def pv_row_for_bits {α : Type} : List α → List α → List α
  | [], [a, b, c, d] => [b, c, a, d]
  | _, _ => []
theorem pr_row_for_bits {K : PySem.W.Frag} : ∀ (ρ : List Addr) (H : Hp) (ds : List D) (vs : List V), Rws K ρ H ds vs → Rws K ρ H (perm_row_for_bits ds) (pv_row_for_bits [] vs)
  | ρ, H, [], vs, h => by
    match vs, Rws.length h with
    | [], _ => exact Rws.nil
  | ρ, H, [d0], vs, h => by
    match vs, Rws.length h with
    | [v0], _ => exact Rws.nil
  | ρ, H, [d0, d1], vs, h => by
    match vs, Rws.length h with
    | [v0, v1], _ => exact Rws.nil
  | ρ, H, [d0, d1, d2], vs, h => by
    match vs, Rws.length h with
    | [v0, v1, v2], _ => exact Rws.nil
  | ρ, H, [d0, d1, d2, d3], vs, h => by
    match vs, Rws.length h, h with
    | [v0, v1, v2, v3], _, h =>
      have r0 := h.get (i := 0) rfl
      obtain ⟨u0, e0, r0⟩ := r0
      cases e0
      have r1 := h.get (i := 1) rfl
      obtain ⟨u1, e1, r1⟩ := r1
      cases e1
      have r2 := h.get (i := 2) rfl
      obtain ⟨u2, e2, r2⟩ := r2
      cases e2
      have r3 := h.get (i := 3) rfl
      obtain ⟨u3, e3, r3⟩ := r3
      cases e3
      exact (Rws.cons r1 (Rws.cons r2 (Rws.cons r0 (Rws.cons r3 Rws.nil))))
  | ρ, H, d0 :: d1 :: d2 :: d3 :: d4 :: ds, vs, h => by
    match vs, Rws.length h with
    | v0 :: v1 :: v2 :: v3 :: v4 :: us, _ => exact Rws.nil
theorem pl_row_for_bits {vs : List V} {us : List Value} {zs : List V} {ws : List Value} (h : Vals vs us) (q : Vals zs ws) : Vals (pv_row_for_bits vs zs) (pv_row_for_bits us ws) := by
  cases h with
  | cons r h => exact .nil
  | nil =>
    cases q with
    | nil => exact .nil
    | cons q0 q =>
      cases q with
      | nil => exact .nil
      | cons q1 q =>
        cases q with
        | nil => exact .nil
        | cons q2 q =>
          cases q with
          | nil => exact .nil
          | cons q3 q =>
            cases q with
            | cons _ _ => exact .nil
            | nil => exact (.cons q1 (.cons q2 (.cons q0 (.cons q3 .nil))))
def pv_row_bits {α : Type} : List α → List α → List α
  | [], [a, b] => [b, a]
  | _, _ => []
theorem pr_row_bits {K : PySem.W.Frag} : ∀ (ρ : List Addr) (H : Hp) (ds : List D) (vs : List V), Rws K ρ H ds vs → Rws K ρ H (perm_row_bits ds) (pv_row_bits [] vs)
  | ρ, H, [], vs, h => by
    match vs, Rws.length h with
    | [], _ => exact Rws.nil
  | ρ, H, [d0], vs, h => by
    match vs, Rws.length h with
    | [v0], _ => exact Rws.nil
  | ρ, H, [d0, d1], vs, h => by
    match vs, Rws.length h, h with
    | [v0, v1], _, h =>
      have r0 := h.get (i := 0) rfl
      obtain ⟨u0, e0, r0⟩ := r0
      cases e0
      have r1 := h.get (i := 1) rfl
      obtain ⟨u1, e1, r1⟩ := r1
      cases e1
      exact (Rws.cons r1 (Rws.cons r0 Rws.nil))
  | ρ, H, d0 :: d1 :: d2 :: ds, vs, h => by
    match vs, Rws.length h with
    | v0 :: v1 :: v2 :: us, _ => exact Rws.nil
theorem pl_row_bits {vs : List V} {us : List Value} {zs : List V} {ws : List Value} (h : Vals vs us) (q : Vals zs ws) : Vals (pv_row_bits vs zs) (pv_row_bits us ws) := by
  cases h with
  | cons r h => exact .nil
  | nil =>
    cases q with
    | nil => exact .nil
    | cons q0 q =>
      cases q with
      | nil => exact .nil
      | cons q1 q =>
        cases q with
        | cons _ _ => exact .nil
        | nil => exact (.cons q1 (.cons q0 .nil))
theorem all_mk {P : Program} {w : World} {K : PySem.W.Frag} {h : Heap} {mg : Str → Option Value} {fa : Addr}
    {f0 : Addr} {od0 an0 : Option Addr} {sl0 : Array (Option Value)} {oc0 kV0 dc0 pm0 cd0 ct0 : Value}
    {f1 : Addr} {od1 an1 : Option Addr} {sl1 : Array (Option Value)} {oc1 kV1 dc1 pm1 cd1 ct1 : Value}
    {f2 : Addr} {od2 an2 : Option Addr} {sl2 : Array (Option Value)} {oc2 kV2 dc2 pm2 cd2 ct2 : Value}
    {f3 : Addr} {od3 an3 : Option Addr} {sl3 : Array (Option Value)} {oc3 kV3 dc3 pm3 cd3 ct3 : Value}
    {f4 : Addr} {od4 an4 : Option Addr} {sl4 : Array (Option Value)} {oc4 kV4 dc4 pm4 cd4 ct4 : Value}
    {f5 : Addr} {od5 an5 : Option Addr} {sl5 : Array (Option Value)} {oc5 kV5 dc5 pm5 cd5 ct5 : Value}
    {f6 : Addr} {od6 an6 : Option Addr} {sl6 : Array (Option Value)} {oc6 kV6 dc6 pm6 cd6 ct6 : Value}
    {f7 : Addr} {od7 an7 : Option Addr} {sl7 : Array (Option Value)} {oc7 kV7 dc7 pm7 cd7 ct7 : Value}
    {f8 : Addr} {od8 an8 : Option Addr} {sl8 : Array (Option Value)} {oc8 kV8 dc8 pm8 cd8 ct8 : Value}
    {f9 : Addr} {od9 an9 : Option Addr} {sl9 : Array (Option Value)} {oc9 kV9 dc9 pm9 cd9 ct9 : Value}
    {f10 : Addr} {od10 an10 : Option Addr} {sl10 : Array (Option Value)} {oc10 kV10 dc10 pm10 cd10 ct10 : Value}
    {f11 : Addr} {od11 an11 : Option Addr} {sl11 : Array (Option Value)} {oc11 kV11 dc11 pm11 cd11 ct11 : Value}
    {f12 : Addr} {od12 an12 : Option Addr} {sl12 : Array (Option Value)} {oc12 kV12 dc12 pm12 cd12 ct12 : Value}
    {f13 : Addr} {od13 an13 : Option Addr} {sl13 : Array (Option Value)} {oc13 kV13 dc13 pm13 cd13 ct13 : Value}
    {f14 : Addr} {od14 an14 : Option Addr} {sl14 : Array (Option Value)} {oc14 kV14 dc14 pm14 cd14 ct14 : Value}
    {f15 : Addr} {od15 an15 : Option Addr} {sl15 : Array (Option Value)} {oc15 kV15 dc15 pm15 cd15 ct15 : Value}
    {f16 : Addr} {od16 an16 : Option Addr} {sl16 : Array (Option Value)} {oc16 kV16 dc16 pm16 cd16 ct16 : Value}
    {f17 : Addr} {od17 an17 : Option Addr} {sl17 : Array (Option Value)} {oc17 kV17 dc17 pm17 cd17 ct17 : Value}
    {f18 : Addr} {od18 an18 : Option Addr} {sl18 : Array (Option Value)} {oc18 kV18 dc18 pm18 cd18 ct18 : Value}
    {f19 : Addr} {od19 an19 : Option Addr} {sl19 : Array (Option Value)} {oc19 kV19 dc19 pm19 cd19 ct19 : Value}
    {f20 : Addr} {od20 an20 : Option Addr} {sl20 : Array (Option Value)} {oc20 kV20 dc20 pm20 cd20 ct20 : Value}
    {f21 : Addr} {od21 an21 : Option Addr} {sl21 : Array (Option Value)} {oc21 kV21 dc21 pm21 cd21 ct21 : Value}
    {f22 : Addr} {od22 an22 : Option Addr} {sl22 : Array (Option Value)} {oc22 kV22 dc22 pm22 cd22 ct22 : Value}
    {f23 : Addr} {od23 an23 : Option Addr} {sl23 : Array (Option Value)} {oc23 kV23 dc23 pm23 cd23 ct23 : Value}
    {f24 : Addr} {od24 an24 : Option Addr} {sl24 : Array (Option Value)} {oc24 kV24 dc24 pm24 cd24 ct24 : Value}
    {f25 : Addr} {od25 an25 : Option Addr} {sl25 : Array (Option Value)} {oc25 kV25 dc25 pm25 cd25 ct25 : Value}
    {f26 : Addr} {od26 an26 : Option Addr} {sl26 : Array (Option Value)} {oc26 kV26 dc26 pm26 cd26 ct26 : Value}
    {f27 : Addr} {od27 an27 : Option Addr} {sl27 : Array (Option Value)} {oc27 kV27 dc27 pm27 cd27 ct27 : Value}
    {f28 : Addr} {od28 an28 : Option Addr} {sl28 : Array (Option Value)} {oc28 kV28 dc28 pm28 cd28 ct28 : Value}
    {f29 : Addr} {od29 an29 : Option Addr} {sl29 : Array (Option Value)} {oc29 kV29 dc29 pm29 cd29 ct29 : Value}
    {f30 : Addr} {od30 an30 : Option Addr} {sl30 : Array (Option Value)} {oc30 kV30 dc30 pm30 cd30 ct30 : Value}
    {f31 : Addr} {od31 an31 : Option Addr} {sl31 : Array (Option Value)} {oc31 kV31 dc31 pm31 cd31 ct31 : Value}
    {f32 : Addr} {od32 an32 : Option Addr} {sl32 : Array (Option Value)} {oc32 kV32 dc32 pm32 cd32 ct32 : Value}
    {f33 : Addr} {od33 an33 : Option Addr} {sl33 : Array (Option Value)} {oc33 kV33 dc33 pm33 cd33 ct33 : Value}
    {f34 : Addr} {od34 an34 : Option Addr} {sl34 : Array (Option Value)} {oc34 kV34 dc34 pm34 cd34 ct34 : Value}
    {f35 : Addr} {od35 an35 : Option Addr} {sl35 : Array (Option Value)} {oc35 kV35 dc35 pm35 cd35 ct35 : Value}
    {f36 : Addr} {od36 an36 : Option Addr} {sl36 : Array (Option Value)} {oc36 kV36 dc36 pm36 cd36 ct36 : Value}
    {f37 : Addr} {od37 an37 : Option Addr} {sl37 : Array (Option Value)} {oc37 kV37 dc37 pm37 cd37 ct37 : Value}
    {f38 : Addr} {od38 an38 : Option Addr} {sl38 : Array (Option Value)} {oc38 kV38 dc38 pm38 cd38 ct38 : Value}
    {f39 : Addr} {od39 an39 : Option Addr} {sl39 : Array (Option Value)} {oc39 kV39 dc39 pm39 cd39 ct39 : Value}
    {f40 : Addr} {od40 an40 : Option Addr} {sl40 : Array (Option Value)} {oc40 kV40 dc40 pm40 cd40 ct40 : Value}
    {f41 : Addr} {od41 an41 : Option Addr} {sl41 : Array (Option Value)} {oc41 kV41 dc41 pm41 cd41 ct41 : Value}
    {f42 : Addr} {od42 an42 : Option Addr} {sl42 : Array (Option Value)} {oc42 kV42 dc42 pm42 cd42 ct42 : Value}
    {f43 : Addr} {od43 an43 : Option Addr} {sl43 : Array (Option Value)} {oc43 kV43 dc43 pm43 cd43 ct43 : Value}
    {f44 : Addr} {od44 an44 : Option Addr} {sl44 : Array (Option Value)} {oc44 kV44 dc44 pm44 cd44 ct44 : Value}
    {f45 : Addr} {od45 an45 : Option Addr} {sl45 : Array (Option Value)} {oc45 kV45 dc45 pm45 cd45 ct45 : Value}
    {f46 : Addr} {od46 an46 : Option Addr} {sl46 : Array (Option Value)} {oc46 kV46 dc46 pm46 cd46 ct46 : Value}
    {f47 : Addr} {od47 an47 : Option Addr} {sl47 : Array (Option Value)} {oc47 kV47 dc47 pm47 cd47 ct47 : Value}
    {f48 : Addr} {od48 an48 : Option Addr} {sl48 : Array (Option Value)} {oc48 kV48 dc48 pm48 cd48 ct48 : Value}
    {f49 : Addr} {od49 an49 : Option Addr} {sl49 : Array (Option Value)} {oc49 kV49 dc49 pm49 cd49 ct49 : Value}
    {f50 : Addr} {od50 an50 : Option Addr} {sl50 : Array (Option Value)} {oc50 kV50 dc50 pm50 cd50 ct50 : Value}
    {f51 : Addr} {od51 an51 : Option Addr} {sl51 : Array (Option Value)} {oc51 kV51 dc51 pm51 cd51 ct51 : Value}
    {f52 : Addr} {od52 an52 : Option Addr} {sl52 : Array (Option Value)} {oc52 kV52 dc52 pm52 cd52 ct52 : Value}
    (X : K.In h) (G : h.Ns mainGlobals mg) (hfa : mg "law" = some (.ref fa))
    (a0 : PySem.W.nsIn K mainGlobals "choices" = some (some (.ref f0)))
    (l0 : K.lookup f0 = some ⟨oc0, od0, .func (PySem.W.fnOf "choices" "choices" (defArgs s_choices) (defBody s_choices) (defScope s_choices) .none kV0 dc0 pm0 an0 cd0 ct0), sl0⟩)
    (c0 : PySem.W.codeIn K cd0 "choices" = true)
    (k0 : PySem.W.keepIn K (.ref f0) = true)
    (a1 : PySem.W.nsIn K mainGlobals "choice_row" = some (some (.ref f1)))
    (l1 : K.lookup f1 = some ⟨oc1, od1, .func (PySem.W.fnOf "choice_row" "choice_row" (defArgs s_choice_row) (defBody s_choice_row) (defScope s_choice_row) .none kV1 dc1 pm1 an1 cd1 ct1), sl1⟩)
    (c1 : PySem.W.codeIn K cd1 "choice_row" = true)
    (k1 : PySem.W.keepIn K (.ref f1) = true)
    (a2 : PySem.W.nsIn K mainGlobals "power" = some (some (.ref f2)))
    (l2 : K.lookup f2 = some ⟨oc2, od2, .func (PySem.W.fnOf "power" "power" (defArgs s_power) (defBody s_power) (defScope s_power) .none kV2 dc2 pm2 an2 cd2 ct2), sl2⟩)
    (c2 : PySem.W.codeIn K cd2 "power" = true)
    (k2 : PySem.W.keepIn K (.ref f2) = true)
    (a3 : PySem.W.nsIn K mainGlobals "fraction" = some (some (.ref f3)))
    (l3 : K.lookup f3 = some ⟨oc3, od3, .func (PySem.W.fnOf "fraction" "fraction" (defArgs s_fraction) (defBody s_fraction) (defScope s_fraction) .none kV3 dc3 pm3 an3 cd3 ct3), sl3⟩)
    (c3 : PySem.W.codeIn K cd3 "fraction" = true)
    (k3 : PySem.W.keepIn K (.ref f3) = true)
    (a4 : PySem.W.nsIn K mainGlobals "heavy_faces" = some (some (.ref f4)))
    (l4 : K.lookup f4 = some ⟨oc4, od4, .func (PySem.W.fnOf "heavy_faces" "heavy_faces" (defArgs s_heavy_faces) (defBody s_heavy_faces) (defScope s_heavy_faces) .none kV4 dc4 pm4 an4 cd4 ct4), sl4⟩)
    (c4 : PySem.W.codeIn K cd4 "heavy_faces" = true)
    (k4 : PySem.W.keepIn K (.ref f4) = true)
    (a5 : PySem.W.nsIn K mainGlobals "light_faces" = some (some (.ref f5)))
    (l5 : K.lookup f5 = some ⟨oc5, od5, .func (PySem.W.fnOf "light_faces" "light_faces" (defArgs s_light_faces) (defBody s_light_faces) (defScope s_light_faces) .none kV5 dc5 pm5 an5 cd5 ct5), sl5⟩)
    (c5 : PySem.W.codeIn K cd5 "light_faces" = true)
    (k5 : PySem.W.keepIn K (.ref f5) = true)
    (a6 : PySem.W.nsIn K mainGlobals "die_form" = some (some (.ref f6)))
    (l6 : K.lookup f6 = some ⟨oc6, od6, .func (PySem.W.fnOf "die_form" "die_form" (defArgs s_die_form) (defBody s_die_form) (defScope s_die_form) .none kV6 dc6 pm6 an6 cd6 ct6), sl6⟩)
    (c6 : PySem.W.codeIn K cd6 "die_form" = true)
    (k6 : PySem.W.keepIn K (.ref f6) = true)
    (a7 : PySem.W.nsIn K mainGlobals "is_heavy" = some (some (.ref f7)))
    (l7 : K.lookup f7 = some ⟨oc7, od7, .func (PySem.W.fnOf "is_heavy" "is_heavy" (defArgs s_is_heavy) (defBody s_is_heavy) (defScope s_is_heavy) .none kV7 dc7 pm7 an7 cd7 ct7), sl7⟩)
    (c7 : PySem.W.codeIn K cd7 "is_heavy" = true)
    (k7 : PySem.W.keepIn K (.ref f7) = true)
    (a8 : PySem.W.nsIn K mainGlobals "face_place" = some (some (.ref f8)))
    (l8 : K.lookup f8 = some ⟨oc8, od8, .func (PySem.W.fnOf "face_place" "face_place" (defArgs s_face_place) (defBody s_face_place) (defScope s_face_place) .none kV8 dc8 pm8 an8 cd8 ct8), sl8⟩)
    (c8 : PySem.W.codeIn K cd8 "face_place" = true)
    (k8 : PySem.W.keepIn K (.ref f8) = true)
    (a9 : PySem.W.nsIn K mainGlobals "kind_sizes" = some (some (.ref f9)))
    (l9 : K.lookup f9 = some ⟨oc9, od9, .func (PySem.W.fnOf "kind_sizes" "kind_sizes" (defArgs s_kind_sizes) (defBody s_kind_sizes) (defScope s_kind_sizes) .none kV9 dc9 pm9 an9 cd9 ct9), sl9⟩)
    (c9 : PySem.W.codeIn K cd9 "kind_sizes" = true)
    (k9 : PySem.W.keepIn K (.ref f9) = true)
    (a10 : PySem.W.nsIn K mainGlobals "kind_masses" = some (some (.ref f10)))
    (l10 : K.lookup f10 = some ⟨oc10, od10, .func (PySem.W.fnOf "kind_masses" "kind_masses" (defArgs s_kind_masses) (defBody s_kind_masses) (defScope s_kind_masses) .none kV10 dc10 pm10 an10 cd10 ct10), sl10⟩)
    (c10 : PySem.W.codeIn K cd10 "kind_masses" = true)
    (k10 : PySem.W.keepIn K (.ref f10) = true)
    (a11 : PySem.W.nsIn K mainGlobals "kind_size" = some (some (.ref f11)))
    (l11 : K.lookup f11 = some ⟨oc11, od11, .func (PySem.W.fnOf "kind_size" "kind_size" (defArgs s_kind_size) (defBody s_kind_size) (defScope s_kind_size) .none kV11 dc11 pm11 an11 cd11 ct11), sl11⟩)
    (c11 : PySem.W.codeIn K cd11 "kind_size" = true)
    (k11 : PySem.W.keepIn K (.ref f11) = true)
    (a12 : PySem.W.nsIn K mainGlobals "row_number" = some (some (.ref f12)))
    (l12 : K.lookup f12 = some ⟨oc12, od12, .func (PySem.W.fnOf "row_number" "row_number" (defArgs s_row_number) (defBody s_row_number) (defScope s_row_number) .none kV12 dc12 pm12 an12 cd12 ct12), sl12⟩)
    (c12 : PySem.W.codeIn K cd12 "row_number" = true)
    (k12 : PySem.W.keepIn K (.ref f12) = true)
    (a13 : PySem.W.nsIn K mainGlobals "heavy_places" = some (some (.ref f13)))
    (l13 : K.lookup f13 = some ⟨oc13, od13, .func (PySem.W.fnOf "heavy_places" "heavy_places" (defArgs s_heavy_places) (defBody s_heavy_places) (defScope s_heavy_places) .none kV13 dc13 pm13 an13 cd13 ct13), sl13⟩)
    (c13 : PySem.W.codeIn K cd13 "heavy_places" = true)
    (k13 : PySem.W.keepIn K (.ref f13) = true)
    (a14 : PySem.W.nsIn K mainGlobals "row_of_number" = some (some (.ref f14)))
    (l14 : K.lookup f14 = some ⟨oc14, od14, .func (PySem.W.fnOf "row_of_number" "row_of_number" (defArgs s_row_of_number) (defBody s_row_of_number) (defScope s_row_of_number) .none kV14 dc14 pm14 an14 cd14 ct14), sl14⟩)
    (c14 : PySem.W.codeIn K cd14 "row_of_number" = true)
    (k14 : PySem.W.keepIn K (.ref f14) = true)
    (a15 : PySem.W.nsIn K mainGlobals "row_mass" = some (some (.ref f15)))
    (l15 : K.lookup f15 = some ⟨oc15, od15, .func (PySem.W.fnOf "row_mass" "row_mass" (defArgs s_row_mass) (defBody s_row_mass) (defScope s_row_mass) .none kV15 dc15 pm15 an15 cd15 ct15), sl15⟩)
    (c15 : PySem.W.codeIn K cd15 "row_mass" = true)
    (k15 : PySem.W.keepIn K (.ref f15) = true)
    (a16 : PySem.W.nsIn K mainGlobals "row_kind" = some (some (.ref f16)))
    (l16 : K.lookup f16 = some ⟨oc16, od16, .func (PySem.W.fnOf "row_kind" "row_kind" (defArgs s_row_kind) (defBody s_row_kind) (defScope s_row_kind) .none kV16 dc16 pm16 an16 cd16 ct16), sl16⟩)
    (c16 : PySem.W.codeIn K cd16 "row_kind" = true)
    (k16 : PySem.W.keepIn K (.ref f16) = true)
    (a17 : PySem.W.nsIn K mainGlobals "stretches" = some (some (.ref f17)))
    (l17 : K.lookup f17 = some ⟨oc17, od17, .func (PySem.W.fnOf "stretches" "stretches" (defArgs s_stretches) (defBody s_stretches) (defScope s_stretches) .none kV17 dc17 pm17 an17 cd17 ct17), sl17⟩)
    (c17 : PySem.W.codeIn K cd17 "stretches" = true)
    (k17 : PySem.W.keepIn K (.ref f17) = true)
    (a18 : PySem.W.nsIn K mainGlobals "bits_of" = some (some (.ref f18)))
    (l18 : K.lookup f18 = some ⟨oc18, od18, .func (PySem.W.fnOf "bits_of" "bits_of" (defArgs s_bits_of) (defBody s_bits_of) (defScope s_bits_of) .none kV18 dc18 pm18 an18 cd18 ct18), sl18⟩)
    (c18 : PySem.W.codeIn K cd18 "bits_of" = true)
    (k18 : PySem.W.keepIn K (.ref f18) = true)
    (a19 : PySem.W.nsIn K mainGlobals "bits_of_number" = some (some (.ref f19)))
    (l19 : K.lookup f19 = some ⟨oc19, od19, .func (PySem.W.fnOf "bits_of_number" "bits_of_number" (defArgs s_bits_of_number) (defBody s_bits_of_number) (defScope s_bits_of_number) .none kV19 dc19 pm19 an19 cd19 ct19), sl19⟩)
    (c19 : PySem.W.codeIn K cd19 "bits_of_number" = true)
    (k19 : PySem.W.keepIn K (.ref f19) = true)
    (a20 : PySem.W.nsIn K mainGlobals "row_bits" = some (some (.ref f20)))
    (l20 : K.lookup f20 = some ⟨oc20, od20, .func (PySem.W.fnOf "row_bits" "row_bits" (defArgs s_row_bits) (defBody s_row_bits) (defScope s_row_bits) .none kV20 dc20 pm20 an20 cd20 ct20), sl20⟩)
    (c20 : PySem.W.codeIn K cd20 "row_bits" = true)
    (k20 : PySem.W.keepIn K (.ref f20) = true)
    (a21 : PySem.W.nsIn K mainGlobals "bit_count" = some (some (.ref f21)))
    (l21 : K.lookup f21 = some ⟨oc21, od21, .func (PySem.W.fnOf "bit_count" "bit_count" (defArgs s_bit_count) (defBody s_bit_count) (defScope s_bit_count) .none kV21 dc21 pm21 an21 cd21 ct21), sl21⟩)
    (c21 : PySem.W.codeIn K cd21 "bit_count" = true)
    (k21 : PySem.W.keepIn K (.ref f21) = true)
    (a22 : PySem.W.nsIn K mainGlobals "bits_mean" = some (some (.ref f22)))
    (l22 : K.lookup f22 = some ⟨oc22, od22, .func (PySem.W.fnOf "bits_mean" "bits_mean" (defArgs s_bits_mean) (defBody s_bits_mean) (defScope s_bits_mean) .none kV22 dc22 pm22 an22 cd22 ct22), sl22⟩)
    (c22 : PySem.W.codeIn K cd22 "bits_mean" = true)
    (k22 : PySem.W.keepIn K (.ref f22) = true)
    (a23 : PySem.W.nsIn K mainGlobals "number_of_bits" = some (some (.ref f23)))
    (l23 : K.lookup f23 = some ⟨oc23, od23, .func (PySem.W.fnOf "number_of_bits" "number_of_bits" (defArgs s_number_of_bits) (defBody s_number_of_bits) (defScope s_number_of_bits) .none kV23 dc23 pm23 an23 cd23 ct23), sl23⟩)
    (c23 : PySem.W.codeIn K cd23 "number_of_bits" = true)
    (k23 : PySem.W.keepIn K (.ref f23) = true)
    (a24 : PySem.W.nsIn K mainGlobals "row_for_bits" = some (some (.ref f24)))
    (l24 : K.lookup f24 = some ⟨oc24, od24, .func (PySem.W.fnOf "row_for_bits" "row_for_bits" (defArgs s_row_for_bits) (defBody s_row_for_bits) (defScope s_row_for_bits) .none kV24 dc24 pm24 an24 cd24 ct24), sl24⟩)
    (c24 : PySem.W.codeIn K cd24 "row_for_bits" = true)
    (k24 : PySem.W.keepIn K (.ref f24) = true)
    (a25 : PySem.W.nsIn K mainGlobals "all_rows" = some (some (.ref f25)))
    (l25 : K.lookup f25 = some ⟨oc25, od25, .func (PySem.W.fnOf "all_rows" "all_rows" (defArgs s_all_rows) (defBody s_all_rows) (defScope s_all_rows) .none kV25 dc25 pm25 an25 cd25 ct25), sl25⟩)
    (c25 : PySem.W.codeIn K cd25 "all_rows" = true)
    (k25 : PySem.W.keepIn K (.ref f25) = true)
    (a26 : PySem.W.nsIn K mainGlobals "rows_of_kind" = some (some (.ref f26)))
    (l26 : K.lookup f26 = some ⟨oc26, od26, .func (PySem.W.fnOf "rows_of_kind" "rows_of_kind" (defArgs s_rows_of_kind) (defBody s_rows_of_kind) (defScope s_rows_of_kind) .none kV26 dc26 pm26 an26 cd26 ct26), sl26⟩)
    (c26 : PySem.W.codeIn K cd26 "rows_of_kind" = true)
    (k26 : PySem.W.keepIn K (.ref f26) = true)
    (a27 : PySem.W.nsIn K mainGlobals "bits_of_row" = some (some (.ref f27)))
    (l27 : K.lookup f27 = some ⟨oc27, od27, .func (PySem.W.fnOf "bits_of_row" "bits_of_row" (defArgs s_bits_of_row) (defBody s_bits_of_row) (defScope s_bits_of_row) .none kV27 dc27 pm27 an27 cd27 ct27), sl27⟩)
    (c27 : PySem.W.codeIn K cd27 "bits_of_row" = true)
    (k27 : PySem.W.keepIn K (.ref f27) = true)
    (a28 : PySem.W.nsIn K mainGlobals "even_bits" = some (some (.ref f28)))
    (l28 : K.lookup f28 = some ⟨oc28, od28, .func (PySem.W.fnOf "even_bits" "even_bits" (defArgs s_even_bits) (defBody s_even_bits) (defScope s_even_bits) .none kV28 dc28 pm28 an28 cd28 ct28), sl28⟩)
    (c28 : PySem.W.codeIn K cd28 "even_bits" = true)
    (k28 : PySem.W.keepIn K (.ref f28) = true)
    (a29 : PySem.W.nsIn K mainGlobals "_law_jug" = some (some (.ref f29)))
    (l29 : K.lookup f29 = some ⟨oc29, od29, .func (PySem.W.fnOf "_law_jug" "_law_jug" (defArgs s__law_jug) (defBody s__law_jug) (defScope s__law_jug) .none kV29 dc29 pm29 an29 cd29 ct29), sl29⟩)
    (c29 : PySem.W.codeIn K cd29 "_law_jug" = true)
    (k29 : PySem.W.keepIn K (.ref f29) = true)
    (a30 : PySem.W.nsIn K mainGlobals "_law_pour" = some (some (.ref f30)))
    (l30 : K.lookup f30 = some ⟨oc30, od30, .func (PySem.W.fnOf "_law_pour" "_law_pour" (defArgs s__law_pour) (defBody s__law_pour) (defScope s__law_pour) .none kV30 dc30 pm30 an30 cd30 ct30), sl30⟩)
    (c30 : PySem.W.codeIn K cd30 "_law_pour" = true)
    (k30 : PySem.W.keepIn K (.ref f30) = true)
    (a31 : PySem.W.nsIn K mainGlobals "_law_die" = some (some (.ref f31)))
    (l31 : K.lookup f31 = some ⟨oc31, od31, .func (PySem.W.fnOf "_law_die" "_law_die" (defArgs s__law_die) (defBody s__law_die) (defScope s__law_die) .none kV31 dc31 pm31 an31 cd31 ct31), sl31⟩)
    (c31 : PySem.W.codeIn K cd31 "_law_die" = true)
    (k31 : PySem.W.keepIn K (.ref f31) = true)
    (a32 : PySem.W.nsIn K mainGlobals "_law_form" = some (some (.ref f32)))
    (l32 : K.lookup f32 = some ⟨oc32, od32, .func (PySem.W.fnOf "_law_form" "_law_form" (defArgs s__law_form) (defBody s__law_form) (defScope s__law_form) .none kV32 dc32 pm32 an32 cd32 ct32), sl32⟩)
    (c32 : PySem.W.codeIn K cd32 "_law_form" = true)
    (k32 : PySem.W.keepIn K (.ref f32) = true)
    (a33 : PySem.W.nsIn K mainGlobals "_law_choose" = some (some (.ref f33)))
    (l33 : K.lookup f33 = some ⟨oc33, od33, .func (PySem.W.fnOf "_law_choose" "_law_choose" (defArgs s__law_choose) (defBody s__law_choose) (defScope s__law_choose) .none kV33 dc33 pm33 an33 cd33 ct33), sl33⟩)
    (c33 : PySem.W.codeIn K cd33 "_law_choose" = true)
    (k33 : PySem.W.keepIn K (.ref f33) = true)
    (a34 : PySem.W.nsIn K mainGlobals "_law_power" = some (some (.ref f34)))
    (l34 : K.lookup f34 = some ⟨oc34, od34, .func (PySem.W.fnOf "_law_power" "_law_power" (defArgs s__law_power) (defBody s__law_power) (defScope s__law_power) .none kV34 dc34 pm34 an34 cd34 ct34), sl34⟩)
    (c34 : PySem.W.codeIn K cd34 "_law_power" = true)
    (k34 : PySem.W.keepIn K (.ref f34) = true)
    (a35 : PySem.W.nsIn K mainGlobals "_law_size" = some (some (.ref f35)))
    (l35 : K.lookup f35 = some ⟨oc35, od35, .func (PySem.W.fnOf "_law_size" "_law_size" (defArgs s__law_size) (defBody s__law_size) (defScope s__law_size) .none kV35 dc35 pm35 an35 cd35 ct35), sl35⟩)
    (c35 : PySem.W.codeIn K cd35 "_law_size" = true)
    (k35 : PySem.W.keepIn K (.ref f35) = true)
    (a36 : PySem.W.nsIn K mainGlobals "_law_mass" = some (some (.ref f36)))
    (l36 : K.lookup f36 = some ⟨oc36, od36, .func (PySem.W.fnOf "_law_mass" "_law_mass" (defArgs s__law_mass) (defBody s__law_mass) (defScope s__law_mass) .none kV36 dc36 pm36 an36 cd36 ct36), sl36⟩)
    (c36 : PySem.W.codeIn K cd36 "_law_mass" = true)
    (k36 : PySem.W.keepIn K (.ref f36) = true)
    (a37 : PySem.W.nsIn K mainGlobals "_law_kind" = some (some (.ref f37)))
    (l37 : K.lookup f37 = some ⟨oc37, od37, .func (PySem.W.fnOf "_law_kind" "_law_kind" (defArgs s__law_kind) (defBody s__law_kind) (defScope s__law_kind) .none kV37 dc37 pm37 an37 cd37 ct37), sl37⟩)
    (c37 : PySem.W.codeIn K cd37 "_law_kind" = true)
    (k37 : PySem.W.keepIn K (.ref f37) = true)
    (a38 : PySem.W.nsIn K mainGlobals "_law_kind_mass" = some (some (.ref f38)))
    (l38 : K.lookup f38 = some ⟨oc38, od38, .func (PySem.W.fnOf "_law_kind_mass" "_law_kind_mass" (defArgs s__law_kind_mass) (defBody s__law_kind_mass) (defScope s__law_kind_mass) .none kV38 dc38 pm38 an38 cd38 ct38), sl38⟩)
    (c38 : PySem.W.codeIn K cd38 "_law_kind_mass" = true)
    (k38 : PySem.W.keepIn K (.ref f38) = true)
    (a39 : PySem.W.nsIn K mainGlobals "_law_number" = some (some (.ref f39)))
    (l39 : K.lookup f39 = some ⟨oc39, od39, .func (PySem.W.fnOf "_law_number" "_law_number" (defArgs s__law_number) (defBody s__law_number) (defScope s__law_number) .none kV39 dc39 pm39 an39 cd39 ct39), sl39⟩)
    (c39 : PySem.W.codeIn K cd39 "_law_number" = true)
    (k39 : PySem.W.keepIn K (.ref f39) = true)
    (a40 : PySem.W.nsIn K mainGlobals "_law_row" = some (some (.ref f40)))
    (l40 : K.lookup f40 = some ⟨oc40, od40, .func (PySem.W.fnOf "_law_row" "_law_row" (defArgs s__law_row) (defBody s__law_row) (defScope s__law_row) .none kV40 dc40 pm40 an40 cd40 ct40), sl40⟩)
    (c40 : PySem.W.codeIn K cd40 "_law_row" = true)
    (k40 : PySem.W.keepIn K (.ref f40) = true)
    (a41 : PySem.W.nsIn K mainGlobals "_law_rows" = some (some (.ref f41)))
    (l41 : K.lookup f41 = some ⟨oc41, od41, .func (PySem.W.fnOf "_law_rows" "_law_rows" (defArgs s__law_rows) (defBody s__law_rows) (defScope s__law_rows) .none kV41 dc41 pm41 an41 cd41 ct41), sl41⟩)
    (c41 : PySem.W.codeIn K cd41 "_law_rows" = true)
    (k41 : PySem.W.keepIn K (.ref f41) = true)
    (a42 : PySem.W.nsIn K mainGlobals "_law_fraction" = some (some (.ref f42)))
    (l42 : K.lookup f42 = some ⟨oc42, od42, .func (PySem.W.fnOf "_law_fraction" "_law_fraction" (defArgs s__law_fraction) (defBody s__law_fraction) (defScope s__law_fraction) .none kV42 dc42 pm42 an42 cd42 ct42), sl42⟩)
    (c42 : PySem.W.codeIn K cd42 "_law_fraction" = true)
    (k42 : PySem.W.keepIn K (.ref f42) = true)
    (a43 : PySem.W.nsIn K mainGlobals "_law_same" = some (some (.ref f43)))
    (l43 : K.lookup f43 = some ⟨oc43, od43, .func (PySem.W.fnOf "_law_same" "_law_same" (defArgs s__law_same) (defBody s__law_same) (defScope s__law_same) .none kV43 dc43 pm43 an43 cd43 ct43), sl43⟩)
    (c43 : PySem.W.codeIn K cd43 "_law_same" = true)
    (k43 : PySem.W.keepIn K (.ref f43) = true)
    (a44 : PySem.W.nsIn K mainGlobals "_law_stretch" = some (some (.ref f44)))
    (l44 : K.lookup f44 = some ⟨oc44, od44, .func (PySem.W.fnOf "_law_stretch" "_law_stretch" (defArgs s__law_stretch) (defBody s__law_stretch) (defScope s__law_stretch) .none kV44 dc44 pm44 an44 cd44 ct44), sl44⟩)
    (c44 : PySem.W.codeIn K cd44 "_law_stretch" = true)
    (k44 : PySem.W.keepIn K (.ref f44) = true)
    (a45 : PySem.W.nsIn K mainGlobals "_law_bits" = some (some (.ref f45)))
    (l45 : K.lookup f45 = some ⟨oc45, od45, .func (PySem.W.fnOf "_law_bits" "_law_bits" (defArgs s__law_bits) (defBody s__law_bits) (defScope s__law_bits) .none kV45 dc45 pm45 an45 cd45 ct45), sl45⟩)
    (c45 : PySem.W.codeIn K cd45 "_law_bits" = true)
    (k45 : PySem.W.keepIn K (.ref f45) = true)
    (a46 : PySem.W.nsIn K mainGlobals "_law_counts" = some (some (.ref f46)))
    (l46 : K.lookup f46 = some ⟨oc46, od46, .func (PySem.W.fnOf "_law_counts" "_law_counts" (defArgs s__law_counts) (defBody s__law_counts) (defScope s__law_counts) .none kV46 dc46 pm46 an46 cd46 ct46), sl46⟩)
    (c46 : PySem.W.codeIn K cd46 "_law_counts" = true)
    (k46 : PySem.W.keepIn K (.ref f46) = true)
    (a47 : PySem.W.nsIn K mainGlobals "_law_counted" = some (some (.ref f47)))
    (l47 : K.lookup f47 = some ⟨oc47, od47, .func (PySem.W.fnOf "_law_counted" "_law_counted" (defArgs s__law_counted) (defBody s__law_counted) (defScope s__law_counted) .none kV47 dc47 pm47 an47 cd47 ct47), sl47⟩)
    (c47 : PySem.W.codeIn K cd47 "_law_counted" = true)
    (k47 : PySem.W.keepIn K (.ref f47) = true)
    (a48 : PySem.W.nsIn K mainGlobals "_law_all" = some (some (.ref f48)))
    (l48 : K.lookup f48 = some ⟨oc48, od48, .func (PySem.W.fnOf "_law_all" "_law_all" (defArgs s__law_all) (defBody s__law_all) (defScope s__law_all) .none kV48 dc48 pm48 an48 cd48 ct48), sl48⟩)
    (c48 : PySem.W.codeIn K cd48 "_law_all" = true)
    (k48 : PySem.W.keepIn K (.ref f48) = true)
    (a49 : PySem.W.nsIn K mainGlobals "_law_found" = some (some (.ref f49)))
    (l49 : K.lookup f49 = some ⟨oc49, od49, .func (PySem.W.fnOf "_law_found" "_law_found" (defArgs s__law_found) (defBody s__law_found) (defScope s__law_found) .none kV49 dc49 pm49 an49 cd49 ct49), sl49⟩)
    (c49 : PySem.W.codeIn K cd49 "_law_found" = true)
    (k49 : PySem.W.keepIn K (.ref f49) = true)
    (a50 : PySem.W.nsIn K mainGlobals "_law_row_right" = some (some (.ref f50)))
    (l50 : K.lookup f50 = some ⟨oc50, od50, .func (PySem.W.fnOf "_law_row_right" "_law_row_right" (defArgs s__law_row_right) (defBody s__law_row_right) (defScope s__law_row_right) .none kV50 dc50 pm50 an50 cd50 ct50), sl50⟩)
    (c50 : PySem.W.codeIn K cd50 "_law_row_right" = true)
    (k50 : PySem.W.keepIn K (.ref f50) = true)
    (a51 : PySem.W.nsIn K mainGlobals "_law_faces" = some (some (.ref f51)))
    (l51 : K.lookup f51 = some ⟨oc51, od51, .func (PySem.W.fnOf "_law_faces" "_law_faces" (defArgs s__law_faces) (defBody s__law_faces) (defScope s__law_faces) .none kV51 dc51 pm51 an51 cd51 ct51), sl51⟩)
    (c51 : PySem.W.codeIn K cd51 "_law_faces" = true)
    (k51 : PySem.W.keepIn K (.ref f51) = true)
    (a52 : PySem.W.nsIn K mainGlobals "law" = some (some (.ref f52)))
    (l52 : K.lookup f52 = some ⟨oc52, od52, .func (PySem.W.fnOf "law" "law" (defArgs s_law) (defBody s_law) (defScope s_law) .none kV52 dc52 pm52 an52 cd52 ct52), sl52⟩)
    (c52 : PySem.W.codeIn K cd52 "law" = true)
    (k52 : PySem.W.keepIn K (.ref f52) = true)
    (z_abs : PySem.W.nsIn K mainGlobals "abs" = some none)
    (z_bool : PySem.W.nsIn K mainGlobals "bool" = some none)
    (z_enumerate : PySem.W.nsIn K mainGlobals "enumerate" = some none)
    (z_int : PySem.W.nsIn K mainGlobals "int" = some none)
    (z_isinstance : PySem.W.nsIn K mainGlobals "isinstance" = some none)
    (z_len : PySem.W.nsIn K mainGlobals "len" = some none)
    (z_list : PySem.W.nsIn K mainGlobals "list" = some none)
    (z_max : PySem.W.nsIn K mainGlobals "max" = some none)
    (z_min : PySem.W.nsIn K mainGlobals "min" = some none)
    (z_range : PySem.W.nsIn K mainGlobals "range" = some none)
    (z_str : PySem.W.nsIn K mainGlobals "str" = some none)
    (z_sum : PySem.W.nsIn K mainGlobals "sum" = some none)
    (z_tuple : PySem.W.nsIn K mainGlobals "tuple" = some none)
    (z_zip : PySem.W.nsIn K mainGlobals "zip" = some none)
    (z_gcd : PySem.W.nsIn K mainGlobals "gcd" = some (some (.builtin "math.gcd"))) :
    ∃ fd : FuncData, (∀ (s : Shared) (v : Value), BindsTo s fd ⟨[v], []⟩ [("script", v)]) ∧ ∀ base : Heap, K.In base → base.Ns mainGlobals mg → FnOk P w K mg base CX0 8 fa fd ["script"] (spLaw K) := by
  have e := hfa.symm.trans (PySem.W.mg_of X G a52)
  cases e
  have B : Bu mg := ⟨PySem.W.mg_none_of X G z_abs, PySem.W.mg_none_of X G z_bool, PySem.W.mg_none_of X G z_enumerate, PySem.W.mg_none_of X G z_int, PySem.W.mg_none_of X G z_isinstance, PySem.W.mg_none_of X G z_len, PySem.W.mg_none_of X G z_list, PySem.W.mg_none_of X G z_max, PySem.W.mg_none_of X G z_min, PySem.W.mg_none_of X G z_range, PySem.W.mg_none_of X G z_str, PySem.W.mg_none_of X G z_sum, PySem.W.mg_none_of X G z_tuple, PySem.W.mg_none_of X G z_zip, PySem.W.mg_of X G z_gcd⟩
  have F0 := fun_mk (st := s_choices) l0 c0 k0
  have b0 := F0.binds (ps := ["many", "few"]) fun _ _ _ _ _ _ us hl => match us, hl with | [_, _], _ => rfl
  have F1 := fun_mk (st := s_choice_row) l1 c1 k1
  have b1 := F1.binds (ps := ["many"]) fun _ _ _ _ _ _ us hl => match us, hl with | [_], _ => rfl
  have F2 := fun_mk (st := s_power) l2 c2 k2
  have b2 := F2.binds (ps := ["number", "times"]) fun _ _ _ _ _ _ us hl => match us, hl with | [_, _], _ => rfl
  have F3 := fun_mk (st := s_fraction) l3 c3 k3
  have b3 := F3.binds (ps := ["top", "bottom"]) fun _ _ _ _ _ _ us hl => match us, hl with | [_, _], _ => rfl
  have F4 := fun_mk (st := s_heavy_faces) l4 c4 k4
  have b4 := F4.binds (ps := ["die"]) fun _ _ _ _ _ _ us hl => match us, hl with | [_], _ => rfl
  have F5 := fun_mk (st := s_light_faces) l5 c5 k5
  have b5 := F5.binds (ps := ["die"]) fun _ _ _ _ _ _ us hl => match us, hl with | [_], _ => rfl
  have F6 := fun_mk (st := s_die_form) l6 c6 k6
  have b6 := F6.binds (ps := ["die"]) fun _ _ _ _ _ _ us hl => match us, hl with | [_], _ => rfl
  have F7 := fun_mk (st := s_is_heavy) l7 c7 k7
  have b7 := F7.binds (ps := ["die", "face"]) fun _ _ _ _ _ _ us hl => match us, hl with | [_, _], _ => rfl
  have F8 := fun_mk (st := s_face_place) l8 c8 k8
  have b8 := F8.binds (ps := ["die", "face"]) fun _ _ _ _ _ _ us hl => match us, hl with | [_, _], _ => rfl
  have F9 := fun_mk (st := s_kind_sizes) l9 c9 k9
  have b9 := F9.binds (ps := ["die", "throws"]) fun _ _ _ _ _ _ us hl => match us, hl with | [_, _], _ => rfl
  have F10 := fun_mk (st := s_kind_masses) l10 c10 k10
  have b10 := F10.binds (ps := ["die", "throws"]) fun _ _ _ _ _ _ us hl => match us, hl with | [_, _], _ => rfl
  have F11 := fun_mk (st := s_kind_size) l11 c11 k11
  have b11 := F11.binds (ps := ["die", "throws", "kind"]) fun _ _ _ _ _ _ us hl => match us, hl with | [_, _, _], _ => rfl
  have F12 := fun_mk (st := s_row_number) l12 c12 k12
  have b12 := F12.binds (ps := ["die", "faces"]) fun _ _ _ _ _ _ us hl => match us, hl with | [_, _], _ => rfl
  have F13 := fun_mk (st := s_heavy_places) l13 c13 k13
  have b13 := F13.binds (ps := ["throws", "kind", "place"]) fun _ _ _ _ _ _ us hl => match us, hl with | [_, _, _], _ => rfl
  have F14 := fun_mk (st := s_row_of_number) l14 c14 k14
  have b14 := F14.binds (ps := ["die", "throws", "kind", "number"]) fun _ _ _ _ _ _ us hl => match us, hl with | [_, _, _, _], _ => rfl
  have F15 := fun_mk (st := s_row_mass) l15 c15 k15
  have b15 := F15.binds (ps := ["die", "faces"]) fun _ _ _ _ _ _ us hl => match us, hl with | [_, _], _ => rfl
  have F16 := fun_mk (st := s_row_kind) l16 c16 k16
  have b16 := F16.binds (ps := ["die", "faces"]) fun _ _ _ _ _ _ us hl => match us, hl with | [_, _], _ => rfl
  have F17 := fun_mk (st := s_stretches) l17 c17 k17
  have b17 := F17.binds (ps := ["many"]) fun _ _ _ _ _ _ us hl => match us, hl with | [_], _ => rfl
  have F18 := fun_mk (st := s_bits_of) l18 c18 k18
  have b18 := F18.binds (ps := ["number", "many"]) fun _ _ _ _ _ _ us hl => match us, hl with | [_, _], _ => rfl
  have F19 := fun_mk (st := s_bits_of_number) l19 c19 k19
  have b19 := F19.binds (ps := ["number", "many"]) fun _ _ _ _ _ _ us hl => match us, hl with | [_, _], _ => rfl
  have F20 := fun_mk (st := s_row_bits) l20 c20 k20
  have b20 := F20.binds (ps := ["die", "faces"]) fun _ _ _ _ _ _ us hl => match us, hl with | [_, _], _ => rfl
  have F21 := fun_mk (st := s_bit_count) l21 c21 k21
  have b21 := F21.binds (ps := ["die", "throws"]) fun _ _ _ _ _ _ us hl => match us, hl with | [_, _], _ => rfl
  have F22 := fun_mk (st := s_bits_mean) l22 c22 k22
  have b22 := F22.binds (ps := ["die", "throws"]) fun _ _ _ _ _ _ us hl => match us, hl with | [_, _], _ => rfl
  have F23 := fun_mk (st := s_number_of_bits) l23 c23 k23
  have b23 := F23.binds (ps := ["bits"]) fun _ _ _ _ _ _ us hl => match us, hl with | [_], _ => rfl
  have F24 := fun_mk (st := s_row_for_bits) l24 c24 k24
  have b24 := F24.binds (ps := ["die", "throws", "kind", "bits"]) fun _ _ _ _ _ _ us hl => match us, hl with | [_, _, _, _], _ => rfl
  have F25 := fun_mk (st := s_all_rows) l25 c25 k25
  have b25 := F25.binds (ps := ["die", "throws"]) fun _ _ _ _ _ _ us hl => match us, hl with | [_, _], _ => rfl
  have F26 := fun_mk (st := s_rows_of_kind) l26 c26 k26
  have b26 := F26.binds (ps := ["die", "throws", "kind"]) fun _ _ _ _ _ _ us hl => match us, hl with | [_, _, _], _ => rfl
  have F27 := fun_mk (st := s_bits_of_row) l27 c27 k27
  have b27 := F27.binds (ps := ["die", "faces", "block"]) fun _ _ _ _ _ _ us hl => match us, hl with | [_, _, _], _ => rfl
  have F28 := fun_mk (st := s_even_bits) l28 c28 k28
  have b28 := F28.binds (ps := ["die", "throws"]) fun _ _ _ _ _ _ us hl => match us, hl with | [_, _], _ => rfl
  have F29 := fun_mk (st := s__law_jug) l29 c29 k29
  have b29 := F29.binds (ps := ["script"]) fun _ _ _ _ _ _ us hl => match us, hl with | [_], _ => rfl
  have F30 := fun_mk (st := s__law_pour) l30 c30 k30
  have b30 := F30.binds (ps := ["jug", "many"]) fun _ _ _ _ _ _ us hl => match us, hl with | [_, _], _ => rfl
  have F31 := fun_mk (st := s__law_die) l31 c31 k31
  have b31 := F31.binds (ps := ["jug", "most"]) fun _ _ _ _ _ _ us hl => match us, hl with | [_, _], _ => rfl
  have F32 := fun_mk (st := s__law_form) l32 c32 k32
  have b32 := F32.binds (ps := ["die"]) fun _ _ _ _ _ _ us hl => match us, hl with | [_], _ => rfl
  have F33 := fun_mk (st := s__law_choose) l33 c33 k33
  have b33 := F33.binds (ps := ["n", "k"]) fun _ _ _ _ _ _ us hl => match us, hl with | [_, _], _ => rfl
  have F34 := fun_mk (st := s__law_power) l34 c34 k34
  have b34 := F34.binds (ps := ["one", "many"]) fun _ _ _ _ _ _ us hl => match us, hl with | [_, _], _ => rfl
  have F35 := fun_mk (st := s__law_size) l35 c35 k35
  have b35 := F35.binds (ps := ["die", "throws", "kind"]) fun _ _ _ _ _ _ us hl => match us, hl with | [_, _, _], _ => rfl
  have F36 := fun_mk (st := s__law_mass) l36 c36 k36
  have b36 := F36.binds (ps := ["die", "faces"]) fun _ _ _ _ _ _ us hl => match us, hl with | [_, _], _ => rfl
  have F37 := fun_mk (st := s__law_kind) l37 c37 k37
  have b37 := F37.binds (ps := ["die", "faces"]) fun _ _ _ _ _ _ us hl => match us, hl with | [_, _], _ => rfl
  have F38 := fun_mk (st := s__law_kind_mass) l38 c38 k38
  have b38 := F38.binds (ps := ["die", "throws", "kind"]) fun _ _ _ _ _ _ us hl => match us, hl with | [_, _, _], _ => rfl
  have F39 := fun_mk (st := s__law_number) l39 c39 k39
  have b39 := F39.binds (ps := ["die", "faces"]) fun _ _ _ _ _ _ us hl => match us, hl with | [_, _], _ => rfl
  have F40 := fun_mk (st := s__law_row) l40 c40 k40
  have b40 := F40.binds (ps := ["die", "throws", "kind", "number"]) fun _ _ _ _ _ _ us hl => match us, hl with | [_, _, _, _], _ => rfl
  have F41 := fun_mk (st := s__law_rows) l41 c41 k41
  have b41 := F41.binds (ps := ["die", "throws"]) fun _ _ _ _ _ _ us hl => match us, hl with | [_, _], _ => rfl
  have F42 := fun_mk (st := s__law_fraction) l42 c42 k42
  have b42 := F42.binds (ps := ["top", "bottom"]) fun _ _ _ _ _ _ us hl => match us, hl with | [_, _], _ => rfl
  have F43 := fun_mk (st := s__law_same) l43 c43 k43
  have b43 := F43.binds (ps := ["told", "due"]) fun _ _ _ _ _ _ us hl => match us, hl with | [_, _], _ => rfl
  have F44 := fun_mk (st := s__law_stretch) l44 c44 k44
  have b44 := F44.binds (ps := ["whole", "digits"]) fun _ _ _ _ _ _ us hl => match us, hl with | [_, _], _ => rfl
  have F45 := fun_mk (st := s__law_bits) l45 c45 k45
  have b45 := F45.binds (ps := ["die", "faces"]) fun _ _ _ _ _ _ us hl => match us, hl with | [_, _], _ => rfl
  have F46 := fun_mk (st := s__law_counts) l46 c46 k46
  have b46 := F46.binds (ps := ["die", "throws"]) fun _ _ _ _ _ _ us hl => match us, hl with | [_, _], _ => rfl
  have F47 := fun_mk (st := s__law_counted) l47 c47 k47
  have b47 := F47.binds (ps := ["die", "throws"]) fun _ _ _ _ _ _ us hl => match us, hl with | [_, _], _ => rfl
  have F48 := fun_mk (st := s__law_all) l48 c48 k48
  have b48 := F48.binds (ps := ["die", "throws"]) fun _ _ _ _ _ _ us hl => match us, hl with | [_, _], _ => rfl
  have F49 := fun_mk (st := s__law_found) l49 c49 k49
  have b49 := F49.binds (ps := ["jug", "die", "throws", "kind", "bits"]) fun _ _ _ _ _ _ us hl => match us, hl with | [_, _, _, _, _], _ => rfl
  have F50 := fun_mk (st := s__law_row_right) l50 c50 k50
  have b50 := F50.binds (ps := ["jug", "die", "faces"]) fun _ _ _ _ _ _ us hl => match us, hl with | [_, _, _], _ => rfl
  have F51 := fun_mk (st := s__law_faces) l51 c51 k51
  have b51 := F51.binds (ps := ["jug", "die", "many"]) fun _ _ _ _ _ _ us hl => match us, hl with | [_, _, _], _ => rfl
  have F52 := fun_mk (st := s_law) l52 c52 k52
  have b52 := F52.binds (ps := ["script"]) fun _ _ _ _ _ _ us hl => match us, hl with | [_], _ => rfl
  refine ⟨PySem.W.fnOf "law" "law" (defArgs s_law) (defBody s_law) (defScope s_law) .none kV52 dc52 pm52 an52 cd52 ct52, fun s v => .of_eq rfl, fun base _ _ => ?_⟩
  have o0 := ok_choices (P := P) (w := w) (base := base) F0 B 
  have h_choices : Has CX0 P w K mg base "choices" 1 ["many", "few"] (spD K 2 m_choices) := Has.toM (m := (runB 4 den_choices)) ⟨⟨f0, _, PySem.W.mg_of X G a0, k0, b0, o0⟩⟩
  have o1 := ok_choice_row (P := P) (w := w) (base := base) F1 B 
  have h_choice_row : Has CX0 P w K mg base "choice_row" 1 ["many"] (spD K 1 m_choice_row) := Has.toM (m := (runB 3 den_choice_row)) ⟨⟨f1, _, PySem.W.mg_of X G a1, k1, b1, o1⟩⟩
  have o2 := ok_power (P := P) (w := w) (base := base) F2 B 
  have h_power : Has CX0 P w K mg base "power" 1 ["number", "times"] (spD K 2 m_power) := Has.toM (m := (runB 4 den_power)) ⟨⟨f2, _, PySem.W.mg_of X G a2, k2, b2, o2⟩⟩
  have o3 := ok_fraction (P := P) (w := w) (base := base) F3 B 
  have h_fraction : Has CX0 P w K mg base "fraction" 1 ["top", "bottom"] (spD K 2 m_fraction) := Has.toM (m := (runB 3 den_fraction)) ⟨⟨f3, _, PySem.W.mg_of X G a3, k3, b3, o3⟩⟩
  have o4 := ok_heavy_faces (P := P) (w := w) (base := base) F4 B 
  have h_heavy_faces : Has CX0 P w K mg base "heavy_faces" 1 ["die"] (spD K 1 m_heavy_faces) := Has.toM (m := (runB 3 den_heavy_faces)) ⟨⟨f4, _, PySem.W.mg_of X G a4, k4, b4, o4⟩⟩
  have o5 := ok_light_faces (P := P) (w := w) (base := base) F5 B 
  have h_light_faces : Has CX0 P w K mg base "light_faces" 1 ["die"] (spD K 1 m_light_faces) := Has.toM (m := (runB 3 den_light_faces)) ⟨⟨f5, _, PySem.W.mg_of X G a5, k5, b5, o5⟩⟩
  have o6 := ok_die_form (P := P) (w := w) (base := base) F6 B h_light_faces
  have h_die_form : Has CX0 P w K mg base "die_form" 2 ["die"] (spD K 1 m_die_form) := Has.toM (m := (runB 3 den_die_form)) ⟨⟨f6, _, PySem.W.mg_of X G a6, k6, b6, o6⟩⟩
  have o7 := ok_is_heavy (P := P) (w := w) (base := base) F7 B 
  have h_is_heavy : Has CX0 P w K mg base "is_heavy" 1 ["die", "face"] (spD K 2 m_is_heavy) := Has.toM (m := (runB 2 den_is_heavy)) ⟨⟨f7, _, PySem.W.mg_of X G a7, k7, b7, o7⟩⟩
  have o8 := ok_face_place (P := P) (w := w) (base := base) F8 B 
  have h_face_place : Has CX0 P w K mg base "face_place" 1 ["die", "face"] (spD K 2 m_face_place) := Has.toM (m := (runB 3 den_face_place)) ⟨⟨f8, _, PySem.W.mg_of X G a8, k8, b8, o8⟩⟩
  have o9 := ok_kind_sizes (P := P) (w := w) (base := base) F9 B h_die_form h_choice_row h_power
  have h_kind_sizes : Has CX0 P w K mg base "kind_sizes" 3 ["die", "throws"] (spD K 2 m_kind_sizes) := Has.toM (m := (runB 8 den_kind_sizes)) ⟨⟨f9, _, PySem.W.mg_of X G a9, k9, b9, o9⟩⟩
  have o10 := ok_kind_masses (P := P) (w := w) (base := base) F10 B h_die_form h_power
  have h_kind_masses : Has CX0 P w K mg base "kind_masses" 3 ["die", "throws"] (spD K 2 m_kind_masses) := Has.toM (m := (runB 7 den_kind_masses)) ⟨⟨f10, _, PySem.W.mg_of X G a10, k10, b10, o10⟩⟩
  have o11 := ok_kind_size (P := P) (w := w) (base := base) F11 B h_die_form h_choices h_power
  have h_kind_size : Has CX0 P w K mg base "kind_size" 3 ["die", "throws", "kind"] (spD K 3 m_kind_size) := Has.toM (m := (runB 7 den_kind_size)) ⟨⟨f11, _, PySem.W.mg_of X G a11, k11, b11, o11⟩⟩
  have o12 := ok_row_number (P := P) (w := w) (base := base) F12 B h_die_form h_is_heavy h_choices h_face_place h_power
  have h_row_number : Has CX0 P w K mg base "row_number" 3 ["die", "faces"] (spD K 2 m_row_number) := Has.toM (m := (runB 11 den_row_number)) ⟨⟨f12, _, PySem.W.mg_of X G a12, k12, b12, o12⟩⟩
  have o13 := ok_heavy_places (P := P) (w := w) (base := base) F13 B h_choices
  have h_heavy_places : Has CX0 P w K mg base "heavy_places" 2 ["throws", "kind", "place"] (spD K 3 m_heavy_places) := Has.toM (m := (runB 6 den_heavy_places)) ⟨⟨f13, _, PySem.W.mg_of X G a13, k13, b13, o13⟩⟩
  have o14 := ok_row_of_number (P := P) (w := w) (base := base) F14 B h_kind_size h_die_form h_power h_heavy_places h_heavy_faces h_light_faces
  have h_row_of_number : Has CX0 P w K mg base "row_of_number" 4 ["die", "throws", "kind", "number"] (spD K 4 m_row_of_number) := Has.toM (m := (runB 14 den_row_of_number)) ⟨⟨f14, _, PySem.W.mg_of X G a14, k14, b14, o14⟩⟩
  have o15 := ok_row_mass (P := P) (w := w) (base := base) F15 B 
  have h_row_mass : Has CX0 P w K mg base "row_mass" 1 ["die", "faces"] (spD K 2 m_row_mass) := Has.toM (m := (runB 4 den_row_mass)) ⟨⟨f15, _, PySem.W.mg_of X G a15, k15, b15, o15⟩⟩
  have o16 := ok_row_kind (P := P) (w := w) (base := base) F16 B 
  have h_row_kind : Has CX0 P w K mg base "row_kind" 1 ["die", "faces"] (spD K 2 m_row_kind) := Has.toM (m := (runB 3 den_row_kind)) ⟨⟨f16, _, PySem.W.mg_of X G a16, k16, b16, o16⟩⟩
  have o17 := ok_stretches (P := P) (w := w) (base := base) F17 B 
  have h_stretches : Has CX0 P w K mg base "stretches" 1 ["many"] (spD K 1 m_stretches) := Has.toM (m := (runB 2 den_stretches)) ⟨⟨f17, _, PySem.W.mg_of X G a17, k17, b17, o17⟩⟩
  have o18 := ok_bits_of (P := P) (w := w) (base := base) F18 B 
  have h_bits_of : Has CX0 P w K mg base "bits_of" 1 ["number", "many"] (spD K 2 m_bits_of) := Has.toM (m := (runB 3 den_bits_of)) ⟨⟨f18, _, PySem.W.mg_of X G a18, k18, b18, o18⟩⟩
  have o19 := ok_bits_of_number (P := P) (w := w) (base := base) F19 B h_stretches h_bits_of
  have h_bits_of_number : Has CX0 P w K mg base "bits_of_number" 2 ["number", "many"] (spD K 2 m_bits_of_number) := Has.toM (m := (runB 3 den_bits_of_number)) ⟨⟨f19, _, PySem.W.mg_of X G a19, k19, b19, o19⟩⟩
  have o20 := ok_row_bits (P := P) (w := w) (base := base) F20 B h_row_kind h_kind_size h_row_number h_bits_of_number
  have h_row_bits : Has CX0 P w K mg base "row_bits" 4 ["die", "faces"] (spD K 2 m_row_bits) := Has.toM (m := (runB 3 den_row_bits)) ⟨⟨f20, _, PySem.W.mg_of X G a20, k20, b20, o20⟩⟩
  have hk_row_bits : HasK CX0 P w K mg base "row_bits" 4 ["die", "faces"] ["faces", "die"] perm_row_bits (spD K 2 m_row_bits) := HasK.toM (m := (runB 3 den_row_bits)) ⟨⟨f20, _, pv_row_bits, pv_row_bits, PySem.W.mg_of X G a20, k20, ⟨fun s us ws _ hl => match us, ws, hl with | [], [_, _], _ => .of_eq rfl, fun r z => pl_row_bits r z⟩, pr_row_bits, o20⟩⟩
  have o21 := ok_bit_count (P := P) (w := w) (base := base) F21 B h_kind_masses h_kind_sizes h_stretches
  have h_bit_count : Has CX0 P w K mg base "bit_count" 4 ["die", "throws"] (spD K 2 m_bit_count) := Has.toM (m := (runB 6 den_bit_count)) ⟨⟨f21, _, PySem.W.mg_of X G a21, k21, b21, o21⟩⟩
  have o22 := ok_bits_mean (P := P) (w := w) (base := base) F22 B h_bit_count h_power h_fraction
  have h_bits_mean : Has CX0 P w K mg base "bits_mean" 5 ["die", "throws"] (spD K 2 m_bits_mean) := Has.toM (m := (runB 5 den_bits_mean)) ⟨⟨f22, _, PySem.W.mg_of X G a22, k22, b22, o22⟩⟩
  have o23 := ok_number_of_bits (P := P) (w := w) (base := base) F23 B 
  have h_number_of_bits : Has CX0 P w K mg base "number_of_bits" 1 ["bits"] (spD K 1 m_number_of_bits) := Has.toM (m := (runB 3 den_number_of_bits)) ⟨⟨f23, _, PySem.W.mg_of X G a23, k23, b23, o23⟩⟩
  have o24 := ok_row_for_bits (P := P) (w := w) (base := base) F24 B h_kind_size h_stretches h_number_of_bits h_row_of_number
  have h_row_for_bits : Has CX0 P w K mg base "row_for_bits" 5 ["die", "throws", "kind", "bits"] (spD K 4 m_row_for_bits) := Has.toM (m := (runB 6 den_row_for_bits)) ⟨⟨f24, _, PySem.W.mg_of X G a24, k24, b24, o24⟩⟩
  have hk_row_for_bits : HasK CX0 P w K mg base "row_for_bits" 5 ["die", "throws", "kind", "bits"] ["kind", "die", "throws", "bits"] perm_row_for_bits (spD K 4 m_row_for_bits) := HasK.toM (m := (runB 6 den_row_for_bits)) ⟨⟨f24, _, pv_row_for_bits, pv_row_for_bits, PySem.W.mg_of X G a24, k24, ⟨fun s us ws _ hl => match us, ws, hl with | [], [_, _, _, _], _ => .of_eq rfl, fun r z => pl_row_for_bits r z⟩, pr_row_for_bits, o24⟩⟩
  have o25 := ok_all_rows (P := P) (w := w) (base := base) F25 B 
  have h_all_rows : Has CX0 P w K mg base "all_rows" 1 ["die", "throws"] (spD K 2 m_all_rows) := Has.toM (m := (runB 6 den_all_rows)) ⟨⟨f25, _, PySem.W.mg_of X G a25, k25, b25, o25⟩⟩
  have o26 := ok_rows_of_kind (P := P) (w := w) (base := base) F26 B h_kind_size h_row_of_number
  have h_rows_of_kind : Has CX0 P w K mg base "rows_of_kind" 5 ["die", "throws", "kind"] (spD K 3 m_rows_of_kind) := Has.toM (m := (runB 5 den_rows_of_kind)) ⟨⟨f26, _, PySem.W.mg_of X G a26, k26, b26, o26⟩⟩
  have o27 := ok_bits_of_row (P := P) (w := w) (base := base) F27 B h_row_bits
  have h_bits_of_row : Has CX0 P w K mg base "bits_of_row" 5 ["die", "faces", "block"] (spD K 3 m_bits_of_row) := Has.toM (m := (runB 5 den_bits_of_row)) ⟨⟨f27, _, PySem.W.mg_of X G a27, k27, b27, o27⟩⟩
  have o28 := ok_even_bits (P := P) (w := w) (base := base) F28 B h_all_rows h_row_bits h_row_mass
  have h_even_bits : Has CX0 P w K mg base "even_bits" 5 ["die", "throws"] (spD K 2 m_even_bits) := Has.toM (m := (runB 8 den_even_bits)) ⟨⟨f28, _, PySem.W.mg_of X G a28, k28, b28, o28⟩⟩
  have o29 := ok__law_jug (P := P) (w := w) (base := base) F29 B 
  have h__law_jug : Has CX0 P w K mg base "_law_jug" 1 ["script"] (spD K 1 m__law_jug) := Has.toM (m := (runB 5 den__law_jug)) ⟨⟨f29, _, PySem.W.mg_of X G a29, k29, b29, o29⟩⟩
  have o30 := ok__law_pour (P := P) (w := w) (base := base) F30 B 
  have h__law_pour : Has CX0 P w K mg base "_law_pour" 1 ["jug", "many"] (spD K 2 m__law_pour) := Has.toM (m := (runB 4 den__law_pour)) ⟨⟨f30, _, PySem.W.mg_of X G a30, k30, b30, o30⟩⟩
  have o31 := ok__law_die (P := P) (w := w) (base := base) F31 B h__law_pour
  have h__law_die : Has CX0 P w K mg base "_law_die" 2 ["jug", "most"] (spD K 2 m__law_die) := Has.toM (m := (runB 7 den__law_die)) ⟨⟨f31, _, PySem.W.mg_of X G a31, k31, b31, o31⟩⟩
  have o32 := ok__law_form (P := P) (w := w) (base := base) F32 B 
  have h__law_form : Has CX0 P w K mg base "_law_form" 1 ["die"] (spD K 1 m__law_form) := Has.toM (m := (runB 3 den__law_form)) ⟨⟨f32, _, PySem.W.mg_of X G a32, k32, b32, o32⟩⟩
  have o33 := ok__law_choose (P := P) (w := w) (base := base) F33 B 
  have h__law_choose : Has CX0 P w K mg base "_law_choose" 1 ["n", "k"] (spD K 2 m__law_choose) := Has.toM (m := (runB 4 den__law_choose)) ⟨⟨f33, _, PySem.W.mg_of X G a33, k33, b33, o33⟩⟩
  have o34 := ok__law_power (P := P) (w := w) (base := base) F34 B 
  have h__law_power : Has CX0 P w K mg base "_law_power" 1 ["one", "many"] (spD K 2 m__law_power) := Has.toM (m := (runB 4 den__law_power)) ⟨⟨f34, _, PySem.W.mg_of X G a34, k34, b34, o34⟩⟩
  have o35 := ok__law_size (P := P) (w := w) (base := base) F35 B h__law_form h__law_choose h__law_power
  have h__law_size : Has CX0 P w K mg base "_law_size" 2 ["die", "throws", "kind"] (spD K 3 m__law_size) := Has.toM (m := (runB 7 den__law_size)) ⟨⟨f35, _, PySem.W.mg_of X G a35, k35, b35, o35⟩⟩
  have o36 := ok__law_mass (P := P) (w := w) (base := base) F36 B 
  have h__law_mass : Has CX0 P w K mg base "_law_mass" 1 ["die", "faces"] (spD K 2 m__law_mass) := Has.toM (m := (runB 4 den__law_mass)) ⟨⟨f36, _, PySem.W.mg_of X G a36, k36, b36, o36⟩⟩
  have o37 := ok__law_kind (P := P) (w := w) (base := base) F37 B 
  have h__law_kind : Has CX0 P w K mg base "_law_kind" 1 ["die", "faces"] (spD K 2 m__law_kind) := Has.toM (m := (runB 3 den__law_kind)) ⟨⟨f37, _, PySem.W.mg_of X G a37, k37, b37, o37⟩⟩
  have o38 := ok__law_kind_mass (P := P) (w := w) (base := base) F38 B h__law_form h__law_power
  have h__law_kind_mass : Has CX0 P w K mg base "_law_kind_mass" 2 ["die", "throws", "kind"] (spD K 3 m__law_kind_mass) := Has.toM (m := (runB 7 den__law_kind_mass)) ⟨⟨f38, _, PySem.W.mg_of X G a38, k38, b38, o38⟩⟩
  have o39 := ok__law_number (P := P) (w := w) (base := base) F39 B h__law_form h__law_power
  have h__law_number : Has CX0 P w K mg base "_law_number" 2 ["die", "faces"] (spD K 2 m__law_number) := Has.toM (m := (runB 13 den__law_number)) ⟨⟨f39, _, PySem.W.mg_of X G a39, k39, b39, o39⟩⟩
  have o40 := ok__law_row (P := P) (w := w) (base := base) F40 B h__law_form h__law_power h__law_choose
  have h__law_row : Has CX0 P w K mg base "_law_row" 2 ["die", "throws", "kind", "number"] (spD K 4 m__law_row) := Has.toM (m := (runB 17 den__law_row)) ⟨⟨f40, _, PySem.W.mg_of X G a40, k40, b40, o40⟩⟩
  have o41 := ok__law_rows (P := P) (w := w) (base := base) F41 B 
  have h__law_rows : Has CX0 P w K mg base "_law_rows" 1 ["die", "throws"] (spD K 2 m__law_rows) := Has.toM (m := (runB 7 den__law_rows)) ⟨⟨f41, _, PySem.W.mg_of X G a41, k41, b41, o41⟩⟩
  have o42 := ok__law_fraction (P := P) (w := w) (base := base) F42 B 
  have h__law_fraction : Has CX0 P w K mg base "_law_fraction" 1 ["top", "bottom"] (spD K 2 m__law_fraction) := Has.toM (m := (runB 4 den__law_fraction)) ⟨⟨f42, _, PySem.W.mg_of X G a42, k42, b42, o42⟩⟩
  have o43 := ok__law_same (P := P) (w := w) (base := base) F43 B 
  have h__law_same : Has CX0 P w K mg base "_law_same" 1 ["told", "due"] (spD K 2 m__law_same) := Has.toM (m := (runB 6 den__law_same)) ⟨⟨f43, _, PySem.W.mg_of X G a43, k43, b43, o43⟩⟩
  have o44 := ok__law_stretch (P := P) (w := w) (base := base) F44 B 
  have h__law_stretch : Has CX0 P w K mg base "_law_stretch" 1 ["whole", "digits"] (spD K 2 m__law_stretch) := Has.toM (m := (runB 4 den__law_stretch)) ⟨⟨f44, _, PySem.W.mg_of X G a44, k44, b44, o44⟩⟩
  have o45 := ok__law_bits (P := P) (w := w) (base := base) F45 B h__law_number h__law_kind h__law_size
  have h__law_bits : Has CX0 P w K mg base "_law_bits" 3 ["die", "faces"] (spD K 2 m__law_bits) := Has.toM (m := (runB 6 den__law_bits)) ⟨⟨f45, _, PySem.W.mg_of X G a45, k45, b45, o45⟩⟩
  have o46 := ok__law_counts (P := P) (w := w) (base := base) F46 B h__law_kind_mass h__law_size
  have h__law_counts : Has CX0 P w K mg base "_law_counts" 3 ["die", "throws"] (spD K 2 m__law_counts) := Has.toM (m := (runB 7 den__law_counts)) ⟨⟨f46, _, PySem.W.mg_of X G a46, k46, b46, o46⟩⟩
  have o47 := ok__law_counted (P := P) (w := w) (base := base) F47 B h__law_counts h__law_power h__law_fraction h_bits_mean h_bit_count h__law_same
  have h__law_counted : Has CX0 P w K mg base "_law_counted" 6 ["die", "throws"] (spD K 2 m__law_counted) := Has.toM (m := (runB 6 den__law_counted)) ⟨⟨f47, _, PySem.W.mg_of X G a47, k47, b47, o47⟩⟩
  have o48 := ok__law_all (P := P) (w := w) (base := base) F48 B h__law_rows h_even_bits h_all_rows h__law_same h__law_bits h_row_bits h__law_mass h__law_counts h__law_counted
  have h__law_all : Has CX0 P w K mg base "_law_all" 7 ["die", "throws"] (spD K 2 m__law_all) := Has.toM (m := (runB 8 den__law_all)) ⟨⟨f48, _, PySem.W.mg_of X G a48, k48, b48, o48⟩⟩
  have o49 := ok__law_found (P := P) (w := w) (base := base) F49 B h__law_size h__law_stretch h__law_row h_row_for_bits h__law_same
  have h__law_found : Has CX0 P w K mg base "_law_found" 6 ["jug", "die", "throws", "kind", "bits"] (spD K 5 m__law_found) := Has.toM (m := (runB 10 den__law_found)) ⟨⟨f49, _, PySem.W.mg_of X G a49, k49, b49, o49⟩⟩
  have o50 := ok__law_row_right (P := P) (w := w) (base := base) F50 B h__law_bits h__law_kind h_row_number h_kind_size h_row_bits h__law_number h__law_size h__law_same h__law_pour h__law_found h_bits_of_row hk_row_for_bits
  have h__law_row_right : Has CX0 P w K mg base "_law_row_right" 7 ["jug", "die", "faces"] (spD K 3 m__law_row_right) := Has.toM (m := (runB 17 den__law_row_right)) ⟨⟨f50, _, PySem.W.mg_of X G a50, k50, b50, o50⟩⟩
  have o51 := ok__law_faces (P := P) (w := w) (base := base) F51 B h__law_pour
  have h__law_faces : Has CX0 P w K mg base "_law_faces" 2 ["jug", "die", "many"] (spD K 3 m__law_faces) := Has.toM (m := (runB 6 den__law_faces)) ⟨⟨f51, _, PySem.W.mg_of X G a51, k51, b51, o51⟩⟩
  have o52 := ok_law (P := P) (w := w) (base := base) F52 B h__law_jug h__law_die h__law_pour h__law_all h__law_size h__law_row h_rows_of_kind h__law_same h__law_faces h__law_row_right h__law_counted h_row_bits h_row_of_number h_row_for_bits hk_row_bits
  refine o52.imp fun vs H Q E ⟨a, ns, e1, hS, hl, q⟩ => ?_
  subst e1
  obtain ⟨L, eL⟩ := run_law ns hl
  refine ⟨[], [], [.ro ns], Own.nil, Rws.one (by simp only [Rw]; exact ⟨a, rfl, hS⟩), rfl, ?_⟩
  rw [eL]
  intro ρ' H' v st ow r
  obtain rfl : v = .bl true := by simpa [Rw] using r
  exact q H'
theorem sqs_of {K : PySem.W.Frag} {H : Hp} {a : Addr} {xs : List V} (hO : Only H) (h : SqL K H a xs) : SqS K [] H a xs := by
  rcases h with h | h
  · rcases h with h | ⟨ob, h⟩
    · rcases hO a with z | ⟨o, ys, z⟩
      · rw [h] at z; cases z
      · rw [h] at z; cases z
    · exact .inl ⟨ob, h⟩
  · exact .inr h
theorem walk {l : PySem.W.OpenLaw} {q : Program} {loose : List Str} {XP : (Str → Option Value) → Heap → Prop} {YP : World → Heap → Prop} {d : DefRec} {K : Params → PySem.W.Frag} (hn : l.most = some 63) (hdf : d.params.defaults = [])
    (hY : ∀ (w : World) (h : Heap), YP w h → (K w.params).In h)
    (F : ∀ (w : World) (mg : Str → Option Value) (fa : Addr) (h : Heap), (K w.params).In h → h.Ns mainGlobals mg → mg d.name = some (.ref fa) →
      ∃ fd : FuncData, (∀ (s : Shared) (u : Value), BindsTo s fd ⟨[u], []⟩ [("script", u)]) ∧ ∀ base : Heap, (K w.params).In base → base.Ns mainGlobals mg → FnOk l.prog w (K w.params) mg base CX0 8 fa fd ["script"] (spLaw (K w.params))) :
    PySem.W.WalkO q loose XP YP l.row.toRowW d [] (fun f vs => PySem.call f vs) :=
  L2.walk_of (n := 63) (k := 8) (x := "script") (CX := fun _ => CX0) (sp := fun w => spLaw (K w.params)) hn (by decide) hdf ⟨rfl, by decide, by decide⟩ hY F (fun _ _ a ns hl hO hS => ⟨a, ns, rfl, sqs_of hO hS, hl, fun _ => rfl⟩) fun _ _ _ _ _ z => z
end Q81

set_option Elab.async false
set_option linter.all false
open PySem PySem.W PyProof.Rows
set_option maxRecDepth 100000 in
set_option maxHeartbeats 0 in
theorem PySem.Challenge.cw_throwntrue_k81_whole_bits_holds : PySem.Challenge.rw_throwntrue_k81_whole_bits.Holds := by
  w_on; o_law; k_head; (case hw => w_witness2)
  k_fill
  refine Q81.walk (l := PySem.Challenge.rw_throwntrue_k81_whole_bits) rfl rfl (fun w h Y => PySem.W.kIn_of Y) ?F
  case F =>
    intro w mg fa h KX G hmg
    refine' Q81.all_mk KX G hmg ?a0 ?l0 ?c0 ?k0 ?a1 ?l1 ?c1 ?k1 ?a2 ?l2 ?c2 ?k2 ?a3 ?l3 ?c3 ?k3 ?a4 ?l4 ?c4 ?k4 ?a5 ?l5 ?c5 ?k5 ?a6 ?l6 ?c6 ?k6 ?a7 ?l7 ?c7 ?k7 ?a8 ?l8 ?c8 ?k8 ?a9 ?l9 ?c9 ?k9 ?a10 ?l10 ?c10 ?k10 ?a11 ?l11 ?c11 ?k11 ?a12 ?l12 ?c12 ?k12 ?a13 ?l13 ?c13 ?k13 ?a14 ?l14 ?c14 ?k14 ?a15 ?l15 ?c15 ?k15 ?a16 ?l16 ?c16 ?k16 ?a17 ?l17 ?c17 ?k17 ?a18 ?l18 ?c18 ?k18 ?a19 ?l19 ?c19 ?k19 ?a20 ?l20 ?c20 ?k20 ?a21 ?l21 ?c21 ?k21 ?a22 ?l22 ?c22 ?k22 ?a23 ?l23 ?c23 ?k23 ?a24 ?l24 ?c24 ?k24 ?a25 ?l25 ?c25 ?k25 ?a26 ?l26 ?c26 ?k26 ?a27 ?l27 ?c27 ?k27 ?a28 ?l28 ?c28 ?k28 ?a29 ?l29 ?c29 ?k29 ?a30 ?l30 ?c30 ?k30 ?a31 ?l31 ?c31 ?k31 ?a32 ?l32 ?c32 ?k32 ?a33 ?l33 ?c33 ?k33 ?a34 ?l34 ?c34 ?k34 ?a35 ?l35 ?c35 ?k35 ?a36 ?l36 ?c36 ?k36 ?a37 ?l37 ?c37 ?k37 ?a38 ?l38 ?c38 ?k38 ?a39 ?l39 ?c39 ?k39 ?a40 ?l40 ?c40 ?k40 ?a41 ?l41 ?c41 ?k41 ?a42 ?l42 ?c42 ?k42 ?a43 ?l43 ?c43 ?k43 ?a44 ?l44 ?c44 ?k44 ?a45 ?l45 ?c45 ?k45 ?a46 ?l46 ?c46 ?k46 ?a47 ?l47 ?c47 ?k47 ?a48 ?l48 ?c48 ?k48 ?a49 ?l49 ?c49 ?k49 ?a50 ?l50 ?c50 ?k50 ?a51 ?l51 ?c51 ?k51 ?a52 ?l52 ?c52 ?k52 ?z_abs ?z_bool ?z_enumerate ?z_int ?z_isinstance ?z_len ?z_list ?z_max ?z_min ?z_range ?z_str ?z_sum ?z_tuple ?z_zip ?z_gcd
    (case a0 => k_is)
    (case l0 => k_is)
    (case c0 => k_is)
    (case k0 => k_is)
    (case a1 => k_is)
    (case l1 => k_is)
    (case c1 => k_is)
    (case k1 => k_is)
    (case a2 => k_is)
    (case l2 => k_is)
    (case c2 => k_is)
    (case k2 => k_is)
    (case a3 => k_is)
    (case l3 => k_is)
    (case c3 => k_is)
    (case k3 => k_is)
    (case a4 => k_is)
    (case l4 => k_is)
    (case c4 => k_is)
    (case k4 => k_is)
    (case a5 => k_is)
    (case l5 => k_is)
    (case c5 => k_is)
    (case k5 => k_is)
    (case a6 => k_is)
    (case l6 => k_is)
    (case c6 => k_is)
    (case k6 => k_is)
    (case a7 => k_is)
    (case l7 => k_is)
    (case c7 => k_is)
    (case k7 => k_is)
    (case a8 => k_is)
    (case l8 => k_is)
    (case c8 => k_is)
    (case k8 => k_is)
    (case a9 => k_is)
    (case l9 => k_is)
    (case c9 => k_is)
    (case k9 => k_is)
    (case a10 => k_is)
    (case l10 => k_is)
    (case c10 => k_is)
    (case k10 => k_is)
    (case a11 => k_is)
    (case l11 => k_is)
    (case c11 => k_is)
    (case k11 => k_is)
    (case a12 => k_is)
    (case l12 => k_is)
    (case c12 => k_is)
    (case k12 => k_is)
    (case a13 => k_is)
    (case l13 => k_is)
    (case c13 => k_is)
    (case k13 => k_is)
    (case a14 => k_is)
    (case l14 => k_is)
    (case c14 => k_is)
    (case k14 => k_is)
    (case a15 => k_is)
    (case l15 => k_is)
    (case c15 => k_is)
    (case k15 => k_is)
    (case a16 => k_is)
    (case l16 => k_is)
    (case c16 => k_is)
    (case k16 => k_is)
    (case a17 => k_is)
    (case l17 => k_is)
    (case c17 => k_is)
    (case k17 => k_is)
    (case a18 => k_is)
    (case l18 => k_is)
    (case c18 => k_is)
    (case k18 => k_is)
    (case a19 => k_is)
    (case l19 => k_is)
    (case c19 => k_is)
    (case k19 => k_is)
    (case a20 => k_is)
    (case l20 => k_is)
    (case c20 => k_is)
    (case k20 => k_is)
    (case a21 => k_is)
    (case l21 => k_is)
    (case c21 => k_is)
    (case k21 => k_is)
    (case a22 => k_is)
    (case l22 => k_is)
    (case c22 => k_is)
    (case k22 => k_is)
    (case a23 => k_is)
    (case l23 => k_is)
    (case c23 => k_is)
    (case k23 => k_is)
    (case a24 => k_is)
    (case l24 => k_is)
    (case c24 => k_is)
    (case k24 => k_is)
    (case a25 => k_is)
    (case l25 => k_is)
    (case c25 => k_is)
    (case k25 => k_is)
    (case a26 => k_is)
    (case l26 => k_is)
    (case c26 => k_is)
    (case k26 => k_is)
    (case a27 => k_is)
    (case l27 => k_is)
    (case c27 => k_is)
    (case k27 => k_is)
    (case a28 => k_is)
    (case l28 => k_is)
    (case c28 => k_is)
    (case k28 => k_is)
    (case a29 => k_is)
    (case l29 => k_is)
    (case c29 => k_is)
    (case k29 => k_is)
    (case a30 => k_is)
    (case l30 => k_is)
    (case c30 => k_is)
    (case k30 => k_is)
    (case a31 => k_is)
    (case l31 => k_is)
    (case c31 => k_is)
    (case k31 => k_is)
    (case a32 => k_is)
    (case l32 => k_is)
    (case c32 => k_is)
    (case k32 => k_is)
    (case a33 => k_is)
    (case l33 => k_is)
    (case c33 => k_is)
    (case k33 => k_is)
    (case a34 => k_is)
    (case l34 => k_is)
    (case c34 => k_is)
    (case k34 => k_is)
    (case a35 => k_is)
    (case l35 => k_is)
    (case c35 => k_is)
    (case k35 => k_is)
    (case a36 => k_is)
    (case l36 => k_is)
    (case c36 => k_is)
    (case k36 => k_is)
    (case a37 => k_is)
    (case l37 => k_is)
    (case c37 => k_is)
    (case k37 => k_is)
    (case a38 => k_is)
    (case l38 => k_is)
    (case c38 => k_is)
    (case k38 => k_is)
    (case a39 => k_is)
    (case l39 => k_is)
    (case c39 => k_is)
    (case k39 => k_is)
    (case a40 => k_is)
    (case l40 => k_is)
    (case c40 => k_is)
    (case k40 => k_is)
    (case a41 => k_is)
    (case l41 => k_is)
    (case c41 => k_is)
    (case k41 => k_is)
    (case a42 => k_is)
    (case l42 => k_is)
    (case c42 => k_is)
    (case k42 => k_is)
    (case a43 => k_is)
    (case l43 => k_is)
    (case c43 => k_is)
    (case k43 => k_is)
    (case a44 => k_is)
    (case l44 => k_is)
    (case c44 => k_is)
    (case k44 => k_is)
    (case a45 => k_is)
    (case l45 => k_is)
    (case c45 => k_is)
    (case k45 => k_is)
    (case a46 => k_is)
    (case l46 => k_is)
    (case c46 => k_is)
    (case k46 => k_is)
    (case a47 => k_is)
    (case l47 => k_is)
    (case c47 => k_is)
    (case k47 => k_is)
    (case a48 => k_is)
    (case l48 => k_is)
    (case c48 => k_is)
    (case k48 => k_is)
    (case a49 => k_is)
    (case l49 => k_is)
    (case c49 => k_is)
    (case k49 => k_is)
    (case a50 => k_is)
    (case l50 => k_is)
    (case c50 => k_is)
    (case k50 => k_is)
    (case a51 => k_is)
    (case l51 => k_is)
    (case c51 => k_is)
    (case k51 => k_is)
    (case a52 => k_is)
    (case l52 => k_is)
    (case c52 => k_is)
    (case k52 => k_is)
    (case z_abs => k_is)
    (case z_bool => k_is)
    (case z_enumerate => k_is)
    (case z_int => k_is)
    (case z_isinstance => k_is)
    (case z_len => k_is)
    (case z_list => k_is)
    (case z_max => k_is)
    (case z_min => k_is)
    (case z_range => k_is)
    (case z_str => k_is)
    (case z_sum => k_is)
    (case z_tuple => k_is)
    (case z_zip => k_is)
    (case z_gcd => k_is)

