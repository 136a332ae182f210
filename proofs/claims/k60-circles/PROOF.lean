import PyProof.Rows.All
import HandS.ForMost
import HandS.Exc
import HandS.ExcOwn
import HandS.TryOnly
import HandS.WordsExc
import HandS.IsInst
import HandS.ExcIs
import HandS.Wide
import HandS.Flow
import HandS.Defaults
import HandS.Deep
import HandS.Zip
import HandS.TupAny
import KE.KStateDown
import HandS.Ends
import HandS.More
import HandS.Words
import Lean
import HandS.Head0
import HandS.Head1
import HandS.Head2
import HandS.HeadEnd
import HandS.HeadHook1
import HandS.HeadHook2
import PyProof.ExcBaseAll.ValueError
import KE.KEqSeq
import PySem.Challenge.RW_roundsides_k60_circles_as_curves
set_option Elab.async false
set_option linter.all false
set_option maxRecDepth 100000
set_option maxHeartbeats 0
/-! The R road, part a: plain data, the store, what stands for what in the abstract heap. -/
namespace RS
open PySem PySem.Spec PyProof.Rows L2

inductive D where
  | non | bl (b : Bool) | int (i : Int) | str (s : Str) | tup (l : List D) | lst (l : List D) | cell (i : Nat) | fn (x : Str) | exc (c : Str)
inductive Cell where
  | lst (l : List D)
  | obj (c : Str) (fs : List (Str × D))
abbrev Sto := List Cell
abbrev Vs := List (Option D)
inductive R (α : Type) where
  | ok (a : α) (μ : Sto)
  | er (c : Str) (μ : Sto)
  | no
def R.bind {α β : Type} (r : R α) (f : α → Sto → R β) : R β := match r with
  | .ok a μ => f a μ
  | .er c μ => .er c μ
  | .no => .no

/-! ### the cells within lie below n -/
mutual
def cb (n : Nat) : D → Bool
  | .cell i => decide (i < n)
  | .tup l => cbs n l
  | .lst l => cbs n l
  | _ => true
def cbs (n : Nat) : List D → Bool
  | [] => true
  | d :: ds => cb n d && cbs n ds
end
mutual
theorem cb_mono {m n : Nat} (h : m ≤ n) : ∀ {d : D}, cb m d = true → cb n d = true
  | .non, _ => rfl
  | .bl _, _ => rfl
  | .int _, _ => rfl
  | .str _, _ => rfl
  | .fn _, _ => rfl
  | .exc _, _ => rfl
  | .cell i, e => by
    simp only [cb, decide_eq_true_eq] at e ⊢
    omega
  | .tup l, e => by
    simp only [cb] at e ⊢
    exact cbs_mono h e
  | .lst l, e => by
    simp only [cb] at e ⊢
    exact cbs_mono h e
theorem cbs_mono {m n : Nat} (h : m ≤ n) : ∀ {ds : List D}, cbs m ds = true → cbs n ds = true
  | [], _ => rfl
  | d :: ds, e => by
    simp only [cbs, Bool.and_eq_true] at e ⊢
    exact ⟨cb_mono h e.1, cbs_mono h e.2⟩
end
abbrev nc : D → Bool := cb 0
abbrev ncs : List D → Bool := cbs 0

/-- the module's meaning: the written part, the names -/
structure Gm where
  K : PySem.W.Frag
  mg : Str → Option Value

/-- what is ours: the cells' places in the store's order, and all that no plain list may be -/
structure Ow where
  c : List Addr
  o : List Addr
  sub : ∀ a ∈ c, a ∈ o
def Ow.add (ρ : Ow) (p : Addr) : Ow := ⟨ρ.c ++ [p], ρ.o ++ [p], fun a h => by
  rcases List.mem_append.mp h with h | h
  · exact List.mem_append_left _ (ρ.sub a h)
  · exact List.mem_append_right _ h⟩
/-- held for a while, no cell -/
def Ow.lend (ρ : Ow) (p : Addr) : Ow := ⟨ρ.c, p :: ρ.o, fun a h => List.mem_cons_of_mem _ (ρ.sub a h)⟩
structure Ow.Le (ρ ρ' : Ow) : Prop where
  c : ∃ ex, ρ'.c = ρ.c ++ ex
  o : ∀ a ∈ ρ.o, a ∈ ρ'.o
theorem Ow.Le.refl {ρ : Ow} : ρ.Le ρ := ⟨⟨[], by simp⟩, fun _ h => h⟩
theorem Ow.Le.trans {a b c : Ow} (h : a.Le b) (k : b.Le c) : a.Le c := ⟨by
  obtain ⟨e1, h1⟩ := h.c
  obtain ⟨e2, h2⟩ := k.c
  exact ⟨e1 ++ e2, by rw [h2, h1, List.append_assoc]⟩, fun a m => k.o a (h.o a m)⟩
theorem Ow.le_add {ρ : Ow} {p : Addr} : ρ.Le (ρ.add p) := ⟨⟨[p], rfl⟩, fun _ h => List.mem_append_left _ h⟩
theorem Ow.le_lend {ρ : Ow} {p : Addr} : ρ.Le (ρ.lend p) := ⟨⟨[], by simp [Ow.lend]⟩, fun _ h => List.mem_cons_of_mem _ h⟩

/-- a list of the written part -/
def KL (K : PySem.W.Frag) (a : Addr) (xs : List V) : Prop :=
  ∃ (o : Obj) (its : Array Value) (n : Nat), K.lookup a = some o ∧ o.cls = .type "list" ∧ o.dict = none ∧ o.data = .seq its n ∧ its.size ≤ sizeLine ∧ Vals xs its.toList
/-- a list that is not ours to change -/
def LAt (K : PySem.W.Frag) (ρ : Ow) (H : Hp) (a : Addr) (xs : List V) : Prop := (Rd H a (.lst xs) ∧ a ∉ ρ.o) ∨ KL K a xs
theorem LAt.sq {K : PySem.W.Frag} {ρ : Ow} {H : Hp} {a : Addr} {xs : List V} (h : LAt K ρ H a xs) : SqL K H a xs := by
  rcases h with h | h
  · exact .inl h.1
  · exact .inr h
/-- a caught exception's object -/
def excAt (a ca : Addr) : Heap → Prop := fun h => ∃ o vs, h.get? a = some o ∧ Zc (.ref ca) none o ∧ o.data = .fields vs

mutual
inductive DV (G : Gm) (ρ : Ow) (H : Hp) : D → V → Prop
  | non : DV G ρ H .non .non
  | bl (b : Bool) : DV G ρ H (.bl b) (.bl b)
  | int (i : Int) : DV G ρ H (.int i) (.int i)
  | str (x : Str) : DV G ρ H (.str x) (.str x)
  | tup {ds : List D} {a : Addr} {vs : List V} : SqT G.K H a vs → DVs G ρ H ds vs → DV G ρ H (.tup ds) (.ref a)
  | lst {ds : List D} {a : Addr} {vs : List V} : LAt G.K ρ H a vs → DVs G ρ H ds vs → DV G ρ H (.lst ds) (.ref a)
  | cell {i : Nat} {a : Addr} : ρ.c[i]? = some a → DV G ρ H (.cell i) (.ref a)
  | fn {x : Str} {a : Addr} : G.mg x = some (.ref a) → DV G ρ H (.fn x) (.ref a)
  | exc {c : Str} {a ca : Addr} : H a = some (.ext (excAt a ca)) → G.mg c = some (.ref ca) → DV G ρ H (.exc c) (.ref a)
inductive DVs (G : Gm) (ρ : Ow) (H : Hp) : List D → List V → Prop
  | nil : DVs G ρ H [] []
  | cons {d : D} {v : V} {ds : List D} {vs : List V} : DV G ρ H d v → DVs G ρ H ds vs → DVs G ρ H (d :: ds) (v :: vs)
end

def isM : HO → Bool
  | .lst _ => true
  | .ins _ _ _ => true
  | _ => false
/-- all stands but what is ours to change; nothing goes -/
structure Ext (ρ : Ow) (H H' : Hp) : Prop where
  k : ∀ a o, H a = some o → (a ∉ ρ.c ∨ isM o = false) → H' a = some o
  d : ∀ a, H' a = none → H a = none
theorem Ext.refl {ρ : Ow} {H : Hp} : Ext ρ H H := ⟨fun _ _ h _ => h, fun _ h => h⟩
theorem Ext.trans {ρ : Ow} {H H1 H2 : Hp} (a : Ext ρ H H1) (b : Ext ρ H1 H2) : Ext ρ H H2 :=
  ⟨fun x o h c => b.k x o (a.k x o h c) c, fun x h => a.d x (b.d x h)⟩
/-- all stands -/
def Gr (H H' : Hp) : Prop := ∀ a o, H a = some o → H' a = some o
theorem Gr.refl {H : Hp} : Gr H H := fun _ _ h => h
theorem Gr.ext {ρ : Ow} {H H' : Hp} (g : Gr H H') : Ext ρ H H' := ⟨fun a o h _ => g a o h, fun a h => by
  cases e : H a with
  | none => rfl
  | some o => rw [g a o e] at h; cases h⟩
theorem Gr.new {H : Hp} {p : Addr} {o : HO} (h : H p = none) : Gr H (upd H p o) := fun a u e => by
  rw [upd_ne (ne_of_none e h)]; exact e

section
variable {G : Gm} {ρ : Ow} {H H' : Hp}
theorem SqT.ext {K : PySem.W.Frag} {a : Addr} {vs : List V} (x : Ext ρ H H') (h : SqT K H a vs) : SqT K H' a vs := by
  rcases h with h | h
  · rcases h with h | ⟨o, h⟩
    · exact .inl (.inl (x.k _ _ h (.inr rfl)))
    · exact .inl (.inr ⟨o, x.k _ _ h (.inr rfl)⟩)
  · exact .inr h
theorem LAt.ext {K : PySem.W.Frag} {a : Addr} {vs : List V} (x : Ext ρ H H') (h : LAt K ρ H a vs) : LAt K ρ H' a vs := by
  rcases h with ⟨h, n⟩ | h
  · rcases h with h | ⟨o, h⟩
    · exact .inl ⟨.inl (x.k _ _ h (.inl fun m => n (ρ.sub a m))), n⟩
    · exact .inl ⟨.inr ⟨o, x.k _ _ h (.inr rfl)⟩, n⟩
  · exact .inr h
mutual
theorem DV.ext (x : Ext ρ H H') : ∀ {d : D} {v : V}, DV G ρ H d v → DV G ρ H' d v
  | _, _, .non => .non
  | _, _, .bl b => .bl b
  | _, _, .int i => .int i
  | _, _, .str s => .str s
  | _, _, .tup h t => .tup (SqT.ext x h) (DVs.ext x t)
  | _, _, .lst h t => .lst (LAt.ext x h) (DVs.ext x t)
  | _, _, .cell h => .cell h
  | _, _, .fn h => .fn h
  | _, _, .exc h c => .exc (x.k _ _ h (.inr rfl)) c
theorem DVs.ext (x : Ext ρ H H') : ∀ {ds : List D} {vs : List V}, DVs G ρ H ds vs → DVs G ρ H' ds vs
  | _, _, .nil => .nil
  | _, _, .cons h t => .cons (DV.ext x h) (DVs.ext x t)
end
/-- a new one of ours beside -/
theorem LAt.ours {K : PySem.W.Frag} {a p : Addr} {vs : List V} {H0 : Hp} (x : Ext ρ H0 H') (hp : H0 p = none) (h : LAt K ρ H0 a vs) : LAt K (ρ.add p) H' a vs := by
  rcases h with ⟨h, n⟩ | h
  · refine .inl ⟨?_, ?_⟩
    · rcases h with h | ⟨o, h⟩
      · exact .inl (x.k _ _ h (.inl fun m => n (ρ.sub a m)))
      · exact .inr ⟨o, x.k _ _ h (.inr rfl)⟩
    · intro hm
      rcases List.mem_append.mp hm with hm | hm
      · exact n hm
      · have e : a = p := by simpa using hm
        subst e
        rcases h with h | ⟨o, h⟩ <;> (rw [hp] at h; cases h)
  · exact .inr h
theorem LAt.lend {K : PySem.W.Frag} {a p : Addr} {vs : List V} {H0 : Hp} (x : Ext ρ H0 H') (hp : H0 p = none) (h : LAt K ρ H0 a vs) : LAt K (ρ.lend p) H' a vs := by
  rcases h with ⟨h, n⟩ | h
  · refine .inl ⟨?_, ?_⟩
    · rcases h with h | ⟨o, h⟩
      · exact .inl (x.k _ _ h (.inl fun m => n (ρ.sub a m)))
      · exact .inr ⟨o, x.k _ _ h (.inr rfl)⟩
    · intro hm
      rcases List.mem_cons.mp hm with e | hm
      · subst e
        rcases h with h | ⟨o, h⟩ <;> (rw [hp] at h; cases h)
      · exact n hm
  · exact .inr h
mutual
theorem DV.ours {p : Addr} (x : Ext ρ H H') (hp : H p = none) : ∀ {d : D} {v : V}, DV G ρ H d v → DV G (ρ.add p) H' d v
  | _, _, .non => .non
  | _, _, .bl b => .bl b
  | _, _, .int i => .int i
  | _, _, .str s => .str s
  | _, _, .tup h t => .tup (SqT.ext x h) (DVs.ours x hp t)
  | _, _, .lst h t => .lst (LAt.ours x hp h) (DVs.ours x hp t)
  | _, _, .cell h => .cell (by
      have := (List.getElem?_eq_some_iff.mp h).1
      show (ρ.c ++ [p])[_]? = _
      rw [List.getElem?_append_left this]; exact h)
  | _, _, .fn h => .fn h
  | _, _, .exc h c => .exc (x.k _ _ h (.inr rfl)) c
theorem DVs.ours {p : Addr} (x : Ext ρ H H') (hp : H p = none) : ∀ {ds : List D} {vs : List V}, DVs G ρ H ds vs → DVs G (ρ.add p) H' ds vs
  | _, _, .nil => .nil
  | _, _, .cons h t => .cons (DV.ours x hp h) (DVs.ours x hp t)
end
mutual
theorem DV.lend {p : Addr} (x : Ext ρ H H') (hp : H p = none) : ∀ {d : D} {v : V}, DV G ρ H d v → DV G (ρ.lend p) H' d v
  | _, _, .non => .non
  | _, _, .bl b => .bl b
  | _, _, .int i => .int i
  | _, _, .str s => .str s
  | _, _, .tup h t => .tup (SqT.ext x h) (DVs.lend x hp t)
  | _, _, .lst h t => .lst (LAt.lend x hp h) (DVs.lend x hp t)
  | _, _, .cell h => .cell h
  | _, _, .fn h => .fn h
  | _, _, .exc h c => .exc (x.k _ _ h (.inr rfl)) c
theorem DVs.lend {p : Addr} (x : Ext ρ H H') (hp : H p = none) : ∀ {ds : List D} {vs : List V}, DVs G ρ H ds vs → DVs G (ρ.lend p) H' ds vs
  | _, _, .nil => .nil
  | _, _, .cons h t => .cons (DV.lend x hp h) (DVs.lend x hp t)
end
/-- fewer of ours -/
theorem LAt.less {ρ' : Ow} {K : PySem.W.Frag} {a : Addr} {vs : List V} (l : ρ.Le ρ') (h : LAt K ρ' H a vs) : LAt K ρ H a vs := by
  rcases h with ⟨h, n⟩ | h
  · exact .inl ⟨h, fun m => n (l.o a m)⟩
  · exact .inr h
mutual
theorem DV.less {ρ' : Ow} (l : ρ.Le ρ') : ∀ {d : D} {v : V}, cb ρ.c.length d = true → DV G ρ' H d v → DV G ρ H d v
  | _, _, _, .non => .non
  | _, _, _, .bl b => .bl b
  | _, _, _, .int i => .int i
  | _, _, _, .str s => .str s
  | _, _, n, .tup h t => .tup h (DVs.less l (by simpa [cb] using n) t)
  | _, _, n, .lst h t => .lst (h.less l) (DVs.less l (by simpa [cb] using n) t)
  | _, _, n, .cell h => .cell (by
      simp only [cb, decide_eq_true_eq] at n
      obtain ⟨ex, e⟩ := l.c
      rw [e, List.getElem?_append_left n] at h; exact h)
  | _, _, _, .fn h => .fn h
  | _, _, _, .exc h c => .exc h c
theorem DVs.less {ρ' : Ow} (l : ρ.Le ρ') : ∀ {ds : List D} {vs : List V}, cbs ρ.c.length ds = true → DVs G ρ' H ds vs → DVs G ρ H ds vs
  | _, _, _, .nil => .nil
  | _, _, n, .cons h t => by
    simp only [cbs, Bool.and_eq_true] at n
    exact .cons (DV.less l n.1 h) (DVs.less l n.2 t)
end
/-- what was lent is given back -/
theorem DV.unlend {p : Addr} {d : D} {v : V} (h : DV G (ρ.lend p) H d v) : DV G ρ H d v := by
  revert h
  exact go.1 d v
where
  go : (∀ d v, DV G (ρ.lend p) H d v → DV G ρ H d v) ∧ (∀ ds vs, DVs G (ρ.lend p) H ds vs → DVs G ρ H ds vs) := by
    refine ⟨fun d v h => ?_, fun ds vs h => ?_⟩
    · exact DV.rec (motive_1 := fun d v _ => DV G ρ H d v) (motive_2 := fun ds vs _ => DVs G ρ H ds vs) .non .bl .int .str (fun h _ t => .tup h t) (fun h _ t => .lst (h.less Ow.le_lend) t) (fun h => .cell h) (fun h => .fn h) (fun h c => .exc h c) .nil (fun _ _ a b => .cons a b) h
    · exact DVs.rec (motive_1 := fun d v _ => DV G ρ H d v) (motive_2 := fun ds vs _ => DVs G ρ H ds vs) .non .bl .int .str (fun h _ t => .tup h t) (fun h _ t => .lst (h.less Ow.le_lend) t) (fun h => .cell h) (fun h => .fn h) (fun h c => .exc h c) .nil (fun _ _ a b => .cons a b) h
theorem DVs.unlend {p : Addr} {ds : List D} {vs : List V} (h : DVs G (ρ.lend p) H ds vs) : DVs G ρ H ds vs := DV.unlend.go.2 ds vs h
theorem DVs.length : ∀ {ds : List D} {vs : List V}, DVs G ρ H ds vs → ds.length = vs.length
  | _, _, .nil => rfl
  | _, _, .cons _ t => by simp [DVs.length t]
theorem DVs.get : ∀ {ds : List D} {vs : List V} {i : Nat} {d : D}, DVs G ρ H ds vs → ds[i]? = some d → ∃ v, vs[i]? = some v ∧ DV G ρ H d v
  | _, _, _, _, .nil, e => by simp at e
  | _, _, 0, _, .cons h _, e => by simp at e; subst e; exact ⟨_, rfl, h⟩
  | _, _, i + 1, d, .cons _ t, e => by
    obtain ⟨v, h1, h2⟩ := DVs.get (i := i) (d := d) t (by simpa using e)
    exact ⟨v, by simpa using h1, h2⟩
theorem DVs.append : ∀ {ds es : List D} {vs us : List V}, DVs G ρ H ds vs → DVs G ρ H es us → DVs G ρ H (ds ++ es) (vs ++ us)
  | _, _, _, _, .nil, s => s
  | _, _, _, _, .cons h t, s => .cons h (DVs.append t s)
theorem DVs.set {x : D} {v : V} (r : DV G ρ H x v) : ∀ {ds : List D} {vs : List V} (i : Nat), DVs G ρ H ds vs → DVs G ρ H (ds.set i x) (vs.set i v)
  | _, _, _, .nil => .nil
  | _, _, 0, .cons _ t => .cons r t
  | _, _, i + 1, .cons h t => .cons h (DVs.set r i t)
theorem DVs.take : ∀ {ds : List D} {vs : List V} (n : Nat), DVs G ρ H ds vs → DVs G ρ H (ds.take n) (vs.take n)
  | _, _, 0, _ => by simp; exact .nil
  | _, _, n + 1, .nil => by simp; exact .nil
  | _, _, n + 1, .cons h t => .cons h (DVs.take n t)
theorem DVs.drop : ∀ {ds : List D} {vs : List V} (n : Nat), DVs G ρ H ds vs → DVs G ρ H (ds.drop n) (vs.drop n)
  | _, _, 0, r => r
  | _, _, n + 1, .nil => .nil
  | _, _, n + 1, .cons _ t => DVs.drop n t
end

/-! ### the store -/
def FV (G : Gm) (ρ : Ow) (H : Hp) : List (Str × D) → List (Str × V) → Prop
  | [], [] => True
  | (x, d) :: fs, (y, v) :: gs => x = y ∧ DV G ρ H d v ∧ FV G ρ H fs gs
  | _, _ => False
def CAt (G : Gm) (ρ : Ow) (H : Hp) (a : Addr) : Cell → Prop
  | .lst ds => ∃ vs, H a = some (.lst vs) ∧ DVs G ρ H ds vs ∧ ncs ds = true
  | .obj c fs => ∃ C dx gs, G.mg c = some (.ref C) ∧ H a = some (.ins C dx gs) ∧ FV G ρ H fs gs
structure SRel (G : Gm) (ρ : Ow) (μ : Sto) (H : Hp) : Prop where
  len : ρ.c.length = μ.length
  nd : ρ.c.Nodup
  at_ : ∀ (i : Nat) c, μ[i]? = some c → ∃ a, ρ.c[i]? = some a ∧ CAt G ρ H a c
  all : ∀ a ∈ ρ.o, H a ≠ none
section
variable {G : Gm} {ρ : Ow} {μ : Sto} {H H' : Hp}
theorem FV.ext (x : Ext ρ H H') : ∀ {fs : List (Str × D)} {gs : List (Str × V)}, FV G ρ H fs gs → FV G ρ H' fs gs
  | [], [], _ => trivial
  | (_, _) :: _, (_, _) :: _, h => ⟨h.1, h.2.1.ext x, FV.ext x h.2.2⟩
  | [], _ :: _, h => h.elim
  | _ :: _, [], h => h.elim
theorem CAt.there {a : Addr} {c : Cell} (h : CAt G ρ H a c) : ∃ o, H a = some o ∧ isM o = true := by
  cases c with
  | lst ds => obtain ⟨vs, e, _⟩ := h; exact ⟨_, e, rfl⟩
  | obj c fs => obtain ⟨C, dx, gs, _, e, _⟩ := h; exact ⟨_, e, rfl⟩
theorem CAt.gr {a : Addr} {c : Cell} (g : Gr H H') (h : CAt G ρ H a c) : CAt G ρ H' a c := by
  cases c with
  | lst ds => obtain ⟨vs, e, d, n⟩ := h; exact ⟨vs, g _ _ e, d.ext g.ext, n⟩
  | obj c fs => obtain ⟨C, dx, gs, m, e, f⟩ := h; exact ⟨C, dx, gs, m, g _ _ e, f.ext g.ext⟩
theorem SRel.gr (s : SRel G ρ μ H) (g : Gr H H') : SRel G ρ μ H' := ⟨s.len, s.nd, fun i c h => by
  obtain ⟨a, e, k⟩ := s.at_ i c h
  exact ⟨a, e, k.gr g⟩, fun a m z => s.all a m ((g.ext (ρ := ρ)).d a z)⟩
theorem SRel.mem (s : SRel G ρ μ H) {a : Addr} (h : a ∈ ρ.c) : ∃ o, H a = some o ∧ isM o = true := by
  obtain ⟨i, hi, e⟩ := List.mem_iff_getElem.mp h
  have hμ : i < μ.length := by rw [← s.len]; exact hi
  obtain ⟨b, e1, k⟩ := s.at_ i μ[i] (by simp [hμ])
  rw [List.getElem?_eq_getElem hi, e] at e1
  cases e1
  exact k.there
theorem SRel.notin (s : SRel G ρ μ H) {a : Addr} (h : H a = none) : a ∉ ρ.o := fun m => s.all a m h
/-- a cell's list is written -/
theorem SRel.put (s : SRel G ρ μ H) {i : Nat} {a : Addr} {ds : List D} {vs : List V} {c : Cell} (hi : μ[i]? = some c) (ha : ρ.c[i]? = some a) (hd : DVs G ρ H ds vs) (hn : ncs ds = true) :
    Ext ρ H (upd H a (.lst vs)) ∧ SRel G ρ (μ.set i (.lst ds)) (upd H a (.lst vs)) := by
  have am : a ∈ ρ.c := List.mem_of_getElem? ha
  have x : Ext ρ H (upd H a (.lst vs)) := by
    refine ⟨fun b o e hb => ?_, fun b hb => ?_⟩
    · by_cases q : b = a
      · subst q
        obtain ⟨o', e', m'⟩ := s.mem am
        rw [e] at e'; cases e'
        rcases hb with hb | hb
        · exact absurd am hb
        · rw [m'] at hb; cases hb
      · rw [upd_ne q]; exact e
    · by_cases q : b = a
      · subst q; rw [upd_same] at hb; cases hb
      · rw [upd_ne q] at hb; exact hb
  refine ⟨x, ⟨by simpa using s.len, s.nd, fun j c hj => ?_, fun b m z => s.all b m (x.d b z)⟩⟩
  by_cases q : j = i
  · subst q
    have hl : j < μ.length := (List.getElem?_eq_some_iff.mp hi).1
    rw [List.getElem?_set_self hl] at hj
    cases hj
    exact ⟨a, ha, vs, upd_same, hd.ext x, hn⟩
  · rw [List.getElem?_set_ne (Ne.symm q)] at hj
    obtain ⟨b, e, k⟩ := s.at_ j c hj
    refine ⟨b, e, ?_⟩
    have ne : b ≠ a := fun z => by
      subst z
      obtain ⟨h1, e1⟩ := List.getElem?_eq_some_iff.mp e
      obtain ⟨h2, e2⟩ := List.getElem?_eq_some_iff.mp ha
      exact q ((List.getElem_inj s.nd).mp (e1.trans e2.symm))
    cases c with
    | lst es =>
      obtain ⟨us, e1, d1, n1⟩ := k
      exact ⟨us, by rw [upd_ne ne]; exact e1, d1.ext x, n1⟩
    | obj c fs =>
      obtain ⟨C, dx, gs, m, e1, f⟩ := k
      exact ⟨C, dx, gs, m, by rw [upd_ne ne]; exact e1, f.ext x⟩
end
end RS

/-! The R road, part b: the small language and what it does to plain data. -/
namespace RS
open PySem PySem.Spec PyProof.Rows L2

/-! ### equality of plain data -/
mutual
def D.beq : D → D → Bool
  | .non, .non => true
  | .bl a, .bl b => a == b
  | .int a, .int b => a == b
  | .str a, .str b => a == b
  | .tup a, .tup b => D.beqs a b
  | .lst a, .lst b => D.beqs a b
  | .cell a, .cell b => a == b
  | .fn a, .fn b => a == b
  | .exc a, .exc b => a == b
  | _, _ => false
def D.beqs : List D → List D → Bool
  | [], [] => true
  | x :: xs, y :: ys => D.beq x y && D.beqs xs ys
  | _, _ => false
end
mutual
theorem D.beq_eq : ∀ {x y : D}, D.beq x y = true → x = y
  | .non, y, h => by cases y <;> simp_all [D.beq]
  | .bl a, y, h => by cases y <;> simp_all [D.beq]
  | .int a, y, h => by cases y <;> simp_all [D.beq]
  | .str a, y, h => by cases y <;> simp_all [D.beq]
  | .tup a, y, h => by
    cases y with
    | tup b => rw [D.beqs_eq (show D.beqs a b = true by simpa [D.beq] using h)]
    | _ => simp [D.beq] at h
  | .lst a, y, h => by
    cases y with
    | lst b => rw [D.beqs_eq (show D.beqs a b = true by simpa [D.beq] using h)]
    | _ => simp [D.beq] at h
  | .cell a, y, h => by cases y <;> simp_all [D.beq]
  | .fn a, y, h => by cases y <;> simp_all [D.beq]
  | .exc a, y, h => by cases y <;> simp_all [D.beq]
theorem D.beqs_eq : ∀ {x y : List D}, D.beqs x y = true → x = y
  | [], y, h => by cases y <;> simp_all [D.beqs]
  | a :: x, y, h => by
    cases y with
    | nil => simp [D.beqs] at h
    | cons b y =>
      simp only [D.beqs, Bool.and_eq_true] at h
      rw [D.beq_eq h.1, D.beqs_eq h.2]
end
mutual
theorem D.beq_self : ∀ x : D, D.beq x x = true
  | .non => rfl
  | .bl _ => by simp [D.beq]
  | .int _ => by simp [D.beq]
  | .str _ => by simp [D.beq]
  | .tup a => by simp only [D.beq]; exact D.beqs_self a
  | .lst a => by simp only [D.beq]; exact D.beqs_self a
  | .cell _ => by simp [D.beq]
  | .fn _ => by simp [D.beq]
  | .exc _ => by simp [D.beq]
theorem D.beqs_self : ∀ x : List D, D.beqs x x = true
  | [] => rfl
  | a :: x => by simp only [D.beqs, Bool.and_eq_true]; exact ⟨D.beq_self a, D.beqs_self x⟩
end

/-! ### looks -/
def cellL (μ : Sto) (i : Nat) : Option (List D) := match μ[i]? with
  | some (.lst ds) => some ds
  | _ => none
/-- the items of a list -/
def asL (μ : Sto) : D → Option (List D)
  | .lst ds => some ds
  | .cell i => cellL μ i
  | _ => none
/-- the items of a list or a tuple -/
def asS (μ : Sto) : D → Option (List D)
  | .lst ds => some ds
  | .tup ds => some ds
  | .cell i => cellL μ i
  | _ => none
/-- nothing has changed the list since -/
def same (μ' : Sto) : D → List D → Bool
  | .cell i, ds => (match cellL μ' i with | some es => D.beqs es ds | none => false)
  | _, _ => true
mutual
def py : D → Option PyData
  | .non => some .none
  | .bl b => some (.bool b)
  | .int i => some (.int i)
  | .str s => some (.str s)
  | .tup l => (pys l).map .tuple
  | .lst l => (pys l).map .list
  | _ => none
def pys : List D → Option (List PyData)
  | [] => some []
  | d :: ds => match py d with
    | some x => (match pys ds with | some xs => some (x :: xs) | none => none)
    | none => none
end
/-- as data, a list of ours by its items -/
def pyM (μ : Sto) : D → Option PyData
  | .cell i => (match cellL μ i with | some ds => (pys ds).map .list | none => none)
  | d => py d
def shp (d : Option PyData) : Option PyData := match d with
  | some x => if SeqAt.shaped x then some x else none
  | none => none
def eqD (μ : Sto) (x y : D) : Option Bool := match shp (pyM μ x), shp (pyM μ y) with
  | some a, some b => some (PyData.eqv a b)
  | _, _ => none
def truth (μ : Sto) : D → Option Bool
  | .non => some false
  | .bl b => some b
  | .int i => some (i != 0)
  | .str s => if s.length ≤ sizeLine then some (s.length != 0) else none
  | .tup l => some (!l.isEmpty)
  | .lst l => some (!l.isEmpty)
  | .cell i => (cellL μ i).map fun l => !l.isEmpty
  | _ => none
/-- place i of n, from behind below 0 -/
def ixD (ds : List D) (i : Int) : Option D := atI ds i

/-! ### operators -/
inductive Bop where | add | sub | mul | mod | fdiv | pow | shl
inductive Cop where | eq | ne | lt | le | gt | ge | is | isnot | isin | notin
def mulOk (i j : Int) : Bool := decide (i.natAbs.log2 + j.natAbs.log2 < 134217000)
def addD (μ : Sto) : D → D → Option D
  | .int i, .int j => some (.int (i + j))
  | .str a, .str b => if a.length + b.length ≤ sizeLine then some (.str (a ++ b)) else none
  | .tup a, .tup b => if a.isEmpty || b.isEmpty || decide (sizeLine < a.length + b.length) then none else some (.tup (a ++ b))
  | x, y => match asL μ x, asL μ y with
    | some a, some b => if a.length + b.length ≤ sizeLine then some (.lst (a ++ b)) else none
    | _, _ => none
def binD (μ : Sto) : Bop → D → D → Option D
  | .add, x, y => addD μ x y
  | .sub, .int i, .int j => some (.int (i - j))
  | .mul, .int i, .int j => if mulOk i j then some (.int (i * j)) else none
  | .mod, .int i, .int j => if j = 0 then none else some (.int (i.fmod j))
  | .fdiv, .int i, .int j => if j = 0 || Builtin.divisionGoesByPylong i j then none else some (.int (i.fdiv j))
  | .pow, .int i, .int j => if 0 ≤ j ∧ j ≤ 1000000 ∧ i.natAbs < 2 ^ 64 then some (.int (i ^ j.toNat)) else none
  | .shl, .int i, .int j => if 0 ≤ j ∧ j ≤ 1000000 ∧ i.natAbs < 2 ^ 64 then some (.int (i * 2 ^ j.toNat)) else none
  | _, _, _ => none
def inD (μ : Sto) (x y : D) : Option Bool := match y with
  | .str b => (match x with
    | .str a => some (!(Builtin.Str.occurrences b a 0 b.length 1).isEmpty)
    | _ => none)
  | _ => match asS μ y, shp (py x) with
    | some ds, some a => (match pys ds with
      | some es => if SeqAt.shaped (.list es) then some (es.any fun z => PyData.eqv z a) else none
      | none => none)
    | _, _ => none
def cmpD (μ : Sto) : Cop → D → D → Option Bool
  | .eq, x, y => eqD μ x y
  | .ne, x, y => (eqD μ x y).map (!·)
  | .lt, .int i, .int j => some (decide (i < j))
  | .le, .int i, .int j => some (decide (i ≤ j))
  | .gt, .int i, .int j => some (decide (j < i))
  | .ge, .int i, .int j => some (decide (j ≤ i))
  | .is, x, .non => some (match x with | .non => true | _ => false)
  | .isnot, x, .non => some (match x with | .non => false | _ => true)
  | .isin, x, y => inD μ x y
  | .notin, x, y => (inD μ x y).map (!·)
  | _, _, _ => none
def sl (ds : List D) (lo hi : Option Int) : List D := (ds.drop (HT.sIx ds.length 0 lo)).take (HT.sIx ds.length ds.length hi - HT.sIx ds.length 0 lo)

/-! ### the built-ins that are served -/
inductive Blt where | len | abs | max2 | min2 | int | str | list | tuple | sum | all | maxL | minL
/-- built-in classes that isinstance asks for -/
inductive Ty where | int | bool | str | list | tuple | own (c : Str)

/-! ### the small language -/
mutual
inductive Ex where
  | var (i : Nat)
  | glo (x : Str) (d : D)
  | con (d : D)
  | tup (es : Exs)
  | lst (es : Exs)
  | bin (o : Bop) (a b : Ex)
  | neg (a : Ex)
  | not (a : Ex)
  | and (a b : Ex)
  | or (a b : Ex)
  | cmp (o : Cop) (a b : Ex)
  | ix (a b : Ex)
  | sl (a : Ex) (lo hi : Exo)
  | call (f : Str) (es : Exs)
  | blt (b : Blt) (es : Exs)
  | isi (a : Ex) (t : Ty)
  | join (a b : Ex)
  | comp (e : Ex) (tg : Tg) (it : It) (ifs : Exs) (own : List (Str × Nat))
inductive Exs where
  | nil
  | cons (e : Ex) (es : Exs)
inductive Exo where
  | none
  | some (e : Ex)
inductive It where
  | seq (e : Ex)
  | rng (es : Exs)
  | zip (a b : Ex)
inductive Tg where
  | one (i : Nat)
  | many (is : List Nat)
end
end RS

/-! The R road, part c: readings by plain data; the expressions' rules over them. -/
namespace RS
open PySem PySem.Spec PyProof.Rows L2

abbrev St := L2.St
abbrev gm (X : Cx) : Gm := ⟨X.K, X.mg⟩
def EV (G : Gm) (ρ : Ow) (H : Hp) (env : Vs) (σ : St) : Prop :=
  env.length = σ.length ∧ ∀ (i : Nat) d, env[i]? = some (some d) → ∃ v, σ[i]? = some (some v) ∧ DV G ρ H d v
theorem EV.ext {G : Gm} {ρ : Ow} {H H' : Hp} {env : Vs} {σ : St} (e : EV G ρ H env σ) (x : Ext ρ H H') : EV G ρ H' env σ :=
  ⟨e.1, fun i d h => let ⟨v, a, b⟩ := e.2 i d h; ⟨v, a, b.ext x⟩⟩
theorem EV.ours {G : Gm} {ρ : Ow} {H H' : Hp} {env : Vs} {σ : St} {p : Addr} (e : EV G ρ H env σ) (x : Ext ρ H H') (hp : H p = none) : EV G (ρ.add p) H' env σ :=
  ⟨e.1, fun i d h => let ⟨v, a, b⟩ := e.2 i d h; ⟨v, a, b.ours x hp⟩⟩
theorem EV.set {G : Gm} {ρ : Ow} {H : Hp} {env : Vs} {σ : St} {i : Nat} {d : D} {v : V} (e : EV G ρ H env σ) (r : DV G ρ H d v) : EV G ρ H (env.set i (some d)) (σ.set i (some v)) := by
  refine ⟨by simpa using e.1, fun j c h => ?_⟩
  by_cases q : i = j
  · subst q
    have hl : i < env.length := by
      have := (List.getElem?_eq_some_iff.mp h).1
      simpa using this
    rw [List.getElem?_set_self hl] at h
    cases h
    exact ⟨v, List.getElem?_set_self (by rw [← e.1]; exact hl), r⟩
  · rw [List.getElem?_set_ne q] at h
    obtain ⟨u, a, b⟩ := e.2 j c h
    exact ⟨u, by rw [List.getElem?_set_ne q]; exact a, b⟩

theorem FV.ours {G : Gm} {ρ : Ow} {H H' : Hp} {p : Addr} (x : Ext ρ H H') (hp : H p = none) : ∀ {fs : List (Str × D)} {gs : List (Str × V)}, FV G ρ H fs gs → FV G (ρ.add p) H' fs gs
  | [], [], _ => trivial
  | (_, _) :: _, (_, _) :: _, h => ⟨h.1, h.2.1.ours x hp, FV.ours x hp h.2.2⟩
  | [], _ :: _, h => h.elim
  | _ :: _, [], h => h.elim
theorem CAt.ours {G : Gm} {ρ : Ow} {H H' : Hp} {p a : Addr} {c : Cell} (x : Ext ρ H' H') (x0 : Ext ρ H H') (hp : H p = none) (h : CAt G ρ H a c) (k : ∀ o, H a = some o → H' a = some o) : CAt G (ρ.add p) H' a c := by
  cases c with
  | lst ds => obtain ⟨vs, e, d, n⟩ := h; exact ⟨vs, k _ e, d.ours x0 hp, n⟩
  | obj c fs => obtain ⟨C, dx, gs, m, e, f⟩ := h; exact ⟨C, dx, gs, m, k _ e, f.ours x0 hp⟩
/-- a cell is taken in: its object is new since H, all of ours is as told at H' -/
theorem SRel.grow {G : Gm} {ρ : Ow} {μ μ' : Sto} {H H' : Hp} {p : Addr} {ds : List D} {vs : List V} (s : SRel G ρ μ H) (x : Ext ρ H H') (s' : SRel G ρ μ' H') (hp : H p = none) (hH : H' p = some (.lst vs)) (r : DVs G (ρ.add p) H' ds vs) (hn : ncs ds = true)
    (old : ∀ (i : Nat) (c : Cell) (a : Addr), μ'[i]? = some c → ρ.c[i]? = some a → CAt G ρ H' a c → CAt G (ρ.add p) H' a c) : SRel G (ρ.add p) (μ' ++ [.lst ds]) H' := by
  have np := s.notin hp
  refine ⟨by simp [Ow.add, s'.len], ?_, fun i c hc => ?_, fun a m z => ?_⟩
  · show (ρ.c ++ [p]).Nodup
    rw [List.nodup_append]
    exact ⟨s.nd, by simp, fun a ha b hb e => by
      have : b = p := by simpa using hb
      subst this; subst e; exact np (ρ.sub _ ha)⟩
  · by_cases hi : i < μ'.length
    · rw [List.getElem?_append_left hi] at hc
      obtain ⟨a, e, k⟩ := s'.at_ i c hc
      refine ⟨a, ?_, old i c a hc e k⟩
      show (ρ.c ++ [p])[i]? = _
      rw [List.getElem?_append_left (by rw [s'.len]; exact hi)]; exact e
    · rw [List.getElem?_append_right (by omega)] at hc
      have hz : i - μ'.length = 0 := by
        cases q : i - μ'.length with
        | zero => rfl
        | succ m => rw [q] at hc; simp at hc
      rw [hz] at hc
      have : c = .lst ds := by simpa using hc.symm
      subst this
      have hi2 : i = ρ.c.length := by rw [s'.len]; omega
      subst hi2
      exact ⟨p, by simp [Ow.add], vs, hH, r, hn⟩
  · rcases List.mem_append.mp m with m | m
    · exact s'.all a m z
    · have e : a = p := by simpa using m
      subst e
      rw [hH] at z; cases z

/-- what an expression leaves -/
structure Post (G : Gm) (fr : Bool) (ρ : Ow) (H : Hp) (μ' : Sto) (d : D) (v : V) (H' : Hp) : Prop where
  x : Ext ρ H H'
  s : SRel G ρ μ' H'
  r : DV G ρ H' d v
  f : fr = true → ∀ ds, d = .lst ds → ∃ a, v = .ref a ∧ H a = none ∧ (ncs ds = true → SRel G (ρ.add a) (μ' ++ [.lst ds]) H')
theorem Post.un {G : Gm} {fr : Bool} {ρ : Ow} {H H' : Hp} {μ' : Sto} {d : D} {v : V} (p : Post G fr ρ H μ' d v H') : Post G false ρ H μ' d v H' := ⟨p.x, p.s, p.r, fun z => by cases z⟩
theorem Post.back {G : Gm} {fr : Bool} {ρ : Ow} {H0 H H' : Hp} {μ' : Sto} {d : D} {v : V} (x : Ext ρ H0 H) (p : Post G fr ρ H μ' d v H') : Post G fr ρ H0 μ' d v H' :=
  ⟨x.trans p.x, p.s, p.r, fun z ds e => let ⟨a, h1, h2, h3⟩ := p.f z ds e; ⟨a, h1, x.d a h2, h3⟩⟩
/-- a value that makes nothing -/
theorem Post.here {G : Gm} {ρ : Ow} {H : Hp} {μ : Sto} {d : D} {v : V} (s : SRel G ρ μ H) (r : DV G ρ H d v) : Post G false ρ H μ d v H := ⟨Ext.refl, s, r, fun z => by cases z⟩
/-- a value that is no list -/
theorem Post.flat {G : Gm} {fr : Bool} {ρ : Ow} {H : Hp} {μ : Sto} {d : D} {v : V} (s : SRel G ρ μ H) (r : DV G ρ H d v) (n : ∀ ds, d ≠ .lst ds) : Post G fr ρ H μ d v H := ⟨Ext.refl, s, r, fun _ ds e => absurd e (n ds)⟩
/-- a new list -/
theorem Post.newl {G : Gm} {fr : Bool} {ρ : Ow} {H : Hp} {μ : Sto} {ds : List D} {vs : List V} {p : Addr} (s : SRel G ρ μ H) (r : DVs G ρ H ds vs) (hp : H p = none) : Post G fr ρ H μ (.lst ds) (.ref p) (upd H p (.lst vs)) := by
  have g : Gr H (upd H p (.lst vs)) := Gr.new hp
  have np := s.notin hp
  refine ⟨g.ext, s.gr g, .lst (.inl ⟨.inl upd_same, np⟩) (r.ext g.ext), fun _ es e => ?_⟩
  cases e
  exact ⟨p, rfl, hp, fun hn => SRel.grow s g.ext (s.gr g) hp upd_same (r.ours g.ext hp) hn (fun i c a hc ha _ => by
    obtain ⟨b, e, k⟩ := s.at_ i c hc
    rw [ha] at e; cases e
    exact k.ours Ext.refl g.ext hp (g a))⟩
/-- a new tuple -/
theorem Post.newt {G : Gm} {fr : Bool} {ρ : Ow} {H : Hp} {μ : Sto} {ds : List D} {vs : List V} {p : Addr} (s : SRel G ρ μ H) (r : DVs G ρ H ds vs) (hp : H p = none) : Post G fr ρ H μ (.tup ds) (.ref p) (upd H p (.tup vs)) := by
  have g : Gr H (upd H p (.tup vs)) := Gr.new hp
  exact ⟨g.ext, s.gr g, .tup (SqT.of upd_same) (r.ext g.ext), fun _ _ e => by cases e⟩

/-- what is wished of an own class's exception -/
def Er (G : Gm) (W : WX) (σ : St) (ρ : Ow) (H : Hp) (c : Str) (μ' : Sto) : Prop :=
  ∀ ca H', G.mg c = some (.ref ca) → Ext ρ H H' → SRel G ρ μ' H' → W (.ref ca) none σ H'
theorem Er.on {G : Gm} {W : WX} {σ : St} {ρ : Ow} {H H1 : Hp} {c : Str} {μ' : Sto} (e : Er G W σ ρ H c μ') (x : Ext ρ H H1) : Er G W σ ρ H1 c μ' :=
  fun ca H' m x' s => e ca H' m (x.trans x') s

/-- an end by an outcome -/
def Out {α : Type} (r : R α) (ok : α → Sto → Prop) (er : Str → Sto → Prop) : Prop := match r with
  | .ok a μ => ok a μ
  | .er c μ => er c μ
  | .no => False
theorem Out.bind {α β : Type} {r : R α} {f : α → Sto → R β} {ok : β → Sto → Prop} {er : Str → Sto → Prop} (h : Out (r.bind f) ok er) : Out r (fun a μ => Out (f a μ) ok er) er := by
  cases r <;> exact h
theorem Out.imp {α : Type} {r : R α} {ok ok' : α → Sto → Prop} {er er' : Str → Sto → Prop} (h : Out r ok er) (h1 : ∀ a μ, ok a μ → ok' a μ) (h2 : ∀ c μ, er c μ → er' c μ) : Out r ok' er' := by
  cases r with
  | ok a μ => exact h1 _ _ h
  | er c μ => exact h2 _ _ h
  | no => exact h

def tE (G : Gm) (W : WX) (fr : Bool) (den : Vs → Sto → R D) : TE := fun σ H Q => ∃ ρ μ env, SRel G ρ μ H ∧ EV G ρ H env σ ∧
  Out (den env μ) (fun d μ' => ∀ v H', Post G fr ρ H μ' d v H' → Q v H') (Er G W σ ρ H)
def tEs (G : Gm) (W : WX) (den : Vs → Sto → R (List D)) : TA := fun σ H Q => ∃ ρ μ env, SRel G ρ μ H ∧ EV G ρ H env σ ∧
  Out (den env μ) (fun ds μ' => ∀ vs H', Ext ρ H H' → SRel G ρ μ' H' → DVs G ρ H' ds vs → Q vs H') (Er G W σ ρ H)
def tT (G : Gm) (W : WX) (den : Vs → Sto → R Bool) : TT := fun σ H Q => ∃ ρ μ env, SRel G ρ μ H ∧ EV G ρ H env σ ∧
  Out (den env μ) (fun b μ' => ∀ H', Ext ρ H H' → SRel G ρ μ' H' → Q b H') (Er G W σ ρ H)

section
variable {X : Cx} {W : WX} {e a b : Expr} {es : List Expr} {pos : Pos}
theorem PE_weak {t t' : TE} (h : PE X e t) (w : ∀ σ H Q, t' σ H Q → t σ H Q) : PE X e t' := ⟨fun pins s σ H Q I q => h.run pins s σ H Q I (w σ H Q q)⟩
theorem PA_weak {t t' : TA} (h : PA X es t) (w : ∀ σ H Q, t' σ H Q → t σ H Q) : PA X es t' := ⟨fun pos pins s σ H Q I q => h.run pos pins s σ H Q I (w σ H Q q)⟩
theorem PT_weak {t t' : TT} (h : PT X e t) (w : ∀ σ H Q, t' σ H Q → t σ H Q) : PT X e t' := ⟨fun pins s σ H Q I q => h.run pins s σ H Q I (w σ H Q q)⟩
theorem PW_weak {t t' : TT} (h : PW X e t) (w : ∀ σ H Q, t' σ H Q → t σ H Q) : PW X e t' := ⟨fun wh pins s σ H Q I q => h.run wh pins s σ H Q I (w σ H Q q)⟩
theorem PSs_weak {st : List Stmt} {t t' : TS} (h : PSs X st t) (w : ∀ D σ H, t' D σ H → t D σ H) : PSs X st t' := ⟨fun pins s σ H D I q => h.run pins s σ H D I (w D σ H q)⟩
theorem PS_weak {st : Stmt} {t t' : TS} (h : PS X st t) (w : ∀ D σ H, t' D σ H → t D σ H) : PS X st t' := ⟨fun pins s σ H D I q => h.run pins s σ H D I (w D σ H q)⟩

/-- an expression, then what follows, over the same store -/
theorem tE.go {G : Gm} {fr : Bool} {ρ : Ow} {H : Hp} {σ : St} {μ : Sto} {env : Vs} {den : Vs → Sto → R D} {f : D → Sto → Prop} {Q : VK} (s : SRel G ρ μ H) (ev : EV G ρ H env σ)
    (h : Out (den env μ) f (Er G W σ ρ H)) (k : ∀ d μ' v H', f d μ' → Post G fr ρ H μ' d v H' → Q v H') : tE G W fr den σ H Q :=
  ⟨ρ, μ, env, s, ev, h.imp (fun d μ' q v H' p => k d μ' v H' q p) fun _ _ q => q⟩
theorem tEs.go {G : Gm} {ρ : Ow} {H : Hp} {σ : St} {μ : Sto} {env : Vs} {den : Vs → Sto → R (List D)} {f : List D → Sto → Prop} {Q : List V → Hp → Prop} (s : SRel G ρ μ H) (ev : EV G ρ H env σ)
    (h : Out (den env μ) f (Er G W σ ρ H)) (k : ∀ ds μ' vs H', f ds μ' → Ext ρ H H' → SRel G ρ μ' H' → DVs G ρ H' ds vs → Q vs H') : tEs G W den σ H Q :=
  ⟨ρ, μ, env, s, ev, h.imp (fun d μ' q v H' p p2 p3 => k d μ' v H' q p p2 p3) fun _ _ q => q⟩
theorem tT.go {G : Gm} {ρ : Ow} {H : Hp} {σ : St} {μ : Sto} {env : Vs} {den : Vs → Sto → R Bool} {f : Bool → Sto → Prop} {Q : Bool → Hp → Prop} (s : SRel G ρ μ H) (ev : EV G ρ H env σ)
    (h : Out (den env μ) f (Er G W σ ρ H)) (k : ∀ d μ' H', f d μ' → Ext ρ H H' → SRel G ρ μ' H' → Q d H') : tT G W den σ H Q :=
  ⟨ρ, μ, env, s, ev, h.imp (fun d μ' q H' p p2 => k d μ' H' q p p2) fun _ _ q => q⟩

/-! ### names, constants -/
def varD (i : Nat) : Vs → Sto → R D := fun env μ => match env[i]? with
  | some (some d) => .ok d μ
  | _ => .no
theorem s_var {i : Nat} {x : Str} (hN : X.N[i]? = some x) (hv : Vis X.env.scope x) (hd : (x == ("__debug__" : Str)) = false) (hc : (x == ("__classdict__" : Str)) = false) : PE X (.Name x pos) (tE (gm X) W false (varD i)) := by
  refine PE_weak (pe_var hN hv hd hc) fun σ H Q h => ?_
  obtain ⟨ρ, μ, env, s, ev, o⟩ := h
  unfold varD at o
  split at o
  · rename_i d hd
    obtain ⟨v, e, r⟩ := ev.2 i d hd
    exact ⟨v, e, o v H (.here s r)⟩
  · exact o.elim
theorem s_con {d : D} {v : V} (h : PE X e (tC v)) (hd : ∀ ρ H, DV (gm X) ρ H d v) : PE X e (tE (gm X) W false fun _ μ => .ok d μ) := by
  refine PE_weak h fun σ H Q h => ?_
  obtain ⟨ρ, μ, env, s, ev, o⟩ := h
  exact o v H (.here s (hd ρ H))

/-! ### argument lists, displays -/
def nilD : Vs → Sto → R (List D) := fun _ μ => .ok [] μ
def consD (a : Vs → Sto → R D) (as : Vs → Sto → R (List D)) : Vs → Sto → R (List D) := fun env μ => (a env μ).bind fun d μ1 => (as env μ1).bind fun ds μ2 => .ok (d :: ds) μ2
theorem s_nil : PA X [] (tEs (gm X) W nilD) := by
  refine PA_weak pa_nil fun σ H Q h => ?_
  obtain ⟨ρ, μ, env, s, ev, o⟩ := h
  exact o [] H Ext.refl s .nil
theorem s_cons {fr : Bool} {da : Vs → Sto → R D} {ds : Vs → Sto → R (List D)} (ha : PE X e (tE (gm X) W fr da)) (hr : PA X es (tEs (gm X) W ds)) (hs : starEach (e :: es) X.env = (false, eval e X.env) :: starEach es X.env) :
    PA X (e :: es) (tEs (gm X) W (consD da ds)) := by
  refine PA_weak (pa_cons ha hr hs) fun σ H Q h => ?_
  obtain ⟨ρ, μ, env, s, ev, o⟩ := h
  refine tE.go s ev (Out.bind o) fun d μ1 v H1 o1 p => ?_
  have o1 := Out.bind o1
  refine tEs.go p.s (ev.ext p.x) (o1.imp (fun _ _ q => q) fun c μ' q => q.on p.x) fun ds μ2 vs H2 o2 x2 s2 r2 => ?_
  exact o2 (v :: vs) H2 (p.x.trans x2) s2 (.cons (p.r.ext x2) r2)
theorem s_tup {k} {den : Vs → Sto → R (List D)} (h : PA X es (tEs (gm X) W den)) : PE X (.Tuple es k pos) (tE (gm X) W false fun env μ => (den env μ).bind fun ds μ' => if ds.length ≤ sizeLine then .ok (.tup ds) μ' else .no) := by
  refine PE_weak (pe_tup h) fun σ H Q h => ?_
  obtain ⟨ρ, μ, env, s, ev, o⟩ := h
  refine tEs.go s ev (Out.bind o) fun ds μ1 vs H1 o1 x1 s1 r1 => ?_
  split at o1
  · rename_i hl
    exact ⟨by rw [← r1.length]; exact hl, fun p hp => o1 _ _ (Post.back x1 (Post.newt s1 r1 hp))⟩
  · exact o1.elim
theorem s_lst {den : Vs → Sto → R (List D)} (h : PA X es (tEs (gm X) W den)) : PE X (.List es pos) (tE (gm X) W true fun env μ => (den env μ).bind fun ds μ' => if ds.length ≤ sizeLine then .ok (.lst ds) μ' else .no) := by
  refine PE_weak (pe_lst h) fun σ H Q h => ?_
  obtain ⟨ρ, μ, env, s, ev, o⟩ := h
  refine tEs.go s ev (Out.bind o) fun ds μ1 vs H1 o1 x1 s1 r1 => ?_
  split at o1
  · rename_i hl
    exact ⟨by rw [← r1.length]; exact hl, fun p hp => o1 _ _ (Post.back x1 (Post.newl s1 r1 hp))⟩
  · exact o1.elim

/-! ### operators by values -/
/-- the rule r does what g does to plain data -/
def OpS (G : Gm) (fr : Bool) (r : R2) (g : Sto → D → D → Option D) : Prop :=
  ∀ (ρ : Ow) (μ : Sto) (H : Hp) (x y : V) (dx dy d : D) (Q : VK), SRel G ρ μ H → DV G ρ H dx x → DV G ρ H dy y → g μ dx dy = some d → (∀ v H', Post G fr ρ H μ d v H' → Q v H') → r x y H Q
def CaS (G : Gm) (fr : Bool) (r : List V → Hp → VK → Prop) (g : Sto → List D → Option D) : Prop :=
  ∀ (ρ : Ow) (μ : Sto) (H : Hp) (vs : List V) (ds : List D) (d : D) (Q : VK), SRel G ρ μ H → DVs G ρ H ds vs → g μ ds = some d → (∀ v H', Post G fr ρ H μ d v H' → Q v H') → r vs H Q
def opt {α : Type} (o : Option α) (μ : Sto) : R α := match o with
  | some a => .ok a μ
  | none => .no
def bin2 (g : Sto → D → D → Option D) (da db : Vs → Sto → R D) : Vs → Sto → R D := fun env μ => (da env μ).bind fun x μ1 => (db env μ1).bind fun y μ2 => opt (g μ2 x y) μ2
theorem Out.opt {α : Type} {o : Option α} {μ : Sto} {ok : α → Sto → Prop} {er : Str → Sto → Prop} (h : Out (RS.opt o μ) ok er) : ∃ a, o = some a ∧ ok a μ := by
  cases o with
  | some a => exact ⟨a, rfl, h⟩
  | none => exact h.elim
/-- two values in a row -/
theorem tE.two {fr1 fr2 : Bool} {da db : Vs → Sto → R D} {g : D → D → Sto → R D} {σ : St} {H : Hp} {Q : VK} {R' : V → V → Hp → Prop} {fr : Bool}
    (h : tE (gm X) W fr (fun env μ => (da env μ).bind fun x μ1 => (db env μ1).bind fun y μ2 => g x y μ2) σ H Q)
    (k : ∀ ρ μ2 dx dy x y H2, SRel (gm X) ρ μ2 H2 → DV (gm X) ρ H2 dx x → DV (gm X) ρ H2 dy y → Ext ρ H H2 → Out (g dx dy μ2) (fun d μ' => ∀ v H', Post (gm X) fr ρ H2 μ' d v H' → Q v H') (Er (gm X) W σ ρ H2) → R' x y H2) :
    tE (gm X) W fr1 da σ H fun x H1 => tE (gm X) W fr2 db σ H1 fun y H2 => R' x y H2 := by
  obtain ⟨ρ, μ, env, s, ev, o⟩ := h
  refine tE.go s ev (Out.bind o) fun dx μ1 x H1 o1 p1 => ?_
  have o1 := Out.bind o1
  refine tE.go p1.s (ev.ext p1.x) (o1.imp (fun _ _ q => q) fun c μ' q => q.on p1.x) fun dy μ2 y H2 o2 p2 => ?_
  refine k ρ μ2 dx dy x y H2 p2.s (p1.r.ext p2.x) p2.r (p1.x.trans p2.x) (o2.imp (fun d μ' q v H' p => q v H' (Post.back (p1.x.trans p2.x) p)) fun c μ' q => q.on (p1.x.trans p2.x))
theorem s_op {op : Operator} {r : R2} {fr fr1 fr2 : Bool} {g : Sto → D → D → Option D} {da db : Vs → Sto → R D} (ho : OpR X (binaryOp op) r) (hs : OpS (gm X) fr r g) (ha : PE X a (tE (gm X) W fr1 da)) (hb : PE X b (tE (gm X) W fr2 db)) :
    PE X (.BinOp a op b pos) (tE (gm X) W fr (bin2 g da db)) := by
  refine PE_weak (pe_op ho ha hb) fun σ H Q h => ?_
  refine tE.two h fun ρ μ2 dx dy x y H2 s2 rx ry x2 o => ?_
  obtain ⟨d, e, q⟩ := Out.opt o
  exact hs ρ μ2 H2 x y dx dy d Q s2 rx ry e q
theorem s_cmp {op : CmpOp} {r : R2} {fr1 fr2 : Bool} {g : Sto → D → D → Option D} {da db : Vs → Sto → R D} (ho : OpR X (compareOp op) r) (hs : OpS (gm X) false r g) (ha : PE X a (tE (gm X) W fr1 da)) (hb : PE X b (tE (gm X) W fr2 db)) (hm : behindInMarks op b = false) :
    PE X (.Compare a [op] [b] pos) (tE (gm X) W false (bin2 g da db)) := by
  refine PE_weak (pe_cmpR ho ha hb hm) fun σ H Q h => ?_
  refine tE.two h fun ρ μ2 dx dy x y H2 s2 rx ry x2 o => ?_
  obtain ⟨d, e, q⟩ := Out.opt o
  exact hs ρ μ2 H2 x y dx dy d Q s2 rx ry e q
theorem s_ix {r : R2} {fr1 fr2 : Bool} {g : Sto → D → D → Option D} {da db : Vs → Sto → R D} (ho : IxR X r) (hs : OpS (gm X) false r g) (ha : PE X a (tE (gm X) W fr1 da)) (hb : PE X b (tE (gm X) W fr2 db)) (hp : PlainIx b) :
    PE X (.Subscript a b pos) (tE (gm X) W false (bin2 g da db)) := by
  refine PE_weak (pe_ix ho ha hb hp) fun σ H Q h => ?_
  refine tE.two h fun ρ μ2 dx dy x y H2 s2 rx ry x2 o => ?_
  obtain ⟨d, e, q⟩ := Out.opt o
  exact hs ρ μ2 H2 x y dx dy d Q s2 rx ry e q
theorem OpS.or1 {G : Gm} {fr : Bool} {r r' : R2} {g g' h : Sto → D → D → Option D} (a : OpS G fr r g) (b : OpS G fr r' g') (c : ∀ μ x y d, h μ x y = some d → g μ x y = some d ∨ g' μ x y = some d) : OpS G fr (fun x y H Q => r x y H Q ∨ r' x y H Q) h :=
  fun ρ μ H x y dx dy d Q s rx ry e k => (c μ dx dy d e).elim (fun e => .inl (a ρ μ H x y dx dy d Q s rx ry e k)) fun e => .inr (b ρ μ H x y dx dy d Q s rx ry e k)
end
end RS

/-! The R road, part d: the operators on plain data. -/
namespace RS
open PySem PySem.Spec PyProof.Rows L2

section
variable {G : Gm} {ρ : Ow} {H : Hp} {μ : Sto}
/-! ### lists and tuples by place -/
theorem SRel.cell (s : SRel G ρ μ H) {i : Nat} {a : Addr} {ds : List D} (hi : cellL μ i = some ds) (ha : ρ.c[i]? = some a) : ∃ vs, H a = some (.lst vs) ∧ DVs G ρ H ds vs ∧ ncs ds = true := by
  unfold cellL at hi
  cases e : μ[i]? with
  | none => rw [e] at hi; cases hi
  | some c =>
    rw [e] at hi
    cases c with
    | lst es =>
      cases hi
      obtain ⟨b, e1, k⟩ := s.at_ i _ e
      rw [ha] at e1; cases e1
      exact k
    | obj c fs => cases hi
theorem DV.asL (s : SRel G ρ μ H) {d : D} {v : V} {ds : List D} (r : DV G ρ H d v) (h : asL μ d = some ds) : ∃ a vs, v = .ref a ∧ SqL G.K H a vs ∧ DVs G ρ H ds vs := by
  cases r with
  | lst l t =>
    cases h
    exact ⟨_, _, rfl, l.sq, t⟩
  | cell e =>
    obtain ⟨vs, e1, t, _⟩ := s.cell h e
    exact ⟨_, vs, rfl, SqL.of e1, t⟩
  | _ => cases h
theorem DV.asS (s : SRel G ρ μ H) {d : D} {v : V} {ds : List D} (r : DV G ρ H d v) (h : asS μ d = some ds) : ∃ a vs, v = .ref a ∧ (SqL G.K H a vs ∨ SqT G.K H a vs) ∧ DVs G ρ H ds vs := by
  cases r with
  | lst l t =>
    cases h
    exact ⟨_, _, rfl, .inl l.sq, t⟩
  | tup l t =>
    cases h
    exact ⟨_, _, rfl, .inr l, t⟩
  | cell e =>
    obtain ⟨vs, e1, t, _⟩ := s.cell h e
    exact ⟨_, vs, rfl, .inl (SqL.of e1), t⟩
  | _ => cases h
/-! ### as data -/
mutual
theorem DV.dp : ∀ {d : D} {v : V} {x : PyData}, DV G ρ H d v → py d = some x → Dp G.K H v x
  | _, _, _, .non, e => by simp [py] at e; subst e; exact .non
  | _, _, _, .bl b, e => by simp [py] at e; subst e; exact .bl b
  | _, _, _, .int i, e => by simp [py] at e; subst e; exact .int i
  | _, _, _, .str s, e => by simp [py] at e; subst e; exact .str s
  | _, _, _, .tup h t, e => by
    simp only [py, Option.map_eq_some_iff] at e
    obtain ⟨xs, e1, e2⟩ := e
    subst e2
    exact .tup h (DVs.dp t e1)
  | _, _, _, .lst h t, e => by
    simp only [py, Option.map_eq_some_iff] at e
    obtain ⟨xs, e1, e2⟩ := e
    subst e2
    exact .lst h.sq (DVs.dp t e1)
  | _, _, _, .cell h, e => by simp [py] at e
  | _, _, _, .fn h, e => by simp [py] at e
  | _, _, _, .exc h c, e => by simp [py] at e
theorem DVs.dp : ∀ {ds : List D} {vs : List V} {xs : List PyData}, DVs G ρ H ds vs → pys ds = some xs → DpAll G.K H vs xs
  | _, _, _, .nil, e => by simp [pys] at e; subst e; exact .nil
  | _, _, _, .cons h t, e => by
    rename_i d v ds vs
    simp only [pys] at e
    cases e1 : py d with
    | none => rw [e1] at e; cases e
    | some x =>
      rw [e1] at e
      cases e2 : pys ds with
      | none => rw [e2] at e; cases e
      | some xs =>
        rw [e2] at e
        cases e
        exact .cons (DV.dp h e1) (DVs.dp t e2)
end
theorem DV.dpM (s : SRel G ρ μ H) {d : D} {v : V} {x : PyData} (r : DV G ρ H d v) (e : pyM μ d = some x) : Dp G.K H v x := by
  cases r with
  | cell ha =>
    rename_i i a
    simp only [pyM] at e
    cases e1 : cellL μ i with
    | none => rw [e1] at e; cases e
    | some ds =>
      rw [e1] at e
      simp only [Option.map_eq_some_iff] at e
      obtain ⟨xs, e2, e3⟩ := e
      subst e3
      obtain ⟨vs, h1, t, _⟩ := s.cell e1 ha
      exact .lst (SqL.of h1) (t.dp e2)
  | non => exact DV.dp (.non (ρ := ρ) (G := G)) e
  | bl b => exact DV.dp (.bl (ρ := ρ) (G := G) b) e
  | int b => exact DV.dp (.int (ρ := ρ) (G := G) b) e
  | str b => exact DV.dp (.str (ρ := ρ) (G := G) b) e
  | tup h t => exact DV.dp (.tup h t) e
  | lst h t => exact DV.dp (.lst h t) e
  | fn h => exact DV.dp (.fn (ρ := ρ) (H := H) h) e
  | exc h c => exact DV.dp (.exc (ρ := ρ) h c) e
theorem shp_some {o : Option PyData} {x : PyData} (h : shp o = some x) : o = some x ∧ SeqAt.shaped x = true := by
  cases o with
  | none => cases h
  | some y =>
    simp only [shp] at h
    split at h
    · cases h; exact ⟨rfl, by assumption⟩
    · cases h

/-! ### the rules -/
def blO (o : Option Bool) : Option D := o.map .bl
theorem ops_int {g : Int → Int → D} {r : R2} {C : Int → Int → Prop} (hr : ∀ i j H Q v, C i j → (∀ ρ H, DV G ρ H (g i j) v) → Q v H → r (.int i) (.int j) H Q) {f : Sto → D → D → Option D}
    (hf : ∀ μ x y d, f μ x y = some d → ∃ i j v, x = .int i ∧ y = .int j ∧ C i j ∧ d = g i j ∧ (∀ ρ H, DV G ρ H (g i j) v) ∧ ∀ ds, d ≠ .lst ds) {fr : Bool} : OpS G fr r f := by
  intro ρ μ H x y dx dy d Q s rx ry e k
  obtain ⟨i, j, v, rfl, rfl, hc, rfl, hv, hn⟩ := hf μ dx dy d e
  cases rx
  cases ry
  exact hr i j H Q v hc hv (k v H (.flat s (hv ρ H) hn))
theorem ops_eq : OpS G false (rEqD G.K) (fun μ x y => blO (eqD μ x y)) := by
  intro ρ μ H x y dx dy d Q s rx ry e k
  simp only [blO, Option.map_eq_some_iff] at e
  obtain ⟨b, e, rfl⟩ := e
  unfold eqD at e
  cases e1 : shp (pyM μ dx) with
  | none => rw [e1] at e; cases e
  | some a =>
    cases e2 : shp (pyM μ dy) with
    | none => rw [e1, e2] at e; cases e
    | some c =>
      rw [e1, e2] at e
      cases e
      obtain ⟨q1, q2⟩ := shp_some e1
      obtain ⟨q3, q4⟩ := shp_some e2
      exact ⟨a, c, rx.dpM s q1, ry.dpM s q3, q2, q4, k _ _ (.here s (.bl _))⟩
theorem ops_ne : OpS G false (rNeD G.K) (fun μ x y => blO ((eqD μ x y).map (!·))) := by
  intro ρ μ H x y dx dy d Q s rx ry e k
  simp only [blO, Option.map_eq_some_iff] at e
  obtain ⟨b, ⟨b', e, rfl⟩, rfl⟩ := e
  unfold eqD at e
  cases e1 : shp (pyM μ dx) with
  | none => rw [e1] at e; cases e
  | some a =>
    cases e2 : shp (pyM μ dy) with
    | none => rw [e1, e2] at e; cases e
    | some c =>
      rw [e1, e2] at e
      cases e
      obtain ⟨q1, q2⟩ := shp_some e1
      obtain ⟨q3, q4⟩ := shp_some e2
      exact ⟨a, c, rx.dpM s q1, ry.dpM s q3, q2, q4, k _ _ (.here s (.bl _))⟩
theorem ops_cmpI {p : Int → Int → Bool} {f : Sto → D → D → Option D} (hf : ∀ μ x y d, f μ x y = some d → ∃ i j, x = .int i ∧ y = .int j ∧ d = .bl (p i j)) : OpS G false (rI0 fun i j => .bl (p i j)) f := by
  intro ρ μ H x y dx dy d Q s rx ry e k
  obtain ⟨i, j, rfl, rfl, rfl⟩ := hf μ dx dy d e
  cases rx
  cases ry
  exact ⟨i, j, rfl, rfl, k _ _ (.here s (.bl _))⟩
def isN : D → Bool
  | .non => true
  | _ => false
theorem DV.isN {d : D} {v : V} (r : DV G ρ H d v) : decide (v = .non) = isN d := by cases r <;> rfl
theorem ops_is : OpS G false (fun x y H Q => y = .non ∧ Q (.bl (decide (x = .non))) H) (fun _ x y => if isN y then some (.bl (isN x)) else none) := by
  intro ρ μ H x y dx dy d Q s rx ry e k
  simp only at e
  split at e
  · rename_i h
    cases e
    refine ⟨?_, k _ _ ?_⟩
    · cases ry <;> first | rfl | cases h
    · rw [rx.isN]; exact .here s (.bl _)
  · cases e
theorem ops_isnot : OpS G false (fun x y H Q => y = .non ∧ Q (.bl (!decide (x = .non))) H) (fun _ x y => if isN y then some (.bl (!isN x)) else none) := by
  intro ρ μ H x y dx dy d Q s rx ry e k
  simp only at e
  split at e
  · rename_i h
    cases e
    refine ⟨?_, k _ _ ?_⟩
    · cases ry <;> first | rfl | cases h
    · rw [rx.isN]; exact .here s (.bl _)
  · cases e
/-- x in l: lists of data, texts -/
def inLD (μ : Sto) (x y : D) : Option Bool := match asL μ y, shp (py x) with
  | some ds, some a => (match shp ((pys ds).map .list) with
    | some (.list es) => some (es.any fun z => PyData.eqv z a)
    | _ => none)
  | _, _ => none
def inSD : D → D → Option Bool
  | .str a, .str b => some (!(Builtin.Str.occurrences b a 0 b.length 1).isEmpty)
  | _, _ => none
theorem ops_inL : OpS G false (rInD G.K) (fun μ x y => blO (inLD μ x y)) := by
  intro ρ μ H x y dx dy d Q s rx ry e k
  simp only [blO, Option.map_eq_some_iff] at e
  obtain ⟨b, e, rfl⟩ := e
  unfold inLD at e
  cases e1 : RS.asL μ dy with
  | none => rw [e1] at e; cases e
  | some ds =>
    cases e2 : shp (py dx) with
    | none => rw [e1, e2] at e; cases e
    | some a =>
      rw [e1, e2] at e
      simp only at e
      cases e3 : shp ((pys ds).map .list) with
      | none => rw [e3] at e; cases e
      | some p =>
        rw [e3] at e
        obtain ⟨q1, q2⟩ := shp_some e2
        obtain ⟨q3, q4⟩ := shp_some e3
        simp only [Option.map_eq_some_iff] at q3
        obtain ⟨es, q5, q6⟩ := q3
        subst q6
        cases e
        obtain ⟨l, vs, rfl, hl, t⟩ := ry.asL s e1
        exact ⟨a, es, rx.dp q1, .lst hl (t.dp q5), q2, q4, k _ _ (.here s (.bl _))⟩
theorem ops_ninL : OpS G false (rNotInD G.K) (fun μ x y => blO ((inLD μ x y).map (!·))) := by
  intro ρ μ H x y dx dy d Q s rx ry e k
  simp only [blO, Option.map_eq_some_iff] at e
  obtain ⟨b, ⟨b', e, rfl⟩, rfl⟩ := e
  unfold inLD at e
  cases e1 : RS.asL μ dy with
  | none => rw [e1] at e; cases e
  | some ds =>
    cases e2 : shp (py dx) with
    | none => rw [e1, e2] at e; cases e
    | some a =>
      rw [e1, e2] at e
      simp only at e
      cases e3 : shp ((pys ds).map .list) with
      | none => rw [e3] at e; cases e
      | some p =>
        rw [e3] at e
        obtain ⟨q1, q2⟩ := shp_some e2
        obtain ⟨q3, q4⟩ := shp_some e3
        simp only [Option.map_eq_some_iff] at q3
        obtain ⟨es, q5, q6⟩ := q3
        subst q6
        cases e
        obtain ⟨l, vs, rfl, hl, t⟩ := ry.asL s e1
        exact ⟨a, es, rx.dp q1, .lst hl (t.dp q5), q2, q4, k _ _ (.here s (.bl _))⟩
theorem ops_inS : OpS G false (fun x y H Q => ∃ i j, x = .str i ∧ y = .str j ∧ Q (.bl (!(Builtin.Str.occurrences j i 0 j.length 1).isEmpty)) H) (fun _ x y => blO (inSD x y)) := by
  intro ρ μ H x y dx dy d Q s rx ry e k
  simp only [blO, Option.map_eq_some_iff] at e
  obtain ⟨b, e, rfl⟩ := e
  cases rx <;> first | (cases ry <;> first | (cases e; exact ⟨_, _, rfl, rfl, k _ _ (.here s (.bl _))⟩) | cases e) | cases e
/-! ### places -/
theorem ixN_len {n m : Nat} (h : n = m) (i : Int) : ixN n i = ixN m i := by rw [h]
theorem DVs.atI {ds : List D} {vs : List V} (t : DVs G ρ H ds vs) {i : Int} {d : D} (h : L2.atI ds i = some d) : ∃ v, L2.atI vs i = some v ∧ DV G ρ H d v := by
  unfold L2.atI at h ⊢
  rw [← t.length]
  cases e : ixN ds.length i with
  | none => rw [e] at h; cases h
  | some j =>
    rw [e] at h
    exact t.get h
def ixSeq (μ : Sto) (x y : D) : Option D := match asS μ x, y with
  | some ds, .int i => L2.atI ds i
  | _, _ => none
def ixTxt (x y : D) : Option D := match x, y with
  | .str z, .int i => if z.length ≤ sizeLine then (L2.atI z.cps.toList i).map fun c => .str ⟨#[c]⟩ else none
  | _, _ => none
theorem ops_ix : OpS G false (rIx G.K) (fun μ x y => (ixSeq μ x y).orElse fun _ => ixTxt x y) := by
  intro ρ μ H x y dx dy d Q s rx ry e k
  simp only at e
  cases e1 : ixSeq μ dx dy with
  | some c =>
    have e' : some c = some d := by rw [e1] at e; exact e
    cases e'
    unfold ixSeq at e1
    cases e2 : RS.asS μ dx with
    | none => rw [e2] at e1; cases e1
    | some ds =>
      rw [e2] at e1
      cases ry with
      | int i =>
        obtain ⟨a, vs, rfl, h, t⟩ := rx.asS s e2
        obtain ⟨v, h1, h2⟩ := t.atI e1
        rcases h with h | h
        · exact .inl ⟨a, vs, i, v, rfl, rfl, h, h1, k v H (.here s h2)⟩
        · exact .inr (.inl ⟨a, vs, i, v, rfl, rfl, h, h1, k v H (.here s h2)⟩)
      | _ => cases e1
  | none =>
    have e' : ixTxt dx dy = some d := by rw [e1] at e; exact e
    unfold ixTxt at e'
    cases rx with
    | str z =>
      cases ry with
      | int i =>
        simp only at e'
        split at e'
        · rename_i hz
          simp only [Option.map_eq_some_iff] at e'
          obtain ⟨c, q1, q2⟩ := e'
          subst q2
          exact .inr (.inr ⟨z, i, c, rfl, rfl, hz, q1, k _ _ (.here s (.str _))⟩)
        · cases e'
      | _ => cases e'
    | _ => cases e'
end

/-! ### arithmetic -/
section
variable {X : Cx}
theorem mulOk_ok {i j : Int} (h : mulOk i j = true) : IntMulOk i j := by
  have b : ∀ x : Int, Builtin.Int.intBits x ≤ x.natAbs.log2 + 1 := fun x => by
    unfold Builtin.Int.intBits
    split <;> omega
  have h1 := b i
  have h2 := b j
  have h3 : i.natAbs.log2 + j.natAbs.log2 < 134217000 := of_decide_eq_true h
  have e : bitsLine = 134217728 := by decide
  unfold IntMulOk
  intro z
  rw [Bool.and_eq_true] at z
  have z2 := z.2
  unfold Builtin.Int.intTooBig at z2
  have z3 := of_decide_eq_true z2
  rw [e] at z3
  omega
theorem op_mulB : OpR X (binaryOp .Mult) (rI (fun i j => mulOk i j = true) fun i j => .int (i * j)) := opI fun _ _ _ _ _ _ _ hc q => mul_int q (mulOk_ok hc)
theorem op_fdivB : OpR X (binaryOp .FloorDiv) (rI (fun i j => j ≠ 0 ∧ Builtin.divisionGoesByPylong i j = false) fun i j => .int (i.fdiv j)) := opI fun _ _ _ _ _ _ _ hc q => floordiv_int hc.1 q (.inl hc.2)
/-- xs + ys, of any lists -/
def rCatS (K : PySem.W.Frag) : R2 := fun x y H Q => ∃ l b xs zs, x = .ref l ∧ y = .ref b ∧ SqL K H l xs ∧ SqL K H b zs ∧ xs.length + zs.length ≤ sizeLine ∧ ∀ p, H p = none → Q (.ref p) (upd H p (.lst (xs ++ zs)))
theorem op_catS : OpR X (binaryOp .Add) (rCatS X.K) := by
  intro pins s σ H x y v u Q I rx ry h
  obtain ⟨l, b, xs, zs, rfl, rfl, hH, hB, hz, q⟩ := h
  cases rx
  cases ry
  obtain ⟨its, r, p, z⟩ := I.list hH
  obtain ⟨its2, r2, p2, z2⟩ := I.list hB
  obtain ⟨⟨cls, dd, data, sl⟩, n, ho, hc, hdd, hd⟩ := p
  obtain ⟨⟨cls2, dd2, data2, sl2⟩, n2, ho2, hc2, hdd2, hd2⟩ := p2
  simp only at hc hd hdd hc2 hd2 hdd2
  subst hc hd hdd hc2 hd2 hdd2
  have hl := r.length
  have hl2 := r2.length
  have e : its.toArray ++ its2.toArray = (its ++ its2).toArray := by simp
  refine PySem.concat_meets ⟨_, ho, rfl⟩ ⟨_, ho2, rfl⟩ PySem.noFill_list_add PySem.seq_list_add PySem.F.slot_list_add PySem.F.entry_list_add (PySem.F.args_list_add_2 _ _) (list_addW l b its.toArray its2.toArray n n2 none none sl sl2 (by rw [List.size_toArray, List.size_toArray]; omega)) ⟨ho, ho2, ?_⟩
  rw [e]
  exact ⟨.ref _, _, I.lnew (t' := s.toks) (r.append r2) (by rw [List.length_append]; omega), rfl, q _ I.fresh⟩
end

section
variable {G : Gm} {ρ : Ow} {H : Hp} {μ : Sto}
def addI (x y : D) : Option D := match x, y with
  | .int i, .int j => some (.int (i + j))
  | _, _ => none
def addT (x y : D) : Option D := match x, y with
  | .str a, .str b => if a.length + b.length ≤ sizeLine then some (.str (a ++ b)) else none
  | _, _ => none
def addP (x y : D) : Option D := match x, y with
  | .tup (a :: as), .tup (b :: bs) => if (a :: as).length + (b :: bs).length ≤ sizeLine then some (.tup ((a :: as) ++ (b :: bs))) else none
  | _, _ => none
def addL (μ : Sto) (x y : D) : Option D := match asL μ x, asL μ y with
  | some a, some b => if a.length + b.length ≤ sizeLine then some (.lst (a ++ b)) else none
  | _, _ => none
def addAll (μ : Sto) (x y : D) : Option D := match addI x y with
  | some d => some d
  | none => match addT x y with
    | some d => some d
    | none => match addP x y with
      | some d => some d
      | none => addL μ x y
abbrev rAddAll (K : PySem.W.Frag) : R2 := fun x y H Q => (∃ i j, x = .int i ∧ y = .int j ∧ Q (.int (i + j)) H) ∨ (∃ i j, x = .str i ∧ y = .str j ∧ i.length + j.length ≤ sizeLine ∧ Q (.str (i ++ j)) H) ∨ rCatT K x y H Q ∨ rCatS K x y H Q
theorem op_addAll {X : Cx} : OpR X (binaryOp .Add) (rAddAll X.K) := OpR.or op_add (OpR.or op_add_str (OpR.or op_catT op_catS))
theorem ops_add : OpS G true (rAddAll G.K) addAll := by
  intro ρ μ H x y dx dy d Q s rx ry e k
  unfold addAll at e
  cases e1 : addI dx dy with
  | some c =>
    rw [e1] at e; cases e
    unfold addI at e1
    cases rx <;> first | (cases ry <;> first | (cases e1; exact .inl ⟨_, _, rfl, rfl, k _ _ (.flat s (.int _) (fun _ z => by cases z))⟩) | cases e1) | cases e1
  | none =>
    rw [e1] at e
    cases e2 : addT dx dy with
    | some c =>
      rw [e2] at e; cases e
      unfold addT at e2
      cases rx <;> first | (cases ry <;> first | (simp only at e2; split at e2 <;> cases e2; exact .inr (.inl ⟨_, _, rfl, rfl, by assumption, k _ _ (.flat s (.str _) (fun _ z => by cases z))⟩)) | cases e2) | cases e2
    | none =>
      rw [e2] at e
      cases e3 : addP dx dy with
      | some c =>
        rw [e3] at e; cases e
        unfold addP at e3
        cases rx with
        | tup h t =>
          rename_i ds a vs
          cases ry with
          | tup h2 t2 =>
            rename_i es b us
            cases ds with
            | nil => cases e3
            | cons d0 ds =>
              cases es with
              | nil => cases e3
              | cons e0 es =>
                simp only at e3
                split at e3
                · rename_i hz
                  cases e3
                  cases t with
                  | cons p q =>
                    cases t2 with
                    | cons p2 q2 =>
                      refine .inr (.inr (.inl ⟨_, _, _, _, rfl, rfl, h, h2, List.cons_ne_nil _ _, ?_, fun z => absurd z (List.cons_ne_nil _ _), fun _ pp hp => k _ _ (Post.newt s ((DVs.cons p q).append (.cons p2 q2)) hp)⟩))
                      have z1 := (DVs.cons p q).length
                      have z2 := (DVs.cons p2 q2).length
                      rw [← z1, ← z2]; exact hz
                · cases e3
          | _ => simp at e3
        | _ => simp at e3
      | none =>
        rw [e3] at e
        unfold addL at e
        cases q1 : RS.asL μ dx with
        | none => rw [q1] at e; cases e
        | some as =>
          cases q2 : RS.asL μ dy with
          | none => rw [q1, q2] at e; cases e
          | some bs =>
            rw [q1, q2] at e
            simp only at e
            split at e
            · rename_i hz
              cases e
              obtain ⟨a, vs, rfl, h, t⟩ := rx.asL s q1
              obtain ⟨b, us, rfl, h2, t2⟩ := ry.asL s q2
              refine .inr (.inr (.inr ⟨a, b, vs, us, rfl, rfl, h, h2, by rw [← t.length, ← t2.length]; exact hz, fun p hp => k _ _ (Post.newl s (t.append t2) hp)⟩))
            · cases e
end
end RS

/-! The R road, part e: tests, built-ins, slices, calls. -/
namespace RS
open PySem PySem.Spec PyProof.Rows L2

section
variable {G : Gm} {ρ : Ow} {H : Hp} {μ : Sto}
theorem DV.tru (s : SRel G ρ μ H) {d : D} {v : V} {k : Bool} (r : DV G ρ H d v) (h : truth μ d = some k) : TruV G.K v H k := by
  cases r with
  | non => cases h; rfl
  | bl b => cases h; rfl
  | int i => cases h; rfl
  | str z =>
    simp only [truth] at h
    split at h
    · rename_i hz
      cases h
      refine ⟨hz, ?_⟩
      cases z.length <;> simp <;> omega
    · cases h
  | tup h1 t =>
    rename_i ds a vs
    cases h
    refine .inr (.inl ⟨_, h1, ?_⟩)
    cases t <;> rfl
  | lst h1 t =>
    cases h
    refine .inl ⟨_, h1.sq, ?_⟩
    cases t <;> rfl
  | cell e =>
    simp only [truth, Option.map_eq_some_iff] at h
    obtain ⟨ds, e1, e2⟩ := h
    subst e2
    obtain ⟨vs, e3, t, _⟩ := s.cell e1 e
    refine .inl ⟨_, SqL.of e3, ?_⟩
    cases t <;> rfl
  | _ => cases h
end

def trD (den : Vs → Sto → R D) : Vs → Sto → R Bool := fun env μ => (den env μ).bind fun d μ' => opt (truth μ' d) μ'
def notD (den : Vs → Sto → R D) : Vs → Sto → R D := fun env μ => (den env μ).bind fun d μ' => opt ((truth μ' d).map fun b => .bl (!b)) μ'
def andD (da db : Vs → Sto → R D) : Vs → Sto → R D := fun env μ => (da env μ).bind fun d μ' => match truth μ' d with
  | some true => db env μ'
  | some false => .ok d μ'
  | none => .no
def orD (da db : Vs → Sto → R D) : Vs → Sto → R D := fun env μ => (da env μ).bind fun d μ' => match truth μ' d with
  | some true => .ok d μ'
  | some false => db env μ'
  | none => .no
def iteD (t : Vs → Sto → R Bool) (da db : Vs → Sto → R D) : Vs → Sto → R D := fun env μ => (t env μ).bind fun b μ' => if b then da env μ' else db env μ'

section
variable {X : Cx} {W : WX} {e a b : Expr} {es : List Expr} {pos : Pos}
theorem t_val {fr : Bool} {den : Vs → Sto → R D} (h : PE X e (tE (gm X) W fr den)) (he : ∀ whole, isTrue e X.env whole = (do let v ← whole; standAt e.pos; holding [v] (truthy v))) : PT X e (tT (gm X) W (trD den)) := by
  refine PT_weak (pt_truth h he) fun σ H Q h => ?_
  obtain ⟨ρ, μ, env, s, ev, o⟩ := h
  refine tE.go s ev (Out.bind o) fun d μ1 v H1 o1 p => ?_
  obtain ⟨k, e, q⟩ := Out.opt o1
  exact ⟨k, p.r.tru p.s e, q H1 p.x p.s⟩
/-- two values in a row, then anything -/
theorem go2 {α : Type} {fr1 fr2 : Bool} {da db : Vs → Sto → R D} {F : D → D → Sto → R α} {σ : St} {H : Hp} {R' : V → V → Hp → Prop} {ok : α → Sto → Prop} {ρ : Ow} {μ : Sto} {env : Vs}
    (s : SRel (gm X) ρ μ H) (ev : EV (gm X) ρ H env σ) (h : Out ((da env μ).bind fun x μ1 => (db env μ1).bind fun y μ2 => F x y μ2) ok (Er (gm X) W σ ρ H))
    (k : ∀ μ2 dx dy x y H2, SRel (gm X) ρ μ2 H2 → DV (gm X) ρ H2 dx x → DV (gm X) ρ H2 dy y → Ext ρ H H2 → Out (F dx dy μ2) ok (Er (gm X) W σ ρ H2) → R' x y H2) :
    tE (gm X) W fr1 da σ H fun x H1 => tE (gm X) W fr2 db σ H1 fun y H2 => R' x y H2 := by
  refine tE.go s ev (Out.bind h) fun dx μ1 x H1 o1 p1 => ?_
  have o1 := Out.bind o1
  refine tE.go p1.s (ev.ext p1.x) (o1.imp (fun _ _ q => q) fun c μ' q => q.on p1.x) fun dy μ2 y H2 o2 p2 => ?_
  exact k μ2 dx dy x y H2 p2.s (p1.r.ext p2.x) p2.r (p1.x.trans p2.x) (o2.imp (fun _ _ q => q) fun c μ' q => q.on (p1.x.trans p2.x))
theorem R.bind_assoc {α β γ : Type} (r : R α) (f : α → Sto → R β) (g : β → Sto → R γ) : (r.bind f).bind g = r.bind fun a μ => (f a μ).bind g := by cases r <;> rfl
theorem t_cmp {op : CmpOp} {r : R2} {fr1 fr2 : Bool} {g : Sto → D → D → Option D} {da db : Vs → Sto → R D} (ho : OpR X (compareOp op) r) (hs : OpS (gm X) false r g) (hg : ∀ μ x y d, g μ x y = some d → ∃ k, d = .bl k)
    (ha : PE X a (tE (gm X) W fr1 da)) (hb : PE X b (tE (gm X) W fr2 db)) (hm : behindInMarks op b = false) : PT X (.Compare a [op] [b] pos) (tT (gm X) W (trD (bin2 g da db))) := by
  refine PT_weak (pt_cmpR ho ha hb hm) fun σ H Q h => ?_
  obtain ⟨ρ, μ, env, s, ev, o⟩ := h
  unfold trD bin2 at o
  simp only [R.bind_assoc] at o
  refine go2 s ev o fun μ2 dx dy x y H2 s2 rx ry x2 o => ?_
  obtain ⟨d, e, q⟩ := Out.opt (Out.bind o)
  obtain ⟨k, e1⟩ := hg _ _ _ _ e
  subst e1
  obtain ⟨k', e2, q⟩ := Out.opt q
  cases e2
  refine hs ρ μ2 H2 x y dx dy _ _ s2 rx ry e fun v H' p => ?_
  have r := p.r
  cases r
  exact ⟨k, rfl, q H' (x2.trans p.x) p.s⟩
/-! ### not, and, or -/
theorem s_not {fr : Bool} {den : Vs → Sto → R D} (h : PE X e (tE (gm X) W fr den)) : PE X (.UnaryOp .Not e pos) (tE (gm X) W false (notD den)) := by
  refine PE_weak (pe_notT h) fun σ H Q h => ?_
  obtain ⟨ρ, μ, env, s, ev, o⟩ := h
  refine tE.go s ev (Out.bind o) fun d μ1 v H1 o1 p => ?_
  obtain ⟨c, e, q⟩ := Out.opt o1
  simp only [Option.map_eq_some_iff] at e
  obtain ⟨k, e, e2⟩ := e
  subst e2
  exact ⟨k, p.r.tru p.s e, q _ _ (Post.back p.x (.here p.s (.bl _)))⟩
theorem t_not {den : Vs → Sto → R D} (h : PT X e (tT (gm X) W (trD den))) : PT X (.UnaryOp .Not e pos) (tT (gm X) W (trD (notD den))) := by
  refine PT_weak (pt_not h) fun σ H Q h => ?_
  obtain ⟨ρ, μ, env, s, ev, o⟩ := h
  unfold trD notD at o
  simp only [R.bind_assoc] at o
  refine ⟨ρ, μ, env, s, ev, ?_⟩
  unfold trD
  cases q : den env μ with
  | ok d μ' =>
    rw [q] at o
    have o : Out ((opt ((truth μ' d).map fun b => D.bl (!b)) μ').bind fun d μ' => opt (truth μ' d) μ') _ _ := o
    show Out (opt (truth μ' d) μ') _ _
    cases q2 : truth μ' d with
    | none => rw [q2] at o; exact o.elim
    | some k => rw [q2] at o; exact o
  | er c μ' => rw [q] at o; exact o
  | no => rw [q] at o; exact o
variable {rest : List Expr}
theorem s_and {fr1 fr2 : Bool} {da db : Vs → Sto → R D} (ha : PE X a (tE (gm X) W fr1 da)) (hb : PE X (.BoolOp .And (b :: rest) pos) (tE (gm X) W fr2 db)) : PE X (.BoolOp .And (a :: b :: rest) pos) (tE (gm X) W false (andD da db)) := by
  refine PE_weak (pe_andT ha hb) fun σ H Q h => ?_
  obtain ⟨ρ, μ, env, s, ev, o⟩ := h
  refine tE.go s ev (Out.bind o) fun d μ1 v H1 o1 p => ?_
  cases e : truth μ1 d with
  | none => rw [e] at o1; exact o1.elim
  | some k =>
    rw [e] at o1
    refine ⟨k, p.r.tru p.s e, ?_⟩
    cases k with
    | true => exact tE.go p.s (ev.ext p.x) (o1.imp (fun _ _ q => q) fun c μ' q => q.on p.x) fun d2 μ2 v2 H2 q p2 => q v2 H2 (Post.back p.x p2).un
    | false => exact o1 v H1 p.un
theorem s_or {fr1 fr2 : Bool} {da db : Vs → Sto → R D} (ha : PE X a (tE (gm X) W fr1 da)) (hb : PE X (.BoolOp .Or (b :: rest) pos) (tE (gm X) W fr2 db)) : PE X (.BoolOp .Or (a :: b :: rest) pos) (tE (gm X) W false (orD da db)) := by
  refine PE_weak (pe_orT ha hb) fun σ H Q h => ?_
  obtain ⟨ρ, μ, env, s, ev, o⟩ := h
  refine tE.go s ev (Out.bind o) fun d μ1 v H1 o1 p => ?_
  cases e : truth μ1 d with
  | none => rw [e] at o1; exact o1.elim
  | some k =>
    rw [e] at o1
    refine ⟨k, p.r.tru p.s e, ?_⟩
    cases k with
    | false => exact tE.go p.s (ev.ext p.x) (o1.imp (fun _ _ q => q) fun c μ' q => q.on p.x) fun d2 μ2 v2 H2 q p2 => q v2 H2 (Post.back p.x p2).un
    | true => exact o1 v H1 p.un
theorem s_one {op} {fr : Bool} {den : Vs → Sto → R D} (h : PE X a (tE (gm X) W fr den)) : PE X (.BoolOp op [a] pos) (tE (gm X) W fr den) := pe_one h
/-- tests in a row: whatever the whole is -/
theorem w_and1 {den : Vs → Sto → R D} (h : PT X a (tT (gm X) W (trD den))) : PW X (.BoolOp .And [a] pos) (tT (gm X) W (trD den)) := pw_and1 h
theorem w_or1 {den : Vs → Sto → R D} (h : PT X a (tT (gm X) W (trD den))) : PW X (.BoolOp .Or [a] pos) (tT (gm X) W (trD den)) := pw_or1 h
theorem w_and {da db : Vs → Sto → R D} (ha : PT X a (tT (gm X) W (trD da))) (hb : PW X (.BoolOp .And (b :: rest) pos) (tT (gm X) W (trD db))) : PW X (.BoolOp .And (a :: b :: rest) pos) (tT (gm X) W (trD (andD da db))) := by
  refine PW_weak (pw_and ha hb) fun σ H Q h => ?_
  obtain ⟨ρ, μ, env, s, ev, o⟩ := h
  unfold trD andD at o
  simp only [R.bind_assoc] at o
  refine ⟨ρ, μ, env, s, ev, ?_⟩
  unfold trD
  cases q : da env μ with
  | ok d μ' =>
    rw [q] at o
    simp only [R.bind] at o ⊢
    cases q2 : truth μ' d with
    | none => rw [q2] at o; exact o.elim
    | some k =>
      rw [q2] at o
      intro H' x' s'
      cases k with
      | true =>
        simp only [if_true]
        exact ⟨ρ, μ', env, s', ev.ext x', o.imp (fun b μ2 q H2 x2 s2 => q H2 (x'.trans x2) s2) fun c μ2 q => q.on x'⟩
      | false =>
        simp only [Bool.false_eq_true, if_false]
        simp only [q2] at o
        exact o H' x' s'
  | er c μ' => rw [q] at o; exact o
  | no => rw [q] at o; exact o
theorem w_or {da db : Vs → Sto → R D} (ha : PT X a (tT (gm X) W (trD da))) (hb : PW X (.BoolOp .Or (b :: rest) pos) (tT (gm X) W (trD db))) : PW X (.BoolOp .Or (a :: b :: rest) pos) (tT (gm X) W (trD (orD da db))) := by
  refine PW_weak (pw_or ha hb) fun σ H Q h => ?_
  obtain ⟨ρ, μ, env, s, ev, o⟩ := h
  unfold trD orD at o
  simp only [R.bind_assoc] at o
  refine ⟨ρ, μ, env, s, ev, ?_⟩
  unfold trD
  cases q : da env μ with
  | ok d μ' =>
    rw [q] at o
    simp only [R.bind] at o ⊢
    cases q2 : truth μ' d with
    | none => rw [q2] at o; exact o.elim
    | some k =>
      rw [q2] at o
      intro H' x' s'
      cases k with
      | false =>
        simp only [Bool.false_eq_true, if_false]
        exact ⟨ρ, μ', env, s', ev.ext x', o.imp (fun b μ2 q H2 x2 s2 => q H2 (x'.trans x2) s2) fun c μ2 q => q.on x'⟩
      | true =>
        simp only [if_true]
        simp only [q2] at o
        exact o H' x' s'
  | er c μ' => rw [q] at o; exact o
  | no => rw [q] at o; exact o
/-- a if t else b -/
theorem s_ite {c : Expr} {fr1 fr2 : Bool} {dt : Vs → Sto → R Bool} {da db : Vs → Sto → R D} (hc : PT X c (tT (gm X) W dt)) (ha : PE X a (tE (gm X) W fr1 da)) (hb : PE X b (tE (gm X) W fr2 db)) : PE X (.IfExp c a b pos) (tE (gm X) W false (iteD dt da db)) := by
  refine PE_weak (pe_ifExp hc ha hb) fun σ H Q h => ?_
  obtain ⟨ρ, μ, env, s, ev, o⟩ := h
  refine tT.go s ev (Out.bind o) fun k μ1 H1 o1 x1 s1 => ?_
  cases k with
  | true => exact tE.go s1 (ev.ext x1) (o1.imp (fun _ _ q => q) fun c μ' q => q.on x1) fun d2 μ2 v2 H2 q p2 => q v2 H2 (Post.back x1 p2).un
  | false => exact tE.go s1 (ev.ext x1) (o1.imp (fun _ _ q => q) fun c μ' q => q.on x1) fun d2 μ2 v2 H2 q p2 => q v2 H2 (Post.back x1 p2).un

/-! ### built-ins, called by name -/
def calD (g : Sto → List D → Option D) (den : Vs → Sto → R (List D)) : Vs → Sto → R D := fun env μ => (den env μ).bind fun ds μ' => opt (g μ' ds) μ'
theorem cal_go {fr : Bool} {r : List V → Hp → VK → Prop} {g : Sto → List D → Option D} {den : Vs → Sto → R (List D)} {σ : St} {H : Hp} {Q : VK} (hs : CaS (gm X) fr r g) (h : tE (gm X) W fr (calD g den) σ H Q) : tCB r (tEs (gm X) W den) σ H Q := by
  obtain ⟨ρ, μ, env, s, ev, o⟩ := h
  refine tEs.go s ev (Out.bind o) fun ds μ1 vs H1 o1 x1 s1 r1 => ?_
  obtain ⟨d, e, q⟩ := Out.opt o1
  exact hs ρ μ1 H1 vs ds d Q s1 r1 e fun v H' p => q v H' (Post.back x1 p)
theorem s_callB {id : String} {x : Str} {p : Pos} {fr : Bool} {r : List V → Hp → VK → Prop} {g : Sto → List D → Option D} {den : Vs → Sto → R (List D)} (hc : CallR X (.builtin id) r) (hs : CaS (gm X) fr r g) (hg : Gl X x) (hm : X.mg x = none) (hv : bootBuiltins x = some (.builtin id)) (ha : PA X (e :: es) (tEs (gm X) W den))
    (hn : x ≠ "__name__") (hdb : (x == ("__debug__" : Str)) = false) (he : starEach (e :: es) X.env = (false, eval e X.env) :: starEach es X.env) (hpl : (backTo pos (starEach es X.env)).any (·.1) = false) :
    PE X (.Call (.Name x p) (e :: es) [] pos) (tE (gm X) W fr (calD g den)) := PE_weak (pe_callB hc hg hm hv ha hn hdb he hpl) fun _ _ _ h => cal_go hs h
theorem s_callTy {T : String} {x : Str} {p : Pos} {fr : Bool} {r : List V → Hp → VK → Prop} {g : Sto → List D → Option D} {den : Vs → Sto → R (List D)} (hc : CallR X (.type T) r) (hs : CaS (gm X) fr r g) (hg : Gl X x) (hm : X.mg x = none) (hv : bootBuiltins x = some (.type T)) (ha : PA X (e :: es) (tEs (gm X) W den))
    (hn : x ≠ "__name__") (hdb : (x == ("__debug__" : Str)) = false) (he : starEach (e :: es) X.env = (false, eval e X.env) :: starEach es X.env) (hpl : (backTo pos (starEach es X.env)).any (·.1) = false) :
    PE X (.Call (.Name x p) (e :: es) [] pos) (tE (gm X) W fr (calD g den)) := PE_weak (pe_callTy hc hg hm hv ha hn hdb he hpl) fun _ _ _ h => cal_go hs h

/-! ### slices -/
def optD (den : Option (Vs → Sto → R D)) : Vs → Sto → R (Option Int) := match den with
  | none => fun _ μ => .ok none μ
  | some f => fun env μ => (f env μ).bind fun d μ' => match d with
    | .int i => .ok (some i) μ'
    | _ => .no
def tOpt (G : Gm) (W : WX) (den : Vs → Sto → R (Option Int)) : TO := fun σ H Q => ∃ ρ μ env, SRel G ρ μ H ∧ EV G ρ H env σ ∧
  Out (den env μ) (fun i μ' => ∀ H', Ext ρ H H' → SRel G ρ μ' H' → Q i H') (Er G W σ ρ H)
theorem o_none : PO X none (tOpt (gm X) W (optD none)) := by
  refine ⟨fun pins s σ H Q I h => (po_none (X := X)).run pins s σ H Q I ?_⟩
  obtain ⟨ρ, μ, env, s, ev, o⟩ := h
  exact o H Ext.refl s
theorem o_some {fr : Bool} {den : Vs → Sto → R D} (h : PE X e (tE (gm X) W fr den)) : PO X (some e) (tOpt (gm X) W (optD (some den))) := by
  refine ⟨fun pins s σ H Q I q => (po_some h).run pins s σ H Q I ?_⟩
  obtain ⟨ρ, μ, env, s, ev, o⟩ := q
  refine tE.go s ev (Out.bind o) fun d μ1 v H1 o1 p => ?_
  have r := p.r
  cases r <;> first | exact ⟨_, rfl, o1 H1 p.x p.s⟩ | exact o1.elim
def cutD (ds : List D) (lo hi : Option Int) : List D := (ds.drop (HT.sIx ds.length 0 lo)).take (HT.sIx ds.length ds.length hi - HT.sIx ds.length 0 lo)
theorem DVs.cut {G : Gm} {ρ : Ow} {H : Hp} {ds : List D} {vs : List V} (t : DVs G ρ H ds vs) (lo hi : Option Int) : DVs G ρ H (cutD ds lo hi) (cutV vs lo hi) := by
  unfold cutD cutV
  rw [← t.length]
  exact (t.drop _).take _
def slD (μ : Sto) (d : D) (lo hi : Option Int) : Option D := match asL μ d with
  | some ds => some (.lst (cutD ds lo hi))
  | none => none
end
end RS

/-! The R road, part f: what is walked; comprehensions. -/
namespace RS
open PySem PySem.Spec PyProof.Rows L2

section
variable {G : Gm} {ρ : Ow} {H H' : Hp} {p : Addr} {μ : Sto}
theorem DV.toAdd : (∀ d v, DV G (ρ.lend p) H d v → DV G (ρ.add p) H d v) ∧ (∀ ds vs, DVs G (ρ.lend p) H ds vs → DVs G (ρ.add p) H ds vs) := by
  have l : ∀ {a : Addr} {vs : List V}, LAt G.K (ρ.lend p) H a vs → LAt G.K (ρ.add p) H a vs := fun {a vs} h => by
    rcases h with ⟨h, n⟩ | h
    · refine .inl ⟨h, fun m => n ?_⟩
      rcases List.mem_append.mp m with m | m
      · exact List.mem_cons_of_mem _ m
      · have e : a = p := by simpa using m
        rw [e]; exact List.mem_cons_self
    · exact .inr h
  have c : ∀ {i : Nat} {a : Addr}, (ρ.lend p).c[i]? = some a → DV G (ρ.add p) H (.cell i) (.ref a) := fun {i a} h => .cell (by
    have h : ρ.c[i]? = some a := h
    have := (List.getElem?_eq_some_iff.mp h).1
    show (ρ.c ++ [p])[i]? = _
    rw [List.getElem?_append_left this]; exact h)
  refine ⟨fun d v h => ?_, fun ds vs h => ?_⟩
  · exact DV.rec (motive_1 := fun d v _ => DV G (ρ.add p) H d v) (motive_2 := fun ds vs _ => DVs G (ρ.add p) H ds vs) .non .bl .int .str (fun h _ t => .tup h t) (fun h _ t => .lst (l h) t) c (fun h => .fn h) (fun h c => .exc h c) .nil (fun _ _ a b => .cons a b) h
  · exact DVs.rec (motive_1 := fun d v _ => DV G (ρ.add p) H d v) (motive_2 := fun ds vs _ => DVs G (ρ.add p) H ds vs) .non .bl .int .str (fun h _ t => .tup h t) (fun h _ t => .lst (l h) t) c (fun h => .fn h) (fun h c => .exc h c) .nil (fun _ _ a b => .cons a b) h
theorem FV.map {ρ' : Ow} {H' : Hp} (k : ∀ d v, DV G ρ H d v → DV G ρ' H' d v) : ∀ {fs : List (Str × D)} {gs : List (Str × V)}, FV G ρ H fs gs → FV G ρ' H' fs gs
  | [], [], _ => trivial
  | (_, _) :: _, (_, _) :: _, h => ⟨h.1, k _ _ h.2.1, FV.map k h.2.2⟩
  | [], _ :: _, h => h.elim
  | _ :: _, [], h => h.elim
theorem CAt.map {ρ' : Ow} {H' : Hp} {a : Addr} {c : Cell} (k : ∀ d v, DV G ρ H d v → DV G ρ' H' d v) (ks : ∀ ds vs, DVs G ρ H ds vs → DVs G ρ' H' ds vs) (g : ∀ o, H a = some o → H' a = some o) (h : CAt G ρ H a c) : CAt G ρ' H' a c := by
  cases c with
  | lst ds => obtain ⟨vs, e, d, n⟩ := h; exact ⟨vs, g _ e, ks _ _ d, n⟩
  | obj c fs => obtain ⟨C, dx, gs, m, e, f⟩ := h; exact ⟨C, dx, gs, m, g _ e, FV.map k f⟩
theorem SRel.lend (s : SRel G ρ μ H) {o : HO} (hp : H p = none) : SRel G (ρ.lend p) μ (upd H p o) :=
  have g : Gr H (upd H p o) := Gr.new hp
  ⟨s.len, s.nd, fun i c h => let ⟨a, e, k⟩ := s.at_ i c h; ⟨a, e, k.map (fun _ _ r => r.lend g.ext hp) (fun _ _ r => r.lend g.ext hp) (g a)⟩, fun a m z => by
    rcases List.mem_cons.mp m with e | m
    · subst e; rw [upd_same] at z; cases z
    · exact s.all a m ((g.ext (ρ := ρ)).d a z)⟩
theorem SRel.unlend (s : SRel G (ρ.lend p) μ H) : SRel G ρ μ H :=
  ⟨s.len, s.nd, fun i c h => let ⟨a, e, k⟩ := s.at_ i c h; ⟨a, e, k.map (fun _ _ r => r.unlend) (fun _ _ r => r.unlend) fun _ z => z⟩, fun a m => s.all a (List.mem_cons_of_mem _ m)⟩
theorem EV.lend {env : Vs} {σ : St} (e : EV G ρ H env σ) (x : Ext ρ H H') (hp : H p = none) : EV G (ρ.lend p) H' env σ :=
  ⟨e.1, fun i d h => let ⟨v, a, b⟩ := e.2 i d h; ⟨v, a, b.lend x hp⟩⟩
theorem Ext.unlend {H H' : Hp} (x : Ext (ρ.lend p) H H') : Ext ρ H H' := ⟨x.k, x.d⟩
theorem Ext.tolend {H H' : Hp} (x : Ext ρ H H') : Ext (ρ.lend p) H H' := ⟨x.k, x.d⟩
/-- a list that was filled on the side is new to all -/
theorem Post.filled {fr : Bool} {H0 : Hp} {μ0 : Sto} {ds : List D} {vs : List V} (s0 : SRel G ρ μ0 H0) (hp : H0 p = none) (x : Ext ρ H0 H) (s : SRel G (ρ.lend p) μ H) (hH : H p = some (.lst vs)) (r : DVs G (ρ.lend p) H ds vs) : Post G fr ρ H0 μ (.lst ds) (.ref p) H := by
  refine ⟨x, s.unlend, .lst (.inl ⟨.inl hH, s0.notin hp⟩) r.unlend, fun _ es e => ?_⟩
  cases e
  exact ⟨p, rfl, hp, fun hn => SRel.grow s0 x s.unlend hp hH (DV.toAdd.2 _ _ r) hn fun i c a hc ha _ => by
    obtain ⟨b, e, k⟩ := s.at_ i c hc
    have ha : (ρ.lend p).c[i]? = some a := ha
    rw [ha] at e; cases e
    exact k.map DV.toAdd.1 DV.toAdd.2 fun _ z => z⟩
end

/-! ### what is walked -/
structure Wk (G : Gm) (ok : Sto → Bool) (J : L2.It) (ρ : Ow) (H0 : Hp) (items : List D) : Prop where
  go : ∀ (i : Nat) (μ : Sto) (H : Hp) (d : D), Ext ρ H0 H → SRel G ρ μ H → ok μ = true → items[i]? = some d → J.go i H ∧ ∀ x H', J.yld i H x H' → Gr H H' ∧ DV G ρ H' d x
  stop : ∀ (i : Nat) (μ : Sto) (H : Hp), Ext ρ H0 H → SRel G ρ μ H → ok μ = true → items.length ≤ i → J.stop i H
abbrev Itm := List D × (Sto → Bool)
def tI (G : Gm) (W : WX) (den : Vs → Sto → R Itm) : TI := fun σ H Q => ∃ ρ μ env, SRel G ρ μ H ∧ EV G ρ H env σ ∧
  Out (den env μ) (fun its μ' => ∀ J H1, Ext ρ H H1 → SRel G ρ μ' H1 → (∀ ρ' H2, (∃ p, ρ' = ρ ∨ (ρ' = ρ.lend p ∧ H1 p = none)) → Gr H1 H2 → Wk G its.2 J ρ' H2 its.1) → Q J H1) (Er G W σ ρ H)
theorem PI_weak {X : Cx} {tg it : Expr} {t t' : TI} (h : PI X tg it t) (w : ∀ σ H Q, t' σ H Q → t σ H Q) : PI X tg it t' := ⟨fun pins s σ H R I q => h.run pins s σ H R I (w σ H R q)⟩

section
variable {G : Gm} {ρ : Ow} {H H' : Hp}
theorem wk_list {a : Addr} {vs : List V} {ds : List D} (l : LAt G.K ρ H a vs) (t : DVs G ρ H ds vs) : Wk G (fun _ => true) (Itl G.K a) ρ H ds where
  go := fun i μ H2 d x s _ hd => by
    obtain ⟨v, hv, r⟩ := t.get hd
    refine ⟨⟨vs, v, (l.ext x).sq, hv⟩, fun y H' h => ?_⟩
    obtain ⟨e, h⟩ := h
    subst e
    have := h vs (l.ext x).sq
    rw [hv] at this; cases this
    exact ⟨Gr.refl, r.ext x⟩
  stop := fun i μ H2 x s _ hl => ⟨vs, (l.ext x).sq, by rw [← t.length]; exact hl⟩
theorem wk_tup {a : Addr} {vs : List V} {ds : List D} (l : SqT G.K H a vs) (t : DVs G ρ H ds vs) : Wk G (fun _ => true) (Itt G.K a) ρ H ds where
  go := fun i μ H2 d x s _ hd => by
    obtain ⟨v, hv, r⟩ := t.get hd
    refine ⟨⟨vs, v, SqT.ext x l, hv⟩, fun y H' h => ?_⟩
    obtain ⟨e, h⟩ := h
    subst e
    have := h vs (SqT.ext x l)
    rw [hv] at this; cases this
    exact ⟨Gr.refl, r.ext x⟩
  stop := fun i μ H2 x s _ hl => ⟨vs, SqT.ext x l, by rw [← t.length]; exact hl⟩
def sameC (μ : Sto) (i : Nat) (ds : List D) : Bool := match cellL μ i with
  | some es => D.beqs es ds
  | none => false
theorem sameC_eq {μ : Sto} {i : Nat} {ds : List D} (h : sameC μ i ds = true) : cellL μ i = some ds := by
  unfold sameC at h
  cases e : cellL μ i with
  | none => rw [e] at h; cases h
  | some es => rw [e] at h; rw [D.beqs_eq h]
theorem wk_cell {i : Nat} {a : Addr} {ds : List D} (ha : ρ.c[i]? = some a) : Wk G (fun μ => sameC μ i ds) (Itl G.K a) ρ H ds where
  go := fun j μ H2 d x s o hd => by
    obtain ⟨vs, e, t, _⟩ := s.cell (sameC_eq o) ha
    obtain ⟨v, hv, r⟩ := t.get hd
    refine ⟨⟨vs, v, SqL.of e, hv⟩, fun y H' h => ?_⟩
    obtain ⟨e2, h⟩ := h
    subst e2
    have := h vs (SqL.of e)
    rw [hv] at this; cases this
    exact ⟨Gr.refl, r⟩
  stop := fun j μ H2 x s o hl => by
    obtain ⟨vs, e, t, _⟩ := s.cell (sameC_eq o) ha
    exact ⟨vs, SqL.of e, by rw [← t.length]; exact hl⟩
end
def guardOf (d : D) (ds : List D) : Sto → Bool := match d with
  | .cell i => fun μ => sameC μ i ds
  | _ => fun _ => true
def seqI (den : Vs → Sto → R D) : Vs → Sto → R Itm := fun env μ => (den env μ).bind fun d μ' => match asS μ' d with
  | some ds => .ok (ds, guardOf d ds) μ'
  | none => .no
section
variable {X : Cx} {W : WX} {tg e a b : Expr} {pos : Pos}
/-- a list or a tuple -/
theorem pi_seq {l : Expr} {tl : TE} (hl : PE X l tl) : PI X tg l (fun σ H R => tl σ H fun x H1 => (∃ a, x = .ref a ∧ (∃ xs, SqL X.K H1 a xs) ∧ R (Itl X.K a) H1) ∨ ∃ a, x = .ref a ∧ (∃ xs, SqT X.K H1 a xs) ∧ R (Itt X.K a) H1) := by
  refine ⟨fun pins s σ H R I h => ?_⟩
  refine thn (hl.run pins s σ H _ I h) fun v s1 ⟨x, H1, I1, r1, q1⟩ => ?_
  rcases q1 with ⟨a, e, ⟨xs, hq⟩, q⟩ | ⟨a, e, ⟨xs, hq⟩, q⟩
  · subst e
    cases r1
    obtain ⟨its, rv, p, hz⟩ := I1.list hq
    refine wpAny_pyIter_list p.isList ?_
    refine ⟨s1.heap.objs.size, [s1.heap.objs.size], _, _, H1, rfl, I1.kept (t' := s1.toks) fun b o e => Heap.get?_push_of_some _ e, turn_list a _, ⟨_, Heap.get?_push_size _ rfl, rfl, rfl⟩, fun b hb => ?_, q⟩
    have e : b = s1.heap.objs.size := by simpa using hb
    subst e
    exact I1.fpOk (Nat.le_refl _) (I1.hok.fresh (Nat.le_refl _))
  · subst e
    cases r1
    obtain ⟨its, rv, p, hz⟩ := I1.tuple hq
    refine wpAny_pyIter_tuple (show s1.heap.IsTuple a its.toArray from p) ?_
    refine ⟨s1.heap.objs.size, [s1.heap.objs.size], _, _, H1, rfl, I1.kept (t' := s1.toks) fun b o e => Heap.get?_push_of_some _ e, turn_tuple a _, ⟨_, Heap.get?_push_size _ rfl, rfl, rfl⟩, fun b hb => ?_, q⟩
    have e : b = s1.heap.objs.size := by simpa using hb
    subst e
    exact I1.fpOk (Nat.le_refl _) (I1.hok.fresh (Nat.le_refl _))
theorem i_seq {fr : Bool} {den : Vs → Sto → R D} (h : PE X e (tE (gm X) W fr den)) : PI X tg e (tI (gm X) W (seqI den)) := by
  refine PI_weak (pi_seq h) fun σ H Q h => ?_
  obtain ⟨ρ, μ, env, s, ev, o⟩ := h
  refine tE.go s ev (Out.bind o) fun d μ1 v H1 o1 p => ?_
  cases e1 : RS.asS μ1 d with
  | none => rw [e1] at o1; exact o1.elim
  | some ds =>
    rw [e1] at o1
    have r := p.r
    cases r with
    | lst l t =>
      cases e1
      refine .inl ⟨_, rfl, ⟨_, l.sq⟩, o1 _ H1 p.x p.s fun ρ' H2 hρ g => ?_⟩
      obtain ⟨q, rfl | ⟨rfl, hq⟩⟩ := hρ
      · exact wk_list (l.ext g.ext) (t.ext g.ext)
      · exact wk_list (l.lend g.ext hq) (t.lend g.ext hq)
    | tup l t =>
      cases e1
      refine .inr ⟨_, rfl, ⟨_, l⟩, o1 _ H1 p.x p.s fun ρ' H2 hρ g => ?_⟩
      obtain ⟨q, rfl | ⟨rfl, hq⟩⟩ := hρ
      · exact wk_tup (SqT.ext (g.ext (ρ := ρ')) l) (t.ext g.ext)
      · exact wk_tup (SqT.ext (g.ext (ρ := ρ)) l) (t.lend g.ext hq)
    | cell ha =>
      obtain ⟨vs, e2, t, _⟩ := p.s.cell e1 ha
      refine .inl ⟨_, rfl, ⟨vs, SqL.of e2⟩, o1 _ H1 p.x p.s fun ρ' H2 hρ g => ?_⟩
      obtain ⟨q, rfl | ⟨rfl, hq⟩⟩ := hρ
      · exact wk_cell ha
      · exact wk_cell (ρ := ρ.lend q) ha
    | _ => cases e1
/-! ### ranges -/
def rngL (i : Int) (n : Nat) : List D := (List.range n).map fun (k : Nat) => .int (i + k)
theorem wk_rng {G : Gm} {ρ : Ow} {H : Hp} {i : Int} {n : Nat} : Wk G (fun _ => true) (Itr i n) ρ H (rngL i n) where
  go := fun j μ H2 d x s _ hd => by
    unfold rngL at hd
    rw [List.getElem?_map, Option.map_eq_some_iff] at hd
    obtain ⟨k, hk, rfl⟩ := hd
    obtain ⟨hj, hk⟩ := List.getElem?_eq_some_iff.mp hk
    have hj' : j < n := by simpa using hj
    have : k = j := by rw [← hk]; simp
    subst this
    refine ⟨hj', fun y H' h => ?_⟩
    obtain ⟨e, h⟩ := h
    subst e; subst h
    exact ⟨Gr.refl, .int _⟩
  stop := fun j μ H2 x s _ hl => by
    show n ≤ j
    simpa [rngL] using hl
def rng1I (den : Vs → Sto → R (List D)) : Vs → Sto → R Itm := fun env μ => (den env μ).bind fun ds μ' => match ds with
  | [.int j] => if -(2 ^ 62) ≤ j ∧ j < 2 ^ 62 then .ok (rngL 0 j.toNat, fun _ => true) μ' else .no
  | _ => .no
def rng2I (den : Vs → Sto → R (List D)) : Vs → Sto → R Itm := fun env μ => (den env μ).bind fun ds μ' => match ds with
  | [.int i, .int j] => if -(2 ^ 62) ≤ i ∧ i < 2 ^ 62 ∧ -(2 ^ 62) ≤ j ∧ j < 2 ^ 62 then .ok (rngL i (j - i).toNat, fun _ => true) μ' else .no
  | _ => .no
theorem i_rng1 {den : Vs → Sto → R (List D)} {p : Pos} (hg : Gl X "range") (hm : X.mg "range" = none) (ha : PA X [a] (tEs (gm X) W den)) (hs : starEach [a] X.env = [(false, eval a X.env)]) : PI X tg (.Call (.Name "range" p) [a] [] pos) (tI (gm X) W (rng1I den)) := by
  refine PI_weak (pi_range1 hg hm ha hs) fun σ H Q h => ?_
  obtain ⟨ρ, μ, env, s, ev, o⟩ := h
  refine tEs.go s ev (Out.bind o) fun ds μ1 vs H1 o1 x1 s1 r1 => ?_
  split at o1
  · rename_i j
    split at o1
    · rename_i hj
      cases r1 with
      | cons r rr =>
        cases r
        cases rr
        exact ⟨j, rfl, hj.1, hj.2, o1 _ H1 x1 s1 fun _ _ _ _ => wk_rng⟩
    · exact o1.elim
  · exact o1.elim
theorem i_rng2 {den : Vs → Sto → R (List D)} {p : Pos} (hg : Gl X "range") (hm : X.mg "range" = none) (ha : PA X [a, b] (tEs (gm X) W den)) (hs : starEach [a, b] X.env = [(false, eval a X.env), (false, eval b X.env)]) (hs2 : starEach [b] X.env = [(false, eval b X.env)]) : PI X tg (.Call (.Name "range" p) [a, b] [] pos) (tI (gm X) W (rng2I den)) := by
  refine PI_weak (pi_range2 hg hm ha hs hs2) fun σ H Q h => ?_
  obtain ⟨ρ, μ, env, s, ev, o⟩ := h
  refine tEs.go s ev (Out.bind o) fun ds μ1 vs H1 o1 x1 s1 r1 => ?_
  split at o1
  · rename_i i j
    split at o1
    · rename_i hj
      cases r1 with
      | cons r rr =>
        cases r
        cases rr with
        | cons r rr =>
          cases r
          cases rr
          exact ⟨i, j, rfl, hj, o1 _ H1 x1 s1 fun _ _ _ _ => wk_rng⟩
    · exact o1.elim
  · exact o1.elim
/-! ### zip -/
def zipL (as bs : List D) : List D := (as.zip bs).map fun p => .tup [p.1, p.2]
def zipI (den : Vs → Sto → R (List D)) : Vs → Sto → R Itm := fun env μ => (den env μ).bind fun ds μ' => match ds with
  | [x, y] => (match asL μ' x, asL μ' y with
    | some as, some bs => .ok (zipL as bs, fun μ => guardOf x as μ && guardOf y bs μ) μ'
    | _, _ => match x, y with
      | .tup as, .tup bs => .ok (zipL as bs, fun _ => true) μ'
      | _, _ => .no)
  | _ => .no
/-- a list that stands as it is while its guard holds -/
structure Std (G : Gm) (ok : Sto → Bool) (a : Addr) (ρ : Ow) (H0 : Hp) (ds : List D) : Prop where
  at_ : ∀ (μ : Sto) (H : Hp), Ext ρ H0 H → SRel G ρ μ H → ok μ = true → ∃ vs, SqL G.K H a vs ∧ DVs G ρ H ds vs
theorem std_of {G : Gm} {ρ : Ow} {μ : Sto} {H : Hp} {d : D} {v : V} {ds : List D} (s : SRel G ρ μ H) (r : DV G ρ H d v) (e : RS.asL μ d = some ds) :
    ∃ a, v = .ref a ∧ (∃ vs, SqL G.K H a vs) ∧ ∀ ρ' H2, (∃ p, ρ' = ρ ∨ (ρ' = ρ.lend p ∧ H p = none)) → Gr H H2 → Std G (guardOf d ds) a ρ' H2 ds := by
  cases r with
  | lst l t =>
    cases e
    refine ⟨_, rfl, ⟨_, l.sq⟩, fun ρ' H2 hρ g => ⟨fun μ' H3 x s3 _ => ?_⟩⟩
    obtain ⟨q, rfl | ⟨rfl, hq⟩⟩ := hρ
    · exact ⟨_, ((l.ext g.ext).ext x).sq, (t.ext g.ext).ext x⟩
    · exact ⟨_, ((l.lend g.ext hq).ext x).sq, (t.lend g.ext hq).ext x⟩
  | cell ha =>
    rename_i i a
    obtain ⟨vs, e2, t, _⟩ := s.cell e ha
    refine ⟨_, rfl, ⟨_, SqL.of e2⟩, fun ρ' H2 hρ g => ⟨fun μ' H3 x s3 o => ?_⟩⟩
    have ha' : ρ'.c[i]? = some a := by
      obtain ⟨q, rfl | ⟨rfl, hq⟩⟩ := hρ
      · exact ha
      · exact ha
    obtain ⟨us, e3, t3, _⟩ := s3.cell (sameC_eq o) ha'
    exact ⟨us, SqL.of e3, t3⟩
  | _ => cases e
theorem zipL_get {as bs : List D} {i : Nat} {d : D} (h : (zipL as bs)[i]? = some d) : ∃ x y, as[i]? = some x ∧ bs[i]? = some y ∧ d = .tup [x, y] := by
  unfold zipL at h
  rw [List.getElem?_map, Option.map_eq_some_iff] at h
  obtain ⟨⟨x, y⟩, h, rfl⟩ := h
  rw [List.getElem?_zip_eq_some] at h
  exact ⟨x, y, h.1, h.2, rfl⟩
theorem zipL_len (as bs : List D) : (zipL as bs).length = min as.length bs.length := by simp [zipL]
theorem wk_zip {G : Gm} {ρ : Ow} {H : Hp} {a b : Addr} {as bs : List D} {oka okb : Sto → Bool} (ha : Std G oka a ρ H as) (hb : Std G okb b ρ H bs) : Wk G (fun μ => oka μ && okb μ) (Itz G.K a b) ρ H (zipL as bs) where
  go := fun i μ H2 d x s o hd => by
    rw [Bool.and_eq_true] at o
    obtain ⟨vs, h1, t1⟩ := ha.at_ μ H2 x s o.1
    obtain ⟨us, h2, t2⟩ := hb.at_ μ H2 x s o.2
    obtain ⟨dx, dy, e1, e2, rfl⟩ := zipL_get hd
    obtain ⟨v, hv, rv⟩ := t1.get e1
    obtain ⟨u, hu, ru⟩ := t2.get e2
    refine ⟨⟨vs, us, v, u, h1, h2, hv, hu⟩, fun y H' h => ?_⟩
    obtain ⟨T, x', y', rfl, hT, rfl, k1, k2⟩ := h
    have := k1 vs h1
    rw [hv] at this; cases this
    have := k2 us h2
    rw [hu] at this; cases this
    have g : Gr H2 (upd H2 T (.tup [v, u])) := Gr.new hT
    exact ⟨g, .tup (SqT.of upd_same) (.cons (rv.ext g.ext) (.cons (ru.ext g.ext) .nil))⟩
  stop := fun i μ H2 x s o hl => by
    rw [Bool.and_eq_true] at o
    obtain ⟨vs, h1, t1⟩ := ha.at_ μ H2 x s o.1
    obtain ⟨us, h2, t2⟩ := hb.at_ μ H2 x s o.2
    refine ⟨vs, us, h1, h2, ?_⟩
    rw [zipL_len] at hl
    rw [← t1.length, ← t2.length]
    omega
theorem wk_zipT {G : Gm} {ρ : Ow} {H : Hp} {a b : Addr} {as bs : List D} {vs us : List V} (h1 : SqT G.K H a vs) (h2 : SqT G.K H b us) (t1 : DVs G ρ H as vs) (t2 : DVs G ρ H bs us) : Wk G (fun _ => true) (RZ.ItzT G.K a b) ρ H (zipL as bs) where
  go := fun i μ H2 d x s o hd => by
    obtain ⟨dx, dy, e1, e2, rfl⟩ := zipL_get hd
    obtain ⟨v, hv, rv⟩ := t1.get e1
    obtain ⟨u, hu, ru⟩ := t2.get e2
    refine ⟨⟨vs, us, v, u, SqT.ext x h1, SqT.ext x h2, hv, hu⟩, fun y H' h => ?_⟩
    obtain ⟨T, x', y', rfl, hT, rfl, k1, k2⟩ := h
    have := k1 vs (SqT.ext x h1)
    rw [hv] at this; cases this
    have := k2 us (SqT.ext x h2)
    rw [hu] at this; cases this
    have g : Gr H2 (upd H2 T (.tup [v, u])) := Gr.new hT
    exact ⟨g, .tup (SqT.of upd_same) (.cons ((rv.ext x).ext g.ext) (.cons ((ru.ext x).ext g.ext) .nil))⟩
  stop := fun i μ H2 x s o hl => by
    refine ⟨vs, us, SqT.ext x h1, SqT.ext x h2, ?_⟩
    rw [zipL_len] at hl
    rw [← t1.length, ← t2.length]
    omega
theorem i_zip {den : Vs → Sto → R (List D)} {p tpos : Pos} {elts : List Expr} {kk : Nat} (hg : Gl X "zip") (hm : X.mg "zip" = none) (ha : PA X [a, b] (tEs (gm X) W den)) (hs : starEach [a, b] X.env = (false, eval a X.env) :: starEach [b] X.env) (hpl : (backTo pos (starEach [b] X.env)).any (·.1) = false) :
    PI X (.Tuple elts kk tpos) (.Call (.Name "zip" p) [a, b] [] pos) (tI (gm X) W (zipI den)) := by
  refine PI_weak (RZ.pi_zipA hg hm ha hs hpl) fun σ H Q h => ?_
  obtain ⟨ρ, μ, env, s, ev, o⟩ := h
  refine tEs.go s ev (Out.bind o) fun ds μ1 vs H1 o1 x1 s1 r1 => ?_
  split at o1
  · rename_i x y
    cases r1 with
    | cons rx rr =>
      cases rr with
      | cons ry rr =>
        cases rr
        split at o1
        · rename_i as bs e1 e2
          obtain ⟨l1, rfl, ⟨v1, q1⟩, k1⟩ := std_of s1 rx e1
          obtain ⟨l2, rfl, ⟨v2, q2⟩, k2⟩ := std_of s1 ry e2
          exact ⟨l1, l2, v1, v2, rfl, .inl ⟨q1, q2, o1 _ H1 x1 s1 fun ρ' H2 hρ g => wk_zip (k1 ρ' H2 hρ g) (k2 ρ' H2 hρ g)⟩⟩
        · split at o1
          · cases rx with
            | tup h1 t1 =>
              cases ry with
              | tup h2 t2 =>
                refine ⟨_, _, _, _, rfl, .inr ⟨h1, h2, o1 _ H1 x1 s1 fun ρ' H2 hρ g => ?_⟩⟩
                obtain ⟨q, rfl | ⟨rfl, hq⟩⟩ := hρ
                · exact wk_zipT (SqT.ext (g.ext (ρ := ρ')) h1) (SqT.ext (g.ext (ρ := ρ')) h2) (t1.ext g.ext) (t2.ext g.ext)
                · exact wk_zipT (SqT.ext (g.ext (ρ := ρ)) h1) (SqT.ext (g.ext (ρ := ρ)) h2) (t1.lend g.ext hq) (t2.lend g.ext hq)
          · exact o1.elim
  · exact o1.elim
end
end RS

/-! The R road, part g: targets, comprehensions. -/
namespace RS
open PySem PySem.Spec PyProof.Rows L2

/-! ### targets -/
def setAll : Vs → List Nat → List D → Vs
  | env, i :: is, d :: ds => setAll (env.set i (some d)) is ds
  | env, _, _ => env
def bindD (μ : Sto) : Tg → D → Vs → Option Vs
  | .one i, d, env => some (env.set i (some d))
  | .many is, d, env => match asS μ d with
    | some ds => if ds.length = is.length then some (setAll env is ds) else none
    | none => none
def Tg.ix : Tg → List Nat
  | .one i => [i]
  | .many is => is
/-- only these slots are others -/
structure Upd (is : List Nat) (σ σ' : St) : Prop where
  l : σ'.length = σ.length
  k : ∀ j, j ∉ is → σ'[j]? = σ[j]?
theorem Upd.refl {is : List Nat} {σ : St} : Upd is σ σ := ⟨rfl, fun _ _ => rfl⟩
theorem Upd.set {is : List Nat} {σ : St} {i : Nat} {v : Option V} (h : i ∈ is) : Upd is σ (σ.set i v) := ⟨by simp, fun j hj => by
  rw [List.getElem?_set_ne]
  rintro rfl; exact hj h⟩
theorem Upd.trans {is : List Nat} {a b c : St} (x : Upd is a b) (y : Upd is b c) : Upd is a c := ⟨y.l.trans x.l, fun j h => (y.k j h).trans (x.k j h)⟩
theorem Upd.sub {is js : List Nat} {a b : St} (x : Upd is a b) (h : ∀ i ∈ is, i ∈ js) : Upd js a b := ⟨x.l, fun j hj => x.k j fun m => hj (h j m)⟩

def tG (G : Gm) (tg : Tg) : TG := fun v σ H Q => ∃ ρ μ env d, SRel G ρ μ H ∧ EV G ρ H env σ ∧ DV G ρ H d v ∧
  match bindD μ tg d env with
  | some env' => ∀ σ', EV G ρ H env' σ' → Upd tg.ix σ σ' → Q σ' H
  | none => False
theorem PG_weak {X : Cx} {e : Expr} {t t' : TG} (h : PG X e t) (w : ∀ v σ H Q, t' v σ H Q → t v σ H Q) : PG X e t' := ⟨fun pins s σ H v u Q I r q => h.run pins s σ H v u Q I r (w v σ H Q q)⟩
theorem PG_or {X : Cx} {e : Expr} {t t' : TG} (h : PG X e t) (h' : PG X e t') : PG X e (fun v σ H Q => t v σ H Q ∨ t' v σ H Q) := ⟨fun pins s σ H v u Q I r q => q.elim (h.run pins s σ H v u Q I r) (h'.run pins s σ H v u Q I r)⟩
section
variable {X : Cx} {pos : Pos}
theorem g_one {i : Nat} {x : Str} (hN : X.N.Nodup) (hi : X.N[i]? = some x) (hx : Loc X.env.scope x) (hf : X.fn x = true ∨ X.env.scope.names.lookup x = some .local) : PG X (.Name x pos) (tG (gm X) (.one i)) := by
  refine PG_weak (pg_name hN hi hx hf) fun v σ H Q h => ?_
  obtain ⟨ρ, μ, env, d, s, ev, r, h⟩ := h
  exact h _ (ev.set r) (Upd.set (by simp [Tg.ix]))
/-- a target's several names -/
def gNames : List Nat → TGs
  | [] => gNil
  | i :: is => gCons (gName i) (gNames is)
inductive NamesOk (X : Cx) : List Expr → List Nat → Prop
  | nil : NamesOk X [] []
  | cons {x : Str} {p : Pos} {i : Nat} {es : List Expr} {is : List Nat} : X.N[i]? = some x → Loc X.env.scope x → (X.fn x = true ∨ X.env.scope.names.lookup x = some .local) → NamesOk X es is → NamesOk X (.Name x p :: es) (i :: is)
theorem NamesOk.pgs (hN : X.N.Nodup) : ∀ {es : List Expr} {is : List Nat}, NamesOk X es is → PGs X es (gNames is)
  | _, _, .nil => pgs_nil
  | _, _, .cons h1 h2 h3 t => pgs_cons (pg_name hN h1 h2 h3) (t.pgs hN) rfl
theorem NamesOk.len : ∀ {es : List Expr} {is : List Nat}, NamesOk X es is → (assignEach es X.env).length = is.length ∧ (assignEach es X.env).findIdx? (·.1) = none
  | _, _, .nil => ⟨rfl, rfl⟩
  | _, _, .cons (es := es) (is := is) _ _ _ t => by
    obtain ⟨h1, h2⟩ := t.len
    refine ⟨by show (assignEach es X.env).length + 1 = is.length + 1; rw [h1], ?_⟩
    show (List.findIdx? (·.1) ((false, _) :: assignEach es X.env)) = none
    rw [List.findIdx?_cons]
    simp [h2]
theorem gNames_go {G : Gm} {ρ : Ow} {H : Hp} {Q : St → Hp → Prop} : ∀ {is : List Nat} {ds : List D} {vs : List V} {env : Vs} {σ : St} {js : List Nat}, (∀ i ∈ is, i ∈ js) → ds.length = is.length → DVs G ρ H ds vs → EV G ρ H env σ → (∀ σ', EV G ρ H (setAll env is ds) σ' → Upd js σ σ' → Q σ' H) → gNames is vs σ H Q
  | [], ds, vs, env, σ, js, hj, hl, r, ev, h => by
    cases ds with
    | nil => cases r; exact ⟨rfl, h σ ev Upd.refl⟩
    | cons d ds => simp at hl
  | i :: is, ds, vs, env, σ, js, hj, hl, r, ev, h => by
    cases ds with
    | nil => simp at hl
    | cons d ds =>
      cases r with
      | cons rd rr =>
        refine ⟨_, _, rfl, gNames_go (fun k hk => hj k (List.mem_cons_of_mem _ hk)) (by simpa using hl) rr (ev.set rd) fun σ' e' u => ?_⟩
        exact h σ' e' ((Upd.set (hj i List.mem_cons_self)).trans u)
theorem g_many {es : List Expr} {is : List Nat} {k : Nat} (hc : X.calm = true) (hN : X.N.Nodup) (h : NamesOk X es is) : PG X (.Tuple es k pos) (tG (gm X) (.many is)) := by
  obtain ⟨h1, h2⟩ := h.len
  refine PG_weak (PG_or (pg_tup hc (h.pgs hN) h1 h2) (pg_lst hc (h.pgs hN) h1 h2)) fun v σ H Q q => ?_
  obtain ⟨ρ, μ, env, d, s, ev, r, q⟩ := q
  simp only [bindD] at q
  cases e : RS.asS μ d with
  | none => rw [e] at q; exact q.elim
  | some ds =>
    rw [e] at q
    simp only at q
    split at q
    · rename_i env' hb
      split at hb
      · rename_i hl
        cases hb
        obtain ⟨a, vs, rfl, hs, t⟩ := r.asS s e
        have go : gNames is vs σ H Q := gNames_go (fun _ z => z) hl t ev q
        rcases hs with hs | hs
        · exact .inr ⟨a, vs, rfl, hs, by rw [← t.length]; exact hl, go⟩
        · exact .inl ⟨a, vs, rfl, hs, by rw [← t.length]; exact hl, go⟩
      · cases hb
    · exact q.elim
end

/-! ### comprehensions -/
def wipeD (env : Vs) : List Nat → Vs
  | [] => env
  | v :: vs => (wipeD env vs).set v none
theorem wipeD_get (env : Vs) : ∀ (vs : List Nat) (i : Nat), (wipeD env vs)[i]? = if i ∈ vs then (if i < env.length then some none else none) else env[i]?
  | [], i => by simp [wipeD]
  | v :: vs, i => by
    unfold wipeD
    have hl : (wipeD env vs).length = env.length := by
      induction vs with
      | nil => rfl
      | cons w ws ih => unfold wipeD; rw [List.length_set]; exact ih
    by_cases q : v = i
    · subst q
      by_cases hv : v < env.length
      · rw [List.getElem?_set_self (by rw [hl]; exact hv)]; simp [hv]
      · rw [List.getElem?_eq_none (by simp [hl]; omega)]; simp [hv]
    · rw [List.getElem?_set_ne q, wipeD_get env vs i]
      have : (i ∈ v :: vs) = (i ∈ vs) := by simp [Ne.symm q]
      simp only [this]
theorem wipe_get (σ : St) : ∀ (vs : List Nat) (i : Nat), (L2.wipe σ vs)[i]? = if i ∈ vs then (if i < σ.length then some none else none) else σ[i]?
  | [], i => by simp [L2.wipe]
  | v :: vs, i => by
    unfold L2.wipe
    by_cases q : v = i
    · subst q
      by_cases hv : v < σ.length
      · rw [List.getElem?_set_self (by rw [wipe_length]; exact hv)]; simp [hv]
      · rw [List.getElem?_eq_none (by simp [wipe_length]; omega)]; simp [hv]
    · rw [List.getElem?_set_ne q, wipe_get σ vs i]
      have : (i ∈ v :: vs) = (i ∈ vs) := by simp [Ne.symm q]
      simp only [this]
theorem wipeD_length (env : Vs) : ∀ vs : List Nat, (wipeD env vs).length = env.length
  | [] => rfl
  | v :: vs => by unfold wipeD; rw [List.length_set, wipeD_length env vs]
theorem EV.wipe {G : Gm} {ρ : Ow} {H : Hp} {env : Vs} {σ : St} (e : EV G ρ H env σ) (vs : List Nat) : EV G ρ H (wipeD env vs) (L2.wipe σ vs) := by
  refine ⟨by rw [wipeD_length, wipe_length]; exact e.1, fun i d h => ?_⟩
  rw [wipeD_get] at h
  split at h
  · split at h <;> cases h
  · rename_i hn
    obtain ⟨v, a, b⟩ := e.2 i d h
    exact ⟨v, by rw [wipe_get, if_neg hn]; exact a, b⟩
theorem wipe_upd {σ σ2 : St} {is vs : List Nat} (u : Upd is (L2.wipe σ vs) σ2) (h : ∀ i ∈ is, i ∈ vs) : L2.wipe σ2 vs = L2.wipe σ vs := by
  apply List.ext_getElem?
  intro i
  rw [wipe_get, wipe_get]
  have hl := u.l
  rw [wipe_length] at hl
  split
  · rw [hl]
  · rename_i hn
    rw [u.k i (fun m => hn (h i m)), wipe_get, if_neg hn]

def noEr {α : Type} (r : R α) : R α := match r with
  | .ok a μ => .ok a μ
  | _ => .no
def lcL (ok : Sto → Bool) (step : D → Sto → R (Option D)) : List D → List D → Sto → R D
  | [], acc, μ => .ok (.lst acc) μ
  | x :: xs, acc, μ => (step x μ).bind fun o μ' => if ok μ' then (match o with
    | none => lcL ok step xs acc μ'
    | some y => if acc.length < sizeLine then lcL ok step xs (acc ++ [y]) μ' else .no) else .no
def stepD (tg : Tg) (tst : Vs → Sto → R Bool) (elt : Vs → Sto → R D) (env : Vs) : D → Sto → R (Option D) := fun x μ => match bindD μ tg x env with
  | none => .no
  | some e1 => noEr ((tst e1 μ).bind fun b μ1 => if b then (elt e1 μ1).bind fun y μ2 => .ok (some y) μ2 else .ok none μ1)
def compD (it : Vs → Sto → R Itm) (tg : Tg) (tst : Vs → Sto → R Bool) (elt : Vs → Sto → R D) (own : List Nat) : Vs → Sto → R D := fun env μ => (it env μ).bind fun its μ1 => if its.2 μ1 then lcL its.2 (stepD tg tst elt (wipeD env own)) its.1 [] μ1 else .no
def yesD : Vs → Sto → R Bool := fun _ μ => .ok true μ

/-- the list on the side is lengthened: all that is told of the rest stands -/
theorem DV.aside {G : Gm} {ρ : Ow} {H H' : Hp} {p : Addr} {xs : List V} (hp : H p = some (.lst xs)) (k : ∀ a, a ≠ p → H' a = H a) :
    (∀ d v, DV G (ρ.lend p) H d v → DV G (ρ.lend p) H' d v) ∧ (∀ ds vs, DVs G (ρ.lend p) H ds vs → DVs G (ρ.lend p) H' ds vs) := by
  have ne : ∀ {a : Addr} {o : HO}, H a = some o → (∀ zs, o ≠ .lst zs) → H' a = some o := fun {a o} h n => by
    rw [k a (fun z => by subst z; rw [hp] at h; cases h; exact n _ rfl)]; exact h
  have tp : ∀ {a : Addr} {vs : List V}, SqT G.K H a vs → SqT G.K H' a vs := fun {a vs} h => by
    rcases h with (h | ⟨o, h⟩) | h
    · exact .inl (.inl (ne h fun _ z => by cases z))
    · exact .inl (.inr ⟨o, ne h fun _ z => by cases z⟩)
    · exact .inr h
  have l : ∀ {a : Addr} {vs : List V}, LAt G.K (ρ.lend p) H a vs → LAt G.K (ρ.lend p) H' a vs := fun {a vs} h => by
    rcases h with ⟨h, n⟩ | h
    · have np : a ≠ p := fun z => n (by subst z; exact List.mem_cons_self)
      refine .inl ⟨?_, n⟩
      rcases h with h | ⟨o, h⟩
      · exact .inl (by rw [k a np]; exact h)
      · exact .inr ⟨o, by rw [k a np]; exact h⟩
    · exact .inr h
  refine ⟨fun d v h => ?_, fun ds vs h => ?_⟩
  · exact DV.rec (motive_1 := fun d v _ => DV G (ρ.lend p) H' d v) (motive_2 := fun ds vs _ => DVs G (ρ.lend p) H' ds vs) .non .bl .int .str (fun h _ t => .tup (tp h) t) (fun h _ t => .lst (l h) t) (fun h => .cell h) (fun h => .fn h) (fun h c => .exc (ne h fun _ z => by cases z) c) .nil (fun _ _ a b => .cons a b) h
  · exact DVs.rec (motive_1 := fun d v _ => DV G (ρ.lend p) H' d v) (motive_2 := fun ds vs _ => DVs G (ρ.lend p) H' ds vs) .non .bl .int .str (fun h _ t => .tup (tp h) t) (fun h _ t => .lst (l h) t) (fun h => .cell h) (fun h => .fn h) (fun h c => .exc (ne h fun _ z => by cases z) c) .nil (fun _ _ a b => .cons a b) h
theorem SRel.aside {G : Gm} {ρ : Ow} {μ : Sto} {H : Hp} {p : Addr} {xs ys : List V} (np : p ∉ ρ.c) (hp : H p = some (.lst xs)) (s : SRel G (ρ.lend p) μ H) : SRel G (ρ.lend p) μ (upd H p (.lst ys)) := by
  have k : ∀ a, a ≠ p → (upd H p (.lst ys)) a = H a := fun a h => upd_ne h
  obtain ⟨k1, k2⟩ := DV.aside (G := G) (ρ := ρ) hp k
  refine ⟨s.len, s.nd, fun i c h => ?_, fun a m z => ?_⟩
  · obtain ⟨a, e, q⟩ := s.at_ i c h
    have e' : ρ.c[i]? = some a := e
    have ne : a ≠ p := fun z => np (z ▸ List.mem_of_getElem? e')
    exact ⟨a, e, q.map k1 k2 fun o h => by rw [upd_ne ne]; exact h⟩
  · by_cases q : a = p
    · subst q; rw [upd_same] at z; cases z
    · rw [upd_ne q] at z; exact s.all a m z
section
variable {X : Cx} {W : WX} {elt tg iter : Expr} {ifs : List Expr} {scope : Scope} {pos : Pos}
abbrev W0 : WX := fun _ _ _ _ => False
theorem s_comp {own : List (Str × Nat)} {it : Vs → Sto → R Itm} {t : Tg} {tst : Vs → Sto → R Bool} {de : Vs → Sto → R D} {fr : Bool} (hc : X.calm = true) (hN : X.N.Nodup) (hi : PI X tg iter (tI (gm X) W it)) (ok : BlkOk X.N X.env.scope scope own)
    (ho : ∀ i ∈ t.ix, i ∈ own.map (·.2))
    (hg : ∀ (s : Shared) (H : Hp) (C : Addr) (cl : List (Str × Addr)) (fp : List Addr), PG (X.blk s H scope (compEnvC scope cl C X.env) fp) tg (tG (gm X) t)) (ht : ∀ (s : Shared) (H : Hp) (C : Addr) (cl : List (Str × Addr)) (fp : List Addr), PTs (X.blk s H scope (compEnvC scope cl C X.env) fp) ifs (tT (gm X) W0 tst))
    (he : ∀ (s : Shared) (H : Hp) (C : Addr) (cl : List (Str × Addr)) (fp : List Addr), PE (X.blk s H scope (compEnvC scope cl C X.env) fp) elt (tE (gm X) W0 fr de)) (hs : ∀ x, foldedSetIterable iter X.env x = pure x) :
    PE X (.ListComp elt [⟨tg, iter, ifs, 0⟩] scope pos) (tE (gm X) W true (compD it t tst de (own.map (·.2)))) := by
  refine PE_weak (pe_lc hc hN hi ok hg ht he hs) fun σ H Q h => ?_
  obtain ⟨ρ, μ, env, s, ev, o⟩ := h
  refine ⟨ρ, μ, env, s, ev, (Out.bind o).imp (fun its μ1 o1 J H1 x1 s1 wk D hD => ?_) fun _ _ q => q⟩
  obtain ⟨items, okf⟩ := its
  simp only at o1 wk
  split at o1
  · rename_i hok
    have wk := wk (ρ.lend D) H1 ⟨D, .inr ⟨rfl, hD⟩⟩ Gr.refl
    have nD : D ∉ ρ.c := fun m => s1.notin hD (ρ.sub _ m)
    refine ⟨fun i m H2 => m = items.length - i ∧ i ≤ items.length ∧ ∃ μ2 acc avs, Ext ρ H1 H2 ∧ SRel (gm X) (ρ.lend D) μ2 H2 ∧ H2 D = some (.lst avs) ∧ DVs (gm X) (ρ.lend D) H2 acc avs ∧ okf μ2 = true ∧
      Out (lcL okf (stepD t tst de (wipeD env (own.map (·.2)))) (items.drop i) acc μ2) (fun d μ' => ∀ v H', Post (gm X) true ρ H μ' d v H' → Q v H') (Er (gm X) W σ ρ H), ⟨items.length, by simp, Nat.zero_le _, μ1, [], [], (Gr.new hD).ext, s1.lend hD, upd_same, .nil, hok, o1⟩, ?_⟩
    rintro i m H2 ⟨rfl, hi, μ2, acc, avs, x2, s2, hD2, r2, ok2, o2⟩
    by_cases hlt : i < items.length
    · refine .inr ?_
      have hd : items[i]? = some items[i] := by simp [hlt]
      rw [List.drop_eq_getElem_cons hlt] at o2
      obtain ⟨go, yld⟩ := wk.go i μ2 H2 items[i] x2.tolend s2 ok2 hd
      refine ⟨go, fun H3 => items.length - (i + 1) = items.length - (i + 1) ∧ i + 1 ≤ items.length ∧ ∃ μ2 acc avs, Ext ρ H1 H3 ∧ SRel (gm X) (ρ.lend D) μ2 H3 ∧ H3 D = some (.lst avs) ∧ DVs (gm X) (ρ.lend D) H3 acc avs ∧ okf μ2 = true ∧
        Out (lcL okf (stepD t tst de (wipeD env (own.map (·.2)))) (items.drop (i + 1)) acc μ2) (fun d μ' => ∀ v H', Post (gm X) true ρ H μ' d v H' → Q v H') (Er (gm X) W σ ρ H), fun H' nx => ⟨_, by omega, nx⟩, fun x H3 hy => ?_⟩
      obtain ⟨g3, rx⟩ := yld x H3 hy
      have s3 := s2.gr g3
      have x3 : Ext ρ H1 H3 := x2.trans g3.ext
      have hD3 := g3 _ _ hD2
      have ev3 : EV (gm X) (ρ.lend D) H3 (wipeD env (own.map (·.2))) (L2.wipe σ (own.map (·.2))) := ((ev.ext x1).lend x3 hD).wipe _
      have no : stepD t tst de (wipeD env (own.map (·.2))) items[i] μ2 = .no → False := fun e => by
        have e' : lcL okf (stepD t tst de (wipeD env (own.map (·.2)))) (items[i] :: items.drop (i + 1)) acc μ2 = .no := by simp only [lcL, e, R.bind]
        rw [e'] at o2; exact o2
      refine ⟨ρ.lend D, μ2, wipeD env (own.map (·.2)), items[i], s3, ev3, rx, ?_⟩
      cases eb : bindD μ2 t items[i] (wipeD env (own.map (·.2))) with
      | none => exact no (by simp only [stepD, eb])
      | some e1 =>
        simp only
        intro σ2 ev4 u4
        refine ⟨wipe_upd u4 ho, ?_⟩
        refine ⟨ρ.lend D, μ2, e1, s3, ev4, ?_⟩
        cases et : tst e1 μ2 with
        | no => exact no (by simp only [stepD, eb, et, R.bind, noEr])
        | er c μ' => exact (no (by simp only [stepD, eb, et, R.bind, noEr])).elim
        | ok b μ3 =>
          intro H4 x4 s4
          have hD4 : H4 D = some (.lst avs) := x4.k _ _ hD3 (.inl nD)
          have x14 : Ext ρ H1 H4 := x3.trans x4.unlend
          cases b with
          | false =>
            rw [if_neg Bool.false_ne_true]
            have e' : lcL okf (stepD t tst de (wipeD env (own.map (·.2)))) (items[i] :: items.drop (i + 1)) acc μ2 = if okf μ3 then lcL okf (stepD t tst de (wipeD env (own.map (·.2)))) (items.drop (i + 1)) acc μ3 else .no := by
              rw [lcL]
              have : stepD t tst de (wipeD env (own.map (·.2))) items[i] μ2 = .ok none μ3 := by simp only [stepD, eb, et, R.bind, noEr, Bool.false_eq_true, if_false]
              rw [this]; rfl
            rw [e'] at o2
            split at o2
            · rename_i hk
              exact ⟨(by first | exact True.intro | rfl), hlt, μ3, acc, avs, x14, s4, hD4, (r2.ext g3.ext).ext x4, hk, o2⟩
            · exact o2.elim
          | true =>
            rw [if_pos rfl]
            refine ⟨ρ.lend D, μ3, e1, s4, ev4.ext x4, ?_⟩
            cases ee : de e1 μ3 with
            | no => exact no (by simp only [stepD, eb, et, ee, R.bind, noEr, if_true])
            | er c μ' => exact (no (by simp only [stepD, eb, et, ee, R.bind, noEr, if_true])).elim
            | ok y μ4 =>
              intro v H5 p5
              have hD5 : H5 D = some (.lst avs) := p5.x.k _ _ hD4 (.inl nD)
              have r5 : DVs (gm X) (ρ.lend D) H5 acc avs := ((r2.ext g3.ext).ext x4).ext p5.x
              have e' : lcL okf (stepD t tst de (wipeD env (own.map (·.2)))) (items[i] :: items.drop (i + 1)) acc μ2 = if okf μ4 then (if acc.length < sizeLine then lcL okf (stepD t tst de (wipeD env (own.map (·.2)))) (items.drop (i + 1)) (acc ++ [y]) μ4 else .no) else .no := by
                rw [lcL]
                have : stepD t tst de (wipeD env (own.map (·.2))) items[i] μ2 = .ok (some y) μ4 := by simp only [stepD, eb, et, ee, R.bind, noEr, if_true]
                rw [this]; rfl
              rw [e'] at o2
              split at o2
              · rename_i hk
                split at o2
                · rename_i hz
                  have k : ∀ a, a ≠ D → (upd H5 D (.lst (avs ++ [v]))) a = H5 a := fun a h => upd_ne h
                  obtain ⟨k1, k2⟩ := DV.aside (G := gm X) (ρ := ρ) hD5 k
                  have x15 : Ext ρ H1 H5 := x14.trans p5.x.unlend
                  refine ⟨avs, hD5, by rw [← r5.length]; exact hz, (by first | exact True.intro | rfl), hlt, μ4, acc ++ [y], avs ++ [v], ⟨fun a oo ha hm => ?_, fun a ha => ?_⟩, p5.s.aside nD hD5, upd_same, k2 _ _ (r5.append (.cons p5.r .nil)), hk, o2⟩
                  · have ne : a ≠ D := fun z => by subst z; rw [hD] at ha; cases ha
                    rw [upd_ne ne]; exact x15.k a oo ha hm
                  · by_cases q : a = D
                    · subst q; exact hD
                    · rw [upd_ne q] at ha; exact x15.d a ha
                · exact o2.elim
              · exact o2.elim
    · have e : i = items.length := by omega
      subst e
      refine .inl ⟨wk.stop _ μ2 H2 x2.tolend s2 ok2 (Nat.le_refl _), ?_⟩
      rw [List.drop_length] at o2
      exact o2 _ _ (Post.back x1 (Post.filled s1 hD x2 s2 hD2 r2))
  · exact o1.elim
end
end RS

/-! The R road, part h: statements. -/
namespace RS
open PySem PySem.Spec PyProof.Rows L2

inductive SR where
  | nx (env : Vs) (μ : Sto)
  | rt (d : D) (fr : Bool) (μ : Sto)
  | er (c : Str) (env : Vs) (μ : Sto)
  | no
/-- from a state on: ours may have grown -/
structure Go (ρ : Ow) (H : Hp) (ρ' : Ow) (H' : Hp) : Prop where
  le : ρ.Le ρ'
  o : ∀ a ∈ ρ'.o, a ∈ ρ.o ∨ H a = none
  c : ∀ a ∈ ρ'.c, a ∈ ρ.c ∨ H a = none
  x : Ext ρ H H'
theorem Go.refl {ρ : Ow} {H : Hp} : Go ρ H ρ H := ⟨.refl, fun _ h => .inl h, fun _ h => .inl h, .refl⟩
theorem Go.of {ρ : Ow} {H H' : Hp} (x : Ext ρ H H') : Go ρ H ρ H' := ⟨.refl, fun _ h => .inl h, fun _ h => .inl h, x⟩
theorem Go.trans {ρ ρ1 ρ2 : Ow} {H H1 H2 : Hp} (a : Go ρ H ρ1 H1) (b : Go ρ1 H1 ρ2 H2) : Go ρ H ρ2 H2 := by
  refine ⟨a.le.trans b.le, fun x h => ?_, fun x h => ?_, ⟨fun x u hx hm => ?_, fun x h => a.x.d x (b.x.d x h)⟩⟩
  · rcases b.o x h with h | h
    · exact a.o x h
    · exact .inr (a.x.d x h)
  · rcases b.c x h with h | h
    · exact a.c x h
    · exact .inr (a.x.d x h)
  · refine b.x.k x u (a.x.k x u hx hm) ?_
    rcases hm with hm | hm
    · refine .inl fun m => ?_
      rcases a.c x m with q | q
      · exact hm q
      · rw [hx] at q; cases q
    · exact .inr hm
/-- what a return leaves -/
structure PostR (G : Gm) (fr : Bool) (ρ : Ow) (H : Hp) (μ' : Sto) (d : D) (v : V) (H' : Hp) : Prop where
  s : SRel G ρ μ' H'
  r : DV G ρ H' d v
  f : fr = true → ∀ ds, d = .lst ds → ∃ a, v = .ref a ∧ H a = none ∧ (ncs ds = true → SRel G (ρ.add a) (μ' ++ [.lst ds]) H')
def OutS (r : SR) (nx : Vs → Sto → Prop) (rt : D → Bool → Sto → Prop) (er : Str → Vs → Sto → Prop) : Prop := match r with
  | .nx e μ => nx e μ
  | .rt d f μ => rt d f μ
  | .er c e μ => er c e μ
  | .no => False
theorem OutS.imp {r : SR} {nx nx' : Vs → Sto → Prop} {rt rt' : D → Bool → Sto → Prop} {er er' : Str → Vs → Sto → Prop} (h : OutS r nx rt er) (h1 : ∀ e μ, nx e μ → nx' e μ) (h2 : ∀ d f μ, rt d f μ → rt' d f μ) (h3 : ∀ c e μ, er c e μ → er' c e μ) : OutS r nx' rt' er' := by
  cases r with
  | nx e μ => exact h1 _ _ h
  | rt d f μ => exact h2 _ _ _ h
  | er c e μ => exact h3 _ _ _ h
  | no => exact h
def SN (G : Gm) (nx : St → Hp → Prop) (ρ : Ow) (H : Hp) : Vs → Sto → Prop := fun env' μ' => ∀ ρ' σ' H', Go ρ H ρ' H' → SRel G ρ' μ' H' → EV G ρ' H' env' σ' → nx σ' H'
def SRt (G : Gm) (rt : VK) (ρ : Ow) (H : Hp) : D → Bool → Sto → Prop := fun d fr μ' => ∀ ρ' v H', Go ρ H ρ' H' → PostR G fr ρ' H μ' d v H' → rt v H'
def SE (G : Gm) (W : WX) (ρ : Ow) (H : Hp) : Str → Vs → Sto → Prop := fun c env' μ' => ∀ ca ρ' σ' H', G.mg c = some (.ref ca) → Go ρ H ρ' H' → SRel G ρ' μ' H' → EV G ρ' H' env' σ' → W (.ref ca) none σ' H'
theorem SN.on {G : Gm} {nx : St → Hp → Prop} {ρ ρ1 : Ow} {H H1 : Hp} {e : Vs} {μ : Sto} (h : SN G nx ρ H e μ) (g : Go ρ H ρ1 H1) : SN G nx ρ1 H1 e μ := fun ρ' σ' H' g' => h ρ' σ' H' (g.trans g')
theorem SRt.on {G : Gm} {rt : VK} {ρ ρ1 : Ow} {H H1 : Hp} {d : D} {f : Bool} {μ : Sto} (h : SRt G rt ρ H d f μ) (g : Go ρ H ρ1 H1) : SRt G rt ρ1 H1 d f μ := fun ρ' v H' g' p => h ρ' v H' (g.trans g') ⟨p.s, p.r, fun z ds e => let ⟨a, h1, h2, h3⟩ := p.f z ds e; ⟨a, h1, g.x.d a h2, h3⟩⟩
theorem SE.on {G : Gm} {W : WX} {ρ ρ1 : Ow} {H H1 : Hp} {c : Str} {e : Vs} {μ : Sto} (h : SE G W ρ H c e μ) (g : Go ρ H ρ1 H1) : SE G W ρ1 H1 c e μ := fun ca ρ' σ' H' m g' => h ca ρ' σ' H' m (g.trans g')
/-- the state at a statement's start -/
abbrev Rd3 (G : Gm) (ρ : Ow) (μ : Sto) (H : Hp) (env : Vs) (σ : St) : Prop := SRel G ρ μ H ∧ EV G ρ H env σ
def tS (G : Gm) (W : WX) (den : Vs → Sto → SR) : TS := fun D σ H => ∃ ρ μ env, SRel G ρ μ H ∧ EV G ρ H env σ ∧ OutS (den env μ) (SN G D.nx ρ H) (SRt G D.rt ρ H) (SE G W ρ H)

/-! ### the outcomes -/
def nxS : Vs → Sto → SR := fun env μ => .nx env μ
def seqS (a b : Vs → Sto → SR) : Vs → Sto → SR := fun env μ => match a env μ with
  | .nx e μ' => b e μ'
  | r => r
def eS {α : Type} (r : R α) (env : Vs) (k : α → Sto → SR) : SR := match r with
  | .ok a μ => k a μ
  | .er c μ => .er c env μ
  | .no => .no
def asgS (tg : Tg) (de : Vs → Sto → R D) : Vs → Sto → SR := fun env μ => eS (de env μ) env fun d μ' => match bindD μ' tg d env with
  | some env' => .nx env' μ'
  | none => .no
/-- a new list becomes a cell -/
def thawK (i : Nat) (env : Vs) (d : D) (μ' : Sto) : SR := match d with
  | .lst ds => if ncs ds then .nx (env.set i (some (.cell μ'.length))) (μ' ++ [.lst ds]) else .no
  | d => .nx (env.set i (some d)) μ'
def thawS (i : Nat) (de : Vs → Sto → R D) : Vs → Sto → SR := fun env μ => eS (de env μ) env (thawK i env)
def dropS (de : Vs → Sto → R D) : Vs → Sto → SR := fun env μ => eS (de env μ) env fun _ μ' => .nx env μ'
def retS (fr : Bool) (de : Vs → Sto → R D) : Vs → Sto → SR := fun env μ => eS (de env μ) env fun d μ' => .rt d fr μ'
def retN : Vs → Sto → SR := fun _ μ => .rt .non false μ
def ifS (t : Vs → Sto → R Bool) (a b : Vs → Sto → SR) : Vs → Sto → SR := fun env μ => eS (t env μ) env fun k μ' => if k then a env μ' else b env μ'
def raiseS (c : Str) : Vs → Sto → SR := fun env μ => .er c env μ
def par2S (i j : Nat) (da : Vs → Sto → R (List D)) : Vs → Sto → SR := fun env μ => eS (da env μ) env fun ds μ' => match ds with
  | [x, y] => .nx ((env.set i (some x)).set j (some y)) μ'
  | _ => .no

theorem Er.toSE {G : Gm} {W : WX} {σ : St} {ρ : Ow} {H : Hp} {env : Vs} {r : R D} {c : Str} {μ' : Sto} (ev : EV G ρ H env σ) (h : SE G W ρ H c env μ') : Er G W σ ρ H c μ' := fun ca H' m x s => h ca ρ σ H' m (.of x) s (ev.ext x)
theorem eS.out {α : Type} {G : Gm} {W : WX} {σ : St} {ρ : Ow} {H : Hp} {env : Vs} {r : R α} {k : α → Sto → SR} {nx : Vs → Sto → Prop} {rt : D → Bool → Sto → Prop} (ev : EV G ρ H env σ) (h : OutS (eS r env k) nx rt (SE G W ρ H)) :
    Out r (fun a μ' => OutS (k a μ') nx rt (SE G W ρ H)) (Er G W σ ρ H) := by
  cases r with
  | ok a μ => exact h
  | er c μ => exact fun ca H' m x s => h ca ρ σ H' m (.of x) s (ev.ext x)
  | no => exact h

section
variable {X : Cx} {W : WX} {e a b : Expr} {es : List Expr} {pos : Pos} {st : Stmt} {sts : List Stmt}
theorem s_done : PSs X [] (tS (gm X) W nxS) := by
  refine PSs_weak pss_nil fun D σ H h => ?_
  obtain ⟨ρ, μ, env, s, ev, o⟩ := h
  exact o ρ σ H .refl s ev
theorem s_seq {da db : Vs → Sto → SR} (h1 : PS X st (tS (gm X) W da)) (h2 : PSs X sts (tS (gm X) W db)) : PSs X (st :: sts) (tS (gm X) W (seqS da db)) := by
  refine PSs_weak (pss_cons h1 h2) fun D σ H h => ?_
  obtain ⟨ρ, μ, env, s, ev, o⟩ := h
  refine ⟨ρ, μ, env, s, ev, ?_⟩
  unfold seqS at o
  cases e : da env μ with
  | nx e1 μ1 =>
    rw [e] at o
    intro ρ' σ' H' g s' ev'
    exact ⟨ρ', μ1, e1, s', ev', OutS.imp o (fun _ _ q => q.on g) (fun _ _ _ q => q.on g) fun _ _ _ q => q.on g⟩
  | rt d f μ1 => rw [e] at o; exact o
  | er c e1 μ1 => rw [e] at o; exact o
  | no => rw [e] at o; exact o
theorem s_pass : PS X (.Pass pos) (tS (gm X) W nxS) := by
  refine PS_weak ps_pass fun D σ H h => ?_
  obtain ⟨ρ, μ, env, s, ev, o⟩ := h
  exact o ρ σ H .refl s ev
theorem s_drop {fr : Bool} {de : Vs → Sto → R D} (h : PE X e (tE (gm X) W fr de)) (hs : swapsWith e none pos.line X.env = pure false) : PS X (.Expr e pos) (tS (gm X) W (dropS de)) := by
  refine PS_weak (ps_expr h hs) fun D σ H h => ?_
  obtain ⟨ρ, μ, env, s, ev, o⟩ := h
  refine tE.go s ev (eS.out ev o) fun d μ' v H' q p => ?_
  exact q ρ σ H' (.of p.x) p.s (ev.ext p.x)
theorem s_ret {fr : Bool} {de : Vs → Sto → R D} (h : PE X e (tE (gm X) W fr de)) : PS X (.Return (some e) pos) (tS (gm X) W (retS fr de)) := by
  refine PS_weak (ps_ret h) fun D σ H h => ?_
  obtain ⟨ρ, μ, env, s, ev, o⟩ := h
  refine tE.go s ev (eS.out ev o) fun d μ' v H' q p => ?_
  exact q ρ v H' (.of p.x) ⟨p.s, p.r, p.f⟩
theorem s_retN : PS X (.Return none pos) (tS (gm X) W retN) := by
  refine PS_weak ps_retN fun D σ H h => ?_
  obtain ⟨ρ, μ, env, s, ev, o⟩ := h
  exact o ρ .non H .refl ⟨s, .non, fun z => by cases z⟩
theorem s_if {c : Expr} {A B : List Stmt} {dt : Vs → Sto → R Bool} {da db : Vs → Sto → SR} (hc : PT X c (tT (gm X) W dt)) (ha : PSs X A (tS (gm X) W da)) (hb : PSs X B (tS (gm X) W db)) : PS X (.If c A B pos) (tS (gm X) W (ifS dt da db)) := by
  refine PS_weak (ps_if hc ha hb) fun D σ H h => ?_
  obtain ⟨ρ, μ, env, s, ev, o⟩ := h
  refine tT.go s ev (eS.out ev o) fun k μ' H' q x s' => ?_
  have g : Go ρ H ρ H' := .of x
  cases k with
  | true => exact ⟨ρ, μ', env, s', ev.ext x, OutS.imp q (fun _ _ q => q.on g) (fun _ _ _ q => q.on g) fun _ _ _ q => q.on g⟩
  | false => exact ⟨ρ, μ', env, s', ev.ext x, OutS.imp q (fun _ _ q => q.on g) (fun _ _ _ q => q.on g) fun _ _ _ q => q.on g⟩
theorem s_asg {tg : Expr} {t : Tg} {fr : Bool} {de : Vs → Sto → R D} (he : PE X e (tE (gm X) W fr de)) (hg : PG X tg (tG (gm X) t)) (hs : swapsWithSole [tg] e pos.line X.env = pure false) (hw : swappedStores [tg] e X.env = pure none)
    (h1 : (assignEach [tg] X.env).map (·.2) = [assign tg X.env]) : PS X (.Assign [tg] e pos) (tS (gm X) W (asgS t de)) := by
  refine PS_weak (ps_asg he hg hs hw h1) fun D σ H h => ?_
  obtain ⟨ρ, μ, env, s, ev, o⟩ := h
  refine tE.go s ev (eS.out ev o) fun d μ' v H' q p => ?_
  refine ⟨ρ, μ', env, d, p.s, ev.ext p.x, p.r, ?_⟩
  cases e1 : bindD μ' t d env with
  | none => rw [e1] at q; exact q.elim
  | some env' =>
    rw [e1] at q
    intro σ' ev' _
    exact q ρ σ' H' (.of p.x) p.s ev'
/-- name = value -/
theorem s_set {i : Nat} {x : Str} {pos' : Pos} {fr : Bool} {de : Vs → Sto → R D} (hN : X.N.Nodup) (hi : X.N[i]? = some x) (hx : Loc X.env.scope x) (he : PE X e (tE (gm X) W fr de)) (hs : swapsWith e (some (.Name x pos')) pos.line X.env = pure false) (hf : X.fn x = true ∨ X.env.scope.names.lookup x = some .local) :
    PS X (.Assign [.Name x pos'] e pos) (tS (gm X) W (asgS (.one i) de)) := by
  refine PS_weak (ps_set hN hi hx he hs hf) fun D σ H h => ?_
  obtain ⟨ρ, μ, env, s, ev, o⟩ := h
  refine tE.go s ev (eS.out ev o) fun d μ' v H' q p => ?_
  exact q ρ _ H' (.of p.x) p.s ((ev.ext p.x).set p.r)
theorem Go.thaw {ρ : Ow} {H H' : Hp} {p : Addr} (x : Ext ρ H H') (hp : H p = none) : Go ρ H (ρ.add p) H' := by
  refine ⟨Ow.le_add, fun a m => ?_, fun a m => ?_, x⟩
  · rcases List.mem_append.mp m with m | m
    · exact .inl m
    · have e : a = p := by simpa using m
      subst e; exact .inr hp
  · rcases List.mem_append.mp m with m | m
    · exact .inl m
    · have e : a = p := by simpa using m
      subst e; exact .inr hp
theorem thaw_go {G : Gm} {ρ : Ow} {H H' : Hp} {μ' : Sto} {env : Vs} {σ : St} {d : D} {v : V} {i : Nat} {nx : St → Hp → Prop} {rt : D → Bool → Sto → Prop} {er : Str → Vs → Sto → Prop} (ev : EV G ρ H env σ) (p : Post G true ρ H μ' d v H')
    (q : OutS (thawK i env d μ') (SN G nx ρ H) rt er) : nx (σ.set i (some v)) H' := by
  have plain : ∀ d', DV G ρ H' d' v → SN G nx ρ H (env.set i (some d')) μ' → nx (σ.set i (some v)) H' := fun d' r q => q ρ _ H' (.of p.x) p.s ((ev.ext p.x).set r)
  unfold thawK at q
  cases d with
  | lst ds =>
    simp only at q
    split at q
    · rename_i hn
      obtain ⟨a, rfl, ha, hs⟩ := p.f rfl ds rfl
      have s' := hs hn
      refine q (ρ.add a) _ H' (.thaw p.x ha) s' ((ev.ours p.x ha).set (.cell ?_))
      show (ρ.c ++ [a])[μ'.length]? = some a
      rw [← p.s.len]
      simp
    · exact q.elim
  | non => exact plain _ p.r q
  | bl _ => exact plain _ p.r q
  | int _ => exact plain _ p.r q
  | str _ => exact plain _ p.r q
  | tup _ => exact plain _ p.r q
  | cell _ => exact plain _ p.r q
  | fn _ => exact plain _ p.r q
  | exc _ => exact plain _ p.r q
theorem s_thaw {i : Nat} {x : Str} {pos' : Pos} {de : Vs → Sto → R D} (hN : X.N.Nodup) (hi : X.N[i]? = some x) (hx : Loc X.env.scope x) (he : PE X e (tE (gm X) W true de)) (hs : swapsWith e (some (.Name x pos')) pos.line X.env = pure false) (hf : X.fn x = true ∨ X.env.scope.names.lookup x = some .local) :
    PS X (.Assign [.Name x pos'] e pos) (tS (gm X) W (thawS i de)) := by
  refine PS_weak (ps_set hN hi hx he hs hf) fun D σ H h => ?_
  obtain ⟨ρ, μ, env, s, ev, o⟩ := h
  refine tE.go s ev (eS.out ev o) fun d μ' v H' q p => ?_
  exact thaw_go ev p q
/-- a, b = x, y -/
theorem s_par {i j : Nat} {x y : Str} {px py pt : Pos} {kt k2 pt2} {da : Vs → Sto → R (List D)} (hc : X.calm = true) (hN : X.N.Nodup) (hi : X.N[i]? = some x) (hj : X.N[j]? = some y) (hij : i ≠ j)
    (hx : X.env.scope.names.lookup x = some .local) (hy : X.env.scope.names.lookup y = some .local) (ha : PA X [a, b] (tEs (gm X) W da))
    (hw : swappedStores [.Tuple [.Name x px, .Name y py] kt pt] (.Tuple [a, b] k2 pt2) X.env = pure (some [x, y])) (hs : swapsWithSole [.Tuple [.Name x px, .Name y py] kt pt] (.Tuple [a, b] k2 pt2) pos.line X.env = pure false) :
    PS X (.Assign [.Tuple [.Name x px, .Name y py] kt pt] (.Tuple [a, b] k2 pt2) pos) (tS (gm X) W (par2S i j da)) := by
  refine PS_weak (ps_par hc hN hi hj hij hx hy ha hw hs) fun D σ H h => ?_
  obtain ⟨ρ, μ, env, s, ev, o⟩ := h
  refine tEs.go s ev (eS.out ev o) fun ds μ' vs H' q x1 s1 r1 => ?_
  split at q
  · rename_i d1 d2
    cases r1 with
    | cons r r2 =>
      cases r2 with
      | cons r2 r3 =>
        cases r3
        exact ⟨_, _, rfl, q ρ _ H' (.of x1) s1 (((ev.ext x1).set r).set r2)⟩
  · exact q.elim
theorem s_raise {c m : Str} {C : Addr} {k : Nat} {p p2 pos2 : Pos} {bmB : List Value} {Bn newId initId : String} (hc : X.calm = true) (tk : Takes X W) (F : ExcBaseFacts Bn newId initId bmB) (q : PySem.W.excIn X.K C bmB newId = true) (gC : X.mg c = some (.ref C)) (kC : PySem.W.keepIn X.K (.ref C) = true) (r : Raises X (.ref C)) (hg : Gl X c)
    (hdb : (c == ("__debug__" : Str)) = false) : PS X (.Raise (some (.Call (.Name c p) [.Constant (.str m) k p2] [] pos2)) none pos) (tS (gm X) W (raiseS c)) := by
  refine PS_weak (ps_raise hc tk (pmk_own F q gC kC r hg hdb)) fun D σ H h => ?_
  obtain ⟨ρ, μ, env, s, ev, o⟩ := h
  exact o C ρ σ H gC .refl s ev
end
end RS

/-! The R road, part i: loops, stores into cells, calls, built-ins, try. -/
namespace RS
open PySem PySem.Spec PyProof.Rows L2

/-! ### loops -/
def limE (n : Nat) (env : Vs) : Vs := env.map fun o => match o with
  | some d => if cb n d then some d else none
  | none => none
def stoB (n : Nat) (μ : Sto) : Bool := μ.all fun c => match c with
  | .lst _ => true
  | .obj _ fs => fs.all fun p => cb n p.2
def forL (ok : Sto → Bool) (n : Nat) (tg : Tg) (body : Vs → Sto → SR) : List D → Vs → Sto → SR
  | [], env, μ => .nx env μ
  | x :: xs, env, μ => match bindD μ tg x env with
    | none => .no
    | some e1 => match body e1 μ with
      | .nx e2 μ2 => if ok (μ2.take n) && stoB n (μ2.take n) then forL ok n tg body xs (limE n e2) (μ2.take n) else .no
      | r => r
def forS (it : Vs → Sto → R Itm) (tg : Tg) (body : Vs → Sto → SR) : Vs → Sto → SR := fun env μ => eS (it env μ) env fun its μ1 => if its.2 μ1 then forL its.2 μ1.length tg body its.1 env μ1 else .no
def whileL (t : Vs → Sto → R Bool) (body : Vs → Sto → SR) : Nat → Vs → Sto → SR
  | 0, _, _ => .no
  | k + 1, env, μ => eS (t env μ) env fun b μ1 => if b then (match body env μ1 with
    | .nx e2 μ2 => whileL t body k e2 μ2
    | r => r) else .nx env μ1
def whileS (ms : Vs → Sto → Nat) (t : Vs → Sto → R Bool) (body : Vs → Sto → SR) : Vs → Sto → SR := fun env μ => whileL t body (ms env μ) env μ

section
variable {G : Gm} {ρ ρ' : Ow} {H : Hp} {μ : Sto}
theorem SRel.cut (s : SRel G ρ' μ H) (le : ρ.Le ρ') (hb : stoB ρ.c.length (μ.take ρ.c.length) = true) : SRel G ρ (μ.take ρ.c.length) H := by
  obtain ⟨ex, e⟩ := le.c
  have hl : ρ.c.length ≤ μ.length := by rw [← s.len, e, List.length_append]; omega
  refine ⟨by rw [List.length_take]; omega, ?_, fun i c hc => ?_, fun a m => s.all a (le.o a m)⟩
  · have := s.nd
    rw [e, List.nodup_append] at this
    exact this.1
  · have hi : i < ρ.c.length := by
      have := (List.getElem?_eq_some_iff.mp hc).1
      rw [List.length_take] at this; omega
    have hc' := hc
    rw [List.getElem?_take_of_lt hi] at hc
    obtain ⟨a, e1, k⟩ := s.at_ i c hc
    rw [e, List.getElem?_append_left hi] at e1
    refine ⟨a, e1, ?_⟩
    cases c with
    | lst ds =>
      obtain ⟨vs, h1, d1, n1⟩ := k
      exact ⟨vs, h1, d1.less le (cbs_mono (Nat.zero_le _) n1), n1⟩
    | obj c fs =>
      obtain ⟨C, dx, gs, m, h1, f⟩ := k
      refine ⟨C, dx, gs, m, h1, ?_⟩
      have hm : (fs.all fun p => cb ρ.c.length p.2) = true := (List.all_eq_true.mp hb) _ (List.mem_of_getElem? hc')
      clear h1 hc hc' hb
      induction fs generalizing gs with
      | nil => cases gs <;> first | trivial | exact f.elim
      | cons x fs ih =>
        cases gs with
        | nil => exact f.elim
        | cons y gs =>
          rw [List.all_cons, Bool.and_eq_true] at hm
          exact ⟨f.1, f.2.1.less le hm.1, ih gs f.2.2 hm.2⟩
theorem EV.cut {env : Vs} {σ : St} (e : EV G ρ' H env σ) (le : ρ.Le ρ') : EV G ρ H (limE ρ.c.length env) σ := by
  refine ⟨by unfold limE; rw [List.length_map]; exact e.1, fun i d h => ?_⟩
  unfold limE at h
  rw [List.getElem?_map, Option.map_eq_some_iff] at h
  obtain ⟨o, h1, h2⟩ := h
  cases o with
  | none => cases h2
  | some d' =>
    simp only at h2
    split at h2
    · rename_i hb
      cases h2
      obtain ⟨v, a, b⟩ := e.2 i _ h1
      exact ⟨v, a, b.less le hb⟩
    · cases h2
theorem Go.back {ρ ρ1 : Ow} {H H1 : Hp} (g : Go ρ H ρ1 H1) : Ext ρ H H1 := g.x
end
section
variable {X : Cx} {W : WX} {e a b : Expr} {es : List Expr} {pos : Pos} {st : Stmt} {sts : List Stmt}
theorem s_for {tg iter : Expr} {body : List Stmt} {it : Vs → Sto → R Itm} {t : Tg} {db : Vs → Sto → SR} (hp : PassesOwn (model X.prog X.w) X.A X.env X.xe) (hc : X.calm = true) (hi : PI X tg iter (tI (gm X) W it)) (hg : PG X tg (tG (gm X) t)) (hb : PSs X body (tS (gm X) W db))
    (hs : ∀ x, foldedSetIterable iter X.env x = pure x) : PS X (.For tg iter body [] pos) (tS (gm X) W (forS it t db)) := by
  refine PS_weak (ps_for hp hc hi hg hb hs) fun D σ H h => ?_
  obtain ⟨ρ, μ, env, s, ev, o⟩ := h
  refine ⟨ρ, μ, env, s, ev, (eS.out ev o).imp (fun its μ1 o1 J H1 x1 s1 wk => ?_) fun _ _ q => q⟩
  obtain ⟨items, okf⟩ := its
  simp only at o1 wk
  split at o1
  · rename_i hok
    have wk := wk ρ H1 ⟨0, .inl rfl⟩ Gr.refl
    have hn : μ1.length = ρ.c.length := s1.len.symm
    rw [hn] at o1
    refine ⟨fun i m σ2 H2 => m = items.length - i ∧ i ≤ items.length ∧ ∃ μ2 env2, Ext ρ H1 H2 ∧ SRel (gm X) ρ μ2 H2 ∧ EV (gm X) ρ H2 env2 σ2 ∧ okf μ2 = true ∧
      OutS (forL okf ρ.c.length t db (items.drop i) env2 μ2) (SN (gm X) D.nx ρ H2) (SRt (gm X) D.rt ρ H2) (SE (gm X) W ρ H2),
      ⟨items.length, by simp, Nat.zero_le _, μ1, env, .refl, s1, ev.ext x1, hok, OutS.imp o1 (fun _ _ q => q.on (.of x1)) (fun _ _ _ q => q.on (.of x1)) fun _ _ _ q => q.on (.of x1)⟩, ?_⟩
    rintro i m σ2 H2 ⟨rfl, hi, μ2, env2, x2, s2, ev2, ok2, o2⟩
    by_cases hlt : i < items.length
    · refine .inr ?_
      have hd : items[i]? = some items[i] := by simp [hlt]
      rw [List.drop_eq_getElem_cons hlt] at o2
      obtain ⟨go, yld⟩ := wk.go i μ2 H2 items[i] x2 s2 ok2 hd
      refine ⟨go, fun σ3 H3 => i + 1 ≤ items.length ∧ ∃ μ2 env2, Ext ρ H1 H3 ∧ SRel (gm X) ρ μ2 H3 ∧ EV (gm X) ρ H3 env2 σ3 ∧ okf μ2 = true ∧
        OutS (forL okf ρ.c.length t db (items.drop (i + 1)) env2 μ2) (SN (gm X) D.nx ρ H3) (SRt (gm X) D.rt ρ H3) (SE (gm X) W ρ H3), fun σ' H' nx => ⟨items.length - (i + 1), by omega, rfl, nx⟩, fun x H3 hy => ?_⟩
      obtain ⟨g3, rx⟩ := yld x H3 hy
      have s3 := s2.gr g3
      have x3 : Ext ρ H1 H3 := x2.trans g3.ext
      have go3 : Go ρ H2 ρ H3 := .of g3.ext
      refine ⟨ρ, μ2, env2, items[i], s3, ev2.ext g3.ext, rx, ?_⟩
      rw [forL] at o2
      cases eb : bindD μ2 t items[i] env2 with
      | none => rw [eb] at o2; exact o2.elim
      | some e1 =>
        rw [eb] at o2
        simp only at o2 ⊢
        intro σ4 ev4 _
        refine ⟨ρ, μ2, e1, s3, ev4, ?_⟩
        cases ebd : db e1 μ2 with
        | no => rw [ebd] at o2; exact o2.elim
        | er c ee μe => rw [ebd] at o2; exact SE.on o2 go3
        | rt d f μe => rw [ebd] at o2; exact SRt.on o2 go3
        | nx e2 μ3 =>
          rw [ebd] at o2
          simp only at o2
          intro ρ' σ5 H5 g5 s5 ev5
          split at o2
          · rename_i hk
            rw [Bool.and_eq_true] at hk
            have s6 := s5.cut g5.le hk.2
            have x6 : Ext ρ H1 H5 := x3.trans g5.x
            have go6 : Go ρ H2 ρ H5 := .of (go3.x.trans g5.x)
            exact ⟨hlt, _, _, x6, s6, ev5.cut g5.le, hk.1, OutS.imp o2 (fun _ _ q => q.on go6) (fun _ _ _ q => q.on go6) fun _ _ _ q => q.on go6⟩
          · exact o2.elim
    · have e : i = items.length := by omega
      subst e
      refine .inl ⟨wk.stop _ μ2 H2 x2 s2 ok2 (Nat.le_refl _), ?_⟩
      rw [List.drop_length] at o2
      exact o2 ρ σ2 H2 .refl s2 ev2
  · exact o1.elim
theorem s_while {c : Expr} {body : List Stmt} {ms : Vs → Sto → Nat} {dt : Vs → Sto → R Bool} {db : Vs → Sto → SR} (hp : PassesOwn (model X.prog X.w) X.A X.env X.xe) (hc : PT X c (tT (gm X) W dt)) (hb : PSs X body (tS (gm X) W db)) : PS X (.While c body [] pos) (tS (gm X) W (whileS ms dt db)) := by
  refine PS_weak (ps_while hp hc hb) fun D σ H h => ?_
  obtain ⟨ρ, μ, env, s, ev, o⟩ := h
  refine ⟨fun m σ2 H2 => ∃ ρ2 μ2 env2, Go ρ H ρ2 H2 ∧ SRel (gm X) ρ2 μ2 H2 ∧ EV (gm X) ρ2 H2 env2 σ2 ∧ OutS (whileL dt db m env2 μ2) (SN (gm X) D.nx ρ2 H2) (SRt (gm X) D.rt ρ2 H2) (SE (gm X) W ρ2 H2), ⟨ms env μ, ρ, μ, env, .refl, s, ev, o⟩, ?_⟩
  rintro m σ2 H2 ⟨ρ2, μ2, env2, g2, s2, ev2, o2⟩
  cases m with
  | zero => exact o2.elim
  | succ k =>
    rw [whileL] at o2
    refine tT.go s2 ev2 (eS.out ev2 o2) fun b μ3 H3 q x3 s3 => ?_
    have g3 : Go ρ2 H2 ρ2 H3 := .of x3
    cases b with
    | false =>
      rw [if_neg Bool.false_ne_true] at q ⊢
      exact q ρ2 σ2 H3 g3 s3 (ev2.ext x3)
    | true =>
      rw [if_pos rfl] at q ⊢
      refine ⟨fun σ4 H4 => ∃ ρ4 μ4 env4, Go ρ H ρ4 H4 ∧ SRel (gm X) ρ4 μ4 H4 ∧ EV (gm X) ρ4 H4 env4 σ4 ∧ OutS (whileL dt db k env4 μ4) (SN (gm X) D.nx ρ4 H4) (SRt (gm X) D.rt ρ4 H4) (SE (gm X) W ρ4 H4), fun σ' H' n => ⟨k, Nat.lt_succ_self k, n⟩, ?_⟩
      refine ⟨ρ2, μ3, env2, s3, ev2.ext x3, ?_⟩
      cases eb : db env2 μ3 with
      | no => rw [eb] at q; exact q.elim
      | er c ee μe => rw [eb] at q; exact SE.on q g3
      | rt d f μe => rw [eb] at q; exact SRt.on q g3
      | nx e4 μ4 =>
        rw [eb] at q
        intro ρ4 σ4 H4 g4 s4 ev4
        have g24 : Go ρ2 H2 ρ4 H4 := g3.trans g4
        exact ⟨ρ4, μ4, e4, g2.trans g24, s4, ev4, OutS.imp q (fun _ _ q => q.on g24) (fun _ _ _ q => q.on g24) fun _ _ _ q => q.on g24⟩

/-! ### stores into a cell -/
def setK (v o i : D) (μ : Sto) : Option Sto := match o, i with
  | .cell k, .int j => (match cellL μ k with
    | some ds => (match ixN ds.length j with
      | some n => if nc v then some (μ.set k (.lst (ds.set n v))) else none
      | none => none)
    | none => none)
  | _, _ => none
def setS (de dO di : Vs → Sto → R D) : Vs → Sto → SR := fun env μ => eS (de env μ) env fun v μ1 => eS (dO env μ1) env fun o μ2 => eS (di env μ2) env fun i μ3 => match setK v o i μ3 with
  | some μ4 => .nx env μ4
  | none => .no
theorem cellL_some {μ : Sto} {k : Nat} {ds : List D} (h : cellL μ k = some ds) : μ[k]? = some (.lst ds) := by
  unfold cellL at h
  cases e : μ[k]? with
  | none => rw [e] at h; cases h
  | some c =>
    rw [e] at h
    cases c with
    | lst es => cases h; rfl
    | obj c fs => cases h
theorem cbs_set {n : Nat} {v : D} (hv : cb n v = true) : ∀ {ds : List D} {i : Nat}, cbs n ds = true → cbs n (ds.set i v) = true
  | [], _, _ => rfl
  | _ :: _, 0, h => by
    simp only [cbs, Bool.and_eq_true, List.set] at h ⊢
    exact ⟨hv, h.2⟩
  | _ :: _, i + 1, h => by
    simp only [cbs, Bool.and_eq_true, List.set] at h ⊢
    exact ⟨h.1, cbs_set hv h.2⟩
theorem cbs_append {n : Nat} : ∀ {ds es : List D}, cbs n ds = true → cbs n es = true → cbs n (ds ++ es) = true
  | [], _, _, h => h
  | _ :: _, _, h, h2 => by
    simp only [cbs, Bool.and_eq_true, List.cons_append] at h ⊢
    exact ⟨h.1, cbs_append h.2 h2⟩
theorem s_setI {o i e : Expr} {p : Pos} {fr1 fr2 fr3 : Bool} {de dO di : Vs → Sto → R D} (he : PE X e (tE (gm X) W fr1 de)) (ho : PE X o (tE (gm X) W fr2 dO)) (hi : PE X i (tE (gm X) W fr3 di))
    (ha : ∀ v, assign (.Subscript o i p) X.env v = (do
      let ov ← holding [v] (eval o X.env)
      let iv ← holding [v, ov] (eval i X.env)
      standAt p
      holding [v, ov, iv] (setItem ov iv v)
      release [v, ov, iv] [])) (hs : swapsWithSole [.Subscript o i p] e pos.line X.env = pure false) (hw : swappedStores [.Subscript o i p] e X.env = pure none)
    (h1 : (assignEach [.Subscript o i p] X.env).map (·.2) = [assign (.Subscript o i p) X.env]) : PS X (.Assign [.Subscript o i p] e pos) (tS (gm X) W (setS de dO di)) := by
  refine PS_weak (ps_asg he (pg_sub ho hi set_list ha) hs hw h1) fun D σ H h => ?_
  obtain ⟨ρ, μ, env, s, ev, q⟩ := h
  refine tE.go s ev (eS.out ev q) fun v μ1 vv H1 q1 p1 => ?_
  have ev1 := ev.ext p1.x
  have q1 : OutS (eS (dO env μ1) env _) (SN (gm X) D.nx ρ H1) (SRt (gm X) D.rt ρ H1) (SE (gm X) W ρ H1) := OutS.imp q1 (fun _ _ q => q.on (.of p1.x)) (fun _ _ _ q => q.on (.of p1.x)) fun _ _ _ q => q.on (.of p1.x)
  refine tE.go p1.s ev1 (eS.out ev1 q1) fun od μ2 ov H2 q2 p2 => ?_
  have ev2 := ev1.ext p2.x
  have q2 : OutS (eS (di env μ2) env _) (SN (gm X) D.nx ρ H2) (SRt (gm X) D.rt ρ H2) (SE (gm X) W ρ H2) := OutS.imp q2 (fun _ _ q => q.on (.of p2.x)) (fun _ _ _ q => q.on (.of p2.x)) fun _ _ _ q => q.on (.of p2.x)
  refine tE.go p2.s ev2 (eS.out ev2 q2) fun id μ3 iv H3 q3 p3 => ?_
  have rv := (p1.r.ext p2.x).ext p3.x
  have ro := p2.r.ext p3.x
  have ri := p3.r
  have ev3 := ev2.ext p3.x
  have s3 := p3.s
  cases eK : setK v od id μ3 with
  | none => rw [eK] at q3; exact q3.elim
  | some μ4 =>
    rw [eK] at q3
    unfold setK at eK
    split at eK
    · rename_i k j
      cases ro with
      | cell ha =>
        cases ri
        split at eK
        · rename_i ds e1
          split at eK
          · rename_i n e2
            split at eK
            · rename_i hv
              cases eK
              obtain ⟨vs, hH, t, hn⟩ := s3.cell e1 ha
              obtain ⟨x4, s4⟩ := s3.put (cellL_some e1) ha (t.set rv n) (cbs_set hv hn)
              refine ⟨_, vs, _, n, rfl, rfl, hH, by rw [← t.length]; exact e2, ?_⟩
              exact q3 ρ σ _ (.of (p3.x.trans x4)) s4 (ev3.ext x4)
            · cases eK
          · cases eK
        · cases eK
    · cases eK
def appK (v o : D) (μ : Sto) : Option Sto := match o with
  | .cell k => (match cellL μ k with
    | some ds => if nc v && decide (ds.length < sizeLine) then some (μ.set k (.lst (ds ++ [v]))) else none
    | none => none)
  | _ => none
def isCellL (μ : Sto) : D → Bool
  | .cell k => (cellL μ k).isSome
  | _ => false
def appD (dO dv : Vs → Sto → R D) : Vs → Sto → R D := fun env μ => (dO env μ).bind fun o μ1 => if isCellL μ1 o then (dv env μ1).bind fun v μ2 => match appK v o μ2 with
  | some μ3 => .ok .non μ3
  | none => .no
  else .no
theorem s_append {o e : Expr} {apos : Pos} {fr1 fr2 : Bool} {dO dv : Vs → Sto → R D} (ho : PE X o (tE (gm X) W fr1 dO)) (he : PE X e (tE (gm X) W fr2 dv)) (hs : starEach [e] X.env = (false, eval e X.env) :: starEach [] X.env)
    (hbase : attributeBase o "append" X.env (eval o X.env) = eval o X.env)
    (hfew : ((backTo pos (starEach [e] X.env)).all (fun x => !x.1) && (backToKw pos (keywordEach [] X.env)).all (fun x => x.1.isSome)
      && decide (([e] : List Expr).length + ([] : List Keyword).length + (if ([] : List Keyword).isEmpty then 0 else 1) < 30)) = true)
    (hline : (apos.endLine == pos.line) = true) (hpl : (backTo pos (starEach ([] : List Expr) X.env)).any (·.1) = false) : PE X (.Call (.Attribute o "append" apos) [e] [] pos) (tE (gm X) W false (appD dO dv)) := by
  have ha : PA X [e] (tEs (gm X) W (consD dv nilD)) := s_cons he s_nil hs
  refine PE_weak (pe_bm PySem.F.plainAttrs_list PySem.F.slot_list_append PySem.F.type_list_append mt_append ho ha hbase hfew hline hs hpl) fun σ H Q h => ?_
  obtain ⟨ρ, μ, env, s, ev, q⟩ := h
  refine tE.go s ev (Out.bind q) fun od μ1 ov H1 q1 p1 => ?_
  have ev1 := ev.ext p1.x
  split at q1
  · rename_i hc
    have r1 := p1.r
    cases r1 with
    | cell ha1 =>
      rename_i k l
      simp only [isCellL, Option.isSome_iff_exists] at hc
      obtain ⟨ds0, e0⟩ := hc
      obtain ⟨vs0, hH0, _, _⟩ := p1.s.cell e0 ha1
      refine ⟨.inl ⟨rfl, vs0, SqL.of hH0⟩, ?_⟩
      have q1' := Out.bind q1
      refine ⟨ρ, μ1, env, p1.s, ev1, ?_⟩
      cases ed : dv env μ1 with
      | no => rw [ed] at q1'; exact q1'.elim
      | er c μ' =>
        rw [ed] at q1'
        simp only [consD, ed, R.bind]
        exact Er.on q1' p1.x
      | ok v μ2 =>
        rw [ed] at q1'
        simp only [consD, ed, R.bind, nilD, Out]
        intro vs H2 x2 s2 r2
        cases r2 with
        | cons rv rn =>
          rename_i vv us
          cases rn
          have q1' : Out (match appK v (.cell k) μ2 with | some μ3 => R.ok D.non μ3 | none => .no) _ _ := q1'
          cases eK : appK v (.cell k) μ2 with
          | none => rw [eK] at q1'; exact q1'.elim
          | some μ3 =>
            rw [eK] at q1'
            unfold appK at eK
            simp only at eK
            split at eK
            · rename_i ds e1
              split at eK
              · rename_i hv
                rw [Bool.and_eq_true] at hv
                cases eK
                have hz := of_decide_eq_true hv.2
                obtain ⟨ws, hH, t, hn⟩ := s2.cell e1 ha1
                obtain ⟨x4, s4⟩ := s2.put (cellL_some e1) ha1 (t.append (.cons rv .nil)) (cbs_append hn (by simp only [cbs, Bool.and_true]; exact hv.1))
                refine ⟨l, ws, vv, rfl, rfl, hH, by rw [← t.length]; exact hz, ?_⟩
                exact q1' .non _ ⟨(p1.x.trans x2).trans x4, s4, .non, fun z => by cases z⟩
              · cases eK
            · cases eK
    | _ => cases hc
  · exact q1.elim
end
end RS

/-! The R road, part j: defs and their calls, built-ins. -/
namespace RS
open PySem PySem.Spec PyProof.Rows L2

section
variable {G : Gm} {ρ ρ' : Ow} {H : Hp} {μ : Sto}
/-- told by other places -/
theorem DV.re (n : Nat) (hc : ∀ (i : Nat) (a : Addr), i < n → ρ'.c[i]? = some a → ρ.c[i]? = some a) (ho : ∀ a ∈ ρ.o, a ∈ ρ'.o) :
    (∀ d v, DV G ρ' H d v → cb n d = true → DV G ρ H d v) ∧ (∀ ds vs, DVs G ρ' H ds vs → cbs n ds = true → DVs G ρ H ds vs) := by
  have l : ∀ {a : Addr} {vs : List V}, LAt G.K ρ' H a vs → LAt G.K ρ H a vs := fun {a vs} h => by
    rcases h with ⟨h, m⟩ | h
    · exact .inl ⟨h, fun z => m (ho a z)⟩
    · exact .inr h
  refine ⟨fun d v h => ?_, fun ds vs h => ?_⟩
  · exact DV.rec (motive_1 := fun d v _ => cb n d = true → DV G ρ H d v) (motive_2 := fun ds vs _ => cbs n ds = true → DVs G ρ H ds vs) (fun _ => .non) (fun b _ => .bl b) (fun i _ => .int i) (fun x _ => .str x)
      (fun h _ t e => .tup h (t (by simpa [cb] using e))) (fun h _ t e => .lst (l h) (t (by simpa [cb] using e))) (fun h e => .cell (hc _ _ (by simpa [cb] using e) h)) (fun h _ => .fn h) (fun h c _ => .exc h c) (fun _ => .nil)
      (fun _ _ a b e => by simp only [cbs, Bool.and_eq_true] at e; exact .cons (a e.1) (b e.2)) h
  · exact DVs.rec (motive_1 := fun d v _ => cb n d = true → DV G ρ H d v) (motive_2 := fun ds vs _ => cbs n ds = true → DVs G ρ H ds vs) (fun _ => .non) (fun b _ => .bl b) (fun i _ => .int i) (fun x _ => .str x)
      (fun h _ t e => .tup h (t (by simpa [cb] using e))) (fun h _ t e => .lst (l h) (t (by simpa [cb] using e))) (fun h e => .cell (hc _ _ (by simpa [cb] using e) h)) (fun h _ => .fn h) (fun h c _ => .exc h c) (fun _ => .nil)
      (fun _ _ a b e => by simp only [cbs, Bool.and_eq_true] at e; exact .cons (a e.1) (b e.2)) h
theorem FV.re {n : Nat} (hc : ∀ (i : Nat) (a : Addr), i < n → ρ'.c[i]? = some a → ρ.c[i]? = some a) (ho : ∀ a ∈ ρ.o, a ∈ ρ'.o) : ∀ {fs : List (Str × D)} {gs : List (Str × V)}, (fs.all fun p => cb n p.2) = true → FV G ρ' H fs gs → FV G ρ H fs gs
  | [], [], _, _ => trivial
  | (_, _) :: _, (_, _) :: _, e, h => by
    rw [List.all_cons, Bool.and_eq_true] at e
    exact ⟨h.1, (DV.re n hc ho).1 _ _ h.2.1 e.1, FV.re hc ho e.2 h.2.2⟩
  | [], _ :: _, _, h => h.elim
  | _ :: _, [], _, h => h.elim
/-- the store cut, one of ours (or of the dropped) beside -/
theorem SRel.cutAdd {ds : List D} {a : Addr} {vs : List V} (s : SRel G ρ' μ H) (le : ρ.Le ρ') (hb : stoB ρ.c.length (μ.take ρ.c.length) = true) (na : a ∉ ρ.c) (ha : a ∈ ρ'.o) (hH : H a = some (.lst vs)) (r : DVs G ρ' H ds vs) (hn : ncs ds = true) :
    SRel G (ρ.add a) (μ.take ρ.c.length ++ [.lst ds]) H := by
  have c := s.cut le hb
  obtain ⟨ex, e⟩ := le.c
  have hl : (μ.take ρ.c.length).length = ρ.c.length := c.len.symm
  have hc : ∀ (i : Nat) (b : Addr), i < ρ.c.length → ρ'.c[i]? = some b → (ρ.add a).c[i]? = some b := fun i b hi h => by
    rw [e, List.getElem?_append_left hi] at h
    show (ρ.c ++ [a])[i]? = _
    rw [List.getElem?_append_left hi]; exact h
  have ho : ∀ b ∈ (ρ.add a).o, b ∈ ρ'.o := fun b m => by
    rcases List.mem_append.mp m with m | m
    · exact le.o b m
    · have : b = a := by simpa using m
      subst this; exact ha
  refine ⟨by show (ρ.c ++ [a]).length = (μ.take ρ.c.length ++ [Cell.lst ds]).length; rw [List.length_append, List.length_append, hl]; rfl, ?_, fun i cl hcl => ?_, fun b m => s.all b (ho b m)⟩
  · show (ρ.c ++ [a]).Nodup
    rw [List.nodup_append]
    exact ⟨c.nd, by simp, fun x hx y hy z => by
      have : y = a := by simpa using hy
      subst this; subst z; exact na hx⟩
  · by_cases hi : i < ρ.c.length
    · have hcl' := hcl
      rw [List.getElem?_append_left (by rw [hl]; exact hi)] at hcl
      have hmem := List.mem_of_getElem? hcl
      rw [List.getElem?_take_of_lt hi] at hcl
      obtain ⟨b, e1, k⟩ := s.at_ i cl hcl
      refine ⟨b, hc i b hi e1, ?_⟩
      cases cl with
      | lst es =>
        obtain ⟨us, h1, d1, n1⟩ := k
        exact ⟨us, h1, (DV.re ρ.c.length hc ho).2 _ _ d1 (cbs_mono (Nat.zero_le _) n1), n1⟩
      | obj cn fs =>
        obtain ⟨C, dx, gs, m, h1, f⟩ := k
        exact ⟨C, dx, gs, m, h1, FV.re hc ho ((List.all_eq_true.mp hb) _ hmem) f⟩
    · rw [List.getElem?_append_right (by rw [hl]; omega), hl] at hcl
      have hz : i - ρ.c.length = 0 := by
        cases q : i - ρ.c.length with
        | zero => rfl
        | succ m => rw [q] at hcl; simp at hcl
      rw [hz] at hcl
      have : cl = .lst ds := by simpa using hcl.symm
      subst this
      have hi2 : i = ρ.c.length := by omega
      subst hi2
      exact ⟨a, by simp [Ow.add], vs, hH, (DV.re ρ.c.length hc ho).2 _ _ r (cbs_mono (Nat.zero_le _) hn), hn⟩
end

/-! ### defs -/
def isL : D → Bool
  | .lst _ => true
  | _ => false
def finD (fr : Bool) (n : Nat) (μ' : Sto) (f : Bool) (d : D) : R D := if stoB n (μ'.take n) then (match d with
  | .cell i => if i < n then .ok (.cell i) (μ'.take n) else (match cellL μ' i with
    | some ds => .ok (.lst ds) (μ'.take n)
    | none => .no)
  | d => if cb n d && (!fr || !isL d || (f && nc d)) then .ok d (μ'.take n) else .no) else .no
def funD (n N : Nat) (fr : Bool) (body : Vs → Sto → SR) : List D → Sto → R D := fun ds μ => if ds.length = n then
  (match body (ds.map some ++ List.replicate (N - n) none) μ with
  | .nx _ μ' => if stoB μ.length (μ'.take μ.length) then .ok .non (μ'.take μ.length) else .no
  | .rt d f μ' => finD fr μ.length μ' f d
  | .er c _ μ' => if stoB μ.length (μ'.take μ.length) then .er c (μ'.take μ.length) else .no
  | .no => .no) else .no
def spOf (G : Gm) (n : Nat) (fr : Bool) (den : List D → Sto → R D) : Sp := fun vs H Q E => vs.length = n ∧ ∃ ρ μ ds, SRel G ρ μ H ∧ DVs G ρ H ds vs ∧
  Out (den ds μ) (fun d μ' => ∀ v H', Post G fr ρ H μ' d v H' → Q v H') (fun c μ' => ∀ ca H', G.mg c = some (.ref ca) → Ext ρ H H' → SRel G ρ μ' H' → E (.ref ca) none H')

theorem EV.start {G : Gm} {ρ : Ow} {H : Hp} {ds : List D} {vs : List V} (r : DVs G ρ H ds vs) (N : List Str) : EV G ρ H (ds.map some ++ List.replicate (N.length - ds.length) none) (L2.start N vs) := by
  have hl := r.length
  refine ⟨by simp [L2.start, hl], fun i d h => ?_⟩
  by_cases hi : i < ds.length
  · rw [List.getElem?_append_left (by simpa using hi), List.getElem?_map, Option.map_eq_some_iff] at h
    obtain ⟨d', h1, h2⟩ := h
    cases h2
    obtain ⟨v, hv, rv⟩ := r.get h1
    exact ⟨v, by unfold L2.start; rw [List.getElem?_append_left (by simp [← hl]; exact hi), List.getElem?_map, hv]; rfl, rv⟩
  · rw [List.getElem?_append_right (by simpa using hi), List.getElem?_replicate] at h
    split at h <;> cases h
theorem Post.fin {G : Gm} {fr f : Bool} {ρ ρ' : Ow} {H H' : Hp} {μ μ' : Sto} {d : D} {v : V} {Q : VK} {er : Str → Sto → Prop} (s0 : SRel G ρ μ H) (g : Go ρ H ρ' H') (p : PostR G f ρ' H μ' d v H') (h : Out (finD fr μ.length μ' f d) (fun d μ' => ∀ v H', Post G fr ρ H μ' d v H' → Q v H') er) : Q v H' := by
  have hn : μ.length = ρ.c.length := s0.len.symm
  rw [hn] at h
  unfold finD at h
  split at h
  · rename_i hb
    have sc := p.s.cut g.le hb
    obtain ⟨ex, e⟩ := g.le.c
    have plain : ∀ d, d = d → DV G ρ' H' d v → (fr = true → ∀ ds, d = .lst ds → ∃ a, v = .ref a ∧ H a = none ∧ (ncs ds = true → SRel G (ρ'.add a) (μ' ++ [.lst ds]) H') ∧ ncs ds = true) → cb ρ.c.length d = true → Post G fr ρ H (μ'.take ρ.c.length) d v H' := fun d _ r k c => by
      refine ⟨g.x, sc, r.less g.le c, fun hf ds hd => ?_⟩
      obtain ⟨a, h1, h2, h3, h4⟩ := k hf ds hd
      refine ⟨a, h1, h2, fun hns => ?_⟩
      have s2 := h3 hns
      -- the fresh list was laid beside ours in the callee
      have na : a ∉ ρ.c := fun m => by
        obtain ⟨o, q, _⟩ := s0.mem m
        rw [h2] at q; cases q
      obtain ⟨b, e1, us, q1, q2, q3⟩ := s2.at_ μ'.length (.lst ds) (by simp)
      have eb : b = a := by
        have z : (ρ'.c ++ [a])[μ'.length]? = some b := e1
        rw [← p.s.len] at z
        simpa using z.symm
      subst eb
      have le2 : ρ.Le (ρ'.add b) := g.le.trans Ow.le_add
      have hlen : ρ.c.length ≤ μ'.length := by rw [← p.s.len, e, List.length_append]; omega
      have tk : (μ' ++ [Cell.lst ds]).take ρ.c.length = μ'.take ρ.c.length := List.take_append_of_le_length hlen
      have := SRel.cutAdd (ρ := ρ) s2 le2 (by rw [tk]; exact hb) na (by simp [Ow.add]) q1 q2 hns
      rw [tk] at this
      exact this
    split at h
    · rename_i i
      split at h
      · rename_i hi
        exact h v H' (plain _ rfl p.r (fun _ _ z => by cases z) (by simp [cb, hi]))
      · rename_i hi
        split at h
        · rename_i ds hds
          have r := p.r
          cases r with
          | cell ha =>
            rename_i a
            obtain ⟨vs, hH, t, hns⟩ := p.s.cell hds ha
            have am : a ∈ ρ'.c := List.mem_of_getElem? ha
            have na : a ∉ ρ.c := fun m => by
              obtain ⟨j, hj, ej⟩ := List.mem_iff_getElem.mp m
              have e1 : ρ'.c[j]? = some a := by rw [e, List.getElem?_append_left hj, List.getElem?_eq_getElem hj, ej]
              obtain ⟨h1, e2⟩ := List.getElem?_eq_some_iff.mp e1
              obtain ⟨h2, e3⟩ := List.getElem?_eq_some_iff.mp ha
              have := (List.getElem_inj p.s.nd).mp (e2.trans e3.symm)
              omega
            have hnone : H a = none := (g.c a am).resolve_left na
            have nao : a ∉ ρ.o := fun m => s0.all a m hnone
            refine h _ _ ⟨g.x, sc, .lst (.inl ⟨.inl hH, nao⟩) (t.less g.le (cbs_mono (Nat.zero_le _) hns)), fun _ es z => ?_⟩
            cases z
            exact ⟨a, rfl, hnone, fun _ => SRel.cutAdd p.s g.le hb na (ρ'.sub a am) hH t hns⟩
        · exact h.elim
    · rename_i d hnc
      split at h
      · rename_i hk
        rw [Bool.and_eq_true] at hk
        refine h v H' (plain _ rfl p.r (fun hf ds hd => ?_) hk.1)
        subst hd
        have k2 := hk.2
        rw [hf] at k2
        simp only [Bool.not_true, isL, Bool.false_or, Bool.and_eq_true] at k2
        obtain ⟨a, h1, h2, h3⟩ := p.f k2.1 ds rfl
        exact ⟨a, h1, h2, h3, by have := k2.2; simpa [cb] using this⟩
      · exact h.elim
  · exact h.elim
theorem fn_ok {P : Program} {w : World} {K : PySem.W.Frag} {mg : Str → Option Value} {base : Heap} {x qual : Str} {params : Arguments} {body : List Stmt} {scope : Scope} {f : Addr} {fd : FuncData} {N ps : List Str} {k : Nat} {fr : Bool} {db : Vs → Sto → SR}
    (F : FunD K x qual params body scope [] [] f fd) (S : FnScope N ps scope)
    (hb : ∀ (cdv : Value) (A : Around) (outer : List Env) (s : Shared) (H : Hp) (E : XK), Room k (A.deeper (envOfC qual scope s.heap.objs.size f cdv)) →
      PSs (cxOf (L2.CX P w) P w K mg base N qual scope f cdv A outer s H E) body (tS ⟨K, mg⟩ (fun cls d _ H => E cls d H) db)) :
    FnOk P w K mg base (L2.CX P w) (k + 1) f fd ps (spOf ⟨K, mg⟩ ps.length fr (funD ps.length N.length fr db)) := by
  refine F.ok S (fun vs H Q E h => h.1) fun cdv A outer s H vs Q E hr h => ⟨_, hb cdv A outer s H E hr, ?_⟩
  obtain ⟨hl, ρ, μ, ds, s0, r, o⟩ := h
  have hds : ds.length = ps.length := by rw [r.length]; exact hl
  unfold funD at o
  rw [if_pos hds] at o
  refine ⟨ρ, μ, ds.map some ++ List.replicate (N.length - ps.length) none, s0, by rw [← hds]; exact EV.start r N, ?_⟩
  have hn : μ.length = ρ.c.length := s0.len.symm
  cases e : db (ds.map some ++ List.replicate (N.length - ps.length) none) μ with
  | no => rw [e] at o; exact o.elim
  | nx e2 μ' =>
    rw [e] at o
    simp only at o
    rw [hn] at o
    intro ρ' σ' H' g s' ev'
    split at o
    · rename_i hk
      exact o .non H' ⟨g.x, s'.cut g.le hk, .non, fun _ _ z => by cases z⟩
    · exact o.elim
  | er c e2 μ' =>
    rw [e] at o
    simp only at o
    rw [hn] at o
    intro ca ρ' σ' H' m g s' ev'
    split at o
    · rename_i hk
      exact o ca H' m g.x (s'.cut g.le hk)
    · exact o.elim
  | rt d f μ' =>
    rw [e] at o
    intro ρ' v H' g p
    exact Post.fin s0 g p o
/-! ### calls -/
def callD (F : List D → Sto → R D) (das : Vs → Sto → R (List D)) : Vs → Sto → R D := fun env μ => (das env μ).bind fun ds μ' => F ds μ'
/-- a def that may be called -/
structure CallOk (X : Cx) (k : Nat) (x : Str) (n : Nat) (fr : Bool) (den : List D → Sto → R D) : Prop where
  ex : ∃ (f : Addr) (fd : FuncData) (ps : List Str), ps.length = n ∧ FnOk X.prog X.w X.K X.mg X.base (L2.CX X.prog X.w) k f fd ps (spOf (gm X) n fr den) ∧ X.mg x = some (.ref f) ∧ PySem.W.keepIn X.K (.ref f) = true ∧ Binds X.K fd ps []
section
variable {X : Cx} {W : WX} {e a b : Expr} {es : List Expr} {pos : Pos}
theorem s_call {k n : Nat} {x : Str} {p : Pos} {fr : Bool} {den : List D → Sto → R D} {das : Vs → Sto → R (List D)} (c : CallOk X k x n fr den) (hr : Room k X.A) (tk : Takes X W) (hg : Gl X x) (ha : PA X (e :: es) (tEs (gm X) W das)) (hln : (e :: es).length = n)
    (hdb : (x == ("__debug__" : Str)) = false) (he : starEach (e :: es) X.env = (false, eval e X.env) :: starEach es X.env) (hpl : (backTo pos (starEach es X.env)).any (·.1) = false)
    (hlen : ∀ env μ ds μ', das env μ = .ok ds μ' → ds.length = n) : PE X (.Call (.Name x p) (e :: es) [] pos) (tE (gm X) W fr (callD den das)) := by
  obtain ⟨f, fd, ps, hps, F, hm, hk, hb⟩ := c.ex
  refine PE_weak (pe_callS F hr hg hm hk hb (fun σ => passAt tk σ) ha hdb he hpl) fun σ H Q h => ?_
  obtain ⟨ρ, μ, env, s, ev, o⟩ := h
  refine ⟨ρ, μ, env, s, ev, ?_⟩
  have o := Out.bind o
  cases e1 : das env μ with
  | no => rw [e1] at o; exact o.elim
  | er c μ' => rw [e1] at o; exact o
  | ok ds μ1 =>
    rw [e1] at o
    intro vs H1 x1 s1 r1
    have hl := hlen _ _ _ _ e1
    exact ⟨by rw [← r1.length]; exact hl, ρ, μ1, ds, s1, r1, Out.imp o (fun d μ' q v H' p => q v H' (Post.back x1 p)) fun c μ' q ca H' m x' s' => q ca H' m (x1.trans x') s'⟩
end
end RS

/-! The R road, part k: slices, built-ins, isinstance. -/
namespace RS
open PySem PySem.Spec PyProof.Rows L2

/-! ### slices -/
def slE (μ : Sto) (d : D) (lo hi : Option Int) : Option D := match d with
  | .str z => if z.length ≤ sizeLine then some (.str (cutS z lo hi)) else none
  | .tup ds => some (.tup (cutD ds lo hi))
  | d => (asL μ d).map fun ds => .lst (cutD ds lo hi)
def slcD (da : Vs → Sto → R D) (dl dh : Vs → Sto → R (Option Int)) : Vs → Sto → R D := fun env μ => (da env μ).bind fun d μ1 => (dl env μ1).bind fun lo μ2 => (dh env μ2).bind fun hi μ3 => opt (slE μ3 d lo hi) μ3
section
variable {X : Cx} {W : WX} {e a b : Expr} {es : List Expr} {pos : Pos}
theorem s_slice {lo hi : Option Expr} {p2 : Pos} {fr1 : Bool} {da : Vs → Sto → R D} {dl dh : Vs → Sto → R (Option Int)} (he : PE X e (tE (gm X) W fr1 da)) (hl : PO X lo (tOpt (gm X) W dl)) (hu : PO X hi (tOpt (gm X) W dh)) :
    PE X (.Subscript e (.Slice lo hi none p2) pos) (tE (gm X) W true (slcD da dl dh)) := by
  refine PE_weak (pe_slice (SlR.or sl_list (SlR.or sl_tupA sl_str)) he hl hu) fun σ H Q h => ?_
  obtain ⟨ρ, μ, env, s, ev, o⟩ := h
  refine tE.go s ev (Out.bind o) fun d μ1 x H1 o1 p1 => ?_
  refine ⟨ρ, μ1, env, p1.s, ev.ext p1.x, ?_⟩
  refine Out.imp (Out.bind o1) (fun l μ2 o2 H2 x2 s2 => ?_) (fun c μ' q => q.on p1.x)
  refine ⟨ρ, μ2, env, s2, ev.ext (p1.x.trans x2), ?_⟩
  refine Out.imp (Out.bind o2) (fun u μ3 o3 H3 x3 s3 => ?_) (fun c μ' q => q.on (p1.x.trans x2))
  obtain ⟨d', e', q⟩ := Out.opt o3
  have r := (p1.r.ext x2).ext x3
  have xx := p1.x.trans (x2.trans x3)
  have lst : ∀ {ds : List D}, asL μ3 d = some ds → d' = .lst (cutD ds l u) → rSlL (gm X).K x l u H3 Q := fun {ds} e1 e2 => by
    obtain ⟨a, vs, e3, hs, t⟩ := r.asL s3 e1
    subst e2
    exact ⟨a, vs, e3, hs, fun p hp => q _ _ (Post.back xx (Post.newl s3 (t.cut l u) hp))⟩
  cases r with
  | str z =>
    simp only [slE] at e'
    split at e'
    · rename_i hz
      cases e'
      exact .inr (.inr ⟨z, rfl, hz, q _ _ (Post.back xx (Post.flat s3 (.str _) fun _ z => by cases z))⟩)
    · cases e'
  | @tup ds a vs hs t =>
    cases e'
    have hl := t.length
    refine .inr (.inl ⟨a, vs, rfl, hs, fun hw => ?_, fun _ p hp => q _ _ (Post.back xx (Post.newt s3 (t.cut l u) hp))⟩)
    have : cutD ds l u = ds := by
      unfold cutD
      rw [hl, hw.1, hw.2, ← hl]
      simp
    exact q _ _ (Post.back xx (Post.flat s3 (by rw [this]; exact .tup hs t) fun _ z => by cases z))
  | @lst ds a vs h t =>
    have e1 : asL μ3 (.lst ds) = some ds := rfl
    simp only [slE, e1, Option.map_some] at e'
    exact .inl (lst e1 (Option.some.inj e').symm)
  | @cell i a h =>
    simp only [slE, Option.map_eq_some_iff] at e'
    obtain ⟨ds, e1, e2⟩ := e'
    exact .inl (lst e1 e2.symm)
  | _ => simp [slE, RS.asL] at e'

/-! ### built-ins -/
def lenO (μ : Sto) : D → Option Nat
  | .str s => if s.length ≤ sizeLine then some s.length else none
  | d => (asS μ d).map List.length
def lenG (μ : Sto) : List D → Option D
  | [d] => (lenO μ d).map fun n : Nat => .int n
  | _ => none
theorem ca_len {G : Gm} : CaS G false (fun xs H Q => ∃ x n, xs = [x] ∧ LenV G.K x H n ∧ Q (.int n) H) lenG := by
  intro ρ μ H vs ds d Q s r e q
  cases r with
  | nil => cases e
  | cons r1 r2 =>
    cases r2 with
    | cons _ _ => cases e
    | nil =>
      rename_i d1 v1
      simp only [lenG, Option.map_eq_some_iff] at e
      obtain ⟨n, e1, e2⟩ := e
      subst e2
      have q := q _ _ (Post.here s (.int _))
      have seq : ∀ {es : List D}, asS μ d1 = some es → n = es.length → LenV G.K v1 H n := fun {es} h hn => by
        obtain ⟨a, us, e3, hs, t⟩ := r1.asS s h
        subst e3
        rw [hn, t.length]
        rcases hs with hs | hs
        · exact .inl ⟨us, hs, rfl⟩
        · exact .inr ⟨us, hs, rfl⟩
      refine ⟨v1, n, rfl, ?_, q⟩
      cases r1 with
      | str z =>
        simp only [lenO] at e1
        split at e1
        · rename_i hz
          cases e1
          exact ⟨hz, rfl⟩
        · cases e1
      | _ =>
        first
          | (simp only [lenO, Option.map_eq_some_iff] at e1
             obtain ⟨es, h1, h2⟩ := e1
             exact seq h1 h2.symm)
          | (simp [lenO, RS.asS] at e1)
def absG (_ : Sto) : List D → Option D
  | [.int i] => some (.int (if i < 0 then -i else i))
  | _ => none
theorem ca_abs {G : Gm} : CaS G false (fun xs H Q => ∃ i, xs = [.int i] ∧ Q (.int (if i < 0 then -i else i)) H) absG := by
  intro ρ μ H vs ds d Q s r e q
  unfold absG at e
  split at e
  · cases e
    cases r with
    | cons r1 r2 => cases r2; cases r1; exact ⟨_, rfl, q _ _ (Post.here s (.int _))⟩
  · cases e
def maxG (_ : Sto) : List D → Option D
  | [.int i, .int j] => some (.int (if j > i then j else i))
  | _ => none
theorem ca_max {G : Gm} : CaS G false (fun xs H Q => ∃ i j, xs = [.int i, .int j] ∧ Q (.int (if j > i then j else i)) H) maxG := by
  intro ρ μ H vs ds d Q s r e q
  unfold maxG at e
  split at e
  · cases e
    cases r with
    | cons r1 r2 => cases r2 with
      | cons r2 r3 => cases r3; cases r1; cases r2; exact ⟨_, _, rfl, q _ _ (Post.here s (.int _))⟩
  · cases e
def minG (_ : Sto) : List D → Option D
  | [.int i, .int j] => some (.int (if j < i then j else i))
  | _ => none
theorem ca_min {G : Gm} : CaS G false (fun xs H Q => ∃ i j, xs = [.int i, .int j] ∧ Q (.int (if j < i then j else i)) H) minG := by
  intro ρ μ H vs ds d Q s r e q
  unfold minG at e
  split at e
  · cases e
    cases r with
    | cons r1 r2 => cases r2 with
      | cons r2 r3 => cases r3; cases r1; cases r2; exact ⟨_, _, rfl, q _ _ (Post.here s (.int _))⟩
  · cases e
def intG (_ : Sto) : List D → Option D
  | [.int i] => some (.int i)
  | [.bl b] => some (.int (if b then 1 else 0))
  | _ => none
theorem ca_int {G : Gm} : CaS G false (fun xs H Q => (∃ i, xs = [.int i] ∧ Q (.int i) H) ∨ ∃ k, xs = [.bl k] ∧ Q (.int (if k then 1 else 0)) H) intG := by
  intro ρ μ H vs ds d Q s r e q
  unfold intG at e
  split at e
  · cases e
    cases r with
    | cons r1 r2 => cases r2; cases r1; exact .inl ⟨_, rfl, q _ _ (Post.here s (.int _))⟩
  · cases e
    cases r with
    | cons r1 r2 => cases r2; cases r1; exact .inr ⟨_, rfl, q _ _ (Post.here s (.int _))⟩
  · cases e
def strG (_ : Sto) : List D → Option D
  | [.int i] => if i.natAbs.log2 < 1920 then some (.str (toString i)) else none
  | _ => none
theorem ca_str {G : Gm} : CaS G false (fun xs H Q => ∃ i : Int, xs = [.int i] ∧ i.natAbs.log2 < 1920 ∧ Q (.str (toString i)) H) strG := by
  intro ρ μ H vs ds d Q s r e q
  unfold strG at e
  split at e
  · split at e
    · rename_i hz
      cases e
      cases r with
      | cons r1 r2 => cases r2; cases r1; exact ⟨_, rfl, hz, q _ _ (Post.here s (.str _))⟩
    · cases e
  · cases e
def listG (μ : Sto) : List D → Option D
  | [d] => (asS μ d).map .lst
  | _ => none
theorem ca_list {G : Gm} : CaS G true (fun xs H Q => ∃ p ys, xs = [.ref p] ∧ (SqL G.K H p ys ∨ SqT G.K H p ys) ∧ ∀ l, H l = none → Q (.ref l) (upd H l (.lst ys))) listG := by
  intro ρ μ H vs ds d Q s r e q
  unfold listG at e
  split at e
  · simp only [Option.map_eq_some_iff] at e
    obtain ⟨es, e1, e2⟩ := e
    subst e2
    cases r with
    | cons r1 r2 =>
      cases r2
      obtain ⟨a, us, e3, hs, t⟩ := r1.asS s e1
      subst e3
      exact ⟨a, us, rfl, hs, fun l hl => q _ _ (Post.newl s t hl)⟩
  · cases e
def tupG (μ : Sto) : List D → Option D
  | [d] => (asS μ d).map .tup
  | _ => none
theorem ca_tup {G : Gm} : CaS G false (fun xs H Q => ∃ p ys, xs = [.ref p] ∧ ((SqL G.K H p ys ∧ ∀ l, H l = none → Q (.ref l) (upd H l (.tup ys))) ∨ (SqT G.K H p ys ∧ Q (.ref p) H))) tupG := by
  intro ρ μ H vs ds d Q s r e q
  unfold tupG at e
  split at e
  · simp only [Option.map_eq_some_iff] at e
    obtain ⟨es, e1, e2⟩ := e
    subst e2
    cases r with
    | cons r1 r2 =>
      cases r2
      obtain ⟨a, us, e3, hs, t⟩ := r1.asS s e1
      subst e3
      rcases hs with hs | hs
      · exact ⟨a, us, rfl, .inl ⟨hs, fun l hl => q _ _ (Post.newt s t hl)⟩⟩
      · exact ⟨a, us, rfl, .inr ⟨hs, q _ _ (Post.here s (.tup hs t))⟩⟩
  · cases e
def intL : List D → Option (List Int)
  | [] => some []
  | .int i :: ds => (intL ds).map (i :: ·)
  | _ => none
theorem DVs.intL {G : Gm} {ρ : Ow} {H : Hp} : ∀ {ds : List D} {vs : List V} {ns : List Int}, DVs G ρ H ds vs → RS.intL ds = some ns → vs = ns.map V.int
  | _, _, _, .nil, e => by cases e; rfl
  | _, _, _, .cons r t, e => by
    cases r with
    | int i =>
      simp only [RS.intL, Option.map_eq_some_iff] at e
      obtain ⟨ns, e1, e2⟩ := e
      subst e2
      rw [t.intL e1]; rfl
    | _ => simp [RS.intL] at e
def blL : List D → Option (List Bool)
  | [] => some []
  | .bl i :: ds => (blL ds).map (i :: ·)
  | _ => none
theorem DVs.blL {G : Gm} {ρ : Ow} {H : Hp} : ∀ {ds : List D} {vs : List V} {ns : List Bool}, DVs G ρ H ds vs → RS.blL ds = some ns → vs = ns.map V.bl
  | _, _, _, .nil, e => by cases e; rfl
  | _, _, _, .cons r t, e => by
    cases r with
    | bl i =>
      simp only [RS.blL, Option.map_eq_some_iff] at e
      obtain ⟨ns, e1, e2⟩ := e
      subst e2
      rw [t.blL e1]; rfl
    | _ => simp [RS.blL] at e
def strL : List D → Option (List Str)
  | [] => some []
  | .str i :: ds => (strL ds).map (i :: ·)
  | _ => none
theorem DVs.strL {G : Gm} {ρ : Ow} {H : Hp} : ∀ {ds : List D} {vs : List V} {ns : List Str}, DVs G ρ H ds vs → RS.strL ds = some ns → vs = ns.map V.str
  | _, _, _, .nil, e => by cases e; rfl
  | _, _, _, .cons r t, e => by
    cases r with
    | str i =>
      simp only [RS.strL, Option.map_eq_some_iff] at e
      obtain ⟨ns, e1, e2⟩ := e
      subst e2
      rw [t.strL e1]; rfl
    | _ => simp [RS.strL] at e
def sumG (μ : Sto) : List D → Option D
  | [d] => (asL μ d).bind fun es => (intL es).map fun ns => .int ns.sum
  | _ => none
theorem ca_sum {G : Gm} : CaS G false (rSum G.K) sumG := by
  intro ρ μ H vs ds d Q s r e q
  unfold sumG at e
  split at e
  · simp only [Option.bind_eq_some_iff, Option.map_eq_some_iff] at e
    obtain ⟨es, e1, ns, e2, e3⟩ := e
    subst e3
    cases r with
    | cons r1 r2 =>
      cases r2
      obtain ⟨a, us, e3, hs, t⟩ := r1.asL s e1
      subst e3
      have := t.intL e2
      subst this
      exact ⟨a, ns, rfl, hs, q _ _ (Post.here s (.int _))⟩
  · cases e
def allG (μ : Sto) : List D → Option D
  | [d] => (asL μ d).bind fun es => (blL es).map fun ns => .bl (ns.all id)
  | _ => none
theorem ca_all {G : Gm} : CaS G false (rAll G.K) allG := by
  intro ρ μ H vs ds d Q s r e q
  unfold allG at e
  split at e
  · simp only [Option.bind_eq_some_iff, Option.map_eq_some_iff] at e
    obtain ⟨es, e1, ns, e2, e3⟩ := e
    subst e3
    cases r with
    | cons r1 r2 =>
      cases r2
      obtain ⟨a, us, e3, hs, t⟩ := r1.asL s e1
      subst e3
      have := t.blL e2
      subst this
      exact ⟨a, ns, rfl, hs, q _ _ (Post.here s (.bl _))⟩
  · cases e
def maxI : List Int → Option Int
  | [] => none
  | i :: ns => some (ns.foldl max i)
theorem foldl_max_le : ∀ (ns : List Int) (i : Int), i ≤ ns.foldl max i ∧ (∀ y ∈ ns, y ≤ ns.foldl max i) ∧ (ns.foldl max i = i ∨ ns.foldl max i ∈ ns)
  | [], i => ⟨Int.le_refl _, (fun y h => by cases h), .inl rfl⟩
  | n :: ns, i => by
    obtain ⟨h1, h2, h3⟩ := foldl_max_le ns (max i n)
    simp only [List.foldl_cons]
    refine ⟨by omega, fun y h => ?_, ?_⟩
    · rcases List.mem_cons.mp h with e | h
      · subst e; omega
      · exact h2 y h
    · rcases h3 with h3 | h3
      · rw [h3]
        by_cases q : i ≤ n
        · exact .inr (by rw [Int.max_eq_right q]; exact List.mem_cons_self)
        · exact .inl (Int.max_eq_left (by omega))
      · exact .inr (List.mem_cons_of_mem _ h3)
def maxLG (μ : Sto) : List D → Option D
  | [d] => (asL μ d).bind fun es => (intL es).bind fun ns => (maxI ns).map .int
  | _ => none
theorem ca_maxL {G : Gm} : CaS G false (rMax G.K) maxLG := by
  intro ρ μ H vs ds d Q s r e q
  unfold maxLG at e
  split at e
  · simp only [Option.bind_eq_some_iff, Option.map_eq_some_iff] at e
    obtain ⟨es, e1, ns, e2, m, e3, e4⟩ := e
    subst e4
    cases r with
    | cons r1 r2 =>
      cases r2
      obtain ⟨a, us, e5, hs, t⟩ := r1.asL s e1
      subst e5
      have := t.intL e2
      subst this
      cases ns with
      | nil => cases e3
      | cons n ns =>
        cases e3
        obtain ⟨h1, h2, h3⟩ := foldl_max_le ns n
        refine ⟨a, _, rfl, hs, by simp, fun m hm hy => ?_⟩
        have e : m = ns.foldl max n := by
          have b1 : ns.foldl max n ≤ m := by
            rcases h3 with h3 | h3
            · rw [h3]; exact hy n List.mem_cons_self
            · exact hy _ (List.mem_cons_of_mem _ h3)
          have b2 : m ≤ ns.foldl max n := by
            rcases List.mem_cons.mp hm with e | hm
            · rw [e]; exact h1
            · exact h2 m hm
          omega
        rw [e]
        exact q _ _ (Post.here s (.int _))
  · cases e

/-! ### a.join(b) -/
def joinG (μ : Sto) (x y : D) : Option D := match x with
  | .str a => (asS μ y).bind fun es => (strL es).bind fun ys => if (ys.map (·.length)).sum + ys.length * a.length ≤ 16777216 then some (.str (Txt.join a ys)) else none
  | _ => none
def txtD (g : Sto → D → D → Option D) (da db : Vs → Sto → R D) : Vs → Sto → R D := fun env μ => (da env μ).bind fun x μ1 => match x with
  | .str a => (db env μ1).bind fun y μ2 => opt (g μ2 (.str a) y) μ2
  | _ => .no
theorem txt_go {fr fr1 fr2 : Bool} {g : Sto → D → D → Option D} {da db : Vs → Sto → R D} {σ : St} {H : Hp} {Q : VK} {r : V → List V → Hp → VK → Prop} (h : tE (gm X) W fr (txtD g da db) σ H Q)
    (k : ∀ ρ μ2 a dy y d H2, SRel (gm X) ρ μ2 H2 → DV (gm X) ρ H2 dy y → g μ2 (.str a) dy = some d → (∀ v H', Post (gm X) fr ρ H2 μ2 d v H' → Q v H') → r (.str a) [y] H2 Q) : tM1 r (tE (gm X) W fr1 da) (tE (gm X) W fr2 db) σ H Q := by
  obtain ⟨ρ, μ, env, s, ev, o⟩ := h
  refine tE.go s ev (Out.bind o) fun d μ1 x H1 o1 p1 => ?_
  cases d with
  | str a =>
    have r1 := p1.r
    cases r1
    refine ⟨⟨_, rfl⟩, ?_⟩
    have o1 := Out.bind o1
    refine tE.go p1.s (ev.ext p1.x) (o1.imp (fun _ _ q => q) fun c μ' q => q.on p1.x) fun dy μ2 y H2 o2 p2 => ?_
    obtain ⟨d2, e2, q2⟩ := Out.opt o2
    exact k ρ μ2 a dy y d2 H2 p2.s p2.r e2 fun v H' p => q2 v H' (Post.back (p1.x.trans p2.x) p)
  | _ => exact o1.elim
theorem s_join {o e : Expr} {fr1 fr2 : Bool} {da db : Vs → Sto → R D} {apos pos : Pos} (ho : PE X o (tE (gm X) W fr1 da)) (he : PE X e (tE (gm X) W fr2 db)) (hs : starEach [e] X.env = [(false, eval e X.env)]) (hbase : attributeBase o "join" X.env (eval o X.env) = eval o X.env) (hline : (apos.endLine == pos.line) = true) :
    PE X (.Call (.Attribute o "join" apos) [e] [] pos) (tE (gm X) W false (txtD joinG da db)) := by
  refine PE_weak (pe_join ho he hs hbase hline) fun σ H Q h => ?_
  refine txt_go h fun ρ μ2 a dy y d H2 s2 ry e q => ?_
  simp only [joinG, Option.bind_eq_some_iff] at e
  obtain ⟨es, e1, ys, e2, e3⟩ := e
  split at e3
  · rename_i hz
    cases e3
    obtain ⟨p, us, e4, hs2, t⟩ := ry.asS s2 e1
    subst e4
    have := t.strL e2
    subst this
    exact ⟨_, p, ys, rfl, rfl, hs2, hz, q _ _ (Post.here s2 (.str _))⟩
  · cases e3
def splitG (_ : Sto) (x y : D) : Option D := match x, y with
  | .str a, .str b => if (b.length == 0) = false ∧ a.length + 2 ≤ sizeLine then some (.lst ((Txt.split a b).map .str)) else none
  | _, _ => none
theorem DVs.ofStr {G : Gm} {ρ : Ow} {H : Hp} : ∀ ys : List Str, DVs G ρ H (ys.map .str) (ys.map V.str)
  | [] => .nil
  | _ :: ys => .cons (.str _) (DVs.ofStr ys)
theorem s_split {o e : Expr} {fr1 fr2 : Bool} {da db : Vs → Sto → R D} {apos pos : Pos} (ho : PE X o (tE (gm X) W fr1 da)) (he : PE X e (tE (gm X) W fr2 db)) (hs : starEach [e] X.env = [(false, eval e X.env)]) (hbase : attributeBase o "split" X.env (eval o X.env) = eval o X.env) (hline : (apos.endLine == pos.line) = true) :
    PE X (.Call (.Attribute o "split" apos) [e] [] pos) (tE (gm X) W true (txtD splitG da db)) := by
  refine PE_weak (pe_split ho he hs hbase hline) fun σ H Q h => ?_
  refine txt_go h fun ρ μ2 a dy y d H2 s2 ry e q => ?_
  cases dy with
  | str b =>
    simp only [splitG] at e
    split at e
    · rename_i hz
      cases e
      cases ry
      exact ⟨_, _, rfl, rfl, hz.1, hz.2, fun p hp => q _ _ (Post.newl s2 (DVs.ofStr _) hp)⟩
    · cases e
  | _ => simp [splitG] at e
end
end RS

/-! The R road, part l: isinstance; try .. except C as n: y = n. -/
namespace L2
open PySem PySem.Spec PyProof.Rows
/-- isinstance(e, c), e a caught exception that is tracked -/
theorem call_isX {X : Cx} {φ : Addr → Addr → Heap → Prop} (hφ : ∀ a ca h, φ a ca h → ∃ o vs, h.get? a = some o ∧ Zc (.ref ca) none o ∧ o.data = .fields vs) :
    CallR X (.builtin "isinstance") (fun xs H Q => ∃ (a cc : Addr) (c : V) (cv : Value) (b : Bool), xs = [.ref a, c] ∧ H a = some (.ext (φ a cc)) ∧ ExcC X.K cc ∧ (∀ u, RelV c u → u = cv) ∧ PySem.W.kitOne X.K (.ref cc) cv = some b ∧ Q (.bl b) H) := by
  intro pins s σ H xs us Q I r h
  obtain ⟨a, cc, c, cv, b, rfl, ha, C, hcv, e, q⟩ := h
  cases r with
  | cons rx rr =>
    cases rr with
    | cons rt rr =>
      cases rr
      cases rx
      have ec := hcv _ rt
      subst ec
      obtain ⟨p, _, _⟩ := (show ObjOk X.prog X.w H s.heap a (.ext (φ a cc)) from I.hok a _ ha)
      obtain ⟨oe, vs, hget, hz, hv⟩ := hφ _ _ _ p
      have J : PySem.W.InstAt s.heap a oe cc none := by
        obtain ⟨oc, od, oda, osl⟩ := oe
        obtain ⟨h1, h2⟩ := hz
        dsimp only at h1 h2 hv
        subst h1 h2 hv
        exact ⟨hget, rfl, rfl, trivial⟩
      exact PySem.W.kia_one (PySem.W.handS_kitx_exc C.hg C.hk C.hs C.hd C.ha C.hn C.ht C.hm) I.kIn J e (fun z => nomatch z) fun tk => ⟨.bl b, H, I.kept (t' := tk) fun _ _ z => z, rfl, q⟩

/-- the suite's exception is tracked, and the suite left -/
theorem Inv.track {X : Cx} {pins pn' : List (Addr × Obj)} {σ : St} {H : Hp} {s : Shared} {a : Addr} {oe : Obj} {φ : Heap → Prop} {vs : Array Value} (S : Inv (X.suite a ((a, oe) :: (X.pn ++ pins))) pn' σ H s) (ok : X.Ok) (hd : oe.data = .fields vs)
    (hφ : φ s.heap) (hst : ∀ h1 h2 : Heap, φ h1 → (∀ o, h1.get? a = some o → h2.get? a = some o) → φ h2) (h0 : X.s_0.heap.get? a = none) (hp : ∀ p ∈ X.pn ++ pins, p.1 ≠ a) : Inv X pins σ (upd H a (.ext φ)) s := by
  obtain ⟨ha, na, nL, nF, _⟩ := S.pin (a, oe) (List.mem_append.mpr (.inl List.mem_cons_self))
  have I := S.unsuite ok
  have ne : ∀ {b : Addr} {o : HO}, H b = some o → b ≠ a := fun {b o} e z => by rw [z] at e; rw [show H a = none from na] at e; cases e
  refine ⟨ok, I.os, I.bare, ⟨I.base.keep, I.base.slot, fun b o e n hx => ?_, I.base.there, fun b xs q => ?_, fun b o u q => ?_, fun b ps q => ?_⟩, I.loc, I.cell, ?_, fun x c e => ?_, fun p hpm => ?_, fun b o e => ?_, I.len⟩
  · rw [upd_ne (fun z => by rw [z, h0] at e; cases e)]
    exact I.base.free b o e n hx
  · have := I.base.tups b xs q
    rw [upd_ne (ne this)]; exact this
  · have := I.base.frzs b o u q
    rw [upd_ne (ne this)]; exact this
  · obtain ⟨m, h⟩ := I.base.tbls b ps q
    exact ⟨m, by rw [upd_ne (ne h)]; exact h⟩
  · rw [upd_ne (Ne.symm nL)]; exact I.free
  · rw [upd_ne (fun z => ?_)]
    · exact I.freeC x c e
    · obtain ⟨v, o, h1, h2⟩ := I.cell x c e
      rw [z] at h1
      rw [show s.heap.get? a = some oe from ha] at h1
      cases h1
      rw [hd] at h2; cases h2
  · obtain ⟨h1, h2, h3, h4, h5⟩ := I.pin p hpm
    exact ⟨h1, by rw [upd_ne (hp p hpm)]; exact h2, h3, h4, h5⟩
  · by_cases hb : b = a
    · subst hb
      rw [upd_same] at e
      cases e
      exact ⟨hφ, ⟨oe, ha⟩, hst⟩
    · rw [upd_ne hb] at e
      exact (I.hok b o e).stay (fun c v _ q => q) (fun c q => by rw [upd_ne (ne_of_none q na)]; exact q) fun c xs q => by rw [upd_ne (ne_of_none q na)]; exact q

/-- what the clause 'except x as n: y = n' wishes: n's slot is i, y's is j -/
def wKeep (φ : Addr → Addr → Heap → Prop) (K : PySem.W.Frag) (c : Value) (i j : Nat) (Wout : WX) (D : Ends) : WX := fun cls d σ H =>
  ∃ b, PySem.W.exmOne K cls c = some b ∧ (b = true → ∃ ca, cls = .ref ca ∧ d = none ∧ ∀ a, H a = none → D.nx (((σ.set i (some (.ref a))).set j (some (.ref a))).set i none) (upd H a (.ext (φ a ca)))) ∧
    (b = false → Wout cls d σ H)
section
variable {X : Cx} {x n y : Str} {c : Value} {i j : Nat} {body : List Stmt} {np np2 py pos pos' pos2 : Pos} {tb : WX → TS} {Wout : WX} {φ : Addr → Addr → Heap → Prop}
theorem ps_try_keep (hφ : ∀ a ca h o vs, h.get? a = some o → Zc (.ref ca) none o → o.data = .fields vs → φ a ca h) (hst : ∀ a ca, ∀ h1 h2 : Heap, φ a ca h1 → (∀ o, h1.get? a = some o → h2.get? a = some o) → φ a ca h2)
    (hex : X.ex = []) (hs : X.stack = X.env :: X.outer) (hf : X.env.frame = some X.env.locals) (hN : X.N.Nodup) (hi : X.N[i]? = some n) (hln : X.env.kindOf n = some .local) (hj : X.N[j]? = some y) (hy : Loc X.env.scope y) (hfy : X.fn y = true ∨ X.env.scope.names.lookup y = some .local)
    (hvn : Vis X.env.scope n) (hnd : (n == ("__debug__" : Str)) = false) (hnc : (n == ("__classdict__" : Str)) = false) (hij : i < X.N.length) (hc : Names X x c) (tk : Takes X Wout)
    (hb : ∀ (W : WX) (pn : List (Addr × Obj)) (xe : Value → Shared → Prop), Takes (X.tr pn xe) W → PassesOwn (model X.prog X.w) X.A X.env xe → PSs (X.tr pn xe) body (tb W))
    (hsw : swapsWith (.Name n np2) (some (.Name y py)) pos2.line X.env = pure false) :
    PS X (.Try body [.ExceptHandler (some (.Name x np)) (some n) [.Assign [.Name y py] (.Name n np2) pos2] pos'] [] [] pos) (fun D σ H => tb (wKeep φ X.K c i j Wout D) D σ H) := by
  refine ⟨fun pins s σ H D I h => ?_⟩
  have ok := I.ok
  have hfr : X.A.frames = some (X.env :: X.outer) := by rw [ok.frames, hs]
  have hloc : Loc X.env.scope n := .inl hln
  refine wpAny_Try_except ?_
  refine wpAny_mono ((hb (wKeep φ X.K c i j Wout D) (X.pn ++ pins) (fun e s₁ => wpAny (model X.prog X.w) X.A (noteFrame e X.env) (fun _ s₂ => wpAny (model X.prog X.w) X.A (setFlight e none) (fun _ s₃ =>
    wpAny (model X.prog X.w) X.A (handleBy e X.env [.ExceptHandler (some (.Name x np)) (some n) [.Assign [.Name y py] (.Name n np2) pos2] pos']) (SP X pins D) X.xe s₃) X.xe s₂) X.xe s₁) (fun u s' xx => ?_) PassesOwn.looking).run [] s σ H D (I.toTry _) h) (fun f s1 hsp => ?_) (fun e s1 he => he)
  · -- the catch
    obtain ⟨a, B, sI, pins', σ', H', cls, d, rfl, J', nb, up, sky, na, os, ag, b, hb1, hyes, hno⟩ := xx
    have J : Inv X pins σ' H' sI := J'.ofTry ok
    have sky' : Sky B (X.env :: X.outer) a (Zc cls d) X.env.locals s'.heap := by rw [← hs]; exact sky
    show wpAny (model X.prog X.w) X.A (noteFrame (.ref a) X.env) _ _ _
    refine Sky.land Zc.steady hfr hf sky' fun h3 fl3 up3 => ?_
    have J3 : Inv X pins σ' H' { s' with heap := h3 } := J.landed nb fl3.1 (up.trans up3) os ag
    obtain ⟨oe3, vs3, he3, hz3, hd3⟩ := fl3.there
    have notFr : ∀ {h : Heap} {o : Obj} {vs : Array Value}, h.FunFrames B (X.env :: X.outer) → h.get? a = some o → o.data = .fields vs → a ∉ frs (X.env :: X.outer) := fun {h o vs} ff e dd hm => by
      obtain ⟨_, o', e', hnf⟩ := ff.mem hm
      rw [e] at e'; cases e'
      exact hnf _ dd
    have nfr := notFr fl3.2.2.1 he3 hd3
    have nL : a ≠ X.env.locals := fun z => nfr (List.mem_filterMap.mpr ⟨X.env, List.mem_cons_self, by rw [hf, z]⟩)
    have nF : a ∉ X.fs := fun hm => by
      obtain ⟨e, he, q⟩ := List.mem_filterMap.mp hm
      exact nfr (List.mem_filterMap.mpr ⟨e, List.mem_cons_of_mem _ he, q⟩)
    have aI : sI.heap.get? a = none := by
      cases e : sI.heap.get? a with
      | none => rfl
      | some o =>
        have := nb a o e (by rw [hs]; exact nfr)
        rw [fl3.2.1] at this; cases this
    have a0 : X.s_0.heap.get? a = none := by
      cases e : X.s_0.heap.get? a with
      | none => rfl
      | some o =>
        obtain ⟨o', e'⟩ := J.base.there a o e (by rw [hex]; exact List.not_mem_nil)
        rw [aI] at e'; cases e'
    have hpn : ∀ p ∈ X.pn ++ pins, p.1 ≠ a := fun p hp z => by
      have := (J.pin p hp).1
      rw [z, aI] at this; cases this
    have S3 := J3.suite he3 hd3 na nL nF
    refine wpAny_handleBy_cons (codeAny_handlers_test ?_) (by intro q; cases q)
    have LT : PySem.W.Looks (model X.prog X.w) h3 (typeOf (.ref a)) cls := fun A Q E s k q => wpAny_typeOf_ref (k _ _ he3) (by rw [hz3.1]; exact q)
    have LM := PySem.W.exm_one (M := model X.prog X.w) (J3.kIn) LT hb1
    have test : ∀ {Q : Value → Shared → Prop} {E : Value → Shared → Prop}, Q c { s' with heap := h3 } → wpAny (model X.prog X.w) (X.A.mark (some (.ref a))) (eval (.Name x np) X.env) Q E { s' with heap := h3 } := fun {Q E} q => by
      obtain ⟨hg, hdbg, hm | ⟨hm, hv, hnn⟩⟩ := hc
      · exact ld_glob (X := X.suite a ((a, oe3) :: (X.pn ++ pins))) S3 hg hm q hdbg
      · exact ld_blt (X := X.suite a ((a, oe3) :: (X.pn ++ pins))) S3 hg hm hv q hnn hdbg
    refine test (LM.here ?_)
    cases b with
    | true =>
      obtain ⟨ca, ec, ed, hy2⟩ := hyes rfl
      subst ec ed
      refine codeAny_handlers_suite_as ?_
      refine HandSPX.lands_againZ fl3 fun h4 fl4 up4 => ?_
      have J4 : Inv X pins σ' H' { s' with heap := h4 } := J.landed nb fl4.1 ((up.trans up3).trans up4) os ag
      obtain ⟨oe4, vs4, he4, hz4, hd4⟩ := fl4.there
      have S4 := J4.suite he4 hd4 na nL nF
      refine store_ok (X := X.suite a ((a, oe4) :: (X.pn ++ pins))) (v := .ref a) S4 hN hi hloc rfl (fun s5 S5 => ?_) (.inr hln)
      have hrun : PSs (X.suite a ((a, oe4) :: (X.pn ++ pins))) [.Assign [.Name y py] (.Name n np2) pos2] (fun D σ H => ∃ v, σ[i]? = some (some v) ∧ D.nx (σ.set j (some v)) H) :=
        RS.PSs_weak (pss_cons (ps_set (X := X.suite a ((a, oe4) :: (X.pn ++ pins))) (pos := pos2) (pos' := py) hN hj hy (pe_var (X := X.suite a ((a, oe4) :: (X.pn ++ pins))) (pos := np2) hi hvn hnd hnc) hsw hfy) pss_nil) fun D σ H h => h
      have hlen : i < σ'.length := by rw [J.len]; exact hij
      refine wpAny_mono (hrun.run [] s5 _ H' { nx := fun σ6 H6 => σ6 = (σ'.set i (some (V.ref a))).set j (some (V.ref a)) ∧ H6 = H', rt := fun _ _ => False } S5 ⟨V.ref a, List.getElem?_set_self hlen, rfl, rfl⟩) (fun f s6 hsp => ?_) (fun _ _ z => False.elim z)
      cases f with
      | next =>
        obtain ⟨σ6, H6, S6, rfl, rfl⟩ := hsp
        refine gone_ok (X := X.suite a ((a, oe4) :: (X.pn ++ pins))) S6 hN hi hln fun s7 S7 => ?_
        refine ⟨_, _, S7.track ok hd4 (hφ a ca _ oe4 _ ?_ hz4 hd4) (hst a ca) a0 hpn, hy2 a na⟩
        exact (S7.pin (a, oe4) (List.mem_append.mpr (.inl List.mem_cons_self))).1
      | brk =>
        obtain ⟨σ6, H6, S6, q6⟩ := hsp
        exact q6.elim
      | cont =>
        obtain ⟨σ6, H6, S6, q6⟩ := hsp
        exact q6.elim
      | ret u =>
        obtain ⟨v6, σ6, H6, S6, r6, q6⟩ := hsp
        exact q6.elim
    | false =>
      show wpAny _ X.A (handleBy (.ref a) X.env []) _ _ _
      refine wpAny_handleBy_nil ?_
      obtain ⟨k1, k2, k3, oe, vs, T, oT, ts', he, hz, hd, h1, hr⟩ := id fl3
      unfold PySem.passOn
      refine wpAny_bind (wpAny_field he hd h1 ?_)
      rw [if_neg (show ¬ ((Value.ref T == Value.none) = true) from by simp)]
      have fin : wpAny (model X.prog X.w) X.A (setFlight (.ref a) X.env.frame) (fun _ s4 => wpAny (model X.prog X.w) X.A (throw (.ref a) : Sem Flow) (SP X pins D) X.xe s4) X.xe { s' with heap := h3 } := by
        rw [hf]
        refine HandSPX.setFlight_upZ fl3 fun h4 hh4 up4 => wpAny_throw (tk _ _ ?_)
        exact ⟨a, B, sI, pins, σ', H', cls, d, rfl, J, nb, (up.trans up3).trans up4, .inr (.inr (by rw [hs]; exact hh4)), na, os, ag, hno rfl⟩
      first
        | exact wpAny_bind (wpAny_pure (wpAny_bind fin))
        | exact wpAny_bind fin
  · cases f with
    | next =>
      obtain ⟨σ', H', J', q⟩ := hsp
      exact wpAny_execs_nil ⟨σ', H', J'.ofTry ok, q⟩
    | brk =>
      obtain ⟨σ', H', J', q⟩ := hsp
      exact ⟨σ', H', J'.ofTry ok, q⟩
    | cont =>
      obtain ⟨σ', H', J', q⟩ := hsp
      exact ⟨σ', H', J'.ofTry ok, q⟩
    | ret u =>
      obtain ⟨v, σ', H', J', r, q⟩ := hsp
      exact ⟨v, σ', H', J'.ofTry ok, r, q⟩
end
end L2
namespace RS
open PySem PySem.Spec PyProof.Rows L2

/-! ### isinstance, a built-in type -/
inductive Tyb where | int | bool | str | list | tuple
inductive Kd where | non | bl | int | str | tup | lst
def Tyb.x : Tyb → Str | .int => "int" | .bool => "bool" | .str => "str" | .list => "list" | .tuple => "tuple"
def Tyb.name : Tyb → String | .int => "int" | .bool => "bool" | .str => "str" | .list => "list" | .tuple => "tuple"
def Kd.name : Kd → String | .non => "NoneType" | .bl => "bool" | .int => "int" | .str => "str" | .tup => "tuple" | .lst => "list"
def Tyb.has : Tyb → Kd → Bool
  | .int, .int => true | .int, .bl => true | .bool, .bl => true | .str, .str => true | .list, .lst => true | .tuple, .tup => true
  | _, _ => false
theorem kd_ok (t : Tyb) (k : Kd) : kitB k.name t.name = some (t.has k) := by cases t <;> cases k <;> decide +kernel
theorem tyb_boot (t : Tyb) : bootBuiltins t.x = some (.type t.name) := by cases t <;> decide +kernel
def kdOf (μ : Sto) : D → Option Kd
  | .non => some .non
  | .bl _ => some .bl
  | .int _ => some .int
  | .str _ => some .str
  | .tup _ => some .tup
  | .lst _ => some .lst
  | .cell i => (cellL μ i).map fun _ => .lst
  | _ => none
theorem DV.ty {G : Gm} {ρ : Ow} {H : Hp} {μ : Sto} {d : D} {v : V} {k : Kd} (s : SRel G ρ μ H) (r : DV G ρ H d v) (e : kdOf μ d = some k) : TyX G.K H v (.type k.name) := by
  have rd : ∀ {a : Addr} {xs : List V}, Rd H a (.lst xs) → TyX G.K H (.ref a) (.type "list") := fun {a xs} h => by
    rcases h with h | ⟨o, h⟩
    · exact .base (.lst h)
    · exact .base (.frz h)
  cases r with
  | non => cases e; exact .base .non
  | bl b => cases e; exact .base (.bl b)
  | int i => cases e; exact .base (.int i)
  | str x => cases e; exact .base (.str x)
  | tup h _ =>
    cases e
    rcases h with (h | ⟨o, h⟩) | ⟨o, its, n, h, c, _⟩
    · exact .base (.tup h)
    · exact .fTuple h
    · exact .kTuple h c
  | lst h _ =>
    cases e
    rcases h with ⟨h, _⟩ | ⟨o, its, n, h, c, _⟩
    · exact rd h
    · exact .kList h c
  | cell h =>
    simp only [kdOf, Option.map_eq_some_iff] at e
    obtain ⟨ds, e1, e2⟩ := e
    subst e2
    obtain ⟨vs, h1, _⟩ := s.cell e1 h
    exact .base (.lst h1)
  | fn _ => cases e
  | exc _ _ => cases e
def isTyD (t : Tyb) (de : Vs → Sto → R D) : Vs → Sto → R D := fun env μ => (de env μ).bind fun d μ1 => opt ((kdOf μ1 d).map fun k => .bl (t.has k)) μ1
section
variable {X : Cx} {W : WX} {e a b : Expr} {es : List Expr} {pos : Pos}
theorem s_isTy (t : Tyb) {p pT : Pos} {fr : Bool} {de : Vs → Sto → R D} (he : PE X e (tE (gm X) W fr de)) (hg : Gl X "isinstance") (hm : X.mg "isinstance" = none) (hgT : Gl X t.x) (hmT : X.mg t.x = none)
    (hs : starEach [e, .Name t.x pT] X.env = (false, eval e X.env) :: starEach [.Name t.x pT] X.env) (hs2 : starEach [.Name t.x pT] X.env = (false, eval (.Name t.x pT) X.env) :: starEach [] X.env) (hpl : (backTo pos (starEach [.Name t.x pT] X.env)).any (·.1) = false) :
    PE X (.Call (.Name "isinstance" p) [e, .Name t.x pT] [] pos) (tE (gm X) W false (isTyD t de)) := by
  have hT : PE X (.Name t.x pT) (tC (.ty t.name)) := pe_bltn hgT hmT (tyb_boot t) rfl (by cases t <;> decide) (by cases t <;> decide)
  refine PE_weak (pe_callB call_isi hg hm (by decide +kernel) (pa_cons he (pa_cons hT pa_nil hs2) hs) (by decide) (by decide) hs hpl) fun σ H Q h => ?_
  obtain ⟨ρ, μ, env, s, ev, o⟩ := h
  refine tE.go s ev (Out.bind o) fun d μ1 v H1 o1 p => ?_
  obtain ⟨d', e1, q⟩ := Out.opt o1
  simp only [Option.map_eq_some_iff] at e1
  obtain ⟨k, e1, e2⟩ := e1
  subst e2
  exact ⟨v, _, _, _, _, rfl, .ty t.name, p.r.ty p.s e1, kit_ty (kd_ok t k), q _ _ (Post.back p.x (Post.here p.s (.bl _)))⟩

/-! ### isinstance of a caught exception -/
def isED (sub : Str → Option Bool) (de : Vs → Sto → R D) : Vs → Sto → R D := fun env μ => (de env μ).bind fun d μ1 => match d with
  | .exc c => opt ((sub c).map .bl) μ1
  | _ => .no
theorem excAt_un (a ca : Addr) (h : Heap) (k : excAt a ca h) : ∃ o vs, h.get? a = some o ∧ Zc (.ref ca) none o ∧ o.data = .fields vs := k
/-- a class's name as a value; what is asked of it -/
structure ClsOk (X : Cx) (x : Str) (cv : Value) : Prop where
  ex : ∃ v, RelV v cv ∧ (∀ u, RelV v u → u = cv)
  nm : Names X x cv
theorem ClsOk.pe {x : Str} {cv : Value} {pos : Pos} (h : ClsOk X x cv) : ∃ v, PE X (.Name x pos) (tC v) ∧ ∀ u, RelV v u → u = cv := by
  obtain ⟨v, r, u⟩ := h.ex
  refine ⟨v, ?_, u⟩
  obtain ⟨hg, hd, hm | ⟨hm, hv, hn⟩⟩ := h.nm
  · exact pe_glob hg hm r hd
  · exact pe_bltn hg hm hv r hn hd
theorem s_isE {x : Str} {cv : Value} {sub : Str → Option Bool} {p pT : Pos} {fr : Bool} {de : Vs → Sto → R D} (he : PE X e (tE (gm X) W fr de)) (hg : Gl X "isinstance") (hm : X.mg "isinstance" = none) (hc : ClsOk X x cv)
    (hx : ∀ c cc b, X.mg c = some (.ref cc) → sub c = some b → ExcC X.K cc ∧ PySem.W.kitOne X.K (.ref cc) cv = some b)
    (hs : starEach [e, .Name x pT] X.env = (false, eval e X.env) :: starEach [.Name x pT] X.env) (hs2 : starEach [.Name x pT] X.env = (false, eval (.Name x pT) X.env) :: starEach [] X.env) (hpl : (backTo pos (starEach [.Name x pT] X.env)).any (·.1) = false) :
    PE X (.Call (.Name "isinstance" p) [e, .Name x pT] [] pos) (tE (gm X) W false (isED sub de)) := by
  obtain ⟨cvv, hT, hu⟩ := hc.pe (pos := pT)
  refine PE_weak (pe_callB (call_isX excAt_un) hg hm (by decide +kernel) (pa_cons he (pa_cons hT pa_nil hs2) hs) (by decide) (by decide) hs hpl) fun σ H Q h => ?_
  obtain ⟨ρ, μ, env, s, ev, o⟩ := h
  refine tE.go s ev (Out.bind o) fun d μ1 v H1 o1 p => ?_
  cases d with
  | exc c =>
    obtain ⟨d', e1, q⟩ := Out.opt o1
    simp only [Option.map_eq_some_iff] at e1
    obtain ⟨b, e1, e2⟩ := e1
    subst e2
    have r := p.r
    cases r with
    | exc ha hm2 =>
      obtain ⟨hC, hk⟩ := hx _ _ _ hm2 e1
      exact ⟨_, _, _, _, _, rfl, ha, hC, hu, hk, q _ _ (Post.back p.x (Post.here p.s (.bl _)))⟩
  | _ => exact o1.elim

/-! ### try: .. except C as n: y = n -/
def keepS (i j : Nat) (sub : Str → Option Bool) (db : Vs → Sto → SR) : Vs → Sto → SR := fun env μ => match db env μ with
  | .er c env' μ' => (match sub c with
    | some true => .nx ((env'.set j (some (.exc c))).set i none) μ'
    | some false => .er c env' μ'
    | none => .no)
  | r => r
theorem EV.keep {G : Gm} {ρ : Ow} {H : Hp} {env : Vs} {σ : St} {i j : Nat} {d : D} {v u : V} (e : EV G ρ H env σ) (r : DV G ρ H d v) : EV G ρ H ((env.set j (some d)).set i none) (((σ.set i (some u)).set j (some v)).set i none) := by
  refine ⟨by simpa using e.1, fun k c h => ?_⟩
  by_cases hk : i = k
  · subst hk
    by_cases hl : i < env.length
    · rw [List.getElem?_set_self (by simpa using hl)] at h; cases h
    · rw [List.getElem?_eq_none (by simpa using hl)] at h; cases h
  · rw [List.getElem?_set_ne hk] at h
    rw [List.getElem?_set_ne hk]
    by_cases q : j = k
    · subst q
      have hl : j < env.length := by
        have := (List.getElem?_eq_some_iff.mp h).1
        simpa using this
      rw [List.getElem?_set_self hl] at h
      cases h
      exact ⟨v, List.getElem?_set_self (by simpa [← e.1] using hl), r⟩
    · rw [List.getElem?_set_ne q] at h
      rw [List.getElem?_set_ne q, List.getElem?_set_ne hk]
      exact e.2 k c h
theorem s_keep {x n y : Str} {cv : Value} {i j : Nat} {body : List Stmt} {np np2 py pos' pos2 : Pos} {sub : Str → Option Bool} {db : Vs → Sto → SR} (hex : X.ex = []) (hs : X.stack = X.env :: X.outer) (hf : X.env.frame = some X.env.locals) (hN : X.N.Nodup) (hi : X.N[i]? = some n) (hln : X.env.kindOf n = some .local)
    (hj : X.N[j]? = some y) (hy : Loc X.env.scope y) (hfy : X.fn y = true ∨ X.env.scope.names.lookup y = some .local) (hvn : Vis X.env.scope n) (hnd : (n == ("__debug__" : Str)) = false) (hnc : (n == ("__classdict__" : Str)) = false) (hij : i < X.N.length) (hc : Names X x cv) (tk : Takes X W)
    (hx : ∀ c cc b, X.mg c = some (.ref cc) → sub c = some b → PySem.W.exmOne X.K (.ref cc) cv = some b)
    (hb : ∀ (W : WX) (pn : List (Addr × Obj)) (xe : Value → Shared → Prop), Takes (X.tr pn xe) W → PassesOwn (model X.prog X.w) X.A X.env xe → PSs (X.tr pn xe) body (tS (gm X) W db))
    (hsw : swapsWith (.Name n np2) (some (.Name y py)) pos2.line X.env = pure false) :
    PS X (.Try body [.ExceptHandler (some (.Name x np)) (some n) [.Assign [.Name y py] (.Name n np2) pos2] pos'] [] [] pos) (tS (gm X) W (keepS i j sub db)) := by
  refine PS_weak (ps_try_keep (φ := excAt) (tb := fun W => tS (gm X) W db) (fun a ca h o vs h1 h2 h3 => ⟨o, vs, h1, h2, h3⟩) (fun a ca h1 h2 ⟨o, vs, q1, q2, q3⟩ k => ⟨o, vs, k _ q1, q2, q3⟩) hex hs hf hN hi hln hj hy hfy hvn hnd hnc hij hc tk hb hsw) fun D σ H h => ?_
  obtain ⟨ρ, μ, env, s, ev, o⟩ := h
  refine ⟨ρ, μ, env, s, ev, ?_⟩
  unfold keepS at o
  cases e : db env μ with
  | nx e1 μ1 => rw [e] at o; exact o
  | rt d f μ1 => rw [e] at o; exact o
  | no => rw [e] at o; exact o
  | er c env' μ' =>
    rw [e] at o
    intro ca ρ' σ' H' hm g s' ev'
    cases e2 : sub c with
    | none => simp only [e2] at o; exact o.elim
    | some b =>
      simp only [e2] at o
      refine ⟨b, hx c ca b hm e2, fun hb1 => ?_, fun hb1 => ?_⟩
      · subst hb1
        refine ⟨ca, rfl, rfl, fun a na => ?_⟩
        have gg : Gr H' (upd H' a (.ext (excAt a ca))) := Gr.new na
        have g2 : Go ρ H ρ' (upd H' a (.ext (excAt a ca))) := g.trans (.of gg.ext)
        exact o ρ' _ _ g2 (s'.gr gg) (EV.keep (ev'.ext gg.ext) (.exc upd_same hm))
      · subst hb1
        exact o ca ρ' σ' H' hm g s' ev'
end
end RS

/-! The R road, part m: the module's facts by names, the head's look, the law's end. -/
namespace RS
open PySem PySem.Spec PyProof.Rows L2

/-- a table by names -/
def tl : List (Str × Bool) → Str → Option Bool
  | [], _ => none
  | (a, b) :: r, c => if c = a then some b else tl r c
theorem tl_mem {c : Str} {b : Bool} : ∀ {l : List (Str × Bool)}, tl l c = some b → (c, b) ∈ l
  | [], h => by cases h
  | (a, b') :: r, h => by
    unfold tl at h
    split at h
    · rename_i e
      cases h; subst e
      exact List.mem_cons_self
    · exact List.mem_cons_of_mem _ (tl_mem h)
inductive Fc where
  | glo (x : Str)
  | free (x : Str)
  | exc (x : Str)
  | isE (x : Str) (l : List (Str × Bool))
  | isT (T : String) (l : List (Str × Bool))
  | exm (x : Str) (l : List (Str × Bool))
  | tup (x : Str) (vs : List He.Dv)
def excCB (K : PySem.W.Frag) (D : Addr) : Bool :=
  He.eqO (PySem.W.findIn K (.ref D) "__getattribute__") (some (some (.builtin "BaseException.__getattribute__"))) && (He.eqO (PySem.W.findIn K (.ref D) "__getattr__") (some none) && (decide (PySem.W.subIn K (.ref D) (.type "BaseException") = some true) &&
    (PySem.W.hasDictIn K D && (He.eqO (PySem.W.findIn K (.ref D) "__class__") (some (some (.builtin "object.__class__"))) && (He.eqO (PySem.W.specialIn K (.builtin "object.__class__") "__get__") (some (some (.builtin "getset_descriptor.__get__"))) &&
      (decide (PySem.W.takesIn K (.builtin "object.__class__") = some true) && decide (PySem.W.mroIn K D (.type "object") = some true)))))))
theorem excCB_ok {K : PySem.W.Frag} {D : Addr} (h : excCB K D = true) : ExcC K D := by
  obtain ⟨h1, h⟩ := He.ba h
  obtain ⟨h2, h⟩ := He.ba h
  obtain ⟨h3, h⟩ := He.ba h
  obtain ⟨h4, h⟩ := He.ba h
  obtain ⟨h5, h⟩ := He.ba h
  obtain ⟨h6, h⟩ := He.ba h
  obtain ⟨h7, h8⟩ := He.ba h
  exact ⟨He.eqO_ok h1, He.eqO_ok h2, of_decide_eq_true h3, h4, He.eqO_ok h5, He.eqO_ok h6, of_decide_eq_true h7, of_decide_eq_true h8⟩
def isB (K : PySem.W.Frag) (cv : Value) (p : Str × Bool) : Bool := (He.Fa.glo p.1).ok K && (excCB K (He.ga K p.1) && decide (PySem.W.kitOne K (.ref (He.ga K p.1)) cv = some p.2))
def Fc.ok (K : PySem.W.Frag) : Fc → Bool
  | .glo x => (He.Fa.glo x).ok K
  | .free x => (He.Fa.free x).ok K
  | .exc x => (He.Fa.glo x).ok K && (He.Fa.exc x).ok K
  | .isE x l => (He.Fa.glo x).ok K && l.all (isB K (.ref (He.ga K x)))
  | .isT T l => l.all (isB K (.type T))
  | .exm x l => (He.Fa.glo x).ok K && l.all fun p => (He.Fa.glo p.1).ok K && decide (PySem.W.exmOne K (.ref (He.ga K p.1)) (.ref (He.ga K x)) = some p.2)
  | .tup x vs => (He.Fa.glo x).ok K && He.tupB K x vs
/-- the meaning -/
def Fc.holds (K : PySem.W.Frag) (mg : Str → Option Value) : Fc → Prop
  | .glo x => mg x = some (.ref (He.ga K x))
  | .free x => mg x = none
  | .exc x => mg x = some (.ref (He.ga K x)) ∧ PySem.W.excIn K (He.ga K x) He.veBase "ValueError.__new__" = true ∧ PySem.W.keepIn K (.ref (He.ga K x)) = true ∧ PySem.W.subIn K (.ref (He.ga K x)) (.type "BaseException") = some true ∧ PySem.W.typeIn K (.ref (He.ga K x)) = some (.type "type")
  | .isE x l => mg x = some (.ref (He.ga K x)) ∧ ∀ c cc b, mg c = some (.ref cc) → tl l c = some b → ExcC K cc ∧ PySem.W.kitOne K (.ref cc) (.ref (He.ga K x)) = some b
  | .isT T l => ∀ c cc b, mg c = some (.ref cc) → tl l c = some b → ExcC K cc ∧ PySem.W.kitOne K (.ref cc) (.type T) = some b
  | .exm x l => mg x = some (.ref (He.ga K x)) ∧ ∀ c cc b, mg c = some (.ref cc) → tl l c = some b → PySem.W.exmOne K (.ref cc) (.ref (He.ga K x)) = some b
  | .tup x vs => mg x = some (.ref (He.ga K x)) ∧ ∀ H, SqT K H (He.ga K x) (vs.map (He.Dv.v K))
section
variable {K : PySem.W.Frag} {h : Heap} {mg : Str → Option Value}
theorem isB_ok (X : K.In h) (G : h.Ns mainGlobals mg) {cv : Value} {l : List (Str × Bool)} (q : l.all (isB K cv) = true) : ∀ c cc b, mg c = some (.ref cc) → tl l c = some b → ExcC K cc ∧ PySem.W.kitOne K (.ref cc) cv = some b := fun c cc b hm e => by
  have q := List.all_eq_true.mp q _ (tl_mem e)
  obtain ⟨q1, q⟩ := He.ba q
  obtain ⟨q2, q3⟩ := He.ba q
  have := He.glo_ok X G q1
  rw [hm] at this
  cases this
  exact ⟨excCB_ok q2, of_decide_eq_true q3⟩
theorem Fc.sound (X : K.In h) (G : h.Ns mainGlobals mg) : ∀ {f : Fc}, f.ok K = true → f.holds K mg
  | .glo _, q => He.glo_ok X G q
  | .free _, q => He.free_ok X G q
  | .exc _, q => ⟨He.glo_ok X G (He.ba q).1, He.exc_ok (He.ba q).2⟩
  | .isE _ _, q => ⟨He.glo_ok X G (He.ba q).1, isB_ok X G (He.ba q).2⟩
  | .isT _ _, q => isB_ok X G q
  | .exm _ _, q => ⟨He.glo_ok X G (He.ba q).1, fun c cc b hm e => by
    have q := List.all_eq_true.mp (He.ba q).2 _ (tl_mem e)
    obtain ⟨q1, q2⟩ := He.ba q
    have := He.glo_ok X G q1
    rw [hm] at this
    cases this
    exact of_decide_eq_true q2⟩
  | .tup _ _, q => ⟨He.glo_ok X G (He.ba q).1, fun H => He.tupB_ok (He.ba q).2 H⟩
end
/-! ### the head's look -/
def refsR (o : Obj) : List Addr := match o.data with
  | .seq its _ => its.toList.flatMap He.refV
  | .dict es _ => es.toList.flatMap fun e => He.refV e.val
  | .func fd => He.refV fd.code
  | .cls cd => [cd.ns]
  | _ => []
def lvR (g : Addr → Option Obj) (as : List Addr) : List Addr := as.flatMap fun a => match g a with
  | some o => refsR o
  | none => []
def asR (g : Addr → Option Obj) : List Addr :=
  let l1 := lvR g [mainGlobals]
  let l2 := lvR g l1
  let l3 := lvR g l2
  mainGlobals :: (l1 ++ (l2 ++ (l3 ++ lvR g l3)))
def defOk (K : PySem.W.Frag) (d : He.DefD) : Bool := (He.Fa.glo d.at_.1).ok K && (decide (d.at_.2 = none) && d.ok K)
def obsR (fa : List Fc) (fn : List He.DefD) (K : PySem.W.Frag) : He.AlD := ((fa.all fun f => f.ok K) && fn.all (defOk K), fn.map fun d => He.fnW K d.at_)
def SaysR (fa : List Fc) (fn : List He.DefD) (K : PySem.W.Frag) : Prop := obsR fa fn K = He.valD fn
def obsRG (fa : List Fc) (fn : List He.DefD) (g : Addr → Option Obj) : He.AlD := obsR fa fn (He.frG g (asR g))
def hookR (fa : List Fc) (fn : List He.DefD) : PySem.W.Hook where
  α := He.AlD
  obs := fun s => obsRG fa fn s.heap.get?
  val := fun _ => He.valD fn
  says := fun _ h => ∃ K : PySem.W.Frag, K.In h ∧ SaysR fa fn K
  of := fun _ _ e => ⟨_, He.frG_in, e⟩
  keeps := fun _ _ _ ⟨K, hK, c⟩ k => ⟨K, PySem.W.Frag.In.keeps hK k, c⟩
theorem obsRG_eq {fa : List Fc} {fn : List He.DefD} {g : Addr → Option Obj} {s : Shared} (h : ∀ a, g a = s.heap.get? a) : obsRG fa fn g = (hookR fa fn).obs s := by
  have e : g = s.heap.get? := funext h
  rw [e] <;> rfl
/-- all that is said of the module -/
structure Md (fa : List Fc) (fn : List He.DefD) (K : PySem.W.Frag) (mg : Str → Option Value) : Prop where
  f : ∀ (i : Nat) (f : Fc), fa[i]? = some f → f.holds K mg
  d : ∀ (i : Nat) (d : He.DefD), fn[i]? = some d → ∃ (a : Addr) (fd : FuncData), FunD K d.name d.qual d.params d.body d.scope (d.dvs K) (d.kws K) a fd ∧ mg d.at_.1 = some (.ref a)
theorem SaysR.md {fa : List Fc} {fn : List He.DefD} {K : PySem.W.Frag} {h : Heap} {mg : Str → Option Value} (c : SaysR fa fn K) (X : K.In h) (G : h.Ns mainGlobals mg) : Md fa fn K mg := by
  have c1 := He.ba (show ((fa.all fun f => f.ok K) && fn.all (defOk K)) = true from congrArg (fun z : He.AlD => z.1) c)
  refine ⟨fun i f e => Fc.sound X G (List.all_eq_true.mp c1.1 f (List.mem_of_getElem? e)), fun i d e => ?_⟩
  obtain ⟨d1, d2⟩ := He.ba (List.all_eq_true.mp c1.2 d (List.mem_of_getElem? e))
  obtain ⟨d2, d3⟩ := He.ba d2
  have e0 : fn.map (fun d => He.fnW K d.at_) = fn.map He.DefD.val := congrArg (fun z : He.AlD => z.2) c
  have e2 : (fn.map fun d => He.fnW K d.at_)[i]? = (fn.map He.DefD.val)[i]? := by rw [e0]
  rw [List.getElem?_map, List.getElem?_map, e] at e2
  obtain ⟨fd, F⟩ := He.DefD.funD (Option.some.inj e2) d3
  have ha : He.fAd K d.at_ = He.ga K d.at_.1 := by
    unfold He.fAd
    rw [of_decide_eq_true d2]
  rw [ha] at F
  exact ⟨_, fd, F, He.glo_ok X G d1⟩

/-! ### a def's promise, the law's end -/
theorem FnOk.calm {P : Program} {w : World} {K : PySem.W.Frag} {mg : Str → Option Value} {base : Heap} {k : Nat} {f : Addr} {fd : FuncData} {ps : List Str} {sp : Sp} (F : FnOk P w K mg base (L2.CX P w) k f fd ps sp) (sp' : Sp) (hl : ∀ vs H Q E, sp' vs H Q E → sp vs H Q fun _ _ _ => False) : FnOk P w K mg base CX0 k f fd ps sp' :=
  ⟨fun vs H Q E q => F.len vs H Q _ (hl _ _ _ _ q), fun A outer s H args us vs Q E hr he hb hv hs => codeAny_mono (F.run A outer s H args us vs Q (fun _ _ _ => False) hr he hb hv (hl _ _ _ _ hs)) fun r s' hcr => by
    cases r with
    | ok o => cases o with
      | ret v => exact hcr
      | _ => exact hcr
    | error e =>
      obtain ⟨_, _, _, _, _, _, _, _, _, _, _, _, z⟩ := hcr
      exact z.elim⟩
/-- the law's promise from its plain law -/
def spLaw (K : PySem.W.Frag) (most : Nat) : Sp := fun vs H Q _ => ∃ (a : Addr) (ns : List Int), vs = [.ref a] ∧ ns.length ≤ most ∧ SqL K H a (ns.map V.int) ∧ ∀ H', Q (.bl true) H'
theorem DVs.ofInt {G : Gm} {ρ : Ow} {H : Hp} : ∀ ns : List Int, DVs G ρ H (ns.map .int) (ns.map V.int)
  | [] => .nil
  | _ :: ns => .cons (.int _) (DVs.ofInt ns)
theorem law_sp {K : PySem.W.Frag} {mg : Str → Option Value} {most : Nat} {fr : Bool} {den : List D → Sto → R D} (hl : ∀ ns : List Int, ns.length ≤ most → ∃ μ, den [.lst (ns.map .int)] [] = .ok (.bl true) μ) {vs : List V} {H : Hp} {Q : VK} {E : XK} (h : spLaw K most vs H Q E) :
    spOf ⟨K, mg⟩ 1 fr den vs H Q fun _ _ _ => False := by
  obtain ⟨a, ns, rfl, hn, hS, q⟩ := h
  obtain ⟨μ, e⟩ := hl ns hn
  refine ⟨rfl, ⟨[], [], fun a h => h⟩, [], [.lst (ns.map .int)], ⟨rfl, List.nodup_nil, fun i c h => by simp at h, fun a m => by cases m⟩, .cons (.lst ?_ (DVs.ofInt ns)) .nil, ?_⟩
  · rcases hS with h | h
    · exact .inl ⟨h, fun m => by cases m⟩
    · exact .inr h
  · rw [e]
    intro v H' p
    have r := p.r
    cases r
    exact q H'
end RS

/-! The R road, part n: operators, one word each. -/
namespace RS
open PySem PySem.Spec PyProof.Rows L2

def subG (_ : Sto) (x y : D) : Option D := match x, y with
  | .int i, .int j => some (.int (i - j))
  | _, _ => none
def mulG (_ : Sto) (x y : D) : Option D := match x, y with
  | .int i, .int j => if mulOk i j then some (.int (i * j)) else none
  | _, _ => none
def modG (_ : Sto) (x y : D) : Option D := match x, y with
  | .int i, .int j => if j = 0 then none else some (.int (i.fmod j))
  | _, _ => none
def fdivG (_ : Sto) (x y : D) : Option D := match x, y with
  | .int i, .int j => if j = 0 ∨ Builtin.divisionGoesByPylong i j = true then none else some (.int (i.fdiv j))
  | _, _ => none
def powG (_ : Sto) (x y : D) : Option D := match x, y with
  | .int i, .int j => if 0 ≤ j ∧ j ≤ 1000000 ∧ i.natAbs < 2 ^ 64 then some (.int (i ^ j.toNat)) else none
  | _, _ => none
def shlG (_ : Sto) (x y : D) : Option D := match x, y with
  | .int i, .int j => if 0 ≤ j ∧ j ≤ 1000000 ∧ i.natAbs < 2 ^ 64 then some (.int (i * 2 ^ j.toNat)) else none
  | _, _ => none
def cmpG (p : Int → Int → Bool) (_ : Sto) (x y : D) : Option D := match x, y with
  | .int i, .int j => some (.bl (p i j))
  | _, _ => none
def ltG : Sto → D → D → Option D := cmpG fun i j => decide (i < j)
def leG : Sto → D → D → Option D := cmpG fun i j => decide (i ≤ j)
def gtG : Sto → D → D → Option D := cmpG fun i j => decide (j < i)
def geG : Sto → D → D → Option D := cmpG fun i j => decide (j ≤ i)
def eqG (μ : Sto) (x y : D) : Option D := blO (eqD μ x y)
def neG (μ : Sto) (x y : D) : Option D := blO ((eqD μ x y).map (!·))
def isG (_ : Sto) (x y : D) : Option D := if isN y then some (.bl (isN x)) else none
def isnG (_ : Sto) (x y : D) : Option D := if isN y then some (.bl (!isN x)) else none
def inG (μ : Sto) (x y : D) : Option D := blO (inLD μ x y)
def ninG (μ : Sto) (x y : D) : Option D := blO ((inLD μ x y).map (!·))
def inSG (_ : Sto) (x y : D) : Option D := blO (inSD x y)
def ixG (μ : Sto) (x y : D) : Option D := (ixSeq μ x y).orElse fun _ => ixTxt x y
def negD (de : Vs → Sto → R D) : Vs → Sto → R D := fun env μ => (de env μ).bind fun d μ1 => match d with
  | .int i => .ok (.int (-i)) μ1
  | _ => .no
section
variable {G : Gm}
theorem opi {g : Int → Int → D} {C : Int → Int → Prop} {v : Int → Int → V} {f : Sto → D → D → Option D} {fr : Bool} (hv : ∀ i j ρ H, DV G ρ H (g i j) (v i j)) (hn : ∀ i j ds, g i j ≠ .lst ds)
    (hf : ∀ μ x y d, f μ x y = some d → ∃ i j, x = .int i ∧ y = .int j ∧ C i j ∧ d = g i j) : OpS G fr (rI C v) f := by
  intro ρ μ H x y dx dy d Q s rx ry e k
  obtain ⟨i, j, rfl, rfl, hc, rfl⟩ := hf μ dx dy d e
  cases rx
  cases ry
  exact ⟨i, j, rfl, rfl, hc, k _ H (.flat s (hv i j ρ H) (hn i j))⟩
theorem opi0 {g : Int → Int → D} {v : Int → Int → V} {f : Sto → D → D → Option D} {fr : Bool} (hv : ∀ i j ρ H, DV G ρ H (g i j) (v i j)) (hn : ∀ i j ds, g i j ≠ .lst ds)
    (hf : ∀ μ x y d, f μ x y = some d → ∃ i j, x = .int i ∧ y = .int j ∧ d = g i j) : OpS G fr (rI0 v) f := by
  intro ρ μ H x y dx dy d Q s rx ry e k
  obtain ⟨i, j, rfl, rfl, rfl⟩ := hf μ dx dy d e
  cases rx
  cases ry
  exact ⟨i, j, rfl, rfl, k _ H (.flat s (hv i j ρ H) (hn i j))⟩
theorem ops_sub : OpS G false (rI0 fun i j => .int (i - j)) subG := opi0 (g := fun i j => .int (i - j)) (fun _ _ _ _ => .int _) (fun _ _ _ z => by cases z) fun μ x y d e => by
  unfold subG at e; split at e
  · cases e; exact ⟨_, _, rfl, rfl, rfl⟩
  · cases e
theorem ops_mul : OpS G false (rI (fun i j => mulOk i j = true) fun i j => .int (i * j)) mulG := opi (g := fun i j => .int (i * j)) (fun _ _ _ _ => .int _) (fun _ _ _ z => by cases z) fun μ x y d e => by
  unfold mulG at e; split at e
  · split at e
    · rename_i h; cases e; exact ⟨_, _, rfl, rfl, h, rfl⟩
    · cases e
  · cases e
theorem ops_mod : OpS G false (rI (fun _ j => j ≠ 0) fun i j => .int (i.fmod j)) modG := opi (g := fun i j => .int (i.fmod j)) (fun _ _ _ _ => .int _) (fun _ _ _ z => by cases z) fun μ x y d e => by
  unfold modG at e; split at e
  · split at e
    · cases e
    · rename_i h; cases e; exact ⟨_, _, rfl, rfl, h, rfl⟩
  · cases e
theorem ops_fdiv : OpS G false (rI (fun i j => j ≠ 0 ∧ Builtin.divisionGoesByPylong i j = false) fun i j => .int (i.fdiv j)) fdivG := opi (g := fun i j => .int (i.fdiv j)) (fun _ _ _ _ => .int _) (fun _ _ _ z => by cases z) fun μ x y d e => by
  unfold fdivG at e; split at e
  · split at e
    · cases e
    · rename_i h; cases e; exact ⟨_, _, rfl, rfl, ⟨fun z => h (.inl z), by simpa using fun z => h (.inr z)⟩, rfl⟩
  · cases e
theorem ops_pow : OpS G false (rI CPow fun i j => .int (i ^ j.toNat)) powG := opi (g := fun i j => .int (i ^ j.toNat)) (fun _ _ _ _ => .int _) (fun _ _ _ z => by cases z) fun μ x y d e => by
  unfold powG at e; split at e
  · split at e
    · rename_i h; cases e; exact ⟨_, _, rfl, rfl, h, rfl⟩
    · cases e
  · cases e
theorem ops_shl : OpS G false (rI CPow fun i j => .int (i * 2 ^ j.toNat)) shlG := opi (g := fun i j => .int (i * 2 ^ j.toNat)) (fun _ _ _ _ => .int _) (fun _ _ _ z => by cases z) fun μ x y d e => by
  unfold shlG at e; split at e
  · split at e
    · rename_i h; cases e; exact ⟨_, _, rfl, rfl, h, rfl⟩
    · cases e
  · cases e
theorem ops_cmp {p : Int → Int → Bool} : OpS G false (rI0 fun i j => .bl (p i j)) (cmpG p) := ops_cmpI fun μ x y d e => by
  unfold cmpG at e; split at e
  · cases e; exact ⟨_, _, rfl, rfl, rfl⟩
  · cases e
end
section
variable {X : Cx} {W : WX} {e a b : Expr} {pos : Pos} {fr1 fr2 : Bool} {da db : Vs → Sto → R D}
theorem e_add (ha : PE X a (tE (gm X) W fr1 da)) (hb : PE X b (tE (gm X) W fr2 db)) : PE X (.BinOp a .Add b pos) (tE (gm X) W true (bin2 addAll da db)) := s_op op_addAll ops_add ha hb
theorem e_sub (ha : PE X a (tE (gm X) W fr1 da)) (hb : PE X b (tE (gm X) W fr2 db)) : PE X (.BinOp a .Sub b pos) (tE (gm X) W false (bin2 subG da db)) := s_op op_sub ops_sub ha hb
theorem e_mul (ha : PE X a (tE (gm X) W fr1 da)) (hb : PE X b (tE (gm X) W fr2 db)) : PE X (.BinOp a .Mult b pos) (tE (gm X) W false (bin2 mulG da db)) := s_op op_mulB ops_mul ha hb
theorem e_mod (ha : PE X a (tE (gm X) W fr1 da)) (hb : PE X b (tE (gm X) W fr2 db)) : PE X (.BinOp a .Mod b pos) (tE (gm X) W false (bin2 modG da db)) := s_op op_modN ops_mod ha hb
theorem e_fdiv (ha : PE X a (tE (gm X) W fr1 da)) (hb : PE X b (tE (gm X) W fr2 db)) : PE X (.BinOp a .FloorDiv b pos) (tE (gm X) W false (bin2 fdivG da db)) := s_op op_fdivB ops_fdiv ha hb
theorem e_pow (ha : PE X a (tE (gm X) W fr1 da)) (hb : PE X b (tE (gm X) W fr2 db)) : PE X (.BinOp a .Pow b pos) (tE (gm X) W false (bin2 powG da db)) := s_op op_pow ops_pow ha hb
theorem e_shl (ha : PE X a (tE (gm X) W fr1 da)) (hb : PE X b (tE (gm X) W fr2 db)) : PE X (.BinOp a .LShift b pos) (tE (gm X) W false (bin2 shlG da db)) := s_op op_shl ops_shl ha hb
theorem e_ix (hp : PlainIx b) (ha : PE X a (tE (gm X) W fr1 da)) (hb : PE X b (tE (gm X) W fr2 db)) : PE X (.Subscript a b pos) (tE (gm X) W false (bin2 ixG da db)) := s_ix ix_seq ops_ix ha hb hp
theorem e_neg (ha : PE X a (tE (gm X) W fr1 da)) : PE X (.UnaryOp .USub a pos) (tE (gm X) W false (negD da)) := by
  refine PE_weak (pe_un un_neg ha) fun σ H Q h => ?_
  obtain ⟨ρ, μ, env, s, ev, o⟩ := h
  refine tE.go s ev (Out.bind o) fun d μ1 v H1 o1 p => ?_
  cases d with
  | int i =>
    have r := p.r
    cases r
    exact ⟨i, rfl, o1 _ _ (Post.back p.x (Post.here p.s (.int _)))⟩
  | _ => exact o1.elim
theorem e_lt (ha : PE X a (tE (gm X) W fr1 da)) (hb : PE X b (tE (gm X) W fr2 db)) : PE X (.Compare a [.Lt] [b] pos) (tE (gm X) W false (bin2 ltG da db)) := s_cmp op_lt ops_cmp ha hb (nomark b)
theorem e_le (ha : PE X a (tE (gm X) W fr1 da)) (hb : PE X b (tE (gm X) W fr2 db)) : PE X (.Compare a [.LtE] [b] pos) (tE (gm X) W false (bin2 leG da db)) := s_cmp op_le ops_cmp ha hb (nomark b)
theorem e_gt (ha : PE X a (tE (gm X) W fr1 da)) (hb : PE X b (tE (gm X) W fr2 db)) : PE X (.Compare a [.Gt] [b] pos) (tE (gm X) W false (bin2 gtG da db)) := s_cmp op_gt ops_cmp ha hb (nomark b)
theorem e_ge (ha : PE X a (tE (gm X) W fr1 da)) (hb : PE X b (tE (gm X) W fr2 db)) : PE X (.Compare a [.GtE] [b] pos) (tE (gm X) W false (bin2 geG da db)) := s_cmp op_ge ops_cmp ha hb (nomark b)
theorem e_is (ha : PE X a (tE (gm X) W fr1 da)) (hb : PE X b (tE (gm X) W fr2 db)) : PE X (.Compare a [.Is] [b] pos) (tE (gm X) W false (bin2 isG da db)) := s_cmp op_isN ops_is ha hb (nomark b)
theorem e_isn (ha : PE X a (tE (gm X) W fr1 da)) (hb : PE X b (tE (gm X) W fr2 db)) : PE X (.Compare a [.IsNot] [b] pos) (tE (gm X) W false (bin2 isnG da db)) := s_cmp op_notN ops_isnot ha hb (nomark b)
theorem e_eq {k : Nat} (hr : Room k X.A) (ha : PE X a (tE (gm X) W fr1 da)) (hb : PE X b (tE (gm X) W fr2 db)) : PE X (.Compare a [.Eq] [b] pos) (tE (gm X) W false (bin2 eqG da db)) := s_cmp (op_eqD hr.units) ops_eq ha hb (nomark b)
theorem e_ne {k : Nat} (hr : Room k X.A) (ha : PE X a (tE (gm X) W fr1 da)) (hb : PE X b (tE (gm X) W fr2 db)) : PE X (.Compare a [.NotEq] [b] pos) (tE (gm X) W false (bin2 neG da db)) := s_cmp (op_neD hr.units) ops_ne ha hb (nomark b)
theorem units65 {k : Nat} {A : Around} (hr : Room k A) : A.units + 65 < cLine := by have := hr.un; have := hr.units; omega
theorem e_in {k : Nat} (hr : Room k X.A) (hm : behindInMarks .In b = false) (ha : PE X a (tE (gm X) W fr1 da)) (hb : PE X b (tE (gm X) W fr2 db)) : PE X (.Compare a [.In] [b] pos) (tE (gm X) W false (bin2 inG da db)) := s_cmp (op_inD (units65 hr)) ops_inL ha hb hm
theorem e_nin {k : Nat} (hr : Room k X.A) (hm : behindInMarks .NotIn b = false) (ha : PE X a (tE (gm X) W fr1 da)) (hb : PE X b (tE (gm X) W fr2 db)) : PE X (.Compare a [.NotIn] [b] pos) (tE (gm X) W false (bin2 ninG da db)) := s_cmp (op_notInD (units65 hr)) ops_ninL ha hb hm
theorem bl_cmp {p : Int → Int → Bool} : ∀ μ x y d, cmpG p μ x y = some d → ∃ k, d = .bl k := fun μ x y d e => by
  unfold cmpG at e; split at e
  · cases e; exact ⟨_, rfl⟩
  · cases e
theorem bl_O {f : Sto → D → D → Option Bool} : ∀ μ x y d, blO (f μ x y) = some d → ∃ k, d = .bl k := fun μ x y d e => by
  simp only [blO, Option.map_eq_some_iff] at e
  obtain ⟨b, _, rfl⟩ := e
  exact ⟨_, rfl⟩
theorem bl_is {f : D → Bool} : ∀ (μ : Sto) x y d, (if isN y then some (D.bl (f x)) else none) = some d → ∃ k, d = .bl k := fun μ x y d e => by
  split at e
  · cases e; exact ⟨_, rfl⟩
  · cases e
theorem c_lt (ha : PE X a (tE (gm X) W fr1 da)) (hb : PE X b (tE (gm X) W fr2 db)) : PT X (.Compare a [.Lt] [b] pos) (tT (gm X) W (trD (bin2 ltG da db))) := t_cmp op_lt ops_cmp bl_cmp ha hb (nomark b)
theorem c_le (ha : PE X a (tE (gm X) W fr1 da)) (hb : PE X b (tE (gm X) W fr2 db)) : PT X (.Compare a [.LtE] [b] pos) (tT (gm X) W (trD (bin2 leG da db))) := t_cmp op_le ops_cmp bl_cmp ha hb (nomark b)
theorem c_gt (ha : PE X a (tE (gm X) W fr1 da)) (hb : PE X b (tE (gm X) W fr2 db)) : PT X (.Compare a [.Gt] [b] pos) (tT (gm X) W (trD (bin2 gtG da db))) := t_cmp op_gt ops_cmp bl_cmp ha hb (nomark b)
theorem c_ge (ha : PE X a (tE (gm X) W fr1 da)) (hb : PE X b (tE (gm X) W fr2 db)) : PT X (.Compare a [.GtE] [b] pos) (tT (gm X) W (trD (bin2 geG da db))) := t_cmp op_ge ops_cmp bl_cmp ha hb (nomark b)
theorem c_is (ha : PE X a (tE (gm X) W fr1 da)) (hb : PE X b (tE (gm X) W fr2 db)) : PT X (.Compare a [.Is] [b] pos) (tT (gm X) W (trD (bin2 isG da db))) := t_cmp op_isN ops_is bl_is ha hb (nomark b)
theorem c_isn (ha : PE X a (tE (gm X) W fr1 da)) (hb : PE X b (tE (gm X) W fr2 db)) : PT X (.Compare a [.IsNot] [b] pos) (tT (gm X) W (trD (bin2 isnG da db))) := t_cmp op_notN ops_isnot (bl_is (f := fun x => !isN x)) ha hb (nomark b)
theorem c_eq {k : Nat} (hr : Room k X.A) (ha : PE X a (tE (gm X) W fr1 da)) (hb : PE X b (tE (gm X) W fr2 db)) : PT X (.Compare a [.Eq] [b] pos) (tT (gm X) W (trD (bin2 eqG da db))) := t_cmp (op_eqD hr.units) ops_eq (bl_O (f := eqD)) ha hb (nomark b)
theorem c_ne {k : Nat} (hr : Room k X.A) (ha : PE X a (tE (gm X) W fr1 da)) (hb : PE X b (tE (gm X) W fr2 db)) : PT X (.Compare a [.NotEq] [b] pos) (tT (gm X) W (trD (bin2 neG da db))) := t_cmp (op_neD hr.units) ops_ne (bl_O (f := fun μ x y => (eqD μ x y).map (!·))) ha hb (nomark b)
theorem c_in {k : Nat} (hr : Room k X.A) (hm : behindInMarks .In b = false) (ha : PE X a (tE (gm X) W fr1 da)) (hb : PE X b (tE (gm X) W fr2 db)) : PT X (.Compare a [.In] [b] pos) (tT (gm X) W (trD (bin2 inG da db))) := t_cmp (op_inD (units65 hr)) ops_inL (bl_O (f := inLD)) ha hb hm
theorem c_nin {k : Nat} (hr : Room k X.A) (hm : behindInMarks .NotIn b = false) (ha : PE X a (tE (gm X) W fr1 da)) (hb : PE X b (tE (gm X) W fr2 db)) : PT X (.Compare a [.NotIn] [b] pos) (tT (gm X) W (trD (bin2 ninG da db))) := t_cmp (op_notInD (units65 hr)) ops_ninL (bl_O (f := fun μ x y => (inLD μ x y).map (!·))) ha hb hm
/-! constants -/
def conD (d : D) : Vs → Sto → R D := fun _ μ => .ok d μ
theorem k_int {i : Int} {k : Nat} : PE X (.Constant (.int i) k pos) (tE (gm X) W false (conD (.int i))) := s_con pe_int fun _ _ => .int i
theorem k_str {i : Str} {k : Nat} : PE X (.Constant (.str i) k pos) (tE (gm X) W false (conD (.str i))) := s_con pe_str fun _ _ => .str i
theorem k_bl {i : Bool} {k : Nat} : PE X (.Constant (.bool i) k pos) (tE (gm X) W false (conD (.bl i))) := s_con pe_bl fun _ _ => .bl i
theorem k_non {k : Nat} : PE X (.Constant .none k pos) (tE (gm X) W false (conD .non)) := s_con pe_non fun _ _ => .non
theorem k_glo {x : Str} {a : Addr} {d : D} (hg : Gl X x) (hd : (x == ("__debug__" : Str)) = false) (hm : X.mg x = some (.ref a)) (h : ∀ ρ H, DV (gm X) ρ H d (.ref a)) : PE X (.Name x pos) (tE (gm X) W false (conD d)) := s_con (v := .ref a) (pe_glob (v := .ref a) hg hm rfl hd) h
def tupD (da : Vs → Sto → R (List D)) : Vs → Sto → R D := fun env μ => (da env μ).bind fun ds μ' => if ds.length ≤ sizeLine then .ok (.tup ds) μ' else .no
def lstD (da : Vs → Sto → R (List D)) : Vs → Sto → R D := fun env μ => (da env μ).bind fun ds μ' => if ds.length ≤ sizeLine then .ok (.lst ds) μ' else .no
end
end RS

/-! The R road, part o: words for a printed walk. -/
namespace RS
open PySem PySem.Spec PyProof.Rows L2

/-- fuel for every loop here -/
def msA (env : Vs) (_ : Sto) : Nat := (env.foldl (fun n o => match o with
  | some (.int i) => n + i.natAbs
  | _ => n) 0) + 2
theorem tk0 {X : Cx} : Takes X W0 := fun _ _ ⟨_, _, _, _, _, _, _, _, _, _, _, _, _, _, _, _, w⟩ => w.elim
def LenD (n : Nat) (das : Vs → Sto → R (List D)) : Prop := ∀ env μ ds μ', das env μ = .ok ds μ' → ds.length = n
theorem len_nil : LenD 0 nilD := fun env μ ds μ' h => by cases h; rfl
theorem len_cons {n : Nat} {da : Vs → Sto → R D} {das : Vs → Sto → R (List D)} (h : LenD n das) : LenD (n + 1) (consD da das) := fun env μ ds μ' e => by
  unfold consD at e
  cases e1 : da env μ with
  | ok d μ1 =>
    rw [e1] at e
    simp only [R.bind] at e
    cases e2 : das env μ1 with
    | ok es μ2 =>
      rw [e2] at e
      cases e
      simp [h _ _ _ _ e2]
    | er c μ2 => rw [e2] at e; cases e
    | no => rw [e2] at e; cases e
  | er c μ1 => rw [e1] at e; cases e
  | no => rw [e1] at e; cases e
/-- a def that may be called -/
structure CallF (P : Program) (w : World) (K : PySem.W.Frag) (mg : Str → Option Value) (base : Heap) (k : Nat) (x : Str) (n : Nat) (fr : Bool) (den : List D → Sto → R D) : Prop where
  ex : ∃ (f : Addr) (fd : FuncData) (ps : List Str), ps.length = n ∧ FnOk P w K mg base (L2.CX P w) k f fd ps (spOf ⟨K, mg⟩ n fr den) ∧ mg x = some (.ref f) ∧ PySem.W.keepIn K (.ref f) = true ∧ Binds K fd ps []
section
variable {X : Cx} {W : WX} {e a b : Expr} {es : List Expr} {pos p : Pos} {fr fr1 fr2 : Bool} {da db : Vs → Sto → R D}
theorem CallF.at {k n : Nat} {x : Str} {den : List D → Sto → R D} (c : CallF X.prog X.w X.K X.mg X.base k x n fr den) : CallOk X k x n fr den := ⟨c.ex⟩
theorem e_call {k j n : Nat} {x : Str} {den : List D → Sto → R D} {das : Vs → Sto → R (List D)} (c : CallF X.prog X.w X.K X.mg X.base k x n fr den) (hr : Room j X.A) (hj : k ≤ j) (tk : Takes X W) (ha : PA X (e :: es) (tEs (gm X) W das)) (hlen : LenD n das) (hg : Gl X x)
    (hln : (e :: es).length = n) (hdb : (x == ("__debug__" : Str)) = false) (he : starEach (e :: es) X.env = (false, eval e X.env) :: starEach es X.env) (hpl : (backTo pos (starEach es X.env)).any (·.1) = false) : PE X (.Call (.Name x p) (e :: es) [] pos) (tE (gm X) W fr (callD den das)) :=
  s_call c.at (hr.mono hj) tk hg ha hln hdb he hpl hlen
theorem e_len {das : Vs → Sto → R (List D)} (hm : X.mg "len" = none) (ha : PA X [e] (tEs (gm X) W das)) (hg : Gl X "len") (he : starEach [e] X.env = (false, eval e X.env) :: starEach [] X.env) (hpl : (backTo pos (starEach [] X.env)).any (·.1) = false) : PE X (.Call (.Name "len" p) [e] [] pos) (tE (gm X) W false (calD lenG das)) :=
  s_callB call_len ca_len hg hm (by decide +kernel) ha (by decide) (by decide) he hpl
theorem e_abs {das : Vs → Sto → R (List D)} (hm : X.mg "abs" = none) (ha : PA X [e] (tEs (gm X) W das)) (hg : Gl X "abs") (he : starEach [e] X.env = (false, eval e X.env) :: starEach [] X.env) (hpl : (backTo pos (starEach [] X.env)).any (·.1) = false) : PE X (.Call (.Name "abs" p) [e] [] pos) (tE (gm X) W false (calD absG das)) :=
  s_callB call_abs ca_abs hg hm (by decide +kernel) ha (by decide) (by decide) he hpl
theorem e_sum (hc : X.calm = true) {das : Vs → Sto → R (List D)} (hm : X.mg "sum" = none) (ha : PA X [e] (tEs (gm X) W das)) (hg : Gl X "sum") (he : starEach [e] X.env = (false, eval e X.env) :: starEach [] X.env) (hpl : (backTo pos (starEach [] X.env)).any (·.1) = false) : PE X (.Call (.Name "sum" p) [e] [] pos) (tE (gm X) W false (calD sumG das)) :=
  s_callB (cr_sum hc) ca_sum hg hm (by decide +kernel) ha (by decide) (by decide) he hpl
theorem e_all (hc : X.calm = true) {das : Vs → Sto → R (List D)} (hm : X.mg "all" = none) (ha : PA X [e] (tEs (gm X) W das)) (hg : Gl X "all") (he : starEach [e] X.env = (false, eval e X.env) :: starEach [] X.env) (hpl : (backTo pos (starEach [] X.env)).any (·.1) = false) : PE X (.Call (.Name "all" p) [e] [] pos) (tE (gm X) W false (calD allG das)) :=
  s_callB (cr_all hc) ca_all hg hm (by decide +kernel) ha (by decide) (by decide) he hpl
theorem e_max2 (hc : X.calm = true) {das : Vs → Sto → R (List D)} (hm : X.mg "max" = none) (ha : PA X [e, a] (tEs (gm X) W das)) (hg : Gl X "max") (he : starEach [e, a] X.env = (false, eval e X.env) :: starEach [a] X.env) (hpl : (backTo pos (starEach [a] X.env)).any (·.1) = false) : PE X (.Call (.Name "max" p) [e, a] [] pos) (tE (gm X) W false (calD maxG das)) :=
  s_callB (call_max2 hc) ca_max hg hm (by decide +kernel) ha (by decide) (by decide) he hpl
theorem e_min2 (hc : X.calm = true) {das : Vs → Sto → R (List D)} (hm : X.mg "min" = none) (ha : PA X [e, a] (tEs (gm X) W das)) (hg : Gl X "min") (he : starEach [e, a] X.env = (false, eval e X.env) :: starEach [a] X.env) (hpl : (backTo pos (starEach [a] X.env)).any (·.1) = false) : PE X (.Call (.Name "min" p) [e, a] [] pos) (tE (gm X) W false (calD minG das)) :=
  s_callB (call_min2 hc) ca_min hg hm (by decide +kernel) ha (by decide) (by decide) he hpl
theorem e_maxL (hc : X.calm = true) {das : Vs → Sto → R (List D)} (hm : X.mg "max" = none) (ha : PA X [e] (tEs (gm X) W das)) (hg : Gl X "max") (he : starEach [e] X.env = (false, eval e X.env) :: starEach [] X.env) (hpl : (backTo pos (starEach [] X.env)).any (·.1) = false) : PE X (.Call (.Name "max" p) [e] [] pos) (tE (gm X) W false (calD maxLG das)) :=
  s_callB (cr_max hc) ca_maxL hg hm (by decide +kernel) ha (by decide) (by decide) he hpl
theorem e_int {das : Vs → Sto → R (List D)} (hm : X.mg "int" = none) (ha : PA X [e] (tEs (gm X) W das)) (hg : Gl X "int") (he : starEach [e] X.env = (false, eval e X.env) :: starEach [] X.env) (hpl : (backTo pos (starEach [] X.env)).any (·.1) = false) : PE X (.Call (.Name "int" p) [e] [] pos) (tE (gm X) W false (calD intG das)) :=
  s_callTy call_int1 ca_int hg hm (by decide +kernel) ha (by decide) (by decide) he hpl
theorem e_str {das : Vs → Sto → R (List D)} (hm : X.mg "str" = none) (ha : PA X [e] (tEs (gm X) W das)) (hg : Gl X "str") (he : starEach [e] X.env = (false, eval e X.env) :: starEach [] X.env) (hpl : (backTo pos (starEach [] X.env)).any (·.1) = false) : PE X (.Call (.Name "str" p) [e] [] pos) (tE (gm X) W false (calD strG das)) :=
  s_callTy call_str_int ca_str hg hm (by decide +kernel) ha (by decide) (by decide) he hpl
theorem e_list {das : Vs → Sto → R (List D)} (hm : X.mg "list" = none) (ha : PA X [e] (tEs (gm X) W das)) (hg : Gl X "list") (he : starEach [e] X.env = (false, eval e X.env) :: starEach [] X.env) (hpl : (backTo pos (starEach [] X.env)).any (·.1) = false) : PE X (.Call (.Name "list" p) [e] [] pos) (tE (gm X) W true (calD listG das)) :=
  s_callTy call_list_of ca_list hg hm (by decide +kernel) ha (by decide) (by decide) he hpl
theorem e_tuple {das : Vs → Sto → R (List D)} (hm : X.mg "tuple" = none) (ha : PA X [e] (tEs (gm X) W das)) (hg : Gl X "tuple") (he : starEach [e] X.env = (false, eval e X.env) :: starEach [] X.env) (hpl : (backTo pos (starEach [] X.env)).any (·.1) = false) : PE X (.Call (.Name "tuple" p) [e] [] pos) (tE (gm X) W false (calD tupG das)) :=
  s_callTy call_tuple_of ca_tup hg hm (by decide +kernel) ha (by decide) (by decide) he hpl
theorem clsOwn {x : Str} {C : Addr} (hm : X.mg x = some (.ref C)) (hg : Gl X x) (hd : (x == ("__debug__" : Str)) = false) : ClsOk X x (.ref C) := ⟨⟨.ref C, rfl, fun u h => h⟩, hg, hd, .inl hm⟩
theorem clsTy {x : Str} {T : String} (hm : X.mg x = none) (hg : Gl X x) (hd : (x == ("__debug__" : Str)) = false) (hv : bootBuiltins x = some (.type T)) (hn : x ≠ "__name__") : ClsOk X x (.type T) := ⟨⟨.ty T, rfl, fun u h => h⟩, hg, hd, .inr ⟨hm, hv, hn⟩⟩
theorem e_raise {x m : Str} {k : Nat} {p2 pos2 : Pos} (h : (Fc.exc x).holds X.K X.mg) (hc : X.calm = true) (tk : Takes X W) (hg : Gl X x) (hdb : (x == ("__debug__" : Str)) = false) :
    PS X (.Raise (some (.Call (.Name x p) [.Constant (.str m) k p2] [] pos2)) none pos) (tS (gm X) W (raiseS x)) := s_raise hc tk PySem.F.excBase_ValueError h.2.1 h.1 h.2.2.1 (raises_own h.2.2.2.1 h.2.2.2.2) hg hdb
theorem ts_nil : PTs X [] (tT (gm X) W yesD) := ⟨fun pins s σ H Q I h => by
  obtain ⟨ρ, μ, env, s', ev, o⟩ := h
  exact pts_nil.run pins s σ H Q I (o H Ext.refl s')⟩
/-- a def from its datum -/
theorem callF {P : Program} {w : World} {K : PySem.W.Frag} {mg : Str → Option Value} {base : Heap} {d : He.DefD} {N ps : List Str} {k : Nat} {fr : Bool} {db : Vs → Sto → SR}
    (F : ∃ (a : Addr) (fd : FuncData), FunD K d.name d.qual d.params d.body d.scope (d.dvs K) (d.kws K) a fd ∧ mg d.at_.1 = some (.ref a)) (h0 : d.dfl = []) (h1 : d.kwd = []) (S : FnScope N ps d.scope)
    (hbd : ∀ (kV doc pm : Value) (an : Option Addr) (cdv ct : Value) (us : List Value), us.length = ps.length → bindArgs (PySem.W.fnOf d.name d.qual d.params d.body d.scope .none kV doc pm an cdv ct) ⟨us, []⟩ = pure (ps.zip us))
    (hb : ∀ (f : Addr) (cdv : Value) (A : Around) (outer : List Env) (s : Shared) (H : Hp) (E : XK), Room k (A.deeper (envOfC d.qual d.scope s.heap.objs.size f cdv)) →
      PSs (cxOf (L2.CX P w) P w K mg base N d.qual d.scope f cdv A outer s H E) d.body (tS ⟨K, mg⟩ (fun cls d _ H => E cls d H) db)) :
    CallF P w K mg base (k + 1) d.at_.1 ps.length fr (funD ps.length N.length fr db) := by
  obtain ⟨a, fd, F, hm⟩ := F
  have e1 : d.dvs K = [] := by unfold He.DefD.dvs; rw [h0]; rfl
  have e2 : d.kws K = [] := by unfold He.DefD.kws; rw [h1]; rfl
  rw [e1, e2] at F
  exact ⟨a, fd, ps, rfl, fn_ok F S (hb a), hm, F.kp, F.bindsN hbd⟩
end
end RS

/-! The R road, part p: reckoning by hand, the words for it. -/
namespace RS
open PySem PySem.Spec PyProof.Rows L2

theorem stoB_nil {n : Nat} : stoB n [] = true := rfl
theorem stoB_cons {n : Nat} {l : List D} {μ : Sto} : stoB n (.lst l :: μ) = stoB n μ := by simp [stoB]
theorem stoB_app {n : Nat} {μ ν : Sto} : stoB n (μ ++ ν) = (stoB n μ && stoB n ν) := by simp [stoB]
/-- only lists lie in the store -/
def Ls (μ : Sto) : Prop := ∀ n, stoB n μ = true
theorem Ls.nil : Ls [] := fun _ => rfl
theorem Ls.cons {l : List D} {μ : Sto} (h : Ls μ) : Ls (.lst l :: μ) := fun n => by rw [stoB_cons]; exact h n
theorem sh_int (i : Int) : SeqAt.shaped (.int i) = true := by simp [SeqAt.shaped, PyData.canLay0, PyData.depth]
theorem eqD_int {μ : Sto} {i j : Int} : eqD μ (.int i) (.int j) = some (decide (i = j)) := by
  simp only [eqD, pyM, py, shp, sh_int, if_true, PyData.eqv]
  by_cases h : i = j <;> simp [h]
theorem eqD_str {μ : Sto} {i j : Str} (hi : PyData.strOk i = true) (hj : PyData.strOk j = true) : eqD μ (.str i) (.str j) = some (decide (i = j)) := by
  have h1 : ∀ x : Str, PyData.strOk x = true → SeqAt.shaped (.str x) = true := fun x h => by simp [SeqAt.shaped, PyData.canLay0, PyData.depth, h]
  simp only [eqD, pyM, py, shp, h1 _ hi, h1 _ hj, if_true, PyData.eqv]
  by_cases h : i = j <;> simp [h]
theorem eqD_t2 {μ : Sto} {a b c d : Int} : eqD μ (.tup [.int a, .int b]) (.tup [.int c, .int d]) = some (decide (a = c ∧ b = d)) := by
  have h1 : ∀ x y : Int, SeqAt.shaped (.tuple [.int x, .int y]) = true := fun x y => by simp [SeqAt.shaped, PyData.canLay0, PyData.canLayAll0, PyData.depth, PyData.depthAll]
  simp only [eqD, pyM, py, pys, shp, h1, if_true, PyData.eqv, PyData.eqvAll, Option.map_some]
  by_cases h : a = c <;> by_cases h2 : b = d <;> simp [h, h2]
theorem pys_ints : ∀ ns : List Int, pys (ns.map .int) = some (ns.map .int)
  | [] => rfl
  | n :: ns => by simp [pys, py, pys_ints ns]
theorem eqvAll_ints : ∀ ns ms : List Int, PyData.eqvAll (ns.map .int) (ms.map .int) = decide (ns = ms)
  | [], [] => rfl
  | [], _ :: _ => rfl
  | _ :: _, [] => rfl
  | a :: ns, b :: ms => by
    simp only [List.map_cons, PyData.eqvAll, PyData.eqv, eqvAll_ints ns ms]
    by_cases h : a = b <;> by_cases h2 : ns = ms <;> simp [h, h2]
theorem eqD_lst {μ : Sto} {x y : D} {ns ms : List Int} (h1 : asL μ x = some (ns.map .int)) (h2 : asL μ y = some (ms.map .int)) : eqD μ x y = some (decide (ns = ms)) := by
  have h : ∀ {x : D} {ns : List Int}, asL μ x = some (ns.map .int) → pyM μ x = some (.list (ns.map .int)) := fun {x ns} h => by
    cases x with
    | lst ds => cases h; simp [pyM, py, pys_ints]
    | cell i => simp only [asL] at h; simp [pyM, h, pys_ints]
    | _ => cases h
  have hs : ∀ ns : List Int, SeqAt.shaped (.list (ns.map .int)) = true := fun ns => PySem.W.ke_shaped_ints ns
  simp only [eqD, h h1, h h2, shp, hs, if_true, PyData.eqv, eqvAll_ints]
theorem noPy {i j : Int} (h : j.natAbs < 2 ^ 8000) : Builtin.divisionGoesByPylong i j = false := by
  unfold Builtin.divisionGoesByPylong
  by_cases h0 : j = 0
  · subst h0; simp
  · have : j.natAbs.log2 < 8000 := (Nat.log2_lt (by omega)).mpr h
    have : ¬ (j.natAbs.log2 / 30 + 1 > 300) := by omega
    simp [h0, this]
theorem mulOk_of {i j : Int} (a b : Nat) (h1 : i.natAbs < 2 ^ a) (h2 : j.natAbs < 2 ^ b) (h : a + b ≤ 100000000) : mulOk i j = true := by
  unfold mulOk
  have l1 : i.natAbs.log2 ≤ a := by
    by_cases h0 : i.natAbs = 0
    · rw [h0]; simp [Nat.log2_def]
    · exact Nat.le_of_lt ((Nat.log2_lt h0).mpr h1)
  have l2 : j.natAbs.log2 ≤ b := by
    by_cases h0 : j.natAbs = 0
    · rw [h0]; simp [Nat.log2_def]
    · exact Nat.le_of_lt ((Nat.log2_lt h0).mpr h2)
  simp only [decide_eq_true_eq]
  omega
theorem forL_ix {ok : Sto → Bool} {n : Nat} {tg : Tg} {body : Vs → Sto → SR} (Inv : Nat → Vs → Sto → Prop) : ∀ (xs : List D) (j : Nat) (env : Vs) (μ : Sto), Inv j env μ →
    (∀ k x env μ, xs[k]? = some x → Inv (j + k) env μ → ∃ e1 e2 μ2, bindD μ tg x env = some e1 ∧ body e1 μ = .nx e2 μ2 ∧ ok (μ2.take n) = true ∧ stoB n (μ2.take n) = true ∧ Inv (j + k + 1) (limE n e2) (μ2.take n)) →
    ∃ env' μ', forL ok n tg body xs env μ = .nx env' μ' ∧ Inv (j + xs.length) env' μ'
  | [], j, env, μ, h, _ => ⟨env, μ, rfl, h⟩
  | x :: xs, j, env, μ, h, st => by
    obtain ⟨e1, e2, μ2, h1, h2, h3, h4, h5⟩ := st 0 x env μ rfl h
    obtain ⟨env', μ', h6, h7⟩ := forL_ix Inv xs (j + 1) (limE n e2) (μ2.take n) h5 fun k y env μ hk hi => by
      have := st (k + 1) y env μ hk (by rw [show j + (k + 1) = j + 1 + k by omega]; exact hi)
      rw [show j + (k + 1) + 1 = j + 1 + k + 1 by omega] at this
      exact this
    refine ⟨env', μ', ?_, by rw [show j + (x :: xs).length = j + 1 + xs.length by simp; omega]; exact h7⟩
    rw [forL, h1]
    simp only [h2, h3, h4, Bool.and_self, if_true]
    exact h6
theorem abs_nat (i : Int) : (if i < 0 then -i else i) = (i.natAbs : Int) := by split <;> omega
theorem fmod_nat (f r : Nat) : ((f : Int).fmod (r : Int)) = ((f % r : Nat) : Int) := by
  rw [Int.fmod_eq_emod_of_nonneg _ (by omega)]; rfl
theorem gcd_turn (f r : Nat) : Nat.gcd r (f % r) = Nat.gcd f r := by
  rw [Nat.gcd_comm f r, Nat.gcd_rec r f, Nat.gcd_comm]
theorem seq_nx {a b : Vs → Sto → SR} {env e : Vs} {μ μ' : Sto} (h : a env μ = .nx e μ') : seqS a b env μ = b e μ' := by unfold seqS; rw [h]
theorem seq_rt {a b : Vs → Sto → SR} {env : Vs} {d : D} {f : Bool} {μ μ' : Sto} (h : a env μ = .rt d f μ') : seqS a b env μ = .rt d f μ' := by unfold seqS; rw [h]
theorem seq_er {a b : Vs → Sto → SR} {env e : Vs} {c : Str} {μ μ' : Sto} (h : a env μ = .er c e μ') : seqS a b env μ = .er c e μ' := by unfold seqS; rw [h]
theorem fun_rt {n N : Nat} {fr : Bool} {db : Vs → Sto → SR} {ds : List D} {μ μ' : Sto} {d : D} {f : Bool} (hl : ds.length = n) (h : db (ds.map some ++ List.replicate (N - n) none) μ = .rt d f μ') : funD n N fr db ds μ = finD fr μ.length μ' f d := by
  unfold funD
  rw [if_pos hl, h]
theorem fun_er {n N : Nat} {fr : Bool} {db : Vs → Sto → SR} {ds : List D} {μ μ' : Sto} {c : Str} {e : Vs} (hl : ds.length = n) (h : db (ds.map some ++ List.replicate (N - n) none) μ = .er c e μ') : funD n N fr db ds μ = if stoB μ.length (μ'.take μ.length) then .er c (μ'.take μ.length) else .no := by
  unfold funD
  rw [if_pos hl, h]
def lim1 (n : Nat) (o : Option D) : Option D := match o with
  | some d => if cb n d then some d else none
  | none => none
theorem limE_nil {n : Nat} : limE n [] = [] := rfl
theorem limE_cons {n : Nat} {o : Option D} {env : Vs} : limE n (o :: env) = lim1 n o :: limE n env := rfl
theorem lim1_of {n : Nat} {d : D} (h : cb n d = true) : lim1 n (some d) = some d := by simp [lim1, h]
theorem cb_ints (n : Nat) : ∀ cs : List Int, cbs n (cs.map .int) = true
  | [] => rfl
  | c :: cs => by simp [cbs, cb, cb_ints n cs]
theorem set_top (μ : Sto) (l m : List D) : (μ ++ [Cell.lst l]).set μ.length (Cell.lst m) = μ ++ [Cell.lst m] := by rw [List.set_append_right _ _ (Nat.le_refl _), Nat.sub_self]; rfl
theorem Ls.app {μ : Sto} (h : Ls μ) (l : List D) : Ls (μ ++ [.lst l]) := fun n => by rw [stoB_app, h n]; rfl
theorem bin2_ok {g : Sto → D → D → Option D} {da db : Vs → Sto → R D} {env : Vs} {μ μ1 μ2 : Sto} {x y d : D} (h1 : da env μ = .ok x μ1) (h2 : db env μ1 = .ok y μ2) (h3 : g μ2 x y = some d) : bin2 g da db env μ = .ok d μ2 := by
  unfold bin2
  rw [h1]
  simp only [R.bind]
  rw [h2]
  simp only [h3, opt]
theorem rngL_get {i : Int} {n k : Nat} {x : D} (h : (rngL i n)[k]? = some x) : k < n ∧ x = .int (i + k) := by
  unfold rngL at h
  simp only [List.getElem?_map, Option.map_eq_some_iff] at h
  obtain ⟨j, h1, h2⟩ := h
  obtain ⟨h3, h4⟩ := List.getElem?_eq_some_iff.mp h1
  simp at h3 h4
  subst h4
  exact ⟨h3, h2.symm⟩
theorem cut63 (ds : List D) (h : ds.length ≤ 63) : cutD ds none (some 63) = ds := by
  have e : HT.sIx ds.length ds.length (some 63) = ds.length := by rw [show (some (63 : Int)) = some ((63 : Nat) : Int) from rfl, HT.sIx_nat]; omega
  unfold cutD
  rw [e, HT.sIx_none]
  simp
theorem lcL_fm {ok : Sto → Bool} {step : D → Sto → R (Option D)} {μ : Sto} (g : D → Option D) (hok : ok μ = true) : ∀ (xs acc : List D), (∀ x ∈ xs, step x μ = .ok (g x) μ) → acc.length + xs.length ≤ sizeLine → lcL ok step xs acc μ = .ok (.lst (acc ++ xs.filterMap g)) μ
  | [], acc, _, _ => by simp [lcL]
  | x :: xs, acc, h, hl => by
    have h0 := h x List.mem_cons_self
    rw [lcL, h0]
    simp only [R.bind, hok, if_true]
    simp only [List.length_cons] at hl
    cases e : g x with
    | none =>
      simp only [List.filterMap_cons, e]
      exact lcL_fm g hok xs acc (fun y hy => h y (List.mem_cons_of_mem _ hy)) (by omega)
    | some y =>
      have : acc.length < sizeLine := by omega
      simp only [List.filterMap_cons, e, this, if_true]
      rw [lcL_fm g hok xs (acc ++ [y]) (fun z hz => h z (List.mem_cons_of_mem _ hz)) (by simp; omega)]
      simp
theorem eqD_tup {μ : Sto} {ns ms : List Int} : eqD μ (.tup (ns.map .int)) (.tup (ms.map .int)) = some (decide (ns = ms)) := by
  have hs : ∀ ns : List Int, SeqAt.shaped (.tuple (ns.map .int)) = true := fun ns => by
    simp [SeqAt.shaped, PyData.canLay0, PyData.depth, PySem.W.ke_canLayAll0, PySem.W.ke_depthAll]
  simp only [eqD, pyM, py, pys_ints, Option.map_some, shp, hs, if_true, PyData.eqv, eqvAll_ints]
/-- the share of a list, from g on -/
def gL : Nat → List Int → Nat
  | g, [] => g
  | g, n :: ns => gL (Nat.gcd g n.natAbs) ns
theorem gL_dvd : ∀ (ns : List Int) (g : Nat), gL g ns ∣ g ∧ ∀ n ∈ ns, (gL g ns : Int) ∣ n
  | [], g => ⟨Nat.dvd_refl _, fun n h => by cases h⟩
  | a :: ns, g => by
    obtain ⟨h1, h2⟩ := gL_dvd ns (Nat.gcd g a.natAbs)
    refine ⟨Nat.dvd_trans h1 (Nat.gcd_dvd_left _ _), fun n h => ?_⟩
    rcases List.mem_cons.mp h with e | h
    · subst e
      have := Nat.dvd_trans h1 (Nat.gcd_dvd_right g n.natAbs)
      exact Int.natAbs_dvd_natAbs.mp (by rw [Int.natAbs_natCast]; exact this)
    · exact h2 n h
theorem gL_mul (D : Nat) : ∀ (ns : List Int) (g : Nat), gL (g * D) (ns.map (· * (D : Int))) = gL g ns * D
  | [], g => rfl
  | a :: ns, g => by
    have e : (a * (D : Int)).natAbs = a.natAbs * D := by rw [Int.natAbs_mul, Int.natAbs_natCast]
    simp only [List.map_cons, gL]
    rw [e, Nat.gcd_mul_right, gL_mul D ns]
theorem gL_pos {ns : List Int} {g : Nat} (h : ∃ n ∈ ns, n ≠ 0) : gL g ns ≠ 0 := by
  intro e
  obtain ⟨n, hn, h0⟩ := h
  have := (gL_dvd ns g).2 n hn
  rw [e] at this
  obtain ⟨c, hc⟩ := this
  omega
theorem div_list {g g' : Int} (hg : 0 < g) (hg' : 0 < g') {D L : Int} (hD : 0 < D) (hL : 0 < L) (hG : g * D = g' * L) : ∀ (u v : List Int), (∀ n ∈ u, g ∣ n) → (∀ n ∈ v, g' ∣ n) → u.map (· * D) = v.map (· * L) → u.map (fun n => n / g) = v.map (fun n => n / g')
  | [], [], _, _, _ => rfl
  | [], _ :: _, _, _, h => by simp at h
  | _ :: _, [], _, _, h => by simp at h
  | a :: u, b :: v, h1, h2, h => by
    simp only [List.map_cons, List.cons.injEq] at h ⊢
    refine ⟨?_, div_list hg hg' hD hL hG u v (fun n m => h1 n (List.mem_cons_of_mem _ m)) (fun n m => h2 n (List.mem_cons_of_mem _ m)) h.2⟩
    obtain ⟨x, hx⟩ := h1 a List.mem_cons_self
    obtain ⟨y, hy⟩ := h2 b List.mem_cons_self
    rw [hx, hy, Int.mul_ediv_cancel_left _ (by omega), Int.mul_ediv_cancel_left _ (by omega)]
    have e := h.1
    rw [hx, hy] at e
    have e2 : (g' * L) * x = (g' * L) * y := by
      rw [← hG]
      have : g * D * x = g * x * D := by grind
      rw [this, e, hG]; grind
    exact Int.eq_of_mul_eq_mul_left (Int.ne_of_gt (Int.mul_pos hg' hL)) e2
theorem kept_eq {u v : List Int} {D L : Int} (hD : 0 < D) (hL : 0 < L) (H : u.map (· * D) = v.map (· * L)) (hu : ∃ n ∈ u, n ≠ 0) (hv : ∃ n ∈ v, n ≠ 0) : u.map (fun n => n / (gL 0 u : Int)) = v.map (fun n => n / (gL 0 v : Int)) := by
  have a := gL_pos (g := 0) hu
  have b := gL_pos (g := 0) hv
  obtain ⟨d, rfl⟩ : ∃ d : Nat, D = d := ⟨D.toNat, by omega⟩
  obtain ⟨l, rfl⟩ : ∃ l : Nat, L = l := ⟨L.toNat, by omega⟩
  have e : gL 0 u * d = gL 0 v * l := by
    have e1 := gL_mul d u 0
    have e2 := gL_mul l v 0
    rw [Nat.zero_mul] at e1 e2
    rw [← e1, ← e2, H]
  refine div_list (by omega) (by omega) hD hL ?_ u v (gL_dvd u 0).2 (gL_dvd v 0).2 H
  have := congrArg (fun n : Nat => (n : Int)) e
  simpa using this
/-- a purse as a cell -/
abbrev Pu (a b : Int) : Cell := .lst [.int a, .int b]
end RS

/-! The R road, part q: fractions, plainly. -/
namespace RS
/-- p/q in lowest words is N/B -/
structure Rep (p q N B : Int) : Prop where
  e : p * B = N * q
  q0 : 0 < q
  g : Int.gcd p q = 1
  b0 : 0 < B
def Bd (k : Nat) (x : Int) : Prop := x.natAbs < 2 ^ k
theorem Bd.mono {j k : Nat} {x : Int} (h : Bd j x) (l : j ≤ k) : Bd k x := Nat.lt_of_lt_of_le h (Nat.pow_le_pow_right (by omega) l)
theorem Bd.mul {j k : Nat} {x y : Int} (h : Bd j x) (h2 : Bd k y) : Bd (j + k) (x * y) := by
  unfold Bd at *
  rw [Int.natAbs_mul, Nat.pow_add]
  exact Nat.mul_lt_mul'' h h2
theorem Bd.add {k : Nat} {x y : Int} (h : Bd k x) (h2 : Bd k y) : Bd (k + 1) (x + y) := by
  unfold Bd at *
  rw [Nat.pow_succ]
  omega
theorem Bd.sub {k : Nat} {x y : Int} (h : Bd k x) (h2 : Bd k y) : Bd (k + 1) (x - y) := by
  unfold Bd at *
  rw [Nat.pow_succ]
  omega
theorem mulOkB {j k : Nat} {x y : Int} (h : Bd j x) (h2 : Bd k y) (l : j + k ≤ 100000000) : mulOk x y = true := mulOk_of j k h h2 l
theorem Rep.self {p q : Int} (h : 0 < q) (g : Int.gcd p q = 1) : Rep p q p q := ⟨rfl, h, g, h⟩
theorem dvd_red {p q r : Int} (g : Int.gcd p q = 1) (h : q ∣ p * r) : q ∣ r := by
  rw [← Int.natAbs_dvd_natAbs] at h ⊢
  rw [Int.natAbs_mul] at h
  exact Nat.Coprime.dvd_of_dvd_mul_left (by rw [Nat.coprime_iff_gcd_eq_one, Nat.gcd_comm]; exact g) h
theorem cross_eq {p q p' q' : Int} (h : 0 < q) (g : Int.gcd p q = 1) (h' : 0 < q') (g' : Int.gcd p' q' = 1) : (p = p' ∧ q = q') ↔ p * q' = p' * q := by
  constructor
  · rintro ⟨rfl, rfl⟩; rfl
  · intro e
    have d1 : q ∣ q' := by
      have : q ∣ p * q' := ⟨p', by rw [e, Int.mul_comm]⟩
      exact dvd_red g this
    have d2 : q' ∣ q := by
      have : q' ∣ p' * q := ⟨p, by rw [← e, Int.mul_comm]⟩
      exact dvd_red g' this
    have eq : q = q' := Int.le_antisymm (Int.le_of_dvd h' d1) (Int.le_of_dvd h d2)
    subst eq
    exact ⟨Int.eq_of_mul_eq_mul_right (by omega) e, rfl⟩
theorem Rep.eq {p q N B p' q' N' B' : Int} (a : Rep p q N B) (b : Rep p' q' N' B') : (p = p' ∧ q = q') ↔ N * B' = N' * B := by
  rw [cross_eq a.q0 a.g b.q0 b.g]
  have e1 := a.e
  have e2 := b.e
  have h1 : p * q' * (B * B') = N * B' * (q * q') := by
    have : p * q' * (B * B') = (p * B) * (q' * B') := by grind
    rw [this, e1]; grind
  have h2 : p' * q * (B * B') = N' * B * (q * q') := by
    have : p' * q * (B * B') = (p' * B') * (q * B) := by grind
    rw [this, e2]; grind
  have n1 : B * B' ≠ 0 := Int.mul_ne_zero (by have := a.b0; omega) (by have := b.b0; omega)
  have n2 : q * q' ≠ 0 := Int.mul_ne_zero (by have := a.q0; omega) (by have := b.q0; omega)
  constructor
  · intro h
    rw [h, h2] at h1
    exact (Int.eq_of_mul_eq_mul_right n2 h1).symm
  · intro h
    rw [h, ← h2] at h1
    exact Int.eq_of_mul_eq_mul_right n1 h1
/-- in lowest words -/
theorem red_rep {t b : Int} (hb : 0 < b) : Rep (t / (Int.gcd t b : Int)) (b / (Int.gcd t b : Int)) t b := by
  have gp : 0 < (Int.gcd t b : Int) := by
    have := Int.gcd_pos_iff (a := t) (b := b) |>.mpr (.inr (by omega))
    omega
  obtain ⟨u, hu⟩ := Int.gcd_dvd_left (a := t) (b := b)
  obtain ⟨v, hv⟩ := Int.gcd_dvd_right (a := t) (b := b)
  have e1 : t / (Int.gcd t b : Int) = u := Int.ediv_eq_of_eq_mul_right (by omega) hu
  have e2 : b / (Int.gcd t b : Int) = v := Int.ediv_eq_of_eq_mul_right (by omega) hv
  have v0 : 0 < v := by
    rcases Int.lt_or_le 0 v with h | h
    · exact h
    · have := Int.mul_nonpos_of_nonneg_of_nonpos (Int.le_of_lt gp) h
      omega
  refine ⟨?_, by rw [e2]; exact v0, ?_, hb⟩
  · rw [e1, e2]
    generalize (Int.gcd t b : Int) = g at *
    rw [hu, hv]; grind
  · exact Int.gcd_ediv_gcd_ediv_gcd (by have := gp; omega)
theorem red_bd {k : Nat} {t b : Int} (h : Bd k t) : Bd k (t / (Int.gcd t b : Int)) := by
  unfold Bd at *
  refine Nat.lt_of_le_of_lt ?_ h
  exact Int.natAbs_ediv_le_natAbs _ _
theorem red_bd2 {k : Nat} {t b : Int} (h : Bd k b) : Bd k (b / (Int.gcd t b : Int)) := by
  unfold Bd at *
  refine Nat.lt_of_le_of_lt ?_ h
  exact Int.natAbs_ediv_le_natAbs _ _
theorem Rep.mul {p1 q1 N1 B1 p2 q2 N2 B2 p q : Int} (a : Rep p1 q1 N1 B1) (b : Rep p2 q2 N2 B2) (h : Rep p q (p1 * p2) (q1 * q2)) : Rep p q (N1 * N2) (B1 * B2) := by
  refine ⟨?_, h.q0, h.g, Int.mul_pos a.b0 b.b0⟩
  have e := h.e
  have e1 := a.e
  have e2 := b.e
  have n : q1 * q2 ≠ 0 := by have := h.b0; omega
  apply Int.eq_of_mul_eq_mul_right n
  have : p * (B1 * B2) * (q1 * q2) = (p * (q1 * q2)) * (B1 * B2) := by grind
  rw [this, e]
  have : p1 * p2 * q * (B1 * B2) = (p1 * B1) * (p2 * B2) * q := by grind
  rw [this, e1, e2]; grind
theorem Rep.add {p1 q1 N1 B1 p2 q2 N2 B2 p q : Int} (a : Rep p1 q1 N1 B1) (b : Rep p2 q2 N2 B2) (h : Rep p q (p1 * q2 + p2 * q1) (q1 * q2)) : Rep p q (N1 * B2 + N2 * B1) (B1 * B2) := by
  refine ⟨?_, h.q0, h.g, Int.mul_pos a.b0 b.b0⟩
  have e := h.e
  have e1 := a.e
  have e2 := b.e
  have n : q1 * q2 ≠ 0 := by have := h.b0; omega
  apply Int.eq_of_mul_eq_mul_right n
  have : p * (B1 * B2) * (q1 * q2) = (p * (q1 * q2)) * (B1 * B2) := by grind
  rw [this, e]
  have : (p1 * q2 + p2 * q1) * q * (B1 * B2) = (p1 * B1) * q2 * B2 * q + (p2 * B2) * q1 * B1 * q := by grind
  rw [this, e1, e2]; grind
theorem Rep.sub {p1 q1 N1 B1 p2 q2 N2 B2 p q : Int} (a : Rep p1 q1 N1 B1) (b : Rep p2 q2 N2 B2) (h : Rep p q (p1 * q2 - p2 * q1) (q1 * q2)) : Rep p q (N1 * B2 - N2 * B1) (B1 * B2) := by
  refine ⟨?_, h.q0, h.g, Int.mul_pos a.b0 b.b0⟩
  have e := h.e
  have e1 := a.e
  have e2 := b.e
  have n : q1 * q2 ≠ 0 := by have := h.b0; omega
  apply Int.eq_of_mul_eq_mul_right n
  have : p * (B1 * B2) * (q1 * q2) = (p * (q1 * q2)) * (B1 * B2) := by grind
  rw [this, e]
  have : (p1 * q2 - p2 * q1) * q * (B1 * B2) = (p1 * B1) * q2 * B2 * q - (p2 * B2) * q1 * B1 * q := by grind
  rw [this, e1, e2]; grind
end RS

namespace K60
open PySem PySem.Spec PyProof.Rows L2 RS
abbrev Rw : PySem.W.OpenRow := PySem.W.OpenLaw.row PySem.Challenge.rw_roundsides_k60_circles_as_curves
def top (i : Nat) : Stmt := PySem.Challenge.pw_roundsides_k60_circles_as_curves.main.body.getD i (.Pass ⟨0, 0, 0, 0⟩)

/-! ### what each def does -/
def s0_is_number : Vs → Sto → SR :=
  (retS false (andD (isTyD .int (varD 0)) (notD (isTyD .bool (varD 0)))))
theorem u_s0_is_number (env : Vs) (μ : Sto) : s0_is_number env μ =
  (retS false (andD (isTyD .int (varD 0)) (notD (isTyD .bool (varD 0))))) env μ := rfl
def r0_is_number : Vs → Sto → SR := seqS s0_is_number nxS
theorem u_r0_is_number (env : Vs) (μ : Sto) : r0_is_number env μ = seqS s0_is_number nxS env μ := rfl
def db_is_number : Vs → Sto → SR :=
  r0_is_number
theorem uv_is_number (env : Vs) (μ : Sto) : db_is_number env μ = r0_is_number env μ := rfl
theorem ub_is_number (env : Vs) (μ : Sto) : db_is_number env μ =
  (seqS (retS false (andD (isTyD .int (varD 0)) (notD (isTyD .bool (varD 0)))))
  nxS) env μ := rfl
def d_is_number : List D → Sto → R D := funD 1 1 false db_is_number
theorem ud_is_number (ds : List D) (μ : Sto) : d_is_number ds μ = funD 1 1 false db_is_number ds μ := rfl
def lt0_common_of : Vs → Sto → R Bool :=
  (trD (bin2 neG (varD 3) (conD (.int 0))))
theorem u_lt0_common_of (env : Vs) (μ : Sto) : lt0_common_of env μ =
  (trD (bin2 neG (varD 3) (conD (.int 0)))) env μ := rfl
def lb0_common_of : Vs → Sto → SR :=
  (seqS (par2S 1 3 (consD (varD 3) (consD (bin2 modG (varD 1) (varD 3)) nilD)))
  nxS)
theorem u_lb0_common_of (env : Vs) (μ : Sto) : lb0_common_of env μ =
  (seqS (par2S 1 3 (consD (varD 3) (consD (bin2 modG (varD 1) (varD 3)) nilD)))
  nxS) env μ := rfl
def s0_common_of_b0 : Vs → Sto → SR :=
  (par2S 1 3 (consD (varD 3) (consD (bin2 modG (varD 1) (varD 3)) nilD)))
theorem u_s0_common_of_b0 (env : Vs) (μ : Sto) : s0_common_of_b0 env μ =
  (par2S 1 3 (consD (varD 3) (consD (bin2 modG (varD 1) (varD 3)) nilD))) env μ := rfl
def r0_common_of_b0 : Vs → Sto → SR := seqS s0_common_of_b0 nxS
theorem u_r0_common_of_b0 (env : Vs) (μ : Sto) : r0_common_of_b0 env μ = seqS s0_common_of_b0 nxS env μ := rfl
theorem v_lb0_common_of (env : Vs) (μ : Sto) : lb0_common_of env μ = r0_common_of_b0 env μ := rfl
def lb1_common_of : Vs → Sto → SR :=
  (seqS (asgS (.one 3) (calD absG (consD (varD 2) nilD)))
  (seqS (whileS msA lt0_common_of lb0_common_of)
  nxS))
theorem u_lb1_common_of (env : Vs) (μ : Sto) : lb1_common_of env μ =
  (seqS (asgS (.one 3) (calD absG (consD (varD 2) nilD)))
  (seqS (whileS msA lt0_common_of lb0_common_of)
  nxS)) env μ := rfl
def s1_common_of_b1 : Vs → Sto → SR :=
  (whileS msA lt0_common_of lb0_common_of)
theorem u_s1_common_of_b1 (env : Vs) (μ : Sto) : s1_common_of_b1 env μ =
  (whileS msA lt0_common_of lb0_common_of) env μ := rfl
def r1_common_of_b1 : Vs → Sto → SR := seqS s1_common_of_b1 nxS
theorem u_r1_common_of_b1 (env : Vs) (μ : Sto) : r1_common_of_b1 env μ = seqS s1_common_of_b1 nxS env μ := rfl
def s0_common_of_b1 : Vs → Sto → SR :=
  (asgS (.one 3) (calD absG (consD (varD 2) nilD)))
theorem u_s0_common_of_b1 (env : Vs) (μ : Sto) : s0_common_of_b1 env μ =
  (asgS (.one 3) (calD absG (consD (varD 2) nilD))) env μ := rfl
def r0_common_of_b1 : Vs → Sto → SR := seqS s0_common_of_b1 r1_common_of_b1
theorem u_r0_common_of_b1 (env : Vs) (μ : Sto) : r0_common_of_b1 env μ = seqS s0_common_of_b1 r1_common_of_b1 env μ := rfl
theorem v_lb1_common_of (env : Vs) (μ : Sto) : lb1_common_of env μ = r0_common_of_b1 env μ := rfl
def s2_common_of : Vs → Sto → SR :=
  (retS false (varD 1))
theorem u_s2_common_of (env : Vs) (μ : Sto) : s2_common_of env μ =
  (retS false (varD 1)) env μ := rfl
def r2_common_of : Vs → Sto → SR := seqS s2_common_of nxS
theorem u_r2_common_of (env : Vs) (μ : Sto) : r2_common_of env μ = seqS s2_common_of nxS env μ := rfl
def s1_common_of : Vs → Sto → SR :=
  (forS (seqI (varD 0)) (.one 2) lb1_common_of)
theorem u_s1_common_of (env : Vs) (μ : Sto) : s1_common_of env μ =
  (forS (seqI (varD 0)) (.one 2) lb1_common_of) env μ := rfl
def r1_common_of : Vs → Sto → SR := seqS s1_common_of r2_common_of
theorem u_r1_common_of (env : Vs) (μ : Sto) : r1_common_of env μ = seqS s1_common_of r2_common_of env μ := rfl
def s0_common_of : Vs → Sto → SR :=
  (asgS (.one 1) (conD (.int 0)))
theorem u_s0_common_of (env : Vs) (μ : Sto) : s0_common_of env μ =
  (asgS (.one 1) (conD (.int 0))) env μ := rfl
def r0_common_of : Vs → Sto → SR := seqS s0_common_of r1_common_of
theorem u_r0_common_of (env : Vs) (μ : Sto) : r0_common_of env μ = seqS s0_common_of r1_common_of env μ := rfl
def db_common_of : Vs → Sto → SR :=
  r0_common_of
theorem uv_common_of (env : Vs) (μ : Sto) : db_common_of env μ = r0_common_of env μ := rfl
theorem ub_common_of (env : Vs) (μ : Sto) : db_common_of env μ =
  (seqS (asgS (.one 1) (conD (.int 0)))
  (seqS (forS (seqI (varD 0)) (.one 2) lb1_common_of)
  (seqS (retS false (varD 1))
  nxS))) env μ := rfl
def d_common_of : List D → Sto → R D := funD 1 4 false db_common_of
theorem ud_common_of (ds : List D) (μ : Sto) : d_common_of ds μ = funD 1 4 false db_common_of ds μ := rfl
def ce0_turned_sign : Vs → Sto → R D :=
  (bin2 subG (conD (.int 0)) (varD 2))
theorem u_ce0_turned_sign (env : Vs) (μ : Sto) : ce0_turned_sign env μ =
  (bin2 subG (conD (.int 0)) (varD 2)) env μ := rfl
def lb1_turned_sign : Vs → Sto → SR :=
  (seqS (ifS (trD (bin2 gtG (varD 1) (conD (.int 0)))) (seqS (retS false (varD 0))
  nxS) nxS)
  (seqS (ifS (trD (bin2 ltG (varD 1) (conD (.int 0)))) (seqS (retS false (calD tupG (consD (compD (seqI (varD 0)) (.one 2) yesD ce0_turned_sign [2]) nilD)))
  nxS) nxS)
  nxS))
theorem u_lb1_turned_sign (env : Vs) (μ : Sto) : lb1_turned_sign env μ =
  (seqS (ifS (trD (bin2 gtG (varD 1) (conD (.int 0)))) (seqS (retS false (varD 0))
  nxS) nxS)
  (seqS (ifS (trD (bin2 ltG (varD 1) (conD (.int 0)))) (seqS (retS false (calD tupG (consD (compD (seqI (varD 0)) (.one 2) yesD ce0_turned_sign [2]) nilD)))
  nxS) nxS)
  nxS)) env μ := rfl
def s1_turned_sign_b1 : Vs → Sto → SR :=
  (ifS (trD (bin2 ltG (varD 1) (conD (.int 0)))) (seqS (retS false (calD tupG (consD (compD (seqI (varD 0)) (.one 2) yesD ce0_turned_sign [2]) nilD)))
  nxS) nxS)
theorem u_s1_turned_sign_b1 (env : Vs) (μ : Sto) : s1_turned_sign_b1 env μ =
  (ifS (trD (bin2 ltG (varD 1) (conD (.int 0)))) (seqS (retS false (calD tupG (consD (compD (seqI (varD 0)) (.one 2) yesD ce0_turned_sign [2]) nilD)))
  nxS) nxS) env μ := rfl
def r1_turned_sign_b1 : Vs → Sto → SR := seqS s1_turned_sign_b1 nxS
theorem u_r1_turned_sign_b1 (env : Vs) (μ : Sto) : r1_turned_sign_b1 env μ = seqS s1_turned_sign_b1 nxS env μ := rfl
def s0_turned_sign_b1 : Vs → Sto → SR :=
  (ifS (trD (bin2 gtG (varD 1) (conD (.int 0)))) (seqS (retS false (varD 0))
  nxS) nxS)
theorem u_s0_turned_sign_b1 (env : Vs) (μ : Sto) : s0_turned_sign_b1 env μ =
  (ifS (trD (bin2 gtG (varD 1) (conD (.int 0)))) (seqS (retS false (varD 0))
  nxS) nxS) env μ := rfl
def r0_turned_sign_b1 : Vs → Sto → SR := seqS s0_turned_sign_b1 r1_turned_sign_b1
theorem u_r0_turned_sign_b1 (env : Vs) (μ : Sto) : r0_turned_sign_b1 env μ = seqS s0_turned_sign_b1 r1_turned_sign_b1 env μ := rfl
theorem v_lb1_turned_sign (env : Vs) (μ : Sto) : lb1_turned_sign env μ = r0_turned_sign_b1 env μ := rfl
def s1_turned_sign : Vs → Sto → SR :=
  (retS false (varD 0))
theorem u_s1_turned_sign (env : Vs) (μ : Sto) : s1_turned_sign env μ =
  (retS false (varD 0)) env μ := rfl
def r1_turned_sign : Vs → Sto → SR := seqS s1_turned_sign nxS
theorem u_r1_turned_sign (env : Vs) (μ : Sto) : r1_turned_sign env μ = seqS s1_turned_sign nxS env μ := rfl
def s0_turned_sign : Vs → Sto → SR :=
  (forS (seqI (varD 0)) (.one 1) lb1_turned_sign)
theorem u_s0_turned_sign (env : Vs) (μ : Sto) : s0_turned_sign env μ =
  (forS (seqI (varD 0)) (.one 1) lb1_turned_sign) env μ := rfl
def r0_turned_sign : Vs → Sto → SR := seqS s0_turned_sign r1_turned_sign
theorem u_r0_turned_sign (env : Vs) (μ : Sto) : r0_turned_sign env μ = seqS s0_turned_sign r1_turned_sign env μ := rfl
def db_turned_sign : Vs → Sto → SR :=
  r0_turned_sign
theorem uv_turned_sign (env : Vs) (μ : Sto) : db_turned_sign env μ = r0_turned_sign env μ := rfl
theorem ub_turned_sign (env : Vs) (μ : Sto) : db_turned_sign env μ =
  (seqS (forS (seqI (varD 0)) (.one 1) lb1_turned_sign)
  (seqS (retS false (varD 0))
  nxS)) env μ := rfl
def d_turned_sign : List D → Sto → R D := funD 1 3 false db_turned_sign
theorem ud_turned_sign (ds : List D) (μ : Sto) : d_turned_sign ds μ = funD 1 3 false db_turned_sign ds μ := rfl
def s3__law_draw : Vs → Sto → SR :=
  (retS false (varD 3))
theorem u_s3__law_draw (env : Vs) (μ : Sto) : s3__law_draw env μ =
  (retS false (varD 3)) env μ := rfl
def r3__law_draw : Vs → Sto → SR := seqS s3__law_draw nxS
theorem u_r3__law_draw (env : Vs) (μ : Sto) : r3__law_draw env μ = seqS s3__law_draw nxS env μ := rfl
def s2__law_draw : Vs → Sto → SR :=
  (setS (bin2 fdivG (bin2 ixG (varD 0) (varD 2)) (varD 1)) (varD 0) (varD 2))
theorem u_s2__law_draw (env : Vs) (μ : Sto) : s2__law_draw env μ =
  (setS (bin2 fdivG (bin2 ixG (varD 0) (varD 2)) (varD 1)) (varD 0) (varD 2)) env μ := rfl
def r2__law_draw : Vs → Sto → SR := seqS s2__law_draw r3__law_draw
theorem u_r2__law_draw (env : Vs) (μ : Sto) : r2__law_draw env μ = seqS s2__law_draw r3__law_draw env μ := rfl
def s1__law_draw : Vs → Sto → SR :=
  (asgS (.one 3) (bin2 modG (bin2 ixG (varD 0) (varD 2)) (varD 1)))
theorem u_s1__law_draw (env : Vs) (μ : Sto) : s1__law_draw env μ =
  (asgS (.one 3) (bin2 modG (bin2 ixG (varD 0) (varD 2)) (varD 1))) env μ := rfl
def r1__law_draw : Vs → Sto → SR := seqS s1__law_draw r2__law_draw
theorem u_r1__law_draw (env : Vs) (μ : Sto) : r1__law_draw env μ = seqS s1__law_draw r2__law_draw env μ := rfl
def s0__law_draw : Vs → Sto → SR :=
  (asgS (.one 2) (calD intG (consD (bin2 eqG (bin2 ixG (varD 0) (conD (.int 0))) (conD (.int 0))) nilD)))
theorem u_s0__law_draw (env : Vs) (μ : Sto) : s0__law_draw env μ =
  (asgS (.one 2) (calD intG (consD (bin2 eqG (bin2 ixG (varD 0) (conD (.int 0))) (conD (.int 0))) nilD))) env μ := rfl
def r0__law_draw : Vs → Sto → SR := seqS s0__law_draw r1__law_draw
theorem u_r0__law_draw (env : Vs) (μ : Sto) : r0__law_draw env μ = seqS s0__law_draw r1__law_draw env μ := rfl
def db__law_draw : Vs → Sto → SR :=
  r0__law_draw
theorem uv__law_draw (env : Vs) (μ : Sto) : db__law_draw env μ = r0__law_draw env μ := rfl
theorem ub__law_draw (env : Vs) (μ : Sto) : db__law_draw env μ =
  (seqS (asgS (.one 2) (calD intG (consD (bin2 eqG (bin2 ixG (varD 0) (conD (.int 0))) (conD (.int 0))) nilD)))
  (seqS (asgS (.one 3) (bin2 modG (bin2 ixG (varD 0) (varD 2)) (varD 1)))
  (seqS (setS (bin2 fdivG (bin2 ixG (varD 0) (varD 2)) (varD 1)) (varD 0) (varD 2))
  (seqS (retS false (varD 3))
  nxS)))) env μ := rfl
def d__law_draw : List D → Sto → R D := funD 2 4 false db__law_draw
theorem ud__law_draw (ds : List D) (μ : Sto) : d__law_draw ds μ = funD 2 4 false db__law_draw ds μ := rfl
def lb0__law_purse : Vs → Sto → SR :=
  (seqS (asgS (.one 4) (bin2 modG (bin2 addAll (bin2 addAll (bin2 ixG (varD 1) (bin2 modG (varD 3) (calD lenG (consD (varD 1) nilD)))) (bin2 mulG (conD (.int 48271)) (varD 3))) (conD (.int 7))) (conD (.int 2147483629))))
  (seqS (asgS (.one 4) (bin2 modG (bin2 addAll (bin2 mulG (varD 4) (varD 4)) (bin2 mulG (conD (.int 69621)) (varD 3))) (conD (.int 2147483587))))
  (seqS (asgS (.one 2) (bin2 addAll (bin2 mulG (varD 2) (conD (.int 2147483587))) (bin2 modG (bin2 mulG (varD 4) (varD 4)) (conD (.int 2147483563)))))
  nxS)))
theorem u_lb0__law_purse (env : Vs) (μ : Sto) : lb0__law_purse env μ =
  (seqS (asgS (.one 4) (bin2 modG (bin2 addAll (bin2 addAll (bin2 ixG (varD 1) (bin2 modG (varD 3) (calD lenG (consD (varD 1) nilD)))) (bin2 mulG (conD (.int 48271)) (varD 3))) (conD (.int 7))) (conD (.int 2147483629))))
  (seqS (asgS (.one 4) (bin2 modG (bin2 addAll (bin2 mulG (varD 4) (varD 4)) (bin2 mulG (conD (.int 69621)) (varD 3))) (conD (.int 2147483587))))
  (seqS (asgS (.one 2) (bin2 addAll (bin2 mulG (varD 2) (conD (.int 2147483587))) (bin2 modG (bin2 mulG (varD 4) (varD 4)) (conD (.int 2147483563)))))
  nxS))) env μ := rfl
def s2__law_purse_b0 : Vs → Sto → SR :=
  (asgS (.one 2) (bin2 addAll (bin2 mulG (varD 2) (conD (.int 2147483587))) (bin2 modG (bin2 mulG (varD 4) (varD 4)) (conD (.int 2147483563)))))
theorem u_s2__law_purse_b0 (env : Vs) (μ : Sto) : s2__law_purse_b0 env μ =
  (asgS (.one 2) (bin2 addAll (bin2 mulG (varD 2) (conD (.int 2147483587))) (bin2 modG (bin2 mulG (varD 4) (varD 4)) (conD (.int 2147483563))))) env μ := rfl
def r2__law_purse_b0 : Vs → Sto → SR := seqS s2__law_purse_b0 nxS
theorem u_r2__law_purse_b0 (env : Vs) (μ : Sto) : r2__law_purse_b0 env μ = seqS s2__law_purse_b0 nxS env μ := rfl
def s1__law_purse_b0 : Vs → Sto → SR :=
  (asgS (.one 4) (bin2 modG (bin2 addAll (bin2 mulG (varD 4) (varD 4)) (bin2 mulG (conD (.int 69621)) (varD 3))) (conD (.int 2147483587))))
theorem u_s1__law_purse_b0 (env : Vs) (μ : Sto) : s1__law_purse_b0 env μ =
  (asgS (.one 4) (bin2 modG (bin2 addAll (bin2 mulG (varD 4) (varD 4)) (bin2 mulG (conD (.int 69621)) (varD 3))) (conD (.int 2147483587)))) env μ := rfl
def r1__law_purse_b0 : Vs → Sto → SR := seqS s1__law_purse_b0 r2__law_purse_b0
theorem u_r1__law_purse_b0 (env : Vs) (μ : Sto) : r1__law_purse_b0 env μ = seqS s1__law_purse_b0 r2__law_purse_b0 env μ := rfl
def s0__law_purse_b0 : Vs → Sto → SR :=
  (asgS (.one 4) (bin2 modG (bin2 addAll (bin2 addAll (bin2 ixG (varD 1) (bin2 modG (varD 3) (calD lenG (consD (varD 1) nilD)))) (bin2 mulG (conD (.int 48271)) (varD 3))) (conD (.int 7))) (conD (.int 2147483629))))
theorem u_s0__law_purse_b0 (env : Vs) (μ : Sto) : s0__law_purse_b0 env μ =
  (asgS (.one 4) (bin2 modG (bin2 addAll (bin2 addAll (bin2 ixG (varD 1) (bin2 modG (varD 3) (calD lenG (consD (varD 1) nilD)))) (bin2 mulG (conD (.int 48271)) (varD 3))) (conD (.int 7))) (conD (.int 2147483629)))) env μ := rfl
def r0__law_purse_b0 : Vs → Sto → SR := seqS s0__law_purse_b0 r1__law_purse_b0
theorem u_r0__law_purse_b0 (env : Vs) (μ : Sto) : r0__law_purse_b0 env μ = seqS s0__law_purse_b0 r1__law_purse_b0 env μ := rfl
theorem v_lb0__law_purse (env : Vs) (μ : Sto) : lb0__law_purse env μ = r0__law_purse_b0 env μ := rfl
def s4__law_purse : Vs → Sto → SR :=
  (retS true (lstD (consD (conD (.int 0)) (consD (varD 2) nilD))))
theorem u_s4__law_purse (env : Vs) (μ : Sto) : s4__law_purse env μ =
  (retS true (lstD (consD (conD (.int 0)) (consD (varD 2) nilD)))) env μ := rfl
def r4__law_purse : Vs → Sto → SR := seqS s4__law_purse nxS
theorem u_r4__law_purse (env : Vs) (μ : Sto) : r4__law_purse env μ = seqS s4__law_purse nxS env μ := rfl
def s3__law_purse : Vs → Sto → SR :=
  (ifS (trD (bin2 geG (bin2 ixG (varD 1) (conD (.int 0))) (bin2 powG (conD (.int 10)) (conD (.int 18))))) (seqS (retS true (lstD (consD (bin2 subG (bin2 ixG (varD 1) (conD (.int 0))) (bin2 powG (conD (.int 10)) (conD (.int 18)))) (consD (varD 2) nilD))))
  nxS) nxS)
theorem u_s3__law_purse (env : Vs) (μ : Sto) : s3__law_purse env μ =
  (ifS (trD (bin2 geG (bin2 ixG (varD 1) (conD (.int 0))) (bin2 powG (conD (.int 10)) (conD (.int 18))))) (seqS (retS true (lstD (consD (bin2 subG (bin2 ixG (varD 1) (conD (.int 0))) (bin2 powG (conD (.int 10)) (conD (.int 18)))) (consD (varD 2) nilD))))
  nxS) nxS) env μ := rfl
def r3__law_purse : Vs → Sto → SR := seqS s3__law_purse r4__law_purse
theorem u_r3__law_purse (env : Vs) (μ : Sto) : r3__law_purse env μ = seqS s3__law_purse r4__law_purse env μ := rfl
def s2__law_purse : Vs → Sto → SR :=
  (forS (rng1I (consD (conD (.int 160)) nilD)) (.one 3) lb0__law_purse)
theorem u_s2__law_purse (env : Vs) (μ : Sto) : s2__law_purse env μ =
  (forS (rng1I (consD (conD (.int 160)) nilD)) (.one 3) lb0__law_purse) env μ := rfl
def r2__law_purse : Vs → Sto → SR := seqS s2__law_purse r3__law_purse
theorem u_r2__law_purse (env : Vs) (μ : Sto) : r2__law_purse env μ = seqS s2__law_purse r3__law_purse env μ := rfl
def s1__law_purse : Vs → Sto → SR :=
  (asgS (.one 2) (conD (.int 1)))
theorem u_s1__law_purse (env : Vs) (μ : Sto) : s1__law_purse env μ =
  (asgS (.one 2) (conD (.int 1))) env μ := rfl
def r1__law_purse : Vs → Sto → SR := seqS s1__law_purse r2__law_purse
theorem u_r1__law_purse (env : Vs) (μ : Sto) : r1__law_purse env μ = seqS s1__law_purse r2__law_purse env μ := rfl
def s0__law_purse : Vs → Sto → SR :=
  (asgS (.one 1) (bin2 addAll (slcD (varD 0) (optD none) (optD (some (conD (.int 63))))) (lstD (consD (calD lenG (consD (varD 0) nilD)) nilD))))
theorem u_s0__law_purse (env : Vs) (μ : Sto) : s0__law_purse env μ =
  (asgS (.one 1) (bin2 addAll (slcD (varD 0) (optD none) (optD (some (conD (.int 63))))) (lstD (consD (calD lenG (consD (varD 0) nilD)) nilD)))) env μ := rfl
def r0__law_purse : Vs → Sto → SR := seqS s0__law_purse r1__law_purse
theorem u_r0__law_purse (env : Vs) (μ : Sto) : r0__law_purse env μ = seqS s0__law_purse r1__law_purse env μ := rfl
def db__law_purse : Vs → Sto → SR :=
  r0__law_purse
theorem uv__law_purse (env : Vs) (μ : Sto) : db__law_purse env μ = r0__law_purse env μ := rfl
theorem ub__law_purse (env : Vs) (μ : Sto) : db__law_purse env μ =
  (seqS (asgS (.one 1) (bin2 addAll (slcD (varD 0) (optD none) (optD (some (conD (.int 63))))) (lstD (consD (calD lenG (consD (varD 0) nilD)) nilD))))
  (seqS (asgS (.one 2) (conD (.int 1)))
  (seqS (forS (rng1I (consD (conD (.int 160)) nilD)) (.one 3) lb0__law_purse)
  (seqS (ifS (trD (bin2 geG (bin2 ixG (varD 1) (conD (.int 0))) (bin2 powG (conD (.int 10)) (conD (.int 18))))) (seqS (retS true (lstD (consD (bin2 subG (bin2 ixG (varD 1) (conD (.int 0))) (bin2 powG (conD (.int 10)) (conD (.int 18)))) (consD (varD 2) nilD))))
  nxS) nxS)
  (seqS (retS true (lstD (consD (conD (.int 0)) (consD (varD 2) nilD))))
  nxS))))) env μ := rfl
def d__law_purse : List D → Sto → R D := funD 1 5 true db__law_purse
theorem ud__law_purse (ds : List D) (μ : Sto) : d__law_purse ds μ = funD 1 5 true db__law_purse ds μ := rfl
def lt0__law_common : Vs → Sto → R Bool :=
  (trD (bin2 neG (varD 2) (conD (.int 0))))
theorem u_lt0__law_common (env : Vs) (μ : Sto) : lt0__law_common env μ =
  (trD (bin2 neG (varD 2) (conD (.int 0)))) env μ := rfl
def lb0__law_common : Vs → Sto → SR :=
  (seqS (par2S 1 2 (consD (varD 2) (consD (bin2 modG (varD 1) (varD 2)) nilD)))
  nxS)
theorem u_lb0__law_common (env : Vs) (μ : Sto) : lb0__law_common env μ =
  (seqS (par2S 1 2 (consD (varD 2) (consD (bin2 modG (varD 1) (varD 2)) nilD)))
  nxS) env μ := rfl
def s0__law_common_b0 : Vs → Sto → SR :=
  (par2S 1 2 (consD (varD 2) (consD (bin2 modG (varD 1) (varD 2)) nilD)))
theorem u_s0__law_common_b0 (env : Vs) (μ : Sto) : s0__law_common_b0 env μ =
  (par2S 1 2 (consD (varD 2) (consD (bin2 modG (varD 1) (varD 2)) nilD))) env μ := rfl
def r0__law_common_b0 : Vs → Sto → SR := seqS s0__law_common_b0 nxS
theorem u_r0__law_common_b0 (env : Vs) (μ : Sto) : r0__law_common_b0 env μ = seqS s0__law_common_b0 nxS env μ := rfl
theorem v_lb0__law_common (env : Vs) (μ : Sto) : lb0__law_common env μ = r0__law_common_b0 env μ := rfl
def lb1__law_common : Vs → Sto → SR :=
  (seqS (whileS msA lt0__law_common lb0__law_common)
  nxS)
theorem u_lb1__law_common (env : Vs) (μ : Sto) : lb1__law_common env μ =
  (seqS (whileS msA lt0__law_common lb0__law_common)
  nxS) env μ := rfl
def s0__law_common_b1 : Vs → Sto → SR :=
  (whileS msA lt0__law_common lb0__law_common)
theorem u_s0__law_common_b1 (env : Vs) (μ : Sto) : s0__law_common_b1 env μ =
  (whileS msA lt0__law_common lb0__law_common) env μ := rfl
def r0__law_common_b1 : Vs → Sto → SR := seqS s0__law_common_b1 nxS
theorem u_r0__law_common_b1 (env : Vs) (μ : Sto) : r0__law_common_b1 env μ = seqS s0__law_common_b1 nxS env μ := rfl
theorem v_lb1__law_common (env : Vs) (μ : Sto) : lb1__law_common env μ = r0__law_common_b1 env μ := rfl
def s2__law_common : Vs → Sto → SR :=
  (retS false (calD absG (consD (varD 1) nilD)))
theorem u_s2__law_common (env : Vs) (μ : Sto) : s2__law_common env μ =
  (retS false (calD absG (consD (varD 1) nilD))) env μ := rfl
def r2__law_common : Vs → Sto → SR := seqS s2__law_common nxS
theorem u_r2__law_common (env : Vs) (μ : Sto) : r2__law_common env μ = seqS s2__law_common nxS env μ := rfl
def s1__law_common : Vs → Sto → SR :=
  (forS (seqI (varD 0)) (.one 2) lb1__law_common)
theorem u_s1__law_common (env : Vs) (μ : Sto) : s1__law_common env μ =
  (forS (seqI (varD 0)) (.one 2) lb1__law_common) env μ := rfl
def r1__law_common : Vs → Sto → SR := seqS s1__law_common r2__law_common
theorem u_r1__law_common (env : Vs) (μ : Sto) : r1__law_common env μ = seqS s1__law_common r2__law_common env μ := rfl
def s0__law_common : Vs → Sto → SR :=
  (asgS (.one 1) (conD (.int 0)))
theorem u_s0__law_common (env : Vs) (μ : Sto) : s0__law_common env μ =
  (asgS (.one 1) (conD (.int 0))) env μ := rfl
def r0__law_common : Vs → Sto → SR := seqS s0__law_common r1__law_common
theorem u_r0__law_common (env : Vs) (μ : Sto) : r0__law_common env μ = seqS s0__law_common r1__law_common env μ := rfl
def db__law_common : Vs → Sto → SR :=
  r0__law_common
theorem uv__law_common (env : Vs) (μ : Sto) : db__law_common env μ = r0__law_common env μ := rfl
theorem ub__law_common (env : Vs) (μ : Sto) : db__law_common env μ =
  (seqS (asgS (.one 1) (conD (.int 0)))
  (seqS (forS (seqI (varD 0)) (.one 2) lb1__law_common)
  (seqS (retS false (calD absG (consD (varD 1) nilD)))
  nxS))) env μ := rfl
def d__law_common : List D → Sto → R D := funD 1 3 false db__law_common
theorem ud__law_common (ds : List D) (μ : Sto) : d__law_common ds μ = funD 1 3 false db__law_common ds μ := rfl
def ct0__law_wholes : Vs → Sto → R Bool :=
  (trD (orD (isTyD .bool (varD 2)) (notD (isTyD .int (varD 2)))))
theorem u_ct0__law_wholes (env : Vs) (μ : Sto) : ct0__law_wholes env μ =
  (trD (orD (isTyD .bool (varD 2)) (notD (isTyD .int (varD 2))))) env μ := rfl
def ce0__law_wholes : Vs → Sto → R D :=
  (varD 2)
theorem u_ce0__law_wholes (env : Vs) (μ : Sto) : ce0__law_wholes env μ =
  (varD 2) env μ := rfl
def s1__law_wholes : Vs → Sto → SR :=
  (retS false (bin2 eqG (calD lenG (consD (compD (seqI (varD 0)) (.one 2) ct0__law_wholes ce0__law_wholes [2]) nilD)) (conD (.int 0))))
theorem u_s1__law_wholes (env : Vs) (μ : Sto) : s1__law_wholes env μ =
  (retS false (bin2 eqG (calD lenG (consD (compD (seqI (varD 0)) (.one 2) ct0__law_wholes ce0__law_wholes [2]) nilD)) (conD (.int 0)))) env μ := rfl
def r1__law_wholes : Vs → Sto → SR := seqS s1__law_wholes nxS
theorem u_r1__law_wholes (env : Vs) (μ : Sto) : r1__law_wholes env μ = seqS s1__law_wholes nxS env μ := rfl
def s0__law_wholes : Vs → Sto → SR :=
  (ifS (trD (orD (notD (isTyD .tuple (varD 0))) (bin2 neG (calD lenG (consD (varD 0) nilD)) (varD 1)))) (seqS (retS false (conD (.bl false)))
  nxS) nxS)
theorem u_s0__law_wholes (env : Vs) (μ : Sto) : s0__law_wholes env μ =
  (ifS (trD (orD (notD (isTyD .tuple (varD 0))) (bin2 neG (calD lenG (consD (varD 0) nilD)) (varD 1)))) (seqS (retS false (conD (.bl false)))
  nxS) nxS) env μ := rfl
def r0__law_wholes : Vs → Sto → SR := seqS s0__law_wholes r1__law_wholes
theorem u_r0__law_wholes (env : Vs) (μ : Sto) : r0__law_wholes env μ = seqS s0__law_wholes r1__law_wholes env μ := rfl
def db__law_wholes : Vs → Sto → SR :=
  r0__law_wholes
theorem uv__law_wholes (env : Vs) (μ : Sto) : db__law_wholes env μ = r0__law_wholes env μ := rfl
theorem ub__law_wholes (env : Vs) (μ : Sto) : db__law_wholes env μ =
  (seqS (ifS (trD (orD (notD (isTyD .tuple (varD 0))) (bin2 neG (calD lenG (consD (varD 0) nilD)) (varD 1)))) (seqS (retS false (conD (.bl false)))
  nxS) nxS)
  (seqS (retS false (bin2 eqG (calD lenG (consD (compD (seqI (varD 0)) (.one 2) ct0__law_wholes ce0__law_wholes [2]) nilD)) (conD (.int 0))))
  nxS)) env μ := rfl
def d__law_wholes : List D → Sto → R D := funD 2 3 false db__law_wholes
theorem ud__law_wholes (ds : List D) (μ : Sto) : d__law_wholes ds μ = funD 2 3 false db__law_wholes ds μ := rfl
def lt0__law_frac : Vs → Sto → R Bool :=
  (trD (bin2 neG (varD 2) (conD (.int 0))))
theorem u_lt0__law_frac (env : Vs) (μ : Sto) : lt0__law_frac env μ =
  (trD (bin2 neG (varD 2) (conD (.int 0)))) env μ := rfl
def lb0__law_frac : Vs → Sto → SR :=
  (seqS (par2S 2 3 (consD (bin2 modG (varD 3) (varD 2)) (consD (varD 2) nilD)))
  nxS)
theorem u_lb0__law_frac (env : Vs) (μ : Sto) : lb0__law_frac env μ =
  (seqS (par2S 2 3 (consD (bin2 modG (varD 3) (varD 2)) (consD (varD 2) nilD)))
  nxS) env μ := rfl
def s0__law_frac_b0 : Vs → Sto → SR :=
  (par2S 2 3 (consD (bin2 modG (varD 3) (varD 2)) (consD (varD 2) nilD)))
theorem u_s0__law_frac_b0 (env : Vs) (μ : Sto) : s0__law_frac_b0 env μ =
  (par2S 2 3 (consD (bin2 modG (varD 3) (varD 2)) (consD (varD 2) nilD))) env μ := rfl
def r0__law_frac_b0 : Vs → Sto → SR := seqS s0__law_frac_b0 nxS
theorem u_r0__law_frac_b0 (env : Vs) (μ : Sto) : r0__law_frac_b0 env μ = seqS s0__law_frac_b0 nxS env μ := rfl
theorem v_lb0__law_frac (env : Vs) (μ : Sto) : lb0__law_frac env μ = r0__law_frac_b0 env μ := rfl
def s3__law_frac : Vs → Sto → SR :=
  (retS false (tupD (consD (bin2 fdivG (varD 0) (varD 3)) (consD (bin2 fdivG (varD 1) (varD 3)) nilD))))
theorem u_s3__law_frac (env : Vs) (μ : Sto) : s3__law_frac env μ =
  (retS false (tupD (consD (bin2 fdivG (varD 0) (varD 3)) (consD (bin2 fdivG (varD 1) (varD 3)) nilD)))) env μ := rfl
def r3__law_frac : Vs → Sto → SR := seqS s3__law_frac nxS
theorem u_r3__law_frac (env : Vs) (μ : Sto) : r3__law_frac env μ = seqS s3__law_frac nxS env μ := rfl
def s2__law_frac : Vs → Sto → SR :=
  (whileS msA lt0__law_frac lb0__law_frac)
theorem u_s2__law_frac (env : Vs) (μ : Sto) : s2__law_frac env μ =
  (whileS msA lt0__law_frac lb0__law_frac) env μ := rfl
def r2__law_frac : Vs → Sto → SR := seqS s2__law_frac r3__law_frac
theorem u_r2__law_frac (env : Vs) (μ : Sto) : r2__law_frac env μ = seqS s2__law_frac r3__law_frac env μ := rfl
def s1__law_frac : Vs → Sto → SR :=
  (asgS (.one 3) (varD 1))
theorem u_s1__law_frac (env : Vs) (μ : Sto) : s1__law_frac env μ =
  (asgS (.one 3) (varD 1)) env μ := rfl
def r1__law_frac : Vs → Sto → SR := seqS s1__law_frac r2__law_frac
theorem u_r1__law_frac (env : Vs) (μ : Sto) : r1__law_frac env μ = seqS s1__law_frac r2__law_frac env μ := rfl
def s0__law_frac : Vs → Sto → SR :=
  (asgS (.one 2) (calD absG (consD (varD 0) nilD)))
theorem u_s0__law_frac (env : Vs) (μ : Sto) : s0__law_frac env μ =
  (asgS (.one 2) (calD absG (consD (varD 0) nilD))) env μ := rfl
def r0__law_frac : Vs → Sto → SR := seqS s0__law_frac r1__law_frac
theorem u_r0__law_frac (env : Vs) (μ : Sto) : r0__law_frac env μ = seqS s0__law_frac r1__law_frac env μ := rfl
def db__law_frac : Vs → Sto → SR :=
  r0__law_frac
theorem uv__law_frac (env : Vs) (μ : Sto) : db__law_frac env μ = r0__law_frac env μ := rfl
theorem ub__law_frac (env : Vs) (μ : Sto) : db__law_frac env μ =
  (seqS (asgS (.one 2) (calD absG (consD (varD 0) nilD)))
  (seqS (asgS (.one 3) (varD 1))
  (seqS (whileS msA lt0__law_frac lb0__law_frac)
  (seqS (retS false (tupD (consD (bin2 fdivG (varD 0) (varD 3)) (consD (bin2 fdivG (varD 1) (varD 3)) nilD))))
  nxS)))) env μ := rfl
def d__law_frac : List D → Sto → R D := funD 2 4 false db__law_frac
theorem ud__law_frac (ds : List D) (μ : Sto) : d__law_frac ds μ = funD 2 4 false db__law_frac ds μ := rfl
def ct0__law_kinds : Vs → Sto → R Bool :=
  (trD (varD 4))
theorem u_ct0__law_kinds (env : Vs) (μ : Sto) : ct0__law_kinds env μ =
  (trD (varD 4)) env μ := rfl
def ce0__law_kinds : Vs → Sto → R D :=
  (varD 3)
theorem u_ce0__law_kinds (env : Vs) (μ : Sto) : ce0__law_kinds env μ =
  (varD 3) env μ := rfl
def s9__law_kinds : Vs → Sto → SR :=
  (retS false (txtD joinG (conD (.str " ")) (compD (zipI (consD (varD 2) (consD (varD 1) nilD))) (.many [3, 4]) ct0__law_kinds ce0__law_kinds [3, 4])))
theorem u_s9__law_kinds (env : Vs) (μ : Sto) : s9__law_kinds env μ =
  (retS false (txtD joinG (conD (.str " ")) (compD (zipI (consD (varD 2) (consD (varD 1) nilD))) (.many [3, 4]) ct0__law_kinds ce0__law_kinds [3, 4]))) env μ := rfl
def r9__law_kinds : Vs → Sto → SR := seqS s9__law_kinds nxS
theorem u_r9__law_kinds (env : Vs) (μ : Sto) : r9__law_kinds env μ = seqS s9__law_kinds nxS env μ := rfl
def s8__law_kinds : Vs → Sto → SR :=
  (ifS (trD (orD (notD (isED (tl [("NoBottom", true), ("NoCircle", true)]) (varD 0))) (notD (isED (tl [("NoBottom", true), ("NoCircle", true)]) (varD 0))))) (seqS (retS false (conD (.str "other")))
  nxS) nxS)
theorem u_s8__law_kinds (env : Vs) (μ : Sto) : s8__law_kinds env μ =
  (ifS (trD (orD (notD (isED (tl [("NoBottom", true), ("NoCircle", true)]) (varD 0))) (notD (isED (tl [("NoBottom", true), ("NoCircle", true)]) (varD 0))))) (seqS (retS false (conD (.str "other")))
  nxS) nxS) env μ := rfl
def r8__law_kinds : Vs → Sto → SR := seqS s8__law_kinds r9__law_kinds
theorem u_r8__law_kinds (env : Vs) (μ : Sto) : r8__law_kinds env μ = seqS s8__law_kinds r9__law_kinds env μ := rfl
def s7__law_kinds : Vs → Sto → SR :=
  (asgS (.one 2) (bin2 addAll (varD 2) (lstD (consD (conD (.str "pair")) (consD (conD (.str "paper")) (consD (conD (.str "sides")) (consD (conD (.str "spot")) (consD (conD (.str "table")) (consD (conD (.str "text")) (consD (conD (.str "triple")) (consD (conD (.str "many")) nilD)))))))))))
theorem u_s7__law_kinds (env : Vs) (μ : Sto) : s7__law_kinds env μ =
  (asgS (.one 2) (bin2 addAll (varD 2) (lstD (consD (conD (.str "pair")) (consD (conD (.str "paper")) (consD (conD (.str "sides")) (consD (conD (.str "spot")) (consD (conD (.str "table")) (consD (conD (.str "text")) (consD (conD (.str "triple")) (consD (conD (.str "many")) nilD))))))))))) env μ := rfl
def r7__law_kinds : Vs → Sto → SR := seqS s7__law_kinds r8__law_kinds
theorem u_r7__law_kinds (env : Vs) (μ : Sto) : r7__law_kinds env μ = seqS s7__law_kinds r8__law_kinds env μ := rfl
def s6__law_kinds : Vs → Sto → SR :=
  (asgS (.one 2) (lstD (consD (conD (.str "alike")) (consD (conD (.str "bottom")) (consD (conD (.str "chord")) (consD (conD (.str "circle")) (consD (conD (.str "clock")) (consD (conD (.str "cubic")) (consD (conD (.str "curve")) (consD (conD (.str "flag")) (consD (conD (.str "fraction")) (consD (conD (.str "line")) nilD))))))))))))
theorem u_s6__law_kinds (env : Vs) (μ : Sto) : s6__law_kinds env μ =
  (asgS (.one 2) (lstD (consD (conD (.str "alike")) (consD (conD (.str "bottom")) (consD (conD (.str "chord")) (consD (conD (.str "circle")) (consD (conD (.str "clock")) (consD (conD (.str "cubic")) (consD (conD (.str "curve")) (consD (conD (.str "flag")) (consD (conD (.str "fraction")) (consD (conD (.str "line")) nilD)))))))))))) env μ := rfl
def r6__law_kinds : Vs → Sto → SR := seqS s6__law_kinds r7__law_kinds
theorem u_r6__law_kinds (env : Vs) (μ : Sto) : r6__law_kinds env μ = seqS s6__law_kinds r7__law_kinds env μ := rfl
def s5__law_kinds : Vs → Sto → SR :=
  (asgS (.one 1) (bin2 addAll (varD 1) (lstD (consD (isED (tl [("NoBottom", false), ("NoCircle", false)]) (varD 0)) (consD (isED (tl [("NoBottom", false), ("NoCircle", false)]) (varD 0)) (consD (isED (tl [("NoBottom", false), ("NoCircle", false)]) (varD 0)) nilD))))))
theorem u_s5__law_kinds (env : Vs) (μ : Sto) : s5__law_kinds env μ =
  (asgS (.one 1) (bin2 addAll (varD 1) (lstD (consD (isED (tl [("NoBottom", false), ("NoCircle", false)]) (varD 0)) (consD (isED (tl [("NoBottom", false), ("NoCircle", false)]) (varD 0)) (consD (isED (tl [("NoBottom", false), ("NoCircle", false)]) (varD 0)) nilD)))))) env μ := rfl
def r5__law_kinds : Vs → Sto → SR := seqS s5__law_kinds r6__law_kinds
theorem u_r5__law_kinds (env : Vs) (μ : Sto) : r5__law_kinds env μ = seqS s5__law_kinds r6__law_kinds env μ := rfl
def s4__law_kinds : Vs → Sto → SR :=
  (asgS (.one 1) (bin2 addAll (varD 1) (lstD (consD (isED (tl [("NoBottom", false), ("NoCircle", false)]) (varD 0)) (consD (isED (tl [("NoBottom", false), ("NoCircle", false)]) (varD 0)) (consD (isED (tl [("NoBottom", false), ("NoCircle", false)]) (varD 0)) nilD))))))
theorem u_s4__law_kinds (env : Vs) (μ : Sto) : s4__law_kinds env μ =
  (asgS (.one 1) (bin2 addAll (varD 1) (lstD (consD (isED (tl [("NoBottom", false), ("NoCircle", false)]) (varD 0)) (consD (isED (tl [("NoBottom", false), ("NoCircle", false)]) (varD 0)) (consD (isED (tl [("NoBottom", false), ("NoCircle", false)]) (varD 0)) nilD)))))) env μ := rfl
def r4__law_kinds : Vs → Sto → SR := seqS s4__law_kinds r5__law_kinds
theorem u_r4__law_kinds (env : Vs) (μ : Sto) : r4__law_kinds env μ = seqS s4__law_kinds r5__law_kinds env μ := rfl
def s3__law_kinds : Vs → Sto → SR :=
  (asgS (.one 1) (bin2 addAll (varD 1) (lstD (consD (isED (tl [("NoBottom", false), ("NoCircle", false)]) (varD 0)) (consD (isED (tl [("NoBottom", false), ("NoCircle", false)]) (varD 0)) (consD (isED (tl [("NoBottom", false), ("NoCircle", false)]) (varD 0)) nilD))))))
theorem u_s3__law_kinds (env : Vs) (μ : Sto) : s3__law_kinds env μ =
  (asgS (.one 1) (bin2 addAll (varD 1) (lstD (consD (isED (tl [("NoBottom", false), ("NoCircle", false)]) (varD 0)) (consD (isED (tl [("NoBottom", false), ("NoCircle", false)]) (varD 0)) (consD (isED (tl [("NoBottom", false), ("NoCircle", false)]) (varD 0)) nilD)))))) env μ := rfl
def r3__law_kinds : Vs → Sto → SR := seqS s3__law_kinds r4__law_kinds
theorem u_r3__law_kinds (env : Vs) (μ : Sto) : r3__law_kinds env μ = seqS s3__law_kinds r4__law_kinds env μ := rfl
def s2__law_kinds : Vs → Sto → SR :=
  (asgS (.one 1) (bin2 addAll (varD 1) (lstD (consD (isED (tl [("NoBottom", false), ("NoCircle", false)]) (varD 0)) (consD (isED (tl [("NoBottom", false), ("NoCircle", false)]) (varD 0)) (consD (isED (tl [("NoBottom", false), ("NoCircle", false)]) (varD 0)) nilD))))))
theorem u_s2__law_kinds (env : Vs) (μ : Sto) : s2__law_kinds env μ =
  (asgS (.one 1) (bin2 addAll (varD 1) (lstD (consD (isED (tl [("NoBottom", false), ("NoCircle", false)]) (varD 0)) (consD (isED (tl [("NoBottom", false), ("NoCircle", false)]) (varD 0)) (consD (isED (tl [("NoBottom", false), ("NoCircle", false)]) (varD 0)) nilD)))))) env μ := rfl
def r2__law_kinds : Vs → Sto → SR := seqS s2__law_kinds r3__law_kinds
theorem u_r2__law_kinds (env : Vs) (μ : Sto) : r2__law_kinds env μ = seqS s2__law_kinds r3__law_kinds env μ := rfl
def s1__law_kinds : Vs → Sto → SR :=
  (asgS (.one 1) (bin2 addAll (varD 1) (lstD (consD (isED (tl [("NoBottom", false), ("NoCircle", true)]) (varD 0)) (consD (isED (tl [("NoBottom", false), ("NoCircle", false)]) (varD 0)) (consD (isED (tl [("NoBottom", false), ("NoCircle", false)]) (varD 0)) nilD))))))
theorem u_s1__law_kinds (env : Vs) (μ : Sto) : s1__law_kinds env μ =
  (asgS (.one 1) (bin2 addAll (varD 1) (lstD (consD (isED (tl [("NoBottom", false), ("NoCircle", true)]) (varD 0)) (consD (isED (tl [("NoBottom", false), ("NoCircle", false)]) (varD 0)) (consD (isED (tl [("NoBottom", false), ("NoCircle", false)]) (varD 0)) nilD)))))) env μ := rfl
def r1__law_kinds : Vs → Sto → SR := seqS s1__law_kinds r2__law_kinds
theorem u_r1__law_kinds (env : Vs) (μ : Sto) : r1__law_kinds env μ = seqS s1__law_kinds r2__law_kinds env μ := rfl
def s0__law_kinds : Vs → Sto → SR :=
  (asgS (.one 1) (lstD (consD (isED (tl [("NoBottom", false), ("NoCircle", false)]) (varD 0)) (consD (isED (tl [("NoBottom", true), ("NoCircle", false)]) (varD 0)) (consD (isED (tl [("NoBottom", false), ("NoCircle", false)]) (varD 0)) nilD)))))
theorem u_s0__law_kinds (env : Vs) (μ : Sto) : s0__law_kinds env μ =
  (asgS (.one 1) (lstD (consD (isED (tl [("NoBottom", false), ("NoCircle", false)]) (varD 0)) (consD (isED (tl [("NoBottom", true), ("NoCircle", false)]) (varD 0)) (consD (isED (tl [("NoBottom", false), ("NoCircle", false)]) (varD 0)) nilD))))) env μ := rfl
def r0__law_kinds : Vs → Sto → SR := seqS s0__law_kinds r1__law_kinds
theorem u_r0__law_kinds (env : Vs) (μ : Sto) : r0__law_kinds env μ = seqS s0__law_kinds r1__law_kinds env μ := rfl
def db__law_kinds : Vs → Sto → SR :=
  r0__law_kinds
theorem uv__law_kinds (env : Vs) (μ : Sto) : db__law_kinds env μ = r0__law_kinds env μ := rfl
theorem ub__law_kinds (env : Vs) (μ : Sto) : db__law_kinds env μ =
  (seqS (asgS (.one 1) (lstD (consD (isED (tl [("NoBottom", false), ("NoCircle", false)]) (varD 0)) (consD (isED (tl [("NoBottom", true), ("NoCircle", false)]) (varD 0)) (consD (isED (tl [("NoBottom", false), ("NoCircle", false)]) (varD 0)) nilD)))))
  (seqS (asgS (.one 1) (bin2 addAll (varD 1) (lstD (consD (isED (tl [("NoBottom", false), ("NoCircle", true)]) (varD 0)) (consD (isED (tl [("NoBottom", false), ("NoCircle", false)]) (varD 0)) (consD (isED (tl [("NoBottom", false), ("NoCircle", false)]) (varD 0)) nilD))))))
  (seqS (asgS (.one 1) (bin2 addAll (varD 1) (lstD (consD (isED (tl [("NoBottom", false), ("NoCircle", false)]) (varD 0)) (consD (isED (tl [("NoBottom", false), ("NoCircle", false)]) (varD 0)) (consD (isED (tl [("NoBottom", false), ("NoCircle", false)]) (varD 0)) nilD))))))
  (seqS (asgS (.one 1) (bin2 addAll (varD 1) (lstD (consD (isED (tl [("NoBottom", false), ("NoCircle", false)]) (varD 0)) (consD (isED (tl [("NoBottom", false), ("NoCircle", false)]) (varD 0)) (consD (isED (tl [("NoBottom", false), ("NoCircle", false)]) (varD 0)) nilD))))))
  (seqS (asgS (.one 1) (bin2 addAll (varD 1) (lstD (consD (isED (tl [("NoBottom", false), ("NoCircle", false)]) (varD 0)) (consD (isED (tl [("NoBottom", false), ("NoCircle", false)]) (varD 0)) (consD (isED (tl [("NoBottom", false), ("NoCircle", false)]) (varD 0)) nilD))))))
  (seqS (asgS (.one 1) (bin2 addAll (varD 1) (lstD (consD (isED (tl [("NoBottom", false), ("NoCircle", false)]) (varD 0)) (consD (isED (tl [("NoBottom", false), ("NoCircle", false)]) (varD 0)) (consD (isED (tl [("NoBottom", false), ("NoCircle", false)]) (varD 0)) nilD))))))
  (seqS (asgS (.one 2) (lstD (consD (conD (.str "alike")) (consD (conD (.str "bottom")) (consD (conD (.str "chord")) (consD (conD (.str "circle")) (consD (conD (.str "clock")) (consD (conD (.str "cubic")) (consD (conD (.str "curve")) (consD (conD (.str "flag")) (consD (conD (.str "fraction")) (consD (conD (.str "line")) nilD))))))))))))
  (seqS (asgS (.one 2) (bin2 addAll (varD 2) (lstD (consD (conD (.str "pair")) (consD (conD (.str "paper")) (consD (conD (.str "sides")) (consD (conD (.str "spot")) (consD (conD (.str "table")) (consD (conD (.str "text")) (consD (conD (.str "triple")) (consD (conD (.str "many")) nilD)))))))))))
  (seqS (ifS (trD (orD (notD (isED (tl [("NoBottom", true), ("NoCircle", true)]) (varD 0))) (notD (isED (tl [("NoBottom", true), ("NoCircle", true)]) (varD 0))))) (seqS (retS false (conD (.str "other")))
  nxS) nxS)
  (seqS (retS false (txtD joinG (conD (.str " ")) (compD (zipI (consD (varD 2) (consD (varD 1) nilD))) (.many [3, 4]) ct0__law_kinds ce0__law_kinds [3, 4])))
  nxS)))))))))) env μ := rfl
def d__law_kinds : List D → Sto → R D := funD 1 5 false db__law_kinds
theorem ud__law_kinds (ds : List D) (μ : Sto) : d__law_kinds ds μ = funD 1 5 false db__law_kinds ds μ := rfl
def s1_is_fraction : Vs → Sto → SR :=
  (retS false (andD (bin2 geG (bin2 ixG (varD 0) (conD (.int 1))) (conD (.int 1))) (bin2 eqG (callD d_common_of (consD (varD 0) nilD)) (conD (.int 1)))))
theorem u_s1_is_fraction (env : Vs) (μ : Sto) : s1_is_fraction env μ =
  (retS false (andD (bin2 geG (bin2 ixG (varD 0) (conD (.int 1))) (conD (.int 1))) (bin2 eqG (callD d_common_of (consD (varD 0) nilD)) (conD (.int 1))))) env μ := rfl
def r1_is_fraction : Vs → Sto → SR := seqS s1_is_fraction nxS
theorem u_r1_is_fraction (env : Vs) (μ : Sto) : r1_is_fraction env μ = seqS s1_is_fraction nxS env μ := rfl
def s0_is_fraction : Vs → Sto → SR :=
  (ifS (trD (orD (notD (isTyD .tuple (varD 0))) (orD (bin2 neG (calD lenG (consD (varD 0) nilD)) (conD (.int 2))) (orD (notD (callD d_is_number (consD (bin2 ixG (varD 0) (conD (.int 0))) nilD))) (notD (callD d_is_number (consD (bin2 ixG (varD 0) (conD (.int 1))) nilD))))))) (seqS (retS false (conD (.bl false)))
  nxS) nxS)
theorem u_s0_is_fraction (env : Vs) (μ : Sto) : s0_is_fraction env μ =
  (ifS (trD (orD (notD (isTyD .tuple (varD 0))) (orD (bin2 neG (calD lenG (consD (varD 0) nilD)) (conD (.int 2))) (orD (notD (callD d_is_number (consD (bin2 ixG (varD 0) (conD (.int 0))) nilD))) (notD (callD d_is_number (consD (bin2 ixG (varD 0) (conD (.int 1))) nilD))))))) (seqS (retS false (conD (.bl false)))
  nxS) nxS) env μ := rfl
def r0_is_fraction : Vs → Sto → SR := seqS s0_is_fraction r1_is_fraction
theorem u_r0_is_fraction (env : Vs) (μ : Sto) : r0_is_fraction env μ = seqS s0_is_fraction r1_is_fraction env μ := rfl
def db_is_fraction : Vs → Sto → SR :=
  r0_is_fraction
theorem uv_is_fraction (env : Vs) (μ : Sto) : db_is_fraction env μ = r0_is_fraction env μ := rfl
theorem ub_is_fraction (env : Vs) (μ : Sto) : db_is_fraction env μ =
  (seqS (ifS (trD (orD (notD (isTyD .tuple (varD 0))) (orD (bin2 neG (calD lenG (consD (varD 0) nilD)) (conD (.int 2))) (orD (notD (callD d_is_number (consD (bin2 ixG (varD 0) (conD (.int 0))) nilD))) (notD (callD d_is_number (consD (bin2 ixG (varD 0) (conD (.int 1))) nilD))))))) (seqS (retS false (conD (.bl false)))
  nxS) nxS)
  (seqS (retS false (andD (bin2 geG (bin2 ixG (varD 0) (conD (.int 1))) (conD (.int 1))) (bin2 eqG (callD d_common_of (consD (varD 0) nilD)) (conD (.int 1)))))
  nxS)) env μ := rfl
def d_is_fraction : List D → Sto → R D := funD 1 1 false db_is_fraction
theorem ud_is_fraction (ds : List D) (μ : Sto) : d_is_fraction ds μ = funD 1 1 false db_is_fraction ds μ := rfl
def s3_fraction_of : Vs → Sto → SR :=
  (retS false (tupD (consD (bin2 fdivG (varD 0) (varD 2)) (consD (bin2 fdivG (varD 1) (varD 2)) nilD))))
theorem u_s3_fraction_of (env : Vs) (μ : Sto) : s3_fraction_of env μ =
  (retS false (tupD (consD (bin2 fdivG (varD 0) (varD 2)) (consD (bin2 fdivG (varD 1) (varD 2)) nilD)))) env μ := rfl
def r3_fraction_of : Vs → Sto → SR := seqS s3_fraction_of nxS
theorem u_r3_fraction_of (env : Vs) (μ : Sto) : r3_fraction_of env μ = seqS s3_fraction_of nxS env μ := rfl
def s2_fraction_of : Vs → Sto → SR :=
  (ifS (trD (bin2 ltG (varD 1) (conD (.int 0)))) (seqS (asgS (.one 2) (bin2 subG (conD (.int 0)) (varD 2)))
  nxS) nxS)
theorem u_s2_fraction_of (env : Vs) (μ : Sto) : s2_fraction_of env μ =
  (ifS (trD (bin2 ltG (varD 1) (conD (.int 0)))) (seqS (asgS (.one 2) (bin2 subG (conD (.int 0)) (varD 2)))
  nxS) nxS) env μ := rfl
def r2_fraction_of : Vs → Sto → SR := seqS s2_fraction_of r3_fraction_of
theorem u_r2_fraction_of (env : Vs) (μ : Sto) : r2_fraction_of env μ = seqS s2_fraction_of r3_fraction_of env μ := rfl
def s1_fraction_of : Vs → Sto → SR :=
  (asgS (.one 2) (callD d_common_of (consD (tupD (consD (varD 0) (consD (varD 1) nilD))) nilD)))
theorem u_s1_fraction_of (env : Vs) (μ : Sto) : s1_fraction_of env μ =
  (asgS (.one 2) (callD d_common_of (consD (tupD (consD (varD 0) (consD (varD 1) nilD))) nilD))) env μ := rfl
def r1_fraction_of : Vs → Sto → SR := seqS s1_fraction_of r2_fraction_of
theorem u_r1_fraction_of (env : Vs) (μ : Sto) : r1_fraction_of env μ = seqS s1_fraction_of r2_fraction_of env μ := rfl
def s0_fraction_of : Vs → Sto → SR :=
  (ifS (trD (bin2 eqG (varD 1) (conD (.int 0)))) (seqS (raiseS "NoBottom")
  nxS) nxS)
theorem u_s0_fraction_of (env : Vs) (μ : Sto) : s0_fraction_of env μ =
  (ifS (trD (bin2 eqG (varD 1) (conD (.int 0)))) (seqS (raiseS "NoBottom")
  nxS) nxS) env μ := rfl
def r0_fraction_of : Vs → Sto → SR := seqS s0_fraction_of r1_fraction_of
theorem u_r0_fraction_of (env : Vs) (μ : Sto) : r0_fraction_of env μ = seqS s0_fraction_of r1_fraction_of env μ := rfl
def db_fraction_of : Vs → Sto → SR :=
  r0_fraction_of
theorem uv_fraction_of (env : Vs) (μ : Sto) : db_fraction_of env μ = r0_fraction_of env μ := rfl
theorem ub_fraction_of (env : Vs) (μ : Sto) : db_fraction_of env μ =
  (seqS (ifS (trD (bin2 eqG (varD 1) (conD (.int 0)))) (seqS (raiseS "NoBottom")
  nxS) nxS)
  (seqS (asgS (.one 2) (callD d_common_of (consD (tupD (consD (varD 0) (consD (varD 1) nilD))) nilD)))
  (seqS (ifS (trD (bin2 ltG (varD 1) (conD (.int 0)))) (seqS (asgS (.one 2) (bin2 subG (conD (.int 0)) (varD 2)))
  nxS) nxS)
  (seqS (retS false (tupD (consD (bin2 fdivG (varD 0) (varD 2)) (consD (bin2 fdivG (varD 1) (varD 2)) nilD))))
  nxS)))) env μ := rfl
def d_fraction_of : List D → Sto → R D := funD 2 3 false db_fraction_of
theorem ud_fraction_of (ds : List D) (μ : Sto) : d_fraction_of ds μ = funD 2 3 false db_fraction_of ds μ := rfl
def ce0_kept_six : Vs → Sto → R D :=
  (bin2 fdivG (varD 2) (varD 1))
theorem u_ce0_kept_six (env : Vs) (μ : Sto) : ce0_kept_six env μ =
  (bin2 fdivG (varD 2) (varD 1)) env μ := rfl
def s1_kept_six : Vs → Sto → SR :=
  (retS false (callD d_turned_sign (consD (calD tupG (consD (compD (seqI (varD 0)) (.one 2) yesD ce0_kept_six [2]) nilD)) nilD)))
theorem u_s1_kept_six (env : Vs) (μ : Sto) : s1_kept_six env μ =
  (retS false (callD d_turned_sign (consD (calD tupG (consD (compD (seqI (varD 0)) (.one 2) yesD ce0_kept_six [2]) nilD)) nilD))) env μ := rfl
def r1_kept_six : Vs → Sto → SR := seqS s1_kept_six nxS
theorem u_r1_kept_six (env : Vs) (μ : Sto) : r1_kept_six env μ = seqS s1_kept_six nxS env μ := rfl
def s0_kept_six : Vs → Sto → SR :=
  (asgS (.one 1) (callD d_common_of (consD (varD 0) nilD)))
theorem u_s0_kept_six (env : Vs) (μ : Sto) : s0_kept_six env μ =
  (asgS (.one 1) (callD d_common_of (consD (varD 0) nilD))) env μ := rfl
def r0_kept_six : Vs → Sto → SR := seqS s0_kept_six r1_kept_six
theorem u_r0_kept_six (env : Vs) (μ : Sto) : r0_kept_six env μ = seqS s0_kept_six r1_kept_six env μ := rfl
def db_kept_six : Vs → Sto → SR :=
  r0_kept_six
theorem uv_kept_six (env : Vs) (μ : Sto) : db_kept_six env μ = r0_kept_six env μ := rfl
theorem ub_kept_six (env : Vs) (μ : Sto) : db_kept_six env μ =
  (seqS (asgS (.one 1) (callD d_common_of (consD (varD 0) nilD)))
  (seqS (retS false (callD d_turned_sign (consD (calD tupG (consD (compD (seqI (varD 0)) (.one 2) yesD ce0_kept_six [2]) nilD)) nilD)))
  nxS)) env μ := rfl
def d_kept_six : List D → Sto → R D := funD 1 3 false db_kept_six
theorem ud_kept_six (ds : List D) (μ : Sto) : d_kept_six ds μ = funD 1 3 false db_kept_six ds μ := rfl
def ct0__law_kept : Vs → Sto → R Bool :=
  (trD (bin2 neG (varD 3) (conD (.int 0))))
theorem u_ct0__law_kept (env : Vs) (μ : Sto) : ct0__law_kept env μ =
  (trD (bin2 neG (varD 3) (conD (.int 0)))) env μ := rfl
def ce0__law_kept : Vs → Sto → R D :=
  (varD 3)
theorem u_ce0__law_kept (env : Vs) (μ : Sto) : ce0__law_kept env μ =
  (varD 3) env μ := rfl
def ce1__law_kept : Vs → Sto → R D :=
  (bin2 fdivG (varD 3) (varD 1))
theorem u_ce1__law_kept (env : Vs) (μ : Sto) : ce1__law_kept env μ =
  (bin2 fdivG (varD 3) (varD 1)) env μ := rfl
def s3__law_kept : Vs → Sto → SR :=
  (retS false (calD tupG (consD (compD (seqI (varD 0)) (.one 3) yesD ce1__law_kept [3]) nilD)))
theorem u_s3__law_kept (env : Vs) (μ : Sto) : s3__law_kept env μ =
  (retS false (calD tupG (consD (compD (seqI (varD 0)) (.one 3) yesD ce1__law_kept [3]) nilD))) env μ := rfl
def r3__law_kept : Vs → Sto → SR := seqS s3__law_kept nxS
theorem u_r3__law_kept (env : Vs) (μ : Sto) : r3__law_kept env μ = seqS s3__law_kept nxS env μ := rfl
def s2__law_kept : Vs → Sto → SR :=
  (ifS (trD (bin2 ltG (varD 2) (conD (.int 0)))) (seqS (asgS (.one 1) (bin2 subG (conD (.int 0)) (varD 1)))
  nxS) nxS)
theorem u_s2__law_kept (env : Vs) (μ : Sto) : s2__law_kept env μ =
  (ifS (trD (bin2 ltG (varD 2) (conD (.int 0)))) (seqS (asgS (.one 1) (bin2 subG (conD (.int 0)) (varD 1)))
  nxS) nxS) env μ := rfl
def r2__law_kept : Vs → Sto → SR := seqS s2__law_kept r3__law_kept
theorem u_r2__law_kept (env : Vs) (μ : Sto) : r2__law_kept env μ = seqS s2__law_kept r3__law_kept env μ := rfl
def s1__law_kept : Vs → Sto → SR :=
  (asgS (.one 2) (bin2 ixG (compD (seqI (varD 0)) (.one 3) ct0__law_kept ce0__law_kept [3]) (conD (.int 0))))
theorem u_s1__law_kept (env : Vs) (μ : Sto) : s1__law_kept env μ =
  (asgS (.one 2) (bin2 ixG (compD (seqI (varD 0)) (.one 3) ct0__law_kept ce0__law_kept [3]) (conD (.int 0)))) env μ := rfl
def r1__law_kept : Vs → Sto → SR := seqS s1__law_kept r2__law_kept
theorem u_r1__law_kept (env : Vs) (μ : Sto) : r1__law_kept env μ = seqS s1__law_kept r2__law_kept env μ := rfl
def s0__law_kept : Vs → Sto → SR :=
  (asgS (.one 1) (callD d__law_common (consD (varD 0) nilD)))
theorem u_s0__law_kept (env : Vs) (μ : Sto) : s0__law_kept env μ =
  (asgS (.one 1) (callD d__law_common (consD (varD 0) nilD))) env μ := rfl
def r0__law_kept : Vs → Sto → SR := seqS s0__law_kept r1__law_kept
theorem u_r0__law_kept (env : Vs) (μ : Sto) : r0__law_kept env μ = seqS s0__law_kept r1__law_kept env μ := rfl
def db__law_kept : Vs → Sto → SR :=
  r0__law_kept
theorem uv__law_kept (env : Vs) (μ : Sto) : db__law_kept env μ = r0__law_kept env μ := rfl
theorem ub__law_kept (env : Vs) (μ : Sto) : db__law_kept env μ =
  (seqS (asgS (.one 1) (callD d__law_common (consD (varD 0) nilD)))
  (seqS (asgS (.one 2) (bin2 ixG (compD (seqI (varD 0)) (.one 3) ct0__law_kept ce0__law_kept [3]) (conD (.int 0))))
  (seqS (ifS (trD (bin2 ltG (varD 2) (conD (.int 0)))) (seqS (asgS (.one 1) (bin2 subG (conD (.int 0)) (varD 1)))
  nxS) nxS)
  (seqS (retS false (calD tupG (consD (compD (seqI (varD 0)) (.one 3) yesD ce1__law_kept [3]) nilD)))
  nxS)))) env μ := rfl
def d__law_kept : List D → Sto → R D := funD 1 4 false db__law_kept
theorem ud__law_kept (ds : List D) (μ : Sto) : d__law_kept ds μ = funD 1 4 false db__law_kept ds μ := rfl
def s3__law_fraction : Vs → Sto → SR :=
  (retS false (callD d__law_frac (consD (bin2 addAll (bin2 subG (callD d__law_draw (consD (varD 0) (consD (bin2 subG (bin2 mulG (conD (.int 2)) (varD 2)) (conD (.int 1))) nilD))) (varD 2)) (conD (.int 1))) (consD (bin2 addAll (conD (.int 1)) (callD d__law_draw (consD (varD 0) (consD (bin2 subG (varD 2) (conD (.int 1))) nilD)))) nilD))))
theorem u_s3__law_fraction (env : Vs) (μ : Sto) : s3__law_fraction env μ =
  (retS false (callD d__law_frac (consD (bin2 addAll (bin2 subG (callD d__law_draw (consD (varD 0) (consD (bin2 subG (bin2 mulG (conD (.int 2)) (varD 2)) (conD (.int 1))) nilD))) (varD 2)) (conD (.int 1))) (consD (bin2 addAll (conD (.int 1)) (callD d__law_draw (consD (varD 0) (consD (bin2 subG (varD 2) (conD (.int 1))) nilD)))) nilD)))) env μ := rfl
def r3__law_fraction : Vs → Sto → SR := seqS s3__law_fraction nxS
theorem u_r3__law_fraction (env : Vs) (μ : Sto) : r3__law_fraction env μ = seqS s3__law_fraction nxS env μ := rfl
def s2__law_fraction : Vs → Sto → SR :=
  (asgS (.one 2) (bin2 ixG (lstD (consD (conD (.int 9)) (consD (conD (.int 30)) (consD (bin2 powG (conD (.int 10)) (conD (.int 12))) nilD)))) (callD d__law_draw (consD (varD 0) (consD (conD (.int 3)) nilD)))))
theorem u_s2__law_fraction (env : Vs) (μ : Sto) : s2__law_fraction env μ =
  (asgS (.one 2) (bin2 ixG (lstD (consD (conD (.int 9)) (consD (conD (.int 30)) (consD (bin2 powG (conD (.int 10)) (conD (.int 12))) nilD)))) (callD d__law_draw (consD (varD 0) (consD (conD (.int 3)) nilD))))) env μ := rfl
def r2__law_fraction : Vs → Sto → SR := seqS s2__law_fraction r3__law_fraction
theorem u_r2__law_fraction (env : Vs) (μ : Sto) : r2__law_fraction env μ = seqS s2__law_fraction r3__law_fraction env μ := rfl
def s1__law_fraction : Vs → Sto → SR :=
  (ifS (trD (bin2 eqG (varD 1) (conD (.int 0)))) (seqS (retS false (tupD (consD (conD (.int 0)) (consD (conD (.int 1)) nilD))))
  nxS) nxS)
theorem u_s1__law_fraction (env : Vs) (μ : Sto) : s1__law_fraction env μ =
  (ifS (trD (bin2 eqG (varD 1) (conD (.int 0)))) (seqS (retS false (tupD (consD (conD (.int 0)) (consD (conD (.int 1)) nilD))))
  nxS) nxS) env μ := rfl
def r1__law_fraction : Vs → Sto → SR := seqS s1__law_fraction r2__law_fraction
theorem u_r1__law_fraction (env : Vs) (μ : Sto) : r1__law_fraction env μ = seqS s1__law_fraction r2__law_fraction env μ := rfl
def s0__law_fraction : Vs → Sto → SR :=
  (asgS (.one 1) (callD d__law_draw (consD (varD 0) (consD (conD (.int 4)) nilD))))
theorem u_s0__law_fraction (env : Vs) (μ : Sto) : s0__law_fraction env μ =
  (asgS (.one 1) (callD d__law_draw (consD (varD 0) (consD (conD (.int 4)) nilD)))) env μ := rfl
def r0__law_fraction : Vs → Sto → SR := seqS s0__law_fraction r1__law_fraction
theorem u_r0__law_fraction (env : Vs) (μ : Sto) : r0__law_fraction env μ = seqS s0__law_fraction r1__law_fraction env μ := rfl
def db__law_fraction : Vs → Sto → SR :=
  r0__law_fraction
theorem uv__law_fraction (env : Vs) (μ : Sto) : db__law_fraction env μ = r0__law_fraction env μ := rfl
theorem ub__law_fraction (env : Vs) (μ : Sto) : db__law_fraction env μ =
  (seqS (asgS (.one 1) (callD d__law_draw (consD (varD 0) (consD (conD (.int 4)) nilD))))
  (seqS (ifS (trD (bin2 eqG (varD 1) (conD (.int 0)))) (seqS (retS false (tupD (consD (conD (.int 0)) (consD (conD (.int 1)) nilD))))
  nxS) nxS)
  (seqS (asgS (.one 2) (bin2 ixG (lstD (consD (conD (.int 9)) (consD (conD (.int 30)) (consD (bin2 powG (conD (.int 10)) (conD (.int 12))) nilD)))) (callD d__law_draw (consD (varD 0) (consD (conD (.int 3)) nilD)))))
  (seqS (retS false (callD d__law_frac (consD (bin2 addAll (bin2 subG (callD d__law_draw (consD (varD 0) (consD (bin2 subG (bin2 mulG (conD (.int 2)) (varD 2)) (conD (.int 1))) nilD))) (varD 2)) (conD (.int 1))) (consD (bin2 addAll (conD (.int 1)) (callD d__law_draw (consD (varD 0) (consD (bin2 subG (varD 2) (conD (.int 1))) nilD)))) nilD))))
  nxS)))) env μ := rfl
def d__law_fraction : List D → Sto → R D := funD 1 3 false db__law_fraction
theorem ud__law_fraction (ds : List D) (μ : Sto) : d__law_fraction ds μ = funD 1 3 false db__law_fraction ds μ := rfl
def s3__law_spoilt : Vs → Sto → SR :=
  (retS false (bin2 ixG (varD 4) (callD d__law_draw (consD (varD 0) (consD (calD lenG (consD (varD 4) nilD)) nilD)))))
theorem u_s3__law_spoilt (env : Vs) (μ : Sto) : s3__law_spoilt env μ =
  (retS false (bin2 ixG (varD 4) (callD d__law_draw (consD (varD 0) (consD (calD lenG (consD (varD 4) nilD)) nilD))))) env μ := rfl
def r3__law_spoilt : Vs → Sto → SR := seqS s3__law_spoilt nxS
theorem u_r3__law_spoilt (env : Vs) (μ : Sto) : r3__law_spoilt env μ = seqS s3__law_spoilt nxS env μ := rfl
def s2__law_spoilt : Vs → Sto → SR :=
  (asgS (.one 4) (bin2 addAll (varD 4) (lstD (consD (tupD (consD (conD (.bl true)) (consD (conD (.int 1)) nilD))) (consD (tupD (consD (conD (.int 1)) (consD (conD (.bl true)) nilD))) (consD (tupD (consD (conD (.str "1")) (consD (conD (.int 1)) nilD))) (consD (tupD (consD (conD (.int 1)) (consD (conD .non) nilD))) (consD (tupD (consD (tupD (consD (conD (.int 1)) (consD (conD (.int 1)) nilD))) (consD (conD (.int 1)) nilD))) (consD (conD (.int 1)) nilD)))))))))
theorem u_s2__law_spoilt (env : Vs) (μ : Sto) : s2__law_spoilt env μ =
  (asgS (.one 4) (bin2 addAll (varD 4) (lstD (consD (tupD (consD (conD (.bl true)) (consD (conD (.int 1)) nilD))) (consD (tupD (consD (conD (.int 1)) (consD (conD (.bl true)) nilD))) (consD (tupD (consD (conD (.str "1")) (consD (conD (.int 1)) nilD))) (consD (tupD (consD (conD (.int 1)) (consD (conD .non) nilD))) (consD (tupD (consD (tupD (consD (conD (.int 1)) (consD (conD (.int 1)) nilD))) (consD (conD (.int 1)) nilD))) (consD (conD (.int 1)) nilD))))))))) env μ := rfl
def r2__law_spoilt : Vs → Sto → SR := seqS s2__law_spoilt r3__law_spoilt
theorem u_r2__law_spoilt (env : Vs) (μ : Sto) : r2__law_spoilt env μ = seqS s2__law_spoilt r3__law_spoilt env μ := rfl
def s1__law_spoilt : Vs → Sto → SR :=
  (asgS (.one 4) (lstD (consD (conD .non) (consD (conD (.int 0)) (consD (conD (.bl true)) (consD (conD (.str "1/2")) (consD (lstD (consD (varD 2) (consD (varD 3) nilD))) (consD (tupD (consD (varD 2) nilD)) (consD (tupD (consD (varD 2) (consD (varD 3) (consD (conD (.int 1)) nilD)))) (consD (tupD (consD (bin2 addAll (bin2 mulG (conD (.int 2)) (varD 2)) (conD (.int 2))) (consD (conD (.int 2)) nilD))) (consD (tupD (consD (varD 2) (consD (conD (.int 0)) nilD))) (consD (tupD (consD (conD (.int 3)) (consD (negD (conD (.int 1))) nilD))) (consD (tupD nilD) nilD)))))))))))))
theorem u_s1__law_spoilt (env : Vs) (μ : Sto) : s1__law_spoilt env μ =
  (asgS (.one 4) (lstD (consD (conD .non) (consD (conD (.int 0)) (consD (conD (.bl true)) (consD (conD (.str "1/2")) (consD (lstD (consD (varD 2) (consD (varD 3) nilD))) (consD (tupD (consD (varD 2) nilD)) (consD (tupD (consD (varD 2) (consD (varD 3) (consD (conD (.int 1)) nilD)))) (consD (tupD (consD (bin2 addAll (bin2 mulG (conD (.int 2)) (varD 2)) (conD (.int 2))) (consD (conD (.int 2)) nilD))) (consD (tupD (consD (varD 2) (consD (conD (.int 0)) nilD))) (consD (tupD (consD (conD (.int 3)) (consD (negD (conD (.int 1))) nilD))) (consD (tupD nilD) nilD))))))))))))) env μ := rfl
def r1__law_spoilt : Vs → Sto → SR := seqS s1__law_spoilt r2__law_spoilt
theorem u_r1__law_spoilt (env : Vs) (μ : Sto) : r1__law_spoilt env μ = seqS s1__law_spoilt r2__law_spoilt env μ := rfl
def s0__law_spoilt : Vs → Sto → SR :=
  (asgS (.many [2, 3]) (varD 1))
theorem u_s0__law_spoilt (env : Vs) (μ : Sto) : s0__law_spoilt env μ =
  (asgS (.many [2, 3]) (varD 1)) env μ := rfl
def r0__law_spoilt : Vs → Sto → SR := seqS s0__law_spoilt r1__law_spoilt
theorem u_r0__law_spoilt (env : Vs) (μ : Sto) : r0__law_spoilt env μ = seqS s0__law_spoilt r1__law_spoilt env μ := rfl
def db__law_spoilt : Vs → Sto → SR :=
  r0__law_spoilt
theorem uv__law_spoilt (env : Vs) (μ : Sto) : db__law_spoilt env μ = r0__law_spoilt env μ := rfl
theorem ub__law_spoilt (env : Vs) (μ : Sto) : db__law_spoilt env μ =
  (seqS (asgS (.many [2, 3]) (varD 1))
  (seqS (asgS (.one 4) (lstD (consD (conD .non) (consD (conD (.int 0)) (consD (conD (.bl true)) (consD (conD (.str "1/2")) (consD (lstD (consD (varD 2) (consD (varD 3) nilD))) (consD (tupD (consD (varD 2) nilD)) (consD (tupD (consD (varD 2) (consD (varD 3) (consD (conD (.int 1)) nilD)))) (consD (tupD (consD (bin2 addAll (bin2 mulG (conD (.int 2)) (varD 2)) (conD (.int 2))) (consD (conD (.int 2)) nilD))) (consD (tupD (consD (varD 2) (consD (conD (.int 0)) nilD))) (consD (tupD (consD (conD (.int 3)) (consD (negD (conD (.int 1))) nilD))) (consD (tupD nilD) nilD)))))))))))))
  (seqS (asgS (.one 4) (bin2 addAll (varD 4) (lstD (consD (tupD (consD (conD (.bl true)) (consD (conD (.int 1)) nilD))) (consD (tupD (consD (conD (.int 1)) (consD (conD (.bl true)) nilD))) (consD (tupD (consD (conD (.str "1")) (consD (conD (.int 1)) nilD))) (consD (tupD (consD (conD (.int 1)) (consD (conD .non) nilD))) (consD (tupD (consD (tupD (consD (conD (.int 1)) (consD (conD (.int 1)) nilD))) (consD (conD (.int 1)) nilD))) (consD (conD (.int 1)) nilD)))))))))
  (seqS (retS false (bin2 ixG (varD 4) (callD d__law_draw (consD (varD 0) (consD (calD lenG (consD (varD 4) nilD)) nilD)))))
  nxS)))) env μ := rfl
def d__law_spoilt : List D → Sto → R D := funD 2 5 false db__law_spoilt
theorem ud__law_spoilt (ds : List D) (μ : Sto) : d__law_spoilt ds μ = funD 2 5 false db__law_spoilt ds μ := rfl
def s0_frac_sum : Vs → Sto → SR :=
  (retS false (callD d_fraction_of (consD (bin2 addAll (bin2 mulG (bin2 ixG (varD 0) (conD (.int 0))) (bin2 ixG (varD 1) (conD (.int 1)))) (bin2 mulG (bin2 ixG (varD 1) (conD (.int 0))) (bin2 ixG (varD 0) (conD (.int 1))))) (consD (bin2 mulG (bin2 ixG (varD 0) (conD (.int 1))) (bin2 ixG (varD 1) (conD (.int 1)))) nilD))))
theorem u_s0_frac_sum (env : Vs) (μ : Sto) : s0_frac_sum env μ =
  (retS false (callD d_fraction_of (consD (bin2 addAll (bin2 mulG (bin2 ixG (varD 0) (conD (.int 0))) (bin2 ixG (varD 1) (conD (.int 1)))) (bin2 mulG (bin2 ixG (varD 1) (conD (.int 0))) (bin2 ixG (varD 0) (conD (.int 1))))) (consD (bin2 mulG (bin2 ixG (varD 0) (conD (.int 1))) (bin2 ixG (varD 1) (conD (.int 1)))) nilD)))) env μ := rfl
def r0_frac_sum : Vs → Sto → SR := seqS s0_frac_sum nxS
theorem u_r0_frac_sum (env : Vs) (μ : Sto) : r0_frac_sum env μ = seqS s0_frac_sum nxS env μ := rfl
def db_frac_sum : Vs → Sto → SR :=
  r0_frac_sum
theorem uv_frac_sum (env : Vs) (μ : Sto) : db_frac_sum env μ = r0_frac_sum env μ := rfl
theorem ub_frac_sum (env : Vs) (μ : Sto) : db_frac_sum env μ =
  (seqS (retS false (callD d_fraction_of (consD (bin2 addAll (bin2 mulG (bin2 ixG (varD 0) (conD (.int 0))) (bin2 ixG (varD 1) (conD (.int 1)))) (bin2 mulG (bin2 ixG (varD 1) (conD (.int 0))) (bin2 ixG (varD 0) (conD (.int 1))))) (consD (bin2 mulG (bin2 ixG (varD 0) (conD (.int 1))) (bin2 ixG (varD 1) (conD (.int 1)))) nilD))))
  nxS) env μ := rfl
def d_frac_sum : List D → Sto → R D := funD 2 2 false db_frac_sum
theorem ud_frac_sum (ds : List D) (μ : Sto) : d_frac_sum ds μ = funD 2 2 false db_frac_sum ds μ := rfl
def s0_frac_less : Vs → Sto → SR :=
  (retS false (callD d_fraction_of (consD (bin2 subG (bin2 mulG (bin2 ixG (varD 0) (conD (.int 0))) (bin2 ixG (varD 1) (conD (.int 1)))) (bin2 mulG (bin2 ixG (varD 1) (conD (.int 0))) (bin2 ixG (varD 0) (conD (.int 1))))) (consD (bin2 mulG (bin2 ixG (varD 0) (conD (.int 1))) (bin2 ixG (varD 1) (conD (.int 1)))) nilD))))
theorem u_s0_frac_less (env : Vs) (μ : Sto) : s0_frac_less env μ =
  (retS false (callD d_fraction_of (consD (bin2 subG (bin2 mulG (bin2 ixG (varD 0) (conD (.int 0))) (bin2 ixG (varD 1) (conD (.int 1)))) (bin2 mulG (bin2 ixG (varD 1) (conD (.int 0))) (bin2 ixG (varD 0) (conD (.int 1))))) (consD (bin2 mulG (bin2 ixG (varD 0) (conD (.int 1))) (bin2 ixG (varD 1) (conD (.int 1)))) nilD)))) env μ := rfl
def r0_frac_less : Vs → Sto → SR := seqS s0_frac_less nxS
theorem u_r0_frac_less (env : Vs) (μ : Sto) : r0_frac_less env μ = seqS s0_frac_less nxS env μ := rfl
def db_frac_less : Vs → Sto → SR :=
  r0_frac_less
theorem uv_frac_less (env : Vs) (μ : Sto) : db_frac_less env μ = r0_frac_less env μ := rfl
theorem ub_frac_less (env : Vs) (μ : Sto) : db_frac_less env μ =
  (seqS (retS false (callD d_fraction_of (consD (bin2 subG (bin2 mulG (bin2 ixG (varD 0) (conD (.int 0))) (bin2 ixG (varD 1) (conD (.int 1)))) (bin2 mulG (bin2 ixG (varD 1) (conD (.int 0))) (bin2 ixG (varD 0) (conD (.int 1))))) (consD (bin2 mulG (bin2 ixG (varD 0) (conD (.int 1))) (bin2 ixG (varD 1) (conD (.int 1)))) nilD))))
  nxS) env μ := rfl
def d_frac_less : List D → Sto → R D := funD 2 2 false db_frac_less
theorem ud_frac_less (ds : List D) (μ : Sto) : d_frac_less ds μ = funD 2 2 false db_frac_less ds μ := rfl
def s0_frac_times : Vs → Sto → SR :=
  (retS false (callD d_fraction_of (consD (bin2 mulG (bin2 ixG (varD 0) (conD (.int 0))) (bin2 ixG (varD 1) (conD (.int 0)))) (consD (bin2 mulG (bin2 ixG (varD 0) (conD (.int 1))) (bin2 ixG (varD 1) (conD (.int 1)))) nilD))))
theorem u_s0_frac_times (env : Vs) (μ : Sto) : s0_frac_times env μ =
  (retS false (callD d_fraction_of (consD (bin2 mulG (bin2 ixG (varD 0) (conD (.int 0))) (bin2 ixG (varD 1) (conD (.int 0)))) (consD (bin2 mulG (bin2 ixG (varD 0) (conD (.int 1))) (bin2 ixG (varD 1) (conD (.int 1)))) nilD)))) env μ := rfl
def r0_frac_times : Vs → Sto → SR := seqS s0_frac_times nxS
theorem u_r0_frac_times (env : Vs) (μ : Sto) : r0_frac_times env μ = seqS s0_frac_times nxS env μ := rfl
def db_frac_times : Vs → Sto → SR :=
  r0_frac_times
theorem uv_frac_times (env : Vs) (μ : Sto) : db_frac_times env μ = r0_frac_times env μ := rfl
theorem ub_frac_times (env : Vs) (μ : Sto) : db_frac_times env μ =
  (seqS (retS false (callD d_fraction_of (consD (bin2 mulG (bin2 ixG (varD 0) (conD (.int 0))) (bin2 ixG (varD 1) (conD (.int 0)))) (consD (bin2 mulG (bin2 ixG (varD 0) (conD (.int 1))) (bin2 ixG (varD 1) (conD (.int 1)))) nilD))))
  nxS) env μ := rfl
def d_frac_times : List D → Sto → R D := funD 2 2 false db_frac_times
theorem ud_frac_times (ds : List D) (μ : Sto) : d_frac_times ds μ = funD 2 2 false db_frac_times ds μ := rfl
def lb0_whole_six : Vs → Sto → SR :=
  (seqS (asgS (.one 1) (bin2 mulG (varD 1) (varD 3)))
  nxS)
theorem u_lb0_whole_six (env : Vs) (μ : Sto) : lb0_whole_six env μ =
  (seqS (asgS (.one 1) (bin2 mulG (varD 1) (varD 3)))
  nxS) env μ := rfl
def s0_whole_six_b0 : Vs → Sto → SR :=
  (asgS (.one 1) (bin2 mulG (varD 1) (varD 3)))
theorem u_s0_whole_six_b0 (env : Vs) (μ : Sto) : s0_whole_six_b0 env μ =
  (asgS (.one 1) (bin2 mulG (varD 1) (varD 3))) env μ := rfl
def r0_whole_six_b0 : Vs → Sto → SR := seqS s0_whole_six_b0 nxS
theorem u_r0_whole_six_b0 (env : Vs) (μ : Sto) : r0_whole_six_b0 env μ = seqS s0_whole_six_b0 nxS env μ := rfl
theorem v_lb0_whole_six (env : Vs) (μ : Sto) : lb0_whole_six env μ = r0_whole_six_b0 env μ := rfl
def ce1_whole_six : Vs → Sto → R D :=
  (bin2 mulG (varD 2) (bin2 fdivG (varD 1) (varD 3)))
theorem u_ce1_whole_six (env : Vs) (μ : Sto) : ce1_whole_six env μ =
  (bin2 mulG (varD 2) (bin2 fdivG (varD 1) (varD 3))) env μ := rfl
def s2_whole_six : Vs → Sto → SR :=
  (retS false (callD d_kept_six (consD (calD tupG (consD (compD (seqI (varD 0)) (.many [2, 3]) yesD ce1_whole_six [2, 3]) nilD)) nilD)))
theorem u_s2_whole_six (env : Vs) (μ : Sto) : s2_whole_six env μ =
  (retS false (callD d_kept_six (consD (calD tupG (consD (compD (seqI (varD 0)) (.many [2, 3]) yesD ce1_whole_six [2, 3]) nilD)) nilD))) env μ := rfl
def r2_whole_six : Vs → Sto → SR := seqS s2_whole_six nxS
theorem u_r2_whole_six (env : Vs) (μ : Sto) : r2_whole_six env μ = seqS s2_whole_six nxS env μ := rfl
def s1_whole_six : Vs → Sto → SR :=
  (forS (seqI (varD 0)) (.many [2, 3]) lb0_whole_six)
theorem u_s1_whole_six (env : Vs) (μ : Sto) : s1_whole_six env μ =
  (forS (seqI (varD 0)) (.many [2, 3]) lb0_whole_six) env μ := rfl
def r1_whole_six : Vs → Sto → SR := seqS s1_whole_six r2_whole_six
theorem u_r1_whole_six (env : Vs) (μ : Sto) : r1_whole_six env μ = seqS s1_whole_six r2_whole_six env μ := rfl
def s0_whole_six : Vs → Sto → SR :=
  (asgS (.one 1) (conD (.int 1)))
theorem u_s0_whole_six (env : Vs) (μ : Sto) : s0_whole_six env μ =
  (asgS (.one 1) (conD (.int 1))) env μ := rfl
def r0_whole_six : Vs → Sto → SR := seqS s0_whole_six r1_whole_six
theorem u_r0_whole_six (env : Vs) (μ : Sto) : r0_whole_six env μ = seqS s0_whole_six r1_whole_six env μ := rfl
def db_whole_six : Vs → Sto → SR :=
  r0_whole_six
theorem uv_whole_six (env : Vs) (μ : Sto) : db_whole_six env μ = r0_whole_six env μ := rfl
theorem ub_whole_six (env : Vs) (μ : Sto) : db_whole_six env μ =
  (seqS (asgS (.one 1) (conD (.int 1)))
  (seqS (forS (seqI (varD 0)) (.many [2, 3]) lb0_whole_six)
  (seqS (retS false (callD d_kept_six (consD (calD tupG (consD (compD (seqI (varD 0)) (.many [2, 3]) yesD ce1_whole_six [2, 3]) nilD)) nilD)))
  nxS))) env μ := rfl
def d_whole_six : List D → Sto → R D := funD 1 4 false db_whole_six
theorem ud_whole_six (ds : List D) (μ : Sto) : d_whole_six ds μ = funD 1 4 false db_whole_six ds μ := rfl
def lb0_look_at_numbers : Vs → Sto → SR :=
  (seqS (ifS (trD (notD (callD d_is_fraction (consD (varD 1) nilD)))) (seqS (raiseS "NoCircle")
  nxS) nxS)
  nxS)
theorem u_lb0_look_at_numbers (env : Vs) (μ : Sto) : lb0_look_at_numbers env μ =
  (seqS (ifS (trD (notD (callD d_is_fraction (consD (varD 1) nilD)))) (seqS (raiseS "NoCircle")
  nxS) nxS)
  nxS) env μ := rfl
def s0_look_at_numbers_b0 : Vs → Sto → SR :=
  (ifS (trD (notD (callD d_is_fraction (consD (varD 1) nilD)))) (seqS (raiseS "NoCircle")
  nxS) nxS)
theorem u_s0_look_at_numbers_b0 (env : Vs) (μ : Sto) : s0_look_at_numbers_b0 env μ =
  (ifS (trD (notD (callD d_is_fraction (consD (varD 1) nilD)))) (seqS (raiseS "NoCircle")
  nxS) nxS) env μ := rfl
def r0_look_at_numbers_b0 : Vs → Sto → SR := seqS s0_look_at_numbers_b0 nxS
theorem u_r0_look_at_numbers_b0 (env : Vs) (μ : Sto) : r0_look_at_numbers_b0 env μ = seqS s0_look_at_numbers_b0 nxS env μ := rfl
theorem v_lb0_look_at_numbers (env : Vs) (μ : Sto) : lb0_look_at_numbers env μ = r0_look_at_numbers_b0 env μ := rfl
def s0_look_at_numbers : Vs → Sto → SR :=
  (forS (seqI (varD 0)) (.one 1) lb0_look_at_numbers)
theorem u_s0_look_at_numbers (env : Vs) (μ : Sto) : s0_look_at_numbers env μ =
  (forS (seqI (varD 0)) (.one 1) lb0_look_at_numbers) env μ := rfl
def r0_look_at_numbers : Vs → Sto → SR := seqS s0_look_at_numbers nxS
theorem u_r0_look_at_numbers (env : Vs) (μ : Sto) : r0_look_at_numbers env μ = seqS s0_look_at_numbers nxS env μ := rfl
def db_look_at_numbers : Vs → Sto → SR :=
  r0_look_at_numbers
theorem uv_look_at_numbers (env : Vs) (μ : Sto) : db_look_at_numbers env μ = r0_look_at_numbers env μ := rfl
theorem ub_look_at_numbers (env : Vs) (μ : Sto) : db_look_at_numbers env μ =
  (seqS (forS (seqI (varD 0)) (.one 1) lb0_look_at_numbers)
  nxS) env μ := rfl
def d_look_at_numbers : List D → Sto → R D := funD 1 2 false db_look_at_numbers
theorem ud_look_at_numbers (ds : List D) (μ : Sto) : d_look_at_numbers ds μ = funD 1 2 false db_look_at_numbers ds μ := rfl
def s2__law_square : Vs → Sto → SR :=
  (retS false (bin2 ixG (lstD (consD (tupD (consD (conD (.int 1)) (consD (conD (.int 1)) nilD))) (consD (tupD (consD (calD absG (consD (bin2 ixG (varD 1) (conD (.int 0))) nilD)) (consD (bin2 ixG (varD 1) (conD (.int 1))) nilD))) nilD))) (calD intG (consD (bin2 neG (bin2 ixG (varD 1) (conD (.int 0))) (conD (.int 0))) nilD))))
theorem u_s2__law_square (env : Vs) (μ : Sto) : s2__law_square env μ =
  (retS false (bin2 ixG (lstD (consD (tupD (consD (conD (.int 1)) (consD (conD (.int 1)) nilD))) (consD (tupD (consD (calD absG (consD (bin2 ixG (varD 1) (conD (.int 0))) nilD)) (consD (bin2 ixG (varD 1) (conD (.int 1))) nilD))) nilD))) (calD intG (consD (bin2 neG (bin2 ixG (varD 1) (conD (.int 0))) (conD (.int 0))) nilD)))) env μ := rfl
def r2__law_square : Vs → Sto → SR := seqS s2__law_square nxS
theorem u_r2__law_square (env : Vs) (μ : Sto) : r2__law_square env μ = seqS s2__law_square nxS env μ := rfl
def s1__law_square : Vs → Sto → SR :=
  (ifS (trD (andD (bin2 eqG (callD d__law_draw (consD (varD 0) (consD (conD (.int 2)) nilD))) (conD (.int 1))) (bin2 ltG (calD maxG (consD (calD absG (consD (bin2 ixG (varD 1) (conD (.int 0))) nilD)) (consD (bin2 ixG (varD 1) (conD (.int 1))) nilD))) (bin2 powG (conD (.int 10)) (conD (.int 6)))))) (seqS (asgS (.one 1) (tupD (consD (bin2 mulG (bin2 ixG (varD 1) (conD (.int 0))) (bin2 ixG (varD 1) (conD (.int 0)))) (consD (bin2 mulG (bin2 ixG (varD 1) (conD (.int 1))) (bin2 ixG (varD 1) (conD (.int 1)))) nilD))))
  nxS) nxS)
theorem u_s1__law_square (env : Vs) (μ : Sto) : s1__law_square env μ =
  (ifS (trD (andD (bin2 eqG (callD d__law_draw (consD (varD 0) (consD (conD (.int 2)) nilD))) (conD (.int 1))) (bin2 ltG (calD maxG (consD (calD absG (consD (bin2 ixG (varD 1) (conD (.int 0))) nilD)) (consD (bin2 ixG (varD 1) (conD (.int 1))) nilD))) (bin2 powG (conD (.int 10)) (conD (.int 6)))))) (seqS (asgS (.one 1) (tupD (consD (bin2 mulG (bin2 ixG (varD 1) (conD (.int 0))) (bin2 ixG (varD 1) (conD (.int 0)))) (consD (bin2 mulG (bin2 ixG (varD 1) (conD (.int 1))) (bin2 ixG (varD 1) (conD (.int 1)))) nilD))))
  nxS) nxS) env μ := rfl
def r1__law_square : Vs → Sto → SR := seqS s1__law_square r2__law_square
theorem u_r1__law_square (env : Vs) (μ : Sto) : r1__law_square env μ = seqS s1__law_square r2__law_square env μ := rfl
def s0__law_square : Vs → Sto → SR :=
  (asgS (.one 1) (callD d__law_fraction (consD (varD 0) nilD)))
theorem u_s0__law_square (env : Vs) (μ : Sto) : s0__law_square env μ =
  (asgS (.one 1) (callD d__law_fraction (consD (varD 0) nilD))) env μ := rfl
def r0__law_square : Vs → Sto → SR := seqS s0__law_square r1__law_square
theorem u_r0__law_square (env : Vs) (μ : Sto) : r0__law_square env μ = seqS s0__law_square r1__law_square env μ := rfl
def db__law_square : Vs → Sto → SR :=
  r0__law_square
theorem uv__law_square (env : Vs) (μ : Sto) : db__law_square env μ = r0__law_square env μ := rfl
theorem ub__law_square (env : Vs) (μ : Sto) : db__law_square env μ =
  (seqS (asgS (.one 1) (callD d__law_fraction (consD (varD 0) nilD)))
  (seqS (ifS (trD (andD (bin2 eqG (callD d__law_draw (consD (varD 0) (consD (conD (.int 2)) nilD))) (conD (.int 1))) (bin2 ltG (calD maxG (consD (calD absG (consD (bin2 ixG (varD 1) (conD (.int 0))) nilD)) (consD (bin2 ixG (varD 1) (conD (.int 1))) nilD))) (bin2 powG (conD (.int 10)) (conD (.int 6)))))) (seqS (asgS (.one 1) (tupD (consD (bin2 mulG (bin2 ixG (varD 1) (conD (.int 0))) (bin2 ixG (varD 1) (conD (.int 0)))) (consD (bin2 mulG (bin2 ixG (varD 1) (conD (.int 1))) (bin2 ixG (varD 1) (conD (.int 1)))) nilD))))
  nxS) nxS)
  (seqS (retS false (bin2 ixG (lstD (consD (tupD (consD (conD (.int 1)) (consD (conD (.int 1)) nilD))) (consD (tupD (consD (calD absG (consD (bin2 ixG (varD 1) (conD (.int 0))) nilD)) (consD (bin2 ixG (varD 1) (conD (.int 1))) nilD))) nilD))) (calD intG (consD (bin2 neG (bin2 ixG (varD 1) (conD (.int 0))) (conD (.int 0))) nilD))))
  nxS))) env μ := rfl
def d__law_square : List D → Sto → R D := funD 1 2 false db__law_square
theorem ud__law_square (ds : List D) (μ : Sto) : d__law_square ds μ = funD 1 2 false db__law_square ds μ := rfl
def s6__law_due : Vs → Sto → SR :=
  (retS false (callD d__law_kept (consD (lstD (consD (varD 9) (consD (varD 9) (consD (varD 10) (consD (bin2 mulG (bin2 mulG (bin2 mulG (bin2 mulG (bin2 mulG (negD (conD (.int 2))) (varD 5)) (varD 4)) (varD 4)) (varD 6)) (varD 8)) (consD (bin2 mulG (bin2 mulG (bin2 mulG (bin2 mulG (bin2 mulG (negD (conD (.int 2))) (varD 3)) (varD 4)) (varD 6)) (varD 6)) (varD 8)) (consD (conD (.int 0)) nilD))))))) nilD)))
theorem u_s6__law_due (env : Vs) (μ : Sto) : s6__law_due env μ =
  (retS false (callD d__law_kept (consD (lstD (consD (varD 9) (consD (varD 9) (consD (varD 10) (consD (bin2 mulG (bin2 mulG (bin2 mulG (bin2 mulG (bin2 mulG (negD (conD (.int 2))) (varD 5)) (varD 4)) (varD 4)) (varD 6)) (varD 8)) (consD (bin2 mulG (bin2 mulG (bin2 mulG (bin2 mulG (bin2 mulG (negD (conD (.int 2))) (varD 3)) (varD 4)) (varD 6)) (varD 6)) (varD 8)) (consD (conD (.int 0)) nilD))))))) nilD))) env μ := rfl
def r6__law_due : Vs → Sto → SR := seqS s6__law_due nxS
theorem u_r6__law_due (env : Vs) (μ : Sto) : r6__law_due env μ = seqS s6__law_due nxS env μ := rfl
def s5__law_due : Vs → Sto → SR :=
  (asgS (.one 10) (bin2 subG (varD 10) (bin2 mulG (bin2 mulG (bin2 mulG (bin2 mulG (varD 7) (varD 4)) (varD 4)) (varD 6)) (varD 6))))
theorem u_s5__law_due (env : Vs) (μ : Sto) : s5__law_due env μ =
  (asgS (.one 10) (bin2 subG (varD 10) (bin2 mulG (bin2 mulG (bin2 mulG (bin2 mulG (varD 7) (varD 4)) (varD 4)) (varD 6)) (varD 6)))) env μ := rfl
def r5__law_due : Vs → Sto → SR := seqS s5__law_due r6__law_due
theorem u_r5__law_due (env : Vs) (μ : Sto) : r5__law_due env μ = seqS s5__law_due r6__law_due env μ := rfl
def s4__law_due : Vs → Sto → SR :=
  (asgS (.one 10) (bin2 addAll (bin2 mulG (bin2 mulG (bin2 mulG (bin2 mulG (varD 3) (varD 3)) (varD 6)) (varD 6)) (varD 8)) (bin2 mulG (bin2 mulG (bin2 mulG (bin2 mulG (varD 5) (varD 5)) (varD 4)) (varD 4)) (varD 8))))
theorem u_s4__law_due (env : Vs) (μ : Sto) : s4__law_due env μ =
  (asgS (.one 10) (bin2 addAll (bin2 mulG (bin2 mulG (bin2 mulG (bin2 mulG (varD 3) (varD 3)) (varD 6)) (varD 6)) (varD 8)) (bin2 mulG (bin2 mulG (bin2 mulG (bin2 mulG (varD 5) (varD 5)) (varD 4)) (varD 4)) (varD 8)))) env μ := rfl
def r4__law_due : Vs → Sto → SR := seqS s4__law_due r5__law_due
theorem u_r4__law_due (env : Vs) (μ : Sto) : r4__law_due env μ = seqS s4__law_due r5__law_due env μ := rfl
def s3__law_due : Vs → Sto → SR :=
  (asgS (.one 9) (bin2 mulG (bin2 mulG (bin2 mulG (bin2 mulG (varD 4) (varD 4)) (varD 6)) (varD 6)) (varD 8)))
theorem u_s3__law_due (env : Vs) (μ : Sto) : s3__law_due env μ =
  (asgS (.one 9) (bin2 mulG (bin2 mulG (bin2 mulG (bin2 mulG (varD 4) (varD 4)) (varD 6)) (varD 6)) (varD 8))) env μ := rfl
def r3__law_due : Vs → Sto → SR := seqS s3__law_due r4__law_due
theorem u_r3__law_due (env : Vs) (μ : Sto) : r3__law_due env μ = seqS s3__law_due r4__law_due env μ := rfl
def s2__law_due : Vs → Sto → SR :=
  (asgS (.many [7, 8]) (varD 2))
theorem u_s2__law_due (env : Vs) (μ : Sto) : s2__law_due env μ =
  (asgS (.many [7, 8]) (varD 2)) env μ := rfl
def r2__law_due : Vs → Sto → SR := seqS s2__law_due r3__law_due
theorem u_r2__law_due (env : Vs) (μ : Sto) : r2__law_due env μ = seqS s2__law_due r3__law_due env μ := rfl
def s1__law_due : Vs → Sto → SR :=
  (asgS (.many [5, 6]) (varD 1))
theorem u_s1__law_due (env : Vs) (μ : Sto) : s1__law_due env μ =
  (asgS (.many [5, 6]) (varD 1)) env μ := rfl
def r1__law_due : Vs → Sto → SR := seqS s1__law_due r2__law_due
theorem u_r1__law_due (env : Vs) (μ : Sto) : r1__law_due env μ = seqS s1__law_due r2__law_due env μ := rfl
def s0__law_due : Vs → Sto → SR :=
  (asgS (.many [3, 4]) (varD 0))
theorem u_s0__law_due (env : Vs) (μ : Sto) : s0__law_due env μ =
  (asgS (.many [3, 4]) (varD 0)) env μ := rfl
def r0__law_due : Vs → Sto → SR := seqS s0__law_due r1__law_due
theorem u_r0__law_due (env : Vs) (μ : Sto) : r0__law_due env μ = seqS s0__law_due r1__law_due env μ := rfl
def db__law_due : Vs → Sto → SR :=
  r0__law_due
theorem uv__law_due (env : Vs) (μ : Sto) : db__law_due env μ = r0__law_due env μ := rfl
theorem ub__law_due (env : Vs) (μ : Sto) : db__law_due env μ =
  (seqS (asgS (.many [3, 4]) (varD 0))
  (seqS (asgS (.many [5, 6]) (varD 1))
  (seqS (asgS (.many [7, 8]) (varD 2))
  (seqS (asgS (.one 9) (bin2 mulG (bin2 mulG (bin2 mulG (bin2 mulG (varD 4) (varD 4)) (varD 6)) (varD 6)) (varD 8)))
  (seqS (asgS (.one 10) (bin2 addAll (bin2 mulG (bin2 mulG (bin2 mulG (bin2 mulG (varD 3) (varD 3)) (varD 6)) (varD 6)) (varD 8)) (bin2 mulG (bin2 mulG (bin2 mulG (bin2 mulG (varD 5) (varD 5)) (varD 4)) (varD 4)) (varD 8))))
  (seqS (asgS (.one 10) (bin2 subG (varD 10) (bin2 mulG (bin2 mulG (bin2 mulG (bin2 mulG (varD 7) (varD 4)) (varD 4)) (varD 6)) (varD 6))))
  (seqS (retS false (callD d__law_kept (consD (lstD (consD (varD 9) (consD (varD 9) (consD (varD 10) (consD (bin2 mulG (bin2 mulG (bin2 mulG (bin2 mulG (bin2 mulG (negD (conD (.int 2))) (varD 5)) (varD 4)) (varD 4)) (varD 6)) (varD 8)) (consD (bin2 mulG (bin2 mulG (bin2 mulG (bin2 mulG (bin2 mulG (negD (conD (.int 2))) (varD 3)) (varD 4)) (varD 6)) (varD 6)) (varD 8)) (consD (conD (.int 0)) nilD))))))) nilD)))
  nxS))))))) env μ := rfl
def d__law_due : List D → Sto → R D := funD 3 11 false db__law_due
theorem ud__law_due (ds : List D) (μ : Sto) : d__law_due ds μ = funD 3 11 false db__law_due ds μ := rfl
def s4_circle_curve : Vs → Sto → SR :=
  (retS false (callD d_whole_six (consD (lstD (consD (conD (.tup [.int 1, .int 1])) (consD (conD (.tup [.int 1, .int 1])) (consD (varD 3) (consD (varD 4) (consD (callD d_frac_times (consD (tupD (consD (bin2 subG (conD (.int 0)) (conD (.int 2))) (consD (conD (.int 1)) nilD))) (consD (varD 0) nilD))) (consD (conD (.tup [.int 0, .int 1])) nilD))))))) nilD)))
theorem u_s4_circle_curve (env : Vs) (μ : Sto) : s4_circle_curve env μ =
  (retS false (callD d_whole_six (consD (lstD (consD (conD (.tup [.int 1, .int 1])) (consD (conD (.tup [.int 1, .int 1])) (consD (varD 3) (consD (varD 4) (consD (callD d_frac_times (consD (tupD (consD (bin2 subG (conD (.int 0)) (conD (.int 2))) (consD (conD (.int 1)) nilD))) (consD (varD 0) nilD))) (consD (conD (.tup [.int 0, .int 1])) nilD))))))) nilD))) env μ := rfl
def r4_circle_curve : Vs → Sto → SR := seqS s4_circle_curve nxS
theorem u_r4_circle_curve (env : Vs) (μ : Sto) : r4_circle_curve env μ = seqS s4_circle_curve nxS env μ := rfl
def s3_circle_curve : Vs → Sto → SR :=
  (asgS (.one 4) (callD d_frac_times (consD (tupD (consD (bin2 subG (conD (.int 0)) (conD (.int 2))) (consD (conD (.int 1)) nilD))) (consD (varD 1) nilD))))
theorem u_s3_circle_curve (env : Vs) (μ : Sto) : s3_circle_curve env μ =
  (asgS (.one 4) (callD d_frac_times (consD (tupD (consD (bin2 subG (conD (.int 0)) (conD (.int 2))) (consD (conD (.int 1)) nilD))) (consD (varD 1) nilD)))) env μ := rfl
def r3_circle_curve : Vs → Sto → SR := seqS s3_circle_curve r4_circle_curve
theorem u_r3_circle_curve (env : Vs) (μ : Sto) : r3_circle_curve env μ = seqS s3_circle_curve r4_circle_curve env μ := rfl
def s2_circle_curve : Vs → Sto → SR :=
  (asgS (.one 3) (callD d_frac_less (consD (callD d_frac_sum (consD (callD d_frac_times (consD (varD 0) (consD (varD 0) nilD))) (consD (callD d_frac_times (consD (varD 1) (consD (varD 1) nilD))) nilD))) (consD (varD 2) nilD))))
theorem u_s2_circle_curve (env : Vs) (μ : Sto) : s2_circle_curve env μ =
  (asgS (.one 3) (callD d_frac_less (consD (callD d_frac_sum (consD (callD d_frac_times (consD (varD 0) (consD (varD 0) nilD))) (consD (callD d_frac_times (consD (varD 1) (consD (varD 1) nilD))) nilD))) (consD (varD 2) nilD)))) env μ := rfl
def r2_circle_curve : Vs → Sto → SR := seqS s2_circle_curve r3_circle_curve
theorem u_r2_circle_curve (env : Vs) (μ : Sto) : r2_circle_curve env μ = seqS s2_circle_curve r3_circle_curve env μ := rfl
def s1_circle_curve : Vs → Sto → SR :=
  (ifS (trD (bin2 ltG (bin2 ixG (varD 2) (conD (.int 0))) (conD (.int 1)))) (seqS (raiseS "NoCircle")
  nxS) nxS)
theorem u_s1_circle_curve (env : Vs) (μ : Sto) : s1_circle_curve env μ =
  (ifS (trD (bin2 ltG (bin2 ixG (varD 2) (conD (.int 0))) (conD (.int 1)))) (seqS (raiseS "NoCircle")
  nxS) nxS) env μ := rfl
def r1_circle_curve : Vs → Sto → SR := seqS s1_circle_curve r2_circle_curve
theorem u_r1_circle_curve (env : Vs) (μ : Sto) : r1_circle_curve env μ = seqS s1_circle_curve r2_circle_curve env μ := rfl
def s0_circle_curve : Vs → Sto → SR :=
  (dropS (callD d_look_at_numbers (consD (lstD (consD (varD 0) (consD (varD 1) (consD (varD 2) nilD)))) nilD)))
theorem u_s0_circle_curve (env : Vs) (μ : Sto) : s0_circle_curve env μ =
  (dropS (callD d_look_at_numbers (consD (lstD (consD (varD 0) (consD (varD 1) (consD (varD 2) nilD)))) nilD))) env μ := rfl
def r0_circle_curve : Vs → Sto → SR := seqS s0_circle_curve r1_circle_curve
theorem u_r0_circle_curve (env : Vs) (μ : Sto) : r0_circle_curve env μ = seqS s0_circle_curve r1_circle_curve env μ := rfl
def db_circle_curve : Vs → Sto → SR :=
  r0_circle_curve
theorem uv_circle_curve (env : Vs) (μ : Sto) : db_circle_curve env μ = r0_circle_curve env μ := rfl
theorem ub_circle_curve (env : Vs) (μ : Sto) : db_circle_curve env μ =
  (seqS (dropS (callD d_look_at_numbers (consD (lstD (consD (varD 0) (consD (varD 1) (consD (varD 2) nilD)))) nilD)))
  (seqS (ifS (trD (bin2 ltG (bin2 ixG (varD 2) (conD (.int 0))) (conD (.int 1)))) (seqS (raiseS "NoCircle")
  nxS) nxS)
  (seqS (asgS (.one 3) (callD d_frac_less (consD (callD d_frac_sum (consD (callD d_frac_times (consD (varD 0) (consD (varD 0) nilD))) (consD (callD d_frac_times (consD (varD 1) (consD (varD 1) nilD))) nilD))) (consD (varD 2) nilD))))
  (seqS (asgS (.one 4) (callD d_frac_times (consD (tupD (consD (bin2 subG (conD (.int 0)) (conD (.int 2))) (consD (conD (.int 1)) nilD))) (consD (varD 1) nilD))))
  (seqS (retS false (callD d_whole_six (consD (lstD (consD (conD (.tup [.int 1, .int 1])) (consD (conD (.tup [.int 1, .int 1])) (consD (varD 3) (consD (varD 4) (consD (callD d_frac_times (consD (tupD (consD (bin2 subG (conD (.int 0)) (conD (.int 2))) (consD (conD (.int 1)) nilD))) (consD (varD 0) nilD))) (consD (conD (.tup [.int 0, .int 1])) nilD))))))) nilD)))
  nxS))))) env μ := rfl
def d_circle_curve : List D → Sto → R D := funD 3 5 false db_circle_curve
theorem ud_circle_curve (ds : List D) (μ : Sto) : d_circle_curve ds μ = funD 3 5 false db_circle_curve ds μ := rfl
def s3__law_refused : Vs → Sto → SR :=
  (retS false (callD d__law_kinds (consD (varD 3) nilD)))
theorem u_s3__law_refused (env : Vs) (μ : Sto) : s3__law_refused env μ =
  (retS false (callD d__law_kinds (consD (varD 3) nilD))) env μ := rfl
def r3__law_refused : Vs → Sto → SR := seqS s3__law_refused nxS
theorem u_r3__law_refused (env : Vs) (μ : Sto) : r3__law_refused env μ = seqS s3__law_refused nxS env μ := rfl
def s2__law_refused : Vs → Sto → SR :=
  (ifS (trD (bin2 isG (varD 3) (conD .non))) (seqS (retS false (conD (.str "told")))
  nxS) nxS)
theorem u_s2__law_refused (env : Vs) (μ : Sto) : s2__law_refused env μ =
  (ifS (trD (bin2 isG (varD 3) (conD .non))) (seqS (retS false (conD (.str "told")))
  nxS) nxS) env μ := rfl
def r2__law_refused : Vs → Sto → SR := seqS s2__law_refused r3__law_refused
theorem u_r2__law_refused (env : Vs) (μ : Sto) : r2__law_refused env μ = seqS s2__law_refused r3__law_refused env μ := rfl
def s1__law_refused : Vs → Sto → SR :=
  (keepS 4 3 (tl [("NoBottom", true), ("NoCircle", true)]) (seqS (dropS (callD d_circle_curve (consD (varD 0) (consD (varD 1) (consD (varD 2) nilD)))))
  nxS))
theorem u_s1__law_refused (env : Vs) (μ : Sto) : s1__law_refused env μ =
  (keepS 4 3 (tl [("NoBottom", true), ("NoCircle", true)]) (seqS (dropS (callD d_circle_curve (consD (varD 0) (consD (varD 1) (consD (varD 2) nilD)))))
  nxS)) env μ := rfl
def r1__law_refused : Vs → Sto → SR := seqS s1__law_refused r2__law_refused
theorem u_r1__law_refused (env : Vs) (μ : Sto) : r1__law_refused env μ = seqS s1__law_refused r2__law_refused env μ := rfl
def s0__law_refused : Vs → Sto → SR :=
  (asgS (.one 3) (conD .non))
theorem u_s0__law_refused (env : Vs) (μ : Sto) : s0__law_refused env μ =
  (asgS (.one 3) (conD .non)) env μ := rfl
def r0__law_refused : Vs → Sto → SR := seqS s0__law_refused r1__law_refused
theorem u_r0__law_refused (env : Vs) (μ : Sto) : r0__law_refused env μ = seqS s0__law_refused r1__law_refused env μ := rfl
def db__law_refused : Vs → Sto → SR :=
  r0__law_refused
theorem uv__law_refused (env : Vs) (μ : Sto) : db__law_refused env μ = r0__law_refused env μ := rfl
theorem ub__law_refused (env : Vs) (μ : Sto) : db__law_refused env μ =
  (seqS (asgS (.one 3) (conD .non))
  (seqS (keepS 4 3 (tl [("NoBottom", true), ("NoCircle", true)]) (seqS (dropS (callD d_circle_curve (consD (varD 0) (consD (varD 1) (consD (varD 2) nilD)))))
  nxS))
  (seqS (ifS (trD (bin2 isG (varD 3) (conD .non))) (seqS (retS false (conD (.str "told")))
  nxS) nxS)
  (seqS (retS false (callD d__law_kinds (consD (varD 3) nilD)))
  nxS)))) env μ := rfl
def d__law_refused : List D → Sto → R D := funD 3 5 false db__law_refused
theorem ud__law_refused (ds : List D) (μ : Sto) : d__law_refused ds μ = funD 3 5 false db__law_refused ds μ := rfl
def lb0_law : Vs → Sto → SR :=
  (seqS (asgS (.one 3) (lstD (consD (callD d__law_fraction (consD (varD 1) nilD)) (consD (callD d__law_fraction (consD (varD 1) nilD)) (consD (callD d__law_square (consD (varD 1) nilD)) nilD)))))
  (seqS (asgS (.one 4) (callD d__law_due (consD (bin2 ixG (varD 3) (conD (.int 0))) (consD (bin2 ixG (varD 3) (conD (.int 1))) (consD (bin2 ixG (varD 3) (conD (.int 2))) nilD)))))
  (seqS (asgS (.one 5) (callD d_circle_curve (consD (bin2 ixG (varD 3) (conD (.int 0))) (consD (bin2 ixG (varD 3) (conD (.int 1))) (consD (bin2 ixG (varD 3) (conD (.int 2))) nilD)))))
  (seqS (ifS (trD (orD (notD (callD d__law_wholes (consD (varD 5) (consD (conD (.int 6)) nilD)))) (bin2 neG (varD 5) (varD 4)))) (seqS (retS false (conD (.bl false)))
  nxS) nxS)
  (seqS (asgS (.one 6) (callD d__law_draw (consD (varD 1) (consD (conD (.int 3)) nilD))))
  (seqS (thawS 7 (calD listG (consD (varD 3) nilD)))
  (seqS (setS (callD d__law_spoilt (consD (varD 1) (consD (bin2 ixG (varD 3) (varD 6)) nilD))) (varD 7) (varD 6))
  (seqS (ifS (trD (bin2 neG (callD d__law_refused (consD (bin2 ixG (varD 7) (conD (.int 0))) (consD (bin2 ixG (varD 7) (conD (.int 1))) (consD (bin2 ixG (varD 7) (conD (.int 2))) nilD)))) (conD (.str "circle")))) (seqS (retS false (conD (.bl false)))
  nxS) nxS)
  (seqS (asgS (.one 8) (tupD (consD (bin2 subG (conD (.int 0)) (callD d__law_draw (consD (varD 1) (consD (conD (.int 3)) nilD)))) (consD (conD (.int 1)) nilD))))
  (seqS (ifS (trD (orD (bin2 neG (callD d__law_refused (consD (bin2 ixG (varD 3) (conD (.int 0))) (consD (bin2 ixG (varD 3) (conD (.int 1))) (consD (varD 8) nilD)))) (conD (.str "circle"))) (bin2 neG (callD d__law_refused (consD (bin2 ixG (varD 7) (conD (.int 0))) (consD (bin2 ixG (varD 7) (conD (.int 1))) (consD (varD 8) nilD)))) (conD (.str "circle"))))) (seqS (retS false (conD (.bl false)))
  nxS) nxS)
  (seqS (ifS (trD (bin2 neG (callD d_circle_curve (consD (bin2 ixG (varD 3) (conD (.int 0))) (consD (bin2 ixG (varD 3) (conD (.int 1))) (consD (bin2 ixG (varD 3) (conD (.int 2))) nilD)))) (varD 4))) (seqS (retS false (conD (.bl false)))
  nxS) nxS)
  nxS)))))))))))
theorem u_lb0_law (env : Vs) (μ : Sto) : lb0_law env μ =
  (seqS (asgS (.one 3) (lstD (consD (callD d__law_fraction (consD (varD 1) nilD)) (consD (callD d__law_fraction (consD (varD 1) nilD)) (consD (callD d__law_square (consD (varD 1) nilD)) nilD)))))
  (seqS (asgS (.one 4) (callD d__law_due (consD (bin2 ixG (varD 3) (conD (.int 0))) (consD (bin2 ixG (varD 3) (conD (.int 1))) (consD (bin2 ixG (varD 3) (conD (.int 2))) nilD)))))
  (seqS (asgS (.one 5) (callD d_circle_curve (consD (bin2 ixG (varD 3) (conD (.int 0))) (consD (bin2 ixG (varD 3) (conD (.int 1))) (consD (bin2 ixG (varD 3) (conD (.int 2))) nilD)))))
  (seqS (ifS (trD (orD (notD (callD d__law_wholes (consD (varD 5) (consD (conD (.int 6)) nilD)))) (bin2 neG (varD 5) (varD 4)))) (seqS (retS false (conD (.bl false)))
  nxS) nxS)
  (seqS (asgS (.one 6) (callD d__law_draw (consD (varD 1) (consD (conD (.int 3)) nilD))))
  (seqS (thawS 7 (calD listG (consD (varD 3) nilD)))
  (seqS (setS (callD d__law_spoilt (consD (varD 1) (consD (bin2 ixG (varD 3) (varD 6)) nilD))) (varD 7) (varD 6))
  (seqS (ifS (trD (bin2 neG (callD d__law_refused (consD (bin2 ixG (varD 7) (conD (.int 0))) (consD (bin2 ixG (varD 7) (conD (.int 1))) (consD (bin2 ixG (varD 7) (conD (.int 2))) nilD)))) (conD (.str "circle")))) (seqS (retS false (conD (.bl false)))
  nxS) nxS)
  (seqS (asgS (.one 8) (tupD (consD (bin2 subG (conD (.int 0)) (callD d__law_draw (consD (varD 1) (consD (conD (.int 3)) nilD)))) (consD (conD (.int 1)) nilD))))
  (seqS (ifS (trD (orD (bin2 neG (callD d__law_refused (consD (bin2 ixG (varD 3) (conD (.int 0))) (consD (bin2 ixG (varD 3) (conD (.int 1))) (consD (varD 8) nilD)))) (conD (.str "circle"))) (bin2 neG (callD d__law_refused (consD (bin2 ixG (varD 7) (conD (.int 0))) (consD (bin2 ixG (varD 7) (conD (.int 1))) (consD (varD 8) nilD)))) (conD (.str "circle"))))) (seqS (retS false (conD (.bl false)))
  nxS) nxS)
  (seqS (ifS (trD (bin2 neG (callD d_circle_curve (consD (bin2 ixG (varD 3) (conD (.int 0))) (consD (bin2 ixG (varD 3) (conD (.int 1))) (consD (bin2 ixG (varD 3) (conD (.int 2))) nilD)))) (varD 4))) (seqS (retS false (conD (.bl false)))
  nxS) nxS)
  nxS))))))))))) env μ := rfl
def s10_law_b0 : Vs → Sto → SR :=
  (ifS (trD (bin2 neG (callD d_circle_curve (consD (bin2 ixG (varD 3) (conD (.int 0))) (consD (bin2 ixG (varD 3) (conD (.int 1))) (consD (bin2 ixG (varD 3) (conD (.int 2))) nilD)))) (varD 4))) (seqS (retS false (conD (.bl false)))
  nxS) nxS)
theorem u_s10_law_b0 (env : Vs) (μ : Sto) : s10_law_b0 env μ =
  (ifS (trD (bin2 neG (callD d_circle_curve (consD (bin2 ixG (varD 3) (conD (.int 0))) (consD (bin2 ixG (varD 3) (conD (.int 1))) (consD (bin2 ixG (varD 3) (conD (.int 2))) nilD)))) (varD 4))) (seqS (retS false (conD (.bl false)))
  nxS) nxS) env μ := rfl
def r10_law_b0 : Vs → Sto → SR := seqS s10_law_b0 nxS
theorem u_r10_law_b0 (env : Vs) (μ : Sto) : r10_law_b0 env μ = seqS s10_law_b0 nxS env μ := rfl
def s9_law_b0 : Vs → Sto → SR :=
  (ifS (trD (orD (bin2 neG (callD d__law_refused (consD (bin2 ixG (varD 3) (conD (.int 0))) (consD (bin2 ixG (varD 3) (conD (.int 1))) (consD (varD 8) nilD)))) (conD (.str "circle"))) (bin2 neG (callD d__law_refused (consD (bin2 ixG (varD 7) (conD (.int 0))) (consD (bin2 ixG (varD 7) (conD (.int 1))) (consD (varD 8) nilD)))) (conD (.str "circle"))))) (seqS (retS false (conD (.bl false)))
  nxS) nxS)
theorem u_s9_law_b0 (env : Vs) (μ : Sto) : s9_law_b0 env μ =
  (ifS (trD (orD (bin2 neG (callD d__law_refused (consD (bin2 ixG (varD 3) (conD (.int 0))) (consD (bin2 ixG (varD 3) (conD (.int 1))) (consD (varD 8) nilD)))) (conD (.str "circle"))) (bin2 neG (callD d__law_refused (consD (bin2 ixG (varD 7) (conD (.int 0))) (consD (bin2 ixG (varD 7) (conD (.int 1))) (consD (varD 8) nilD)))) (conD (.str "circle"))))) (seqS (retS false (conD (.bl false)))
  nxS) nxS) env μ := rfl
def r9_law_b0 : Vs → Sto → SR := seqS s9_law_b0 r10_law_b0
theorem u_r9_law_b0 (env : Vs) (μ : Sto) : r9_law_b0 env μ = seqS s9_law_b0 r10_law_b0 env μ := rfl
def s8_law_b0 : Vs → Sto → SR :=
  (asgS (.one 8) (tupD (consD (bin2 subG (conD (.int 0)) (callD d__law_draw (consD (varD 1) (consD (conD (.int 3)) nilD)))) (consD (conD (.int 1)) nilD))))
theorem u_s8_law_b0 (env : Vs) (μ : Sto) : s8_law_b0 env μ =
  (asgS (.one 8) (tupD (consD (bin2 subG (conD (.int 0)) (callD d__law_draw (consD (varD 1) (consD (conD (.int 3)) nilD)))) (consD (conD (.int 1)) nilD)))) env μ := rfl
def r8_law_b0 : Vs → Sto → SR := seqS s8_law_b0 r9_law_b0
theorem u_r8_law_b0 (env : Vs) (μ : Sto) : r8_law_b0 env μ = seqS s8_law_b0 r9_law_b0 env μ := rfl
def s7_law_b0 : Vs → Sto → SR :=
  (ifS (trD (bin2 neG (callD d__law_refused (consD (bin2 ixG (varD 7) (conD (.int 0))) (consD (bin2 ixG (varD 7) (conD (.int 1))) (consD (bin2 ixG (varD 7) (conD (.int 2))) nilD)))) (conD (.str "circle")))) (seqS (retS false (conD (.bl false)))
  nxS) nxS)
theorem u_s7_law_b0 (env : Vs) (μ : Sto) : s7_law_b0 env μ =
  (ifS (trD (bin2 neG (callD d__law_refused (consD (bin2 ixG (varD 7) (conD (.int 0))) (consD (bin2 ixG (varD 7) (conD (.int 1))) (consD (bin2 ixG (varD 7) (conD (.int 2))) nilD)))) (conD (.str "circle")))) (seqS (retS false (conD (.bl false)))
  nxS) nxS) env μ := rfl
def r7_law_b0 : Vs → Sto → SR := seqS s7_law_b0 r8_law_b0
theorem u_r7_law_b0 (env : Vs) (μ : Sto) : r7_law_b0 env μ = seqS s7_law_b0 r8_law_b0 env μ := rfl
def s6_law_b0 : Vs → Sto → SR :=
  (setS (callD d__law_spoilt (consD (varD 1) (consD (bin2 ixG (varD 3) (varD 6)) nilD))) (varD 7) (varD 6))
theorem u_s6_law_b0 (env : Vs) (μ : Sto) : s6_law_b0 env μ =
  (setS (callD d__law_spoilt (consD (varD 1) (consD (bin2 ixG (varD 3) (varD 6)) nilD))) (varD 7) (varD 6)) env μ := rfl
def r6_law_b0 : Vs → Sto → SR := seqS s6_law_b0 r7_law_b0
theorem u_r6_law_b0 (env : Vs) (μ : Sto) : r6_law_b0 env μ = seqS s6_law_b0 r7_law_b0 env μ := rfl
def s5_law_b0 : Vs → Sto → SR :=
  (thawS 7 (calD listG (consD (varD 3) nilD)))
theorem u_s5_law_b0 (env : Vs) (μ : Sto) : s5_law_b0 env μ =
  (thawS 7 (calD listG (consD (varD 3) nilD))) env μ := rfl
def r5_law_b0 : Vs → Sto → SR := seqS s5_law_b0 r6_law_b0
theorem u_r5_law_b0 (env : Vs) (μ : Sto) : r5_law_b0 env μ = seqS s5_law_b0 r6_law_b0 env μ := rfl
def s4_law_b0 : Vs → Sto → SR :=
  (asgS (.one 6) (callD d__law_draw (consD (varD 1) (consD (conD (.int 3)) nilD))))
theorem u_s4_law_b0 (env : Vs) (μ : Sto) : s4_law_b0 env μ =
  (asgS (.one 6) (callD d__law_draw (consD (varD 1) (consD (conD (.int 3)) nilD)))) env μ := rfl
def r4_law_b0 : Vs → Sto → SR := seqS s4_law_b0 r5_law_b0
theorem u_r4_law_b0 (env : Vs) (μ : Sto) : r4_law_b0 env μ = seqS s4_law_b0 r5_law_b0 env μ := rfl
def s3_law_b0 : Vs → Sto → SR :=
  (ifS (trD (orD (notD (callD d__law_wholes (consD (varD 5) (consD (conD (.int 6)) nilD)))) (bin2 neG (varD 5) (varD 4)))) (seqS (retS false (conD (.bl false)))
  nxS) nxS)
theorem u_s3_law_b0 (env : Vs) (μ : Sto) : s3_law_b0 env μ =
  (ifS (trD (orD (notD (callD d__law_wholes (consD (varD 5) (consD (conD (.int 6)) nilD)))) (bin2 neG (varD 5) (varD 4)))) (seqS (retS false (conD (.bl false)))
  nxS) nxS) env μ := rfl
def r3_law_b0 : Vs → Sto → SR := seqS s3_law_b0 r4_law_b0
theorem u_r3_law_b0 (env : Vs) (μ : Sto) : r3_law_b0 env μ = seqS s3_law_b0 r4_law_b0 env μ := rfl
def s2_law_b0 : Vs → Sto → SR :=
  (asgS (.one 5) (callD d_circle_curve (consD (bin2 ixG (varD 3) (conD (.int 0))) (consD (bin2 ixG (varD 3) (conD (.int 1))) (consD (bin2 ixG (varD 3) (conD (.int 2))) nilD)))))
theorem u_s2_law_b0 (env : Vs) (μ : Sto) : s2_law_b0 env μ =
  (asgS (.one 5) (callD d_circle_curve (consD (bin2 ixG (varD 3) (conD (.int 0))) (consD (bin2 ixG (varD 3) (conD (.int 1))) (consD (bin2 ixG (varD 3) (conD (.int 2))) nilD))))) env μ := rfl
def r2_law_b0 : Vs → Sto → SR := seqS s2_law_b0 r3_law_b0
theorem u_r2_law_b0 (env : Vs) (μ : Sto) : r2_law_b0 env μ = seqS s2_law_b0 r3_law_b0 env μ := rfl
def s1_law_b0 : Vs → Sto → SR :=
  (asgS (.one 4) (callD d__law_due (consD (bin2 ixG (varD 3) (conD (.int 0))) (consD (bin2 ixG (varD 3) (conD (.int 1))) (consD (bin2 ixG (varD 3) (conD (.int 2))) nilD)))))
theorem u_s1_law_b0 (env : Vs) (μ : Sto) : s1_law_b0 env μ =
  (asgS (.one 4) (callD d__law_due (consD (bin2 ixG (varD 3) (conD (.int 0))) (consD (bin2 ixG (varD 3) (conD (.int 1))) (consD (bin2 ixG (varD 3) (conD (.int 2))) nilD))))) env μ := rfl
def r1_law_b0 : Vs → Sto → SR := seqS s1_law_b0 r2_law_b0
theorem u_r1_law_b0 (env : Vs) (μ : Sto) : r1_law_b0 env μ = seqS s1_law_b0 r2_law_b0 env μ := rfl
def s0_law_b0 : Vs → Sto → SR :=
  (asgS (.one 3) (lstD (consD (callD d__law_fraction (consD (varD 1) nilD)) (consD (callD d__law_fraction (consD (varD 1) nilD)) (consD (callD d__law_square (consD (varD 1) nilD)) nilD)))))
theorem u_s0_law_b0 (env : Vs) (μ : Sto) : s0_law_b0 env μ =
  (asgS (.one 3) (lstD (consD (callD d__law_fraction (consD (varD 1) nilD)) (consD (callD d__law_fraction (consD (varD 1) nilD)) (consD (callD d__law_square (consD (varD 1) nilD)) nilD))))) env μ := rfl
def r0_law_b0 : Vs → Sto → SR := seqS s0_law_b0 r1_law_b0
theorem u_r0_law_b0 (env : Vs) (μ : Sto) : r0_law_b0 env μ = seqS s0_law_b0 r1_law_b0 env μ := rfl
theorem v_lb0_law (env : Vs) (μ : Sto) : lb0_law env μ = r0_law_b0 env μ := rfl
def s2_law : Vs → Sto → SR :=
  (retS false (conD (.bl true)))
theorem u_s2_law (env : Vs) (μ : Sto) : s2_law env μ =
  (retS false (conD (.bl true))) env μ := rfl
def r2_law : Vs → Sto → SR := seqS s2_law nxS
theorem u_r2_law (env : Vs) (μ : Sto) : r2_law env μ = seqS s2_law nxS env μ := rfl
def s1_law : Vs → Sto → SR :=
  (forS (rng1I (consD (bin2 addAll (conD (.int 1)) (callD d__law_draw (consD (varD 1) (consD (conD (.int 12)) nilD)))) nilD)) (.one 2) lb0_law)
theorem u_s1_law (env : Vs) (μ : Sto) : s1_law env μ =
  (forS (rng1I (consD (bin2 addAll (conD (.int 1)) (callD d__law_draw (consD (varD 1) (consD (conD (.int 12)) nilD)))) nilD)) (.one 2) lb0_law) env μ := rfl
def r1_law : Vs → Sto → SR := seqS s1_law r2_law
theorem u_r1_law (env : Vs) (μ : Sto) : r1_law env μ = seqS s1_law r2_law env μ := rfl
def s0_law : Vs → Sto → SR :=
  (thawS 1 (callD d__law_purse (consD (varD 0) nilD)))
theorem u_s0_law (env : Vs) (μ : Sto) : s0_law env μ =
  (thawS 1 (callD d__law_purse (consD (varD 0) nilD))) env μ := rfl
def r0_law : Vs → Sto → SR := seqS s0_law r1_law
theorem u_r0_law (env : Vs) (μ : Sto) : r0_law env μ = seqS s0_law r1_law env μ := rfl
def db_law : Vs → Sto → SR :=
  r0_law
theorem uv_law (env : Vs) (μ : Sto) : db_law env μ = r0_law env μ := rfl
theorem ub_law (env : Vs) (μ : Sto) : db_law env μ =
  (seqS (thawS 1 (callD d__law_purse (consD (varD 0) nilD)))
  (seqS (forS (rng1I (consD (bin2 addAll (conD (.int 1)) (callD d__law_draw (consD (varD 1) (consD (conD (.int 12)) nilD)))) nilD)) (.one 2) lb0_law)
  (seqS (retS false (conD (.bl true)))
  nxS))) env μ := rfl
def d_law : List D → Sto → R D := funD 1 9 false db_law
theorem ud_law (ds : List D) (μ : Sto) : d_law ds μ = funD 1 9 false db_law ds μ := rfl
/-! ### where each stands -/
abbrev st_is_number : Stmt := top 21
def N_is_number : List Str := ["thing"]
theorem sc_is_number : FnScope N_is_number ["thing"] (defScope st_is_number) := ⟨rfl, rfl, rfl, by decide +kernel, rfl, by decide +kernel, by decide +kernel⟩
def dd_is_number : He.DefD := ⟨("is_number", none), "is_number", "is_number", defArgs st_is_number, defBody st_is_number, defScope st_is_number, [], []⟩
abbrev st_common_of : Stmt := top 22
def N_common_of : List Str := ["numbers", "found", "number", "rest"]
theorem sc_common_of : FnScope N_common_of ["numbers"] (defScope st_common_of) := ⟨rfl, rfl, rfl, by decide +kernel, rfl, by decide +kernel, by decide +kernel⟩
def dd_common_of : He.DefD := ⟨("common_of", none), "common_of", "common_of", defArgs st_common_of, defBody st_common_of, defScope st_common_of, [], []⟩
abbrev st_turned_sign : Stmt := top 23
def N_turned_sign : List Str := ["some", "number", "other"]
theorem sc_turned_sign : FnScope N_turned_sign ["some"] (defScope st_turned_sign) := ⟨rfl, rfl, rfl, by decide +kernel, rfl, by decide +kernel, by decide +kernel⟩
def dd_turned_sign : He.DefD := ⟨("turned_sign", none), "turned_sign", "turned_sign", defArgs st_turned_sign, defBody st_turned_sign, defScope st_turned_sign, [], []⟩
abbrev st__law_draw : Stmt := top 40
def N__law_draw : List Str := ["_law_purse_here", "_law_many", "_law_at", "_law_found"]
theorem sc__law_draw : FnScope N__law_draw ["_law_purse_here", "_law_many"] (defScope st__law_draw) := ⟨rfl, rfl, rfl, by decide +kernel, rfl, by decide +kernel, by decide +kernel⟩
def dd__law_draw : He.DefD := ⟨("_law_draw", none), "_law_draw", "_law_draw", defArgs st__law_draw, defBody st__law_draw, defScope st__law_draw, [], []⟩
abbrev st__law_purse : Stmt := top 41
def N__law_purse : List Str := ["_law_script", "_law_cells", "_law_mixed", "_law_k", "_law_number"]
theorem sc__law_purse : FnScope N__law_purse ["_law_script"] (defScope st__law_purse) := ⟨rfl, rfl, rfl, by decide +kernel, rfl, by decide +kernel, by decide +kernel⟩
def dd__law_purse : He.DefD := ⟨("_law_purse", none), "_law_purse", "_law_purse", defArgs st__law_purse, defBody st__law_purse, defScope st__law_purse, [], []⟩
abbrev st__law_common : Stmt := top 42
def N__law_common : List Str := ["_law_numbers", "_law_found", "_law_number"]
theorem sc__law_common : FnScope N__law_common ["_law_numbers"] (defScope st__law_common) := ⟨rfl, rfl, rfl, by decide +kernel, rfl, by decide +kernel, by decide +kernel⟩
def dd__law_common : He.DefD := ⟨("_law_common", none), "_law_common", "_law_common", defArgs st__law_common, defBody st__law_common, defScope st__law_common, [], []⟩
abbrev st__law_wholes : Stmt := top 44
def N__law_wholes : List Str := ["_law_found", "_law_many", "_law_one"]
theorem sc__law_wholes : FnScope N__law_wholes ["_law_found", "_law_many"] (defScope st__law_wholes) := ⟨rfl, rfl, rfl, by decide +kernel, rfl, by decide +kernel, by decide +kernel⟩
def dd__law_wholes : He.DefD := ⟨("_law_wholes", none), "_law_wholes", "_law_wholes", defArgs st__law_wholes, defBody st__law_wholes, defScope st__law_wholes, [], []⟩
abbrev st__law_frac : Stmt := top 45
def N__law_frac : List Str := ["_law_top", "_law_bottom", "_law_one", "_law_other"]
theorem sc__law_frac : FnScope N__law_frac ["_law_top", "_law_bottom"] (defScope st__law_frac) := ⟨rfl, rfl, rfl, by decide +kernel, rfl, by decide +kernel, by decide +kernel⟩
def dd__law_frac : He.DefD := ⟨("_law_frac", none), "_law_frac", "_law_frac", defArgs st__law_frac, defBody st__law_frac, defScope st__law_frac, [], []⟩
abbrev st__law_kinds : Stmt := top 46
def N__law_kinds : List Str := ["_law_error", "_law_kinds_here", "_law_names", "_law_name", "_law_kind"]
theorem sc__law_kinds : FnScope N__law_kinds ["_law_error"] (defScope st__law_kinds) := ⟨rfl, rfl, rfl, by decide +kernel, rfl, by decide +kernel, by decide +kernel⟩
def dd__law_kinds : He.DefD := ⟨("_law_kinds", none), "_law_kinds", "_law_kinds", defArgs st__law_kinds, defBody st__law_kinds, defScope st__law_kinds, [], []⟩
abbrev st_is_fraction : Stmt := top 25
def N_is_fraction : List Str := ["thing"]
theorem sc_is_fraction : FnScope N_is_fraction ["thing"] (defScope st_is_fraction) := ⟨rfl, rfl, rfl, by decide +kernel, rfl, by decide +kernel, by decide +kernel⟩
def dd_is_fraction : He.DefD := ⟨("is_fraction", none), "is_fraction", "is_fraction", defArgs st_is_fraction, defBody st_is_fraction, defScope st_is_fraction, [], []⟩
abbrev st_fraction_of : Stmt := top 26
def N_fraction_of : List Str := ["top", "bottom", "by"]
theorem sc_fraction_of : FnScope N_fraction_of ["top", "bottom"] (defScope st_fraction_of) := ⟨rfl, rfl, rfl, by decide +kernel, rfl, by decide +kernel, by decide +kernel⟩
def dd_fraction_of : He.DefD := ⟨("fraction_of", none), "fraction_of", "fraction_of", defArgs st_fraction_of, defBody st_fraction_of, defScope st_fraction_of, [], []⟩
abbrev st_kept_six : Stmt := top 31
def N_kept_six : List Str := ["six", "share", "number"]
theorem sc_kept_six : FnScope N_kept_six ["six"] (defScope st_kept_six) := ⟨rfl, rfl, rfl, by decide +kernel, rfl, by decide +kernel, by decide +kernel⟩
def dd_kept_six : He.DefD := ⟨("kept_six", none), "kept_six", "kept_six", defArgs st_kept_six, defBody st_kept_six, defScope st_kept_six, [], []⟩
abbrev st__law_kept : Stmt := top 43
def N__law_kept : List Str := ["_law_numbers", "_law_share", "_law_first", "_law_number"]
theorem sc__law_kept : FnScope N__law_kept ["_law_numbers"] (defScope st__law_kept) := ⟨rfl, rfl, rfl, by decide +kernel, rfl, by decide +kernel, by decide +kernel⟩
def dd__law_kept : He.DefD := ⟨("_law_kept", none), "_law_kept", "_law_kept", defArgs st__law_kept, defBody st__law_kept, defScope st__law_kept, [], []⟩
abbrev st__law_fraction : Stmt := top 47
def N__law_fraction : List Str := ["_law_purse_here", "_law_way", "_law_size"]
theorem sc__law_fraction : FnScope N__law_fraction ["_law_purse_here"] (defScope st__law_fraction) := ⟨rfl, rfl, rfl, by decide +kernel, rfl, by decide +kernel, by decide +kernel⟩
def dd__law_fraction : He.DefD := ⟨("_law_fraction", none), "_law_fraction", "_law_fraction", defArgs st__law_fraction, defBody st__law_fraction, defScope st__law_fraction, [], []⟩
abbrev st__law_spoilt : Stmt := top 50
def N__law_spoilt : List Str := ["_law_purse_here", "_law_number", "_law_top", "_law_bottom", "_law_some"]
theorem sc__law_spoilt : FnScope N__law_spoilt ["_law_purse_here", "_law_number"] (defScope st__law_spoilt) := ⟨rfl, rfl, rfl, by decide +kernel, rfl, by decide +kernel, by decide +kernel⟩
def dd__law_spoilt : He.DefD := ⟨("_law_spoilt", none), "_law_spoilt", "_law_spoilt", defArgs st__law_spoilt, defBody st__law_spoilt, defScope st__law_spoilt, [], []⟩
abbrev st_frac_sum : Stmt := top 27
def N_frac_sum : List Str := ["one", "other"]
theorem sc_frac_sum : FnScope N_frac_sum ["one", "other"] (defScope st_frac_sum) := ⟨rfl, rfl, rfl, by decide +kernel, rfl, by decide +kernel, by decide +kernel⟩
def dd_frac_sum : He.DefD := ⟨("frac_sum", none), "frac_sum", "frac_sum", defArgs st_frac_sum, defBody st_frac_sum, defScope st_frac_sum, [], []⟩
abbrev st_frac_less : Stmt := top 28
def N_frac_less : List Str := ["one", "other"]
theorem sc_frac_less : FnScope N_frac_less ["one", "other"] (defScope st_frac_less) := ⟨rfl, rfl, rfl, by decide +kernel, rfl, by decide +kernel, by decide +kernel⟩
def dd_frac_less : He.DefD := ⟨("frac_less", none), "frac_less", "frac_less", defArgs st_frac_less, defBody st_frac_less, defScope st_frac_less, [], []⟩
abbrev st_frac_times : Stmt := top 29
def N_frac_times : List Str := ["one", "other"]
theorem sc_frac_times : FnScope N_frac_times ["one", "other"] (defScope st_frac_times) := ⟨rfl, rfl, rfl, by decide +kernel, rfl, by decide +kernel, by decide +kernel⟩
def dd_frac_times : He.DefD := ⟨("frac_times", none), "frac_times", "frac_times", defArgs st_frac_times, defBody st_frac_times, defScope st_frac_times, [], []⟩
abbrev st_whole_six : Stmt := top 33
def N_whole_six : List Str := ["fractions", "share", "top", "bottom"]
theorem sc_whole_six : FnScope N_whole_six ["fractions"] (defScope st_whole_six) := ⟨rfl, rfl, rfl, by decide +kernel, rfl, by decide +kernel, by decide +kernel⟩
def dd_whole_six : He.DefD := ⟨("whole_six", none), "whole_six", "whole_six", defArgs st_whole_six, defBody st_whole_six, defScope st_whole_six, [], []⟩
abbrev st_look_at_numbers : Stmt := top 37
def N_look_at_numbers : List Str := ["numbers", "number"]
theorem sc_look_at_numbers : FnScope N_look_at_numbers ["numbers"] (defScope st_look_at_numbers) := ⟨rfl, rfl, rfl, by decide +kernel, rfl, by decide +kernel, by decide +kernel⟩
def dd_look_at_numbers : He.DefD := ⟨("look_at_numbers", none), "look_at_numbers", "look_at_numbers", defArgs st_look_at_numbers, defBody st_look_at_numbers, defScope st_look_at_numbers, [], []⟩
abbrev st__law_square : Stmt := top 48
def N__law_square : List Str := ["_law_purse_here", "_law_one"]
theorem sc__law_square : FnScope N__law_square ["_law_purse_here"] (defScope st__law_square) := ⟨rfl, rfl, rfl, by decide +kernel, rfl, by decide +kernel, by decide +kernel⟩
def dd__law_square : He.DefD := ⟨("_law_square", none), "_law_square", "_law_square", defArgs st__law_square, defBody st__law_square, defScope st__law_square, [], []⟩
abbrev st__law_due : Stmt := top 49
def N__law_due : List Str := ["_law_x", "_law_y", "_law_square_here", "_law_a", "_law_b", "_law_c", "_law_d", "_law_e", "_law_f", "_law_all_of", "_law_last"]
theorem sc__law_due : FnScope N__law_due ["_law_x", "_law_y", "_law_square_here"] (defScope st__law_due) := ⟨rfl, rfl, rfl, by decide +kernel, rfl, by decide +kernel, by decide +kernel⟩
def dd__law_due : He.DefD := ⟨("_law_due", none), "_law_due", "_law_due", defArgs st__law_due, defBody st__law_due, defScope st__law_due, [], []⟩
abbrev st_circle_curve : Stmt := top 38
def N_circle_curve : List Str := ["x", "y", "square", "last", "twice"]
theorem sc_circle_curve : FnScope N_circle_curve ["x", "y", "square"] (defScope st_circle_curve) := ⟨rfl, rfl, rfl, by decide +kernel, rfl, by decide +kernel, by decide +kernel⟩
def dd_circle_curve : He.DefD := ⟨("circle_curve", none), "circle_curve", "circle_curve", defArgs st_circle_curve, defBody st_circle_curve, defScope st_circle_curve, [], []⟩
abbrev st__law_refused : Stmt := top 51
def N__law_refused : List Str := ["_law_x", "_law_y", "_law_square_here", "_law_error", "_law_e"]
theorem sc__law_refused : FnScope N__law_refused ["_law_x", "_law_y", "_law_square_here"] (defScope st__law_refused) := ⟨rfl, rfl, rfl, by decide +kernel, rfl, by decide +kernel, by decide +kernel⟩
def dd__law_refused : He.DefD := ⟨("_law_refused", none), "_law_refused", "_law_refused", defArgs st__law_refused, defBody st__law_refused, defScope st__law_refused, [], []⟩
abbrev st_law : Stmt := top 52
def N_law : List Str := ["_law_script", "_law_purse_here", "_law_time", "_law_handed", "_law_due_here", "_law_found", "_law_at", "_law_odd", "_law_low"]
theorem sc_law : FnScope N_law ["_law_script"] (defScope st_law) := ⟨rfl, rfl, rfl, by decide +kernel, rfl, by decide +kernel, by decide +kernel⟩
def dd_law : He.DefD := ⟨("law", none), "law", "law", defArgs st_law, defBody st_law, defScope st_law, [], []⟩
def fn : List He.DefD := [dd_is_number, dd_common_of, dd_turned_sign, dd__law_draw, dd__law_purse, dd__law_common, dd__law_wholes, dd__law_frac, dd__law_kinds, dd_is_fraction, dd_fraction_of, dd_kept_six, dd__law_kept, dd__law_fraction, dd__law_spoilt, dd_frac_sum, dd_frac_less, dd_frac_times, dd_whole_six, dd_look_at_numbers, dd__law_square, dd__law_due, dd_circle_curve, dd__law_refused, dd_law]
def fa : List Fc := [.free "isinstance", .free "int", .free "bool", .free "abs", .free "tuple", .free "len", .free "range", .isE "NoChord" [("NoBottom", false), ("NoCircle", false)], .isE "NoBottom" [("NoBottom", true), ("NoCircle", false)], .isE "Alike" [("NoBottom", false), ("NoCircle", false)], .isE "NoCubic" [("NoBottom", false), ("NoCircle", false)], .isE "NoClock" [("NoBottom", false), ("NoCircle", false)], .isE "NoCircle" [("NoBottom", false), ("NoCircle", true)], .isE "NoFraction" [("NoBottom", false), ("NoCircle", false)], .isE "NoFlag" [("NoBottom", false), ("NoCircle", false)], .isE "NoCurve" [("NoBottom", false), ("NoCircle", false)], .isE "NoPaper" [("NoBottom", false), ("NoCircle", false)], .isE "NoPair" [("NoBottom", false), ("NoCircle", false)], .isE "NoLine" [("NoBottom", false), ("NoCircle", false)], .isE "NoTable" [("NoBottom", false), ("NoCircle", false)], .isE "NoSpot" [("NoBottom", false), ("NoCircle", false)], .isE "NoSides" [("NoBottom", false), ("NoCircle", false)], .isE "TooMany" [("NoBottom", false), ("NoCircle", false)], .isE "NoTriple" [("NoBottom", false), ("NoCircle", false)], .isE "NoText" [("NoBottom", false), ("NoCircle", false)], .isE "RoundError" [("NoBottom", true), ("NoCircle", true)], .isT "ValueError" [("NoBottom", true), ("NoCircle", true)], .free "ValueError", .free "zip", .exc "NoBottom", .exc "NoCircle", .free "max", .tup "NONE" [.int 0, .int 1], .tup "ONE" [.int 1, .int 1], .exm "RoundError" [("NoBottom", true), ("NoCircle", true)], .free "list"]
section
variable {P : Program} {w : World} {K : PySem.W.Frag} {mg : Str → Option Value} {base : Heap} (M : Md fa fn K mg)
include M
theorem m_free_isinstance : Fc.holds K mg (.free "isinstance") := M.f 0 _ rfl
theorem m_free_int : Fc.holds K mg (.free "int") := M.f 1 _ rfl
theorem m_free_bool : Fc.holds K mg (.free "bool") := M.f 2 _ rfl
theorem m_free_abs : Fc.holds K mg (.free "abs") := M.f 3 _ rfl
theorem m_free_tuple : Fc.holds K mg (.free "tuple") := M.f 4 _ rfl
theorem m_free_len : Fc.holds K mg (.free "len") := M.f 5 _ rfl
theorem m_free_range : Fc.holds K mg (.free "range") := M.f 6 _ rfl
theorem m_isE_NoChord : Fc.holds K mg (.isE "NoChord" [("NoBottom", false), ("NoCircle", false)]) := M.f 7 _ rfl
theorem m_isE_NoBottom : Fc.holds K mg (.isE "NoBottom" [("NoBottom", true), ("NoCircle", false)]) := M.f 8 _ rfl
theorem m_isE_Alike : Fc.holds K mg (.isE "Alike" [("NoBottom", false), ("NoCircle", false)]) := M.f 9 _ rfl
theorem m_isE_NoCubic : Fc.holds K mg (.isE "NoCubic" [("NoBottom", false), ("NoCircle", false)]) := M.f 10 _ rfl
theorem m_isE_NoClock : Fc.holds K mg (.isE "NoClock" [("NoBottom", false), ("NoCircle", false)]) := M.f 11 _ rfl
theorem m_isE_NoCircle : Fc.holds K mg (.isE "NoCircle" [("NoBottom", false), ("NoCircle", true)]) := M.f 12 _ rfl
theorem m_isE_NoFraction : Fc.holds K mg (.isE "NoFraction" [("NoBottom", false), ("NoCircle", false)]) := M.f 13 _ rfl
theorem m_isE_NoFlag : Fc.holds K mg (.isE "NoFlag" [("NoBottom", false), ("NoCircle", false)]) := M.f 14 _ rfl
theorem m_isE_NoCurve : Fc.holds K mg (.isE "NoCurve" [("NoBottom", false), ("NoCircle", false)]) := M.f 15 _ rfl
theorem m_isE_NoPaper : Fc.holds K mg (.isE "NoPaper" [("NoBottom", false), ("NoCircle", false)]) := M.f 16 _ rfl
theorem m_isE_NoPair : Fc.holds K mg (.isE "NoPair" [("NoBottom", false), ("NoCircle", false)]) := M.f 17 _ rfl
theorem m_isE_NoLine : Fc.holds K mg (.isE "NoLine" [("NoBottom", false), ("NoCircle", false)]) := M.f 18 _ rfl
theorem m_isE_NoTable : Fc.holds K mg (.isE "NoTable" [("NoBottom", false), ("NoCircle", false)]) := M.f 19 _ rfl
theorem m_isE_NoSpot : Fc.holds K mg (.isE "NoSpot" [("NoBottom", false), ("NoCircle", false)]) := M.f 20 _ rfl
theorem m_isE_NoSides : Fc.holds K mg (.isE "NoSides" [("NoBottom", false), ("NoCircle", false)]) := M.f 21 _ rfl
theorem m_isE_TooMany : Fc.holds K mg (.isE "TooMany" [("NoBottom", false), ("NoCircle", false)]) := M.f 22 _ rfl
theorem m_isE_NoTriple : Fc.holds K mg (.isE "NoTriple" [("NoBottom", false), ("NoCircle", false)]) := M.f 23 _ rfl
theorem m_isE_NoText : Fc.holds K mg (.isE "NoText" [("NoBottom", false), ("NoCircle", false)]) := M.f 24 _ rfl
theorem m_isE_RoundError : Fc.holds K mg (.isE "RoundError" [("NoBottom", true), ("NoCircle", true)]) := M.f 25 _ rfl
theorem m_isT_ValueError : Fc.holds K mg (.isT "ValueError" [("NoBottom", true), ("NoCircle", true)]) := M.f 26 _ rfl
theorem m_free_ValueError : Fc.holds K mg (.free "ValueError") := M.f 27 _ rfl
theorem m_free_zip : Fc.holds K mg (.free "zip") := M.f 28 _ rfl
theorem m_exc_NoBottom : Fc.holds K mg (.exc "NoBottom") := M.f 29 _ rfl
theorem m_exc_NoCircle : Fc.holds K mg (.exc "NoCircle") := M.f 30 _ rfl
theorem m_free_max : Fc.holds K mg (.free "max") := M.f 31 _ rfl
theorem m_tup_NONE : Fc.holds K mg (.tup "NONE" [.int 0, .int 1]) := M.f 32 _ rfl
theorem m_tup_ONE : Fc.holds K mg (.tup "ONE" [.int 1, .int 1]) := M.f 33 _ rfl
theorem m_exm_RoundError : Fc.holds K mg (.exm "RoundError" [("NoBottom", true), ("NoCircle", true)]) := M.f 34 _ rfl
theorem m_free_list : Fc.holds K mg (.free "list") := M.f 35 _ rfl
/-! ### each def walked -/
theorem pb_is_number (f : Addr) (cdv : Value) (A : Around) (outer : List Env) (s : Shared) (H : Hp) (E : XK) (hr : Room 0 (A.deeper (envOfC "is_number" (defScope st_is_number) s.heap.objs.size f cdv))) :
    PSs (cxOf (L2.CX P w) P w K mg base N_is_number "is_number" (defScope st_is_number) f cdv A outer s H E) (defBody st_is_number) (tS ⟨K, mg⟩ (fun cls d _ H => E cls d H) db_is_number) := by
  have tk : Takes (cxOf (L2.CX P w) P w K mg base N_is_number "is_number" (defScope st_is_number) f cdv A outer s H E) (fun cls d _ H => E cls d H) := takes_of rfl rfl rfl rfl
  have hp : PassesOwn (model P w) (cxOf (L2.CX P w) P w K mg base N_is_number "is_number" (defScope st_is_number) f cdv A outer s H E).A (cxOf (L2.CX P w) P w K mg base N_is_number "is_number" (defScope st_is_number) f cdv A outer s H E).env (cxOf (L2.CX P w) P w K mg base N_is_number "is_number" (defScope st_is_number) f cdv A outer s H E).xe := passes_of (X := cxOf (L2.CX P w) P w K mg base N_is_number "is_number" (defScope st_is_number) f cdv A outer s H E) rfl
  have z : PSs (cxOf (L2.CX P w) P w K mg base N_is_number "is_number" (defScope st_is_number) f cdv A outer s H E) (defBody st_is_number) (tS ⟨K, mg⟩ (fun cls d _ H => E cls d H) (seqS (retS false (andD (isTyD .int (varD 0)) (notD (isTyD .bool (varD 0)))))
  nxS)) := (s_seq (s_ret (s_and (s_isTy .int (s_var (i := 0) rfl (by first | exact .inl rfl | exact .inr rfl | exact .inr (.inl rfl) | exact .inr (.inr rfl)) rfl rfl) rfl (m_free_isinstance M) rfl (m_free_int M) rfl rfl rfl) (s_one (s_not (s_isTy .bool (s_var (i := 0) rfl (by first | exact .inl rfl | exact .inr rfl | exact .inr (.inl rfl) | exact .inr (.inr rfl)) rfl rfl) rfl (m_free_isinstance M) rfl (m_free_bool M) rfl rfl rfl)))))
  s_done)
  exact z
theorem call_is_number : CallF P w K mg base 1 "is_number" 1 false d_is_number := callF (d := dd_is_number) (N := N_is_number) (ps := ["thing"]) (M.d 0 dd_is_number rfl) rfl rfl sc_is_number (fun _ _ _ _ _ _ us hl => match us, hl with | [_], _ => rfl) (pb_is_number M)
theorem pb_common_of (f : Addr) (cdv : Value) (A : Around) (outer : List Env) (s : Shared) (H : Hp) (E : XK) (hr : Room 0 (A.deeper (envOfC "common_of" (defScope st_common_of) s.heap.objs.size f cdv))) :
    PSs (cxOf (L2.CX P w) P w K mg base N_common_of "common_of" (defScope st_common_of) f cdv A outer s H E) (defBody st_common_of) (tS ⟨K, mg⟩ (fun cls d _ H => E cls d H) db_common_of) := by
  have tk : Takes (cxOf (L2.CX P w) P w K mg base N_common_of "common_of" (defScope st_common_of) f cdv A outer s H E) (fun cls d _ H => E cls d H) := takes_of rfl rfl rfl rfl
  have hp : PassesOwn (model P w) (cxOf (L2.CX P w) P w K mg base N_common_of "common_of" (defScope st_common_of) f cdv A outer s H E).A (cxOf (L2.CX P w) P w K mg base N_common_of "common_of" (defScope st_common_of) f cdv A outer s H E).env (cxOf (L2.CX P w) P w K mg base N_common_of "common_of" (defScope st_common_of) f cdv A outer s H E).xe := passes_of (X := cxOf (L2.CX P w) P w K mg base N_common_of "common_of" (defScope st_common_of) f cdv A outer s H E) rfl
  have z : PSs (cxOf (L2.CX P w) P w K mg base N_common_of "common_of" (defScope st_common_of) f cdv A outer s H E) (defBody st_common_of) (tS ⟨K, mg⟩ (fun cls d _ H => E cls d H) (seqS (asgS (.one 1) (conD (.int 0)))
  (seqS (forS (seqI (varD 0)) (.one 2) lb1_common_of)
  (seqS (retS false (varD 1))
  nxS)))) := (s_seq (s_set (i := 1) sc_common_of.nd rfl (by first | exact .inl rfl | exact .inr rfl | exact .inr (.inl rfl) | exact .inr (.inr rfl)) k_int rfl (.inl rfl))
  (s_seq (s_for hp rfl (i_seq (s_var (i := 0) rfl (by first | exact .inl rfl | exact .inr rfl | exact .inr (.inl rfl) | exact .inr (.inr rfl)) rfl rfl)) (g_one sc_common_of.nd rfl (by first | exact .inl rfl | exact .inr rfl | exact .inr (.inl rfl) | exact .inr (.inr rfl)) (.inl rfl)) (s_seq (s_set (i := 3) sc_common_of.nd rfl (by first | exact .inl rfl | exact .inr rfl | exact .inr (.inl rfl) | exact .inr (.inr rfl)) (e_abs (m_free_abs M) (s_cons (s_var (i := 2) rfl (by first | exact .inl rfl | exact .inr rfl | exact .inr (.inl rfl) | exact .inr (.inr rfl)) rfl rfl) s_nil rfl) rfl rfl rfl) rfl (.inl rfl))
  (s_seq (s_while hp (c_ne hr (s_var (i := 3) rfl (by first | exact .inl rfl | exact .inr rfl | exact .inr (.inl rfl) | exact .inr (.inr rfl)) rfl rfl) k_int) (s_seq (s_par (i := 1) (j := 3) rfl sc_common_of.nd rfl rfl (by decide) rfl rfl (s_cons (s_var (i := 3) rfl (by first | exact .inl rfl | exact .inr rfl | exact .inr (.inl rfl) | exact .inr (.inr rfl)) rfl rfl) (s_cons (e_mod (s_var (i := 1) rfl (by first | exact .inl rfl | exact .inr rfl | exact .inr (.inl rfl) | exact .inr (.inr rfl)) rfl rfl) (s_var (i := 3) rfl (by first | exact .inl rfl | exact .inr rfl | exact .inr (.inl rfl) | exact .inr (.inr rfl)) rfl rfl)) s_nil rfl) rfl) rfl rfl)
  s_done))
  s_done)) (fun _ => rfl))
  (s_seq (s_ret (s_var (i := 1) rfl (by first | exact .inl rfl | exact .inr rfl | exact .inr (.inl rfl) | exact .inr (.inr rfl)) rfl rfl))
  s_done)))
  exact z
theorem call_common_of : CallF P w K mg base 1 "common_of" 1 false d_common_of := callF (d := dd_common_of) (N := N_common_of) (ps := ["numbers"]) (M.d 1 dd_common_of rfl) rfl rfl sc_common_of (fun _ _ _ _ _ _ us hl => match us, hl with | [_], _ => rfl) (pb_common_of M)
theorem pb_turned_sign (f : Addr) (cdv : Value) (A : Around) (outer : List Env) (s : Shared) (H : Hp) (E : XK) (hr : Room 0 (A.deeper (envOfC "turned_sign" (defScope st_turned_sign) s.heap.objs.size f cdv))) :
    PSs (cxOf (L2.CX P w) P w K mg base N_turned_sign "turned_sign" (defScope st_turned_sign) f cdv A outer s H E) (defBody st_turned_sign) (tS ⟨K, mg⟩ (fun cls d _ H => E cls d H) db_turned_sign) := by
  have tk : Takes (cxOf (L2.CX P w) P w K mg base N_turned_sign "turned_sign" (defScope st_turned_sign) f cdv A outer s H E) (fun cls d _ H => E cls d H) := takes_of rfl rfl rfl rfl
  have hp : PassesOwn (model P w) (cxOf (L2.CX P w) P w K mg base N_turned_sign "turned_sign" (defScope st_turned_sign) f cdv A outer s H E).A (cxOf (L2.CX P w) P w K mg base N_turned_sign "turned_sign" (defScope st_turned_sign) f cdv A outer s H E).env (cxOf (L2.CX P w) P w K mg base N_turned_sign "turned_sign" (defScope st_turned_sign) f cdv A outer s H E).xe := passes_of (X := cxOf (L2.CX P w) P w K mg base N_turned_sign "turned_sign" (defScope st_turned_sign) f cdv A outer s H E) rfl
  have z : PSs (cxOf (L2.CX P w) P w K mg base N_turned_sign "turned_sign" (defScope st_turned_sign) f cdv A outer s H E) (defBody st_turned_sign) (tS ⟨K, mg⟩ (fun cls d _ H => E cls d H) (seqS (forS (seqI (varD 0)) (.one 1) lb1_turned_sign)
  (seqS (retS false (varD 0))
  nxS))) := (s_seq (s_for hp rfl (i_seq (s_var (i := 0) rfl (by first | exact .inl rfl | exact .inr rfl | exact .inr (.inl rfl) | exact .inr (.inr rfl)) rfl rfl)) (g_one sc_turned_sign.nd rfl (by first | exact .inl rfl | exact .inr rfl | exact .inr (.inl rfl) | exact .inr (.inr rfl)) (.inl rfl)) (s_seq (s_if (c_gt (s_var (i := 1) rfl (by first | exact .inl rfl | exact .inr rfl | exact .inr (.inl rfl) | exact .inr (.inr rfl)) rfl rfl) k_int) (s_seq (s_ret (s_var (i := 0) rfl (by first | exact .inl rfl | exact .inr rfl | exact .inr (.inl rfl) | exact .inr (.inr rfl)) rfl rfl))
  s_done) s_done)
  (s_seq (s_if (c_lt (s_var (i := 1) rfl (by first | exact .inl rfl | exact .inr rfl | exact .inr (.inl rfl) | exact .inr (.inr rfl)) rfl rfl) k_int) (s_seq (s_ret (e_tuple (m_free_tuple M) (s_cons (s_comp (own := [("other", 2)]) rfl sc_turned_sign.nd (i_seq (s_var (i := 0) rfl (by first | exact .inl rfl | exact .inr rfl | exact .inr (.inl rfl) | exact .inr (.inr rfl)) rfl rfl)) (show BlkOk N_turned_sign (defScope st_turned_sign) _ _ from ⟨rfl, by decide +kernel, by decide +kernel, by decide +kernel, by decide +kernel⟩) (by decide) (fun _ _ _ _ _ => (g_one sc_turned_sign.nd rfl (by first | exact .inl rfl | exact .inr rfl | exact .inr (.inl rfl) | exact .inr (.inr rfl)) (.inr rfl))) (fun _ _ _ _ _ => ts_nil) (fun _ _ _ _ _ => (e_sub k_int (s_var (i := 2) rfl (by first | exact .inl rfl | exact .inr rfl | exact .inr (.inl rfl) | exact .inr (.inr rfl)) rfl rfl))) (fun _ => rfl)) s_nil rfl) rfl rfl rfl))
  s_done) s_done)
  s_done)) (fun _ => rfl))
  (s_seq (s_ret (s_var (i := 0) rfl (by first | exact .inl rfl | exact .inr rfl | exact .inr (.inl rfl) | exact .inr (.inr rfl)) rfl rfl))
  s_done))
  exact z
theorem call_turned_sign : CallF P w K mg base 1 "turned_sign" 1 false d_turned_sign := callF (d := dd_turned_sign) (N := N_turned_sign) (ps := ["some"]) (M.d 2 dd_turned_sign rfl) rfl rfl sc_turned_sign (fun _ _ _ _ _ _ us hl => match us, hl with | [_], _ => rfl) (pb_turned_sign M)
theorem pb__law_draw (f : Addr) (cdv : Value) (A : Around) (outer : List Env) (s : Shared) (H : Hp) (E : XK) (hr : Room 0 (A.deeper (envOfC "_law_draw" (defScope st__law_draw) s.heap.objs.size f cdv))) :
    PSs (cxOf (L2.CX P w) P w K mg base N__law_draw "_law_draw" (defScope st__law_draw) f cdv A outer s H E) (defBody st__law_draw) (tS ⟨K, mg⟩ (fun cls d _ H => E cls d H) db__law_draw) := by
  have tk : Takes (cxOf (L2.CX P w) P w K mg base N__law_draw "_law_draw" (defScope st__law_draw) f cdv A outer s H E) (fun cls d _ H => E cls d H) := takes_of rfl rfl rfl rfl
  have hp : PassesOwn (model P w) (cxOf (L2.CX P w) P w K mg base N__law_draw "_law_draw" (defScope st__law_draw) f cdv A outer s H E).A (cxOf (L2.CX P w) P w K mg base N__law_draw "_law_draw" (defScope st__law_draw) f cdv A outer s H E).env (cxOf (L2.CX P w) P w K mg base N__law_draw "_law_draw" (defScope st__law_draw) f cdv A outer s H E).xe := passes_of (X := cxOf (L2.CX P w) P w K mg base N__law_draw "_law_draw" (defScope st__law_draw) f cdv A outer s H E) rfl
  have z : PSs (cxOf (L2.CX P w) P w K mg base N__law_draw "_law_draw" (defScope st__law_draw) f cdv A outer s H E) (defBody st__law_draw) (tS ⟨K, mg⟩ (fun cls d _ H => E cls d H) (seqS (asgS (.one 2) (calD intG (consD (bin2 eqG (bin2 ixG (varD 0) (conD (.int 0))) (conD (.int 0))) nilD)))
  (seqS (asgS (.one 3) (bin2 modG (bin2 ixG (varD 0) (varD 2)) (varD 1)))
  (seqS (setS (bin2 fdivG (bin2 ixG (varD 0) (varD 2)) (varD 1)) (varD 0) (varD 2))
  (seqS (retS false (varD 3))
  nxS))))) := (s_seq (s_set (i := 2) sc__law_draw.nd rfl (by first | exact .inl rfl | exact .inr rfl | exact .inr (.inl rfl) | exact .inr (.inr rfl)) (e_int (m_free_int M) (s_cons (e_eq hr (e_ix (fun _ _ => rfl) (s_var (i := 0) rfl (by first | exact .inl rfl | exact .inr rfl | exact .inr (.inl rfl) | exact .inr (.inr rfl)) rfl rfl) k_int) k_int) s_nil rfl) rfl rfl rfl) rfl (.inl rfl))
  (s_seq (s_set (i := 3) sc__law_draw.nd rfl (by first | exact .inl rfl | exact .inr rfl | exact .inr (.inl rfl) | exact .inr (.inr rfl)) (e_mod (e_ix (fun _ _ => rfl) (s_var (i := 0) rfl (by first | exact .inl rfl | exact .inr rfl | exact .inr (.inl rfl) | exact .inr (.inr rfl)) rfl rfl) (s_var (i := 2) rfl (by first | exact .inl rfl | exact .inr rfl | exact .inr (.inl rfl) | exact .inr (.inr rfl)) rfl rfl)) (s_var (i := 1) rfl (by first | exact .inl rfl | exact .inr rfl | exact .inr (.inl rfl) | exact .inr (.inr rfl)) rfl rfl)) rfl (.inl rfl))
  (s_seq (s_setI (e_fdiv (e_ix (fun _ _ => rfl) (s_var (i := 0) rfl (by first | exact .inl rfl | exact .inr rfl | exact .inr (.inl rfl) | exact .inr (.inr rfl)) rfl rfl) (s_var (i := 2) rfl (by first | exact .inl rfl | exact .inr rfl | exact .inr (.inl rfl) | exact .inr (.inr rfl)) rfl rfl)) (s_var (i := 1) rfl (by first | exact .inl rfl | exact .inr rfl | exact .inr (.inl rfl) | exact .inr (.inr rfl)) rfl rfl)) (s_var (i := 0) rfl (by first | exact .inl rfl | exact .inr rfl | exact .inr (.inl rfl) | exact .inr (.inr rfl)) rfl rfl) (s_var (i := 2) rfl (by first | exact .inl rfl | exact .inr rfl | exact .inr (.inl rfl) | exact .inr (.inr rfl)) rfl rfl) (fun _ => rfl) rfl rfl rfl)
  (s_seq (s_ret (s_var (i := 3) rfl (by first | exact .inl rfl | exact .inr rfl | exact .inr (.inl rfl) | exact .inr (.inr rfl)) rfl rfl))
  s_done))))
  exact z
theorem call__law_draw : CallF P w K mg base 1 "_law_draw" 2 false d__law_draw := callF (d := dd__law_draw) (N := N__law_draw) (ps := ["_law_purse_here", "_law_many"]) (M.d 3 dd__law_draw rfl) rfl rfl sc__law_draw (fun _ _ _ _ _ _ us hl => match us, hl with | [_, _], _ => rfl) (pb__law_draw M)
theorem pb__law_purse (f : Addr) (cdv : Value) (A : Around) (outer : List Env) (s : Shared) (H : Hp) (E : XK) (hr : Room 0 (A.deeper (envOfC "_law_purse" (defScope st__law_purse) s.heap.objs.size f cdv))) :
    PSs (cxOf (L2.CX P w) P w K mg base N__law_purse "_law_purse" (defScope st__law_purse) f cdv A outer s H E) (defBody st__law_purse) (tS ⟨K, mg⟩ (fun cls d _ H => E cls d H) db__law_purse) := by
  have tk : Takes (cxOf (L2.CX P w) P w K mg base N__law_purse "_law_purse" (defScope st__law_purse) f cdv A outer s H E) (fun cls d _ H => E cls d H) := takes_of rfl rfl rfl rfl
  have hp : PassesOwn (model P w) (cxOf (L2.CX P w) P w K mg base N__law_purse "_law_purse" (defScope st__law_purse) f cdv A outer s H E).A (cxOf (L2.CX P w) P w K mg base N__law_purse "_law_purse" (defScope st__law_purse) f cdv A outer s H E).env (cxOf (L2.CX P w) P w K mg base N__law_purse "_law_purse" (defScope st__law_purse) f cdv A outer s H E).xe := passes_of (X := cxOf (L2.CX P w) P w K mg base N__law_purse "_law_purse" (defScope st__law_purse) f cdv A outer s H E) rfl
  have z : PSs (cxOf (L2.CX P w) P w K mg base N__law_purse "_law_purse" (defScope st__law_purse) f cdv A outer s H E) (defBody st__law_purse) (tS ⟨K, mg⟩ (fun cls d _ H => E cls d H) (seqS (asgS (.one 1) (bin2 addAll (slcD (varD 0) (optD none) (optD (some (conD (.int 63))))) (lstD (consD (calD lenG (consD (varD 0) nilD)) nilD))))
  (seqS (asgS (.one 2) (conD (.int 1)))
  (seqS (forS (rng1I (consD (conD (.int 160)) nilD)) (.one 3) lb0__law_purse)
  (seqS (ifS (trD (bin2 geG (bin2 ixG (varD 1) (conD (.int 0))) (bin2 powG (conD (.int 10)) (conD (.int 18))))) (seqS (retS true (lstD (consD (bin2 subG (bin2 ixG (varD 1) (conD (.int 0))) (bin2 powG (conD (.int 10)) (conD (.int 18)))) (consD (varD 2) nilD))))
  nxS) nxS)
  (seqS (retS true (lstD (consD (conD (.int 0)) (consD (varD 2) nilD))))
  nxS)))))) := (s_seq (s_set (i := 1) sc__law_purse.nd rfl (by first | exact .inl rfl | exact .inr rfl | exact .inr (.inl rfl) | exact .inr (.inr rfl)) (e_add (s_slice (s_var (i := 0) rfl (by first | exact .inl rfl | exact .inr rfl | exact .inr (.inl rfl) | exact .inr (.inr rfl)) rfl rfl) o_none (o_some k_int)) (s_lst (s_cons (e_len (m_free_len M) (s_cons (s_var (i := 0) rfl (by first | exact .inl rfl | exact .inr rfl | exact .inr (.inl rfl) | exact .inr (.inr rfl)) rfl rfl) s_nil rfl) rfl rfl rfl) s_nil rfl))) rfl (.inl rfl))
  (s_seq (s_set (i := 2) sc__law_purse.nd rfl (by first | exact .inl rfl | exact .inr rfl | exact .inr (.inl rfl) | exact .inr (.inr rfl)) k_int rfl (.inl rfl))
  (s_seq (s_for hp rfl (i_rng1 rfl (m_free_range M) (s_cons k_int s_nil rfl) rfl) (g_one sc__law_purse.nd rfl (by first | exact .inl rfl | exact .inr rfl | exact .inr (.inl rfl) | exact .inr (.inr rfl)) (.inl rfl)) (s_seq (s_set (i := 4) sc__law_purse.nd rfl (by first | exact .inl rfl | exact .inr rfl | exact .inr (.inl rfl) | exact .inr (.inr rfl)) (e_mod (e_add (e_add (e_ix (fun _ _ => rfl) (s_var (i := 1) rfl (by first | exact .inl rfl | exact .inr rfl | exact .inr (.inl rfl) | exact .inr (.inr rfl)) rfl rfl) (e_mod (s_var (i := 3) rfl (by first | exact .inl rfl | exact .inr rfl | exact .inr (.inl rfl) | exact .inr (.inr rfl)) rfl rfl) (e_len (m_free_len M) (s_cons (s_var (i := 1) rfl (by first | exact .inl rfl | exact .inr rfl | exact .inr (.inl rfl) | exact .inr (.inr rfl)) rfl rfl) s_nil rfl) rfl rfl rfl))) (e_mul k_int (s_var (i := 3) rfl (by first | exact .inl rfl | exact .inr rfl | exact .inr (.inl rfl) | exact .inr (.inr rfl)) rfl rfl))) k_int) k_int) rfl (.inl rfl))
  (s_seq (s_set (i := 4) sc__law_purse.nd rfl (by first | exact .inl rfl | exact .inr rfl | exact .inr (.inl rfl) | exact .inr (.inr rfl)) (e_mod (e_add (e_mul (s_var (i := 4) rfl (by first | exact .inl rfl | exact .inr rfl | exact .inr (.inl rfl) | exact .inr (.inr rfl)) rfl rfl) (s_var (i := 4) rfl (by first | exact .inl rfl | exact .inr rfl | exact .inr (.inl rfl) | exact .inr (.inr rfl)) rfl rfl)) (e_mul k_int (s_var (i := 3) rfl (by first | exact .inl rfl | exact .inr rfl | exact .inr (.inl rfl) | exact .inr (.inr rfl)) rfl rfl))) k_int) rfl (.inl rfl))
  (s_seq (s_set (i := 2) sc__law_purse.nd rfl (by first | exact .inl rfl | exact .inr rfl | exact .inr (.inl rfl) | exact .inr (.inr rfl)) (e_add (e_mul (s_var (i := 2) rfl (by first | exact .inl rfl | exact .inr rfl | exact .inr (.inl rfl) | exact .inr (.inr rfl)) rfl rfl) k_int) (e_mod (e_mul (s_var (i := 4) rfl (by first | exact .inl rfl | exact .inr rfl | exact .inr (.inl rfl) | exact .inr (.inr rfl)) rfl rfl) (s_var (i := 4) rfl (by first | exact .inl rfl | exact .inr rfl | exact .inr (.inl rfl) | exact .inr (.inr rfl)) rfl rfl)) k_int)) rfl (.inl rfl))
  s_done))) (fun _ => rfl))
  (s_seq (s_if (c_ge (e_ix (fun _ _ => rfl) (s_var (i := 1) rfl (by first | exact .inl rfl | exact .inr rfl | exact .inr (.inl rfl) | exact .inr (.inr rfl)) rfl rfl) k_int) (e_pow k_int k_int)) (s_seq (s_ret (s_lst (s_cons (e_sub (e_ix (fun _ _ => rfl) (s_var (i := 1) rfl (by first | exact .inl rfl | exact .inr rfl | exact .inr (.inl rfl) | exact .inr (.inr rfl)) rfl rfl) k_int) (e_pow k_int k_int)) (s_cons (s_var (i := 2) rfl (by first | exact .inl rfl | exact .inr rfl | exact .inr (.inl rfl) | exact .inr (.inr rfl)) rfl rfl) s_nil rfl) rfl)))
  s_done) s_done)
  (s_seq (s_ret (s_lst (s_cons k_int (s_cons (s_var (i := 2) rfl (by first | exact .inl rfl | exact .inr rfl | exact .inr (.inl rfl) | exact .inr (.inr rfl)) rfl rfl) s_nil rfl) rfl)))
  s_done)))))
  exact z
theorem call__law_purse : CallF P w K mg base 1 "_law_purse" 1 true d__law_purse := callF (d := dd__law_purse) (N := N__law_purse) (ps := ["_law_script"]) (M.d 4 dd__law_purse rfl) rfl rfl sc__law_purse (fun _ _ _ _ _ _ us hl => match us, hl with | [_], _ => rfl) (pb__law_purse M)
theorem pb__law_common (f : Addr) (cdv : Value) (A : Around) (outer : List Env) (s : Shared) (H : Hp) (E : XK) (hr : Room 0 (A.deeper (envOfC "_law_common" (defScope st__law_common) s.heap.objs.size f cdv))) :
    PSs (cxOf (L2.CX P w) P w K mg base N__law_common "_law_common" (defScope st__law_common) f cdv A outer s H E) (defBody st__law_common) (tS ⟨K, mg⟩ (fun cls d _ H => E cls d H) db__law_common) := by
  have tk : Takes (cxOf (L2.CX P w) P w K mg base N__law_common "_law_common" (defScope st__law_common) f cdv A outer s H E) (fun cls d _ H => E cls d H) := takes_of rfl rfl rfl rfl
  have hp : PassesOwn (model P w) (cxOf (L2.CX P w) P w K mg base N__law_common "_law_common" (defScope st__law_common) f cdv A outer s H E).A (cxOf (L2.CX P w) P w K mg base N__law_common "_law_common" (defScope st__law_common) f cdv A outer s H E).env (cxOf (L2.CX P w) P w K mg base N__law_common "_law_common" (defScope st__law_common) f cdv A outer s H E).xe := passes_of (X := cxOf (L2.CX P w) P w K mg base N__law_common "_law_common" (defScope st__law_common) f cdv A outer s H E) rfl
  have z : PSs (cxOf (L2.CX P w) P w K mg base N__law_common "_law_common" (defScope st__law_common) f cdv A outer s H E) (defBody st__law_common) (tS ⟨K, mg⟩ (fun cls d _ H => E cls d H) (seqS (asgS (.one 1) (conD (.int 0)))
  (seqS (forS (seqI (varD 0)) (.one 2) lb1__law_common)
  (seqS (retS false (calD absG (consD (varD 1) nilD)))
  nxS)))) := (s_seq (s_set (i := 1) sc__law_common.nd rfl (by first | exact .inl rfl | exact .inr rfl | exact .inr (.inl rfl) | exact .inr (.inr rfl)) k_int rfl (.inl rfl))
  (s_seq (s_for hp rfl (i_seq (s_var (i := 0) rfl (by first | exact .inl rfl | exact .inr rfl | exact .inr (.inl rfl) | exact .inr (.inr rfl)) rfl rfl)) (g_one sc__law_common.nd rfl (by first | exact .inl rfl | exact .inr rfl | exact .inr (.inl rfl) | exact .inr (.inr rfl)) (.inl rfl)) (s_seq (s_while hp (c_ne hr (s_var (i := 2) rfl (by first | exact .inl rfl | exact .inr rfl | exact .inr (.inl rfl) | exact .inr (.inr rfl)) rfl rfl) k_int) (s_seq (s_par (i := 1) (j := 2) rfl sc__law_common.nd rfl rfl (by decide) rfl rfl (s_cons (s_var (i := 2) rfl (by first | exact .inl rfl | exact .inr rfl | exact .inr (.inl rfl) | exact .inr (.inr rfl)) rfl rfl) (s_cons (e_mod (s_var (i := 1) rfl (by first | exact .inl rfl | exact .inr rfl | exact .inr (.inl rfl) | exact .inr (.inr rfl)) rfl rfl) (s_var (i := 2) rfl (by first | exact .inl rfl | exact .inr rfl | exact .inr (.inl rfl) | exact .inr (.inr rfl)) rfl rfl)) s_nil rfl) rfl) rfl rfl)
  s_done))
  s_done) (fun _ => rfl))
  (s_seq (s_ret (e_abs (m_free_abs M) (s_cons (s_var (i := 1) rfl (by first | exact .inl rfl | exact .inr rfl | exact .inr (.inl rfl) | exact .inr (.inr rfl)) rfl rfl) s_nil rfl) rfl rfl rfl))
  s_done)))
  exact z
theorem call__law_common : CallF P w K mg base 1 "_law_common" 1 false d__law_common := callF (d := dd__law_common) (N := N__law_common) (ps := ["_law_numbers"]) (M.d 5 dd__law_common rfl) rfl rfl sc__law_common (fun _ _ _ _ _ _ us hl => match us, hl with | [_], _ => rfl) (pb__law_common M)
theorem pb__law_wholes (f : Addr) (cdv : Value) (A : Around) (outer : List Env) (s : Shared) (H : Hp) (E : XK) (hr : Room 0 (A.deeper (envOfC "_law_wholes" (defScope st__law_wholes) s.heap.objs.size f cdv))) :
    PSs (cxOf (L2.CX P w) P w K mg base N__law_wholes "_law_wholes" (defScope st__law_wholes) f cdv A outer s H E) (defBody st__law_wholes) (tS ⟨K, mg⟩ (fun cls d _ H => E cls d H) db__law_wholes) := by
  have tk : Takes (cxOf (L2.CX P w) P w K mg base N__law_wholes "_law_wholes" (defScope st__law_wholes) f cdv A outer s H E) (fun cls d _ H => E cls d H) := takes_of rfl rfl rfl rfl
  have hp : PassesOwn (model P w) (cxOf (L2.CX P w) P w K mg base N__law_wholes "_law_wholes" (defScope st__law_wholes) f cdv A outer s H E).A (cxOf (L2.CX P w) P w K mg base N__law_wholes "_law_wholes" (defScope st__law_wholes) f cdv A outer s H E).env (cxOf (L2.CX P w) P w K mg base N__law_wholes "_law_wholes" (defScope st__law_wholes) f cdv A outer s H E).xe := passes_of (X := cxOf (L2.CX P w) P w K mg base N__law_wholes "_law_wholes" (defScope st__law_wholes) f cdv A outer s H E) rfl
  have z : PSs (cxOf (L2.CX P w) P w K mg base N__law_wholes "_law_wholes" (defScope st__law_wholes) f cdv A outer s H E) (defBody st__law_wholes) (tS ⟨K, mg⟩ (fun cls d _ H => E cls d H) (seqS (ifS (trD (orD (notD (isTyD .tuple (varD 0))) (bin2 neG (calD lenG (consD (varD 0) nilD)) (varD 1)))) (seqS (retS false (conD (.bl false)))
  nxS) nxS)
  (seqS (retS false (bin2 eqG (calD lenG (consD (compD (seqI (varD 0)) (.one 2) ct0__law_wholes ce0__law_wholes [2]) nilD)) (conD (.int 0))))
  nxS))) := (s_seq (s_if (PW.pt (w_or (t_not (t_val (s_isTy .tuple (s_var (i := 0) rfl (by first | exact .inl rfl | exact .inr rfl | exact .inr (.inl rfl) | exact .inr (.inr rfl)) rfl rfl) rfl (m_free_isinstance M) rfl (m_free_tuple M) rfl rfl rfl) (fun _ => rfl))) (w_or1 (c_ne hr (e_len (m_free_len M) (s_cons (s_var (i := 0) rfl (by first | exact .inl rfl | exact .inr rfl | exact .inr (.inl rfl) | exact .inr (.inr rfl)) rfl rfl) s_nil rfl) rfl rfl rfl) (s_var (i := 1) rfl (by first | exact .inl rfl | exact .inr rfl | exact .inr (.inl rfl) | exact .inr (.inr rfl)) rfl rfl))))) (s_seq (s_ret k_bl)
  s_done) s_done)
  (s_seq (s_ret (e_eq hr (e_len (m_free_len M) (s_cons (s_comp (own := [("_law_one", 2)]) rfl sc__law_wholes.nd (i_seq (s_var (i := 0) rfl (by first | exact .inl rfl | exact .inr rfl | exact .inr (.inl rfl) | exact .inr (.inr rfl)) rfl rfl)) (show BlkOk N__law_wholes (defScope st__law_wholes) _ _ from ⟨rfl, by decide +kernel, by decide +kernel, by decide +kernel, by decide +kernel⟩) (by decide) (fun _ _ _ _ _ => (g_one sc__law_wholes.nd rfl (by first | exact .inl rfl | exact .inr rfl | exact .inr (.inl rfl) | exact .inr (.inr rfl)) (.inr rfl))) (fun _ _ _ _ _ => (pts_one (PW.pt (w_or (t_val (s_isTy .bool (s_var (i := 2) rfl (by first | exact .inl rfl | exact .inr rfl | exact .inr (.inl rfl) | exact .inr (.inr rfl)) rfl rfl) rfl (m_free_isinstance M) rfl (m_free_bool M) rfl rfl rfl) (fun _ => rfl)) (w_or1 (t_not (t_val (s_isTy .int (s_var (i := 2) rfl (by first | exact .inl rfl | exact .inr rfl | exact .inr (.inl rfl) | exact .inr (.inr rfl)) rfl rfl) rfl (m_free_isinstance M) rfl (m_free_int M) rfl rfl rfl) (fun _ => rfl)))))))) (fun _ _ _ _ _ => (s_var (i := 2) rfl (by first | exact .inl rfl | exact .inr rfl | exact .inr (.inl rfl) | exact .inr (.inr rfl)) rfl rfl)) (fun _ => rfl)) s_nil rfl) rfl rfl rfl) k_int))
  s_done))
  exact z
theorem call__law_wholes : CallF P w K mg base 1 "_law_wholes" 2 false d__law_wholes := callF (d := dd__law_wholes) (N := N__law_wholes) (ps := ["_law_found", "_law_many"]) (M.d 6 dd__law_wholes rfl) rfl rfl sc__law_wholes (fun _ _ _ _ _ _ us hl => match us, hl with | [_, _], _ => rfl) (pb__law_wholes M)
theorem pb__law_frac (f : Addr) (cdv : Value) (A : Around) (outer : List Env) (s : Shared) (H : Hp) (E : XK) (hr : Room 0 (A.deeper (envOfC "_law_frac" (defScope st__law_frac) s.heap.objs.size f cdv))) :
    PSs (cxOf (L2.CX P w) P w K mg base N__law_frac "_law_frac" (defScope st__law_frac) f cdv A outer s H E) (defBody st__law_frac) (tS ⟨K, mg⟩ (fun cls d _ H => E cls d H) db__law_frac) := by
  have tk : Takes (cxOf (L2.CX P w) P w K mg base N__law_frac "_law_frac" (defScope st__law_frac) f cdv A outer s H E) (fun cls d _ H => E cls d H) := takes_of rfl rfl rfl rfl
  have hp : PassesOwn (model P w) (cxOf (L2.CX P w) P w K mg base N__law_frac "_law_frac" (defScope st__law_frac) f cdv A outer s H E).A (cxOf (L2.CX P w) P w K mg base N__law_frac "_law_frac" (defScope st__law_frac) f cdv A outer s H E).env (cxOf (L2.CX P w) P w K mg base N__law_frac "_law_frac" (defScope st__law_frac) f cdv A outer s H E).xe := passes_of (X := cxOf (L2.CX P w) P w K mg base N__law_frac "_law_frac" (defScope st__law_frac) f cdv A outer s H E) rfl
  have z : PSs (cxOf (L2.CX P w) P w K mg base N__law_frac "_law_frac" (defScope st__law_frac) f cdv A outer s H E) (defBody st__law_frac) (tS ⟨K, mg⟩ (fun cls d _ H => E cls d H) (seqS (asgS (.one 2) (calD absG (consD (varD 0) nilD)))
  (seqS (asgS (.one 3) (varD 1))
  (seqS (whileS msA lt0__law_frac lb0__law_frac)
  (seqS (retS false (tupD (consD (bin2 fdivG (varD 0) (varD 3)) (consD (bin2 fdivG (varD 1) (varD 3)) nilD))))
  nxS))))) := (s_seq (s_set (i := 2) sc__law_frac.nd rfl (by first | exact .inl rfl | exact .inr rfl | exact .inr (.inl rfl) | exact .inr (.inr rfl)) (e_abs (m_free_abs M) (s_cons (s_var (i := 0) rfl (by first | exact .inl rfl | exact .inr rfl | exact .inr (.inl rfl) | exact .inr (.inr rfl)) rfl rfl) s_nil rfl) rfl rfl rfl) rfl (.inl rfl))
  (s_seq (s_set (i := 3) sc__law_frac.nd rfl (by first | exact .inl rfl | exact .inr rfl | exact .inr (.inl rfl) | exact .inr (.inr rfl)) (s_var (i := 1) rfl (by first | exact .inl rfl | exact .inr rfl | exact .inr (.inl rfl) | exact .inr (.inr rfl)) rfl rfl) rfl (.inl rfl))
  (s_seq (s_while hp (c_ne hr (s_var (i := 2) rfl (by first | exact .inl rfl | exact .inr rfl | exact .inr (.inl rfl) | exact .inr (.inr rfl)) rfl rfl) k_int) (s_seq (s_par (i := 2) (j := 3) rfl sc__law_frac.nd rfl rfl (by decide) rfl rfl (s_cons (e_mod (s_var (i := 3) rfl (by first | exact .inl rfl | exact .inr rfl | exact .inr (.inl rfl) | exact .inr (.inr rfl)) rfl rfl) (s_var (i := 2) rfl (by first | exact .inl rfl | exact .inr rfl | exact .inr (.inl rfl) | exact .inr (.inr rfl)) rfl rfl)) (s_cons (s_var (i := 2) rfl (by first | exact .inl rfl | exact .inr rfl | exact .inr (.inl rfl) | exact .inr (.inr rfl)) rfl rfl) s_nil rfl) rfl) rfl rfl)
  s_done))
  (s_seq (s_ret (s_tup (s_cons (e_fdiv (s_var (i := 0) rfl (by first | exact .inl rfl | exact .inr rfl | exact .inr (.inl rfl) | exact .inr (.inr rfl)) rfl rfl) (s_var (i := 3) rfl (by first | exact .inl rfl | exact .inr rfl | exact .inr (.inl rfl) | exact .inr (.inr rfl)) rfl rfl)) (s_cons (e_fdiv (s_var (i := 1) rfl (by first | exact .inl rfl | exact .inr rfl | exact .inr (.inl rfl) | exact .inr (.inr rfl)) rfl rfl) (s_var (i := 3) rfl (by first | exact .inl rfl | exact .inr rfl | exact .inr (.inl rfl) | exact .inr (.inr rfl)) rfl rfl)) s_nil rfl) rfl)))
  s_done))))
  exact z
theorem call__law_frac : CallF P w K mg base 1 "_law_frac" 2 false d__law_frac := callF (d := dd__law_frac) (N := N__law_frac) (ps := ["_law_top", "_law_bottom"]) (M.d 7 dd__law_frac rfl) rfl rfl sc__law_frac (fun _ _ _ _ _ _ us hl => match us, hl with | [_, _], _ => rfl) (pb__law_frac M)
theorem pb__law_kinds (f : Addr) (cdv : Value) (A : Around) (outer : List Env) (s : Shared) (H : Hp) (E : XK) (hr : Room 0 (A.deeper (envOfC "_law_kinds" (defScope st__law_kinds) s.heap.objs.size f cdv))) :
    PSs (cxOf (L2.CX P w) P w K mg base N__law_kinds "_law_kinds" (defScope st__law_kinds) f cdv A outer s H E) (defBody st__law_kinds) (tS ⟨K, mg⟩ (fun cls d _ H => E cls d H) db__law_kinds) := by
  have tk : Takes (cxOf (L2.CX P w) P w K mg base N__law_kinds "_law_kinds" (defScope st__law_kinds) f cdv A outer s H E) (fun cls d _ H => E cls d H) := takes_of rfl rfl rfl rfl
  have hp : PassesOwn (model P w) (cxOf (L2.CX P w) P w K mg base N__law_kinds "_law_kinds" (defScope st__law_kinds) f cdv A outer s H E).A (cxOf (L2.CX P w) P w K mg base N__law_kinds "_law_kinds" (defScope st__law_kinds) f cdv A outer s H E).env (cxOf (L2.CX P w) P w K mg base N__law_kinds "_law_kinds" (defScope st__law_kinds) f cdv A outer s H E).xe := passes_of (X := cxOf (L2.CX P w) P w K mg base N__law_kinds "_law_kinds" (defScope st__law_kinds) f cdv A outer s H E) rfl
  have z : PSs (cxOf (L2.CX P w) P w K mg base N__law_kinds "_law_kinds" (defScope st__law_kinds) f cdv A outer s H E) (defBody st__law_kinds) (tS ⟨K, mg⟩ (fun cls d _ H => E cls d H) (seqS (asgS (.one 1) (lstD (consD (isED (tl [("NoBottom", false), ("NoCircle", false)]) (varD 0)) (consD (isED (tl [("NoBottom", true), ("NoCircle", false)]) (varD 0)) (consD (isED (tl [("NoBottom", false), ("NoCircle", false)]) (varD 0)) nilD)))))
  (seqS (asgS (.one 1) (bin2 addAll (varD 1) (lstD (consD (isED (tl [("NoBottom", false), ("NoCircle", true)]) (varD 0)) (consD (isED (tl [("NoBottom", false), ("NoCircle", false)]) (varD 0)) (consD (isED (tl [("NoBottom", false), ("NoCircle", false)]) (varD 0)) nilD))))))
  (seqS (asgS (.one 1) (bin2 addAll (varD 1) (lstD (consD (isED (tl [("NoBottom", false), ("NoCircle", false)]) (varD 0)) (consD (isED (tl [("NoBottom", false), ("NoCircle", false)]) (varD 0)) (consD (isED (tl [("NoBottom", false), ("NoCircle", false)]) (varD 0)) nilD))))))
  (seqS (asgS (.one 1) (bin2 addAll (varD 1) (lstD (consD (isED (tl [("NoBottom", false), ("NoCircle", false)]) (varD 0)) (consD (isED (tl [("NoBottom", false), ("NoCircle", false)]) (varD 0)) (consD (isED (tl [("NoBottom", false), ("NoCircle", false)]) (varD 0)) nilD))))))
  (seqS (asgS (.one 1) (bin2 addAll (varD 1) (lstD (consD (isED (tl [("NoBottom", false), ("NoCircle", false)]) (varD 0)) (consD (isED (tl [("NoBottom", false), ("NoCircle", false)]) (varD 0)) (consD (isED (tl [("NoBottom", false), ("NoCircle", false)]) (varD 0)) nilD))))))
  (seqS (asgS (.one 1) (bin2 addAll (varD 1) (lstD (consD (isED (tl [("NoBottom", false), ("NoCircle", false)]) (varD 0)) (consD (isED (tl [("NoBottom", false), ("NoCircle", false)]) (varD 0)) (consD (isED (tl [("NoBottom", false), ("NoCircle", false)]) (varD 0)) nilD))))))
  (seqS (asgS (.one 2) (lstD (consD (conD (.str "alike")) (consD (conD (.str "bottom")) (consD (conD (.str "chord")) (consD (conD (.str "circle")) (consD (conD (.str "clock")) (consD (conD (.str "cubic")) (consD (conD (.str "curve")) (consD (conD (.str "flag")) (consD (conD (.str "fraction")) (consD (conD (.str "line")) nilD))))))))))))
  (seqS (asgS (.one 2) (bin2 addAll (varD 2) (lstD (consD (conD (.str "pair")) (consD (conD (.str "paper")) (consD (conD (.str "sides")) (consD (conD (.str "spot")) (consD (conD (.str "table")) (consD (conD (.str "text")) (consD (conD (.str "triple")) (consD (conD (.str "many")) nilD)))))))))))
  (seqS (ifS (trD (orD (notD (isED (tl [("NoBottom", true), ("NoCircle", true)]) (varD 0))) (notD (isED (tl [("NoBottom", true), ("NoCircle", true)]) (varD 0))))) (seqS (retS false (conD (.str "other")))
  nxS) nxS)
  (seqS (retS false (txtD joinG (conD (.str " ")) (compD (zipI (consD (varD 2) (consD (varD 1) nilD))) (.many [3, 4]) ct0__law_kinds ce0__law_kinds [3, 4])))
  nxS))))))))))) := (s_seq (s_set (i := 1) sc__law_kinds.nd rfl (by first | exact .inl rfl | exact .inr rfl | exact .inr (.inl rfl) | exact .inr (.inr rfl)) (s_lst (s_cons (s_isE (s_var (i := 0) rfl (by first | exact .inl rfl | exact .inr rfl | exact .inr (.inl rfl) | exact .inr (.inr rfl)) rfl rfl) rfl (m_free_isinstance M) (clsOwn (m_isE_Alike M).1 rfl rfl) (m_isE_Alike M).2 rfl rfl rfl) (s_cons (s_isE (s_var (i := 0) rfl (by first | exact .inl rfl | exact .inr rfl | exact .inr (.inl rfl) | exact .inr (.inr rfl)) rfl rfl) rfl (m_free_isinstance M) (clsOwn (m_isE_NoBottom M).1 rfl rfl) (m_isE_NoBottom M).2 rfl rfl rfl) (s_cons (s_isE (s_var (i := 0) rfl (by first | exact .inl rfl | exact .inr rfl | exact .inr (.inl rfl) | exact .inr (.inr rfl)) rfl rfl) rfl (m_free_isinstance M) (clsOwn (m_isE_NoChord M).1 rfl rfl) (m_isE_NoChord M).2 rfl rfl rfl) s_nil rfl) rfl) rfl)) rfl (.inl rfl))
  (s_seq (s_set (i := 1) sc__law_kinds.nd rfl (by first | exact .inl rfl | exact .inr rfl | exact .inr (.inl rfl) | exact .inr (.inr rfl)) (e_add (s_var (i := 1) rfl (by first | exact .inl rfl | exact .inr rfl | exact .inr (.inl rfl) | exact .inr (.inr rfl)) rfl rfl) (s_lst (s_cons (s_isE (s_var (i := 0) rfl (by first | exact .inl rfl | exact .inr rfl | exact .inr (.inl rfl) | exact .inr (.inr rfl)) rfl rfl) rfl (m_free_isinstance M) (clsOwn (m_isE_NoCircle M).1 rfl rfl) (m_isE_NoCircle M).2 rfl rfl rfl) (s_cons (s_isE (s_var (i := 0) rfl (by first | exact .inl rfl | exact .inr rfl | exact .inr (.inl rfl) | exact .inr (.inr rfl)) rfl rfl) rfl (m_free_isinstance M) (clsOwn (m_isE_NoClock M).1 rfl rfl) (m_isE_NoClock M).2 rfl rfl rfl) (s_cons (s_isE (s_var (i := 0) rfl (by first | exact .inl rfl | exact .inr rfl | exact .inr (.inl rfl) | exact .inr (.inr rfl)) rfl rfl) rfl (m_free_isinstance M) (clsOwn (m_isE_NoCubic M).1 rfl rfl) (m_isE_NoCubic M).2 rfl rfl rfl) s_nil rfl) rfl) rfl))) rfl (.inl rfl))
  (s_seq (s_set (i := 1) sc__law_kinds.nd rfl (by first | exact .inl rfl | exact .inr rfl | exact .inr (.inl rfl) | exact .inr (.inr rfl)) (e_add (s_var (i := 1) rfl (by first | exact .inl rfl | exact .inr rfl | exact .inr (.inl rfl) | exact .inr (.inr rfl)) rfl rfl) (s_lst (s_cons (s_isE (s_var (i := 0) rfl (by first | exact .inl rfl | exact .inr rfl | exact .inr (.inl rfl) | exact .inr (.inr rfl)) rfl rfl) rfl (m_free_isinstance M) (clsOwn (m_isE_NoCurve M).1 rfl rfl) (m_isE_NoCurve M).2 rfl rfl rfl) (s_cons (s_isE (s_var (i := 0) rfl (by first | exact .inl rfl | exact .inr rfl | exact .inr (.inl rfl) | exact .inr (.inr rfl)) rfl rfl) rfl (m_free_isinstance M) (clsOwn (m_isE_NoFlag M).1 rfl rfl) (m_isE_NoFlag M).2 rfl rfl rfl) (s_cons (s_isE (s_var (i := 0) rfl (by first | exact .inl rfl | exact .inr rfl | exact .inr (.inl rfl) | exact .inr (.inr rfl)) rfl rfl) rfl (m_free_isinstance M) (clsOwn (m_isE_NoFraction M).1 rfl rfl) (m_isE_NoFraction M).2 rfl rfl rfl) s_nil rfl) rfl) rfl))) rfl (.inl rfl))
  (s_seq (s_set (i := 1) sc__law_kinds.nd rfl (by first | exact .inl rfl | exact .inr rfl | exact .inr (.inl rfl) | exact .inr (.inr rfl)) (e_add (s_var (i := 1) rfl (by first | exact .inl rfl | exact .inr rfl | exact .inr (.inl rfl) | exact .inr (.inr rfl)) rfl rfl) (s_lst (s_cons (s_isE (s_var (i := 0) rfl (by first | exact .inl rfl | exact .inr rfl | exact .inr (.inl rfl) | exact .inr (.inr rfl)) rfl rfl) rfl (m_free_isinstance M) (clsOwn (m_isE_NoLine M).1 rfl rfl) (m_isE_NoLine M).2 rfl rfl rfl) (s_cons (s_isE (s_var (i := 0) rfl (by first | exact .inl rfl | exact .inr rfl | exact .inr (.inl rfl) | exact .inr (.inr rfl)) rfl rfl) rfl (m_free_isinstance M) (clsOwn (m_isE_NoPair M).1 rfl rfl) (m_isE_NoPair M).2 rfl rfl rfl) (s_cons (s_isE (s_var (i := 0) rfl (by first | exact .inl rfl | exact .inr rfl | exact .inr (.inl rfl) | exact .inr (.inr rfl)) rfl rfl) rfl (m_free_isinstance M) (clsOwn (m_isE_NoPaper M).1 rfl rfl) (m_isE_NoPaper M).2 rfl rfl rfl) s_nil rfl) rfl) rfl))) rfl (.inl rfl))
  (s_seq (s_set (i := 1) sc__law_kinds.nd rfl (by first | exact .inl rfl | exact .inr rfl | exact .inr (.inl rfl) | exact .inr (.inr rfl)) (e_add (s_var (i := 1) rfl (by first | exact .inl rfl | exact .inr rfl | exact .inr (.inl rfl) | exact .inr (.inr rfl)) rfl rfl) (s_lst (s_cons (s_isE (s_var (i := 0) rfl (by first | exact .inl rfl | exact .inr rfl | exact .inr (.inl rfl) | exact .inr (.inr rfl)) rfl rfl) rfl (m_free_isinstance M) (clsOwn (m_isE_NoSides M).1 rfl rfl) (m_isE_NoSides M).2 rfl rfl rfl) (s_cons (s_isE (s_var (i := 0) rfl (by first | exact .inl rfl | exact .inr rfl | exact .inr (.inl rfl) | exact .inr (.inr rfl)) rfl rfl) rfl (m_free_isinstance M) (clsOwn (m_isE_NoSpot M).1 rfl rfl) (m_isE_NoSpot M).2 rfl rfl rfl) (s_cons (s_isE (s_var (i := 0) rfl (by first | exact .inl rfl | exact .inr rfl | exact .inr (.inl rfl) | exact .inr (.inr rfl)) rfl rfl) rfl (m_free_isinstance M) (clsOwn (m_isE_NoTable M).1 rfl rfl) (m_isE_NoTable M).2 rfl rfl rfl) s_nil rfl) rfl) rfl))) rfl (.inl rfl))
  (s_seq (s_set (i := 1) sc__law_kinds.nd rfl (by first | exact .inl rfl | exact .inr rfl | exact .inr (.inl rfl) | exact .inr (.inr rfl)) (e_add (s_var (i := 1) rfl (by first | exact .inl rfl | exact .inr rfl | exact .inr (.inl rfl) | exact .inr (.inr rfl)) rfl rfl) (s_lst (s_cons (s_isE (s_var (i := 0) rfl (by first | exact .inl rfl | exact .inr rfl | exact .inr (.inl rfl) | exact .inr (.inr rfl)) rfl rfl) rfl (m_free_isinstance M) (clsOwn (m_isE_NoText M).1 rfl rfl) (m_isE_NoText M).2 rfl rfl rfl) (s_cons (s_isE (s_var (i := 0) rfl (by first | exact .inl rfl | exact .inr rfl | exact .inr (.inl rfl) | exact .inr (.inr rfl)) rfl rfl) rfl (m_free_isinstance M) (clsOwn (m_isE_NoTriple M).1 rfl rfl) (m_isE_NoTriple M).2 rfl rfl rfl) (s_cons (s_isE (s_var (i := 0) rfl (by first | exact .inl rfl | exact .inr rfl | exact .inr (.inl rfl) | exact .inr (.inr rfl)) rfl rfl) rfl (m_free_isinstance M) (clsOwn (m_isE_TooMany M).1 rfl rfl) (m_isE_TooMany M).2 rfl rfl rfl) s_nil rfl) rfl) rfl))) rfl (.inl rfl))
  (s_seq (s_set (i := 2) sc__law_kinds.nd rfl (by first | exact .inl rfl | exact .inr rfl | exact .inr (.inl rfl) | exact .inr (.inr rfl)) (s_lst (s_cons k_str (s_cons k_str (s_cons k_str (s_cons k_str (s_cons k_str (s_cons k_str (s_cons k_str (s_cons k_str (s_cons k_str (s_cons k_str s_nil rfl) rfl) rfl) rfl) rfl) rfl) rfl) rfl) rfl) rfl)) rfl (.inl rfl))
  (s_seq (s_set (i := 2) sc__law_kinds.nd rfl (by first | exact .inl rfl | exact .inr rfl | exact .inr (.inl rfl) | exact .inr (.inr rfl)) (e_add (s_var (i := 2) rfl (by first | exact .inl rfl | exact .inr rfl | exact .inr (.inl rfl) | exact .inr (.inr rfl)) rfl rfl) (s_lst (s_cons k_str (s_cons k_str (s_cons k_str (s_cons k_str (s_cons k_str (s_cons k_str (s_cons k_str (s_cons k_str s_nil rfl) rfl) rfl) rfl) rfl) rfl) rfl) rfl))) rfl (.inl rfl))
  (s_seq (s_if (PW.pt (w_or (t_not (t_val (s_isE (s_var (i := 0) rfl (by first | exact .inl rfl | exact .inr rfl | exact .inr (.inl rfl) | exact .inr (.inr rfl)) rfl rfl) rfl (m_free_isinstance M) (clsOwn (m_isE_RoundError M).1 rfl rfl) (m_isE_RoundError M).2 rfl rfl rfl) (fun _ => rfl))) (w_or1 (t_not (t_val (s_isE (s_var (i := 0) rfl (by first | exact .inl rfl | exact .inr rfl | exact .inr (.inl rfl) | exact .inr (.inr rfl)) rfl rfl) rfl (m_free_isinstance M) (clsTy (m_free_ValueError M) rfl rfl (by decide +kernel) (by decide)) (m_isT_ValueError M) rfl rfl rfl) (fun _ => rfl)))))) (s_seq (s_ret k_str)
  s_done) s_done)
  (s_seq (s_ret (s_join k_str (s_comp (own := [("_law_name", 3), ("_law_kind", 4)]) rfl sc__law_kinds.nd (i_zip rfl (m_free_zip M) (s_cons (s_var (i := 2) rfl (by first | exact .inl rfl | exact .inr rfl | exact .inr (.inl rfl) | exact .inr (.inr rfl)) rfl rfl) (s_cons (s_var (i := 1) rfl (by first | exact .inl rfl | exact .inr rfl | exact .inr (.inl rfl) | exact .inr (.inr rfl)) rfl rfl) s_nil rfl) rfl) rfl rfl) (show BlkOk N__law_kinds (defScope st__law_kinds) _ _ from ⟨rfl, by decide +kernel, by decide +kernel, by decide +kernel, by decide +kernel⟩) (by decide) (fun _ _ _ _ _ => (g_many rfl sc__law_kinds.nd (.cons rfl (by first | exact .inl rfl | exact .inr rfl | exact .inr (.inl rfl) | exact .inr (.inr rfl)) (.inr rfl) (.cons rfl (by first | exact .inl rfl | exact .inr rfl | exact .inr (.inl rfl) | exact .inr (.inr rfl)) (.inr rfl) .nil)))) (fun _ _ _ _ _ => (pts_one (t_val (s_var (i := 4) rfl (by first | exact .inl rfl | exact .inr rfl | exact .inr (.inl rfl) | exact .inr (.inr rfl)) rfl rfl) (fun _ => rfl)))) (fun _ _ _ _ _ => (s_var (i := 3) rfl (by first | exact .inl rfl | exact .inr rfl | exact .inr (.inl rfl) | exact .inr (.inr rfl)) rfl rfl)) (fun _ => rfl)) rfl rfl rfl))
  s_done))))))))))
  exact z
theorem call__law_kinds : CallF P w K mg base 1 "_law_kinds" 1 false d__law_kinds := callF (d := dd__law_kinds) (N := N__law_kinds) (ps := ["_law_error"]) (M.d 8 dd__law_kinds rfl) rfl rfl sc__law_kinds (fun _ _ _ _ _ _ us hl => match us, hl with | [_], _ => rfl) (pb__law_kinds M)
theorem pb_is_fraction (f : Addr) (cdv : Value) (A : Around) (outer : List Env) (s : Shared) (H : Hp) (E : XK) (hr : Room 1 (A.deeper (envOfC "is_fraction" (defScope st_is_fraction) s.heap.objs.size f cdv))) :
    PSs (cxOf (L2.CX P w) P w K mg base N_is_fraction "is_fraction" (defScope st_is_fraction) f cdv A outer s H E) (defBody st_is_fraction) (tS ⟨K, mg⟩ (fun cls d _ H => E cls d H) db_is_fraction) := by
  have tk : Takes (cxOf (L2.CX P w) P w K mg base N_is_fraction "is_fraction" (defScope st_is_fraction) f cdv A outer s H E) (fun cls d _ H => E cls d H) := takes_of rfl rfl rfl rfl
  have hp : PassesOwn (model P w) (cxOf (L2.CX P w) P w K mg base N_is_fraction "is_fraction" (defScope st_is_fraction) f cdv A outer s H E).A (cxOf (L2.CX P w) P w K mg base N_is_fraction "is_fraction" (defScope st_is_fraction) f cdv A outer s H E).env (cxOf (L2.CX P w) P w K mg base N_is_fraction "is_fraction" (defScope st_is_fraction) f cdv A outer s H E).xe := passes_of (X := cxOf (L2.CX P w) P w K mg base N_is_fraction "is_fraction" (defScope st_is_fraction) f cdv A outer s H E) rfl
  have z : PSs (cxOf (L2.CX P w) P w K mg base N_is_fraction "is_fraction" (defScope st_is_fraction) f cdv A outer s H E) (defBody st_is_fraction) (tS ⟨K, mg⟩ (fun cls d _ H => E cls d H) (seqS (ifS (trD (orD (notD (isTyD .tuple (varD 0))) (orD (bin2 neG (calD lenG (consD (varD 0) nilD)) (conD (.int 2))) (orD (notD (callD d_is_number (consD (bin2 ixG (varD 0) (conD (.int 0))) nilD))) (notD (callD d_is_number (consD (bin2 ixG (varD 0) (conD (.int 1))) nilD))))))) (seqS (retS false (conD (.bl false)))
  nxS) nxS)
  (seqS (retS false (andD (bin2 geG (bin2 ixG (varD 0) (conD (.int 1))) (conD (.int 1))) (bin2 eqG (callD d_common_of (consD (varD 0) nilD)) (conD (.int 1)))))
  nxS))) := (s_seq (s_if (PW.pt (w_or (t_not (t_val (s_isTy .tuple (s_var (i := 0) rfl (by first | exact .inl rfl | exact .inr rfl | exact .inr (.inl rfl) | exact .inr (.inr rfl)) rfl rfl) rfl (m_free_isinstance M) rfl (m_free_tuple M) rfl rfl rfl) (fun _ => rfl))) (w_or (c_ne hr (e_len (m_free_len M) (s_cons (s_var (i := 0) rfl (by first | exact .inl rfl | exact .inr rfl | exact .inr (.inl rfl) | exact .inr (.inr rfl)) rfl rfl) s_nil rfl) rfl rfl rfl) k_int) (w_or (t_not (t_val (e_call (call_is_number M) hr (by decide) tk (s_cons (e_ix (fun _ _ => rfl) (s_var (i := 0) rfl (by first | exact .inl rfl | exact .inr rfl | exact .inr (.inl rfl) | exact .inr (.inr rfl)) rfl rfl) k_int) s_nil rfl) (len_cons len_nil) rfl rfl rfl rfl rfl) (fun _ => rfl))) (w_or1 (t_not (t_val (e_call (call_is_number M) hr (by decide) tk (s_cons (e_ix (fun _ _ => rfl) (s_var (i := 0) rfl (by first | exact .inl rfl | exact .inr rfl | exact .inr (.inl rfl) | exact .inr (.inr rfl)) rfl rfl) k_int) s_nil rfl) (len_cons len_nil) rfl rfl rfl rfl rfl) (fun _ => rfl)))))))) (s_seq (s_ret k_bl)
  s_done) s_done)
  (s_seq (s_ret (s_and (e_ge (e_ix (fun _ _ => rfl) (s_var (i := 0) rfl (by first | exact .inl rfl | exact .inr rfl | exact .inr (.inl rfl) | exact .inr (.inr rfl)) rfl rfl) k_int) k_int) (s_one (e_eq hr (e_call (call_common_of M) hr (by decide) tk (s_cons (s_var (i := 0) rfl (by first | exact .inl rfl | exact .inr rfl | exact .inr (.inl rfl) | exact .inr (.inr rfl)) rfl rfl) s_nil rfl) (len_cons len_nil) rfl rfl rfl rfl rfl) k_int))))
  s_done))
  exact z
theorem call_is_fraction : CallF P w K mg base 2 "is_fraction" 1 false d_is_fraction := callF (d := dd_is_fraction) (N := N_is_fraction) (ps := ["thing"]) (M.d 9 dd_is_fraction rfl) rfl rfl sc_is_fraction (fun _ _ _ _ _ _ us hl => match us, hl with | [_], _ => rfl) (pb_is_fraction M)
theorem pb_fraction_of (f : Addr) (cdv : Value) (A : Around) (outer : List Env) (s : Shared) (H : Hp) (E : XK) (hr : Room 1 (A.deeper (envOfC "fraction_of" (defScope st_fraction_of) s.heap.objs.size f cdv))) :
    PSs (cxOf (L2.CX P w) P w K mg base N_fraction_of "fraction_of" (defScope st_fraction_of) f cdv A outer s H E) (defBody st_fraction_of) (tS ⟨K, mg⟩ (fun cls d _ H => E cls d H) db_fraction_of) := by
  have tk : Takes (cxOf (L2.CX P w) P w K mg base N_fraction_of "fraction_of" (defScope st_fraction_of) f cdv A outer s H E) (fun cls d _ H => E cls d H) := takes_of rfl rfl rfl rfl
  have hp : PassesOwn (model P w) (cxOf (L2.CX P w) P w K mg base N_fraction_of "fraction_of" (defScope st_fraction_of) f cdv A outer s H E).A (cxOf (L2.CX P w) P w K mg base N_fraction_of "fraction_of" (defScope st_fraction_of) f cdv A outer s H E).env (cxOf (L2.CX P w) P w K mg base N_fraction_of "fraction_of" (defScope st_fraction_of) f cdv A outer s H E).xe := passes_of (X := cxOf (L2.CX P w) P w K mg base N_fraction_of "fraction_of" (defScope st_fraction_of) f cdv A outer s H E) rfl
  have z : PSs (cxOf (L2.CX P w) P w K mg base N_fraction_of "fraction_of" (defScope st_fraction_of) f cdv A outer s H E) (defBody st_fraction_of) (tS ⟨K, mg⟩ (fun cls d _ H => E cls d H) (seqS (ifS (trD (bin2 eqG (varD 1) (conD (.int 0)))) (seqS (raiseS "NoBottom")
  nxS) nxS)
  (seqS (asgS (.one 2) (callD d_common_of (consD (tupD (consD (varD 0) (consD (varD 1) nilD))) nilD)))
  (seqS (ifS (trD (bin2 ltG (varD 1) (conD (.int 0)))) (seqS (asgS (.one 2) (bin2 subG (conD (.int 0)) (varD 2)))
  nxS) nxS)
  (seqS (retS false (tupD (consD (bin2 fdivG (varD 0) (varD 2)) (consD (bin2 fdivG (varD 1) (varD 2)) nilD))))
  nxS))))) := (s_seq (s_if (c_eq hr (s_var (i := 1) rfl (by first | exact .inl rfl | exact .inr rfl | exact .inr (.inl rfl) | exact .inr (.inr rfl)) rfl rfl) k_int) (s_seq (e_raise (m_exc_NoBottom M) rfl tk rfl rfl)
  s_done) s_done)
  (s_seq (s_set (i := 2) sc_fraction_of.nd rfl (by first | exact .inl rfl | exact .inr rfl | exact .inr (.inl rfl) | exact .inr (.inr rfl)) (e_call (call_common_of M) hr (by decide) tk (s_cons (s_tup (s_cons (s_var (i := 0) rfl (by first | exact .inl rfl | exact .inr rfl | exact .inr (.inl rfl) | exact .inr (.inr rfl)) rfl rfl) (s_cons (s_var (i := 1) rfl (by first | exact .inl rfl | exact .inr rfl | exact .inr (.inl rfl) | exact .inr (.inr rfl)) rfl rfl) s_nil rfl) rfl)) s_nil rfl) (len_cons len_nil) rfl rfl rfl rfl rfl) rfl (.inl rfl))
  (s_seq (s_if (c_lt (s_var (i := 1) rfl (by first | exact .inl rfl | exact .inr rfl | exact .inr (.inl rfl) | exact .inr (.inr rfl)) rfl rfl) k_int) (s_seq (s_set (i := 2) sc_fraction_of.nd rfl (by first | exact .inl rfl | exact .inr rfl | exact .inr (.inl rfl) | exact .inr (.inr rfl)) (e_sub k_int (s_var (i := 2) rfl (by first | exact .inl rfl | exact .inr rfl | exact .inr (.inl rfl) | exact .inr (.inr rfl)) rfl rfl)) rfl (.inl rfl))
  s_done) s_done)
  (s_seq (s_ret (s_tup (s_cons (e_fdiv (s_var (i := 0) rfl (by first | exact .inl rfl | exact .inr rfl | exact .inr (.inl rfl) | exact .inr (.inr rfl)) rfl rfl) (s_var (i := 2) rfl (by first | exact .inl rfl | exact .inr rfl | exact .inr (.inl rfl) | exact .inr (.inr rfl)) rfl rfl)) (s_cons (e_fdiv (s_var (i := 1) rfl (by first | exact .inl rfl | exact .inr rfl | exact .inr (.inl rfl) | exact .inr (.inr rfl)) rfl rfl) (s_var (i := 2) rfl (by first | exact .inl rfl | exact .inr rfl | exact .inr (.inl rfl) | exact .inr (.inr rfl)) rfl rfl)) s_nil rfl) rfl)))
  s_done))))
  exact z
theorem call_fraction_of : CallF P w K mg base 2 "fraction_of" 2 false d_fraction_of := callF (d := dd_fraction_of) (N := N_fraction_of) (ps := ["top", "bottom"]) (M.d 10 dd_fraction_of rfl) rfl rfl sc_fraction_of (fun _ _ _ _ _ _ us hl => match us, hl with | [_, _], _ => rfl) (pb_fraction_of M)
theorem pb_kept_six (f : Addr) (cdv : Value) (A : Around) (outer : List Env) (s : Shared) (H : Hp) (E : XK) (hr : Room 1 (A.deeper (envOfC "kept_six" (defScope st_kept_six) s.heap.objs.size f cdv))) :
    PSs (cxOf (L2.CX P w) P w K mg base N_kept_six "kept_six" (defScope st_kept_six) f cdv A outer s H E) (defBody st_kept_six) (tS ⟨K, mg⟩ (fun cls d _ H => E cls d H) db_kept_six) := by
  have tk : Takes (cxOf (L2.CX P w) P w K mg base N_kept_six "kept_six" (defScope st_kept_six) f cdv A outer s H E) (fun cls d _ H => E cls d H) := takes_of rfl rfl rfl rfl
  have hp : PassesOwn (model P w) (cxOf (L2.CX P w) P w K mg base N_kept_six "kept_six" (defScope st_kept_six) f cdv A outer s H E).A (cxOf (L2.CX P w) P w K mg base N_kept_six "kept_six" (defScope st_kept_six) f cdv A outer s H E).env (cxOf (L2.CX P w) P w K mg base N_kept_six "kept_six" (defScope st_kept_six) f cdv A outer s H E).xe := passes_of (X := cxOf (L2.CX P w) P w K mg base N_kept_six "kept_six" (defScope st_kept_six) f cdv A outer s H E) rfl
  have z : PSs (cxOf (L2.CX P w) P w K mg base N_kept_six "kept_six" (defScope st_kept_six) f cdv A outer s H E) (defBody st_kept_six) (tS ⟨K, mg⟩ (fun cls d _ H => E cls d H) (seqS (asgS (.one 1) (callD d_common_of (consD (varD 0) nilD)))
  (seqS (retS false (callD d_turned_sign (consD (calD tupG (consD (compD (seqI (varD 0)) (.one 2) yesD ce0_kept_six [2]) nilD)) nilD)))
  nxS))) := (s_seq (s_set (i := 1) sc_kept_six.nd rfl (by first | exact .inl rfl | exact .inr rfl | exact .inr (.inl rfl) | exact .inr (.inr rfl)) (e_call (call_common_of M) hr (by decide) tk (s_cons (s_var (i := 0) rfl (by first | exact .inl rfl | exact .inr rfl | exact .inr (.inl rfl) | exact .inr (.inr rfl)) rfl rfl) s_nil rfl) (len_cons len_nil) rfl rfl rfl rfl rfl) rfl (.inl rfl))
  (s_seq (s_ret (e_call (call_turned_sign M) hr (by decide) tk (s_cons (e_tuple (m_free_tuple M) (s_cons (s_comp (own := [("number", 2)]) rfl sc_kept_six.nd (i_seq (s_var (i := 0) rfl (by first | exact .inl rfl | exact .inr rfl | exact .inr (.inl rfl) | exact .inr (.inr rfl)) rfl rfl)) (show BlkOk N_kept_six (defScope st_kept_six) _ _ from ⟨rfl, by decide +kernel, by decide +kernel, by decide +kernel, by decide +kernel⟩) (by decide) (fun _ _ _ _ _ => (g_one sc_kept_six.nd rfl (by first | exact .inl rfl | exact .inr rfl | exact .inr (.inl rfl) | exact .inr (.inr rfl)) (.inr rfl))) (fun _ _ _ _ _ => ts_nil) (fun _ _ _ _ _ => (e_fdiv (s_var (i := 2) rfl (by first | exact .inl rfl | exact .inr rfl | exact .inr (.inl rfl) | exact .inr (.inr rfl)) rfl rfl) (s_var (i := 1) rfl (by first | exact .inl rfl | exact .inr rfl | exact .inr (.inl rfl) | exact .inr (.inr rfl)) rfl rfl))) (fun _ => rfl)) s_nil rfl) rfl rfl rfl) s_nil rfl) (len_cons len_nil) rfl rfl rfl rfl rfl))
  s_done))
  exact z
theorem call_kept_six : CallF P w K mg base 2 "kept_six" 1 false d_kept_six := callF (d := dd_kept_six) (N := N_kept_six) (ps := ["six"]) (M.d 11 dd_kept_six rfl) rfl rfl sc_kept_six (fun _ _ _ _ _ _ us hl => match us, hl with | [_], _ => rfl) (pb_kept_six M)
theorem pb__law_kept (f : Addr) (cdv : Value) (A : Around) (outer : List Env) (s : Shared) (H : Hp) (E : XK) (hr : Room 1 (A.deeper (envOfC "_law_kept" (defScope st__law_kept) s.heap.objs.size f cdv))) :
    PSs (cxOf (L2.CX P w) P w K mg base N__law_kept "_law_kept" (defScope st__law_kept) f cdv A outer s H E) (defBody st__law_kept) (tS ⟨K, mg⟩ (fun cls d _ H => E cls d H) db__law_kept) := by
  have tk : Takes (cxOf (L2.CX P w) P w K mg base N__law_kept "_law_kept" (defScope st__law_kept) f cdv A outer s H E) (fun cls d _ H => E cls d H) := takes_of rfl rfl rfl rfl
  have hp : PassesOwn (model P w) (cxOf (L2.CX P w) P w K mg base N__law_kept "_law_kept" (defScope st__law_kept) f cdv A outer s H E).A (cxOf (L2.CX P w) P w K mg base N__law_kept "_law_kept" (defScope st__law_kept) f cdv A outer s H E).env (cxOf (L2.CX P w) P w K mg base N__law_kept "_law_kept" (defScope st__law_kept) f cdv A outer s H E).xe := passes_of (X := cxOf (L2.CX P w) P w K mg base N__law_kept "_law_kept" (defScope st__law_kept) f cdv A outer s H E) rfl
  have z : PSs (cxOf (L2.CX P w) P w K mg base N__law_kept "_law_kept" (defScope st__law_kept) f cdv A outer s H E) (defBody st__law_kept) (tS ⟨K, mg⟩ (fun cls d _ H => E cls d H) (seqS (asgS (.one 1) (callD d__law_common (consD (varD 0) nilD)))
  (seqS (asgS (.one 2) (bin2 ixG (compD (seqI (varD 0)) (.one 3) ct0__law_kept ce0__law_kept [3]) (conD (.int 0))))
  (seqS (ifS (trD (bin2 ltG (varD 2) (conD (.int 0)))) (seqS (asgS (.one 1) (bin2 subG (conD (.int 0)) (varD 1)))
  nxS) nxS)
  (seqS (retS false (calD tupG (consD (compD (seqI (varD 0)) (.one 3) yesD ce1__law_kept [3]) nilD)))
  nxS))))) := (s_seq (s_set (i := 1) sc__law_kept.nd rfl (by first | exact .inl rfl | exact .inr rfl | exact .inr (.inl rfl) | exact .inr (.inr rfl)) (e_call (call__law_common M) hr (by decide) tk (s_cons (s_var (i := 0) rfl (by first | exact .inl rfl | exact .inr rfl | exact .inr (.inl rfl) | exact .inr (.inr rfl)) rfl rfl) s_nil rfl) (len_cons len_nil) rfl rfl rfl rfl rfl) rfl (.inl rfl))
  (s_seq (s_set (i := 2) sc__law_kept.nd rfl (by first | exact .inl rfl | exact .inr rfl | exact .inr (.inl rfl) | exact .inr (.inr rfl)) (e_ix (fun _ _ => rfl) (s_comp (own := [("_law_number", 3)]) rfl sc__law_kept.nd (i_seq (s_var (i := 0) rfl (by first | exact .inl rfl | exact .inr rfl | exact .inr (.inl rfl) | exact .inr (.inr rfl)) rfl rfl)) (show BlkOk N__law_kept (defScope st__law_kept) _ _ from ⟨rfl, by decide +kernel, by decide +kernel, by decide +kernel, by decide +kernel⟩) (by decide) (fun _ _ _ _ _ => (g_one sc__law_kept.nd rfl (by first | exact .inl rfl | exact .inr rfl | exact .inr (.inl rfl) | exact .inr (.inr rfl)) (.inr rfl))) (fun _ _ _ _ _ => (pts_one (c_ne hr (s_var (i := 3) rfl (by first | exact .inl rfl | exact .inr rfl | exact .inr (.inl rfl) | exact .inr (.inr rfl)) rfl rfl) k_int))) (fun _ _ _ _ _ => (s_var (i := 3) rfl (by first | exact .inl rfl | exact .inr rfl | exact .inr (.inl rfl) | exact .inr (.inr rfl)) rfl rfl)) (fun _ => rfl)) k_int) rfl (.inl rfl))
  (s_seq (s_if (c_lt (s_var (i := 2) rfl (by first | exact .inl rfl | exact .inr rfl | exact .inr (.inl rfl) | exact .inr (.inr rfl)) rfl rfl) k_int) (s_seq (s_set (i := 1) sc__law_kept.nd rfl (by first | exact .inl rfl | exact .inr rfl | exact .inr (.inl rfl) | exact .inr (.inr rfl)) (e_sub k_int (s_var (i := 1) rfl (by first | exact .inl rfl | exact .inr rfl | exact .inr (.inl rfl) | exact .inr (.inr rfl)) rfl rfl)) rfl (.inl rfl))
  s_done) s_done)
  (s_seq (s_ret (e_tuple (m_free_tuple M) (s_cons (s_comp (own := [("_law_number", 3)]) rfl sc__law_kept.nd (i_seq (s_var (i := 0) rfl (by first | exact .inl rfl | exact .inr rfl | exact .inr (.inl rfl) | exact .inr (.inr rfl)) rfl rfl)) (show BlkOk N__law_kept (defScope st__law_kept) _ _ from ⟨rfl, by decide +kernel, by decide +kernel, by decide +kernel, by decide +kernel⟩) (by decide) (fun _ _ _ _ _ => (g_one sc__law_kept.nd rfl (by first | exact .inl rfl | exact .inr rfl | exact .inr (.inl rfl) | exact .inr (.inr rfl)) (.inr rfl))) (fun _ _ _ _ _ => ts_nil) (fun _ _ _ _ _ => (e_fdiv (s_var (i := 3) rfl (by first | exact .inl rfl | exact .inr rfl | exact .inr (.inl rfl) | exact .inr (.inr rfl)) rfl rfl) (s_var (i := 1) rfl (by first | exact .inl rfl | exact .inr rfl | exact .inr (.inl rfl) | exact .inr (.inr rfl)) rfl rfl))) (fun _ => rfl)) s_nil rfl) rfl rfl rfl))
  s_done))))
  exact z
theorem call__law_kept : CallF P w K mg base 2 "_law_kept" 1 false d__law_kept := callF (d := dd__law_kept) (N := N__law_kept) (ps := ["_law_numbers"]) (M.d 12 dd__law_kept rfl) rfl rfl sc__law_kept (fun _ _ _ _ _ _ us hl => match us, hl with | [_], _ => rfl) (pb__law_kept M)
theorem pb__law_fraction (f : Addr) (cdv : Value) (A : Around) (outer : List Env) (s : Shared) (H : Hp) (E : XK) (hr : Room 1 (A.deeper (envOfC "_law_fraction" (defScope st__law_fraction) s.heap.objs.size f cdv))) :
    PSs (cxOf (L2.CX P w) P w K mg base N__law_fraction "_law_fraction" (defScope st__law_fraction) f cdv A outer s H E) (defBody st__law_fraction) (tS ⟨K, mg⟩ (fun cls d _ H => E cls d H) db__law_fraction) := by
  have tk : Takes (cxOf (L2.CX P w) P w K mg base N__law_fraction "_law_fraction" (defScope st__law_fraction) f cdv A outer s H E) (fun cls d _ H => E cls d H) := takes_of rfl rfl rfl rfl
  have hp : PassesOwn (model P w) (cxOf (L2.CX P w) P w K mg base N__law_fraction "_law_fraction" (defScope st__law_fraction) f cdv A outer s H E).A (cxOf (L2.CX P w) P w K mg base N__law_fraction "_law_fraction" (defScope st__law_fraction) f cdv A outer s H E).env (cxOf (L2.CX P w) P w K mg base N__law_fraction "_law_fraction" (defScope st__law_fraction) f cdv A outer s H E).xe := passes_of (X := cxOf (L2.CX P w) P w K mg base N__law_fraction "_law_fraction" (defScope st__law_fraction) f cdv A outer s H E) rfl
  have z : PSs (cxOf (L2.CX P w) P w K mg base N__law_fraction "_law_fraction" (defScope st__law_fraction) f cdv A outer s H E) (defBody st__law_fraction) (tS ⟨K, mg⟩ (fun cls d _ H => E cls d H) (seqS (asgS (.one 1) (callD d__law_draw (consD (varD 0) (consD (conD (.int 4)) nilD))))
  (seqS (ifS (trD (bin2 eqG (varD 1) (conD (.int 0)))) (seqS (retS false (tupD (consD (conD (.int 0)) (consD (conD (.int 1)) nilD))))
  nxS) nxS)
  (seqS (asgS (.one 2) (bin2 ixG (lstD (consD (conD (.int 9)) (consD (conD (.int 30)) (consD (bin2 powG (conD (.int 10)) (conD (.int 12))) nilD)))) (callD d__law_draw (consD (varD 0) (consD (conD (.int 3)) nilD)))))
  (seqS (retS false (callD d__law_frac (consD (bin2 addAll (bin2 subG (callD d__law_draw (consD (varD 0) (consD (bin2 subG (bin2 mulG (conD (.int 2)) (varD 2)) (conD (.int 1))) nilD))) (varD 2)) (conD (.int 1))) (consD (bin2 addAll (conD (.int 1)) (callD d__law_draw (consD (varD 0) (consD (bin2 subG (varD 2) (conD (.int 1))) nilD)))) nilD))))
  nxS))))) := (s_seq (s_set (i := 1) sc__law_fraction.nd rfl (by first | exact .inl rfl | exact .inr rfl | exact .inr (.inl rfl) | exact .inr (.inr rfl)) (e_call (call__law_draw M) hr (by decide) tk (s_cons (s_var (i := 0) rfl (by first | exact .inl rfl | exact .inr rfl | exact .inr (.inl rfl) | exact .inr (.inr rfl)) rfl rfl) (s_cons k_int s_nil rfl) rfl) (len_cons (len_cons len_nil)) rfl rfl rfl rfl rfl) rfl (.inl rfl))
  (s_seq (s_if (c_eq hr (s_var (i := 1) rfl (by first | exact .inl rfl | exact .inr rfl | exact .inr (.inl rfl) | exact .inr (.inr rfl)) rfl rfl) k_int) (s_seq (s_ret (s_tup (s_cons k_int (s_cons k_int s_nil rfl) rfl)))
  s_done) s_done)
  (s_seq (s_set (i := 2) sc__law_fraction.nd rfl (by first | exact .inl rfl | exact .inr rfl | exact .inr (.inl rfl) | exact .inr (.inr rfl)) (e_ix (fun _ _ => rfl) (s_lst (s_cons k_int (s_cons k_int (s_cons (e_pow k_int k_int) s_nil rfl) rfl) rfl)) (e_call (call__law_draw M) hr (by decide) tk (s_cons (s_var (i := 0) rfl (by first | exact .inl rfl | exact .inr rfl | exact .inr (.inl rfl) | exact .inr (.inr rfl)) rfl rfl) (s_cons k_int s_nil rfl) rfl) (len_cons (len_cons len_nil)) rfl rfl rfl rfl rfl)) rfl (.inl rfl))
  (s_seq (s_ret (e_call (call__law_frac M) hr (by decide) tk (s_cons (e_add (e_sub (e_call (call__law_draw M) hr (by decide) tk (s_cons (s_var (i := 0) rfl (by first | exact .inl rfl | exact .inr rfl | exact .inr (.inl rfl) | exact .inr (.inr rfl)) rfl rfl) (s_cons (e_sub (e_mul k_int (s_var (i := 2) rfl (by first | exact .inl rfl | exact .inr rfl | exact .inr (.inl rfl) | exact .inr (.inr rfl)) rfl rfl)) k_int) s_nil rfl) rfl) (len_cons (len_cons len_nil)) rfl rfl rfl rfl rfl) (s_var (i := 2) rfl (by first | exact .inl rfl | exact .inr rfl | exact .inr (.inl rfl) | exact .inr (.inr rfl)) rfl rfl)) k_int) (s_cons (e_add k_int (e_call (call__law_draw M) hr (by decide) tk (s_cons (s_var (i := 0) rfl (by first | exact .inl rfl | exact .inr rfl | exact .inr (.inl rfl) | exact .inr (.inr rfl)) rfl rfl) (s_cons (e_sub (s_var (i := 2) rfl (by first | exact .inl rfl | exact .inr rfl | exact .inr (.inl rfl) | exact .inr (.inr rfl)) rfl rfl) k_int) s_nil rfl) rfl) (len_cons (len_cons len_nil)) rfl rfl rfl rfl rfl)) s_nil rfl) rfl) (len_cons (len_cons len_nil)) rfl rfl rfl rfl rfl))
  s_done))))
  exact z
theorem call__law_fraction : CallF P w K mg base 2 "_law_fraction" 1 false d__law_fraction := callF (d := dd__law_fraction) (N := N__law_fraction) (ps := ["_law_purse_here"]) (M.d 13 dd__law_fraction rfl) rfl rfl sc__law_fraction (fun _ _ _ _ _ _ us hl => match us, hl with | [_], _ => rfl) (pb__law_fraction M)
theorem pb__law_spoilt (f : Addr) (cdv : Value) (A : Around) (outer : List Env) (s : Shared) (H : Hp) (E : XK) (hr : Room 1 (A.deeper (envOfC "_law_spoilt" (defScope st__law_spoilt) s.heap.objs.size f cdv))) :
    PSs (cxOf (L2.CX P w) P w K mg base N__law_spoilt "_law_spoilt" (defScope st__law_spoilt) f cdv A outer s H E) (defBody st__law_spoilt) (tS ⟨K, mg⟩ (fun cls d _ H => E cls d H) db__law_spoilt) := by
  have tk : Takes (cxOf (L2.CX P w) P w K mg base N__law_spoilt "_law_spoilt" (defScope st__law_spoilt) f cdv A outer s H E) (fun cls d _ H => E cls d H) := takes_of rfl rfl rfl rfl
  have hp : PassesOwn (model P w) (cxOf (L2.CX P w) P w K mg base N__law_spoilt "_law_spoilt" (defScope st__law_spoilt) f cdv A outer s H E).A (cxOf (L2.CX P w) P w K mg base N__law_spoilt "_law_spoilt" (defScope st__law_spoilt) f cdv A outer s H E).env (cxOf (L2.CX P w) P w K mg base N__law_spoilt "_law_spoilt" (defScope st__law_spoilt) f cdv A outer s H E).xe := passes_of (X := cxOf (L2.CX P w) P w K mg base N__law_spoilt "_law_spoilt" (defScope st__law_spoilt) f cdv A outer s H E) rfl
  have z : PSs (cxOf (L2.CX P w) P w K mg base N__law_spoilt "_law_spoilt" (defScope st__law_spoilt) f cdv A outer s H E) (defBody st__law_spoilt) (tS ⟨K, mg⟩ (fun cls d _ H => E cls d H) (seqS (asgS (.many [2, 3]) (varD 1))
  (seqS (asgS (.one 4) (lstD (consD (conD .non) (consD (conD (.int 0)) (consD (conD (.bl true)) (consD (conD (.str "1/2")) (consD (lstD (consD (varD 2) (consD (varD 3) nilD))) (consD (tupD (consD (varD 2) nilD)) (consD (tupD (consD (varD 2) (consD (varD 3) (consD (conD (.int 1)) nilD)))) (consD (tupD (consD (bin2 addAll (bin2 mulG (conD (.int 2)) (varD 2)) (conD (.int 2))) (consD (conD (.int 2)) nilD))) (consD (tupD (consD (varD 2) (consD (conD (.int 0)) nilD))) (consD (tupD (consD (conD (.int 3)) (consD (negD (conD (.int 1))) nilD))) (consD (tupD nilD) nilD)))))))))))))
  (seqS (asgS (.one 4) (bin2 addAll (varD 4) (lstD (consD (tupD (consD (conD (.bl true)) (consD (conD (.int 1)) nilD))) (consD (tupD (consD (conD (.int 1)) (consD (conD (.bl true)) nilD))) (consD (tupD (consD (conD (.str "1")) (consD (conD (.int 1)) nilD))) (consD (tupD (consD (conD (.int 1)) (consD (conD .non) nilD))) (consD (tupD (consD (tupD (consD (conD (.int 1)) (consD (conD (.int 1)) nilD))) (consD (conD (.int 1)) nilD))) (consD (conD (.int 1)) nilD)))))))))
  (seqS (retS false (bin2 ixG (varD 4) (callD d__law_draw (consD (varD 0) (consD (calD lenG (consD (varD 4) nilD)) nilD)))))
  nxS))))) := (s_seq (s_asg (s_var (i := 1) rfl (by first | exact .inl rfl | exact .inr rfl | exact .inr (.inl rfl) | exact .inr (.inr rfl)) rfl rfl) (g_many rfl sc__law_spoilt.nd (.cons rfl (by first | exact .inl rfl | exact .inr rfl | exact .inr (.inl rfl) | exact .inr (.inr rfl)) (.inl rfl) (.cons rfl (by first | exact .inl rfl | exact .inr rfl | exact .inr (.inl rfl) | exact .inr (.inr rfl)) (.inl rfl) .nil))) rfl rfl rfl)
  (s_seq (s_set (i := 4) sc__law_spoilt.nd rfl (by first | exact .inl rfl | exact .inr rfl | exact .inr (.inl rfl) | exact .inr (.inr rfl)) (s_lst (s_cons k_non (s_cons k_int (s_cons k_bl (s_cons k_str (s_cons (s_lst (s_cons (s_var (i := 2) rfl (by first | exact .inl rfl | exact .inr rfl | exact .inr (.inl rfl) | exact .inr (.inr rfl)) rfl rfl) (s_cons (s_var (i := 3) rfl (by first | exact .inl rfl | exact .inr rfl | exact .inr (.inl rfl) | exact .inr (.inr rfl)) rfl rfl) s_nil rfl) rfl)) (s_cons (s_tup (s_cons (s_var (i := 2) rfl (by first | exact .inl rfl | exact .inr rfl | exact .inr (.inl rfl) | exact .inr (.inr rfl)) rfl rfl) s_nil rfl)) (s_cons (s_tup (s_cons (s_var (i := 2) rfl (by first | exact .inl rfl | exact .inr rfl | exact .inr (.inl rfl) | exact .inr (.inr rfl)) rfl rfl) (s_cons (s_var (i := 3) rfl (by first | exact .inl rfl | exact .inr rfl | exact .inr (.inl rfl) | exact .inr (.inr rfl)) rfl rfl) (s_cons k_int s_nil rfl) rfl) rfl)) (s_cons (s_tup (s_cons (e_add (e_mul k_int (s_var (i := 2) rfl (by first | exact .inl rfl | exact .inr rfl | exact .inr (.inl rfl) | exact .inr (.inr rfl)) rfl rfl)) k_int) (s_cons k_int s_nil rfl) rfl)) (s_cons (s_tup (s_cons (s_var (i := 2) rfl (by first | exact .inl rfl | exact .inr rfl | exact .inr (.inl rfl) | exact .inr (.inr rfl)) rfl rfl) (s_cons k_int s_nil rfl) rfl)) (s_cons (s_tup (s_cons k_int (s_cons (e_neg k_int) s_nil rfl) rfl)) (s_cons (s_tup s_nil) s_nil rfl) rfl) rfl) rfl) rfl) rfl) rfl) rfl) rfl) rfl) rfl)) rfl (.inl rfl))
  (s_seq (s_set (i := 4) sc__law_spoilt.nd rfl (by first | exact .inl rfl | exact .inr rfl | exact .inr (.inl rfl) | exact .inr (.inr rfl)) (e_add (s_var (i := 4) rfl (by first | exact .inl rfl | exact .inr rfl | exact .inr (.inl rfl) | exact .inr (.inr rfl)) rfl rfl) (s_lst (s_cons (s_tup (s_cons k_bl (s_cons k_int s_nil rfl) rfl)) (s_cons (s_tup (s_cons k_int (s_cons k_bl s_nil rfl) rfl)) (s_cons (s_tup (s_cons k_str (s_cons k_int s_nil rfl) rfl)) (s_cons (s_tup (s_cons k_int (s_cons k_non s_nil rfl) rfl)) (s_cons (s_tup (s_cons (s_tup (s_cons k_int (s_cons k_int s_nil rfl) rfl)) (s_cons k_int s_nil rfl) rfl)) (s_cons k_int s_nil rfl) rfl) rfl) rfl) rfl) rfl))) rfl (.inl rfl))
  (s_seq (s_ret (e_ix (fun _ _ => rfl) (s_var (i := 4) rfl (by first | exact .inl rfl | exact .inr rfl | exact .inr (.inl rfl) | exact .inr (.inr rfl)) rfl rfl) (e_call (call__law_draw M) hr (by decide) tk (s_cons (s_var (i := 0) rfl (by first | exact .inl rfl | exact .inr rfl | exact .inr (.inl rfl) | exact .inr (.inr rfl)) rfl rfl) (s_cons (e_len (m_free_len M) (s_cons (s_var (i := 4) rfl (by first | exact .inl rfl | exact .inr rfl | exact .inr (.inl rfl) | exact .inr (.inr rfl)) rfl rfl) s_nil rfl) rfl rfl rfl) s_nil rfl) rfl) (len_cons (len_cons len_nil)) rfl rfl rfl rfl rfl)))
  s_done))))
  exact z
theorem call__law_spoilt : CallF P w K mg base 2 "_law_spoilt" 2 false d__law_spoilt := callF (d := dd__law_spoilt) (N := N__law_spoilt) (ps := ["_law_purse_here", "_law_number"]) (M.d 14 dd__law_spoilt rfl) rfl rfl sc__law_spoilt (fun _ _ _ _ _ _ us hl => match us, hl with | [_, _], _ => rfl) (pb__law_spoilt M)
theorem pb_frac_sum (f : Addr) (cdv : Value) (A : Around) (outer : List Env) (s : Shared) (H : Hp) (E : XK) (hr : Room 2 (A.deeper (envOfC "frac_sum" (defScope st_frac_sum) s.heap.objs.size f cdv))) :
    PSs (cxOf (L2.CX P w) P w K mg base N_frac_sum "frac_sum" (defScope st_frac_sum) f cdv A outer s H E) (defBody st_frac_sum) (tS ⟨K, mg⟩ (fun cls d _ H => E cls d H) db_frac_sum) := by
  have tk : Takes (cxOf (L2.CX P w) P w K mg base N_frac_sum "frac_sum" (defScope st_frac_sum) f cdv A outer s H E) (fun cls d _ H => E cls d H) := takes_of rfl rfl rfl rfl
  have hp : PassesOwn (model P w) (cxOf (L2.CX P w) P w K mg base N_frac_sum "frac_sum" (defScope st_frac_sum) f cdv A outer s H E).A (cxOf (L2.CX P w) P w K mg base N_frac_sum "frac_sum" (defScope st_frac_sum) f cdv A outer s H E).env (cxOf (L2.CX P w) P w K mg base N_frac_sum "frac_sum" (defScope st_frac_sum) f cdv A outer s H E).xe := passes_of (X := cxOf (L2.CX P w) P w K mg base N_frac_sum "frac_sum" (defScope st_frac_sum) f cdv A outer s H E) rfl
  have z : PSs (cxOf (L2.CX P w) P w K mg base N_frac_sum "frac_sum" (defScope st_frac_sum) f cdv A outer s H E) (defBody st_frac_sum) (tS ⟨K, mg⟩ (fun cls d _ H => E cls d H) (seqS (retS false (callD d_fraction_of (consD (bin2 addAll (bin2 mulG (bin2 ixG (varD 0) (conD (.int 0))) (bin2 ixG (varD 1) (conD (.int 1)))) (bin2 mulG (bin2 ixG (varD 1) (conD (.int 0))) (bin2 ixG (varD 0) (conD (.int 1))))) (consD (bin2 mulG (bin2 ixG (varD 0) (conD (.int 1))) (bin2 ixG (varD 1) (conD (.int 1)))) nilD))))
  nxS)) := (s_seq (s_ret (e_call (call_fraction_of M) hr (by decide) tk (s_cons (e_add (e_mul (e_ix (fun _ _ => rfl) (s_var (i := 0) rfl (by first | exact .inl rfl | exact .inr rfl | exact .inr (.inl rfl) | exact .inr (.inr rfl)) rfl rfl) k_int) (e_ix (fun _ _ => rfl) (s_var (i := 1) rfl (by first | exact .inl rfl | exact .inr rfl | exact .inr (.inl rfl) | exact .inr (.inr rfl)) rfl rfl) k_int)) (e_mul (e_ix (fun _ _ => rfl) (s_var (i := 1) rfl (by first | exact .inl rfl | exact .inr rfl | exact .inr (.inl rfl) | exact .inr (.inr rfl)) rfl rfl) k_int) (e_ix (fun _ _ => rfl) (s_var (i := 0) rfl (by first | exact .inl rfl | exact .inr rfl | exact .inr (.inl rfl) | exact .inr (.inr rfl)) rfl rfl) k_int))) (s_cons (e_mul (e_ix (fun _ _ => rfl) (s_var (i := 0) rfl (by first | exact .inl rfl | exact .inr rfl | exact .inr (.inl rfl) | exact .inr (.inr rfl)) rfl rfl) k_int) (e_ix (fun _ _ => rfl) (s_var (i := 1) rfl (by first | exact .inl rfl | exact .inr rfl | exact .inr (.inl rfl) | exact .inr (.inr rfl)) rfl rfl) k_int)) s_nil rfl) rfl) (len_cons (len_cons len_nil)) rfl rfl rfl rfl rfl))
  s_done)
  exact z
theorem call_frac_sum : CallF P w K mg base 3 "frac_sum" 2 false d_frac_sum := callF (d := dd_frac_sum) (N := N_frac_sum) (ps := ["one", "other"]) (M.d 15 dd_frac_sum rfl) rfl rfl sc_frac_sum (fun _ _ _ _ _ _ us hl => match us, hl with | [_, _], _ => rfl) (pb_frac_sum M)
theorem pb_frac_less (f : Addr) (cdv : Value) (A : Around) (outer : List Env) (s : Shared) (H : Hp) (E : XK) (hr : Room 2 (A.deeper (envOfC "frac_less" (defScope st_frac_less) s.heap.objs.size f cdv))) :
    PSs (cxOf (L2.CX P w) P w K mg base N_frac_less "frac_less" (defScope st_frac_less) f cdv A outer s H E) (defBody st_frac_less) (tS ⟨K, mg⟩ (fun cls d _ H => E cls d H) db_frac_less) := by
  have tk : Takes (cxOf (L2.CX P w) P w K mg base N_frac_less "frac_less" (defScope st_frac_less) f cdv A outer s H E) (fun cls d _ H => E cls d H) := takes_of rfl rfl rfl rfl
  have hp : PassesOwn (model P w) (cxOf (L2.CX P w) P w K mg base N_frac_less "frac_less" (defScope st_frac_less) f cdv A outer s H E).A (cxOf (L2.CX P w) P w K mg base N_frac_less "frac_less" (defScope st_frac_less) f cdv A outer s H E).env (cxOf (L2.CX P w) P w K mg base N_frac_less "frac_less" (defScope st_frac_less) f cdv A outer s H E).xe := passes_of (X := cxOf (L2.CX P w) P w K mg base N_frac_less "frac_less" (defScope st_frac_less) f cdv A outer s H E) rfl
  have z : PSs (cxOf (L2.CX P w) P w K mg base N_frac_less "frac_less" (defScope st_frac_less) f cdv A outer s H E) (defBody st_frac_less) (tS ⟨K, mg⟩ (fun cls d _ H => E cls d H) (seqS (retS false (callD d_fraction_of (consD (bin2 subG (bin2 mulG (bin2 ixG (varD 0) (conD (.int 0))) (bin2 ixG (varD 1) (conD (.int 1)))) (bin2 mulG (bin2 ixG (varD 1) (conD (.int 0))) (bin2 ixG (varD 0) (conD (.int 1))))) (consD (bin2 mulG (bin2 ixG (varD 0) (conD (.int 1))) (bin2 ixG (varD 1) (conD (.int 1)))) nilD))))
  nxS)) := (s_seq (s_ret (e_call (call_fraction_of M) hr (by decide) tk (s_cons (e_sub (e_mul (e_ix (fun _ _ => rfl) (s_var (i := 0) rfl (by first | exact .inl rfl | exact .inr rfl | exact .inr (.inl rfl) | exact .inr (.inr rfl)) rfl rfl) k_int) (e_ix (fun _ _ => rfl) (s_var (i := 1) rfl (by first | exact .inl rfl | exact .inr rfl | exact .inr (.inl rfl) | exact .inr (.inr rfl)) rfl rfl) k_int)) (e_mul (e_ix (fun _ _ => rfl) (s_var (i := 1) rfl (by first | exact .inl rfl | exact .inr rfl | exact .inr (.inl rfl) | exact .inr (.inr rfl)) rfl rfl) k_int) (e_ix (fun _ _ => rfl) (s_var (i := 0) rfl (by first | exact .inl rfl | exact .inr rfl | exact .inr (.inl rfl) | exact .inr (.inr rfl)) rfl rfl) k_int))) (s_cons (e_mul (e_ix (fun _ _ => rfl) (s_var (i := 0) rfl (by first | exact .inl rfl | exact .inr rfl | exact .inr (.inl rfl) | exact .inr (.inr rfl)) rfl rfl) k_int) (e_ix (fun _ _ => rfl) (s_var (i := 1) rfl (by first | exact .inl rfl | exact .inr rfl | exact .inr (.inl rfl) | exact .inr (.inr rfl)) rfl rfl) k_int)) s_nil rfl) rfl) (len_cons (len_cons len_nil)) rfl rfl rfl rfl rfl))
  s_done)
  exact z
theorem call_frac_less : CallF P w K mg base 3 "frac_less" 2 false d_frac_less := callF (d := dd_frac_less) (N := N_frac_less) (ps := ["one", "other"]) (M.d 16 dd_frac_less rfl) rfl rfl sc_frac_less (fun _ _ _ _ _ _ us hl => match us, hl with | [_, _], _ => rfl) (pb_frac_less M)
theorem pb_frac_times (f : Addr) (cdv : Value) (A : Around) (outer : List Env) (s : Shared) (H : Hp) (E : XK) (hr : Room 2 (A.deeper (envOfC "frac_times" (defScope st_frac_times) s.heap.objs.size f cdv))) :
    PSs (cxOf (L2.CX P w) P w K mg base N_frac_times "frac_times" (defScope st_frac_times) f cdv A outer s H E) (defBody st_frac_times) (tS ⟨K, mg⟩ (fun cls d _ H => E cls d H) db_frac_times) := by
  have tk : Takes (cxOf (L2.CX P w) P w K mg base N_frac_times "frac_times" (defScope st_frac_times) f cdv A outer s H E) (fun cls d _ H => E cls d H) := takes_of rfl rfl rfl rfl
  have hp : PassesOwn (model P w) (cxOf (L2.CX P w) P w K mg base N_frac_times "frac_times" (defScope st_frac_times) f cdv A outer s H E).A (cxOf (L2.CX P w) P w K mg base N_frac_times "frac_times" (defScope st_frac_times) f cdv A outer s H E).env (cxOf (L2.CX P w) P w K mg base N_frac_times "frac_times" (defScope st_frac_times) f cdv A outer s H E).xe := passes_of (X := cxOf (L2.CX P w) P w K mg base N_frac_times "frac_times" (defScope st_frac_times) f cdv A outer s H E) rfl
  have z : PSs (cxOf (L2.CX P w) P w K mg base N_frac_times "frac_times" (defScope st_frac_times) f cdv A outer s H E) (defBody st_frac_times) (tS ⟨K, mg⟩ (fun cls d _ H => E cls d H) (seqS (retS false (callD d_fraction_of (consD (bin2 mulG (bin2 ixG (varD 0) (conD (.int 0))) (bin2 ixG (varD 1) (conD (.int 0)))) (consD (bin2 mulG (bin2 ixG (varD 0) (conD (.int 1))) (bin2 ixG (varD 1) (conD (.int 1)))) nilD))))
  nxS)) := (s_seq (s_ret (e_call (call_fraction_of M) hr (by decide) tk (s_cons (e_mul (e_ix (fun _ _ => rfl) (s_var (i := 0) rfl (by first | exact .inl rfl | exact .inr rfl | exact .inr (.inl rfl) | exact .inr (.inr rfl)) rfl rfl) k_int) (e_ix (fun _ _ => rfl) (s_var (i := 1) rfl (by first | exact .inl rfl | exact .inr rfl | exact .inr (.inl rfl) | exact .inr (.inr rfl)) rfl rfl) k_int)) (s_cons (e_mul (e_ix (fun _ _ => rfl) (s_var (i := 0) rfl (by first | exact .inl rfl | exact .inr rfl | exact .inr (.inl rfl) | exact .inr (.inr rfl)) rfl rfl) k_int) (e_ix (fun _ _ => rfl) (s_var (i := 1) rfl (by first | exact .inl rfl | exact .inr rfl | exact .inr (.inl rfl) | exact .inr (.inr rfl)) rfl rfl) k_int)) s_nil rfl) rfl) (len_cons (len_cons len_nil)) rfl rfl rfl rfl rfl))
  s_done)
  exact z
theorem call_frac_times : CallF P w K mg base 3 "frac_times" 2 false d_frac_times := callF (d := dd_frac_times) (N := N_frac_times) (ps := ["one", "other"]) (M.d 17 dd_frac_times rfl) rfl rfl sc_frac_times (fun _ _ _ _ _ _ us hl => match us, hl with | [_, _], _ => rfl) (pb_frac_times M)
theorem pb_whole_six (f : Addr) (cdv : Value) (A : Around) (outer : List Env) (s : Shared) (H : Hp) (E : XK) (hr : Room 2 (A.deeper (envOfC "whole_six" (defScope st_whole_six) s.heap.objs.size f cdv))) :
    PSs (cxOf (L2.CX P w) P w K mg base N_whole_six "whole_six" (defScope st_whole_six) f cdv A outer s H E) (defBody st_whole_six) (tS ⟨K, mg⟩ (fun cls d _ H => E cls d H) db_whole_six) := by
  have tk : Takes (cxOf (L2.CX P w) P w K mg base N_whole_six "whole_six" (defScope st_whole_six) f cdv A outer s H E) (fun cls d _ H => E cls d H) := takes_of rfl rfl rfl rfl
  have hp : PassesOwn (model P w) (cxOf (L2.CX P w) P w K mg base N_whole_six "whole_six" (defScope st_whole_six) f cdv A outer s H E).A (cxOf (L2.CX P w) P w K mg base N_whole_six "whole_six" (defScope st_whole_six) f cdv A outer s H E).env (cxOf (L2.CX P w) P w K mg base N_whole_six "whole_six" (defScope st_whole_six) f cdv A outer s H E).xe := passes_of (X := cxOf (L2.CX P w) P w K mg base N_whole_six "whole_six" (defScope st_whole_six) f cdv A outer s H E) rfl
  have z : PSs (cxOf (L2.CX P w) P w K mg base N_whole_six "whole_six" (defScope st_whole_six) f cdv A outer s H E) (defBody st_whole_six) (tS ⟨K, mg⟩ (fun cls d _ H => E cls d H) (seqS (asgS (.one 1) (conD (.int 1)))
  (seqS (forS (seqI (varD 0)) (.many [2, 3]) lb0_whole_six)
  (seqS (retS false (callD d_kept_six (consD (calD tupG (consD (compD (seqI (varD 0)) (.many [2, 3]) yesD ce1_whole_six [2, 3]) nilD)) nilD)))
  nxS)))) := (s_seq (s_set (i := 1) sc_whole_six.nd rfl (by first | exact .inl rfl | exact .inr rfl | exact .inr (.inl rfl) | exact .inr (.inr rfl)) k_int rfl (.inl rfl))
  (s_seq (s_for hp rfl (i_seq (s_var (i := 0) rfl (by first | exact .inl rfl | exact .inr rfl | exact .inr (.inl rfl) | exact .inr (.inr rfl)) rfl rfl)) (g_many rfl sc_whole_six.nd (.cons rfl (by first | exact .inl rfl | exact .inr rfl | exact .inr (.inl rfl) | exact .inr (.inr rfl)) (.inl rfl) (.cons rfl (by first | exact .inl rfl | exact .inr rfl | exact .inr (.inl rfl) | exact .inr (.inr rfl)) (.inl rfl) .nil))) (s_seq (s_set (i := 1) sc_whole_six.nd rfl (by first | exact .inl rfl | exact .inr rfl | exact .inr (.inl rfl) | exact .inr (.inr rfl)) (e_mul (s_var (i := 1) rfl (by first | exact .inl rfl | exact .inr rfl | exact .inr (.inl rfl) | exact .inr (.inr rfl)) rfl rfl) (s_var (i := 3) rfl (by first | exact .inl rfl | exact .inr rfl | exact .inr (.inl rfl) | exact .inr (.inr rfl)) rfl rfl)) rfl (.inl rfl))
  s_done) (fun _ => rfl))
  (s_seq (s_ret (e_call (call_kept_six M) hr (by decide) tk (s_cons (e_tuple (m_free_tuple M) (s_cons (s_comp (own := [("top", 2), ("bottom", 3)]) rfl sc_whole_six.nd (i_seq (s_var (i := 0) rfl (by first | exact .inl rfl | exact .inr rfl | exact .inr (.inl rfl) | exact .inr (.inr rfl)) rfl rfl)) (show BlkOk N_whole_six (defScope st_whole_six) _ _ from ⟨rfl, by decide +kernel, by decide +kernel, by decide +kernel, by decide +kernel⟩) (by decide) (fun _ _ _ _ _ => (g_many rfl sc_whole_six.nd (.cons rfl (by first | exact .inl rfl | exact .inr rfl | exact .inr (.inl rfl) | exact .inr (.inr rfl)) (.inr rfl) (.cons rfl (by first | exact .inl rfl | exact .inr rfl | exact .inr (.inl rfl) | exact .inr (.inr rfl)) (.inr rfl) .nil)))) (fun _ _ _ _ _ => ts_nil) (fun _ _ _ _ _ => (e_mul (s_var (i := 2) rfl (by first | exact .inl rfl | exact .inr rfl | exact .inr (.inl rfl) | exact .inr (.inr rfl)) rfl rfl) (e_fdiv (s_var (i := 1) rfl (by first | exact .inl rfl | exact .inr rfl | exact .inr (.inl rfl) | exact .inr (.inr rfl)) rfl rfl) (s_var (i := 3) rfl (by first | exact .inl rfl | exact .inr rfl | exact .inr (.inl rfl) | exact .inr (.inr rfl)) rfl rfl)))) (fun _ => rfl)) s_nil rfl) rfl rfl rfl) s_nil rfl) (len_cons len_nil) rfl rfl rfl rfl rfl))
  s_done)))
  exact z
theorem call_whole_six : CallF P w K mg base 3 "whole_six" 1 false d_whole_six := callF (d := dd_whole_six) (N := N_whole_six) (ps := ["fractions"]) (M.d 18 dd_whole_six rfl) rfl rfl sc_whole_six (fun _ _ _ _ _ _ us hl => match us, hl with | [_], _ => rfl) (pb_whole_six M)
theorem pb_look_at_numbers (f : Addr) (cdv : Value) (A : Around) (outer : List Env) (s : Shared) (H : Hp) (E : XK) (hr : Room 2 (A.deeper (envOfC "look_at_numbers" (defScope st_look_at_numbers) s.heap.objs.size f cdv))) :
    PSs (cxOf (L2.CX P w) P w K mg base N_look_at_numbers "look_at_numbers" (defScope st_look_at_numbers) f cdv A outer s H E) (defBody st_look_at_numbers) (tS ⟨K, mg⟩ (fun cls d _ H => E cls d H) db_look_at_numbers) := by
  have tk : Takes (cxOf (L2.CX P w) P w K mg base N_look_at_numbers "look_at_numbers" (defScope st_look_at_numbers) f cdv A outer s H E) (fun cls d _ H => E cls d H) := takes_of rfl rfl rfl rfl
  have hp : PassesOwn (model P w) (cxOf (L2.CX P w) P w K mg base N_look_at_numbers "look_at_numbers" (defScope st_look_at_numbers) f cdv A outer s H E).A (cxOf (L2.CX P w) P w K mg base N_look_at_numbers "look_at_numbers" (defScope st_look_at_numbers) f cdv A outer s H E).env (cxOf (L2.CX P w) P w K mg base N_look_at_numbers "look_at_numbers" (defScope st_look_at_numbers) f cdv A outer s H E).xe := passes_of (X := cxOf (L2.CX P w) P w K mg base N_look_at_numbers "look_at_numbers" (defScope st_look_at_numbers) f cdv A outer s H E) rfl
  have z : PSs (cxOf (L2.CX P w) P w K mg base N_look_at_numbers "look_at_numbers" (defScope st_look_at_numbers) f cdv A outer s H E) (defBody st_look_at_numbers) (tS ⟨K, mg⟩ (fun cls d _ H => E cls d H) (seqS (forS (seqI (varD 0)) (.one 1) lb0_look_at_numbers)
  nxS)) := (s_seq (s_for hp rfl (i_seq (s_var (i := 0) rfl (by first | exact .inl rfl | exact .inr rfl | exact .inr (.inl rfl) | exact .inr (.inr rfl)) rfl rfl)) (g_one sc_look_at_numbers.nd rfl (by first | exact .inl rfl | exact .inr rfl | exact .inr (.inl rfl) | exact .inr (.inr rfl)) (.inl rfl)) (s_seq (s_if (t_not (t_val (e_call (call_is_fraction M) hr (by decide) tk (s_cons (s_var (i := 1) rfl (by first | exact .inl rfl | exact .inr rfl | exact .inr (.inl rfl) | exact .inr (.inr rfl)) rfl rfl) s_nil rfl) (len_cons len_nil) rfl rfl rfl rfl rfl) (fun _ => rfl))) (s_seq (e_raise (m_exc_NoCircle M) rfl tk rfl rfl)
  s_done) s_done)
  s_done) (fun _ => rfl))
  s_done)
  exact z
theorem call_look_at_numbers : CallF P w K mg base 3 "look_at_numbers" 1 false d_look_at_numbers := callF (d := dd_look_at_numbers) (N := N_look_at_numbers) (ps := ["numbers"]) (M.d 19 dd_look_at_numbers rfl) rfl rfl sc_look_at_numbers (fun _ _ _ _ _ _ us hl => match us, hl with | [_], _ => rfl) (pb_look_at_numbers M)
theorem pb__law_square (f : Addr) (cdv : Value) (A : Around) (outer : List Env) (s : Shared) (H : Hp) (E : XK) (hr : Room 2 (A.deeper (envOfC "_law_square" (defScope st__law_square) s.heap.objs.size f cdv))) :
    PSs (cxOf (L2.CX P w) P w K mg base N__law_square "_law_square" (defScope st__law_square) f cdv A outer s H E) (defBody st__law_square) (tS ⟨K, mg⟩ (fun cls d _ H => E cls d H) db__law_square) := by
  have tk : Takes (cxOf (L2.CX P w) P w K mg base N__law_square "_law_square" (defScope st__law_square) f cdv A outer s H E) (fun cls d _ H => E cls d H) := takes_of rfl rfl rfl rfl
  have hp : PassesOwn (model P w) (cxOf (L2.CX P w) P w K mg base N__law_square "_law_square" (defScope st__law_square) f cdv A outer s H E).A (cxOf (L2.CX P w) P w K mg base N__law_square "_law_square" (defScope st__law_square) f cdv A outer s H E).env (cxOf (L2.CX P w) P w K mg base N__law_square "_law_square" (defScope st__law_square) f cdv A outer s H E).xe := passes_of (X := cxOf (L2.CX P w) P w K mg base N__law_square "_law_square" (defScope st__law_square) f cdv A outer s H E) rfl
  have z : PSs (cxOf (L2.CX P w) P w K mg base N__law_square "_law_square" (defScope st__law_square) f cdv A outer s H E) (defBody st__law_square) (tS ⟨K, mg⟩ (fun cls d _ H => E cls d H) (seqS (asgS (.one 1) (callD d__law_fraction (consD (varD 0) nilD)))
  (seqS (ifS (trD (andD (bin2 eqG (callD d__law_draw (consD (varD 0) (consD (conD (.int 2)) nilD))) (conD (.int 1))) (bin2 ltG (calD maxG (consD (calD absG (consD (bin2 ixG (varD 1) (conD (.int 0))) nilD)) (consD (bin2 ixG (varD 1) (conD (.int 1))) nilD))) (bin2 powG (conD (.int 10)) (conD (.int 6)))))) (seqS (asgS (.one 1) (tupD (consD (bin2 mulG (bin2 ixG (varD 1) (conD (.int 0))) (bin2 ixG (varD 1) (conD (.int 0)))) (consD (bin2 mulG (bin2 ixG (varD 1) (conD (.int 1))) (bin2 ixG (varD 1) (conD (.int 1)))) nilD))))
  nxS) nxS)
  (seqS (retS false (bin2 ixG (lstD (consD (tupD (consD (conD (.int 1)) (consD (conD (.int 1)) nilD))) (consD (tupD (consD (calD absG (consD (bin2 ixG (varD 1) (conD (.int 0))) nilD)) (consD (bin2 ixG (varD 1) (conD (.int 1))) nilD))) nilD))) (calD intG (consD (bin2 neG (bin2 ixG (varD 1) (conD (.int 0))) (conD (.int 0))) nilD))))
  nxS)))) := (s_seq (s_set (i := 1) sc__law_square.nd rfl (by first | exact .inl rfl | exact .inr rfl | exact .inr (.inl rfl) | exact .inr (.inr rfl)) (e_call (call__law_fraction M) hr (by decide) tk (s_cons (s_var (i := 0) rfl (by first | exact .inl rfl | exact .inr rfl | exact .inr (.inl rfl) | exact .inr (.inr rfl)) rfl rfl) s_nil rfl) (len_cons len_nil) rfl rfl rfl rfl rfl) rfl (.inl rfl))
  (s_seq (s_if (PW.pt (w_and (c_eq hr (e_call (call__law_draw M) hr (by decide) tk (s_cons (s_var (i := 0) rfl (by first | exact .inl rfl | exact .inr rfl | exact .inr (.inl rfl) | exact .inr (.inr rfl)) rfl rfl) (s_cons k_int s_nil rfl) rfl) (len_cons (len_cons len_nil)) rfl rfl rfl rfl rfl) k_int) (w_and1 (c_lt (e_max2 rfl (m_free_max M) (s_cons (e_abs (m_free_abs M) (s_cons (e_ix (fun _ _ => rfl) (s_var (i := 1) rfl (by first | exact .inl rfl | exact .inr rfl | exact .inr (.inl rfl) | exact .inr (.inr rfl)) rfl rfl) k_int) s_nil rfl) rfl rfl rfl) (s_cons (e_ix (fun _ _ => rfl) (s_var (i := 1) rfl (by first | exact .inl rfl | exact .inr rfl | exact .inr (.inl rfl) | exact .inr (.inr rfl)) rfl rfl) k_int) s_nil rfl) rfl) rfl rfl rfl) (e_pow k_int k_int))))) (s_seq (s_set (i := 1) sc__law_square.nd rfl (by first | exact .inl rfl | exact .inr rfl | exact .inr (.inl rfl) | exact .inr (.inr rfl)) (s_tup (s_cons (e_mul (e_ix (fun _ _ => rfl) (s_var (i := 1) rfl (by first | exact .inl rfl | exact .inr rfl | exact .inr (.inl rfl) | exact .inr (.inr rfl)) rfl rfl) k_int) (e_ix (fun _ _ => rfl) (s_var (i := 1) rfl (by first | exact .inl rfl | exact .inr rfl | exact .inr (.inl rfl) | exact .inr (.inr rfl)) rfl rfl) k_int)) (s_cons (e_mul (e_ix (fun _ _ => rfl) (s_var (i := 1) rfl (by first | exact .inl rfl | exact .inr rfl | exact .inr (.inl rfl) | exact .inr (.inr rfl)) rfl rfl) k_int) (e_ix (fun _ _ => rfl) (s_var (i := 1) rfl (by first | exact .inl rfl | exact .inr rfl | exact .inr (.inl rfl) | exact .inr (.inr rfl)) rfl rfl) k_int)) s_nil rfl) rfl)) rfl (.inl rfl))
  s_done) s_done)
  (s_seq (s_ret (e_ix (fun _ _ => rfl) (s_lst (s_cons (s_tup (s_cons k_int (s_cons k_int s_nil rfl) rfl)) (s_cons (s_tup (s_cons (e_abs (m_free_abs M) (s_cons (e_ix (fun _ _ => rfl) (s_var (i := 1) rfl (by first | exact .inl rfl | exact .inr rfl | exact .inr (.inl rfl) | exact .inr (.inr rfl)) rfl rfl) k_int) s_nil rfl) rfl rfl rfl) (s_cons (e_ix (fun _ _ => rfl) (s_var (i := 1) rfl (by first | exact .inl rfl | exact .inr rfl | exact .inr (.inl rfl) | exact .inr (.inr rfl)) rfl rfl) k_int) s_nil rfl) rfl)) s_nil rfl) rfl)) (e_int (m_free_int M) (s_cons (e_ne hr (e_ix (fun _ _ => rfl) (s_var (i := 1) rfl (by first | exact .inl rfl | exact .inr rfl | exact .inr (.inl rfl) | exact .inr (.inr rfl)) rfl rfl) k_int) k_int) s_nil rfl) rfl rfl rfl)))
  s_done)))
  exact z
theorem call__law_square : CallF P w K mg base 3 "_law_square" 1 false d__law_square := callF (d := dd__law_square) (N := N__law_square) (ps := ["_law_purse_here"]) (M.d 20 dd__law_square rfl) rfl rfl sc__law_square (fun _ _ _ _ _ _ us hl => match us, hl with | [_], _ => rfl) (pb__law_square M)
theorem pb__law_due (f : Addr) (cdv : Value) (A : Around) (outer : List Env) (s : Shared) (H : Hp) (E : XK) (hr : Room 2 (A.deeper (envOfC "_law_due" (defScope st__law_due) s.heap.objs.size f cdv))) :
    PSs (cxOf (L2.CX P w) P w K mg base N__law_due "_law_due" (defScope st__law_due) f cdv A outer s H E) (defBody st__law_due) (tS ⟨K, mg⟩ (fun cls d _ H => E cls d H) db__law_due) := by
  have tk : Takes (cxOf (L2.CX P w) P w K mg base N__law_due "_law_due" (defScope st__law_due) f cdv A outer s H E) (fun cls d _ H => E cls d H) := takes_of rfl rfl rfl rfl
  have hp : PassesOwn (model P w) (cxOf (L2.CX P w) P w K mg base N__law_due "_law_due" (defScope st__law_due) f cdv A outer s H E).A (cxOf (L2.CX P w) P w K mg base N__law_due "_law_due" (defScope st__law_due) f cdv A outer s H E).env (cxOf (L2.CX P w) P w K mg base N__law_due "_law_due" (defScope st__law_due) f cdv A outer s H E).xe := passes_of (X := cxOf (L2.CX P w) P w K mg base N__law_due "_law_due" (defScope st__law_due) f cdv A outer s H E) rfl
  have z : PSs (cxOf (L2.CX P w) P w K mg base N__law_due "_law_due" (defScope st__law_due) f cdv A outer s H E) (defBody st__law_due) (tS ⟨K, mg⟩ (fun cls d _ H => E cls d H) (seqS (asgS (.many [3, 4]) (varD 0))
  (seqS (asgS (.many [5, 6]) (varD 1))
  (seqS (asgS (.many [7, 8]) (varD 2))
  (seqS (asgS (.one 9) (bin2 mulG (bin2 mulG (bin2 mulG (bin2 mulG (varD 4) (varD 4)) (varD 6)) (varD 6)) (varD 8)))
  (seqS (asgS (.one 10) (bin2 addAll (bin2 mulG (bin2 mulG (bin2 mulG (bin2 mulG (varD 3) (varD 3)) (varD 6)) (varD 6)) (varD 8)) (bin2 mulG (bin2 mulG (bin2 mulG (bin2 mulG (varD 5) (varD 5)) (varD 4)) (varD 4)) (varD 8))))
  (seqS (asgS (.one 10) (bin2 subG (varD 10) (bin2 mulG (bin2 mulG (bin2 mulG (bin2 mulG (varD 7) (varD 4)) (varD 4)) (varD 6)) (varD 6))))
  (seqS (retS false (callD d__law_kept (consD (lstD (consD (varD 9) (consD (varD 9) (consD (varD 10) (consD (bin2 mulG (bin2 mulG (bin2 mulG (bin2 mulG (bin2 mulG (negD (conD (.int 2))) (varD 5)) (varD 4)) (varD 4)) (varD 6)) (varD 8)) (consD (bin2 mulG (bin2 mulG (bin2 mulG (bin2 mulG (bin2 mulG (negD (conD (.int 2))) (varD 3)) (varD 4)) (varD 6)) (varD 6)) (varD 8)) (consD (conD (.int 0)) nilD))))))) nilD)))
  nxS)))))))) := (s_seq (s_asg (s_var (i := 0) rfl (by first | exact .inl rfl | exact .inr rfl | exact .inr (.inl rfl) | exact .inr (.inr rfl)) rfl rfl) (g_many rfl sc__law_due.nd (.cons rfl (by first | exact .inl rfl | exact .inr rfl | exact .inr (.inl rfl) | exact .inr (.inr rfl)) (.inl rfl) (.cons rfl (by first | exact .inl rfl | exact .inr rfl | exact .inr (.inl rfl) | exact .inr (.inr rfl)) (.inl rfl) .nil))) rfl rfl rfl)
  (s_seq (s_asg (s_var (i := 1) rfl (by first | exact .inl rfl | exact .inr rfl | exact .inr (.inl rfl) | exact .inr (.inr rfl)) rfl rfl) (g_many rfl sc__law_due.nd (.cons rfl (by first | exact .inl rfl | exact .inr rfl | exact .inr (.inl rfl) | exact .inr (.inr rfl)) (.inl rfl) (.cons rfl (by first | exact .inl rfl | exact .inr rfl | exact .inr (.inl rfl) | exact .inr (.inr rfl)) (.inl rfl) .nil))) rfl rfl rfl)
  (s_seq (s_asg (s_var (i := 2) rfl (by first | exact .inl rfl | exact .inr rfl | exact .inr (.inl rfl) | exact .inr (.inr rfl)) rfl rfl) (g_many rfl sc__law_due.nd (.cons rfl (by first | exact .inl rfl | exact .inr rfl | exact .inr (.inl rfl) | exact .inr (.inr rfl)) (.inl rfl) (.cons rfl (by first | exact .inl rfl | exact .inr rfl | exact .inr (.inl rfl) | exact .inr (.inr rfl)) (.inl rfl) .nil))) rfl rfl rfl)
  (s_seq (s_set (i := 9) sc__law_due.nd rfl (by first | exact .inl rfl | exact .inr rfl | exact .inr (.inl rfl) | exact .inr (.inr rfl)) (e_mul (e_mul (e_mul (e_mul (s_var (i := 4) rfl (by first | exact .inl rfl | exact .inr rfl | exact .inr (.inl rfl) | exact .inr (.inr rfl)) rfl rfl) (s_var (i := 4) rfl (by first | exact .inl rfl | exact .inr rfl | exact .inr (.inl rfl) | exact .inr (.inr rfl)) rfl rfl)) (s_var (i := 6) rfl (by first | exact .inl rfl | exact .inr rfl | exact .inr (.inl rfl) | exact .inr (.inr rfl)) rfl rfl)) (s_var (i := 6) rfl (by first | exact .inl rfl | exact .inr rfl | exact .inr (.inl rfl) | exact .inr (.inr rfl)) rfl rfl)) (s_var (i := 8) rfl (by first | exact .inl rfl | exact .inr rfl | exact .inr (.inl rfl) | exact .inr (.inr rfl)) rfl rfl)) rfl (.inl rfl))
  (s_seq (s_set (i := 10) sc__law_due.nd rfl (by first | exact .inl rfl | exact .inr rfl | exact .inr (.inl rfl) | exact .inr (.inr rfl)) (e_add (e_mul (e_mul (e_mul (e_mul (s_var (i := 3) rfl (by first | exact .inl rfl | exact .inr rfl | exact .inr (.inl rfl) | exact .inr (.inr rfl)) rfl rfl) (s_var (i := 3) rfl (by first | exact .inl rfl | exact .inr rfl | exact .inr (.inl rfl) | exact .inr (.inr rfl)) rfl rfl)) (s_var (i := 6) rfl (by first | exact .inl rfl | exact .inr rfl | exact .inr (.inl rfl) | exact .inr (.inr rfl)) rfl rfl)) (s_var (i := 6) rfl (by first | exact .inl rfl | exact .inr rfl | exact .inr (.inl rfl) | exact .inr (.inr rfl)) rfl rfl)) (s_var (i := 8) rfl (by first | exact .inl rfl | exact .inr rfl | exact .inr (.inl rfl) | exact .inr (.inr rfl)) rfl rfl)) (e_mul (e_mul (e_mul (e_mul (s_var (i := 5) rfl (by first | exact .inl rfl | exact .inr rfl | exact .inr (.inl rfl) | exact .inr (.inr rfl)) rfl rfl) (s_var (i := 5) rfl (by first | exact .inl rfl | exact .inr rfl | exact .inr (.inl rfl) | exact .inr (.inr rfl)) rfl rfl)) (s_var (i := 4) rfl (by first | exact .inl rfl | exact .inr rfl | exact .inr (.inl rfl) | exact .inr (.inr rfl)) rfl rfl)) (s_var (i := 4) rfl (by first | exact .inl rfl | exact .inr rfl | exact .inr (.inl rfl) | exact .inr (.inr rfl)) rfl rfl)) (s_var (i := 8) rfl (by first | exact .inl rfl | exact .inr rfl | exact .inr (.inl rfl) | exact .inr (.inr rfl)) rfl rfl))) rfl (.inl rfl))
  (s_seq (s_set (i := 10) sc__law_due.nd rfl (by first | exact .inl rfl | exact .inr rfl | exact .inr (.inl rfl) | exact .inr (.inr rfl)) (e_sub (s_var (i := 10) rfl (by first | exact .inl rfl | exact .inr rfl | exact .inr (.inl rfl) | exact .inr (.inr rfl)) rfl rfl) (e_mul (e_mul (e_mul (e_mul (s_var (i := 7) rfl (by first | exact .inl rfl | exact .inr rfl | exact .inr (.inl rfl) | exact .inr (.inr rfl)) rfl rfl) (s_var (i := 4) rfl (by first | exact .inl rfl | exact .inr rfl | exact .inr (.inl rfl) | exact .inr (.inr rfl)) rfl rfl)) (s_var (i := 4) rfl (by first | exact .inl rfl | exact .inr rfl | exact .inr (.inl rfl) | exact .inr (.inr rfl)) rfl rfl)) (s_var (i := 6) rfl (by first | exact .inl rfl | exact .inr rfl | exact .inr (.inl rfl) | exact .inr (.inr rfl)) rfl rfl)) (s_var (i := 6) rfl (by first | exact .inl rfl | exact .inr rfl | exact .inr (.inl rfl) | exact .inr (.inr rfl)) rfl rfl))) rfl (.inl rfl))
  (s_seq (s_ret (e_call (call__law_kept M) hr (by decide) tk (s_cons (s_lst (s_cons (s_var (i := 9) rfl (by first | exact .inl rfl | exact .inr rfl | exact .inr (.inl rfl) | exact .inr (.inr rfl)) rfl rfl) (s_cons (s_var (i := 9) rfl (by first | exact .inl rfl | exact .inr rfl | exact .inr (.inl rfl) | exact .inr (.inr rfl)) rfl rfl) (s_cons (s_var (i := 10) rfl (by first | exact .inl rfl | exact .inr rfl | exact .inr (.inl rfl) | exact .inr (.inr rfl)) rfl rfl) (s_cons (e_mul (e_mul (e_mul (e_mul (e_mul (e_neg k_int) (s_var (i := 5) rfl (by first | exact .inl rfl | exact .inr rfl | exact .inr (.inl rfl) | exact .inr (.inr rfl)) rfl rfl)) (s_var (i := 4) rfl (by first | exact .inl rfl | exact .inr rfl | exact .inr (.inl rfl) | exact .inr (.inr rfl)) rfl rfl)) (s_var (i := 4) rfl (by first | exact .inl rfl | exact .inr rfl | exact .inr (.inl rfl) | exact .inr (.inr rfl)) rfl rfl)) (s_var (i := 6) rfl (by first | exact .inl rfl | exact .inr rfl | exact .inr (.inl rfl) | exact .inr (.inr rfl)) rfl rfl)) (s_var (i := 8) rfl (by first | exact .inl rfl | exact .inr rfl | exact .inr (.inl rfl) | exact .inr (.inr rfl)) rfl rfl)) (s_cons (e_mul (e_mul (e_mul (e_mul (e_mul (e_neg k_int) (s_var (i := 3) rfl (by first | exact .inl rfl | exact .inr rfl | exact .inr (.inl rfl) | exact .inr (.inr rfl)) rfl rfl)) (s_var (i := 4) rfl (by first | exact .inl rfl | exact .inr rfl | exact .inr (.inl rfl) | exact .inr (.inr rfl)) rfl rfl)) (s_var (i := 6) rfl (by first | exact .inl rfl | exact .inr rfl | exact .inr (.inl rfl) | exact .inr (.inr rfl)) rfl rfl)) (s_var (i := 6) rfl (by first | exact .inl rfl | exact .inr rfl | exact .inr (.inl rfl) | exact .inr (.inr rfl)) rfl rfl)) (s_var (i := 8) rfl (by first | exact .inl rfl | exact .inr rfl | exact .inr (.inl rfl) | exact .inr (.inr rfl)) rfl rfl)) (s_cons k_int s_nil rfl) rfl) rfl) rfl) rfl) rfl)) s_nil rfl) (len_cons len_nil) rfl rfl rfl rfl rfl))
  s_done)))))))
  exact z
theorem call__law_due : CallF P w K mg base 3 "_law_due" 3 false d__law_due := callF (d := dd__law_due) (N := N__law_due) (ps := ["_law_x", "_law_y", "_law_square_here"]) (M.d 21 dd__law_due rfl) rfl rfl sc__law_due (fun _ _ _ _ _ _ us hl => match us, hl with | [_, _, _], _ => rfl) (pb__law_due M)
theorem pb_circle_curve (f : Addr) (cdv : Value) (A : Around) (outer : List Env) (s : Shared) (H : Hp) (E : XK) (hr : Room 3 (A.deeper (envOfC "circle_curve" (defScope st_circle_curve) s.heap.objs.size f cdv))) :
    PSs (cxOf (L2.CX P w) P w K mg base N_circle_curve "circle_curve" (defScope st_circle_curve) f cdv A outer s H E) (defBody st_circle_curve) (tS ⟨K, mg⟩ (fun cls d _ H => E cls d H) db_circle_curve) := by
  have tk : Takes (cxOf (L2.CX P w) P w K mg base N_circle_curve "circle_curve" (defScope st_circle_curve) f cdv A outer s H E) (fun cls d _ H => E cls d H) := takes_of rfl rfl rfl rfl
  have hp : PassesOwn (model P w) (cxOf (L2.CX P w) P w K mg base N_circle_curve "circle_curve" (defScope st_circle_curve) f cdv A outer s H E).A (cxOf (L2.CX P w) P w K mg base N_circle_curve "circle_curve" (defScope st_circle_curve) f cdv A outer s H E).env (cxOf (L2.CX P w) P w K mg base N_circle_curve "circle_curve" (defScope st_circle_curve) f cdv A outer s H E).xe := passes_of (X := cxOf (L2.CX P w) P w K mg base N_circle_curve "circle_curve" (defScope st_circle_curve) f cdv A outer s H E) rfl
  have z : PSs (cxOf (L2.CX P w) P w K mg base N_circle_curve "circle_curve" (defScope st_circle_curve) f cdv A outer s H E) (defBody st_circle_curve) (tS ⟨K, mg⟩ (fun cls d _ H => E cls d H) (seqS (dropS (callD d_look_at_numbers (consD (lstD (consD (varD 0) (consD (varD 1) (consD (varD 2) nilD)))) nilD)))
  (seqS (ifS (trD (bin2 ltG (bin2 ixG (varD 2) (conD (.int 0))) (conD (.int 1)))) (seqS (raiseS "NoCircle")
  nxS) nxS)
  (seqS (asgS (.one 3) (callD d_frac_less (consD (callD d_frac_sum (consD (callD d_frac_times (consD (varD 0) (consD (varD 0) nilD))) (consD (callD d_frac_times (consD (varD 1) (consD (varD 1) nilD))) nilD))) (consD (varD 2) nilD))))
  (seqS (asgS (.one 4) (callD d_frac_times (consD (tupD (consD (bin2 subG (conD (.int 0)) (conD (.int 2))) (consD (conD (.int 1)) nilD))) (consD (varD 1) nilD))))
  (seqS (retS false (callD d_whole_six (consD (lstD (consD (conD (.tup [.int 1, .int 1])) (consD (conD (.tup [.int 1, .int 1])) (consD (varD 3) (consD (varD 4) (consD (callD d_frac_times (consD (tupD (consD (bin2 subG (conD (.int 0)) (conD (.int 2))) (consD (conD (.int 1)) nilD))) (consD (varD 0) nilD))) (consD (conD (.tup [.int 0, .int 1])) nilD))))))) nilD)))
  nxS)))))) := (s_seq (s_drop (e_call (call_look_at_numbers M) hr (by decide) tk (s_cons (s_lst (s_cons (s_var (i := 0) rfl (by first | exact .inl rfl | exact .inr rfl | exact .inr (.inl rfl) | exact .inr (.inr rfl)) rfl rfl) (s_cons (s_var (i := 1) rfl (by first | exact .inl rfl | exact .inr rfl | exact .inr (.inl rfl) | exact .inr (.inr rfl)) rfl rfl) (s_cons (s_var (i := 2) rfl (by first | exact .inl rfl | exact .inr rfl | exact .inr (.inl rfl) | exact .inr (.inr rfl)) rfl rfl) s_nil rfl) rfl) rfl)) s_nil rfl) (len_cons len_nil) rfl rfl rfl rfl rfl) rfl)
  (s_seq (s_if (c_lt (e_ix (fun _ _ => rfl) (s_var (i := 2) rfl (by first | exact .inl rfl | exact .inr rfl | exact .inr (.inl rfl) | exact .inr (.inr rfl)) rfl rfl) k_int) k_int) (s_seq (e_raise (m_exc_NoCircle M) rfl tk rfl rfl)
  s_done) s_done)
  (s_seq (s_set (i := 3) sc_circle_curve.nd rfl (by first | exact .inl rfl | exact .inr rfl | exact .inr (.inl rfl) | exact .inr (.inr rfl)) (e_call (call_frac_less M) hr (by decide) tk (s_cons (e_call (call_frac_sum M) hr (by decide) tk (s_cons (e_call (call_frac_times M) hr (by decide) tk (s_cons (s_var (i := 0) rfl (by first | exact .inl rfl | exact .inr rfl | exact .inr (.inl rfl) | exact .inr (.inr rfl)) rfl rfl) (s_cons (s_var (i := 0) rfl (by first | exact .inl rfl | exact .inr rfl | exact .inr (.inl rfl) | exact .inr (.inr rfl)) rfl rfl) s_nil rfl) rfl) (len_cons (len_cons len_nil)) rfl rfl rfl rfl rfl) (s_cons (e_call (call_frac_times M) hr (by decide) tk (s_cons (s_var (i := 1) rfl (by first | exact .inl rfl | exact .inr rfl | exact .inr (.inl rfl) | exact .inr (.inr rfl)) rfl rfl) (s_cons (s_var (i := 1) rfl (by first | exact .inl rfl | exact .inr rfl | exact .inr (.inl rfl) | exact .inr (.inr rfl)) rfl rfl) s_nil rfl) rfl) (len_cons (len_cons len_nil)) rfl rfl rfl rfl rfl) s_nil rfl) rfl) (len_cons (len_cons len_nil)) rfl rfl rfl rfl rfl) (s_cons (s_var (i := 2) rfl (by first | exact .inl rfl | exact .inr rfl | exact .inr (.inl rfl) | exact .inr (.inr rfl)) rfl rfl) s_nil rfl) rfl) (len_cons (len_cons len_nil)) rfl rfl rfl rfl rfl) rfl (.inl rfl))
  (s_seq (s_set (i := 4) sc_circle_curve.nd rfl (by first | exact .inl rfl | exact .inr rfl | exact .inr (.inl rfl) | exact .inr (.inr rfl)) (e_call (call_frac_times M) hr (by decide) tk (s_cons (s_tup (s_cons (e_sub k_int k_int) (s_cons k_int s_nil rfl) rfl)) (s_cons (s_var (i := 1) rfl (by first | exact .inl rfl | exact .inr rfl | exact .inr (.inl rfl) | exact .inr (.inr rfl)) rfl rfl) s_nil rfl) rfl) (len_cons (len_cons len_nil)) rfl rfl rfl rfl rfl) rfl (.inl rfl))
  (s_seq (s_ret (e_call (call_whole_six M) hr (by decide) tk (s_cons (s_lst (s_cons (k_glo (by rfl) (by rfl) (m_tup_ONE M).1 fun ρ H => .tup ((m_tup_ONE M).2 H) (.cons (.int _) (.cons (.int _) .nil))) (s_cons (k_glo (by rfl) (by rfl) (m_tup_ONE M).1 fun ρ H => .tup ((m_tup_ONE M).2 H) (.cons (.int _) (.cons (.int _) .nil))) (s_cons (s_var (i := 3) rfl (by first | exact .inl rfl | exact .inr rfl | exact .inr (.inl rfl) | exact .inr (.inr rfl)) rfl rfl) (s_cons (s_var (i := 4) rfl (by first | exact .inl rfl | exact .inr rfl | exact .inr (.inl rfl) | exact .inr (.inr rfl)) rfl rfl) (s_cons (e_call (call_frac_times M) hr (by decide) tk (s_cons (s_tup (s_cons (e_sub k_int k_int) (s_cons k_int s_nil rfl) rfl)) (s_cons (s_var (i := 0) rfl (by first | exact .inl rfl | exact .inr rfl | exact .inr (.inl rfl) | exact .inr (.inr rfl)) rfl rfl) s_nil rfl) rfl) (len_cons (len_cons len_nil)) rfl rfl rfl rfl rfl) (s_cons (k_glo (by rfl) (by rfl) (m_tup_NONE M).1 fun ρ H => .tup ((m_tup_NONE M).2 H) (.cons (.int _) (.cons (.int _) .nil))) s_nil rfl) rfl) rfl) rfl) rfl) rfl)) s_nil rfl) (len_cons len_nil) rfl rfl rfl rfl rfl))
  s_done)))))
  exact z
theorem call_circle_curve : CallF P w K mg base 4 "circle_curve" 3 false d_circle_curve := callF (d := dd_circle_curve) (N := N_circle_curve) (ps := ["x", "y", "square"]) (M.d 22 dd_circle_curve rfl) rfl rfl sc_circle_curve (fun _ _ _ _ _ _ us hl => match us, hl with | [_, _, _], _ => rfl) (pb_circle_curve M)
theorem pb__law_refused (f : Addr) (cdv : Value) (A : Around) (outer : List Env) (s : Shared) (H : Hp) (E : XK) (hr : Room 4 (A.deeper (envOfC "_law_refused" (defScope st__law_refused) s.heap.objs.size f cdv))) :
    PSs (cxOf (L2.CX P w) P w K mg base N__law_refused "_law_refused" (defScope st__law_refused) f cdv A outer s H E) (defBody st__law_refused) (tS ⟨K, mg⟩ (fun cls d _ H => E cls d H) db__law_refused) := by
  have tk : Takes (cxOf (L2.CX P w) P w K mg base N__law_refused "_law_refused" (defScope st__law_refused) f cdv A outer s H E) (fun cls d _ H => E cls d H) := takes_of rfl rfl rfl rfl
  have hp : PassesOwn (model P w) (cxOf (L2.CX P w) P w K mg base N__law_refused "_law_refused" (defScope st__law_refused) f cdv A outer s H E).A (cxOf (L2.CX P w) P w K mg base N__law_refused "_law_refused" (defScope st__law_refused) f cdv A outer s H E).env (cxOf (L2.CX P w) P w K mg base N__law_refused "_law_refused" (defScope st__law_refused) f cdv A outer s H E).xe := passes_of (X := cxOf (L2.CX P w) P w K mg base N__law_refused "_law_refused" (defScope st__law_refused) f cdv A outer s H E) rfl
  have z : PSs (cxOf (L2.CX P w) P w K mg base N__law_refused "_law_refused" (defScope st__law_refused) f cdv A outer s H E) (defBody st__law_refused) (tS ⟨K, mg⟩ (fun cls d _ H => E cls d H) (seqS (asgS (.one 3) (conD .non))
  (seqS (keepS 4 3 (tl [("NoBottom", true), ("NoCircle", true)]) (seqS (dropS (callD d_circle_curve (consD (varD 0) (consD (varD 1) (consD (varD 2) nilD)))))
  nxS))
  (seqS (ifS (trD (bin2 isG (varD 3) (conD .non))) (seqS (retS false (conD (.str "told")))
  nxS) nxS)
  (seqS (retS false (callD d__law_kinds (consD (varD 3) nilD)))
  nxS))))) := (s_seq (s_set (i := 3) sc__law_refused.nd rfl (by first | exact .inl rfl | exact .inr rfl | exact .inr (.inl rfl) | exact .inr (.inr rfl)) k_non rfl (.inl rfl))
  (s_seq (s_keep (i := 4) (j := 3) rfl rfl rfl sc__law_refused.nd rfl rfl rfl (by first | exact .inl rfl | exact .inr rfl | exact .inr (.inl rfl) | exact .inr (.inr rfl)) (.inl rfl) (by first | exact .inl rfl | exact .inr rfl | exact .inr (.inl rfl) | exact .inr (.inr rfl)) rfl rfl (show 4 < N__law_refused.length by decide) ⟨rfl, rfl, .inl (m_exm_RoundError M).1⟩ tk (m_exm_RoundError M).2 (fun W pn xe tk hp => (s_seq (s_drop (e_call (call_circle_curve M) hr (by decide) tk (s_cons (s_var (i := 0) rfl (by first | exact .inl rfl | exact .inr rfl | exact .inr (.inl rfl) | exact .inr (.inr rfl)) rfl rfl) (s_cons (s_var (i := 1) rfl (by first | exact .inl rfl | exact .inr rfl | exact .inr (.inl rfl) | exact .inr (.inr rfl)) rfl rfl) (s_cons (s_var (i := 2) rfl (by first | exact .inl rfl | exact .inr rfl | exact .inr (.inl rfl) | exact .inr (.inr rfl)) rfl rfl) s_nil rfl) rfl) rfl) (len_cons (len_cons (len_cons len_nil))) rfl rfl rfl rfl rfl) rfl)
  s_done)) rfl)
  (s_seq (s_if (c_is (s_var (i := 3) rfl (by first | exact .inl rfl | exact .inr rfl | exact .inr (.inl rfl) | exact .inr (.inr rfl)) rfl rfl) k_non) (s_seq (s_ret k_str)
  s_done) s_done)
  (s_seq (s_ret (e_call (call__law_kinds M) hr (by decide) tk (s_cons (s_var (i := 3) rfl (by first | exact .inl rfl | exact .inr rfl | exact .inr (.inl rfl) | exact .inr (.inr rfl)) rfl rfl) s_nil rfl) (len_cons len_nil) rfl rfl rfl rfl rfl))
  s_done))))
  exact z
theorem call__law_refused : CallF P w K mg base 5 "_law_refused" 3 false d__law_refused := callF (d := dd__law_refused) (N := N__law_refused) (ps := ["_law_x", "_law_y", "_law_square_here"]) (M.d 23 dd__law_refused rfl) rfl rfl sc__law_refused (fun _ _ _ _ _ _ us hl => match us, hl with | [_, _, _], _ => rfl) (pb__law_refused M)
theorem pb_law (f : Addr) (cdv : Value) (A : Around) (outer : List Env) (s : Shared) (H : Hp) (E : XK) (hr : Room 5 (A.deeper (envOfC "law" (defScope st_law) s.heap.objs.size f cdv))) :
    PSs (cxOf (L2.CX P w) P w K mg base N_law "law" (defScope st_law) f cdv A outer s H E) (defBody st_law) (tS ⟨K, mg⟩ (fun cls d _ H => E cls d H) db_law) := by
  have tk : Takes (cxOf (L2.CX P w) P w K mg base N_law "law" (defScope st_law) f cdv A outer s H E) (fun cls d _ H => E cls d H) := takes_of rfl rfl rfl rfl
  have hp : PassesOwn (model P w) (cxOf (L2.CX P w) P w K mg base N_law "law" (defScope st_law) f cdv A outer s H E).A (cxOf (L2.CX P w) P w K mg base N_law "law" (defScope st_law) f cdv A outer s H E).env (cxOf (L2.CX P w) P w K mg base N_law "law" (defScope st_law) f cdv A outer s H E).xe := passes_of (X := cxOf (L2.CX P w) P w K mg base N_law "law" (defScope st_law) f cdv A outer s H E) rfl
  have z : PSs (cxOf (L2.CX P w) P w K mg base N_law "law" (defScope st_law) f cdv A outer s H E) (defBody st_law) (tS ⟨K, mg⟩ (fun cls d _ H => E cls d H) (seqS (thawS 1 (callD d__law_purse (consD (varD 0) nilD)))
  (seqS (forS (rng1I (consD (bin2 addAll (conD (.int 1)) (callD d__law_draw (consD (varD 1) (consD (conD (.int 12)) nilD)))) nilD)) (.one 2) lb0_law)
  (seqS (retS false (conD (.bl true)))
  nxS)))) := (s_seq (s_thaw (i := 1) sc_law.nd rfl (by first | exact .inl rfl | exact .inr rfl | exact .inr (.inl rfl) | exact .inr (.inr rfl)) (e_call (call__law_purse M) hr (by decide) tk (s_cons (s_var (i := 0) rfl (by first | exact .inl rfl | exact .inr rfl | exact .inr (.inl rfl) | exact .inr (.inr rfl)) rfl rfl) s_nil rfl) (len_cons len_nil) rfl rfl rfl rfl rfl) rfl (.inl rfl))
  (s_seq (s_for hp rfl (i_rng1 rfl (m_free_range M) (s_cons (e_add k_int (e_call (call__law_draw M) hr (by decide) tk (s_cons (s_var (i := 1) rfl (by first | exact .inl rfl | exact .inr rfl | exact .inr (.inl rfl) | exact .inr (.inr rfl)) rfl rfl) (s_cons k_int s_nil rfl) rfl) (len_cons (len_cons len_nil)) rfl rfl rfl rfl rfl)) s_nil rfl) rfl) (g_one sc_law.nd rfl (by first | exact .inl rfl | exact .inr rfl | exact .inr (.inl rfl) | exact .inr (.inr rfl)) (.inl rfl)) (s_seq (s_set (i := 3) sc_law.nd rfl (by first | exact .inl rfl | exact .inr rfl | exact .inr (.inl rfl) | exact .inr (.inr rfl)) (s_lst (s_cons (e_call (call__law_fraction M) hr (by decide) tk (s_cons (s_var (i := 1) rfl (by first | exact .inl rfl | exact .inr rfl | exact .inr (.inl rfl) | exact .inr (.inr rfl)) rfl rfl) s_nil rfl) (len_cons len_nil) rfl rfl rfl rfl rfl) (s_cons (e_call (call__law_fraction M) hr (by decide) tk (s_cons (s_var (i := 1) rfl (by first | exact .inl rfl | exact .inr rfl | exact .inr (.inl rfl) | exact .inr (.inr rfl)) rfl rfl) s_nil rfl) (len_cons len_nil) rfl rfl rfl rfl rfl) (s_cons (e_call (call__law_square M) hr (by decide) tk (s_cons (s_var (i := 1) rfl (by first | exact .inl rfl | exact .inr rfl | exact .inr (.inl rfl) | exact .inr (.inr rfl)) rfl rfl) s_nil rfl) (len_cons len_nil) rfl rfl rfl rfl rfl) s_nil rfl) rfl) rfl)) rfl (.inl rfl))
  (s_seq (s_set (i := 4) sc_law.nd rfl (by first | exact .inl rfl | exact .inr rfl | exact .inr (.inl rfl) | exact .inr (.inr rfl)) (e_call (call__law_due M) hr (by decide) tk (s_cons (e_ix (fun _ _ => rfl) (s_var (i := 3) rfl (by first | exact .inl rfl | exact .inr rfl | exact .inr (.inl rfl) | exact .inr (.inr rfl)) rfl rfl) k_int) (s_cons (e_ix (fun _ _ => rfl) (s_var (i := 3) rfl (by first | exact .inl rfl | exact .inr rfl | exact .inr (.inl rfl) | exact .inr (.inr rfl)) rfl rfl) k_int) (s_cons (e_ix (fun _ _ => rfl) (s_var (i := 3) rfl (by first | exact .inl rfl | exact .inr rfl | exact .inr (.inl rfl) | exact .inr (.inr rfl)) rfl rfl) k_int) s_nil rfl) rfl) rfl) (len_cons (len_cons (len_cons len_nil))) rfl rfl rfl rfl rfl) rfl (.inl rfl))
  (s_seq (s_set (i := 5) sc_law.nd rfl (by first | exact .inl rfl | exact .inr rfl | exact .inr (.inl rfl) | exact .inr (.inr rfl)) (e_call (call_circle_curve M) hr (by decide) tk (s_cons (e_ix (fun _ _ => rfl) (s_var (i := 3) rfl (by first | exact .inl rfl | exact .inr rfl | exact .inr (.inl rfl) | exact .inr (.inr rfl)) rfl rfl) k_int) (s_cons (e_ix (fun _ _ => rfl) (s_var (i := 3) rfl (by first | exact .inl rfl | exact .inr rfl | exact .inr (.inl rfl) | exact .inr (.inr rfl)) rfl rfl) k_int) (s_cons (e_ix (fun _ _ => rfl) (s_var (i := 3) rfl (by first | exact .inl rfl | exact .inr rfl | exact .inr (.inl rfl) | exact .inr (.inr rfl)) rfl rfl) k_int) s_nil rfl) rfl) rfl) (len_cons (len_cons (len_cons len_nil))) rfl rfl rfl rfl rfl) rfl (.inl rfl))
  (s_seq (s_if (PW.pt (w_or (t_not (t_val (e_call (call__law_wholes M) hr (by decide) tk (s_cons (s_var (i := 5) rfl (by first | exact .inl rfl | exact .inr rfl | exact .inr (.inl rfl) | exact .inr (.inr rfl)) rfl rfl) (s_cons k_int s_nil rfl) rfl) (len_cons (len_cons len_nil)) rfl rfl rfl rfl rfl) (fun _ => rfl))) (w_or1 (c_ne hr (s_var (i := 5) rfl (by first | exact .inl rfl | exact .inr rfl | exact .inr (.inl rfl) | exact .inr (.inr rfl)) rfl rfl) (s_var (i := 4) rfl (by first | exact .inl rfl | exact .inr rfl | exact .inr (.inl rfl) | exact .inr (.inr rfl)) rfl rfl))))) (s_seq (s_ret k_bl)
  s_done) s_done)
  (s_seq (s_set (i := 6) sc_law.nd rfl (by first | exact .inl rfl | exact .inr rfl | exact .inr (.inl rfl) | exact .inr (.inr rfl)) (e_call (call__law_draw M) hr (by decide) tk (s_cons (s_var (i := 1) rfl (by first | exact .inl rfl | exact .inr rfl | exact .inr (.inl rfl) | exact .inr (.inr rfl)) rfl rfl) (s_cons k_int s_nil rfl) rfl) (len_cons (len_cons len_nil)) rfl rfl rfl rfl rfl) rfl (.inl rfl))
  (s_seq (s_thaw (i := 7) sc_law.nd rfl (by first | exact .inl rfl | exact .inr rfl | exact .inr (.inl rfl) | exact .inr (.inr rfl)) (e_list (m_free_list M) (s_cons (s_var (i := 3) rfl (by first | exact .inl rfl | exact .inr rfl | exact .inr (.inl rfl) | exact .inr (.inr rfl)) rfl rfl) s_nil rfl) rfl rfl rfl) rfl (.inl rfl))
  (s_seq (s_setI (e_call (call__law_spoilt M) hr (by decide) tk (s_cons (s_var (i := 1) rfl (by first | exact .inl rfl | exact .inr rfl | exact .inr (.inl rfl) | exact .inr (.inr rfl)) rfl rfl) (s_cons (e_ix (fun _ _ => rfl) (s_var (i := 3) rfl (by first | exact .inl rfl | exact .inr rfl | exact .inr (.inl rfl) | exact .inr (.inr rfl)) rfl rfl) (s_var (i := 6) rfl (by first | exact .inl rfl | exact .inr rfl | exact .inr (.inl rfl) | exact .inr (.inr rfl)) rfl rfl)) s_nil rfl) rfl) (len_cons (len_cons len_nil)) rfl rfl rfl rfl rfl) (s_var (i := 7) rfl (by first | exact .inl rfl | exact .inr rfl | exact .inr (.inl rfl) | exact .inr (.inr rfl)) rfl rfl) (s_var (i := 6) rfl (by first | exact .inl rfl | exact .inr rfl | exact .inr (.inl rfl) | exact .inr (.inr rfl)) rfl rfl) (fun _ => rfl) rfl rfl rfl)
  (s_seq (s_if (c_ne hr (e_call (call__law_refused M) hr (by decide) tk (s_cons (e_ix (fun _ _ => rfl) (s_var (i := 7) rfl (by first | exact .inl rfl | exact .inr rfl | exact .inr (.inl rfl) | exact .inr (.inr rfl)) rfl rfl) k_int) (s_cons (e_ix (fun _ _ => rfl) (s_var (i := 7) rfl (by first | exact .inl rfl | exact .inr rfl | exact .inr (.inl rfl) | exact .inr (.inr rfl)) rfl rfl) k_int) (s_cons (e_ix (fun _ _ => rfl) (s_var (i := 7) rfl (by first | exact .inl rfl | exact .inr rfl | exact .inr (.inl rfl) | exact .inr (.inr rfl)) rfl rfl) k_int) s_nil rfl) rfl) rfl) (len_cons (len_cons (len_cons len_nil))) rfl rfl rfl rfl rfl) k_str) (s_seq (s_ret k_bl)
  s_done) s_done)
  (s_seq (s_set (i := 8) sc_law.nd rfl (by first | exact .inl rfl | exact .inr rfl | exact .inr (.inl rfl) | exact .inr (.inr rfl)) (s_tup (s_cons (e_sub k_int (e_call (call__law_draw M) hr (by decide) tk (s_cons (s_var (i := 1) rfl (by first | exact .inl rfl | exact .inr rfl | exact .inr (.inl rfl) | exact .inr (.inr rfl)) rfl rfl) (s_cons k_int s_nil rfl) rfl) (len_cons (len_cons len_nil)) rfl rfl rfl rfl rfl)) (s_cons k_int s_nil rfl) rfl)) rfl (.inl rfl))
  (s_seq (s_if (PW.pt (w_or (c_ne hr (e_call (call__law_refused M) hr (by decide) tk (s_cons (e_ix (fun _ _ => rfl) (s_var (i := 3) rfl (by first | exact .inl rfl | exact .inr rfl | exact .inr (.inl rfl) | exact .inr (.inr rfl)) rfl rfl) k_int) (s_cons (e_ix (fun _ _ => rfl) (s_var (i := 3) rfl (by first | exact .inl rfl | exact .inr rfl | exact .inr (.inl rfl) | exact .inr (.inr rfl)) rfl rfl) k_int) (s_cons (s_var (i := 8) rfl (by first | exact .inl rfl | exact .inr rfl | exact .inr (.inl rfl) | exact .inr (.inr rfl)) rfl rfl) s_nil rfl) rfl) rfl) (len_cons (len_cons (len_cons len_nil))) rfl rfl rfl rfl rfl) k_str) (w_or1 (c_ne hr (e_call (call__law_refused M) hr (by decide) tk (s_cons (e_ix (fun _ _ => rfl) (s_var (i := 7) rfl (by first | exact .inl rfl | exact .inr rfl | exact .inr (.inl rfl) | exact .inr (.inr rfl)) rfl rfl) k_int) (s_cons (e_ix (fun _ _ => rfl) (s_var (i := 7) rfl (by first | exact .inl rfl | exact .inr rfl | exact .inr (.inl rfl) | exact .inr (.inr rfl)) rfl rfl) k_int) (s_cons (s_var (i := 8) rfl (by first | exact .inl rfl | exact .inr rfl | exact .inr (.inl rfl) | exact .inr (.inr rfl)) rfl rfl) s_nil rfl) rfl) rfl) (len_cons (len_cons (len_cons len_nil))) rfl rfl rfl rfl rfl) k_str)))) (s_seq (s_ret k_bl)
  s_done) s_done)
  (s_seq (s_if (c_ne hr (e_call (call_circle_curve M) hr (by decide) tk (s_cons (e_ix (fun _ _ => rfl) (s_var (i := 3) rfl (by first | exact .inl rfl | exact .inr rfl | exact .inr (.inl rfl) | exact .inr (.inr rfl)) rfl rfl) k_int) (s_cons (e_ix (fun _ _ => rfl) (s_var (i := 3) rfl (by first | exact .inl rfl | exact .inr rfl | exact .inr (.inl rfl) | exact .inr (.inr rfl)) rfl rfl) k_int) (s_cons (e_ix (fun _ _ => rfl) (s_var (i := 3) rfl (by first | exact .inl rfl | exact .inr rfl | exact .inr (.inl rfl) | exact .inr (.inr rfl)) rfl rfl) k_int) s_nil rfl) rfl) rfl) (len_cons (len_cons (len_cons len_nil))) rfl rfl rfl rfl rfl) (s_var (i := 4) rfl (by first | exact .inl rfl | exact .inr rfl | exact .inr (.inl rfl) | exact .inr (.inr rfl)) rfl rfl)) (s_seq (s_ret k_bl)
  s_done) s_done)
  s_done))))))))))) (fun _ => rfl))
  (s_seq (s_ret k_bl)
  s_done)))
  exact z
theorem call_law : CallF P w K mg base 6 "law" 1 false d_law := callF (d := dd_law) (N := N_law) (ps := ["_law_script"]) (M.d 24 dd_law rfl) rfl rfl sc_law (fun _ _ _ _ _ _ us hl => match us, hl with | [_], _ => rfl) (pb_law M)
end
theorem facts {P : Program} {w : World} {K : PySem.W.Frag} {mg : Str → Option Value} {f : Addr} (M : Md fa fn K mg) (hfa : mg ("law" : Str) = some (.ref f)) (hl : ∀ ns : List Int, ns.length ≤ 63 → ∃ μ, d_law [.lst (ns.map .int)] [] = .ok (.bl true) μ) :
    ∃ fd : FuncData, (∀ (s : Shared) (v : Value), BindsTo s fd ⟨[v], []⟩ [("_law_script", v)]) ∧ ∀ base : Heap, FnOk P w K mg base CX0 6 f fd ["_law_script"] (RS.spLaw K 63) := by
  obtain ⟨a, fd, F, hm⟩ := M.d 24 dd_law rfl
  have e := hfa.symm.trans hm
  cases e
  have b := FunD.bindsA (ps := ["_law_script"]) F fun _ _ _ _ _ _ us hl => match us, hl with | [_], _ => rfl
  refine ⟨fd, fun s v => b s [v] rfl, fun base => ?_⟩
  exact (FnOk.calm (fn_ok (fr := false) (P := P) (w := w) (mg := mg) (base := base) F sc_law (pb_law M f)) (RS.spLaw K 63) fun vs H Q E h => law_sp hl h)
/-! ### the head -/
abbrev hk : PySem.W.Hook := hookR fa fn
def ob (s : PySem.W.SharedT) : He.AlD := obsRG fa fn (HandSHeadRun.getT s)
theorem ob_eq (s : PySem.W.SharedT) : ob s = hk.obs s.abs := obsRG_eq (HandSHeadRun.getT_eq s)
def ns0 : List Str := ("RoundError" : Str) :: ("NoBottom" : Str) :: ("NoFraction" : Str) :: ("NoTriple" : Str) :: ("Alike" : Str) :: ("NoCurve" : Str) :: ("NoPair" : Str) :: ("NoFlag" : Str) :: ("NoCubic" : Str) :: ("NoTable" : Str) :: ("NoSpot" : Str) :: ("NoClock" : Str) :: ("NoChord" : Str) :: ("NoSides" : Str) :: ("NoCircle" : Str) :: ("TooMany" : Str) :: ("NoPaper" : Str) :: ("NoText" : Str) :: ("NoLine" : Str) :: ("is_number" : Str) :: ("common_of" : Str) :: ("turned_sign" : Str) :: ("is_fraction" : Str) :: ("fraction_of" : Str) :: ("frac_sum" : Str) :: ("frac_less" : Str) :: ("frac_times" : Str) :: ("kept_six" : Str) :: ("whole_six" : Str) :: ("NONE" : Str) :: ("ONE" : Str) :: ("look_at_numbers" : Str) :: ("circle_curve" : Str) :: ("_law_draw" : Str) :: ("_law_purse" : Str) :: ("_law_common" : Str) :: ("_law_kept" : Str) :: ("_law_wholes" : Str) :: ("_law_frac" : Str) :: ("_law_kinds" : Str) :: []
def ns1 : List Str := ("_law_fraction" : Str) :: ("_law_square" : Str) :: ("_law_due" : Str) :: ("_law_spoilt" : Str) :: ("_law_refused" : Str) :: []
def names : List Str := ns0 ++ ns1
theorem run (w : World) : HandSHeadRun.RunEq Rw (PySem.W.view Rw.prog [52]) hk ob 20000 names w := by
  intro os
  kernel_rfl
theorem holds_of (hl : ∀ ns : List Int, ns.length ≤ 63 → ∃ μ, d_law [.lst (ns.map .int)] [] = .ok (.bl true) μ) : PySem.Challenge.rw_roundsides_k60_circles_as_curves.Holds := by
  w_on; o_law
  refine HandSHeadRun.head_any (r := PySem.W.OpenLaw.row PySem.Challenge.rw_roundsides_k60_circles_as_curves) (q := PySem.W.view (PySem.W.OpenLaw.row PySem.Challenge.rw_roundsides_k60_circles_as_curves).prog [52]) (H := hk) (ob := ob) (M := 20000) (loose := names) (d := HandSHeadRun.topDef (PySem.W.OpenLaw.row PySem.Challenge.rw_roundsides_k60_circles_as_curves).prog 52) (kwd := []) ob_eq
    (by kernel_rfl) (fun s => by kernel_rfl) run (by kernel_rfl) (by kernel_rfl) (by kernel_rfl) (by rfl) (by first | assumption | decide +kernel) (by decide +kernel) ⟨rfl, rfl, rfl, rfl, rfl, by decide +kernel⟩ ?hw ?hc
  case hw => w_witness2
  case hc =>
    refine L2.walk_ofE (l := PySem.Challenge.rw_roundsides_k60_circles_as_curves) (n := 63) (k := 6) (x := "_law_script") (CX := L2.CX0) rfl (by decide) (by kernel_rfl) ⟨rfl, by decide, by decide⟩ ?F (fun _ _ _ _ z => z)
    intro w mg fa h Y G hmg0
    obtain ⟨K, KX, c⟩ := Y
    have hmg : mg ("law" : PySem.Str) = some (.ref fa) := by
      have e : (HandSHeadRun.topDef (PySem.W.OpenLaw.row PySem.Challenge.rw_roundsides_k60_circles_as_curves).prog 52).name = ("law" : PySem.Str) := by kernel_rfl
      rw [← e]
      exact hmg0
    obtain ⟨fd, hb, hF⟩ := facts (P := (PySem.Challenge.rw_roundsides_k60_circles_as_curves).prog) (w := w) (c.md KX G) hmg hl
    exact ⟨K, fd, RS.spLaw K 63, KX, hb, fun H a ns hl _ hS => ⟨a, ns, rfl, hl, hS, fun _ => rfl⟩, fun base _ _ => hF base⟩
end K60

namespace K60
open PySem PySem.Spec L2 RS
theorem draw_ok (a b m : Int) (ν : Sto) (hm : 0 < m) (hm2 : m < 2 ^ 64) (hν : Ls ν) : ∃ r a' b', 0 ≤ r ∧ r < m ∧ d__law_draw [.cell 0, .int m] (Pu a b :: ν) = .ok (.int r) (Pu a' b' :: ν) := by
  have hp : ∀ i, Builtin.divisionGoesByPylong i m = false := fun i => noPy (by omega)
  have h1 : ∀ n, stoB n ν = true := hν
  by_cases h : a = 0
  · subst h
    refine ⟨b.fmod m, 0, b.fdiv m, Int.fmod_nonneg_of_pos b hm, Int.fmod_lt_of_pos b hm, ?_⟩
    have hm0 : m ≠ 0 := by omega
    simp (maxSteps := 1000000) [seqS, asgS, bindD, eS, retS, retN, ifS, trD, truth, raiseS, nxS, dropS, varD, conD, bin2, opt, R.bind, consD, nilD, tupD, lstD, calD, callD, notD, andD, orD, iteD, negD, subG, modG, mulG, fdivG, addAll, addI, addT, addP, addL, ltG, leG, gtG, geG, cmpG, eqG, neG, blO, isG, isnG, isN, ixG, ixSeq, ixTxt, asS, asL, cellL, atI, ixN, par2S, thawS, thawK, setS, setK, isTyD, kdOf, Tyb.has, eqD_int, eqD_str, stoB_cons, stoB_nil, nc, ncs, cb, cbs, isL, absG, maxG, minG, intG, lenG, lenO, listG, tupG, Option.orElse, setAll, sizeLine_eq, powG, ud__law_draw, ub__law_draw, funD, finD, hm0, hp, h1]
  · refine ⟨a.fmod m, a.fdiv m, b, Int.fmod_nonneg_of_pos a hm, Int.fmod_lt_of_pos a hm, ?_⟩
    have hm0 : m ≠ 0 := by omega
    simp (maxSteps := 1000000) [seqS, asgS, bindD, eS, retS, retN, ifS, trD, truth, raiseS, nxS, dropS, varD, conD, bin2, opt, R.bind, consD, nilD, tupD, lstD, calD, callD, notD, andD, orD, iteD, negD, subG, modG, mulG, fdivG, addAll, addI, addT, addP, addL, ltG, leG, gtG, geG, cmpG, eqG, neG, blO, isG, isnG, isN, ixG, ixSeq, ixTxt, asS, asL, cellL, atI, ixN, par2S, thawS, thawK, setS, setK, isTyD, kdOf, Tyb.has, eqD_int, eqD_str, stoB_cons, stoB_nil, nc, ncs, cb, cbs, isL, absG, maxG, minG, intG, lenG, lenO, listG, tupG, Option.orElse, setAll, sizeLine_eq, powG, ud__law_draw, ub__law_draw, funD, finD, hm0, hp, h1, h]
theorem wh_common (x0 x2 : Option D) (μ : Sto) : ∀ (k f r : Nat), r < k → whileL lt0_common_of lb0_common_of k [x0, some (.int f), x2, some (.int r)] μ = .nx [x0, some (.int (Nat.gcd f r)), x2, some (.int 0)] μ
  | 0, f, r, h => by omega
  | k + 1, f, r, h => by
    by_cases hr : r = 0
    · subst hr
      simp (maxSteps := 1000000) [seqS, asgS, bindD, eS, retS, retN, ifS, trD, truth, raiseS, nxS, dropS, varD, conD, bin2, opt, R.bind, consD, nilD, tupD, lstD, calD, callD, notD, andD, orD, iteD, negD, subG, modG, mulG, fdivG, addAll, addI, addT, addP, addL, ltG, leG, gtG, geG, cmpG, eqG, neG, blO, isG, isnG, isN, ixG, ixSeq, ixTxt, asS, asL, cellL, atI, ixN, par2S, thawS, thawK, setS, setK, isTyD, kdOf, Tyb.has, eqD_int, eqD_str, stoB_cons, stoB_nil, nc, ncs, cb, cbs, isL, absG, maxG, minG, intG, lenG, lenO, listG, tupG, Option.orElse, setAll, sizeLine_eq, powG, whileL, u_lt0_common_of]
    · have ih := wh_common x0 x2 μ k r (f % r) (by have := Nat.mod_lt f (Nat.pos_of_ne_zero hr); omega)
      rw [gcd_turn, Int.natCast_emod] at ih
      simp (maxSteps := 1000000) [seqS, asgS, bindD, eS, retS, retN, ifS, trD, truth, raiseS, nxS, dropS, varD, conD, bin2, opt, R.bind, consD, nilD, tupD, lstD, calD, callD, notD, andD, orD, iteD, negD, subG, modG, mulG, fdivG, addAll, addI, addT, addP, addL, ltG, leG, gtG, geG, cmpG, eqG, neG, blO, isG, isnG, isN, ixG, ixSeq, ixTxt, asS, asL, cellL, atI, ixN, par2S, thawS, thawK, setS, setK, isTyD, kdOf, Tyb.has, eqD_int, eqD_str, stoB_cons, stoB_nil, nc, ncs, cb, cbs, isL, absG, maxG, minG, intG, lenG, lenO, listG, tupG, Option.orElse, setAll, sizeLine_eq, powG, whileL, u_lt0_common_of, u_lb0_common_of, hr, fmod_nat, Int.natCast_emod, ih]
theorem lb1_ok (x0 x3 : Option D) (f : Nat) (i : Int) (μ : Sto) : lb1_common_of [x0, some (.int f), some (.int i), x3] μ = .nx [x0, some (.int (Nat.gcd f i.natAbs)), some (.int i), some (.int 0)] μ := by
  have e := wh_common x0 (some (.int i)) μ (msA [x0, some (.int f), some (.int i), some (.int i.natAbs)] μ) f i.natAbs (by simp [msA]; omega)
  simp (maxSteps := 1000000) [seqS, asgS, bindD, eS, retS, retN, ifS, trD, truth, raiseS, nxS, dropS, varD, conD, bin2, opt, R.bind, consD, nilD, tupD, lstD, calD, callD, notD, andD, orD, iteD, negD, subG, modG, mulG, fdivG, addAll, addI, addT, addP, addL, ltG, leG, gtG, geG, cmpG, eqG, neG, blO, isG, isnG, isN, ixG, ixSeq, ixTxt, asS, asL, cellL, atI, ixN, par2S, thawS, thawK, setS, setK, isTyD, kdOf, Tyb.has, eqD_int, eqD_str, stoB_cons, stoB_nil, nc, ncs, cb, cbs, isL, absG, maxG, minG, intG, lenG, lenO, listG, tupG, Option.orElse, setAll, sizeLine_eq, powG, u_lb1_common_of, whileS, abs_nat, e]
theorem common2 (a b : Int) (μ : Sto) (h : Ls μ) : d_common_of [.tup [.int a, .int b]] μ = .ok (.int (Int.gcd a b)) μ := by
  have h1 : ∀ n, stoB n μ = true := h
  have h2 : ∀ x0 x3 i, lb1_common_of [x0, some (.int 0), some (.int i), x3] μ = .nx [x0, some (.int (i.natAbs : Nat)), some (.int i), some (.int 0)] μ := fun x0 x3 i => by
    have := lb1_ok x0 x3 0 i μ
    rw [Nat.gcd_zero_left] at this
    exact this
  simp (maxSteps := 1000000) [seqS, asgS, bindD, eS, retS, retN, ifS, trD, truth, raiseS, nxS, dropS, varD, conD, bin2, opt, R.bind, consD, nilD, tupD, lstD, calD, callD, notD, andD, orD, iteD, negD, subG, modG, mulG, fdivG, addAll, addI, addT, addP, addL, ltG, leG, gtG, geG, cmpG, eqG, neG, blO, isG, isnG, isN, ixG, ixSeq, ixTxt, asS, asL, cellL, atI, ixN, par2S, thawS, thawK, setS, setK, isTyD, kdOf, Tyb.has, eqD_int, eqD_str, stoB_cons, stoB_nil, nc, ncs, cb, cbs, isL, absG, maxG, minG, intG, lenG, lenO, listG, tupG, Option.orElse, setAll, sizeLine_eq, powG, ud_common_of, ub_common_of, funD, finD, forS, forL, seqI, guardOf, lb1_ok, h1, limE, h2]
  rfl

theorem isfr_pair (a b : Int) (μ : Sto) (h : Ls μ) : d_is_fraction [.tup [.int a, .int b]] μ = .ok (.bl (decide (1 ≤ b ∧ Int.gcd a b = 1))) μ := by
  have h1 : ∀ n, stoB n μ = true := h
  have hs : (2 : Nat) ≤ sizeLine := by decide
  simp (maxSteps := 1000000) [seqS, asgS, bindD, eS, retS, retN, ifS, trD, truth, raiseS, nxS, dropS, varD, conD, bin2, opt, R.bind, consD, nilD, tupD, lstD, calD, callD, notD, andD, orD, iteD, negD, subG, modG, mulG, fdivG, addAll, addI, addT, addP, addL, ltG, leG, gtG, geG, cmpG, eqG, neG, blO, isG, isnG, isN, ixG, ixSeq, ixTxt, asS, asL, cellL, atI, ixN, par2S, thawS, thawK, setS, setK, isTyD, kdOf, Tyb.has, eqD_int, eqD_str, stoB_cons, stoB_nil, nc, ncs, cb, cbs, isL, absG, maxG, minG, intG, lenG, lenO, listG, tupG, Option.orElse, setAll, sizeLine_eq, powG, ud_is_fraction, ub_is_fraction, ud_is_number, ub_is_number, funD, finD, common2 _ _ _ h, h1, hs]
  by_cases h2 : 1 ≤ b <;> simp (maxSteps := 1000000) [seqS, asgS, bindD, eS, retS, retN, ifS, trD, truth, raiseS, nxS, dropS, varD, conD, bin2, opt, R.bind, consD, nilD, tupD, lstD, calD, callD, notD, andD, orD, iteD, negD, subG, modG, mulG, fdivG, addAll, addI, addT, addP, addL, ltG, leG, gtG, geG, cmpG, eqG, neG, blO, isG, isnG, isN, ixG, ixSeq, ixTxt, asS, asL, cellL, atI, ixN, par2S, thawS, thawK, setS, setK, isTyD, kdOf, Tyb.has, eqD_int, eqD_str, stoB_cons, stoB_nil, nc, ncs, cb, cbs, isL, absG, maxG, minG, intG, lenG, lenO, listG, tupG, Option.orElse, setAll, sizeLine_eq, powG, h2, common2 _ _ _ h, h1]
  omega
theorem fof (t b : Int) (μ : Sto) (h : Ls μ) (hb : 0 < b) (k : Nat) (hk : k ≤ 8000) (b2 : Bd k b) : d_fraction_of [.int t, .int b] μ = .ok (.tup [.int (t / (Int.gcd t b : Int)), .int (b / (Int.gcd t b : Int))]) μ := by
  have h1 : ∀ n, stoB n μ = true := h
  have hs : (2 : Nat) ≤ sizeLine := by decide
  have hb0 : b ≠ 0 := by omega
  have hb1 : ¬ b < 0 := by omega
  have g0 : Int.gcd t b ≠ 0 := by
    intro e
    rw [Int.gcd_eq_zero_iff] at e
    omega
  have gle : Int.gcd t b ≤ b.natAbs := by
    have := Int.gcd_dvd_natAbs_right t b
    exact Nat.le_of_dvd (by omega) this
  have hp : ∀ i, Builtin.divisionGoesByPylong i (Int.gcd t b : Int) = false := fun i => noPy (by
    have : b.natAbs < 2 ^ 8000 := Nat.lt_of_lt_of_le b2 (Nat.pow_le_pow_right (by omega) hk)
    simp only [Int.natAbs_natCast]; omega)
  have fd : ∀ i : Int, i.fdiv (Int.gcd t b : Int) = i / (Int.gcd t b : Int) := fun i => Int.fdiv_eq_ediv_of_nonneg _ (by omega)
  simp (maxSteps := 1000000) [seqS, asgS, bindD, eS, retS, retN, ifS, trD, truth, raiseS, nxS, dropS, varD, conD, bin2, opt, R.bind, consD, nilD, tupD, lstD, calD, callD, notD, andD, orD, iteD, negD, subG, modG, mulG, fdivG, addAll, addI, addT, addP, addL, ltG, leG, gtG, geG, cmpG, eqG, neG, blO, isG, isnG, isN, ixG, ixSeq, ixTxt, asS, asL, cellL, atI, ixN, par2S, thawS, thawK, setS, setK, isTyD, kdOf, Tyb.has, eqD_int, eqD_str, stoB_cons, stoB_nil, nc, ncs, cb, cbs, isL, absG, maxG, minG, intG, lenG, lenO, listG, tupG, Option.orElse, setAll, sizeLine_eq, powG, ud_fraction_of, ub_fraction_of, funD, finD, common2 _ _ _ h, h1, hs, hb0, hb1, g0, hp, fd]

theorem ftimes {p1 q1 N1 B1 p2 q2 N2 B2 : Int} (a : Rep p1 q1 N1 B1) (b : Rep p2 q2 N2 B2) (k : Nat) (hk : k ≤ 3000) (x1 : Bd k p1) (y1 : Bd k q1) (x2 : Bd k p2) (y2 : Bd k q2) :
    ∃ p q, (∀ μ, Ls μ → d_frac_times [.tup [.int p1, .int q1], .tup [.int p2, .int q2]] μ = .ok (.tup [.int p, .int q]) μ) ∧ Rep p q (N1 * N2) (B1 * B2) ∧ Bd (2 * k + 1) p ∧ Bd (2 * k + 1) q := by
  have hs : (2 : Nat) ≤ sizeLine := by decide
  have q0 : 0 < q1 * q2 := Int.mul_pos a.q0 b.q0
  have bt := (x1.mul x2).mono (show k + k ≤ 2 * k + 1 by omega)
  have bb := (y1.mul y2).mono (show k + k ≤ 2 * k + 1 by omega)
  refine ⟨_, _, fun μ h => ?_, a.mul b (red_rep q0), red_bd bt, red_bd2 bb⟩
  have h1 : ∀ n, stoB n μ = true := h
  simp (maxSteps := 1000000) [seqS, asgS, bindD, eS, retS, retN, ifS, trD, truth, raiseS, nxS, dropS, varD, conD, bin2, opt, R.bind, consD, nilD, tupD, lstD, calD, callD, notD, andD, orD, iteD, negD, subG, modG, mulG, fdivG, addAll, addI, addT, addP, addL, ltG, leG, gtG, geG, cmpG, eqG, neG, blO, isG, isnG, isN, ixG, ixSeq, ixTxt, asS, asL, cellL, atI, ixN, par2S, thawS, thawK, setS, setK, isTyD, kdOf, Tyb.has, eqD_int, eqD_str, stoB_cons, stoB_nil, nc, ncs, cb, cbs, isL, absG, maxG, minG, intG, lenG, lenO, listG, tupG, Option.orElse, setAll, sizeLine_eq, powG, ud_frac_times, ub_frac_times, funD, finD, fof _ _ μ h q0 (2 * k + 1) (by omega) bb, h1, hs, mulOkB x1 x2 (by omega), mulOkB y1 y2 (by omega)]
theorem fsum {p1 q1 N1 B1 p2 q2 N2 B2 : Int} (a : Rep p1 q1 N1 B1) (b : Rep p2 q2 N2 B2) (k : Nat) (hk : k ≤ 3000) (x1 : Bd k p1) (y1 : Bd k q1) (x2 : Bd k p2) (y2 : Bd k q2) :
    ∃ p q, (∀ μ, Ls μ → d_frac_sum [.tup [.int p1, .int q1], .tup [.int p2, .int q2]] μ = .ok (.tup [.int p, .int q]) μ) ∧ Rep p q (N1 * B2 + N2 * B1) (B1 * B2) ∧ Bd (2 * k + 1) p ∧ Bd (2 * k + 1) q := by
  have hs : (2 : Nat) ≤ sizeLine := by decide
  have q0 : 0 < q1 * q2 := Int.mul_pos a.q0 b.q0
  have bt := ((x1.mul y2).add (x2.mul y1)).mono (show k + k + 1 ≤ 2 * k + 1 by omega)
  have bb := (y1.mul y2).mono (show k + k ≤ 2 * k + 1 by omega)
  refine ⟨_, _, fun μ h => ?_, a.add b (red_rep q0), red_bd bt, red_bd2 bb⟩
  have h1 : ∀ n, stoB n μ = true := h
  simp (maxSteps := 1000000) [seqS, asgS, bindD, eS, retS, retN, ifS, trD, truth, raiseS, nxS, dropS, varD, conD, bin2, opt, R.bind, consD, nilD, tupD, lstD, calD, callD, notD, andD, orD, iteD, negD, subG, modG, mulG, fdivG, addAll, addI, addT, addP, addL, ltG, leG, gtG, geG, cmpG, eqG, neG, blO, isG, isnG, isN, ixG, ixSeq, ixTxt, asS, asL, cellL, atI, ixN, par2S, thawS, thawK, setS, setK, isTyD, kdOf, Tyb.has, eqD_int, eqD_str, stoB_cons, stoB_nil, nc, ncs, cb, cbs, isL, absG, maxG, minG, intG, lenG, lenO, listG, tupG, Option.orElse, setAll, sizeLine_eq, powG, ud_frac_sum, ub_frac_sum, funD, finD, fof _ _ μ h q0 (2 * k + 1) (by omega) bb, h1, hs, mulOkB x1 y2 (by omega), mulOkB x2 y1 (by omega), mulOkB y1 y2 (by omega)]
theorem fless {p1 q1 N1 B1 p2 q2 N2 B2 : Int} (a : Rep p1 q1 N1 B1) (b : Rep p2 q2 N2 B2) (k : Nat) (hk : k ≤ 3000) (x1 : Bd k p1) (y1 : Bd k q1) (x2 : Bd k p2) (y2 : Bd k q2) :
    ∃ p q, (∀ μ, Ls μ → d_frac_less [.tup [.int p1, .int q1], .tup [.int p2, .int q2]] μ = .ok (.tup [.int p, .int q]) μ) ∧ Rep p q (N1 * B2 - N2 * B1) (B1 * B2) ∧ Bd (2 * k + 1) p ∧ Bd (2 * k + 1) q := by
  have hs : (2 : Nat) ≤ sizeLine := by decide
  have q0 : 0 < q1 * q2 := Int.mul_pos a.q0 b.q0
  have bt := ((x1.mul y2).sub (x2.mul y1)).mono (show k + k + 1 ≤ 2 * k + 1 by omega)
  have bb := (y1.mul y2).mono (show k + k ≤ 2 * k + 1 by omega)
  refine ⟨_, _, fun μ h => ?_, a.sub b (red_rep q0), red_bd bt, red_bd2 bb⟩
  have h1 : ∀ n, stoB n μ = true := h
  simp (maxSteps := 1000000) [seqS, asgS, bindD, eS, retS, retN, ifS, trD, truth, raiseS, nxS, dropS, varD, conD, bin2, opt, R.bind, consD, nilD, tupD, lstD, calD, callD, notD, andD, orD, iteD, negD, subG, modG, mulG, fdivG, addAll, addI, addT, addP, addL, ltG, leG, gtG, geG, cmpG, eqG, neG, blO, isG, isnG, isN, ixG, ixSeq, ixTxt, asS, asL, cellL, atI, ixN, par2S, thawS, thawK, setS, setK, isTyD, kdOf, Tyb.has, eqD_int, eqD_str, stoB_cons, stoB_nil, nc, ncs, cb, cbs, isL, absG, maxG, minG, intG, lenG, lenO, listG, tupG, Option.orElse, setAll, sizeLine_eq, powG, ud_frac_less, ub_frac_less, funD, finD, fof _ _ μ h q0 (2 * k + 1) (by omega) bb, h1, hs, mulOkB x1 y2 (by omega), mulOkB x2 y1 (by omega), mulOkB y1 y2 (by omega)]
theorem look3 (x y z : D) (bx b2 bz : Bool) (μ : Sto) (h : Ls μ) (hx : d_is_fraction [x] μ = .ok (.bl bx) μ) (hy : d_is_fraction [y] μ = .ok (.bl b2) μ) (hz : d_is_fraction [z] μ = .ok (.bl bz) μ) :
    d_look_at_numbers [.lst [x, y, z]] μ = if bx && b2 && bz then .ok .non μ else .er "NoCircle" μ := by
  have h1 : ∀ n, stoB n μ = true := h
  have lb : ∀ x0 w b, d_is_fraction [w] μ = .ok (.bl b) μ → lb0_look_at_numbers [x0, some w] μ = if b then .nx [x0, some w] μ else .er "NoCircle" [x0, some w] μ := fun x0 w b e => by
    cases b <;> simp (maxSteps := 1000000) [seqS, asgS, bindD, eS, retS, retN, ifS, trD, truth, raiseS, nxS, dropS, varD, conD, bin2, opt, R.bind, consD, nilD, tupD, lstD, calD, callD, notD, andD, orD, iteD, negD, subG, modG, mulG, fdivG, addAll, addI, addT, addP, addL, ltG, leG, gtG, geG, cmpG, eqG, neG, blO, isG, isnG, isN, ixG, ixSeq, ixTxt, asS, asL, cellL, atI, ixN, par2S, thawS, thawK, setS, setK, isTyD, kdOf, Tyb.has, eqD_int, eqD_str, stoB_cons, stoB_nil, nc, ncs, cb, cbs, isL, absG, maxG, minG, intG, lenG, lenO, listG, tupG, Option.orElse, setAll, sizeLine_eq, powG, u_lb0_look_at_numbers, e]
  cases bx <;> cases b2 <;> cases bz <;> simp (maxSteps := 1000000) [seqS, asgS, bindD, eS, retS, retN, ifS, trD, truth, raiseS, nxS, dropS, varD, conD, bin2, opt, R.bind, consD, nilD, tupD, lstD, calD, callD, notD, andD, orD, iteD, negD, subG, modG, mulG, fdivG, addAll, addI, addT, addP, addL, ltG, leG, gtG, geG, cmpG, eqG, neG, blO, isG, isnG, isN, ixG, ixSeq, ixTxt, asS, asL, cellL, atI, ixN, par2S, thawS, thawK, setS, setK, isTyD, kdOf, Tyb.has, eqD_int, eqD_str, stoB_cons, stoB_nil, nc, ncs, cb, cbs, isL, absG, maxG, minG, intG, lenG, lenO, listG, tupG, Option.orElse, setAll, sizeLine_eq, powG, ud_look_at_numbers, ub_look_at_numbers, funD, finD, forS, forL, seqI, guardOf, h1, limE, lb _ _ _ hx, lb _ _ _ hy, lb _ _ _ hz]

end K60

namespace K60
open PySem PySem.Spec L2 RS
theorem whl_frac (x0 x1 : Option D) (μ : Sto) : ∀ (k o r : Nat), o < k → whileL lt0__law_frac lb0__law_frac k [x0, x1, some (.int o), some (.int r)] μ = .nx [x0, x1, some (.int 0), some (.int (Nat.gcd o r))] μ
  | 0, o, r, h => by omega
  | k + 1, o, r, h => by
    by_cases hr : o = 0
    · subst hr
      simp (maxSteps := 1000000) [seqS, asgS, bindD, eS, retS, retN, ifS, trD, truth, raiseS, nxS, dropS, varD, conD, bin2, opt, R.bind, consD, nilD, tupD, lstD, calD, callD, notD, andD, orD, iteD, negD, subG, modG, mulG, fdivG, addAll, addI, addT, addP, addL, ltG, leG, gtG, geG, cmpG, eqG, neG, blO, isG, isnG, isN, ixG, ixSeq, ixTxt, asS, asL, cellL, atI, ixN, par2S, thawS, thawK, setS, setK, isTyD, kdOf, Tyb.has, eqD_int, eqD_str, stoB_cons, stoB_nil, nc, ncs, cb, cbs, isL, absG, maxG, minG, intG, lenG, lenO, listG, tupG, Option.orElse, setAll, sizeLine_eq, powG, whileL, u_lt0__law_frac]
    · have ih := whl_frac x0 x1 μ k (r % o) o (by have := Nat.mod_lt r (Nat.pos_of_ne_zero hr); omega)
      rw [← Nat.gcd_rec, Int.natCast_emod] at ih
      simp (maxSteps := 1000000) [seqS, asgS, bindD, eS, retS, retN, ifS, trD, truth, raiseS, nxS, dropS, varD, conD, bin2, opt, R.bind, consD, nilD, tupD, lstD, calD, callD, notD, andD, orD, iteD, negD, subG, modG, mulG, fdivG, addAll, addI, addT, addP, addL, ltG, leG, gtG, geG, cmpG, eqG, neG, blO, isG, isnG, isN, ixG, ixSeq, ixTxt, asS, asL, cellL, atI, ixN, par2S, thawS, thawK, setS, setK, isTyD, kdOf, Tyb.has, eqD_int, eqD_str, stoB_cons, stoB_nil, nc, ncs, cb, cbs, isL, absG, maxG, minG, intG, lenG, lenO, listG, tupG, Option.orElse, setAll, sizeLine_eq, powG, whileL, u_lt0__law_frac, u_lb0__law_frac, hr, fmod_nat, Int.natCast_emod, ih]
theorem lfrac (t b : Int) (hb : 0 < b) (k : Nat) (hk : k ≤ 8000) (b2 : Bd k b) (μ : Sto) (h : Ls μ) : d__law_frac [.int t, .int b] μ = .ok (.tup [.int (t / (Int.gcd t b : Int)), .int (b / (Int.gcd t b : Int))]) μ := by
  have h1 : ∀ n, stoB n μ = true := h
  have g0 : Int.gcd t b ≠ 0 := by
    intro e
    rw [Int.gcd_eq_zero_iff] at e
    omega
  have gle : Int.gcd t b ≤ b.natAbs := by
    have := Int.gcd_dvd_natAbs_right t b
    exact Nat.le_of_dvd (by omega) this
  have hp : ∀ i, Builtin.divisionGoesByPylong i (Int.gcd t b : Int) = false := fun i => noPy (by
    have : b.natAbs < 2 ^ 8000 := Nat.lt_of_lt_of_le b2 (Nat.pow_le_pow_right (by omega) hk)
    simp only [Int.natAbs_natCast]; omega)
  have fd : ∀ i : Int, i.fdiv (Int.gcd t b : Int) = i / (Int.gcd t b : Int) := fun i => Int.fdiv_eq_ediv_of_nonneg _ (by omega)
  obtain ⟨n, rfl⟩ : ∃ n : Nat, b = n := ⟨b.toNat, by omega⟩
  have e := whl_frac (some (.int t)) (some (.int n)) μ (msA [some (.int t), some (.int n), some (.int t.natAbs), some (.int n)] μ) t.natAbs n (by simp [msA]; omega)
  have eg : Nat.gcd t.natAbs n = Int.gcd t n := rfl
  rw [eg] at e
  simp (maxSteps := 1000000) [seqS, asgS, bindD, eS, retS, retN, ifS, trD, truth, raiseS, nxS, dropS, varD, conD, bin2, opt, R.bind, consD, nilD, tupD, lstD, calD, callD, notD, andD, orD, iteD, negD, subG, modG, mulG, fdivG, addAll, addI, addT, addP, addL, ltG, leG, gtG, geG, cmpG, eqG, neG, blO, isG, isnG, isN, ixG, ixSeq, ixTxt, asS, asL, cellL, atI, ixN, par2S, thawS, thawK, setS, setK, isTyD, kdOf, Tyb.has, eqD_int, eqD_str, stoB_cons, stoB_nil, nc, ncs, cb, cbs, isL, absG, maxG, minG, intG, lenG, lenO, listG, tupG, Option.orElse, setAll, sizeLine_eq, powG, ud__law_frac, ub__law_frac, funD, finD, whileS, abs_nat, e, g0, hp, fd, h1]
/-- a good fraction -/
structure Good (k : Nat) (a b : Int) : Prop where
  r : Rep a b a b
  xa : Bd k a
  xb : Bd k b
theorem lfrac_good {t b : Int} (hb : 0 < b) {k : Nat} (hk : k ≤ 8000) (x : Bd k t) (b2 : Bd k b) (h1 : 1 ≤ t) : ∃ p q, (∀ μ, Ls μ → d__law_frac [.int t, .int b] μ = .ok (.tup [.int p, .int q]) μ) ∧ Good k p q ∧ 1 ≤ p := by
  have r := red_rep (t := t) hb
  refine ⟨_, _, fun μ h => lfrac t b hb k hk b2 μ h, ⟨Rep.self r.q0 r.g, red_bd x, red_bd2 b2⟩, ?_⟩
  have e := r.e
  have q0 := r.q0
  generalize t / (Int.gcd t b : Int) = p at *
  generalize b / (Int.gcd t b : Int) = q at *
  have : 0 < p * b := by rw [e]; exact Int.mul_pos (by omega) q0
  rcases Int.lt_or_le 0 p with h | h
  · omega
  · have := Int.mul_nonpos_of_nonpos_of_nonneg h (Int.le_of_lt hb)
    omega
end K60

namespace K60
open PySem PySem.Spec L2 RS
def PInv (cs : List Int) (k : Nat) (env : Vs) (μ : Sto) : Prop := ∃ (x0 x3 x4 : Option D) (m : Int), env = [x0, some (.lst (cs.map .int)), some (.int m), x3, x4] ∧ μ = [] ∧ Bd (32 * k + 40) m
theorem fmod_bd {x : Int} {m : Int} (h : 0 < m) (l : m < 2 ^ 31) : Bd 31 (x.fmod m) := by
  have := Int.fmod_nonneg_of_pos x h
  have := Int.fmod_lt_of_pos x h
  unfold Bd; omega
theorem ix_ok (cs : List Int) (k : Nat) (hc : 0 < cs.length) (x0 x2 x4 : Option D) (hl : cs.length ≤ 64) : ∃ c : Int, bin2 ixG (varD 1) (bin2 modG (varD 3) (calD lenG (consD (varD 1) nilD))) [x0, some (.lst (cs.map .int)), x2, some (.int k), x4] [] = .ok (.int c) [] := by
  have hj : k % cs.length < cs.length := Nat.mod_lt _ hc
  refine ⟨cs[k % cs.length], ?_⟩
  have n0 : (cs.length : Int) ≠ 0 := by omega
  have n1 : ¬ cs = [] := by intro z; rw [z] at hc; simp at hc
  have a1 : (0 : Int) ≤ ((k % cs.length : Nat) : Int) := by omega
  have a2 : ((k % cs.length : Nat) : Int) < (cs.length : Int) := by omega
  have e1 : bin2 modG (varD 3) (calD lenG (consD (varD 1) nilD)) [x0, some (.lst (cs.map .int)), x2, some (.int k), x4] [] = .ok (.int ((k % cs.length : Nat) : Int)) [] := by
    simp (maxSteps := 1000000) [seqS, asgS, bindD, eS, retS, retN, ifS, trD, truth, raiseS, nxS, dropS, varD, conD, bin2, opt, R.bind, consD, nilD, tupD, lstD, calD, callD, notD, andD, orD, iteD, negD, subG, modG, mulG, fdivG, addAll, addI, addT, addP, addL, ltG, leG, gtG, geG, cmpG, eqG, neG, blO, isG, isnG, isN, ixG, ixSeq, ixTxt, asS, asL, cellL, atI, ixN, par2S, thawS, thawK, setS, setK, isTyD, kdOf, Tyb.has, eqD_int, eqD_str, stoB_cons, stoB_nil, nc, ncs, cb, cbs, isL, absG, maxG, minG, intG, lenG, lenO, listG, tupG, Option.orElse, setAll, sizeLine_eq, powG, n0, n1, fmod_nat]
  have e2 : ixG [] (.lst (cs.map .int)) (.int ((k % cs.length : Nat) : Int)) = some (.int cs[k % cs.length]) := by
    simp only [ixG, ixSeq, asS, L2.atI, L2.ixN, List.length_map, a1, a2, if_true, Int.toNat_natCast]
    simp [hj]
  exact bin2_ok rfl e1 e2
theorem pstep (cs : List Int) (hc : 0 < cs.length) (hl : cs.length ≤ 64) (k : Nat) (hk : k < 160) (x0 x4 : Option D) (m : Int) (hm : Bd (32 * k + 40) m) : ∃ n m', lb0__law_purse [x0, some (.lst (cs.map .int)), some (.int m), some (.int k), x4] [] = .nx [x0, some (.lst (cs.map .int)), some (.int m'), some (.int k), some (.int n)] [] ∧ Bd (32 * (k + 1) + 40) m' := by
  obtain ⟨c, hix⟩ := ix_ok cs k hc x0 (some (.int m)) x4 hl
  have bk : Bd 8 (k : Int) := by unfold Bd; omega
  have c1 : Bd 17 48271 := by unfold Bd; decide
  have c2 : Bd 17 69621 := by unfold Bd; decide
  have c3 : Bd 31 2147483587 := by unfold Bd; decide
  obtain ⟨n, hn⟩ : ∃ n, n = (c + 48271 * (k : Int) + 7).fmod 2147483629 := ⟨_, rfl⟩
  have bn : Bd 31 n := by rw [hn]; exact fmod_bd (by decide) (by decide)
  obtain ⟨n2, hn2⟩ : ∃ n2, n2 = (n * n + 69621 * (k : Int)).fmod 2147483587 := ⟨_, rfl⟩
  have bn2 : Bd 31 n2 := by rw [hn2]; exact fmod_bd (by decide) (by decide)
  have b3 : Bd 31 ((n2 * n2).fmod 2147483563) := fmod_bd (by decide) (by decide)
  have h0 : s0__law_purse_b0 [x0, some (.lst (cs.map .int)), some (.int m), some (.int k), x4] [] = .nx [x0, some (.lst (cs.map .int)), some (.int m), some (.int k), some (.int n)] [] := by
    simp (maxSteps := 1000000) [seqS, asgS, bindD, eS, retS, retN, ifS, trD, truth, raiseS, nxS, dropS, varD, conD, bin2, opt, R.bind, consD, nilD, tupD, lstD, calD, callD, notD, andD, orD, iteD, negD, subG, modG, mulG, fdivG, addAll, addI, addT, addP, addL, ltG, leG, gtG, geG, cmpG, eqG, neG, blO, isG, isnG, isN, ixG, ixSeq, ixTxt, asS, asL, cellL, atI, ixN, par2S, thawS, thawK, setS, setK, isTyD, kdOf, Tyb.has, eqD_int, eqD_str, stoB_cons, stoB_nil, nc, ncs, cb, cbs, isL, absG, maxG, minG, intG, lenG, lenO, listG, tupG, Option.orElse, setAll, sizeLine_eq, powG, u_s0__law_purse_b0, ↓hix, mulOkB c1 bk (by omega), hn]
  have h1 : s1__law_purse_b0 [x0, some (.lst (cs.map .int)), some (.int m), some (.int k), some (.int n)] [] = .nx [x0, some (.lst (cs.map .int)), some (.int m), some (.int k), some (.int n2)] [] := by
    simp (maxSteps := 1000000) [seqS, asgS, bindD, eS, retS, retN, ifS, trD, truth, raiseS, nxS, dropS, varD, conD, bin2, opt, R.bind, consD, nilD, tupD, lstD, calD, callD, notD, andD, orD, iteD, negD, subG, modG, mulG, fdivG, addAll, addI, addT, addP, addL, ltG, leG, gtG, geG, cmpG, eqG, neG, blO, isG, isnG, isN, ixG, ixSeq, ixTxt, asS, asL, cellL, atI, ixN, par2S, thawS, thawK, setS, setK, isTyD, kdOf, Tyb.has, eqD_int, eqD_str, stoB_cons, stoB_nil, nc, ncs, cb, cbs, isL, absG, maxG, minG, intG, lenG, lenO, listG, tupG, Option.orElse, setAll, sizeLine_eq, powG, u_s1__law_purse_b0, mulOkB bn bn (by omega), mulOkB c2 bk (by omega), hn2]
  have h2 : s2__law_purse_b0 [x0, some (.lst (cs.map .int)), some (.int m), some (.int k), some (.int n2)] [] = .nx [x0, some (.lst (cs.map .int)), some (.int (m * 2147483587 + (n2 * n2).fmod 2147483563)), some (.int k), some (.int n2)] [] := by
    simp (maxSteps := 1000000) [seqS, asgS, bindD, eS, retS, retN, ifS, trD, truth, raiseS, nxS, dropS, varD, conD, bin2, opt, R.bind, consD, nilD, tupD, lstD, calD, callD, notD, andD, orD, iteD, negD, subG, modG, mulG, fdivG, addAll, addI, addT, addP, addL, ltG, leG, gtG, geG, cmpG, eqG, neG, blO, isG, isnG, isN, ixG, ixSeq, ixTxt, asS, asL, cellL, atI, ixN, par2S, thawS, thawK, setS, setK, isTyD, kdOf, Tyb.has, eqD_int, eqD_str, stoB_cons, stoB_nil, nc, ncs, cb, cbs, isL, absG, maxG, minG, intG, lenG, lenO, listG, tupG, Option.orElse, setAll, sizeLine_eq, powG, u_s2__law_purse_b0, mulOkB bn2 bn2 (by omega), mulOkB hm c3 (by omega)]
  refine ⟨n2, m * 2147483587 + (n2 * n2).fmod 2147483563, ?_, ?_⟩
  · rw [v_lb0__law_purse, u_r0__law_purse_b0, seq_nx h0, u_r1__law_purse_b0, seq_nx h1, u_r2__law_purse_b0, seq_nx h2]; rfl
  · exact (Bd.add (hm.mul c3) (b3.mono (by omega))).mono (by omega)
theorem purse_ok (ns : List Int) (hn : ns.length ≤ 63) : ∃ a b, d__law_purse [.lst (ns.map .int)] [] = .ok (.lst [.int a, .int b]) [] := by
  have hs : stoB 0 ([] : Sto) = true := rfl
  obtain ⟨cs, hcs⟩ : ∃ cs : List Int, cs = ns ++ [(ns.length : Int)] := ⟨_, rfl⟩
  have hc : 0 < cs.length := by rw [hcs]; simp
  have hl : cs.length ≤ 64 := by rw [hcs]; simp; omega
  have ce := cut63 (ns.map .int) (by simpa using hn)
  have h0 : s0__law_purse [some (.lst (ns.map .int)), none, none, none, none] [] = .nx [some (.lst (ns.map .int)), some (.lst (cs.map .int)), none, none, none] [] := by
    have e : ns.length ≤ 16777215 := by omega
    simp (maxSteps := 1000000) [seqS, asgS, bindD, eS, retS, retN, ifS, trD, truth, raiseS, nxS, dropS, varD, conD, bin2, opt, R.bind, consD, nilD, tupD, lstD, calD, callD, notD, andD, orD, iteD, negD, subG, modG, mulG, fdivG, addAll, addI, addT, addP, addL, ltG, leG, gtG, geG, cmpG, eqG, neG, blO, isG, isnG, isN, ixG, ixSeq, ixTxt, asS, asL, cellL, atI, ixN, par2S, thawS, thawK, setS, setK, isTyD, kdOf, Tyb.has, eqD_int, eqD_str, stoB_cons, stoB_nil, nc, ncs, cb, cbs, isL, absG, maxG, minG, intG, lenG, lenO, listG, tupG, Option.orElse, setAll, sizeLine_eq, powG, u_s0__law_purse, slcD, slE, optD, ce, hcs, e]
  have h1 : s1__law_purse [some (.lst (ns.map .int)), some (.lst (cs.map .int)), none, none, none] [] = .nx [some (.lst (ns.map .int)), some (.lst (cs.map .int)), some (.int 1), none, none] [] := by
    simp (maxSteps := 1000000) [seqS, asgS, bindD, eS, retS, retN, ifS, trD, truth, raiseS, nxS, dropS, varD, conD, bin2, opt, R.bind, consD, nilD, tupD, lstD, calD, callD, notD, andD, orD, iteD, negD, subG, modG, mulG, fdivG, addAll, addI, addT, addP, addL, ltG, leG, gtG, geG, cmpG, eqG, neG, blO, isG, isnG, isN, ixG, ixSeq, ixTxt, asS, asL, cellL, atI, ixN, par2S, thawS, thawK, setS, setK, isTyD, kdOf, Tyb.has, eqD_int, eqD_str, stoB_cons, stoB_nil, nc, ncs, cb, cbs, isL, absG, maxG, minG, intG, lenG, lenO, listG, tupG, Option.orElse, setAll, sizeLine_eq, powG, u_s1__law_purse]
  have hstep : ∀ (k : Nat) (x : D) (env : Vs) (μ : Sto), (rngL 0 160)[k]? = some x → PInv cs (0 + k) env μ → ∃ e1 e2 μ2, bindD μ (.one 3) x env = some e1 ∧ lb0__law_purse e1 μ = .nx e2 μ2 ∧ (fun _ => true) (μ2.take 0) = true ∧ stoB 0 (μ2.take 0) = true ∧ PInv cs (0 + k + 1) (limE 0 e2) (μ2.take 0) := by
    intro k x env μ hk hi
    obtain ⟨x0, x3, x4, m, rfl, rfl, bm⟩ := hi
    obtain ⟨hk2, rfl⟩ := rngL_get hk
    obtain ⟨n, m', e, bm'⟩ := pstep cs hc hl k hk2 x0 x4 m (bm.mono (by omega))
    have z : (0 : Int) + (k : Int) = k := by omega
    rw [z]
    refine ⟨[x0, some (.lst (cs.map .int)), some (.int m), some (.int k), x4], _, [], rfl, e, rfl, rfl, ?_⟩
    have hl : limE 0 [x0, some (.lst (cs.map .int)), some (.int m'), some (.int k), some (.int n)] = [lim1 0 x0, some (.lst (cs.map .int)), some (.int m'), some (.int k), some (.int n)] := by
      simp only [limE_cons, limE_nil]
      rw [lim1_of (d := .lst (cs.map .int)) (cb_ints 0 cs)]
      rfl
    exact ⟨_, _, _, m', hl, rfl, bm'.mono (by omega)⟩
  obtain ⟨env', μ', hf, x0, x3, x4, m, rfl, rfl, bm⟩ := forL_ix (ok := fun _ => true) (n := 0) (tg := .one 3) (body := lb0__law_purse) (PInv cs) (rngL 0 160) 0 [some (.lst (ns.map .int)), some (.lst (cs.map .int)), some (.int 1), none, none] [] ⟨_, _, _, _, rfl, rfl, by unfold Bd; decide⟩ hstep
  have h2 : s2__law_purse [some (.lst (ns.map .int)), some (.lst (cs.map .int)), some (.int 1), none, none] [] = .nx [x0, some (.lst (cs.map .int)), some (.int m), x3, x4] [] := by
    simp (maxSteps := 1000000) [seqS, asgS, bindD, eS, retS, retN, ifS, trD, truth, raiseS, nxS, dropS, varD, conD, bin2, opt, R.bind, consD, nilD, tupD, lstD, calD, callD, notD, andD, orD, iteD, negD, subG, modG, mulG, fdivG, addAll, addI, addT, addP, addL, ltG, leG, gtG, geG, cmpG, eqG, neG, blO, isG, isnG, isN, ixG, ixSeq, ixTxt, asS, asL, cellL, atI, ixN, par2S, thawS, thawK, setS, setK, isTyD, kdOf, Tyb.has, eqD_int, eqD_str, stoB_cons, stoB_nil, nc, ncs, cb, cbs, isL, absG, maxG, minG, intG, lenG, lenO, listG, tupG, Option.orElse, setAll, sizeLine_eq, powG, u_s2__law_purse, forS, rng1I]
    exact hf
  obtain ⟨c0, rest, hcr⟩ : ∃ c0 rest, cs = c0 :: rest := by
    cases cs with
    | nil => simp at hc
    | cons c r => exact ⟨c, r, rfl⟩
  have start : db__law_purse [some (.lst (ns.map .int)), none, none, none, none] [] = r3__law_purse [x0, some (.lst (cs.map .int)), some (.int m), x3, x4] [] := by
    rw [uv__law_purse, u_r0__law_purse, seq_nx h0, u_r1__law_purse, seq_nx h1, u_r2__law_purse, seq_nx h2]
  subst hcr
  have e0 : bin2 ixG (varD 1) (conD (.int 0)) [x0, some (.lst ((c0 :: rest).map .int)), some (.int m), x3, x4] [] = .ok (.int c0) [] := bin2_ok rfl rfl (by simp [ixG, ixSeq, asS, L2.atI, L2.ixN])
  by_cases hb : 1000000000000000000 ≤ c0
  · have h3 : s3__law_purse [x0, some (.lst ((c0 :: rest).map .int)), some (.int m), x3, x4] [] = .rt (.lst [.int (c0 - 1000000000000000000), .int m]) true [] := by
      simp (maxSteps := 1000000) [seqS, asgS, bindD, eS, retS, retN, ifS, trD, truth, raiseS, nxS, dropS, varD, conD, bin2, opt, R.bind, consD, nilD, tupD, lstD, calD, callD, notD, andD, orD, iteD, negD, subG, modG, mulG, fdivG, addAll, addI, addT, addP, addL, ltG, leG, gtG, geG, cmpG, eqG, neG, blO, isG, isnG, isN, ixG, ixSeq, ixTxt, asS, asL, cellL, atI, ixN, par2S, thawS, thawK, setS, setK, isTyD, kdOf, Tyb.has, eqD_int, eqD_str, stoB_cons, stoB_nil, nc, ncs, cb, cbs, isL, absG, maxG, minG, intG, lenG, lenO, listG, tupG, Option.orElse, setAll, sizeLine_eq, powG, u_s3__law_purse, ↓e0, hb]
    have fin := start.trans (by rw [u_r3__law_purse, seq_rt h3])
    exact ⟨_, _, by simp (maxSteps := 1000000) [seqS, asgS, bindD, eS, retS, retN, ifS, trD, truth, raiseS, nxS, dropS, varD, conD, bin2, opt, R.bind, consD, nilD, tupD, lstD, calD, callD, notD, andD, orD, iteD, negD, subG, modG, mulG, fdivG, addAll, addI, addT, addP, addL, ltG, leG, gtG, geG, cmpG, eqG, neG, blO, isG, isnG, isN, ixG, ixSeq, ixTxt, asS, asL, cellL, atI, ixN, par2S, thawS, thawK, setS, setK, isTyD, kdOf, Tyb.has, eqD_int, eqD_str, stoB_cons, stoB_nil, nc, ncs, cb, cbs, isL, absG, maxG, minG, intG, lenG, lenO, listG, tupG, Option.orElse, setAll, sizeLine_eq, powG, ud__law_purse, funD, finD, fin]; exact ⟨rfl, rfl⟩⟩
  · have h3 : s3__law_purse [x0, some (.lst ((c0 :: rest).map .int)), some (.int m), x3, x4] [] = .nx [x0, some (.lst ((c0 :: rest).map .int)), some (.int m), x3, x4] [] := by
      simp (maxSteps := 1000000) [seqS, asgS, bindD, eS, retS, retN, ifS, trD, truth, raiseS, nxS, dropS, varD, conD, bin2, opt, R.bind, consD, nilD, tupD, lstD, calD, callD, notD, andD, orD, iteD, negD, subG, modG, mulG, fdivG, addAll, addI, addT, addP, addL, ltG, leG, gtG, geG, cmpG, eqG, neG, blO, isG, isnG, isN, ixG, ixSeq, ixTxt, asS, asL, cellL, atI, ixN, par2S, thawS, thawK, setS, setK, isTyD, kdOf, Tyb.has, eqD_int, eqD_str, stoB_cons, stoB_nil, nc, ncs, cb, cbs, isL, absG, maxG, minG, intG, lenG, lenO, listG, tupG, Option.orElse, setAll, sizeLine_eq, powG, u_s3__law_purse, ↓e0, hb]
    have h4 : s4__law_purse [x0, some (.lst ((c0 :: rest).map .int)), some (.int m), x3, x4] [] = .rt (.lst [.int 0, .int m]) true [] := by
      simp (maxSteps := 1000000) [seqS, asgS, bindD, eS, retS, retN, ifS, trD, truth, raiseS, nxS, dropS, varD, conD, bin2, opt, R.bind, consD, nilD, tupD, lstD, calD, callD, notD, andD, orD, iteD, negD, subG, modG, mulG, fdivG, addAll, addI, addT, addP, addL, ltG, leG, gtG, geG, cmpG, eqG, neG, blO, isG, isnG, isN, ixG, ixSeq, ixTxt, asS, asL, cellL, atI, ixN, par2S, thawS, thawK, setS, setK, isTyD, kdOf, Tyb.has, eqD_int, eqD_str, stoB_cons, stoB_nil, nc, ncs, cb, cbs, isL, absG, maxG, minG, intG, lenG, lenO, listG, tupG, Option.orElse, setAll, sizeLine_eq, powG, u_s4__law_purse]
    have fin := start.trans (by rw [u_r3__law_purse, seq_nx h3, u_r4__law_purse, seq_rt h4])
    exact ⟨_, _, by simp (maxSteps := 1000000) [seqS, asgS, bindD, eS, retS, retN, ifS, trD, truth, raiseS, nxS, dropS, varD, conD, bin2, opt, R.bind, consD, nilD, tupD, lstD, calD, callD, notD, andD, orD, iteD, negD, subG, modG, mulG, fdivG, addAll, addI, addT, addP, addL, ltG, leG, gtG, geG, cmpG, eqG, neG, blO, isG, isnG, isN, ixG, ixSeq, ixTxt, asS, asL, cellL, atI, ixN, par2S, thawS, thawK, setS, setK, isTyD, kdOf, Tyb.has, eqD_int, eqD_str, stoB_cons, stoB_nil, nc, ncs, cb, cbs, isL, absG, maxG, minG, intG, lenG, lenO, listG, tupG, Option.orElse, setAll, sizeLine_eq, powG, ud__law_purse, funD, finD, fin]; exact ⟨rfl, rfl⟩⟩
end K60

namespace K60
open PySem PySem.Spec L2 RS
theorem forL_common (μ : Sto) (h : Ls μ) : ∀ (ns : List Int) (f : Nat) (x0 x2 x3 : Option D), ∃ y0 y2 y3, forL (fun _ => true) μ.length (.one 2) lb1_common_of (ns.map .int) [x0, some (.int f), x2, x3] μ = .nx [y0, some (.int (gL f ns)), y2, y3] μ
  | [], f, x0, x2, x3 => ⟨x0, x2, x3, rfl⟩
  | n :: ns, f, x0, x2, x3 => by
    obtain ⟨y0, y2, y3, e⟩ := forL_common μ h ns (Nat.gcd f n.natAbs) (lim1 μ.length x0) (some (.int n)) (some (.int 0))
    refine ⟨y0, y2, y3, ?_⟩
    have h1 := h μ.length
    have hb : bindD μ (.one 2) (.int n) [x0, some (.int f), x2, x3] = some [x0, some (.int f), some (.int n), x3] := rfl
    simp only [List.map_cons, forL, hb, lb1_ok, List.take_length, h1, Bool.and_self, if_true]
    exact e
theorem common_tup (ns : List Int) (μ : Sto) (h : Ls μ) : d_common_of [.tup (ns.map .int)] μ = .ok (.int (gL 0 ns)) μ := by
  obtain ⟨y0, y2, y3, e⟩ := forL_common μ h ns 0 (some (.tup (ns.map .int))) none none
  have h1 : ∀ n, stoB n μ = true := h
  have s0 : s0_common_of [some (.tup (ns.map .int)), none, none, none] μ = .nx [some (.tup (ns.map .int)), some (.int (0 : Nat)), none, none] μ := rfl
  have s1 : s1_common_of [some (.tup (ns.map .int)), some (.int (0 : Nat)), none, none] μ = .nx [y0, some (.int (gL 0 ns)), y2, y3] μ := e
  have s2 : s2_common_of [y0, some (.int (gL 0 ns)), y2, y3] μ = .rt (.int (gL 0 ns)) false μ := rfl
  have fin : db_common_of [some (.tup (ns.map .int)), none, none, none] μ = .rt (.int (gL 0 ns)) false μ := by
    rw [uv_common_of, u_r0_common_of, seq_nx s0, u_r1_common_of, seq_nx s1, u_r2_common_of, seq_rt s2]
  simp (maxSteps := 1000000) [seqS, asgS, bindD, eS, retS, retN, ifS, trD, truth, raiseS, nxS, dropS, varD, conD, bin2, opt, R.bind, consD, nilD, tupD, lstD, calD, callD, notD, andD, orD, iteD, negD, subG, modG, mulG, fdivG, addAll, addI, addT, addP, addL, ltG, leG, gtG, geG, cmpG, eqG, neG, blO, isG, isnG, isN, ixG, ixSeq, ixTxt, asS, asL, cellL, atI, ixN, par2S, thawS, thawK, setS, setK, isTyD, kdOf, Tyb.has, eqD_int, eqD_str, stoB_cons, stoB_nil, nc, ncs, cb, cbs, isL, absG, maxG, minG, intG, lenG, lenO, listG, tupG, Option.orElse, setAll, sizeLine_eq, powG, ud_common_of, funD, finD, fin, h1]
theorem fmod_lt_abs (f r : Int) (hr : r ≠ 0) : (f.fmod r).natAbs < r.natAbs := by
  rw [Int.fmod_eq_emod]
  have h1 := Int.emod_nonneg f hr
  have h2 := Int.emod_lt f hr
  split
  · omega
  · rename_i h
    have : f % r ≠ 0 := fun z => h (.inr (Int.dvd_of_emod_eq_zero z))
    omega
theorem gcd_fmod (f r : Int) : Int.gcd r (f.fmod r) = Int.gcd f r := by
  rw [Int.fmod_def, Int.gcd_sub_mul_left_right, Int.gcd_comm]
theorem whl_common (x0 : Option D) (μ : Sto) : ∀ (k : Nat) (f r : Int), r.natAbs < k → ∃ f' : Int, whileL lt0__law_common lb0__law_common k [x0, some (.int f), some (.int r)] μ = .nx [x0, some (.int f'), some (.int 0)] μ ∧ f'.natAbs = Int.gcd f r
  | 0, f, r, h => by omega
  | k + 1, f, r, h => by
    by_cases hr : r = 0
    · subst hr
      exact ⟨f, by simp (maxSteps := 1000000) [seqS, asgS, bindD, eS, retS, retN, ifS, trD, truth, raiseS, nxS, dropS, varD, conD, bin2, opt, R.bind, consD, nilD, tupD, lstD, calD, callD, notD, andD, orD, iteD, negD, subG, modG, mulG, fdivG, addAll, addI, addT, addP, addL, ltG, leG, gtG, geG, cmpG, eqG, neG, blO, isG, isnG, isN, ixG, ixSeq, ixTxt, asS, asL, cellL, atI, ixN, par2S, thawS, thawK, setS, setK, isTyD, kdOf, Tyb.has, eqD_int, eqD_str, stoB_cons, stoB_nil, nc, ncs, cb, cbs, isL, absG, maxG, minG, intG, lenG, lenO, listG, tupG, Option.orElse, setAll, sizeLine_eq, powG, whileL, u_lt0__law_common], by simp⟩
    · have l := fmod_lt_abs f r hr
      obtain ⟨f', e, g⟩ := whl_common x0 μ k r (f.fmod r) (by omega)
      rw [gcd_fmod] at g
      exact ⟨f', by simp (maxSteps := 1000000) [seqS, asgS, bindD, eS, retS, retN, ifS, trD, truth, raiseS, nxS, dropS, varD, conD, bin2, opt, R.bind, consD, nilD, tupD, lstD, calD, callD, notD, andD, orD, iteD, negD, subG, modG, mulG, fdivG, addAll, addI, addT, addP, addL, ltG, leG, gtG, geG, cmpG, eqG, neG, blO, isG, isnG, isN, ixG, ixSeq, ixTxt, asS, asL, cellL, atI, ixN, par2S, thawS, thawK, setS, setK, isTyD, kdOf, Tyb.has, eqD_int, eqD_str, stoB_cons, stoB_nil, nc, ncs, cb, cbs, isL, absG, maxG, minG, intG, lenG, lenO, listG, tupG, Option.orElse, setAll, sizeLine_eq, powG, whileL, u_lt0__law_common, u_lb0__law_common, hr, e], g⟩
theorem forL_lcommon (μ : Sto) (h : Ls μ) : ∀ (ns : List Int) (f : Int) (x0 x2 : Option D), ∃ y0 y2, ∃ f' : Int, forL (fun _ => true) μ.length (.one 2) lb1__law_common (ns.map .int) [x0, some (.int f), x2] μ = .nx [y0, some (.int f'), y2] μ ∧ f'.natAbs = gL f.natAbs ns
  | [], f, x0, x2 => ⟨x0, x2, f, rfl, rfl⟩
  | n :: ns, f, x0, x2 => by
    obtain ⟨g, e1, e2⟩ := whl_common x0 μ (msA [x0, some (.int f), some (.int n)] μ) f n (by simp [msA]; omega)
    obtain ⟨y0, y2, f', e, g'⟩ := forL_lcommon μ h ns g (lim1 μ.length x0) (some (.int 0))
    refine ⟨y0, y2, f', ?_, ?_⟩
    · have h1 := h μ.length
      have hb : bindD μ (.one 2) (.int n) [x0, some (.int f), x2] = some [x0, some (.int f), some (.int n)] := rfl
      have lb : lb1__law_common [x0, some (.int f), some (.int n)] μ = .nx [x0, some (.int g), some (.int 0)] μ := by
        simp (maxSteps := 1000000) [seqS, asgS, bindD, eS, retS, retN, ifS, trD, truth, raiseS, nxS, dropS, varD, conD, bin2, opt, R.bind, consD, nilD, tupD, lstD, calD, callD, notD, andD, orD, iteD, negD, subG, modG, mulG, fdivG, addAll, addI, addT, addP, addL, ltG, leG, gtG, geG, cmpG, eqG, neG, blO, isG, isnG, isN, ixG, ixSeq, ixTxt, asS, asL, cellL, atI, ixN, par2S, thawS, thawK, setS, setK, isTyD, kdOf, Tyb.has, eqD_int, eqD_str, stoB_cons, stoB_nil, nc, ncs, cb, cbs, isL, absG, maxG, minG, intG, lenG, lenO, listG, tupG, Option.orElse, setAll, sizeLine_eq, powG, u_lb1__law_common, whileS, e1]
      simp only [List.map_cons, forL, hb, lb, List.take_length, h1, Bool.and_self, if_true]
      exact e
    · rw [g', gL, e2]; rfl
theorem lcommon (ns : List Int) (μ : Sto) (h : Ls μ) : d__law_common [.lst (ns.map .int)] μ = .ok (.int (gL 0 ns)) μ := by
  obtain ⟨y0, y2, f', e, g⟩ := forL_lcommon μ h ns 0 (some (.lst (ns.map .int))) none
  have h1 : ∀ n, stoB n μ = true := h
  have s0 : s0__law_common [some (.lst (ns.map .int)), none, none] μ = .nx [some (.lst (ns.map .int)), some (.int 0), none] μ := rfl
  have s1 : s1__law_common [some (.lst (ns.map .int)), some (.int 0), none] μ = .nx [y0, some (.int f'), y2] μ := e
  have s2 : s2__law_common [y0, some (.int f'), y2] μ = .rt (.int (gL 0 ns)) false μ := by
    simp (maxSteps := 1000000) [seqS, asgS, bindD, eS, retS, retN, ifS, trD, truth, raiseS, nxS, dropS, varD, conD, bin2, opt, R.bind, consD, nilD, tupD, lstD, calD, callD, notD, andD, orD, iteD, negD, subG, modG, mulG, fdivG, addAll, addI, addT, addP, addL, ltG, leG, gtG, geG, cmpG, eqG, neG, blO, isG, isnG, isN, ixG, ixSeq, ixTxt, asS, asL, cellL, atI, ixN, par2S, thawS, thawK, setS, setK, isTyD, kdOf, Tyb.has, eqD_int, eqD_str, stoB_cons, stoB_nil, nc, ncs, cb, cbs, isL, absG, maxG, minG, intG, lenG, lenO, listG, tupG, Option.orElse, setAll, sizeLine_eq, powG, u_s2__law_common, abs_nat, g]
  have fin : db__law_common [some (.lst (ns.map .int)), none, none] μ = .rt (.int (gL 0 ns)) false μ := by
    rw [uv__law_common, u_r0__law_common, seq_nx s0, u_r1__law_common, seq_nx s1, u_r2__law_common, seq_rt s2]
  simp (maxSteps := 1000000) [seqS, asgS, bindD, eS, retS, retN, ifS, trD, truth, raiseS, nxS, dropS, varD, conD, bin2, opt, R.bind, consD, nilD, tupD, lstD, calD, callD, notD, andD, orD, iteD, negD, subG, modG, mulG, fdivG, addAll, addI, addT, addP, addL, ltG, leG, gtG, geG, cmpG, eqG, neG, blO, isG, isnG, isN, ixG, ixSeq, ixTxt, asS, asL, cellL, atI, ixN, par2S, thawS, thawK, setS, setK, isTyD, kdOf, Tyb.has, eqD_int, eqD_str, stoB_cons, stoB_nil, nc, ncs, cb, cbs, isL, absG, maxG, minG, intG, lenG, lenO, listG, tupG, Option.orElse, setAll, sizeLine_eq, powG, ud__law_common, funD, finD, fin, h1]
theorem fm_int {g : D → Option D} {k : Int → Int} (h : ∀ n, g (.int n) = some (.int (k n))) : ∀ ns : List Int, (ns.map .int).filterMap g = (ns.map k).map .int
  | [] => rfl
  | n :: ns => by simp [h, fm_int h ns]
end K60

namespace K60
open PySem PySem.Spec L2 RS
def keptL (ns : List Int) : List Int := ns.map fun n => n / (gL 0 ns : Int)
theorem gL_le {n0 : Int} {rest : List Int} (h : 0 < n0) : gL 0 (n0 :: rest) ≠ 0 ∧ (gL 0 (n0 :: rest)) ≤ n0.natAbs := by
  have a := gL_pos (g := 0) (ns := n0 :: rest) ⟨n0, List.mem_cons_self, by omega⟩
  have b := (gL_dvd (n0 :: rest) 0).2 n0 List.mem_cons_self
  refine ⟨a, ?_⟩
  have := Int.natAbs_dvd_natAbs.mpr b
  rw [Int.natAbs_natCast] at this
  exact Nat.le_of_dvd (by omega) this
theorem div_pos {n0 g : Int} (h : 0 < n0) (hg : 0 < g) (d : g ∣ n0) : 0 < n0 / g := by
  obtain ⟨c, rfl⟩ := d
  rw [Int.mul_ediv_cancel_left _ (by omega)]
  rcases Int.lt_or_le 0 c with q | q
  · exact q
  · have := Int.mul_nonpos_of_nonneg_of_nonpos (Int.le_of_lt hg) q
    omega
theorem turned_pos (n0 : Int) (rest : List Int) (h0 : 0 < n0) (μ : Sto) (h : Ls μ) : d_turned_sign [.tup ((n0 :: rest).map .int)] μ = .ok (.tup ((n0 :: rest).map .int)) μ := by
  have h1 : ∀ n, stoB n μ = true := h
  have cbx := cb_ints μ.length (n0 :: rest)
  have lb : lb1_turned_sign [some (.tup ((n0 :: rest).map .int)), some (.int n0), none] μ = .rt (.tup ((n0 :: rest).map .int)) false μ := by
    simp (maxSteps := 1000000) [seqS, asgS, bindD, eS, retS, retN, ifS, trD, truth, raiseS, nxS, dropS, varD, conD, bin2, opt, R.bind, consD, nilD, tupD, lstD, calD, callD, notD, andD, orD, iteD, negD, subG, modG, mulG, fdivG, addAll, addI, addT, addP, addL, ltG, leG, gtG, geG, cmpG, eqG, neG, blO, isG, isnG, isN, ixG, ixSeq, ixTxt, asS, asL, cellL, atI, ixN, par2S, thawS, thawK, setS, setK, isTyD, kdOf, Tyb.has, eqD_int, eqD_str, stoB_cons, stoB_nil, nc, ncs, cb, cbs, isL, absG, maxG, minG, intG, lenG, lenO, listG, tupG, Option.orElse, setAll, sizeLine_eq, powG, u_lb1_turned_sign, h0]
  have s0 : s0_turned_sign [some (.tup ((n0 :: rest).map .int)), none, none] μ = .rt (.tup ((n0 :: rest).map .int)) false μ := by
    have : forL (fun _ => true) μ.length (.one 1) lb1_turned_sign ((n0 :: rest).map .int) [some (.tup ((n0 :: rest).map .int)), none, none] μ = .rt (.tup ((n0 :: rest).map .int)) false μ := by
      have hb : bindD μ (.one 1) (.int n0) [some (.tup ((n0 :: rest).map .int)), none, none] = some [some (.tup ((n0 :: rest).map .int)), some (.int n0), none] := rfl
      rw [List.map_cons] at hb lb ⊢
      rw [forL, hb]
      simp only [lb]
    exact this
  have fin : db_turned_sign [some (.tup ((n0 :: rest).map .int)), none, none] μ = .rt (.tup ((n0 :: rest).map .int)) false μ := by
    rw [uv_turned_sign, u_r0_turned_sign, seq_rt s0]
  clear s0 lb
  generalize (n0 :: rest).map D.int = L at *
  simp (maxSteps := 1000000) [seqS, asgS, bindD, eS, retS, retN, ifS, trD, truth, raiseS, nxS, dropS, varD, conD, bin2, opt, R.bind, consD, nilD, tupD, lstD, calD, callD, notD, andD, orD, iteD, negD, subG, modG, mulG, fdivG, addAll, addI, addT, addP, addL, ltG, leG, gtG, geG, cmpG, eqG, neG, blO, isG, isnG, isN, ixG, ixSeq, ixTxt, asS, asL, cellL, atI, ixN, par2S, thawS, thawK, setS, setK, isTyD, kdOf, Tyb.has, eqD_int, eqD_str, stoB_cons, stoB_nil, nc, ncs, cb, cbs, isL, absG, maxG, minG, intG, lenG, lenO, listG, tupG, Option.orElse, setAll, sizeLine_eq, powG, ud_turned_sign, funD, finD, fin, h1, cbx]
theorem comp_div {de : Vs → Sto → R D} {it : Vs → Sto → R Itm} {j : Nat} {env : Vs} {μ : Sto} {ns : List Int} {s : Int} {grd : Sto → Bool} (hg : grd μ = true) (hl : ns.length ≤ sizeLine) (hi : it env μ = .ok (ns.map .int, grd) μ) (he : ∀ n : Int, n ∈ ns → de ((wipeD env [j]).set j (some (.int n))) μ = .ok (.int (n / s)) μ) :
    compD it (.one j) yesD de [j] env μ = .ok (.lst ((ns.map fun n => n / s).map .int)) μ := by
  unfold compD
  rw [hi]
  simp only [R.bind, hg, if_true]
  rw [lcL_fm (g := fun x => match x with | .int n => some (.int (n / s)) | _ => none) hg (ns.map .int) [] (fun x hx => ?_) (by simpa using hl)]
  · rw [fm_int (k := fun n => n / s) (fun n => rfl)]; simp
  · obtain ⟨n, hn, rfl⟩ := List.mem_map.mp hx
    unfold stepD
    simp only [bindD, yesD, R.bind, if_true, he n hn, noEr]
theorem kept6 (n0 : Int) (rest : List Int) (h0 : 0 < n0) (b0 : Bd 8000 n0) (hl : (n0 :: rest).length ≤ 100) (μ : Sto) (h : Ls μ) : d_kept_six [.tup ((n0 :: rest).map .int)] μ = .ok (.tup ((keptL (n0 :: rest)).map .int)) μ := by
  have h1 : ∀ n, stoB n μ = true := h
  obtain ⟨g0, gle⟩ := gL_le (rest := rest) h0
  obtain ⟨ns, hns⟩ : ∃ ns, ns = n0 :: rest := ⟨_, rfl⟩
  rw [← hns] at g0 gle hl ⊢
  have hp : ∀ i, Builtin.divisionGoesByPylong i (gL 0 ns : Int) = false := fun i => noPy (by rw [Int.natAbs_natCast]; exact Nat.lt_of_le_of_lt gle b0)
  have fd : ∀ i : Int, i.fdiv (gL 0 ns : Int) = i / (gL 0 ns : Int) := fun i => Int.fdiv_eq_ediv_of_nonneg _ (by omega)
  have s0 : s0_kept_six [some (.tup (ns.map .int)), none, none] μ = .nx [some (.tup (ns.map .int)), some (.int (gL 0 ns)), none] μ := by
    simp (maxSteps := 1000000) [seqS, asgS, bindD, eS, retS, retN, ifS, trD, truth, raiseS, nxS, dropS, varD, conD, bin2, opt, R.bind, consD, nilD, tupD, lstD, calD, callD, notD, andD, orD, iteD, negD, subG, modG, mulG, fdivG, addAll, addI, addT, addP, addL, ltG, leG, gtG, geG, cmpG, eqG, neG, blO, isG, isnG, isN, ixG, ixSeq, ixTxt, asS, asL, cellL, atI, ixN, par2S, thawS, thawK, setS, setK, isTyD, kdOf, Tyb.has, eqD_int, eqD_str, stoB_cons, stoB_nil, nc, ncs, cb, cbs, isL, absG, maxG, minG, intG, lenG, lenO, listG, tupG, Option.orElse, setAll, sizeLine_eq, powG, u_s0_kept_six, common_tup ns μ h]
  have comp : compD (seqI (varD 0)) (.one 2) yesD ce0_kept_six [2] [some (.tup (ns.map .int)), some (.int (gL 0 ns)), none] μ = .ok (.lst ((keptL ns).map .int)) μ := by
    refine comp_div (ns := ns) (s := gL 0 ns) (grd := fun _ => true) rfl (by rw [sizeLine_eq]; omega) rfl fun n _ => ?_
    simp (maxSteps := 1000000) [seqS, asgS, bindD, eS, retS, retN, ifS, trD, truth, raiseS, nxS, dropS, varD, conD, bin2, opt, R.bind, consD, nilD, tupD, lstD, calD, callD, notD, andD, orD, iteD, negD, subG, modG, mulG, fdivG, addAll, addI, addT, addP, addL, ltG, leG, gtG, geG, cmpG, eqG, neG, blO, isG, isnG, isN, ixG, ixSeq, ixTxt, asS, asL, cellL, atI, ixN, par2S, thawS, thawK, setS, setK, isTyD, kdOf, Tyb.has, eqD_int, eqD_str, stoB_cons, stoB_nil, nc, ncs, cb, cbs, isL, absG, maxG, minG, intG, lenG, lenO, listG, tupG, Option.orElse, setAll, sizeLine_eq, powG, u_ce0_kept_six, wipeD, g0, hp, fd]
  have tn : d_turned_sign [.tup ((keptL ns).map .int)] μ = .ok (.tup ((keptL ns).map .int)) μ := by
    have e : keptL ns = (n0 / (gL 0 ns : Int)) :: rest.map (fun n => n / (gL 0 ns : Int)) := by rw [hns]; rfl
    rw [e]
    refine turned_pos _ _ (div_pos h0 (by omega) ?_) μ h
    rw [hns]; exact (gL_dvd (n0 :: rest) 0).2 n0 List.mem_cons_self
  have s1 : s1_kept_six [some (.tup (ns.map .int)), some (.int (gL 0 ns)), none] μ = .rt (.tup ((keptL ns).map .int)) false μ := by
    simp (maxSteps := 1000000) [seqS, asgS, bindD, eS, retS, retN, ifS, trD, truth, raiseS, nxS, dropS, varD, conD, bin2, opt, R.bind, consD, nilD, tupD, lstD, calD, callD, notD, andD, orD, iteD, negD, subG, modG, mulG, fdivG, addAll, addI, addT, addP, addL, ltG, leG, gtG, geG, cmpG, eqG, neG, blO, isG, isnG, isN, ixG, ixSeq, ixTxt, asS, asL, cellL, atI, ixN, par2S, thawS, thawK, setS, setK, isTyD, kdOf, Tyb.has, eqD_int, eqD_str, stoB_cons, stoB_nil, nc, ncs, cb, cbs, isL, absG, maxG, minG, intG, lenG, lenO, listG, tupG, Option.orElse, setAll, sizeLine_eq, powG, u_s1_kept_six, ↓comp, tn]
  have fin : db_kept_six [some (.tup (ns.map .int)), none, none] μ = .rt (.tup ((keptL ns).map .int)) false μ := by
    rw [uv_kept_six, u_r0_kept_six, seq_nx s0, u_r1_kept_six, seq_rt s1]
  have cbx := cb_ints μ.length (keptL ns)
  simp (maxSteps := 1000000) [seqS, asgS, bindD, eS, retS, retN, ifS, trD, truth, raiseS, nxS, dropS, varD, conD, bin2, opt, R.bind, consD, nilD, tupD, lstD, calD, callD, notD, andD, orD, iteD, negD, subG, modG, mulG, fdivG, addAll, addI, addT, addP, addL, ltG, leG, gtG, geG, cmpG, eqG, neG, blO, isG, isnG, isN, ixG, ixSeq, ixTxt, asS, asL, cellL, atI, ixN, par2S, thawS, thawK, setS, setK, isTyD, kdOf, Tyb.has, eqD_int, eqD_str, stoB_cons, stoB_nil, nc, ncs, cb, cbs, isL, absG, maxG, minG, intG, lenG, lenO, listG, tupG, Option.orElse, setAll, sizeLine_eq, powG, ud_kept_six, funD, finD, fin, h1, cbx]
theorem lkept (n0 : Int) (rest : List Int) (h0 : 0 < n0) (b0 : Bd 8000 n0) (hl : (n0 :: rest).length ≤ 100) (μ : Sto) (h : Ls μ) : d__law_kept [.lst ((n0 :: rest).map .int)] μ = .ok (.tup ((keptL (n0 :: rest)).map .int)) μ := by
  have h1 : ∀ n, stoB n μ = true := h
  obtain ⟨g0, gle⟩ := gL_le (rest := rest) h0
  obtain ⟨ns, hns⟩ : ∃ ns, ns = n0 :: rest := ⟨_, rfl⟩
  rw [← hns] at g0 gle hl ⊢
  have hp : ∀ i, Builtin.divisionGoesByPylong i (gL 0 ns : Int) = false := fun i => noPy (by rw [Int.natAbs_natCast]; exact Nat.lt_of_le_of_lt gle b0)
  have fd : ∀ i : Int, i.fdiv (gL 0 ns : Int) = i / (gL 0 ns : Int) := fun i => Int.fdiv_eq_ediv_of_nonneg _ (by omega)
  have s0 : s0__law_kept [some (.lst (ns.map .int)), none, none, none] μ = .nx [some (.lst (ns.map .int)), some (.int (gL 0 ns)), none, none] μ := by
    simp (maxSteps := 1000000) [seqS, asgS, bindD, eS, retS, retN, ifS, trD, truth, raiseS, nxS, dropS, varD, conD, bin2, opt, R.bind, consD, nilD, tupD, lstD, calD, callD, notD, andD, orD, iteD, negD, subG, modG, mulG, fdivG, addAll, addI, addT, addP, addL, ltG, leG, gtG, geG, cmpG, eqG, neG, blO, isG, isnG, isN, ixG, ixSeq, ixTxt, asS, asL, cellL, atI, ixN, par2S, thawS, thawK, setS, setK, isTyD, kdOf, Tyb.has, eqD_int, eqD_str, stoB_cons, stoB_nil, nc, ncs, cb, cbs, isL, absG, maxG, minG, intG, lenG, lenO, listG, tupG, Option.orElse, setAll, sizeLine_eq, powG, u_s0__law_kept, lcommon ns μ h]
  have comp1 : ∃ l, compD (seqI (varD 0)) (.one 3) ct0__law_kept ce0__law_kept [3] [some (.lst (ns.map .int)), some (.int (gL 0 ns)), none, none] μ = .ok (.lst (.int n0 :: l)) μ := by
    refine ⟨(rest.map D.int).filterMap (fun x => match x with | .int n => if n = 0 then none else some (.int n) | _ => none), ?_⟩
    have n00 : n0 ≠ 0 := by omega
    unfold compD
    show (if (fun _ => true) μ then lcL (fun _ => true) (stepD (.one 3) ct0__law_kept ce0__law_kept (wipeD [some (.lst (ns.map .int)), some (.int (gL 0 ns)), none, none] [3])) (ns.map .int) [] μ else .no) = _
    rw [if_pos rfl, lcL_fm (g := fun x => match x with | .int n => if n = 0 then none else some (.int n) | _ => none) rfl (ns.map .int) [] (fun x hx => ?_) (by rw [sizeLine_eq]; simpa using (by omega : ns.length ≤ 16777216))]
    · rw [hns]; simp [n00]
    · obtain ⟨n, hn, rfl⟩ := List.mem_map.mp hx
      by_cases q : n = 0
      · simp (maxSteps := 1000000) [seqS, asgS, bindD, eS, retS, retN, ifS, trD, truth, raiseS, nxS, dropS, varD, conD, bin2, opt, R.bind, consD, nilD, tupD, lstD, calD, callD, notD, andD, orD, iteD, negD, subG, modG, mulG, fdivG, addAll, addI, addT, addP, addL, ltG, leG, gtG, geG, cmpG, eqG, neG, blO, isG, isnG, isN, ixG, ixSeq, ixTxt, asS, asL, cellL, atI, ixN, par2S, thawS, thawK, setS, setK, isTyD, kdOf, Tyb.has, eqD_int, eqD_str, stoB_cons, stoB_nil, nc, ncs, cb, cbs, isL, absG, maxG, minG, intG, lenG, lenO, listG, tupG, Option.orElse, setAll, sizeLine_eq, powG, stepD, noEr, wipeD, u_ct0__law_kept, q]
      · simp (maxSteps := 1000000) [seqS, asgS, bindD, eS, retS, retN, ifS, trD, truth, raiseS, nxS, dropS, varD, conD, bin2, opt, R.bind, consD, nilD, tupD, lstD, calD, callD, notD, andD, orD, iteD, negD, subG, modG, mulG, fdivG, addAll, addI, addT, addP, addL, ltG, leG, gtG, geG, cmpG, eqG, neG, blO, isG, isnG, isN, ixG, ixSeq, ixTxt, asS, asL, cellL, atI, ixN, par2S, thawS, thawK, setS, setK, isTyD, kdOf, Tyb.has, eqD_int, eqD_str, stoB_cons, stoB_nil, nc, ncs, cb, cbs, isL, absG, maxG, minG, intG, lenG, lenO, listG, tupG, Option.orElse, setAll, sizeLine_eq, powG, stepD, noEr, wipeD, u_ct0__law_kept, u_ce0__law_kept, q]
  obtain ⟨l, comp1⟩ := comp1
  have s1 : s1__law_kept [some (.lst (ns.map .int)), some (.int (gL 0 ns)), none, none] μ = .nx [some (.lst (ns.map .int)), some (.int (gL 0 ns)), some (.int n0), none] μ := by
    simp (maxSteps := 1000000) [seqS, asgS, bindD, eS, retS, retN, ifS, trD, truth, raiseS, nxS, dropS, varD, conD, bin2, opt, R.bind, consD, nilD, tupD, lstD, calD, callD, notD, andD, orD, iteD, negD, subG, modG, mulG, fdivG, addAll, addI, addT, addP, addL, ltG, leG, gtG, geG, cmpG, eqG, neG, blO, isG, isnG, isN, ixG, ixSeq, ixTxt, asS, asL, cellL, atI, ixN, par2S, thawS, thawK, setS, setK, isTyD, kdOf, Tyb.has, eqD_int, eqD_str, stoB_cons, stoB_nil, nc, ncs, cb, cbs, isL, absG, maxG, minG, intG, lenG, lenO, listG, tupG, Option.orElse, setAll, sizeLine_eq, powG, u_s1__law_kept, ↓comp1]
  have n01 : ¬ n0 < 0 := by omega
  have s2 : s2__law_kept [some (.lst (ns.map .int)), some (.int (gL 0 ns)), some (.int n0), none] μ = .nx [some (.lst (ns.map .int)), some (.int (gL 0 ns)), some (.int n0), none] μ := by
    simp (maxSteps := 1000000) [seqS, asgS, bindD, eS, retS, retN, ifS, trD, truth, raiseS, nxS, dropS, varD, conD, bin2, opt, R.bind, consD, nilD, tupD, lstD, calD, callD, notD, andD, orD, iteD, negD, subG, modG, mulG, fdivG, addAll, addI, addT, addP, addL, ltG, leG, gtG, geG, cmpG, eqG, neG, blO, isG, isnG, isN, ixG, ixSeq, ixTxt, asS, asL, cellL, atI, ixN, par2S, thawS, thawK, setS, setK, isTyD, kdOf, Tyb.has, eqD_int, eqD_str, stoB_cons, stoB_nil, nc, ncs, cb, cbs, isL, absG, maxG, minG, intG, lenG, lenO, listG, tupG, Option.orElse, setAll, sizeLine_eq, powG, u_s2__law_kept, n01]
  have comp : compD (seqI (varD 0)) (.one 3) yesD ce1__law_kept [3] [some (.lst (ns.map .int)), some (.int (gL 0 ns)), some (.int n0), none] μ = .ok (.lst ((keptL ns).map .int)) μ := by
    refine comp_div (ns := ns) (s := gL 0 ns) (grd := fun _ => true) rfl (by rw [sizeLine_eq]; omega) rfl fun n _ => ?_
    simp (maxSteps := 1000000) [seqS, asgS, bindD, eS, retS, retN, ifS, trD, truth, raiseS, nxS, dropS, varD, conD, bin2, opt, R.bind, consD, nilD, tupD, lstD, calD, callD, notD, andD, orD, iteD, negD, subG, modG, mulG, fdivG, addAll, addI, addT, addP, addL, ltG, leG, gtG, geG, cmpG, eqG, neG, blO, isG, isnG, isN, ixG, ixSeq, ixTxt, asS, asL, cellL, atI, ixN, par2S, thawS, thawK, setS, setK, isTyD, kdOf, Tyb.has, eqD_int, eqD_str, stoB_cons, stoB_nil, nc, ncs, cb, cbs, isL, absG, maxG, minG, intG, lenG, lenO, listG, tupG, Option.orElse, setAll, sizeLine_eq, powG, u_ce1__law_kept, wipeD, g0, hp, fd]
  have s3 : s3__law_kept [some (.lst (ns.map .int)), some (.int (gL 0 ns)), some (.int n0), none] μ = .rt (.tup ((keptL ns).map .int)) false μ := by
    simp (maxSteps := 1000000) [seqS, asgS, bindD, eS, retS, retN, ifS, trD, truth, raiseS, nxS, dropS, varD, conD, bin2, opt, R.bind, consD, nilD, tupD, lstD, calD, callD, notD, andD, orD, iteD, negD, subG, modG, mulG, fdivG, addAll, addI, addT, addP, addL, ltG, leG, gtG, geG, cmpG, eqG, neG, blO, isG, isnG, isN, ixG, ixSeq, ixTxt, asS, asL, cellL, atI, ixN, par2S, thawS, thawK, setS, setK, isTyD, kdOf, Tyb.has, eqD_int, eqD_str, stoB_cons, stoB_nil, nc, ncs, cb, cbs, isL, absG, maxG, minG, intG, lenG, lenO, listG, tupG, Option.orElse, setAll, sizeLine_eq, powG, u_s3__law_kept, ↓comp]
  have fin : db__law_kept [some (.lst (ns.map .int)), none, none, none] μ = .rt (.tup ((keptL ns).map .int)) false μ := by
    rw [uv__law_kept, u_r0__law_kept, seq_nx s0, u_r1__law_kept, seq_nx s1, u_r2__law_kept, seq_nx s2, u_r3__law_kept, seq_rt s3]
  have cbx := cb_ints μ.length (keptL ns)
  simp (maxSteps := 1000000) [seqS, asgS, bindD, eS, retS, retN, ifS, trD, truth, raiseS, nxS, dropS, varD, conD, bin2, opt, R.bind, consD, nilD, tupD, lstD, calD, callD, notD, andD, orD, iteD, negD, subG, modG, mulG, fdivG, addAll, addI, addT, addP, addL, ltG, leG, gtG, geG, cmpG, eqG, neG, blO, isG, isnG, isN, ixG, ixSeq, ixTxt, asS, asL, cellL, atI, ixN, par2S, thawS, thawK, setS, setK, isTyD, kdOf, Tyb.has, eqD_int, eqD_str, stoB_cons, stoB_nil, nc, ncs, cb, cbs, isL, absG, maxG, minG, intG, lenG, lenO, listG, tupG, Option.orElse, setAll, sizeLine_eq, powG, ud__law_kept, funD, finD, fin, h1, cbx]
end K60

namespace K60
open PySem PySem.Spec L2 RS
theorem whole6 {p4 q4 p5 q5 p6 q6 : Int} (h4 : 0 < q4) (h5 : 0 < q5) (h6 : 0 < q6) (bp4 : Bd 1300 p4) (bq4 : Bd 1300 q4) (bp5 : Bd 1300 p5) (bq5 : Bd 1300 q5) (bp6 : Bd 1300 p6) (bq6 : Bd 1300 q6) (μ : Sto) (h : Ls μ) :
    d_whole_six [.lst [.tup [.int 1, .int 1], .tup [.int 1, .int 1], .tup [.int p4, .int q4], .tup [.int p5, .int q5], .tup [.int p6, .int q6], .tup [.int 0, .int 1]]] μ = .ok (.tup ((keptL [q4 * q5 * q6, q4 * q5 * q6, p4 * (q5 * q6), p5 * (q4 * q6), p6 * (q4 * q5), 0]).map .int)) μ := by
  have h1 : ∀ n, stoB n μ = true := h
  have hS : 0 < q4 * q5 * q6 := Int.mul_pos (Int.mul_pos h4 h5) h6
  have bS := (bq4.mul bq5).mul bq6
  obtain ⟨FL, hF⟩ : ∃ FL : List D, FL = [.tup [.int 1, .int 1], .tup [.int 1, .int 1], .tup [.int p4, .int q4], .tup [.int p5, .int q5], .tup [.int p6, .int q6], .tup [.int 0, .int 1]] := ⟨_, rfl⟩
  have cF : cb μ.length (.lst FL) = true := by rw [hF]; rfl
  have b1 : Bd 3 1 := by unfold Bd; decide
  have step : ∀ (s t b : Int) (o2 o3 : Option D), mulOk s b = true → ∃ e1, bindD μ (.many [2, 3]) (.tup [.int t, .int b]) [some (.lst FL), some (.int s), o2, o3] = some e1 ∧ lb0_whole_six e1 μ = .nx [some (.lst FL), some (.int (s * b)), some (.int t), some (.int b)] μ := fun s t b o2 o3 hm => by
    refine ⟨[some (.lst FL), some (.int s), some (.int t), some (.int b)], rfl, ?_⟩
    simp (maxSteps := 1000000) [seqS, asgS, bindD, eS, retS, retN, ifS, trD, truth, raiseS, nxS, dropS, varD, conD, bin2, opt, R.bind, consD, nilD, tupD, lstD, calD, callD, notD, andD, orD, iteD, negD, subG, modG, mulG, fdivG, addAll, addI, addT, addP, addL, ltG, leG, gtG, geG, cmpG, eqG, neG, blO, isG, isnG, isN, ixG, ixSeq, ixTxt, asS, asL, cellL, atI, ixN, par2S, thawS, thawK, setS, setK, isTyD, kdOf, Tyb.has, eqD_int, eqD_str, stoB_cons, stoB_nil, nc, ncs, cb, cbs, isL, absG, maxG, minG, intG, lenG, lenO, listG, tupG, Option.orElse, setAll, sizeLine_eq, powG, u_lb0_whole_six, hm]
  have l0 : ∀ (s t b : Int), limE μ.length [some (.lst FL), some (.int s), some (.int t), some (.int b)] = [some (.lst FL), some (.int s), some (.int t), some (.int b)] := fun s t b => by
    simp only [limE_cons, limE_nil, lim1_of cF, lim1_of (d := .int s) rfl, lim1_of (d := .int t) rfl, lim1_of (d := .int b) rfl]
  have fstep : ∀ (s t b : Int) (o2 o3 : Option D) (xs : List D), mulOk s b = true → forL (fun _ => true) μ.length (.many [2, 3]) lb0_whole_six (.tup [.int t, .int b] :: xs) [some (.lst FL), some (.int s), o2, o3] μ = forL (fun _ => true) μ.length (.many [2, 3]) lb0_whole_six xs [some (.lst FL), some (.int (s * b)), some (.int t), some (.int b)] μ := fun s t b o2 o3 xs hm => by
    obtain ⟨e1, q1, q2⟩ := step s t b o2 o3 hm
    rw [forL, q1]
    simp only [q2, List.take_length, h1, Bool.and_self, if_true, l0]
  have loop : forL (fun _ => true) μ.length (.many [2, 3]) lb0_whole_six FL [some (.lst FL), some (.int 1), none, none] μ = .nx [some (.lst FL), some (.int (q4 * q5 * q6)), some (.int 0), some (.int 1)] μ := by
    have k : forL (fun _ => true) μ.length (.many [2, 3]) lb0_whole_six [.tup [.int 1, .int 1], .tup [.int 1, .int 1], .tup [.int p4, .int q4], .tup [.int p5, .int q5], .tup [.int p6, .int q6], .tup [.int 0, .int 1]] [some (.lst FL), some (.int 1), none, none] μ = .nx [some (.lst FL), some (.int (1 * 1 * 1 * q4 * q5 * q6 * 1)), some (.int 0), some (.int 1)] μ := by
      have c1 : Bd 3 (1 * 1 : Int) := by unfold Bd; decide
      have c2 : Bd 3 (1 * 1 * 1 : Int) := by unfold Bd; decide
      have n1 := c2.mul bq4
      have n2 := n1.mul bq5
      have n3 := n2.mul bq6
      rw [fstep _ _ _ _ _ _ (mulOkB b1 b1 (by omega)), fstep _ _ _ _ _ _ (mulOkB c1 b1 (by omega)), fstep _ _ _ _ _ _ (mulOkB c2 bq4 (by omega)), fstep _ _ _ _ _ _ (mulOkB n1 bq5 (by omega)), fstep _ _ _ _ _ _ (mulOkB n2 bq6 (by omega)), fstep _ _ _ _ _ _ (mulOkB n3 b1 (by omega))]
      rfl
    rw [← hF] at k
    rw [k]
    simp
  have s0 : s0_whole_six [some (.lst FL), none, none, none] μ = .nx [some (.lst FL), some (.int 1), none, none] μ := rfl
  have s1 : s1_whole_six [some (.lst FL), some (.int 1), none, none] μ = .nx [some (.lst FL), some (.int (q4 * q5 * q6)), some (.int 0), some (.int 1)] μ := loop
  have e4 : (q4 * q5 * q6).fdiv q4 = q5 * q6 := by
    rw [Int.fdiv_eq_ediv_of_nonneg _ (by omega), Int.mul_assoc, Int.mul_ediv_cancel_left _ (by omega)]
  have e5 : (q4 * q5 * q6).fdiv q5 = q4 * q6 := by
    have : q4 * q5 * q6 = q5 * (q4 * q6) := by grind
    rw [this, Int.fdiv_eq_ediv_of_nonneg _ (by omega), Int.mul_ediv_cancel_left _ (by omega)]
  have e6 : (q4 * q5 * q6).fdiv q6 = q4 * q5 := by
    rw [Int.fdiv_eq_ediv_of_nonneg _ (by omega), Int.mul_ediv_cancel _ (by omega)]
  have e1 : (q4 * q5 * q6).fdiv 1 = q4 * q5 * q6 := by simp
  have elt : ∀ (t b u : Int), 0 < b → Bd 1300 b → (q4 * q5 * q6).fdiv b = u → mulOk t u = true → stepD (.many [2, 3]) yesD ce1_whole_six (wipeD [some (.lst FL), some (.int (q4 * q5 * q6)), some (.int 0), some (.int 1)] [2, 3]) (.tup [.int t, .int b]) μ = .ok (some (.int (t * u))) μ := fun t b u hb bb hu hm => by
    have hp : Builtin.divisionGoesByPylong (q4 * q5 * q6) b = false := noPy (bb.mono (by omega))
    have b0 : b ≠ 0 := by omega
    subst hu
    simp (maxSteps := 1000000) [seqS, asgS, bindD, eS, retS, retN, ifS, trD, truth, raiseS, nxS, dropS, varD, conD, bin2, opt, R.bind, consD, nilD, tupD, lstD, calD, callD, notD, andD, orD, iteD, negD, subG, modG, mulG, fdivG, addAll, addI, addT, addP, addL, ltG, leG, gtG, geG, cmpG, eqG, neG, blO, isG, isnG, isN, ixG, ixSeq, ixTxt, asS, asL, cellL, atI, ixN, par2S, thawS, thawK, setS, setK, isTyD, kdOf, Tyb.has, eqD_int, eqD_str, stoB_cons, stoB_nil, nc, ncs, cb, cbs, isL, absG, maxG, minG, intG, lenG, lenO, listG, tupG, Option.orElse, setAll, sizeLine_eq, powG, stepD, noEr, wipeD, yesD, u_ce1_whole_six, b0, hp, hm]
  have U : ∀ {x : D} {xs acc : List D} {y : D}, acc.length < 100 → stepD (.many [2, 3]) yesD ce1_whole_six (wipeD [some (.lst FL), some (.int (q4 * q5 * q6)), some (.int 0), some (.int 1)] [2, 3]) x μ = .ok (some y) μ → lcL (fun _ => true) (stepD (.many [2, 3]) yesD ce1_whole_six (wipeD [some (.lst FL), some (.int (q4 * q5 * q6)), some (.int 0), some (.int 1)] [2, 3])) (x :: xs) acc μ = lcL (fun _ => true) (stepD (.many [2, 3]) yesD ce1_whole_six (wipeD [some (.lst FL), some (.int (q4 * q5 * q6)), some (.int 0), some (.int 1)] [2, 3])) xs (acc ++ [y]) μ := fun {x xs acc y} hl e => by
    rw [lcL, e]
    have : acc.length < sizeLine := by rw [sizeLine_eq]; omega
    simp only [R.bind, if_true, this]
  have comp : compD (seqI (varD 0)) (.many [2, 3]) yesD ce1_whole_six [2, 3] [some (.lst FL), some (.int (q4 * q5 * q6)), some (.int 0), some (.int 1)] μ = .ok (.lst (([q4 * q5 * q6, q4 * q5 * q6, p4 * (q5 * q6), p5 * (q4 * q6), p6 * (q4 * q5), 0] : List Int).map .int)) μ := by
    have bd1 : Bd 1300 1 := b1.mono (by omega)
    have b0 : Bd 3 0 := by unfold Bd; decide
    unfold compD
    show lcL (fun _ => true) (stepD (.many [2, 3]) yesD ce1_whole_six (wipeD [some (.lst FL), some (.int (q4 * q5 * q6)), some (.int 0), some (.int 1)] [2, 3])) FL [] μ = _
    have k : lcL (fun _ => true) (stepD (.many [2, 3]) yesD ce1_whole_six (wipeD [some (.lst FL), some (.int (q4 * q5 * q6)), some (.int 0), some (.int 1)] [2, 3])) [.tup [.int 1, .int 1], .tup [.int 1, .int 1], .tup [.int p4, .int q4], .tup [.int p5, .int q5], .tup [.int p6, .int q6], .tup [.int 0, .int 1]] [] μ = .ok (.lst (([1 * (q4 * q5 * q6), 1 * (q4 * q5 * q6), p4 * (q5 * q6), p5 * (q4 * q6), p6 * (q4 * q5), 0 * (q4 * q5 * q6)] : List Int).map .int)) μ := by
      rw [U (by simp) (elt _ _ _ (by decide) bd1 e1 (mulOkB b1 bS (by omega))), U (by simp) (elt _ _ _ (by decide) bd1 e1 (mulOkB b1 bS (by omega))), U (by simp) (elt _ _ _ h4 bq4 e4 (mulOkB bp4 (bq5.mul bq6) (by omega))), U (by simp) (elt _ _ _ h5 bq5 e5 (mulOkB bp5 (bq4.mul bq6) (by omega))), U (by simp) (elt _ _ _ h6 bq6 e6 (mulOkB bp6 (bq4.mul bq5) (by omega))), U (by simp) (elt _ _ _ (by decide) bd1 e1 (mulOkB b0 bS (by omega)))]
      rfl
    rw [← hF] at k
    rw [k, Int.one_mul, Int.zero_mul]
  have kp := kept6 (q4 * q5 * q6) [q4 * q5 * q6, p4 * (q5 * q6), p5 * (q4 * q6), p6 * (q4 * q5), 0] hS (bS.mono (by omega)) (by simp) μ h
  have s2 : s2_whole_six [some (.lst FL), some (.int (q4 * q5 * q6)), some (.int 0), some (.int 1)] μ = .rt (.tup ((keptL [q4 * q5 * q6, q4 * q5 * q6, p4 * (q5 * q6), p5 * (q4 * q6), p6 * (q4 * q5), 0]).map .int)) false μ := by
    generalize hU : ([q4 * q5 * q6, q4 * q5 * q6, p4 * (q5 * q6), p5 * (q4 * q6), p6 * (q4 * q5), 0] : List Int) = ul at *
    have len : ul.length ≤ 16777216 := by rw [← hU]; simp
    simp (maxSteps := 1000000) [seqS, asgS, bindD, eS, retS, retN, ifS, trD, truth, raiseS, nxS, dropS, varD, conD, bin2, opt, R.bind, consD, nilD, tupD, lstD, calD, callD, notD, andD, orD, iteD, negD, subG, modG, mulG, fdivG, addAll, addI, addT, addP, addL, ltG, leG, gtG, geG, cmpG, eqG, neG, blO, isG, isnG, isN, ixG, ixSeq, ixTxt, asS, asL, cellL, atI, ixN, par2S, thawS, thawK, setS, setK, isTyD, kdOf, Tyb.has, eqD_int, eqD_str, stoB_cons, stoB_nil, nc, ncs, cb, cbs, isL, absG, maxG, minG, intG, lenG, lenO, listG, tupG, Option.orElse, setAll, sizeLine_eq, powG, u_s2_whole_six, ↓comp, kp]
  have fin : db_whole_six [some (.lst FL), none, none, none] μ = .rt (.tup ((keptL [q4 * q5 * q6, q4 * q5 * q6, p4 * (q5 * q6), p5 * (q4 * q6), p6 * (q4 * q5), 0]).map .int)) false μ := by
    rw [uv_whole_six, u_r0_whole_six, seq_nx s0, u_r1_whole_six, seq_nx s1, u_r2_whole_six, seq_rt s2]
  have cbx := cb_ints μ.length (keptL [q4 * q5 * q6, q4 * q5 * q6, p4 * (q5 * q6), p5 * (q4 * q6), p6 * (q4 * q5), 0])
  rw [← hF]
  generalize keptL [q4 * q5 * q6, q4 * q5 * q6, p4 * (q5 * q6), p5 * (q4 * q6), p6 * (q4 * q5), 0] = kl at *
  clear s2 kp comp U elt step fstep l0 loop
  simp (maxSteps := 1000000) [seqS, asgS, bindD, eS, retS, retN, ifS, trD, truth, raiseS, nxS, dropS, varD, conD, bin2, opt, R.bind, consD, nilD, tupD, lstD, calD, callD, notD, andD, orD, iteD, negD, subG, modG, mulG, fdivG, addAll, addI, addT, addP, addL, ltG, leG, gtG, geG, cmpG, eqG, neG, blO, isG, isnG, isN, ixG, ixSeq, ixTxt, asS, asL, cellL, atI, ixN, par2S, thawS, thawK, setS, setK, isTyD, kdOf, Tyb.has, eqD_int, eqD_str, stoB_cons, stoB_nil, nc, ncs, cb, cbs, isL, absG, maxG, minG, intG, lenG, lenO, listG, tupG, Option.orElse, setAll, sizeLine_eq, powG, ud_whole_six, funD, finD, fin, h1, cbx]
end K60

namespace K60
open PySem PySem.Spec L2 RS
theorem Good.bot {k : Nat} {a b : Int} (g : Good k a b) : 1 ≤ b := g.r.q0
def dueV (a b c d e f : Int) : List Int := [b * b * d * d * f, b * b * d * d * f, a * a * d * d * f + c * c * b * b * f - e * b * b * d * d, -2 * c * b * b * d * f, -2 * a * b * d * d * f, 0]
theorem ccurve {a b c d e f : Int} (gx : Good 100 a b) (gy : Good 100 c d) (gs : Good 100 e f) (e1 : 1 ≤ e) (μ : Sto) (h : Ls μ) :
    d_circle_curve [.tup [.int a, .int b], .tup [.int c, .int d], .tup [.int e, .int f]] μ = .ok (.tup ((keptL (dueV a b c d e f)).map .int)) μ := by
  have h1 : ∀ n, stoB n μ = true := h
  have xm : Bd 201 (-2) := by unfold Bd; exact Nat.lt_of_lt_of_le (show (-2 : Int).natAbs < 2 ^ 3 by decide) (Nat.pow_le_pow_right (by omega) (by omega))
  have xo : Bd 201 1 := by unfold Bd; exact Nat.lt_of_lt_of_le (show (1 : Int).natAbs < 2 ^ 3 by decide) (Nat.pow_le_pow_right (by omega) (by omega))
  have rm : Rep (-2) 1 (-2) 1 := ⟨rfl, by decide, by decide, by decide⟩
  obtain ⟨p1, q1, f1, r1, x1, y1⟩ := ftimes gx.r gx.r 100 (by omega) gx.xa gx.xb gx.xa gx.xb
  obtain ⟨p2, q2, f2, r2, x2, y2⟩ := ftimes gy.r gy.r 100 (by omega) gy.xa gy.xb gy.xa gy.xb
  obtain ⟨p3, q3, f3, r3, x3, y3⟩ := fsum r1 r2 201 (by omega) x1 y1 x2 y2
  obtain ⟨p4, q4, f4, r4, x4, y4⟩ := fless r3 gs.r 403 (by omega) x3 y3 (gs.xa.mono (by omega)) (gs.xb.mono (by omega))
  obtain ⟨p5, q5, f5, r5, x5, y5⟩ := ftimes rm gy.r 201 (by omega) xm xo (gy.xa.mono (by omega)) (gy.xb.mono (by omega))
  obtain ⟨p6, q6, f6, r6, x6, y6⟩ := ftimes rm gx.r 201 (by omega) xm xo (gx.xa.mono (by omega)) (gx.xb.mono (by omega))
  have i1 := isfr_pair a b μ h
  have i2 := isfr_pair c d μ h
  have i3 := isfr_pair e f μ h
  rw [decide_eq_true ⟨gx.bot, gx.r.g⟩] at i1
  rw [decide_eq_true ⟨gy.bot, gy.r.g⟩] at i2
  rw [decide_eq_true ⟨gs.bot, gs.r.g⟩] at i3
  have lk := look3 _ _ _ _ _ _ μ h i1 i2 i3
  have ne : ¬ e < 1 := by omega
  have w := whole6 r4.q0 r5.q0 r6.q0 (x4.mono (by omega)) (y4.mono (by omega)) (x5.mono (by omega)) (y5.mono (by omega)) (x6.mono (by omega)) (y6.mono (by omega)) μ h
  have hD : 0 < b * b * d * d * f := by
    have := gx.bot; have := gy.bot; have := gs.bot
    exact Int.mul_pos (Int.mul_pos (Int.mul_pos (Int.mul_pos (by omega) (by omega)) (by omega)) (by omega)) (by omega)
  have hL : 0 < q4 * q5 * q6 := Int.mul_pos (Int.mul_pos r4.q0 r5.q0) r6.q0
  have z4 := r4.e
  have z5 := r5.e
  have z6 := r6.e
  have key : keptL [q4 * q5 * q6, q4 * q5 * q6, p4 * (q5 * q6), p5 * (q4 * q6), p6 * (q4 * q5), 0] = keptL (dueV a b c d e f) := by
    refine kept_eq hD hL ?_ ⟨_, List.mem_cons_self, by omega⟩ ⟨_, List.mem_cons_self, by omega⟩
    simp only [dueV, List.map_cons, List.map_nil, List.cons.injEq, and_true]
    refine ⟨by grind, by grind, ?_, ?_, ?_, by simp⟩
    · have : p4 * (q5 * q6) * (b * b * d * d * f) = (p4 * (b * b * (d * d) * f)) * (q5 * q6) := by grind
      rw [this, z4]; grind
    · have : p5 * (q4 * q6) * (b * b * d * d * f) = (p5 * (1 * d)) * (q4 * q6) * (b * b * d * f) := by grind
      rw [this, z5]; grind
    · have : p6 * (q4 * q5) * (b * b * d * d * f) = (p6 * (1 * b)) * (q4 * q5) * (b * d * d * f) := by grind
      rw [this, z6]; grind
  rw [key] at w
  generalize (keptL (dueV a b c d e f)) = kl at *
  have cbx := cb_ints μ.length kl
  clear r1 r2 r3 r4 r5 r6 rm z4 z5 z6 key i1 i2 i3
  simp (maxSteps := 1000000) [seqS, asgS, bindD, eS, retS, retN, ifS, trD, truth, raiseS, nxS, dropS, varD, conD, bin2, opt, R.bind, consD, nilD, tupD, lstD, calD, callD, notD, andD, orD, iteD, negD, subG, modG, mulG, fdivG, addAll, addI, addT, addP, addL, ltG, leG, gtG, geG, cmpG, eqG, neG, blO, isG, isnG, isN, ixG, ixSeq, ixTxt, asS, asL, cellL, atI, ixN, par2S, thawS, thawK, setS, setK, isTyD, kdOf, Tyb.has, eqD_int, eqD_str, stoB_cons, stoB_nil, nc, ncs, cb, cbs, isL, absG, maxG, minG, intG, lenG, lenO, listG, tupG, Option.orElse, setAll, sizeLine_eq, powG, ud_circle_curve, ub_circle_curve, funD, finD, lk, ne, f1 _ h, f2 _ h, f3 _ h, f4 _ h, f5 _ h, f6 _ h, w, h1, cbx]
end K60

namespace K60
open PySem PySem.Spec L2 RS
theorem due_ok {a b c d e f : Int} (gx : Good 100 a b) (gy : Good 100 c d) (gs : Good 100 e f) (μ : Sto) (h : Ls μ) :
    d__law_due [.tup [.int a, .int b], .tup [.int c, .int d], .tup [.int e, .int f]] μ = .ok (.tup ((keptL (dueV a b c d e f)).map .int)) μ := by
  have h1 : ∀ n, stoB n μ = true := h
  have xa := gx.xa
  have xb := gx.xb
  have xc := gy.xa
  have xd := gy.xb
  have xe := gs.xa
  have xf := gs.xb
  have b1 := xb.mul xb
  have b2 := b1.mul xd
  have b3 := b2.mul xd
  have b4 := b3.mul xf
  have a1 := xa.mul xa
  have a2 := a1.mul xd
  have a3 := a2.mul xd
  have a4 := a3.mul xf
  have c1 := xc.mul xc
  have c2 := c1.mul xb
  have c3 := c2.mul xb
  have c4 := c3.mul xf
  have e1 := xe.mul xb
  have e2 := e1.mul xb
  have e3 := e2.mul xd
  have e4 := e3.mul xd
  have xm : Bd 3 (-2) := by unfold Bd; decide
  have m1 := xm.mul xc
  have m2 := m1.mul xb
  have m3 := m2.mul xb
  have m4 := m3.mul xd
  have m5 := m4.mul xf
  have n1 := xm.mul xa
  have n2 := n1.mul xb
  have n3 := n2.mul xd
  have n4 := n3.mul xd
  have n5 := n4.mul xf
  have hD : 0 < b * b * d * d * f := by
    have := gx.bot; have := gy.bot; have := gs.bot
    exact Int.mul_pos (Int.mul_pos (Int.mul_pos (Int.mul_pos (by omega) (by omega)) (by omega)) (by omega)) (by omega)
  have kp := lkept (b * b * d * d * f) [b * b * d * d * f, a * a * d * d * f + c * c * b * b * f - e * b * b * d * d, -2 * c * b * b * d * f, -2 * a * b * d * d * f, 0] hD (b4.mono (by omega)) (by simp) μ h
  have eV : b * b * d * d * f :: [b * b * d * d * f, a * a * d * d * f + c * c * b * b * f - e * b * b * d * d, -2 * c * b * b * d * f, -2 * a * b * d * d * f, 0] = dueV a b c d e f := rfl
  rw [eV] at kp
  have kp2 : d__law_kept [.lst [.int (b * b * d * d * f), .int (b * b * d * d * f), .int (a * a * d * d * f + c * c * b * b * f - e * b * b * d * d), .int (-2 * c * b * b * d * f), .int (-2 * a * b * d * d * f), .int 0]] μ = .ok (.tup ((keptL (dueV a b c d e f)).map .int)) μ := kp
  generalize keptL (dueV a b c d e f) = kl at *
  have cbx := cb_ints μ.length kl
  clear kp eV
  simp (maxSteps := 1000000) [seqS, asgS, bindD, eS, retS, retN, ifS, trD, truth, raiseS, nxS, dropS, varD, conD, bin2, opt, R.bind, consD, nilD, tupD, lstD, calD, callD, notD, andD, orD, iteD, negD, subG, modG, mulG, fdivG, addAll, addI, addT, addP, addL, ltG, leG, gtG, geG, cmpG, eqG, neG, blO, isG, isnG, isN, ixG, ixSeq, ixTxt, asS, asL, cellL, atI, ixN, par2S, thawS, thawK, setS, setK, isTyD, kdOf, Tyb.has, eqD_int, eqD_str, stoB_cons, stoB_nil, nc, ncs, cb, cbs, isL, absG, maxG, minG, intG, lenG, lenO, listG, tupG, Option.orElse, setAll, sizeLine_eq, powG, ud__law_due, ub__law_due, funD, finD, kp2, h1, cbx, mulOkB xb xb (by omega), mulOkB b1 xd (by omega), mulOkB b2 xd (by omega), mulOkB b3 xf (by omega), mulOkB xa xa (by omega), mulOkB a1 xd (by omega), mulOkB a2 xd (by omega), mulOkB a3 xf (by omega), mulOkB xc xc (by omega), mulOkB c1 xb (by omega), mulOkB c2 xb (by omega), mulOkB c3 xf (by omega), mulOkB xe xb (by omega), mulOkB e1 xb (by omega), mulOkB e2 xd (by omega), mulOkB e3 xd (by omega), mulOkB xm xc (by omega), mulOkB m1 xb (by omega), mulOkB m2 xb (by omega), mulOkB m3 xd (by omega), mulOkB m4 xf (by omega), mulOkB xm xa (by omega), mulOkB n1 xb (by omega), mulOkB n2 xd (by omega), mulOkB n3 xd (by omega), mulOkB n4 xf (by omega)]
theorem zero_good : Good 50 0 1 := ⟨⟨rfl, by decide, by decide, by decide⟩, (by unfold Bd; decide), (by unfold Bd; decide)⟩
theorem one_good : Good 50 1 1 := ⟨⟨rfl, by decide, by decide, by decide⟩, (by unfold Bd; decide), (by unfold Bd; decide)⟩
theorem Good.mono {j k : Nat} {a b : Int} (g : Good j a b) (h : j ≤ k) : Good k a b := ⟨g.r, g.xa.mono h, g.xb.mono h⟩
theorem lfrac_any {t b : Int} (hb : 0 < b) {k : Nat} (hk : k ≤ 8000) (x : Bd k t) (b2 : Bd k b) : ∃ p q, (∀ μ, Ls μ → d__law_frac [.int t, .int b] μ = .ok (.tup [.int p, .int q]) μ) ∧ Good k p q := by
  have r := red_rep (t := t) hb
  exact ⟨_, _, fun μ h => lfrac t b hb k hk b2 μ h, ⟨Rep.self r.q0 r.g, red_bd x, red_bd2 b2⟩⟩
theorem fraction_ok (a b : Int) (ν : Sto) (hν : Ls ν) : ∃ p q a' b', d__law_fraction [.cell 0] (Pu a b :: ν) = .ok (.tup [.int p, .int q]) (Pu a' b' :: ν) ∧ Good 50 p q := by
  have hs : ∀ n, stoB n ν = true := hν
  have m9 : mulOk 2 9 = true := by decide
  have m30 : mulOk 2 30 = true := by decide
  have m12 : mulOk 2 1000000000000 = true := by decide +kernel
  obtain ⟨w, a1, b1, w0', w1, e1⟩ := draw_ok a b 4 ν (by decide) (by decide) hν
  by_cases w0 : w = 0
  · subst w0
    exact ⟨0, 1, a1, b1, by simp (maxSteps := 1000000) [seqS, asgS, bindD, eS, retS, retN, ifS, trD, truth, raiseS, nxS, dropS, varD, conD, bin2, opt, R.bind, consD, nilD, tupD, lstD, calD, callD, notD, andD, orD, iteD, negD, subG, modG, mulG, fdivG, addAll, addI, addT, addP, addL, ltG, leG, gtG, geG, cmpG, eqG, neG, blO, isG, isnG, isN, ixG, ixSeq, ixTxt, asS, asL, cellL, atI, ixN, par2S, thawS, thawK, setS, setK, isTyD, kdOf, Tyb.has, eqD_int, eqD_str, stoB_cons, stoB_nil, nc, ncs, cb, cbs, isL, absG, maxG, minG, intG, lenG, lenO, listG, tupG, Option.orElse, setAll, sizeLine_eq, powG, ud__law_fraction, ub__law_fraction, funD, finD, e1, hs], zero_good⟩
  · obtain ⟨r, a2, b2, r0, r1, e2⟩ := draw_ok a1 b1 3 ν (by decide) (by decide) hν
    rcases (show r = 0 ∨ r = 1 ∨ r = 2 by omega) with rfl | rfl | rfl
    · obtain ⟨u, a3, b3, u0, u1, e3⟩ := draw_ok a2 b2 17 ν (by decide) (by decide) hν
      obtain ⟨v, a4, b4, v0, v1, e4⟩ := draw_ok a3 b3 8 ν (by decide) (by decide) hν
      obtain ⟨p, q, e5, g⟩ := lfrac_any (t := u - 9 + 1) (b := 1 + v) (by omega) (k := 50) (by omega) (show (u - 9 + 1).natAbs < 2 ^ 50 by omega) (show (1 + v).natAbs < 2 ^ 50 by omega)
      refine ⟨p, q, a4, b4, ?_, g⟩
      simp (maxSteps := 1000000) [seqS, asgS, bindD, eS, retS, retN, ifS, trD, truth, raiseS, nxS, dropS, varD, conD, bin2, opt, R.bind, consD, nilD, tupD, lstD, calD, callD, notD, andD, orD, iteD, negD, subG, modG, mulG, fdivG, addAll, addI, addT, addP, addL, ltG, leG, gtG, geG, cmpG, eqG, neG, blO, isG, isnG, isN, ixG, ixSeq, ixTxt, asS, asL, cellL, atI, ixN, par2S, thawS, thawK, setS, setK, isTyD, kdOf, Tyb.has, eqD_int, eqD_str, stoB_cons, stoB_nil, nc, ncs, cb, cbs, isL, absG, maxG, minG, intG, lenG, lenO, listG, tupG, Option.orElse, setAll, sizeLine_eq, powG, ud__law_fraction, ub__law_fraction, funD, finD, e1, e2, e3, e4, w0, e5 _ (Ls.cons hν), hs, m9, m30, m12]
    · obtain ⟨u, a3, b3, u0, u1, e3⟩ := draw_ok a2 b2 59 ν (by decide) (by decide) hν
      obtain ⟨v, a4, b4, v0, v1, e4⟩ := draw_ok a3 b3 29 ν (by decide) (by decide) hν
      obtain ⟨p, q, e5, g⟩ := lfrac_any (t := u - 30 + 1) (b := 1 + v) (by omega) (k := 50) (by omega) (show (u - 30 + 1).natAbs < 2 ^ 50 by omega) (show (1 + v).natAbs < 2 ^ 50 by omega)
      refine ⟨p, q, a4, b4, ?_, g⟩
      simp (maxSteps := 1000000) [seqS, asgS, bindD, eS, retS, retN, ifS, trD, truth, raiseS, nxS, dropS, varD, conD, bin2, opt, R.bind, consD, nilD, tupD, lstD, calD, callD, notD, andD, orD, iteD, negD, subG, modG, mulG, fdivG, addAll, addI, addT, addP, addL, ltG, leG, gtG, geG, cmpG, eqG, neG, blO, isG, isnG, isN, ixG, ixSeq, ixTxt, asS, asL, cellL, atI, ixN, par2S, thawS, thawK, setS, setK, isTyD, kdOf, Tyb.has, eqD_int, eqD_str, stoB_cons, stoB_nil, nc, ncs, cb, cbs, isL, absG, maxG, minG, intG, lenG, lenO, listG, tupG, Option.orElse, setAll, sizeLine_eq, powG, ud__law_fraction, ub__law_fraction, funD, finD, e1, e2, e3, e4, w0, e5 _ (Ls.cons hν), hs, m9, m30, m12]
    · obtain ⟨u, a3, b3, u0, u1, e3⟩ := draw_ok a2 b2 1999999999999 ν (by decide) (by decide) hν
      obtain ⟨v, a4, b4, v0, v1, e4⟩ := draw_ok a3 b3 999999999999 ν (by decide) (by decide) hν
      obtain ⟨p, q, e5, g⟩ := lfrac_any (t := u - 1000000000000 + 1) (b := 1 + v) (by omega) (k := 50) (by omega) (show (u - 1000000000000 + 1).natAbs < 2 ^ 50 by omega) (show (1 + v).natAbs < 2 ^ 50 by omega)
      refine ⟨p, q, a4, b4, ?_, g⟩
      simp (maxSteps := 1000000) [seqS, asgS, bindD, eS, retS, retN, ifS, trD, truth, raiseS, nxS, dropS, varD, conD, bin2, opt, R.bind, consD, nilD, tupD, lstD, calD, callD, notD, andD, orD, iteD, negD, subG, modG, mulG, fdivG, addAll, addI, addT, addP, addL, ltG, leG, gtG, geG, cmpG, eqG, neG, blO, isG, isnG, isN, ixG, ixSeq, ixTxt, asS, asL, cellL, atI, ixN, par2S, thawS, thawK, setS, setK, isTyD, kdOf, Tyb.has, eqD_int, eqD_str, stoB_cons, stoB_nil, nc, ncs, cb, cbs, isL, absG, maxG, minG, intG, lenG, lenO, listG, tupG, Option.orElse, setAll, sizeLine_eq, powG, ud__law_fraction, ub__law_fraction, funD, finD, e1, e2, e3, e4, w0, e5 _ (Ls.cons hν), hs, m9, m30, m12]
end K60

namespace K60
open PySem PySem.Spec L2 RS
theorem gcd_sq {p q : Int} (h : Int.gcd p q = 1) : Int.gcd (p * p) (q * q) = 1 := by
  have h : Nat.Coprime p.natAbs q.natAbs := h
  show Nat.gcd (p * p).natAbs (q * q).natAbs = 1
  rw [Int.natAbs_mul, Int.natAbs_mul]
  exact Nat.Coprime.mul_left (Nat.Coprime.mul_right h h) (Nat.Coprime.mul_right h h)
theorem Good.sq {k : Nat} {p q : Int} (g : Good k p q) : Good (k + k) (p * p) (q * q) :=
  ⟨Rep.self (Int.mul_pos g.r.q0 g.r.q0) (gcd_sq g.r.g), g.xa.mul g.xa, g.xb.mul g.xb⟩
theorem Good.abs {k : Nat} {p q : Int} (g : Good k p q) : Good k (p.natAbs : Int) q :=
  ⟨Rep.self g.r.q0 (by have := g.r.g; simpa [Int.gcd] using this), by have := g.xa; unfold Bd at *; simpa using this, g.xb⟩
theorem square_ok (a b : Int) (ν : Sto) (hν : Ls ν) : ∃ e f a' b', d__law_square [.cell 0] (Pu a b :: ν) = .ok (.tup [.int e, .int f]) (Pu a' b' :: ν) ∧ Good 100 e f ∧ 1 ≤ e := by
  have hs : ∀ n, stoB n ν = true := hν
  obtain ⟨p, q, a1, b1, e1, g⟩ := fraction_ok a b ν hν
  obtain ⟨x, a2, b2, x0, x1, e2⟩ := draw_ok a1 b1 2 ν (by decide) (by decide) hν
  have s0 : s0__law_square [some (.cell 0), none] (Pu a b :: ν) = .nx [some (.cell 0), some (.tup [.int p, .int q])] (Pu a1 b1 :: ν) := by
    simp (maxSteps := 1000000) [seqS, asgS, bindD, eS, retS, retN, ifS, trD, truth, raiseS, nxS, dropS, varD, conD, bin2, opt, R.bind, consD, nilD, tupD, lstD, calD, callD, notD, andD, orD, iteD, negD, subG, modG, mulG, fdivG, addAll, addI, addT, addP, addL, ltG, leG, gtG, geG, cmpG, eqG, neG, blO, isG, isnG, isN, ixG, ixSeq, ixTxt, asS, asL, cellL, atI, ixN, par2S, thawS, thawK, setS, setK, isTyD, kdOf, Tyb.has, eqD_int, eqD_str, stoB_cons, stoB_nil, nc, ncs, cb, cbs, isL, absG, maxG, minG, intG, lenG, lenO, listG, tupG, Option.orElse, setAll, sizeLine_eq, powG, u_s0__law_square, e1]
  have m1 := mulOkB g.xa g.xa (by omega)
  have m2 := mulOkB g.xb g.xb (by omega)
  obtain ⟨P, Q, s1, gg⟩ : ∃ P Q, s1__law_square [some (.cell 0), some (.tup [.int p, .int q])] (Pu a1 b1 :: ν) = .nx [some (.cell 0), some (.tup [.int P, .int Q])] (Pu a2 b2 :: ν) ∧ Good 100 P Q := by
    by_cases hx : x = 1
    · by_cases hc : (if (p.natAbs : Int) < q then q else (p.natAbs : Int)) < 1000000
      · exact ⟨p * p, q * q, by simp (maxSteps := 1000000) [seqS, asgS, bindD, eS, retS, retN, ifS, trD, truth, raiseS, nxS, dropS, varD, conD, bin2, opt, R.bind, consD, nilD, tupD, lstD, calD, callD, notD, andD, orD, iteD, negD, subG, modG, mulG, fdivG, addAll, addI, addT, addP, addL, ltG, leG, gtG, geG, cmpG, eqG, neG, blO, isG, isnG, isN, ixG, ixSeq, ixTxt, asS, asL, cellL, atI, ixN, par2S, thawS, thawK, setS, setK, isTyD, kdOf, Tyb.has, eqD_int, eqD_str, stoB_cons, stoB_nil, nc, ncs, cb, cbs, isL, absG, maxG, minG, intG, lenG, lenO, listG, tupG, Option.orElse, setAll, sizeLine_eq, powG, u_s1__law_square, e2, hx, abs_nat, hc, m1, m2], g.sq⟩
      · exact ⟨p, q, by simp (maxSteps := 1000000) [seqS, asgS, bindD, eS, retS, retN, ifS, trD, truth, raiseS, nxS, dropS, varD, conD, bin2, opt, R.bind, consD, nilD, tupD, lstD, calD, callD, notD, andD, orD, iteD, negD, subG, modG, mulG, fdivG, addAll, addI, addT, addP, addL, ltG, leG, gtG, geG, cmpG, eqG, neG, blO, isG, isnG, isN, ixG, ixSeq, ixTxt, asS, asL, cellL, atI, ixN, par2S, thawS, thawK, setS, setK, isTyD, kdOf, Tyb.has, eqD_int, eqD_str, stoB_cons, stoB_nil, nc, ncs, cb, cbs, isL, absG, maxG, minG, intG, lenG, lenO, listG, tupG, Option.orElse, setAll, sizeLine_eq, powG, u_s1__law_square, e2, hx, abs_nat, hc], g.mono (by omega)⟩
    · exact ⟨p, q, by simp (maxSteps := 1000000) [seqS, asgS, bindD, eS, retS, retN, ifS, trD, truth, raiseS, nxS, dropS, varD, conD, bin2, opt, R.bind, consD, nilD, tupD, lstD, calD, callD, notD, andD, orD, iteD, negD, subG, modG, mulG, fdivG, addAll, addI, addT, addP, addL, ltG, leG, gtG, geG, cmpG, eqG, neG, blO, isG, isnG, isN, ixG, ixSeq, ixTxt, asS, asL, cellL, atI, ixN, par2S, thawS, thawK, setS, setK, isTyD, kdOf, Tyb.has, eqD_int, eqD_str, stoB_cons, stoB_nil, nc, ncs, cb, cbs, isL, absG, maxG, minG, intG, lenG, lenO, listG, tupG, Option.orElse, setAll, sizeLine_eq, powG, u_s1__law_square, e2, hx], g.mono (by omega)⟩
  obtain ⟨e, f, s2, ge, h1⟩ : ∃ e f, s2__law_square [some (.cell 0), some (.tup [.int P, .int Q])] (Pu a2 b2 :: ν) = .rt (.tup [.int e, .int f]) false (Pu a2 b2 :: ν) ∧ Good 100 e f ∧ 1 ≤ e := by
    by_cases hP : P = 0
    · exact ⟨1, 1, by simp (maxSteps := 1000000) [seqS, asgS, bindD, eS, retS, retN, ifS, trD, truth, raiseS, nxS, dropS, varD, conD, bin2, opt, R.bind, consD, nilD, tupD, lstD, calD, callD, notD, andD, orD, iteD, negD, subG, modG, mulG, fdivG, addAll, addI, addT, addP, addL, ltG, leG, gtG, geG, cmpG, eqG, neG, blO, isG, isnG, isN, ixG, ixSeq, ixTxt, asS, asL, cellL, atI, ixN, par2S, thawS, thawK, setS, setK, isTyD, kdOf, Tyb.has, eqD_int, eqD_str, stoB_cons, stoB_nil, nc, ncs, cb, cbs, isL, absG, maxG, minG, intG, lenG, lenO, listG, tupG, Option.orElse, setAll, sizeLine_eq, powG, u_s2__law_square, hP, abs_nat], one_good.mono (by omega), by decide⟩
    · exact ⟨P.natAbs, Q, by simp (maxSteps := 1000000) [seqS, asgS, bindD, eS, retS, retN, ifS, trD, truth, raiseS, nxS, dropS, varD, conD, bin2, opt, R.bind, consD, nilD, tupD, lstD, calD, callD, notD, andD, orD, iteD, negD, subG, modG, mulG, fdivG, addAll, addI, addT, addP, addL, ltG, leG, gtG, geG, cmpG, eqG, neG, blO, isG, isnG, isN, ixG, ixSeq, ixTxt, asS, asL, cellL, atI, ixN, par2S, thawS, thawK, setS, setK, isTyD, kdOf, Tyb.has, eqD_int, eqD_str, stoB_cons, stoB_nil, nc, ncs, cb, cbs, isL, absG, maxG, minG, intG, lenG, lenO, listG, tupG, Option.orElse, setAll, sizeLine_eq, powG, u_s2__law_square, hP, abs_nat], gg.abs, by omega⟩
  have fin : db__law_square [some (.cell 0), none] (Pu a b :: ν) = .rt (.tup [.int e, .int f]) false (Pu a2 b2 :: ν) := by
    rw [uv__law_square, u_r0__law_square, seq_nx s0, u_r1__law_square, seq_nx s1, u_r2__law_square, seq_rt s2]
  exact ⟨e, f, a2, b2, by simp (maxSteps := 1000000) [seqS, asgS, bindD, eS, retS, retN, ifS, trD, truth, raiseS, nxS, dropS, varD, conD, bin2, opt, R.bind, consD, nilD, tupD, lstD, calD, callD, notD, andD, orD, iteD, negD, subG, modG, mulG, fdivG, addAll, addI, addT, addP, addL, ltG, leG, gtG, geG, cmpG, eqG, neG, blO, isG, isnG, isN, ixG, ixSeq, ixTxt, asS, asL, cellL, atI, ixN, par2S, thawS, thawK, setS, setK, isTyD, kdOf, Tyb.has, eqD_int, eqD_str, stoB_cons, stoB_nil, nc, ncs, cb, cbs, isL, absG, maxG, minG, intG, lenG, lenO, listG, tupG, Option.orElse, setAll, sizeLine_eq, powG, ud__law_square, funD, finD, fin, hs], ge, h1⟩
theorem kinds_circle (μ : Sto) (h : Ls μ) : d__law_kinds [.exc "NoCircle"] μ = .ok (.str "circle") μ := by
  have e : db__law_kinds [some (.exc "NoCircle"), none, none, none, none] μ = .rt (.str "circle") false μ := by rfl
  have h1 : ∀ n, stoB n μ = true := h
  simp (maxSteps := 1000000) [seqS, asgS, bindD, eS, retS, retN, ifS, trD, truth, raiseS, nxS, dropS, varD, conD, bin2, opt, R.bind, consD, nilD, tupD, lstD, calD, callD, notD, andD, orD, iteD, negD, subG, modG, mulG, fdivG, addAll, addI, addT, addP, addL, ltG, leG, gtG, geG, cmpG, eqG, neG, blO, isG, isnG, isN, ixG, ixSeq, ixTxt, asS, asL, cellL, atI, ixN, par2S, thawS, thawK, setS, setK, isTyD, kdOf, Tyb.has, eqD_int, eqD_str, stoB_cons, stoB_nil, nc, ncs, cb, cbs, isL, absG, maxG, minG, intG, lenG, lenO, listG, tupG, Option.orElse, setAll, sizeLine_eq, powG, ud__law_kinds, funD, finD, e, h1]
/-- a spoilt value: no fraction -/
def Spo (d : D) : Prop := ∀ μ, Ls μ → d_is_fraction [d] μ = .ok (.bl false) μ
theorem gcd_even (n : Int) : Int.gcd (2 * n + 2) 2 ≠ 1 := by
  have h := Int.dvd_coe_gcd (c := 2) (a := 2 * n + 2) (b := 2) ⟨n + 1, by omega⟩ ⟨1, by omega⟩
  intro e
  rw [e] at h
  omega
theorem spo_pair {a b : Int} (h : ¬ (1 ≤ b ∧ Int.gcd a b = 1)) : Spo (.tup [.int a, .int b]) := fun μ hμ => by rw [isfr_pair _ _ _ hμ, decide_eq_false h]
theorem spoilt_ok (a b : Int) (ν : Sto) (hν : Ls ν) (p q : Int) (bp : Bd 100 p) : ∃ d a' b', d__law_spoilt [.cell 0, .tup [.int p, .int q]] (Pu a b :: ν) = .ok d (Pu a' b' :: ν) ∧ Spo d ∧ nc d = true := by
  have hs : ∀ n, stoB n ν = true := hν
  have c2 : Bd 3 2 := by unfold Bd; decide
  have m1 := mulOkB c2 bp (by omega)
  obtain ⟨r, a1, b1, r0, r1, e1⟩ := draw_ok a b 17 ν (by decide) (by decide) hν
  have h0 : s0__law_spoilt [some (.cell 0), some (.tup [.int p, .int q]), none, none, none] (Pu a b :: ν) = .nx [some (.cell 0), some (.tup [.int p, .int q]), some (.int p), some (.int q), none] (Pu a b :: ν) := by
    simp (maxSteps := 1000000) [seqS, asgS, bindD, eS, retS, retN, ifS, trD, truth, raiseS, nxS, dropS, varD, conD, bin2, opt, R.bind, consD, nilD, tupD, lstD, calD, callD, notD, andD, orD, iteD, negD, subG, modG, mulG, fdivG, addAll, addI, addT, addP, addL, ltG, leG, gtG, geG, cmpG, eqG, neG, blO, isG, isnG, isN, ixG, ixSeq, ixTxt, asS, asL, cellL, atI, ixN, par2S, thawS, thawK, setS, setK, isTyD, kdOf, Tyb.has, eqD_int, eqD_str, stoB_cons, stoB_nil, nc, ncs, cb, cbs, isL, absG, maxG, minG, intG, lenG, lenO, listG, tupG, Option.orElse, setAll, sizeLine_eq, powG, u_s0__law_spoilt]
  have h1 : s1__law_spoilt [some (.cell 0), some (.tup [.int p, .int q]), some (.int p), some (.int q), none] (Pu a b :: ν) = .nx [some (.cell 0), some (.tup [.int p, .int q]), some (.int p), some (.int q), some (.lst [.non, .int 0, .bl true, .str "1/2", .lst [.int p, .int q], .tup [.int p], .tup [.int p, .int q, .int 1], .tup [.int (2 * p + 2), .int 2], .tup [.int p, .int 0], .tup [.int 3, .int (-1)], .tup []])] (Pu a b :: ν) := by
    simp (maxSteps := 1000000) [seqS, asgS, bindD, eS, retS, retN, ifS, trD, truth, raiseS, nxS, dropS, varD, conD, bin2, opt, R.bind, consD, nilD, tupD, lstD, calD, callD, notD, andD, orD, iteD, negD, subG, modG, mulG, fdivG, addAll, addI, addT, addP, addL, ltG, leG, gtG, geG, cmpG, eqG, neG, blO, isG, isnG, isN, ixG, ixSeq, ixTxt, asS, asL, cellL, atI, ixN, par2S, thawS, thawK, setS, setK, isTyD, kdOf, Tyb.has, eqD_int, eqD_str, stoB_cons, stoB_nil, nc, ncs, cb, cbs, isL, absG, maxG, minG, intG, lenG, lenO, listG, tupG, Option.orElse, setAll, sizeLine_eq, powG, u_s1__law_spoilt, m1]
  have h2 : s2__law_spoilt [some (.cell 0), some (.tup [.int p, .int q]), some (.int p), some (.int q), some (.lst [.non, .int 0, .bl true, .str "1/2", .lst [.int p, .int q], .tup [.int p], .tup [.int p, .int q, .int 1], .tup [.int (2 * p + 2), .int 2], .tup [.int p, .int 0], .tup [.int 3, .int (-1)], .tup []])] (Pu a b :: ν) = .nx [some (.cell 0), some (.tup [.int p, .int q]), some (.int p), some (.int q), some (.lst [.non, .int 0, .bl true, .str "1/2", .lst [.int p, .int q], .tup [.int p], .tup [.int p, .int q, .int 1], .tup [.int (2 * p + 2), .int 2], .tup [.int p, .int 0], .tup [.int 3, .int (-1)], .tup [], .tup [.bl true, .int 1], .tup [.int 1, .bl true], .tup [.str "1", .int 1], .tup [.int 1, .non], .tup [.tup [.int 1, .int 1], .int 1], .int 1])] (Pu a b :: ν) := by
    simp (maxSteps := 1000000) [seqS, asgS, bindD, eS, retS, retN, ifS, trD, truth, raiseS, nxS, dropS, varD, conD, bin2, opt, R.bind, consD, nilD, tupD, lstD, calD, callD, notD, andD, orD, iteD, negD, subG, modG, mulG, fdivG, addAll, addI, addT, addP, addL, ltG, leG, gtG, geG, cmpG, eqG, neG, blO, isG, isnG, isN, ixG, ixSeq, ixTxt, asS, asL, cellL, atI, ixN, par2S, thawS, thawK, setS, setK, isTyD, kdOf, Tyb.has, eqD_int, eqD_str, stoB_cons, stoB_nil, nc, ncs, cb, cbs, isL, absG, maxG, minG, intG, lenG, lenO, listG, tupG, Option.orElse, setAll, sizeLine_eq, powG, u_s2__law_spoilt, m1]
  have start : ∀ {d : D} {μ : Sto}, s3__law_spoilt [some (.cell 0), some (.tup [.int p, .int q]), some (.int p), some (.int q), some (.lst [.non, .int 0, .bl true, .str "1/2", .lst [.int p, .int q], .tup [.int p], .tup [.int p, .int q, .int 1], .tup [.int (2 * p + 2), .int 2], .tup [.int p, .int 0], .tup [.int 3, .int (-1)], .tup [], .tup [.bl true, .int 1], .tup [.int 1, .bl true], .tup [.str "1", .int 1], .tup [.int 1, .non], .tup [.tup [.int 1, .int 1], .int 1], .int 1])] (Pu a b :: ν) = .rt d false μ → db__law_spoilt [some (.cell 0), some (.tup [.int p, .int q]), none, none, none] (Pu a b :: ν) = .rt d false μ := fun h => by
    rw [uv__law_spoilt, u_r0__law_spoilt, seq_nx h0, u_r1__law_spoilt, seq_nx h1, u_r2__law_spoilt, seq_nx h2, u_r3__law_spoilt, seq_rt h]
  rcases (show r = 0 ∨ r = 1 ∨ r = 2 ∨ r = 3 ∨ r = 4 ∨ r = 5 ∨ r = 6 ∨ r = 7 ∨ r = 8 ∨ r = 9 ∨ r = 10 ∨ r = 11 ∨ r = 12 ∨ r = 13 ∨ r = 14 ∨ r = 15 ∨ r = 16 by omega) with rfl | rfl | rfl | rfl | rfl | rfl | rfl | rfl | rfl | rfl | rfl | rfl | rfl | rfl | rfl | rfl | rfl
  · have h3 : s3__law_spoilt [some (.cell 0), some (.tup [.int p, .int q]), some (.int p), some (.int q), some (.lst [.non, .int 0, .bl true, .str "1/2", .lst [.int p, .int q], .tup [.int p], .tup [.int p, .int q, .int 1], .tup [.int (2 * p + 2), .int 2], .tup [.int p, .int 0], .tup [.int 3, .int (-1)], .tup [], .tup [.bl true, .int 1], .tup [.int 1, .bl true], .tup [.str "1", .int 1], .tup [.int 1, .non], .tup [.tup [.int 1, .int 1], .int 1], .int 1])] (Pu a b :: ν) = .rt (.non) false (Pu a1 b1 :: ν) := by
      simp (maxSteps := 1000000) [seqS, asgS, bindD, eS, retS, retN, ifS, trD, truth, raiseS, nxS, dropS, varD, conD, bin2, opt, R.bind, consD, nilD, tupD, lstD, calD, callD, notD, andD, orD, iteD, negD, subG, modG, mulG, fdivG, addAll, addI, addT, addP, addL, ltG, leG, gtG, geG, cmpG, eqG, neG, blO, isG, isnG, isN, ixG, ixSeq, ixTxt, asS, asL, cellL, atI, ixN, par2S, thawS, thawK, setS, setK, isTyD, kdOf, Tyb.has, eqD_int, eqD_str, stoB_cons, stoB_nil, nc, ncs, cb, cbs, isL, absG, maxG, minG, intG, lenG, lenO, listG, tupG, Option.orElse, setAll, sizeLine_eq, powG, u_s3__law_spoilt, e1]
    refine ⟨.non, a1, b1, ?_, fun μ hμ => by
      have h1 : ∀ n, stoB n μ = true := hμ
      simp (maxSteps := 1000000) [seqS, asgS, bindD, eS, retS, retN, ifS, trD, truth, raiseS, nxS, dropS, varD, conD, bin2, opt, R.bind, consD, nilD, tupD, lstD, calD, callD, notD, andD, orD, iteD, negD, subG, modG, mulG, fdivG, addAll, addI, addT, addP, addL, ltG, leG, gtG, geG, cmpG, eqG, neG, blO, isG, isnG, isN, ixG, ixSeq, ixTxt, asS, asL, cellL, atI, ixN, par2S, thawS, thawK, setS, setK, isTyD, kdOf, Tyb.has, eqD_int, eqD_str, stoB_cons, stoB_nil, nc, ncs, cb, cbs, isL, absG, maxG, minG, intG, lenG, lenO, listG, tupG, Option.orElse, setAll, sizeLine_eq, powG, ud_is_fraction, ub_is_fraction, ud_is_number, ub_is_number, funD, finD, h1], rfl⟩
    have fin := start h3
    simp (maxSteps := 1000000) [seqS, asgS, bindD, eS, retS, retN, ifS, trD, truth, raiseS, nxS, dropS, varD, conD, bin2, opt, R.bind, consD, nilD, tupD, lstD, calD, callD, notD, andD, orD, iteD, negD, subG, modG, mulG, fdivG, addAll, addI, addT, addP, addL, ltG, leG, gtG, geG, cmpG, eqG, neG, blO, isG, isnG, isN, ixG, ixSeq, ixTxt, asS, asL, cellL, atI, ixN, par2S, thawS, thawK, setS, setK, isTyD, kdOf, Tyb.has, eqD_int, eqD_str, stoB_cons, stoB_nil, nc, ncs, cb, cbs, isL, absG, maxG, minG, intG, lenG, lenO, listG, tupG, Option.orElse, setAll, sizeLine_eq, powG, ud__law_spoilt, funD, finD, fin, hs]
  · have h3 : s3__law_spoilt [some (.cell 0), some (.tup [.int p, .int q]), some (.int p), some (.int q), some (.lst [.non, .int 0, .bl true, .str "1/2", .lst [.int p, .int q], .tup [.int p], .tup [.int p, .int q, .int 1], .tup [.int (2 * p + 2), .int 2], .tup [.int p, .int 0], .tup [.int 3, .int (-1)], .tup [], .tup [.bl true, .int 1], .tup [.int 1, .bl true], .tup [.str "1", .int 1], .tup [.int 1, .non], .tup [.tup [.int 1, .int 1], .int 1], .int 1])] (Pu a b :: ν) = .rt (.int 0) false (Pu a1 b1 :: ν) := by
      simp (maxSteps := 1000000) [seqS, asgS, bindD, eS, retS, retN, ifS, trD, truth, raiseS, nxS, dropS, varD, conD, bin2, opt, R.bind, consD, nilD, tupD, lstD, calD, callD, notD, andD, orD, iteD, negD, subG, modG, mulG, fdivG, addAll, addI, addT, addP, addL, ltG, leG, gtG, geG, cmpG, eqG, neG, blO, isG, isnG, isN, ixG, ixSeq, ixTxt, asS, asL, cellL, atI, ixN, par2S, thawS, thawK, setS, setK, isTyD, kdOf, Tyb.has, eqD_int, eqD_str, stoB_cons, stoB_nil, nc, ncs, cb, cbs, isL, absG, maxG, minG, intG, lenG, lenO, listG, tupG, Option.orElse, setAll, sizeLine_eq, powG, u_s3__law_spoilt, e1]
    refine ⟨.int 0, a1, b1, ?_, fun μ hμ => by
      have h1 : ∀ n, stoB n μ = true := hμ
      simp (maxSteps := 1000000) [seqS, asgS, bindD, eS, retS, retN, ifS, trD, truth, raiseS, nxS, dropS, varD, conD, bin2, opt, R.bind, consD, nilD, tupD, lstD, calD, callD, notD, andD, orD, iteD, negD, subG, modG, mulG, fdivG, addAll, addI, addT, addP, addL, ltG, leG, gtG, geG, cmpG, eqG, neG, blO, isG, isnG, isN, ixG, ixSeq, ixTxt, asS, asL, cellL, atI, ixN, par2S, thawS, thawK, setS, setK, isTyD, kdOf, Tyb.has, eqD_int, eqD_str, stoB_cons, stoB_nil, nc, ncs, cb, cbs, isL, absG, maxG, minG, intG, lenG, lenO, listG, tupG, Option.orElse, setAll, sizeLine_eq, powG, ud_is_fraction, ub_is_fraction, ud_is_number, ub_is_number, funD, finD, h1], rfl⟩
    have fin := start h3
    simp (maxSteps := 1000000) [seqS, asgS, bindD, eS, retS, retN, ifS, trD, truth, raiseS, nxS, dropS, varD, conD, bin2, opt, R.bind, consD, nilD, tupD, lstD, calD, callD, notD, andD, orD, iteD, negD, subG, modG, mulG, fdivG, addAll, addI, addT, addP, addL, ltG, leG, gtG, geG, cmpG, eqG, neG, blO, isG, isnG, isN, ixG, ixSeq, ixTxt, asS, asL, cellL, atI, ixN, par2S, thawS, thawK, setS, setK, isTyD, kdOf, Tyb.has, eqD_int, eqD_str, stoB_cons, stoB_nil, nc, ncs, cb, cbs, isL, absG, maxG, minG, intG, lenG, lenO, listG, tupG, Option.orElse, setAll, sizeLine_eq, powG, ud__law_spoilt, funD, finD, fin, hs]
  · have h3 : s3__law_spoilt [some (.cell 0), some (.tup [.int p, .int q]), some (.int p), some (.int q), some (.lst [.non, .int 0, .bl true, .str "1/2", .lst [.int p, .int q], .tup [.int p], .tup [.int p, .int q, .int 1], .tup [.int (2 * p + 2), .int 2], .tup [.int p, .int 0], .tup [.int 3, .int (-1)], .tup [], .tup [.bl true, .int 1], .tup [.int 1, .bl true], .tup [.str "1", .int 1], .tup [.int 1, .non], .tup [.tup [.int 1, .int 1], .int 1], .int 1])] (Pu a b :: ν) = .rt (.bl true) false (Pu a1 b1 :: ν) := by
      simp (maxSteps := 1000000) [seqS, asgS, bindD, eS, retS, retN, ifS, trD, truth, raiseS, nxS, dropS, varD, conD, bin2, opt, R.bind, consD, nilD, tupD, lstD, calD, callD, notD, andD, orD, iteD, negD, subG, modG, mulG, fdivG, addAll, addI, addT, addP, addL, ltG, leG, gtG, geG, cmpG, eqG, neG, blO, isG, isnG, isN, ixG, ixSeq, ixTxt, asS, asL, cellL, atI, ixN, par2S, thawS, thawK, setS, setK, isTyD, kdOf, Tyb.has, eqD_int, eqD_str, stoB_cons, stoB_nil, nc, ncs, cb, cbs, isL, absG, maxG, minG, intG, lenG, lenO, listG, tupG, Option.orElse, setAll, sizeLine_eq, powG, u_s3__law_spoilt, e1]
    refine ⟨.bl true, a1, b1, ?_, fun μ hμ => by
      have h1 : ∀ n, stoB n μ = true := hμ
      simp (maxSteps := 1000000) [seqS, asgS, bindD, eS, retS, retN, ifS, trD, truth, raiseS, nxS, dropS, varD, conD, bin2, opt, R.bind, consD, nilD, tupD, lstD, calD, callD, notD, andD, orD, iteD, negD, subG, modG, mulG, fdivG, addAll, addI, addT, addP, addL, ltG, leG, gtG, geG, cmpG, eqG, neG, blO, isG, isnG, isN, ixG, ixSeq, ixTxt, asS, asL, cellL, atI, ixN, par2S, thawS, thawK, setS, setK, isTyD, kdOf, Tyb.has, eqD_int, eqD_str, stoB_cons, stoB_nil, nc, ncs, cb, cbs, isL, absG, maxG, minG, intG, lenG, lenO, listG, tupG, Option.orElse, setAll, sizeLine_eq, powG, ud_is_fraction, ub_is_fraction, ud_is_number, ub_is_number, funD, finD, h1], rfl⟩
    have fin := start h3
    simp (maxSteps := 1000000) [seqS, asgS, bindD, eS, retS, retN, ifS, trD, truth, raiseS, nxS, dropS, varD, conD, bin2, opt, R.bind, consD, nilD, tupD, lstD, calD, callD, notD, andD, orD, iteD, negD, subG, modG, mulG, fdivG, addAll, addI, addT, addP, addL, ltG, leG, gtG, geG, cmpG, eqG, neG, blO, isG, isnG, isN, ixG, ixSeq, ixTxt, asS, asL, cellL, atI, ixN, par2S, thawS, thawK, setS, setK, isTyD, kdOf, Tyb.has, eqD_int, eqD_str, stoB_cons, stoB_nil, nc, ncs, cb, cbs, isL, absG, maxG, minG, intG, lenG, lenO, listG, tupG, Option.orElse, setAll, sizeLine_eq, powG, ud__law_spoilt, funD, finD, fin, hs]
  · have h3 : s3__law_spoilt [some (.cell 0), some (.tup [.int p, .int q]), some (.int p), some (.int q), some (.lst [.non, .int 0, .bl true, .str "1/2", .lst [.int p, .int q], .tup [.int p], .tup [.int p, .int q, .int 1], .tup [.int (2 * p + 2), .int 2], .tup [.int p, .int 0], .tup [.int 3, .int (-1)], .tup [], .tup [.bl true, .int 1], .tup [.int 1, .bl true], .tup [.str "1", .int 1], .tup [.int 1, .non], .tup [.tup [.int 1, .int 1], .int 1], .int 1])] (Pu a b :: ν) = .rt (.str "1/2") false (Pu a1 b1 :: ν) := by
      simp (maxSteps := 1000000) [seqS, asgS, bindD, eS, retS, retN, ifS, trD, truth, raiseS, nxS, dropS, varD, conD, bin2, opt, R.bind, consD, nilD, tupD, lstD, calD, callD, notD, andD, orD, iteD, negD, subG, modG, mulG, fdivG, addAll, addI, addT, addP, addL, ltG, leG, gtG, geG, cmpG, eqG, neG, blO, isG, isnG, isN, ixG, ixSeq, ixTxt, asS, asL, cellL, atI, ixN, par2S, thawS, thawK, setS, setK, isTyD, kdOf, Tyb.has, eqD_int, eqD_str, stoB_cons, stoB_nil, nc, ncs, cb, cbs, isL, absG, maxG, minG, intG, lenG, lenO, listG, tupG, Option.orElse, setAll, sizeLine_eq, powG, u_s3__law_spoilt, e1]
    refine ⟨.str "1/2", a1, b1, ?_, fun μ hμ => by
      have h1 : ∀ n, stoB n μ = true := hμ
      simp (maxSteps := 1000000) [seqS, asgS, bindD, eS, retS, retN, ifS, trD, truth, raiseS, nxS, dropS, varD, conD, bin2, opt, R.bind, consD, nilD, tupD, lstD, calD, callD, notD, andD, orD, iteD, negD, subG, modG, mulG, fdivG, addAll, addI, addT, addP, addL, ltG, leG, gtG, geG, cmpG, eqG, neG, blO, isG, isnG, isN, ixG, ixSeq, ixTxt, asS, asL, cellL, atI, ixN, par2S, thawS, thawK, setS, setK, isTyD, kdOf, Tyb.has, eqD_int, eqD_str, stoB_cons, stoB_nil, nc, ncs, cb, cbs, isL, absG, maxG, minG, intG, lenG, lenO, listG, tupG, Option.orElse, setAll, sizeLine_eq, powG, ud_is_fraction, ub_is_fraction, ud_is_number, ub_is_number, funD, finD, h1], rfl⟩
    have fin := start h3
    simp (maxSteps := 1000000) [seqS, asgS, bindD, eS, retS, retN, ifS, trD, truth, raiseS, nxS, dropS, varD, conD, bin2, opt, R.bind, consD, nilD, tupD, lstD, calD, callD, notD, andD, orD, iteD, negD, subG, modG, mulG, fdivG, addAll, addI, addT, addP, addL, ltG, leG, gtG, geG, cmpG, eqG, neG, blO, isG, isnG, isN, ixG, ixSeq, ixTxt, asS, asL, cellL, atI, ixN, par2S, thawS, thawK, setS, setK, isTyD, kdOf, Tyb.has, eqD_int, eqD_str, stoB_cons, stoB_nil, nc, ncs, cb, cbs, isL, absG, maxG, minG, intG, lenG, lenO, listG, tupG, Option.orElse, setAll, sizeLine_eq, powG, ud__law_spoilt, funD, finD, fin, hs]
  · have h3 : s3__law_spoilt [some (.cell 0), some (.tup [.int p, .int q]), some (.int p), some (.int q), some (.lst [.non, .int 0, .bl true, .str "1/2", .lst [.int p, .int q], .tup [.int p], .tup [.int p, .int q, .int 1], .tup [.int (2 * p + 2), .int 2], .tup [.int p, .int 0], .tup [.int 3, .int (-1)], .tup [], .tup [.bl true, .int 1], .tup [.int 1, .bl true], .tup [.str "1", .int 1], .tup [.int 1, .non], .tup [.tup [.int 1, .int 1], .int 1], .int 1])] (Pu a b :: ν) = .rt (.lst [.int p, .int q]) false (Pu a1 b1 :: ν) := by
      simp (maxSteps := 1000000) [seqS, asgS, bindD, eS, retS, retN, ifS, trD, truth, raiseS, nxS, dropS, varD, conD, bin2, opt, R.bind, consD, nilD, tupD, lstD, calD, callD, notD, andD, orD, iteD, negD, subG, modG, mulG, fdivG, addAll, addI, addT, addP, addL, ltG, leG, gtG, geG, cmpG, eqG, neG, blO, isG, isnG, isN, ixG, ixSeq, ixTxt, asS, asL, cellL, atI, ixN, par2S, thawS, thawK, setS, setK, isTyD, kdOf, Tyb.has, eqD_int, eqD_str, stoB_cons, stoB_nil, nc, ncs, cb, cbs, isL, absG, maxG, minG, intG, lenG, lenO, listG, tupG, Option.orElse, setAll, sizeLine_eq, powG, u_s3__law_spoilt, e1]
    refine ⟨.lst [.int p, .int q], a1, b1, ?_, fun μ hμ => by
      have h1 : ∀ n, stoB n μ = true := hμ
      simp (maxSteps := 1000000) [seqS, asgS, bindD, eS, retS, retN, ifS, trD, truth, raiseS, nxS, dropS, varD, conD, bin2, opt, R.bind, consD, nilD, tupD, lstD, calD, callD, notD, andD, orD, iteD, negD, subG, modG, mulG, fdivG, addAll, addI, addT, addP, addL, ltG, leG, gtG, geG, cmpG, eqG, neG, blO, isG, isnG, isN, ixG, ixSeq, ixTxt, asS, asL, cellL, atI, ixN, par2S, thawS, thawK, setS, setK, isTyD, kdOf, Tyb.has, eqD_int, eqD_str, stoB_cons, stoB_nil, nc, ncs, cb, cbs, isL, absG, maxG, minG, intG, lenG, lenO, listG, tupG, Option.orElse, setAll, sizeLine_eq, powG, ud_is_fraction, ub_is_fraction, ud_is_number, ub_is_number, funD, finD, h1], rfl⟩
    have fin := start h3
    simp (maxSteps := 1000000) [seqS, asgS, bindD, eS, retS, retN, ifS, trD, truth, raiseS, nxS, dropS, varD, conD, bin2, opt, R.bind, consD, nilD, tupD, lstD, calD, callD, notD, andD, orD, iteD, negD, subG, modG, mulG, fdivG, addAll, addI, addT, addP, addL, ltG, leG, gtG, geG, cmpG, eqG, neG, blO, isG, isnG, isN, ixG, ixSeq, ixTxt, asS, asL, cellL, atI, ixN, par2S, thawS, thawK, setS, setK, isTyD, kdOf, Tyb.has, eqD_int, eqD_str, stoB_cons, stoB_nil, nc, ncs, cb, cbs, isL, absG, maxG, minG, intG, lenG, lenO, listG, tupG, Option.orElse, setAll, sizeLine_eq, powG, ud__law_spoilt, funD, finD, fin, hs]
  · have h3 : s3__law_spoilt [some (.cell 0), some (.tup [.int p, .int q]), some (.int p), some (.int q), some (.lst [.non, .int 0, .bl true, .str "1/2", .lst [.int p, .int q], .tup [.int p], .tup [.int p, .int q, .int 1], .tup [.int (2 * p + 2), .int 2], .tup [.int p, .int 0], .tup [.int 3, .int (-1)], .tup [], .tup [.bl true, .int 1], .tup [.int 1, .bl true], .tup [.str "1", .int 1], .tup [.int 1, .non], .tup [.tup [.int 1, .int 1], .int 1], .int 1])] (Pu a b :: ν) = .rt (.tup [.int p]) false (Pu a1 b1 :: ν) := by
      simp (maxSteps := 1000000) [seqS, asgS, bindD, eS, retS, retN, ifS, trD, truth, raiseS, nxS, dropS, varD, conD, bin2, opt, R.bind, consD, nilD, tupD, lstD, calD, callD, notD, andD, orD, iteD, negD, subG, modG, mulG, fdivG, addAll, addI, addT, addP, addL, ltG, leG, gtG, geG, cmpG, eqG, neG, blO, isG, isnG, isN, ixG, ixSeq, ixTxt, asS, asL, cellL, atI, ixN, par2S, thawS, thawK, setS, setK, isTyD, kdOf, Tyb.has, eqD_int, eqD_str, stoB_cons, stoB_nil, nc, ncs, cb, cbs, isL, absG, maxG, minG, intG, lenG, lenO, listG, tupG, Option.orElse, setAll, sizeLine_eq, powG, u_s3__law_spoilt, e1]
    refine ⟨.tup [.int p], a1, b1, ?_, fun μ hμ => by
      have h1 : ∀ n, stoB n μ = true := hμ
      simp (maxSteps := 1000000) [seqS, asgS, bindD, eS, retS, retN, ifS, trD, truth, raiseS, nxS, dropS, varD, conD, bin2, opt, R.bind, consD, nilD, tupD, lstD, calD, callD, notD, andD, orD, iteD, negD, subG, modG, mulG, fdivG, addAll, addI, addT, addP, addL, ltG, leG, gtG, geG, cmpG, eqG, neG, blO, isG, isnG, isN, ixG, ixSeq, ixTxt, asS, asL, cellL, atI, ixN, par2S, thawS, thawK, setS, setK, isTyD, kdOf, Tyb.has, eqD_int, eqD_str, stoB_cons, stoB_nil, nc, ncs, cb, cbs, isL, absG, maxG, minG, intG, lenG, lenO, listG, tupG, Option.orElse, setAll, sizeLine_eq, powG, ud_is_fraction, ub_is_fraction, ud_is_number, ub_is_number, funD, finD, h1], rfl⟩
    have fin := start h3
    simp (maxSteps := 1000000) [seqS, asgS, bindD, eS, retS, retN, ifS, trD, truth, raiseS, nxS, dropS, varD, conD, bin2, opt, R.bind, consD, nilD, tupD, lstD, calD, callD, notD, andD, orD, iteD, negD, subG, modG, mulG, fdivG, addAll, addI, addT, addP, addL, ltG, leG, gtG, geG, cmpG, eqG, neG, blO, isG, isnG, isN, ixG, ixSeq, ixTxt, asS, asL, cellL, atI, ixN, par2S, thawS, thawK, setS, setK, isTyD, kdOf, Tyb.has, eqD_int, eqD_str, stoB_cons, stoB_nil, nc, ncs, cb, cbs, isL, absG, maxG, minG, intG, lenG, lenO, listG, tupG, Option.orElse, setAll, sizeLine_eq, powG, ud__law_spoilt, funD, finD, fin, hs]
  · have h3 : s3__law_spoilt [some (.cell 0), some (.tup [.int p, .int q]), some (.int p), some (.int q), some (.lst [.non, .int 0, .bl true, .str "1/2", .lst [.int p, .int q], .tup [.int p], .tup [.int p, .int q, .int 1], .tup [.int (2 * p + 2), .int 2], .tup [.int p, .int 0], .tup [.int 3, .int (-1)], .tup [], .tup [.bl true, .int 1], .tup [.int 1, .bl true], .tup [.str "1", .int 1], .tup [.int 1, .non], .tup [.tup [.int 1, .int 1], .int 1], .int 1])] (Pu a b :: ν) = .rt (.tup [.int p, .int q, .int 1]) false (Pu a1 b1 :: ν) := by
      simp (maxSteps := 1000000) [seqS, asgS, bindD, eS, retS, retN, ifS, trD, truth, raiseS, nxS, dropS, varD, conD, bin2, opt, R.bind, consD, nilD, tupD, lstD, calD, callD, notD, andD, orD, iteD, negD, subG, modG, mulG, fdivG, addAll, addI, addT, addP, addL, ltG, leG, gtG, geG, cmpG, eqG, neG, blO, isG, isnG, isN, ixG, ixSeq, ixTxt, asS, asL, cellL, atI, ixN, par2S, thawS, thawK, setS, setK, isTyD, kdOf, Tyb.has, eqD_int, eqD_str, stoB_cons, stoB_nil, nc, ncs, cb, cbs, isL, absG, maxG, minG, intG, lenG, lenO, listG, tupG, Option.orElse, setAll, sizeLine_eq, powG, u_s3__law_spoilt, e1]
    refine ⟨.tup [.int p, .int q, .int 1], a1, b1, ?_, fun μ hμ => by
      have h1 : ∀ n, stoB n μ = true := hμ
      simp (maxSteps := 1000000) [seqS, asgS, bindD, eS, retS, retN, ifS, trD, truth, raiseS, nxS, dropS, varD, conD, bin2, opt, R.bind, consD, nilD, tupD, lstD, calD, callD, notD, andD, orD, iteD, negD, subG, modG, mulG, fdivG, addAll, addI, addT, addP, addL, ltG, leG, gtG, geG, cmpG, eqG, neG, blO, isG, isnG, isN, ixG, ixSeq, ixTxt, asS, asL, cellL, atI, ixN, par2S, thawS, thawK, setS, setK, isTyD, kdOf, Tyb.has, eqD_int, eqD_str, stoB_cons, stoB_nil, nc, ncs, cb, cbs, isL, absG, maxG, minG, intG, lenG, lenO, listG, tupG, Option.orElse, setAll, sizeLine_eq, powG, ud_is_fraction, ub_is_fraction, ud_is_number, ub_is_number, funD, finD, h1], rfl⟩
    have fin := start h3
    simp (maxSteps := 1000000) [seqS, asgS, bindD, eS, retS, retN, ifS, trD, truth, raiseS, nxS, dropS, varD, conD, bin2, opt, R.bind, consD, nilD, tupD, lstD, calD, callD, notD, andD, orD, iteD, negD, subG, modG, mulG, fdivG, addAll, addI, addT, addP, addL, ltG, leG, gtG, geG, cmpG, eqG, neG, blO, isG, isnG, isN, ixG, ixSeq, ixTxt, asS, asL, cellL, atI, ixN, par2S, thawS, thawK, setS, setK, isTyD, kdOf, Tyb.has, eqD_int, eqD_str, stoB_cons, stoB_nil, nc, ncs, cb, cbs, isL, absG, maxG, minG, intG, lenG, lenO, listG, tupG, Option.orElse, setAll, sizeLine_eq, powG, ud__law_spoilt, funD, finD, fin, hs]
  · have h3 : s3__law_spoilt [some (.cell 0), some (.tup [.int p, .int q]), some (.int p), some (.int q), some (.lst [.non, .int 0, .bl true, .str "1/2", .lst [.int p, .int q], .tup [.int p], .tup [.int p, .int q, .int 1], .tup [.int (2 * p + 2), .int 2], .tup [.int p, .int 0], .tup [.int 3, .int (-1)], .tup [], .tup [.bl true, .int 1], .tup [.int 1, .bl true], .tup [.str "1", .int 1], .tup [.int 1, .non], .tup [.tup [.int 1, .int 1], .int 1], .int 1])] (Pu a b :: ν) = .rt (.tup [.int (2 * p + 2), .int 2]) false (Pu a1 b1 :: ν) := by
      simp (maxSteps := 1000000) [seqS, asgS, bindD, eS, retS, retN, ifS, trD, truth, raiseS, nxS, dropS, varD, conD, bin2, opt, R.bind, consD, nilD, tupD, lstD, calD, callD, notD, andD, orD, iteD, negD, subG, modG, mulG, fdivG, addAll, addI, addT, addP, addL, ltG, leG, gtG, geG, cmpG, eqG, neG, blO, isG, isnG, isN, ixG, ixSeq, ixTxt, asS, asL, cellL, atI, ixN, par2S, thawS, thawK, setS, setK, isTyD, kdOf, Tyb.has, eqD_int, eqD_str, stoB_cons, stoB_nil, nc, ncs, cb, cbs, isL, absG, maxG, minG, intG, lenG, lenO, listG, tupG, Option.orElse, setAll, sizeLine_eq, powG, u_s3__law_spoilt, e1]
    refine ⟨.tup [.int (2 * p + 2), .int 2], a1, b1, ?_, spo_pair (fun z => gcd_even p z.2), rfl⟩
    have fin := start h3
    simp (maxSteps := 1000000) [seqS, asgS, bindD, eS, retS, retN, ifS, trD, truth, raiseS, nxS, dropS, varD, conD, bin2, opt, R.bind, consD, nilD, tupD, lstD, calD, callD, notD, andD, orD, iteD, negD, subG, modG, mulG, fdivG, addAll, addI, addT, addP, addL, ltG, leG, gtG, geG, cmpG, eqG, neG, blO, isG, isnG, isN, ixG, ixSeq, ixTxt, asS, asL, cellL, atI, ixN, par2S, thawS, thawK, setS, setK, isTyD, kdOf, Tyb.has, eqD_int, eqD_str, stoB_cons, stoB_nil, nc, ncs, cb, cbs, isL, absG, maxG, minG, intG, lenG, lenO, listG, tupG, Option.orElse, setAll, sizeLine_eq, powG, ud__law_spoilt, funD, finD, fin, hs]
  · have h3 : s3__law_spoilt [some (.cell 0), some (.tup [.int p, .int q]), some (.int p), some (.int q), some (.lst [.non, .int 0, .bl true, .str "1/2", .lst [.int p, .int q], .tup [.int p], .tup [.int p, .int q, .int 1], .tup [.int (2 * p + 2), .int 2], .tup [.int p, .int 0], .tup [.int 3, .int (-1)], .tup [], .tup [.bl true, .int 1], .tup [.int 1, .bl true], .tup [.str "1", .int 1], .tup [.int 1, .non], .tup [.tup [.int 1, .int 1], .int 1], .int 1])] (Pu a b :: ν) = .rt (.tup [.int p, .int 0]) false (Pu a1 b1 :: ν) := by
      simp (maxSteps := 1000000) [seqS, asgS, bindD, eS, retS, retN, ifS, trD, truth, raiseS, nxS, dropS, varD, conD, bin2, opt, R.bind, consD, nilD, tupD, lstD, calD, callD, notD, andD, orD, iteD, negD, subG, modG, mulG, fdivG, addAll, addI, addT, addP, addL, ltG, leG, gtG, geG, cmpG, eqG, neG, blO, isG, isnG, isN, ixG, ixSeq, ixTxt, asS, asL, cellL, atI, ixN, par2S, thawS, thawK, setS, setK, isTyD, kdOf, Tyb.has, eqD_int, eqD_str, stoB_cons, stoB_nil, nc, ncs, cb, cbs, isL, absG, maxG, minG, intG, lenG, lenO, listG, tupG, Option.orElse, setAll, sizeLine_eq, powG, u_s3__law_spoilt, e1]
    refine ⟨.tup [.int p, .int 0], a1, b1, ?_, spo_pair (fun z => absurd z.1 (by decide)), rfl⟩
    have fin := start h3
    simp (maxSteps := 1000000) [seqS, asgS, bindD, eS, retS, retN, ifS, trD, truth, raiseS, nxS, dropS, varD, conD, bin2, opt, R.bind, consD, nilD, tupD, lstD, calD, callD, notD, andD, orD, iteD, negD, subG, modG, mulG, fdivG, addAll, addI, addT, addP, addL, ltG, leG, gtG, geG, cmpG, eqG, neG, blO, isG, isnG, isN, ixG, ixSeq, ixTxt, asS, asL, cellL, atI, ixN, par2S, thawS, thawK, setS, setK, isTyD, kdOf, Tyb.has, eqD_int, eqD_str, stoB_cons, stoB_nil, nc, ncs, cb, cbs, isL, absG, maxG, minG, intG, lenG, lenO, listG, tupG, Option.orElse, setAll, sizeLine_eq, powG, ud__law_spoilt, funD, finD, fin, hs]
  · have h3 : s3__law_spoilt [some (.cell 0), some (.tup [.int p, .int q]), some (.int p), some (.int q), some (.lst [.non, .int 0, .bl true, .str "1/2", .lst [.int p, .int q], .tup [.int p], .tup [.int p, .int q, .int 1], .tup [.int (2 * p + 2), .int 2], .tup [.int p, .int 0], .tup [.int 3, .int (-1)], .tup [], .tup [.bl true, .int 1], .tup [.int 1, .bl true], .tup [.str "1", .int 1], .tup [.int 1, .non], .tup [.tup [.int 1, .int 1], .int 1], .int 1])] (Pu a b :: ν) = .rt (.tup [.int 3, .int (-1)]) false (Pu a1 b1 :: ν) := by
      simp (maxSteps := 1000000) [seqS, asgS, bindD, eS, retS, retN, ifS, trD, truth, raiseS, nxS, dropS, varD, conD, bin2, opt, R.bind, consD, nilD, tupD, lstD, calD, callD, notD, andD, orD, iteD, negD, subG, modG, mulG, fdivG, addAll, addI, addT, addP, addL, ltG, leG, gtG, geG, cmpG, eqG, neG, blO, isG, isnG, isN, ixG, ixSeq, ixTxt, asS, asL, cellL, atI, ixN, par2S, thawS, thawK, setS, setK, isTyD, kdOf, Tyb.has, eqD_int, eqD_str, stoB_cons, stoB_nil, nc, ncs, cb, cbs, isL, absG, maxG, minG, intG, lenG, lenO, listG, tupG, Option.orElse, setAll, sizeLine_eq, powG, u_s3__law_spoilt, e1]
    refine ⟨.tup [.int 3, .int (-1)], a1, b1, ?_, spo_pair (fun z => absurd z.1 (by decide)), rfl⟩
    have fin := start h3
    simp (maxSteps := 1000000) [seqS, asgS, bindD, eS, retS, retN, ifS, trD, truth, raiseS, nxS, dropS, varD, conD, bin2, opt, R.bind, consD, nilD, tupD, lstD, calD, callD, notD, andD, orD, iteD, negD, subG, modG, mulG, fdivG, addAll, addI, addT, addP, addL, ltG, leG, gtG, geG, cmpG, eqG, neG, blO, isG, isnG, isN, ixG, ixSeq, ixTxt, asS, asL, cellL, atI, ixN, par2S, thawS, thawK, setS, setK, isTyD, kdOf, Tyb.has, eqD_int, eqD_str, stoB_cons, stoB_nil, nc, ncs, cb, cbs, isL, absG, maxG, minG, intG, lenG, lenO, listG, tupG, Option.orElse, setAll, sizeLine_eq, powG, ud__law_spoilt, funD, finD, fin, hs]
  · have h3 : s3__law_spoilt [some (.cell 0), some (.tup [.int p, .int q]), some (.int p), some (.int q), some (.lst [.non, .int 0, .bl true, .str "1/2", .lst [.int p, .int q], .tup [.int p], .tup [.int p, .int q, .int 1], .tup [.int (2 * p + 2), .int 2], .tup [.int p, .int 0], .tup [.int 3, .int (-1)], .tup [], .tup [.bl true, .int 1], .tup [.int 1, .bl true], .tup [.str "1", .int 1], .tup [.int 1, .non], .tup [.tup [.int 1, .int 1], .int 1], .int 1])] (Pu a b :: ν) = .rt (.tup []) false (Pu a1 b1 :: ν) := by
      simp (maxSteps := 1000000) [seqS, asgS, bindD, eS, retS, retN, ifS, trD, truth, raiseS, nxS, dropS, varD, conD, bin2, opt, R.bind, consD, nilD, tupD, lstD, calD, callD, notD, andD, orD, iteD, negD, subG, modG, mulG, fdivG, addAll, addI, addT, addP, addL, ltG, leG, gtG, geG, cmpG, eqG, neG, blO, isG, isnG, isN, ixG, ixSeq, ixTxt, asS, asL, cellL, atI, ixN, par2S, thawS, thawK, setS, setK, isTyD, kdOf, Tyb.has, eqD_int, eqD_str, stoB_cons, stoB_nil, nc, ncs, cb, cbs, isL, absG, maxG, minG, intG, lenG, lenO, listG, tupG, Option.orElse, setAll, sizeLine_eq, powG, u_s3__law_spoilt, e1]
    refine ⟨.tup [], a1, b1, ?_, fun μ hμ => by
      have h1 : ∀ n, stoB n μ = true := hμ
      simp (maxSteps := 1000000) [seqS, asgS, bindD, eS, retS, retN, ifS, trD, truth, raiseS, nxS, dropS, varD, conD, bin2, opt, R.bind, consD, nilD, tupD, lstD, calD, callD, notD, andD, orD, iteD, negD, subG, modG, mulG, fdivG, addAll, addI, addT, addP, addL, ltG, leG, gtG, geG, cmpG, eqG, neG, blO, isG, isnG, isN, ixG, ixSeq, ixTxt, asS, asL, cellL, atI, ixN, par2S, thawS, thawK, setS, setK, isTyD, kdOf, Tyb.has, eqD_int, eqD_str, stoB_cons, stoB_nil, nc, ncs, cb, cbs, isL, absG, maxG, minG, intG, lenG, lenO, listG, tupG, Option.orElse, setAll, sizeLine_eq, powG, ud_is_fraction, ub_is_fraction, ud_is_number, ub_is_number, funD, finD, h1], rfl⟩
    have fin := start h3
    simp (maxSteps := 1000000) [seqS, asgS, bindD, eS, retS, retN, ifS, trD, truth, raiseS, nxS, dropS, varD, conD, bin2, opt, R.bind, consD, nilD, tupD, lstD, calD, callD, notD, andD, orD, iteD, negD, subG, modG, mulG, fdivG, addAll, addI, addT, addP, addL, ltG, leG, gtG, geG, cmpG, eqG, neG, blO, isG, isnG, isN, ixG, ixSeq, ixTxt, asS, asL, cellL, atI, ixN, par2S, thawS, thawK, setS, setK, isTyD, kdOf, Tyb.has, eqD_int, eqD_str, stoB_cons, stoB_nil, nc, ncs, cb, cbs, isL, absG, maxG, minG, intG, lenG, lenO, listG, tupG, Option.orElse, setAll, sizeLine_eq, powG, ud__law_spoilt, funD, finD, fin, hs]
  · have h3 : s3__law_spoilt [some (.cell 0), some (.tup [.int p, .int q]), some (.int p), some (.int q), some (.lst [.non, .int 0, .bl true, .str "1/2", .lst [.int p, .int q], .tup [.int p], .tup [.int p, .int q, .int 1], .tup [.int (2 * p + 2), .int 2], .tup [.int p, .int 0], .tup [.int 3, .int (-1)], .tup [], .tup [.bl true, .int 1], .tup [.int 1, .bl true], .tup [.str "1", .int 1], .tup [.int 1, .non], .tup [.tup [.int 1, .int 1], .int 1], .int 1])] (Pu a b :: ν) = .rt (.tup [.bl true, .int 1]) false (Pu a1 b1 :: ν) := by
      simp (maxSteps := 1000000) [seqS, asgS, bindD, eS, retS, retN, ifS, trD, truth, raiseS, nxS, dropS, varD, conD, bin2, opt, R.bind, consD, nilD, tupD, lstD, calD, callD, notD, andD, orD, iteD, negD, subG, modG, mulG, fdivG, addAll, addI, addT, addP, addL, ltG, leG, gtG, geG, cmpG, eqG, neG, blO, isG, isnG, isN, ixG, ixSeq, ixTxt, asS, asL, cellL, atI, ixN, par2S, thawS, thawK, setS, setK, isTyD, kdOf, Tyb.has, eqD_int, eqD_str, stoB_cons, stoB_nil, nc, ncs, cb, cbs, isL, absG, maxG, minG, intG, lenG, lenO, listG, tupG, Option.orElse, setAll, sizeLine_eq, powG, u_s3__law_spoilt, e1]
    refine ⟨.tup [.bl true, .int 1], a1, b1, ?_, fun μ hμ => by
      have h1 : ∀ n, stoB n μ = true := hμ
      simp (maxSteps := 1000000) [seqS, asgS, bindD, eS, retS, retN, ifS, trD, truth, raiseS, nxS, dropS, varD, conD, bin2, opt, R.bind, consD, nilD, tupD, lstD, calD, callD, notD, andD, orD, iteD, negD, subG, modG, mulG, fdivG, addAll, addI, addT, addP, addL, ltG, leG, gtG, geG, cmpG, eqG, neG, blO, isG, isnG, isN, ixG, ixSeq, ixTxt, asS, asL, cellL, atI, ixN, par2S, thawS, thawK, setS, setK, isTyD, kdOf, Tyb.has, eqD_int, eqD_str, stoB_cons, stoB_nil, nc, ncs, cb, cbs, isL, absG, maxG, minG, intG, lenG, lenO, listG, tupG, Option.orElse, setAll, sizeLine_eq, powG, ud_is_fraction, ub_is_fraction, ud_is_number, ub_is_number, funD, finD, h1], rfl⟩
    have fin := start h3
    simp (maxSteps := 1000000) [seqS, asgS, bindD, eS, retS, retN, ifS, trD, truth, raiseS, nxS, dropS, varD, conD, bin2, opt, R.bind, consD, nilD, tupD, lstD, calD, callD, notD, andD, orD, iteD, negD, subG, modG, mulG, fdivG, addAll, addI, addT, addP, addL, ltG, leG, gtG, geG, cmpG, eqG, neG, blO, isG, isnG, isN, ixG, ixSeq, ixTxt, asS, asL, cellL, atI, ixN, par2S, thawS, thawK, setS, setK, isTyD, kdOf, Tyb.has, eqD_int, eqD_str, stoB_cons, stoB_nil, nc, ncs, cb, cbs, isL, absG, maxG, minG, intG, lenG, lenO, listG, tupG, Option.orElse, setAll, sizeLine_eq, powG, ud__law_spoilt, funD, finD, fin, hs]
  · have h3 : s3__law_spoilt [some (.cell 0), some (.tup [.int p, .int q]), some (.int p), some (.int q), some (.lst [.non, .int 0, .bl true, .str "1/2", .lst [.int p, .int q], .tup [.int p], .tup [.int p, .int q, .int 1], .tup [.int (2 * p + 2), .int 2], .tup [.int p, .int 0], .tup [.int 3, .int (-1)], .tup [], .tup [.bl true, .int 1], .tup [.int 1, .bl true], .tup [.str "1", .int 1], .tup [.int 1, .non], .tup [.tup [.int 1, .int 1], .int 1], .int 1])] (Pu a b :: ν) = .rt (.tup [.int 1, .bl true]) false (Pu a1 b1 :: ν) := by
      simp (maxSteps := 1000000) [seqS, asgS, bindD, eS, retS, retN, ifS, trD, truth, raiseS, nxS, dropS, varD, conD, bin2, opt, R.bind, consD, nilD, tupD, lstD, calD, callD, notD, andD, orD, iteD, negD, subG, modG, mulG, fdivG, addAll, addI, addT, addP, addL, ltG, leG, gtG, geG, cmpG, eqG, neG, blO, isG, isnG, isN, ixG, ixSeq, ixTxt, asS, asL, cellL, atI, ixN, par2S, thawS, thawK, setS, setK, isTyD, kdOf, Tyb.has, eqD_int, eqD_str, stoB_cons, stoB_nil, nc, ncs, cb, cbs, isL, absG, maxG, minG, intG, lenG, lenO, listG, tupG, Option.orElse, setAll, sizeLine_eq, powG, u_s3__law_spoilt, e1]
    refine ⟨.tup [.int 1, .bl true], a1, b1, ?_, fun μ hμ => by
      have h1 : ∀ n, stoB n μ = true := hμ
      simp (maxSteps := 1000000) [seqS, asgS, bindD, eS, retS, retN, ifS, trD, truth, raiseS, nxS, dropS, varD, conD, bin2, opt, R.bind, consD, nilD, tupD, lstD, calD, callD, notD, andD, orD, iteD, negD, subG, modG, mulG, fdivG, addAll, addI, addT, addP, addL, ltG, leG, gtG, geG, cmpG, eqG, neG, blO, isG, isnG, isN, ixG, ixSeq, ixTxt, asS, asL, cellL, atI, ixN, par2S, thawS, thawK, setS, setK, isTyD, kdOf, Tyb.has, eqD_int, eqD_str, stoB_cons, stoB_nil, nc, ncs, cb, cbs, isL, absG, maxG, minG, intG, lenG, lenO, listG, tupG, Option.orElse, setAll, sizeLine_eq, powG, ud_is_fraction, ub_is_fraction, ud_is_number, ub_is_number, funD, finD, h1], rfl⟩
    have fin := start h3
    simp (maxSteps := 1000000) [seqS, asgS, bindD, eS, retS, retN, ifS, trD, truth, raiseS, nxS, dropS, varD, conD, bin2, opt, R.bind, consD, nilD, tupD, lstD, calD, callD, notD, andD, orD, iteD, negD, subG, modG, mulG, fdivG, addAll, addI, addT, addP, addL, ltG, leG, gtG, geG, cmpG, eqG, neG, blO, isG, isnG, isN, ixG, ixSeq, ixTxt, asS, asL, cellL, atI, ixN, par2S, thawS, thawK, setS, setK, isTyD, kdOf, Tyb.has, eqD_int, eqD_str, stoB_cons, stoB_nil, nc, ncs, cb, cbs, isL, absG, maxG, minG, intG, lenG, lenO, listG, tupG, Option.orElse, setAll, sizeLine_eq, powG, ud__law_spoilt, funD, finD, fin, hs]
  · have h3 : s3__law_spoilt [some (.cell 0), some (.tup [.int p, .int q]), some (.int p), some (.int q), some (.lst [.non, .int 0, .bl true, .str "1/2", .lst [.int p, .int q], .tup [.int p], .tup [.int p, .int q, .int 1], .tup [.int (2 * p + 2), .int 2], .tup [.int p, .int 0], .tup [.int 3, .int (-1)], .tup [], .tup [.bl true, .int 1], .tup [.int 1, .bl true], .tup [.str "1", .int 1], .tup [.int 1, .non], .tup [.tup [.int 1, .int 1], .int 1], .int 1])] (Pu a b :: ν) = .rt (.tup [.str "1", .int 1]) false (Pu a1 b1 :: ν) := by
      simp (maxSteps := 1000000) [seqS, asgS, bindD, eS, retS, retN, ifS, trD, truth, raiseS, nxS, dropS, varD, conD, bin2, opt, R.bind, consD, nilD, tupD, lstD, calD, callD, notD, andD, orD, iteD, negD, subG, modG, mulG, fdivG, addAll, addI, addT, addP, addL, ltG, leG, gtG, geG, cmpG, eqG, neG, blO, isG, isnG, isN, ixG, ixSeq, ixTxt, asS, asL, cellL, atI, ixN, par2S, thawS, thawK, setS, setK, isTyD, kdOf, Tyb.has, eqD_int, eqD_str, stoB_cons, stoB_nil, nc, ncs, cb, cbs, isL, absG, maxG, minG, intG, lenG, lenO, listG, tupG, Option.orElse, setAll, sizeLine_eq, powG, u_s3__law_spoilt, e1]
    refine ⟨.tup [.str "1", .int 1], a1, b1, ?_, fun μ hμ => by
      have h1 : ∀ n, stoB n μ = true := hμ
      simp (maxSteps := 1000000) [seqS, asgS, bindD, eS, retS, retN, ifS, trD, truth, raiseS, nxS, dropS, varD, conD, bin2, opt, R.bind, consD, nilD, tupD, lstD, calD, callD, notD, andD, orD, iteD, negD, subG, modG, mulG, fdivG, addAll, addI, addT, addP, addL, ltG, leG, gtG, geG, cmpG, eqG, neG, blO, isG, isnG, isN, ixG, ixSeq, ixTxt, asS, asL, cellL, atI, ixN, par2S, thawS, thawK, setS, setK, isTyD, kdOf, Tyb.has, eqD_int, eqD_str, stoB_cons, stoB_nil, nc, ncs, cb, cbs, isL, absG, maxG, minG, intG, lenG, lenO, listG, tupG, Option.orElse, setAll, sizeLine_eq, powG, ud_is_fraction, ub_is_fraction, ud_is_number, ub_is_number, funD, finD, h1], rfl⟩
    have fin := start h3
    simp (maxSteps := 1000000) [seqS, asgS, bindD, eS, retS, retN, ifS, trD, truth, raiseS, nxS, dropS, varD, conD, bin2, opt, R.bind, consD, nilD, tupD, lstD, calD, callD, notD, andD, orD, iteD, negD, subG, modG, mulG, fdivG, addAll, addI, addT, addP, addL, ltG, leG, gtG, geG, cmpG, eqG, neG, blO, isG, isnG, isN, ixG, ixSeq, ixTxt, asS, asL, cellL, atI, ixN, par2S, thawS, thawK, setS, setK, isTyD, kdOf, Tyb.has, eqD_int, eqD_str, stoB_cons, stoB_nil, nc, ncs, cb, cbs, isL, absG, maxG, minG, intG, lenG, lenO, listG, tupG, Option.orElse, setAll, sizeLine_eq, powG, ud__law_spoilt, funD, finD, fin, hs]
  · have h3 : s3__law_spoilt [some (.cell 0), some (.tup [.int p, .int q]), some (.int p), some (.int q), some (.lst [.non, .int 0, .bl true, .str "1/2", .lst [.int p, .int q], .tup [.int p], .tup [.int p, .int q, .int 1], .tup [.int (2 * p + 2), .int 2], .tup [.int p, .int 0], .tup [.int 3, .int (-1)], .tup [], .tup [.bl true, .int 1], .tup [.int 1, .bl true], .tup [.str "1", .int 1], .tup [.int 1, .non], .tup [.tup [.int 1, .int 1], .int 1], .int 1])] (Pu a b :: ν) = .rt (.tup [.int 1, .non]) false (Pu a1 b1 :: ν) := by
      simp (maxSteps := 1000000) [seqS, asgS, bindD, eS, retS, retN, ifS, trD, truth, raiseS, nxS, dropS, varD, conD, bin2, opt, R.bind, consD, nilD, tupD, lstD, calD, callD, notD, andD, orD, iteD, negD, subG, modG, mulG, fdivG, addAll, addI, addT, addP, addL, ltG, leG, gtG, geG, cmpG, eqG, neG, blO, isG, isnG, isN, ixG, ixSeq, ixTxt, asS, asL, cellL, atI, ixN, par2S, thawS, thawK, setS, setK, isTyD, kdOf, Tyb.has, eqD_int, eqD_str, stoB_cons, stoB_nil, nc, ncs, cb, cbs, isL, absG, maxG, minG, intG, lenG, lenO, listG, tupG, Option.orElse, setAll, sizeLine_eq, powG, u_s3__law_spoilt, e1]
    refine ⟨.tup [.int 1, .non], a1, b1, ?_, fun μ hμ => by
      have h1 : ∀ n, stoB n μ = true := hμ
      simp (maxSteps := 1000000) [seqS, asgS, bindD, eS, retS, retN, ifS, trD, truth, raiseS, nxS, dropS, varD, conD, bin2, opt, R.bind, consD, nilD, tupD, lstD, calD, callD, notD, andD, orD, iteD, negD, subG, modG, mulG, fdivG, addAll, addI, addT, addP, addL, ltG, leG, gtG, geG, cmpG, eqG, neG, blO, isG, isnG, isN, ixG, ixSeq, ixTxt, asS, asL, cellL, atI, ixN, par2S, thawS, thawK, setS, setK, isTyD, kdOf, Tyb.has, eqD_int, eqD_str, stoB_cons, stoB_nil, nc, ncs, cb, cbs, isL, absG, maxG, minG, intG, lenG, lenO, listG, tupG, Option.orElse, setAll, sizeLine_eq, powG, ud_is_fraction, ub_is_fraction, ud_is_number, ub_is_number, funD, finD, h1], rfl⟩
    have fin := start h3
    simp (maxSteps := 1000000) [seqS, asgS, bindD, eS, retS, retN, ifS, trD, truth, raiseS, nxS, dropS, varD, conD, bin2, opt, R.bind, consD, nilD, tupD, lstD, calD, callD, notD, andD, orD, iteD, negD, subG, modG, mulG, fdivG, addAll, addI, addT, addP, addL, ltG, leG, gtG, geG, cmpG, eqG, neG, blO, isG, isnG, isN, ixG, ixSeq, ixTxt, asS, asL, cellL, atI, ixN, par2S, thawS, thawK, setS, setK, isTyD, kdOf, Tyb.has, eqD_int, eqD_str, stoB_cons, stoB_nil, nc, ncs, cb, cbs, isL, absG, maxG, minG, intG, lenG, lenO, listG, tupG, Option.orElse, setAll, sizeLine_eq, powG, ud__law_spoilt, funD, finD, fin, hs]
  · have h3 : s3__law_spoilt [some (.cell 0), some (.tup [.int p, .int q]), some (.int p), some (.int q), some (.lst [.non, .int 0, .bl true, .str "1/2", .lst [.int p, .int q], .tup [.int p], .tup [.int p, .int q, .int 1], .tup [.int (2 * p + 2), .int 2], .tup [.int p, .int 0], .tup [.int 3, .int (-1)], .tup [], .tup [.bl true, .int 1], .tup [.int 1, .bl true], .tup [.str "1", .int 1], .tup [.int 1, .non], .tup [.tup [.int 1, .int 1], .int 1], .int 1])] (Pu a b :: ν) = .rt (.tup [.tup [.int 1, .int 1], .int 1]) false (Pu a1 b1 :: ν) := by
      simp (maxSteps := 1000000) [seqS, asgS, bindD, eS, retS, retN, ifS, trD, truth, raiseS, nxS, dropS, varD, conD, bin2, opt, R.bind, consD, nilD, tupD, lstD, calD, callD, notD, andD, orD, iteD, negD, subG, modG, mulG, fdivG, addAll, addI, addT, addP, addL, ltG, leG, gtG, geG, cmpG, eqG, neG, blO, isG, isnG, isN, ixG, ixSeq, ixTxt, asS, asL, cellL, atI, ixN, par2S, thawS, thawK, setS, setK, isTyD, kdOf, Tyb.has, eqD_int, eqD_str, stoB_cons, stoB_nil, nc, ncs, cb, cbs, isL, absG, maxG, minG, intG, lenG, lenO, listG, tupG, Option.orElse, setAll, sizeLine_eq, powG, u_s3__law_spoilt, e1]
    refine ⟨.tup [.tup [.int 1, .int 1], .int 1], a1, b1, ?_, fun μ hμ => by
      have h1 : ∀ n, stoB n μ = true := hμ
      simp (maxSteps := 1000000) [seqS, asgS, bindD, eS, retS, retN, ifS, trD, truth, raiseS, nxS, dropS, varD, conD, bin2, opt, R.bind, consD, nilD, tupD, lstD, calD, callD, notD, andD, orD, iteD, negD, subG, modG, mulG, fdivG, addAll, addI, addT, addP, addL, ltG, leG, gtG, geG, cmpG, eqG, neG, blO, isG, isnG, isN, ixG, ixSeq, ixTxt, asS, asL, cellL, atI, ixN, par2S, thawS, thawK, setS, setK, isTyD, kdOf, Tyb.has, eqD_int, eqD_str, stoB_cons, stoB_nil, nc, ncs, cb, cbs, isL, absG, maxG, minG, intG, lenG, lenO, listG, tupG, Option.orElse, setAll, sizeLine_eq, powG, ud_is_fraction, ub_is_fraction, ud_is_number, ub_is_number, funD, finD, h1], rfl⟩
    have fin := start h3
    simp (maxSteps := 1000000) [seqS, asgS, bindD, eS, retS, retN, ifS, trD, truth, raiseS, nxS, dropS, varD, conD, bin2, opt, R.bind, consD, nilD, tupD, lstD, calD, callD, notD, andD, orD, iteD, negD, subG, modG, mulG, fdivG, addAll, addI, addT, addP, addL, ltG, leG, gtG, geG, cmpG, eqG, neG, blO, isG, isnG, isN, ixG, ixSeq, ixTxt, asS, asL, cellL, atI, ixN, par2S, thawS, thawK, setS, setK, isTyD, kdOf, Tyb.has, eqD_int, eqD_str, stoB_cons, stoB_nil, nc, ncs, cb, cbs, isL, absG, maxG, minG, intG, lenG, lenO, listG, tupG, Option.orElse, setAll, sizeLine_eq, powG, ud__law_spoilt, funD, finD, fin, hs]
  · have h3 : s3__law_spoilt [some (.cell 0), some (.tup [.int p, .int q]), some (.int p), some (.int q), some (.lst [.non, .int 0, .bl true, .str "1/2", .lst [.int p, .int q], .tup [.int p], .tup [.int p, .int q, .int 1], .tup [.int (2 * p + 2), .int 2], .tup [.int p, .int 0], .tup [.int 3, .int (-1)], .tup [], .tup [.bl true, .int 1], .tup [.int 1, .bl true], .tup [.str "1", .int 1], .tup [.int 1, .non], .tup [.tup [.int 1, .int 1], .int 1], .int 1])] (Pu a b :: ν) = .rt (.int 1) false (Pu a1 b1 :: ν) := by
      simp (maxSteps := 1000000) [seqS, asgS, bindD, eS, retS, retN, ifS, trD, truth, raiseS, nxS, dropS, varD, conD, bin2, opt, R.bind, consD, nilD, tupD, lstD, calD, callD, notD, andD, orD, iteD, negD, subG, modG, mulG, fdivG, addAll, addI, addT, addP, addL, ltG, leG, gtG, geG, cmpG, eqG, neG, blO, isG, isnG, isN, ixG, ixSeq, ixTxt, asS, asL, cellL, atI, ixN, par2S, thawS, thawK, setS, setK, isTyD, kdOf, Tyb.has, eqD_int, eqD_str, stoB_cons, stoB_nil, nc, ncs, cb, cbs, isL, absG, maxG, minG, intG, lenG, lenO, listG, tupG, Option.orElse, setAll, sizeLine_eq, powG, u_s3__law_spoilt, e1]
    refine ⟨.int 1, a1, b1, ?_, fun μ hμ => by
      have h1 : ∀ n, stoB n μ = true := hμ
      simp (maxSteps := 1000000) [seqS, asgS, bindD, eS, retS, retN, ifS, trD, truth, raiseS, nxS, dropS, varD, conD, bin2, opt, R.bind, consD, nilD, tupD, lstD, calD, callD, notD, andD, orD, iteD, negD, subG, modG, mulG, fdivG, addAll, addI, addT, addP, addL, ltG, leG, gtG, geG, cmpG, eqG, neG, blO, isG, isnG, isN, ixG, ixSeq, ixTxt, asS, asL, cellL, atI, ixN, par2S, thawS, thawK, setS, setK, isTyD, kdOf, Tyb.has, eqD_int, eqD_str, stoB_cons, stoB_nil, nc, ncs, cb, cbs, isL, absG, maxG, minG, intG, lenG, lenO, listG, tupG, Option.orElse, setAll, sizeLine_eq, powG, ud_is_fraction, ub_is_fraction, ud_is_number, ub_is_number, funD, finD, h1], rfl⟩
    have fin := start h3
    simp (maxSteps := 1000000) [seqS, asgS, bindD, eS, retS, retN, ifS, trD, truth, raiseS, nxS, dropS, varD, conD, bin2, opt, R.bind, consD, nilD, tupD, lstD, calD, callD, notD, andD, orD, iteD, negD, subG, modG, mulG, fdivG, addAll, addI, addT, addP, addL, ltG, leG, gtG, geG, cmpG, eqG, neG, blO, isG, isnG, isN, ixG, ixSeq, ixTxt, asS, asL, cellL, atI, ixN, par2S, thawS, thawK, setS, setK, isTyD, kdOf, Tyb.has, eqD_int, eqD_str, stoB_cons, stoB_nil, nc, ncs, cb, cbs, isL, absG, maxG, minG, intG, lenG, lenO, listG, tupG, Option.orElse, setAll, sizeLine_eq, powG, ud__law_spoilt, funD, finD, fin, hs]
/-- what is known of a value: no fraction; a fraction with this top -/
def Stt (x : D) (o : Option Int) : Prop := match o with
  | none => ∀ μ, Ls μ → d_is_fraction [x] μ = .ok (.bl false) μ
  | some n => ∃ m, x = .tup [.int n, .int m] ∧ ∀ μ, Ls μ → d_is_fraction [x] μ = .ok (.bl true) μ
theorem Good.st {k : Nat} {a b : Int} (g : Good k a b) : Stt (.tup [.int a, .int b]) (some a) :=
  ⟨b, rfl, fun μ h => by rw [isfr_pair _ _ _ h, decide_eq_true ⟨g.bot, g.r.g⟩]⟩
theorem one_st (n : Int) : Stt (.tup [.int n, .int 1]) (some n) :=
  ⟨1, rfl, fun μ h => by rw [isfr_pair _ _ _ h, decide_eq_true ⟨by omega, by simp⟩]⟩
theorem Spo.st {d : D} (h : Spo d) : Stt d none := h
theorem cc_bad {x y z : D} {o1 o2 o3 : Option Int} (hx : Stt x o1) (hy : Stt y o2) (hz : Stt z o3) (h : o1 = none ∨ o2 = none ∨ o3 = none ∨ ∃ n, o3 = some n ∧ n < 1) (μ : Sto) (hμ : Ls μ) :
    d_circle_curve [x, y, z] μ = .er "NoCircle" μ := by
  have h1 : ∀ n, stoB n μ = true := hμ
  have key : ∀ (x : D) (o : Option Int), Stt x o → d_is_fraction [x] μ = .ok (.bl o.isSome) μ := fun x o s => by
    cases o with
    | none => exact s μ hμ
    | some n => obtain ⟨m, _, s⟩ := s; exact s μ hμ
  have lk := look3 x y z _ _ _ μ hμ (key x o1 hx) (key y o2 hy) (key z o3 hz)
  by_cases hb : (o1.isSome && o2.isSome && o3.isSome) = true
  · rw [if_pos hb] at lk
    simp only [Bool.and_eq_true, Option.isSome_iff_exists] at hb
    obtain ⟨⟨⟨a, rfl⟩, ⟨c, rfl⟩⟩, ⟨e, rfl⟩⟩ := hb
    obtain ⟨f, rfl, _⟩ := hz
    have hc : e < 1 := by simpa using h
    simp (maxSteps := 1000000) [seqS, asgS, bindD, eS, retS, retN, ifS, trD, truth, raiseS, nxS, dropS, varD, conD, bin2, opt, R.bind, consD, nilD, tupD, lstD, calD, callD, notD, andD, orD, iteD, negD, subG, modG, mulG, fdivG, addAll, addI, addT, addP, addL, ltG, leG, gtG, geG, cmpG, eqG, neG, blO, isG, isnG, isN, ixG, ixSeq, ixTxt, asS, asL, cellL, atI, ixN, par2S, thawS, thawK, setS, setK, isTyD, kdOf, Tyb.has, eqD_int, eqD_str, stoB_cons, stoB_nil, nc, ncs, cb, cbs, isL, absG, maxG, minG, intG, lenG, lenO, listG, tupG, Option.orElse, setAll, sizeLine_eq, powG, ud_circle_curve, ub_circle_curve, funD, finD, lk, hc, h1]
  · rw [if_neg hb] at lk
    simp (maxSteps := 1000000) [seqS, asgS, bindD, eS, retS, retN, ifS, trD, truth, raiseS, nxS, dropS, varD, conD, bin2, opt, R.bind, consD, nilD, tupD, lstD, calD, callD, notD, andD, orD, iteD, negD, subG, modG, mulG, fdivG, addAll, addI, addT, addP, addL, ltG, leG, gtG, geG, cmpG, eqG, neG, blO, isG, isnG, isN, ixG, ixSeq, ixTxt, asS, asL, cellL, atI, ixN, par2S, thawS, thawK, setS, setK, isTyD, kdOf, Tyb.has, eqD_int, eqD_str, stoB_cons, stoB_nil, nc, ncs, cb, cbs, isL, absG, maxG, minG, intG, lenG, lenO, listG, tupG, Option.orElse, setAll, sizeLine_eq, powG, ud_circle_curve, ub_circle_curve, funD, finD, lk, h1]
theorem refused_ok {x y z : D} (μ : Sto) (hμ : Ls μ) (h : d_circle_curve [x, y, z] μ = .er "NoCircle" μ) : d__law_refused [x, y, z] μ = .ok (.str "circle") μ := by
  have h1 : ∀ n, stoB n μ = true := hμ
  have k := kinds_circle μ hμ
  have t : tl [("NoBottom", true), ("NoCircle", true)] "NoCircle" = some true := by rfl
  simp (maxSteps := 1000000) [seqS, asgS, bindD, eS, retS, retN, ifS, trD, truth, raiseS, nxS, dropS, varD, conD, bin2, opt, R.bind, consD, nilD, tupD, lstD, calD, callD, notD, andD, orD, iteD, negD, subG, modG, mulG, fdivG, addAll, addI, addT, addP, addL, ltG, leG, gtG, geG, cmpG, eqG, neG, blO, isG, isnG, isN, ixG, ixSeq, ixTxt, asS, asL, cellL, atI, ixN, par2S, thawS, thawK, setS, setK, isTyD, kdOf, Tyb.has, eqD_int, eqD_str, stoB_cons, stoB_nil, nc, ncs, cb, cbs, isL, absG, maxG, minG, intG, lenG, lenO, listG, tupG, Option.orElse, setAll, sizeLine_eq, powG, ud__law_refused, ub__law_refused, funD, finD, keepS, h, h1, k, t]
theorem wholes_ok (kl : List Int) (hl : kl.length = 6) (μ : Sto) (hμ : Ls μ) : d__law_wholes [.tup (kl.map .int), .int 6] μ = .ok (.bl true) μ := by
  have h1 : ∀ n, stoB n μ = true := hμ
  have comp : compD (seqI (varD 0)) (.one 2) ct0__law_wholes ce0__law_wholes [2] [some (.tup (kl.map .int)), some (.int 6), none] μ = .ok (.lst []) μ := by
    unfold compD
    show lcL (fun _ => true) (stepD (.one 2) ct0__law_wholes ce0__law_wholes (wipeD [some (.tup (kl.map .int)), some (.int 6), none] [2])) (kl.map .int) [] μ = _
    rw [lcL_fm (g := fun _ => none) rfl (kl.map .int) [] (fun x hx => ?_) (by rw [sizeLine_eq]; simp; omega)]
    · simp
    · obtain ⟨n, hn, rfl⟩ := List.mem_map.mp hx
      simp (maxSteps := 1000000) [seqS, asgS, bindD, eS, retS, retN, ifS, trD, truth, raiseS, nxS, dropS, varD, conD, bin2, opt, R.bind, consD, nilD, tupD, lstD, calD, callD, notD, andD, orD, iteD, negD, subG, modG, mulG, fdivG, addAll, addI, addT, addP, addL, ltG, leG, gtG, geG, cmpG, eqG, neG, blO, isG, isnG, isN, ixG, ixSeq, ixTxt, asS, asL, cellL, atI, ixN, par2S, thawS, thawK, setS, setK, isTyD, kdOf, Tyb.has, eqD_int, eqD_str, stoB_cons, stoB_nil, nc, ncs, cb, cbs, isL, absG, maxG, minG, intG, lenG, lenO, listG, tupG, Option.orElse, setAll, sizeLine_eq, powG, stepD, noEr, wipeD, u_ct0__law_wholes]
  have s0 : s0__law_wholes [some (.tup (kl.map .int)), some (.int 6), none] μ = .nx [some (.tup (kl.map .int)), some (.int 6), none] μ := by
    simp (maxSteps := 1000000) [seqS, asgS, bindD, eS, retS, retN, ifS, trD, truth, raiseS, nxS, dropS, varD, conD, bin2, opt, R.bind, consD, nilD, tupD, lstD, calD, callD, notD, andD, orD, iteD, negD, subG, modG, mulG, fdivG, addAll, addI, addT, addP, addL, ltG, leG, gtG, geG, cmpG, eqG, neG, blO, isG, isnG, isN, ixG, ixSeq, ixTxt, asS, asL, cellL, atI, ixN, par2S, thawS, thawK, setS, setK, isTyD, kdOf, Tyb.has, eqD_int, eqD_str, stoB_cons, stoB_nil, nc, ncs, cb, cbs, isL, absG, maxG, minG, intG, lenG, lenO, listG, tupG, Option.orElse, setAll, sizeLine_eq, powG, u_s0__law_wholes, hl]
  have s1 : s1__law_wholes [some (.tup (kl.map .int)), some (.int 6), none] μ = .rt (.bl true) false μ := by
    simp (maxSteps := 1000000) [seqS, asgS, bindD, eS, retS, retN, ifS, trD, truth, raiseS, nxS, dropS, varD, conD, bin2, opt, R.bind, consD, nilD, tupD, lstD, calD, callD, notD, andD, orD, iteD, negD, subG, modG, mulG, fdivG, addAll, addI, addT, addP, addL, ltG, leG, gtG, geG, cmpG, eqG, neG, blO, isG, isnG, isN, ixG, ixSeq, ixTxt, asS, asL, cellL, atI, ixN, par2S, thawS, thawK, setS, setK, isTyD, kdOf, Tyb.has, eqD_int, eqD_str, stoB_cons, stoB_nil, nc, ncs, cb, cbs, isL, absG, maxG, minG, intG, lenG, lenO, listG, tupG, Option.orElse, setAll, sizeLine_eq, powG, u_s1__law_wholes, ↓comp]
  have fin : db__law_wholes [some (.tup (kl.map .int)), some (.int 6), none] μ = .rt (.bl true) false μ := by
    rw [uv__law_wholes, u_r0__law_wholes, seq_nx s0, u_r1__law_wholes, seq_rt s1]
  simp (maxSteps := 1000000) [seqS, asgS, bindD, eS, retS, retN, ifS, trD, truth, raiseS, nxS, dropS, varD, conD, bin2, opt, R.bind, consD, nilD, tupD, lstD, calD, callD, notD, andD, orD, iteD, negD, subG, modG, mulG, fdivG, addAll, addI, addT, addP, addL, ltG, leG, gtG, geG, cmpG, eqG, neG, blO, isG, isnG, isN, ixG, ixSeq, ixTxt, asS, asL, cellL, atI, ixN, par2S, thawS, thawK, setS, setK, isTyD, kdOf, Tyb.has, eqD_int, eqD_str, stoB_cons, stoB_nil, nc, ncs, cb, cbs, isL, absG, maxG, minG, intG, lenG, lenO, listG, tupG, Option.orElse, setAll, sizeLine_eq, powG, ud__law_wholes, funD, finD, fin, h1]
end K60

namespace K60
open PySem PySem.Spec L2 RS
def LInv (_ : Nat) (env : Vs) (μ : Sto) : Prop := ∃ (x0 o2 o3 o4 o5 o6 o7 o8 : Option D) (a b : Int), env = [x0, some (.cell 0), o2, o3, o4, o5, o6, o7, o8] ∧ μ = [Pu a b]
theorem outer_ok (a b t : Int) (x0 o3 o4 o5 o6 o7 o8 : Option D) : ∃ e2 μ2, lb0_law [x0, some (.cell 0), some (.int t), o3, o4, o5, o6, o7, o8] [Pu a b] = .nx e2 μ2 ∧ stoB 1 (μ2.take 1) = true ∧ LInv 0 (limE 1 e2) (μ2.take 1) := by
  have l1 : ∀ a b, Ls [Pu a b] := fun a b => Ls.cons Ls.nil
  obtain ⟨p, q, a1, b1, e1, gp⟩ := fraction_ok a b [] Ls.nil
  obtain ⟨c, d, a2, b2, e2, gc⟩ := fraction_ok a1 b1 [] Ls.nil
  obtain ⟨e, f, a3, b3, e3, ge, e0⟩ := square_ok a2 b2 [] Ls.nil
  have gp := gp.mono (show 50 ≤ 100 by omega)
  have gc := gc.mono (show 50 ≤ 100 by omega)
  obtain ⟨H, hH⟩ : ∃ H : List D, H = [.tup [.int p, .int q], .tup [.int c, .int d], .tup [.int e, .int f]] := ⟨_, rfl⟩
  obtain ⟨kl, hkl⟩ : ∃ kl, kl = keptL (dueV p q c d e f) := ⟨_, rfl⟩
  have hcc : ∀ μ, Ls μ → d_circle_curve [.tup [.int p, .int q], .tup [.int c, .int d], .tup [.int e, .int f]] μ = .ok (.tup (kl.map .int)) μ := fun μ h => by
    rw [hkl]; exact ccurve gp gc ge e0 μ h
  have hd : ∀ μ, Ls μ → d__law_due [.tup [.int p, .int q], .tup [.int c, .int d], .tup [.int e, .int f]] μ = .ok (.tup (kl.map .int)) μ := fun μ h => by
    rw [hkl]; exact due_ok gp gc ge μ h
  have k6 : kl.length = 6 := by rw [hkl]; rfl
  have eqk : ∀ μ, eqD μ (.tup (kl.map .int)) (.tup (kl.map .int)) = some true := fun μ => by rw [eqD_tup]; simp
  clear hkl
  have ncH : cbs 0 H = true := by rw [hH]; rfl
  have s0 : s0_law_b0 [x0, some (.cell 0), some (.int t), o3, o4, o5, o6, o7, o8] [Pu a b] = .nx [x0, some (.cell 0), some (.int t), some (.lst H), o4, o5, o6, o7, o8] [Pu a3 b3] := by
    simp (maxSteps := 1000000) [seqS, asgS, bindD, eS, retS, retN, ifS, trD, truth, raiseS, nxS, dropS, varD, conD, bin2, opt, R.bind, consD, nilD, tupD, lstD, calD, callD, notD, andD, orD, iteD, negD, subG, modG, mulG, fdivG, addAll, addI, addT, addP, addL, ltG, leG, gtG, geG, cmpG, eqG, neG, blO, isG, isnG, isN, ixG, ixSeq, ixTxt, asS, asL, cellL, atI, ixN, par2S, thawS, thawK, setS, setK, isTyD, kdOf, Tyb.has, eqD_int, eqD_str, stoB_cons, stoB_nil, nc, ncs, cb, cbs, isL, absG, maxG, minG, intG, lenG, lenO, listG, tupG, Option.orElse, setAll, sizeLine_eq, powG, u_s0_law_b0, e1, e2, e3, hH]
  have s1 : s1_law_b0 [x0, some (.cell 0), some (.int t), some (.lst H), o4, o5, o6, o7, o8] [Pu a3 b3] = .nx [x0, some (.cell 0), some (.int t), some (.lst H), some (.tup (kl.map .int)), o5, o6, o7, o8] [Pu a3 b3] := by
    simp (maxSteps := 1000000) [seqS, asgS, bindD, eS, retS, retN, ifS, trD, truth, raiseS, nxS, dropS, varD, conD, bin2, opt, R.bind, consD, nilD, tupD, lstD, calD, callD, notD, andD, orD, iteD, negD, subG, modG, mulG, fdivG, addAll, addI, addT, addP, addL, ltG, leG, gtG, geG, cmpG, eqG, neG, blO, isG, isnG, isN, ixG, ixSeq, ixTxt, asS, asL, cellL, atI, ixN, par2S, thawS, thawK, setS, setK, isTyD, kdOf, Tyb.has, eqD_int, eqD_str, stoB_cons, stoB_nil, nc, ncs, cb, cbs, isL, absG, maxG, minG, intG, lenG, lenO, listG, tupG, Option.orElse, setAll, sizeLine_eq, powG, u_s1_law_b0, hd _ (l1 _ _), hH]
  have s2 : s2_law_b0 [x0, some (.cell 0), some (.int t), some (.lst H), some (.tup (kl.map .int)), o5, o6, o7, o8] [Pu a3 b3] = .nx [x0, some (.cell 0), some (.int t), some (.lst H), some (.tup (kl.map .int)), some (.tup (kl.map .int)), o6, o7, o8] [Pu a3 b3] := by
    simp (maxSteps := 1000000) [seqS, asgS, bindD, eS, retS, retN, ifS, trD, truth, raiseS, nxS, dropS, varD, conD, bin2, opt, R.bind, consD, nilD, tupD, lstD, calD, callD, notD, andD, orD, iteD, negD, subG, modG, mulG, fdivG, addAll, addI, addT, addP, addL, ltG, leG, gtG, geG, cmpG, eqG, neG, blO, isG, isnG, isN, ixG, ixSeq, ixTxt, asS, asL, cellL, atI, ixN, par2S, thawS, thawK, setS, setK, isTyD, kdOf, Tyb.has, eqD_int, eqD_str, stoB_cons, stoB_nil, nc, ncs, cb, cbs, isL, absG, maxG, minG, intG, lenG, lenO, listG, tupG, Option.orElse, setAll, sizeLine_eq, powG, u_s2_law_b0, hcc _ (l1 _ _), hH]
  have s3 : s3_law_b0 [x0, some (.cell 0), some (.int t), some (.lst H), some (.tup (kl.map .int)), some (.tup (kl.map .int)), o6, o7, o8] [Pu a3 b3] = .nx [x0, some (.cell 0), some (.int t), some (.lst H), some (.tup (kl.map .int)), some (.tup (kl.map .int)), o6, o7, o8] [Pu a3 b3] := by
    simp (maxSteps := 1000000) [seqS, asgS, bindD, eS, retS, retN, ifS, trD, truth, raiseS, nxS, dropS, varD, conD, bin2, opt, R.bind, consD, nilD, tupD, lstD, calD, callD, notD, andD, orD, iteD, negD, subG, modG, mulG, fdivG, addAll, addI, addT, addP, addL, ltG, leG, gtG, geG, cmpG, eqG, neG, blO, isG, isnG, isN, ixG, ixSeq, ixTxt, asS, asL, cellL, atI, ixN, par2S, thawS, thawK, setS, setK, isTyD, kdOf, Tyb.has, eqD_int, eqD_str, stoB_cons, stoB_nil, nc, ncs, cb, cbs, isL, absG, maxG, minG, intG, lenG, lenO, listG, tupG, Option.orElse, setAll, sizeLine_eq, powG, u_s3_law_b0, wholes_ok kl k6 _ (l1 _ _), ↓eqk]
  obtain ⟨r, a4, b4, r0, r1, e4⟩ := draw_ok a3 b3 3 [] (by decide) (by decide) Ls.nil
  have s4 : s4_law_b0 [x0, some (.cell 0), some (.int t), some (.lst H), some (.tup (kl.map .int)), some (.tup (kl.map .int)), o6, o7, o8] [Pu a3 b3] = .nx [x0, some (.cell 0), some (.int t), some (.lst H), some (.tup (kl.map .int)), some (.tup (kl.map .int)), some (.int r), o7, o8] [Pu a4 b4] := by
    simp (maxSteps := 1000000) [seqS, asgS, bindD, eS, retS, retN, ifS, trD, truth, raiseS, nxS, dropS, varD, conD, bin2, opt, R.bind, consD, nilD, tupD, lstD, calD, callD, notD, andD, orD, iteD, negD, subG, modG, mulG, fdivG, addAll, addI, addT, addP, addL, ltG, leG, gtG, geG, cmpG, eqG, neG, blO, isG, isnG, isN, ixG, ixSeq, ixTxt, asS, asL, cellL, atI, ixN, par2S, thawS, thawK, setS, setK, isTyD, kdOf, Tyb.has, eqD_int, eqD_str, stoB_cons, stoB_nil, nc, ncs, cb, cbs, isL, absG, maxG, minG, intG, lenG, lenO, listG, tupG, Option.orElse, setAll, sizeLine_eq, powG, u_s4_law_b0, e4]
  have s5 : s5_law_b0 [x0, some (.cell 0), some (.int t), some (.lst H), some (.tup (kl.map .int)), some (.tup (kl.map .int)), some (.int r), o7, o8] [Pu a4 b4] = .nx [x0, some (.cell 0), some (.int t), some (.lst H), some (.tup (kl.map .int)), some (.tup (kl.map .int)), some (.int r), some (.cell 1), o8] [Pu a4 b4, .lst H] := by
    simp (maxSteps := 1000000) [seqS, asgS, bindD, eS, retS, retN, ifS, trD, truth, raiseS, nxS, dropS, varD, conD, bin2, opt, R.bind, consD, nilD, tupD, lstD, calD, callD, notD, andD, orD, iteD, negD, subG, modG, mulG, fdivG, addAll, addI, addT, addP, addL, ltG, leG, gtG, geG, cmpG, eqG, neG, blO, isG, isnG, isN, ixG, ixSeq, ixTxt, asS, asL, cellL, atI, ixN, par2S, thawS, thawK, setS, setK, isTyD, kdOf, Tyb.has, eqD_int, eqD_str, stoB_cons, stoB_nil, nc, ncs, cb, cbs, isL, absG, maxG, minG, intG, lenG, lenO, listG, tupG, Option.orElse, setAll, sizeLine_eq, powG, u_s5_law_b0, ncH]
  have lH : Ls [.lst H] := Ls.cons Ls.nil
  obtain ⟨z1, z2, z3, a5, b5, o1, o2, q3, s6, st1, st2, st3, hn⟩ : ∃ z1 z2 z3 a5 b5 o1 o2 q3, s6_law_b0 [x0, some (.cell 0), some (.int t), some (.lst H), some (.tup (kl.map .int)), some (.tup (kl.map .int)), some (.int r), some (.cell 1), o8] [Pu a4 b4, .lst H] = .nx [x0, some (.cell 0), some (.int t), some (.lst H), some (.tup (kl.map .int)), some (.tup (kl.map .int)), some (.int r), some (.cell 1), o8] [Pu a5 b5, .lst [z1, z2, z3]] ∧ Stt z1 o1 ∧ Stt z2 o2 ∧ Stt z3 q3 ∧ (o1 = none ∨ o2 = none ∨ q3 = none) := by
    rcases (show r = 0 ∨ r = 1 ∨ r = 2 by omega) with rfl | rfl | rfl
    · obtain ⟨dd, a5, b5, e5, hsp, hnc⟩ := spoilt_ok a4 b4 [.lst H] lH p q gp.xa
      refine ⟨dd, .tup [.int c, .int d], .tup [.int e, .int f], a5, b5, none, _, _, ?_, hsp.st, gc.st, ge.st, .inl rfl⟩
      subst hH
      simp (maxSteps := 1000000) [seqS, asgS, bindD, eS, retS, retN, ifS, trD, truth, raiseS, nxS, dropS, varD, conD, bin2, opt, R.bind, consD, nilD, tupD, lstD, calD, callD, notD, andD, orD, iteD, negD, subG, modG, mulG, fdivG, addAll, addI, addT, addP, addL, ltG, leG, gtG, geG, cmpG, eqG, neG, blO, isG, isnG, isN, ixG, ixSeq, ixTxt, asS, asL, cellL, atI, ixN, par2S, thawS, thawK, setS, setK, isTyD, kdOf, Tyb.has, eqD_int, eqD_str, stoB_cons, stoB_nil, nc, ncs, cb, cbs, isL, absG, maxG, minG, intG, lenG, lenO, listG, tupG, Option.orElse, setAll, sizeLine_eq, powG, u_s6_law_b0, e5, show cb 0 dd = true from hnc]
    · obtain ⟨dd, a5, b5, e5, hsp, hnc⟩ := spoilt_ok a4 b4 [.lst H] lH c d gc.xa
      refine ⟨.tup [.int p, .int q], dd, .tup [.int e, .int f], a5, b5, _, none, _, ?_, gp.st, hsp.st, ge.st, .inr (.inl rfl)⟩
      subst hH
      simp (maxSteps := 1000000) [seqS, asgS, bindD, eS, retS, retN, ifS, trD, truth, raiseS, nxS, dropS, varD, conD, bin2, opt, R.bind, consD, nilD, tupD, lstD, calD, callD, notD, andD, orD, iteD, negD, subG, modG, mulG, fdivG, addAll, addI, addT, addP, addL, ltG, leG, gtG, geG, cmpG, eqG, neG, blO, isG, isnG, isN, ixG, ixSeq, ixTxt, asS, asL, cellL, atI, ixN, par2S, thawS, thawK, setS, setK, isTyD, kdOf, Tyb.has, eqD_int, eqD_str, stoB_cons, stoB_nil, nc, ncs, cb, cbs, isL, absG, maxG, minG, intG, lenG, lenO, listG, tupG, Option.orElse, setAll, sizeLine_eq, powG, u_s6_law_b0, e5, show cb 0 dd = true from hnc]
    · obtain ⟨dd, a5, b5, e5, hsp, hnc⟩ := spoilt_ok a4 b4 [.lst H] lH e f ge.xa
      refine ⟨.tup [.int p, .int q], .tup [.int c, .int d], dd, a5, b5, _, _, none, ?_, gp.st, gc.st, hsp.st, .inr (.inr rfl)⟩
      subst hH
      simp (maxSteps := 1000000) [seqS, asgS, bindD, eS, retS, retN, ifS, trD, truth, raiseS, nxS, dropS, varD, conD, bin2, opt, R.bind, consD, nilD, tupD, lstD, calD, callD, notD, andD, orD, iteD, negD, subG, modG, mulG, fdivG, addAll, addI, addT, addP, addL, ltG, leG, gtG, geG, cmpG, eqG, neG, blO, isG, isnG, isN, ixG, ixSeq, ixTxt, asS, asL, cellL, atI, ixN, par2S, thawS, thawK, setS, setK, isTyD, kdOf, Tyb.has, eqD_int, eqD_str, stoB_cons, stoB_nil, nc, ncs, cb, cbs, isL, absG, maxG, minG, intG, lenG, lenO, listG, tupG, Option.orElse, setAll, sizeLine_eq, powG, u_s6_law_b0, e5, show cb 0 dd = true from hnc]
  have lZ : ∀ a b, Ls [Pu a b, .lst [z1, z2, z3]] := fun a b => Ls.cons (Ls.cons Ls.nil)
  have eC : ∀ μ, eqD μ (.str "circle") (.str "circle") = some true := fun μ => by rw [eqD_str (by decide +kernel) (by decide +kernel)]; simp
  have hn4 : o1 = none ∨ o2 = none ∨ q3 = none ∨ ∃ n, q3 = some n ∧ n < 1 := hn.elim .inl fun h => h.elim (fun h => .inr (.inl h)) fun h => .inr (.inr (.inl h))
  have f1 := refused_ok _ (lZ a5 b5) (cc_bad st1 st2 st3 hn4 _ (lZ a5 b5))
  have s7 : s7_law_b0 [x0, some (.cell 0), some (.int t), some (.lst H), some (.tup (kl.map .int)), some (.tup (kl.map .int)), some (.int r), some (.cell 1), o8] [Pu a5 b5, .lst [z1, z2, z3]] = .nx [x0, some (.cell 0), some (.int t), some (.lst H), some (.tup (kl.map .int)), some (.tup (kl.map .int)), some (.int r), some (.cell 1), o8] [Pu a5 b5, .lst [z1, z2, z3]] := by
    simp (maxSteps := 1000000) [seqS, asgS, bindD, eS, retS, retN, ifS, trD, truth, raiseS, nxS, dropS, varD, conD, bin2, opt, R.bind, consD, nilD, tupD, lstD, calD, callD, notD, andD, orD, iteD, negD, subG, modG, mulG, fdivG, addAll, addI, addT, addP, addL, ltG, leG, gtG, geG, cmpG, eqG, neG, blO, isG, isnG, isN, ixG, ixSeq, ixTxt, asS, asL, cellL, atI, ixN, par2S, thawS, thawK, setS, setK, isTyD, kdOf, Tyb.has, eqD_int, eqD_str, stoB_cons, stoB_nil, nc, ncs, cb, cbs, isL, absG, maxG, minG, intG, lenG, lenO, listG, tupG, Option.orElse, setAll, sizeLine_eq, powG, u_s7_law_b0, f1, ↓eC]
  obtain ⟨u, a6, b6, u0, u1, e6⟩ := draw_ok a5 b5 3 [.lst [z1, z2, z3]] (by decide) (by decide) (Ls.cons Ls.nil)
  have s8 : s8_law_b0 [x0, some (.cell 0), some (.int t), some (.lst H), some (.tup (kl.map .int)), some (.tup (kl.map .int)), some (.int r), some (.cell 1), o8] [Pu a5 b5, .lst [z1, z2, z3]] = .nx [x0, some (.cell 0), some (.int t), some (.lst H), some (.tup (kl.map .int)), some (.tup (kl.map .int)), some (.int r), some (.cell 1), some (.tup [.int (0 - u), .int 1])] [Pu a6 b6, .lst [z1, z2, z3]] := by
    simp (maxSteps := 1000000) [seqS, asgS, bindD, eS, retS, retN, ifS, trD, truth, raiseS, nxS, dropS, varD, conD, bin2, opt, R.bind, consD, nilD, tupD, lstD, calD, callD, notD, andD, orD, iteD, negD, subG, modG, mulG, fdivG, addAll, addI, addT, addP, addL, ltG, leG, gtG, geG, cmpG, eqG, neG, blO, isG, isnG, isN, ixG, ixSeq, ixTxt, asS, asL, cellL, atI, ixN, par2S, thawS, thawK, setS, setK, isTyD, kdOf, Tyb.has, eqD_int, eqD_str, stoB_cons, stoB_nil, nc, ncs, cb, cbs, isL, absG, maxG, minG, intG, lenG, lenO, listG, tupG, Option.orElse, setAll, sizeLine_eq, powG, u_s8_law_b0, e6]
  have lowst := one_st (0 - u)
  have f2 := refused_ok _ (lZ a6 b6) (cc_bad gp.st gc.st lowst (.inr (.inr (.inr ⟨_, rfl, by omega⟩))) _ (lZ a6 b6))
  have f3 := refused_ok _ (lZ a6 b6) (cc_bad st1 st2 lowst (.inr (.inr (.inr ⟨_, rfl, by omega⟩))) _ (lZ a6 b6))
  have s9 : s9_law_b0 [x0, some (.cell 0), some (.int t), some (.lst H), some (.tup (kl.map .int)), some (.tup (kl.map .int)), some (.int r), some (.cell 1), some (.tup [.int (0 - u), .int 1])] [Pu a6 b6, .lst [z1, z2, z3]] = .nx [x0, some (.cell 0), some (.int t), some (.lst H), some (.tup (kl.map .int)), some (.tup (kl.map .int)), some (.int r), some (.cell 1), some (.tup [.int (0 - u), .int 1])] [Pu a6 b6, .lst [z1, z2, z3]] := by
    subst hH
    obtain ⟨w, hw⟩ : ∃ w, w = 0 - u := ⟨_, rfl⟩
    rw [← hw] at f2 f3 ⊢
    simp (maxSteps := 1000000) [seqS, asgS, bindD, eS, retS, retN, ifS, trD, truth, raiseS, nxS, dropS, varD, conD, bin2, opt, R.bind, consD, nilD, tupD, lstD, calD, callD, notD, andD, orD, iteD, negD, subG, modG, mulG, fdivG, addAll, addI, addT, addP, addL, ltG, leG, gtG, geG, cmpG, eqG, neG, blO, isG, isnG, isN, ixG, ixSeq, ixTxt, asS, asL, cellL, atI, ixN, par2S, thawS, thawK, setS, setK, isTyD, kdOf, Tyb.has, eqD_int, eqD_str, stoB_cons, stoB_nil, nc, ncs, cb, cbs, isL, absG, maxG, minG, intG, lenG, lenO, listG, tupG, Option.orElse, setAll, sizeLine_eq, powG, u_s9_law_b0, f2, f3, ↓eC]
  have s10 : s10_law_b0 [x0, some (.cell 0), some (.int t), some (.lst H), some (.tup (kl.map .int)), some (.tup (kl.map .int)), some (.int r), some (.cell 1), some (.tup [.int (0 - u), .int 1])] [Pu a6 b6, .lst [z1, z2, z3]] = .nx [x0, some (.cell 0), some (.int t), some (.lst H), some (.tup (kl.map .int)), some (.tup (kl.map .int)), some (.int r), some (.cell 1), some (.tup [.int (0 - u), .int 1])] [Pu a6 b6, .lst [z1, z2, z3]] := by
    subst hH
    obtain ⟨w, hw⟩ : ∃ w, w = 0 - u := ⟨_, rfl⟩
    rw [← hw]
    simp (maxSteps := 1000000) [seqS, asgS, bindD, eS, retS, retN, ifS, trD, truth, raiseS, nxS, dropS, varD, conD, bin2, opt, R.bind, consD, nilD, tupD, lstD, calD, callD, notD, andD, orD, iteD, negD, subG, modG, mulG, fdivG, addAll, addI, addT, addP, addL, ltG, leG, gtG, geG, cmpG, eqG, neG, blO, isG, isnG, isN, ixG, ixSeq, ixTxt, asS, asL, cellL, atI, ixN, par2S, thawS, thawK, setS, setK, isTyD, kdOf, Tyb.has, eqD_int, eqD_str, stoB_cons, stoB_nil, nc, ncs, cb, cbs, isL, absG, maxG, minG, intG, lenG, lenO, listG, tupG, Option.orElse, setAll, sizeLine_eq, powG, u_s10_law_b0, hcc _ (lZ a6 b6), ↓eqk]
  refine ⟨_, _, by rw [v_lb0_law, u_r0_law_b0, seq_nx s0, u_r1_law_b0, seq_nx s1, u_r2_law_b0, seq_nx s2, u_r3_law_b0, seq_nx s3, u_r4_law_b0, seq_nx s4, u_r5_law_b0, seq_nx s5, u_r6_law_b0, seq_nx s6, u_r7_law_b0, seq_nx s7, u_r8_law_b0, seq_nx s8, u_r9_law_b0, seq_nx s9, u_r10_law_b0, seq_nx s10]; rfl, rfl, ?_⟩
  refine ⟨lim1 1 x0, lim1 1 (some (.int t)), lim1 1 (some (.lst H)), lim1 1 (some (.tup (kl.map .int))), lim1 1 (some (.tup (kl.map .int))), lim1 1 (some (.int r)), lim1 1 (some (.cell 1)), lim1 1 (some (.tup [.int (0 - u), .int 1])), a6, b6, rfl, rfl⟩
theorem law_ok (ns : List Int) (hn : ns.length ≤ 63) : ∃ μ, d_law [.lst (ns.map .int)] [] = .ok (.bl true) μ := by
  obtain ⟨a, b, e0⟩ := purse_ok ns hn
  obtain ⟨r, a1, b1, r0, r1, e1⟩ := draw_ok a b 12 [] (by decide) (by decide) Ls.nil
  have s0 : s0_law [some (.lst (ns.map .int)), none, none, none, none, none, none, none, none] [] = .nx [some (.lst (ns.map .int)), some (.cell 0), none, none, none, none, none, none, none] [Pu a b] := by
    simp (maxSteps := 1000000) [seqS, asgS, bindD, eS, retS, retN, ifS, trD, truth, raiseS, nxS, dropS, varD, conD, bin2, opt, R.bind, consD, nilD, tupD, lstD, calD, callD, notD, andD, orD, iteD, negD, subG, modG, mulG, fdivG, addAll, addI, addT, addP, addL, ltG, leG, gtG, geG, cmpG, eqG, neG, blO, isG, isnG, isN, ixG, ixSeq, ixTxt, asS, asL, cellL, atI, ixN, par2S, thawS, thawK, setS, setK, isTyD, kdOf, Tyb.has, eqD_int, eqD_str, stoB_cons, stoB_nil, nc, ncs, cb, cbs, isL, absG, maxG, minG, intG, lenG, lenO, listG, tupG, Option.orElse, setAll, sizeLine_eq, powG, u_s0_law, e0]
  have hstep : ∀ (k : Nat) (x : D) (env : Vs) (μ : Sto), (rngL 0 (1 + r).toNat)[k]? = some x → LInv (0 + k) env μ → ∃ e1 e2 μ2, bindD μ (.one 2) x env = some e1 ∧ lb0_law e1 μ = .nx e2 μ2 ∧ (fun _ => true) (μ2.take 1) = true ∧ stoB 1 (μ2.take 1) = true ∧ LInv (0 + k + 1) (limE 1 e2) (μ2.take 1) := by
    intro k x env μ hk hi
    obtain ⟨x0, o2, o3, o4, o5, o6, o7, o8, a, b, rfl, rfl⟩ := hi
    obtain ⟨hk2, rfl⟩ := rngL_get hk
    obtain ⟨e2, μ2, h1, h2, h3⟩ := outer_ok a b (0 + (k : Int)) x0 o3 o4 o5 o6 o7 o8
    exact ⟨_, e2, μ2, rfl, h1, rfl, h2, h3⟩
  obtain ⟨env', μ', hf, y0, y2, y3, y4, y5, y6, y7, y8, a2, b2, rfl, rfl⟩ := forL_ix (ok := fun _ => true) (n := 1) (tg := .one 2) (body := lb0_law) LInv (rngL 0 (1 + r).toNat) 0 [some (.lst (ns.map .int)), some (.cell 0), none, none, none, none, none, none, none] [Pu a1 b1] ⟨_, _, _, _, _, _, _, _, a1, b1, rfl, rfl⟩ hstep
  have s1 : s1_law [some (.lst (ns.map .int)), some (.cell 0), none, none, none, none, none, none, none] [Pu a b] = .nx [y0, some (.cell 0), y2, y3, y4, y5, y6, y7, y8] [Pu a2 b2] := by
    have q1 : -4611686018427387904 ≤ 1 + r := by omega
    have q2 : 1 + r < 4611686018427387904 := by omega
    simp (maxSteps := 1000000) [seqS, asgS, bindD, eS, retS, retN, ifS, trD, truth, raiseS, nxS, dropS, varD, conD, bin2, opt, R.bind, consD, nilD, tupD, lstD, calD, callD, notD, andD, orD, iteD, negD, subG, modG, mulG, fdivG, addAll, addI, addT, addP, addL, ltG, leG, gtG, geG, cmpG, eqG, neG, blO, isG, isnG, isN, ixG, ixSeq, ixTxt, asS, asL, cellL, atI, ixN, par2S, thawS, thawK, setS, setK, isTyD, kdOf, Tyb.has, eqD_int, eqD_str, stoB_cons, stoB_nil, nc, ncs, cb, cbs, isL, absG, maxG, minG, intG, lenG, lenO, listG, tupG, Option.orElse, setAll, sizeLine_eq, powG, u_s1_law, forS, rng1I, e1, q1, q2]
    exact hf
  have s2 : s2_law [y0, some (.cell 0), y2, y3, y4, y5, y6, y7, y8] [Pu a2 b2] = .rt (.bl true) false [Pu a2 b2] := by
    simp (maxSteps := 1000000) [seqS, asgS, bindD, eS, retS, retN, ifS, trD, truth, raiseS, nxS, dropS, varD, conD, bin2, opt, R.bind, consD, nilD, tupD, lstD, calD, callD, notD, andD, orD, iteD, negD, subG, modG, mulG, fdivG, addAll, addI, addT, addP, addL, ltG, leG, gtG, geG, cmpG, eqG, neG, blO, isG, isnG, isN, ixG, ixSeq, ixTxt, asS, asL, cellL, atI, ixN, par2S, thawS, thawK, setS, setK, isTyD, kdOf, Tyb.has, eqD_int, eqD_str, stoB_cons, stoB_nil, nc, ncs, cb, cbs, isL, absG, maxG, minG, intG, lenG, lenO, listG, tupG, Option.orElse, setAll, sizeLine_eq, powG, u_s2_law]
  have fin : db_law [some (.lst (ns.map .int)), none, none, none, none, none, none, none, none] [] = .rt (.bl true) false [Pu a2 b2] := by
    rw [uv_law, u_r0_law, seq_nx s0, u_r1_law, seq_nx s1, u_r2_law, seq_rt s2]
  exact ⟨[], by simp (maxSteps := 1000000) [seqS, asgS, bindD, eS, retS, retN, ifS, trD, truth, raiseS, nxS, dropS, varD, conD, bin2, opt, R.bind, consD, nilD, tupD, lstD, calD, callD, notD, andD, orD, iteD, negD, subG, modG, mulG, fdivG, addAll, addI, addT, addP, addL, ltG, leG, gtG, geG, cmpG, eqG, neG, blO, isG, isnG, isN, ixG, ixSeq, ixTxt, asS, asL, cellL, atI, ixN, par2S, thawS, thawK, setS, setK, isTyD, kdOf, Tyb.has, eqD_int, eqD_str, stoB_cons, stoB_nil, nc, ncs, cb, cbs, isL, absG, maxG, minG, intG, lenG, lenO, listG, tupG, Option.orElse, setAll, sizeLine_eq, powG, ud_law, funD, finD, fin]⟩
end K60
theorem PySem.Challenge.cw_roundsides_k60_circles_as_curves_holds : PySem.Challenge.rw_roundsides_k60_circles_as_curves.Holds :=
  K60.holds_of K60.law_ok
